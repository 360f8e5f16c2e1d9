import PyProof.Rows.All
import Wide.All
import OpenK.AllK
import Wide.FinOn
import HandS.ForMost
import KE.SortData
import HandS.TupMul
import HandS.Flow
import HandS.IsInst
import HandS.TupAny
import HandS.Wide
import HandS.SortInts
import HandS.Exc
import HandS.WordsExc
import HandS.Style
import HandS.More
import HandS.Zip
import HandS.WideMore
import KE.GoesMore
import KE.GoesEnum
import HandS.Comp
import HandS.Conv
import HandS.Star
import HandS.Property
import HandS.Defaults
import HandS.Text
import HandS.Deep
import HandS.ClsMeth
import HandS.HeadHook2
import HandS.Head2
import HandS.HeadEnd
import HandS.HeadNt
import HandS.Codes
import PySem.Challenge.RW_lookscan_k20_clashes_of_tables
set_option Elab.async false
set_option linter.all false
set_option maxRecDepth 100000
set_option maxHeartbeats 0
/-! Rv, part 1: values, code, the evaluator. -/
namespace Rv
open PySem

/-- a value, deep; an instance by its class's name and its fields -/
inductive Val where
  | non | bl (b : Bool) | int (i : Int) | str (x : Str)
  | tup (xs : List Val) | lst (xs : List Val)
  | scr (xs : List Int)
  | ins (c : Str) (ns : List Str) (vs : List Val)
  | glb (x : Str) | typ (n : String)
  deriving Inhabited

/-- values that may be changed in place -/
def Val.mut : Val → Bool
  | .lst _ => true
  | .ins _ _ _ => true
  | _ => false

/-- targets of assignments -/
inductive Tg where
  | nm (i : Nat)
  | tp (ts : List Tg)
  deriving Inhabited

/-- expressions, without places and names -/
inductive Ex where
  | con (v : Val)
  | loc (i : Nat)
  | glo (x : Str)
  | typ (n : String)
  | bop (o : Operator) (a b : Ex)
  | neg (a : Ex)
  | not (a : Ex)
  | and (a b : Ex)
  | or (a b : Ex)
  | cmp (o : CmpOp) (a b : Ex)
  | chn (o p : CmpOp) (a b c : Ex)
  | ite (c a b : Ex)
  | sub (o i : Ex)
  | slc (o : Ex) (l : Bool) (lo : Ex) (h : Bool) (hi : Ex)
  | tup (es : List Ex)
  | lst (es : List Ex)
  | star2 (a b : Ex)
  | callB (f : Str) (es : List Ex)
  | callF (f : Str) (es : List Ex)
  | callC (c : Str) (es : List Ex)
  | callO (o : Ex) (es : List Ex)
  | lm (i : Nat) (m : Str) (es : List Ex)
  | meth (o : Ex) (m : Str) (es : List Ex)
  | attr (o : Ex) (f : Str)
  | prp (o : Ex) (f : Str)
  | comp (elt : Ex) (tg : Tg) (it : Ex) (ifs : List Ex) (own : List Nat)
  | comp2 (elt : Ex) (tg : Tg) (it : Ex) (ifs : List Ex) (tg2 : Tg) (it2 : Ex) (ifs2 : List Ex) (own own2 : List Nat)
  | rng1 (a : Ex)
  | rng2 (a b : Ex)
  | zip2 (a b : Ex)
  | zip3 (a b c : Ex)
  | join (s : Str) (es : List Ex)
  | lix (o : Ex) (es : List Ex)
  | clsm (c m : Str) (es : List Ex)
  | rev (a : Ex)
  | callP (f : Str) (es : List Ex)
  | callK (i : Nat) (c : Str) (es : List Ex)
  | enm (a : Ex)
  | lrg1 (a : Ex)
  | lrg2 (a b : Ex)
  | never
  deriving Inhabited

inductive Sx where
  | expr (e : Ex)
  | asg (t : Tg) (e : Ex)
  | par (i j : Nat) (a b : Ex)
  | par3 (i j l : Nat) (a b c : Ex)
  | setSub (i : Nat) (k e : Ex)
  | setAttr (i : Nat) (f : Str) (e : Ex)
  | aug (i : Nat) (o : Operator) (e : Ex)
  | ret (e : Ex)
  | ite (c : Ex) (a b : List Sx)
  | for (t : Tg) (it : Ex) (body : List Sx)
  | while (c : Ex) (body : List Sx)
  | brk | cont | pass
  | raise (c : Str) (es : List Ex)
  | never
  deriving Inhabited

/-- the names' values; true: the value's own object (a list, an instance) is reached by this name alone -/
abbrev Env := List (Option (Val × Bool))

/-- where a result comes from: it stands for ever; it is new; it is the object of a name -/
inductive Src where
  | fz | fr | var (i : Nat)
  deriving DecidableEq, Inhabited

structure R where
  v : Val
  s : Src

inductive Out (α : Type) where
  | ok (a : α) (ρ : Env)
  | exc (x : Val) (ρ : Env)
  | stuck

namespace Out
variable {α β : Type}
def bind (x : Out α) (f : α → Env → Out β) : Out β :=
  match x with
  | .ok a ρ => f a ρ
  | .exc e ρ => .exc e ρ
  | .stuck => .stuck
@[simp] theorem bind_ok (a : α) (ρ : Env) (f : α → Env → Out β) : (Out.ok a ρ).bind f = f a ρ := rfl
@[simp] theorem bind_exc (e : Val) (ρ : Env) (f : α → Env → Out β) : (Out.exc e ρ).bind f = .exc e ρ := rfl
@[simp] theorem bind_stuck (f : α → Env → Out β) : (Out.stuck : Out α).bind f = .stuck := rfl
/-- an option as an outcome -/
def opt (o : Option α) (ρ : Env) : Out α :=
  match o with
  | some a => .ok a ρ
  | none => .stuck
@[simp] theorem opt_some (a : α) (ρ : Env) : opt (some a) ρ = .ok a ρ := rfl
@[simp] theorem opt_none (ρ : Env) : opt (none : Option α) ρ = .stuck := rfl
/-- exceptions are not let out (in a comprehension) -/
def shut (x : Out α) : Out α :=
  match x with
  | .exc _ _ => .stuck
  | y => y
@[simp] theorem shut_ok (a : α) (ρ : Env) : (Out.ok a ρ).shut = .ok a ρ := rfl
@[simp] theorem shut_exc (e : Val) (ρ : Env) : (Out.exc e ρ : Out α).shut = .stuck := rfl
@[simp] theorem shut_stuck : (Out.stuck : Out α).shut = .stuck := rfl
end Out

/-- what a def gives: its value and its changed arguments -/
inductive CRes where
  | ok (v : Val) (fins : List Val)
  | exc (x : Val) (fins : List Val)
  | stuck

/-- a def's form for its callers: which arguments it may change, whether a returned list is new -/
structure FnI where
  modes : List Bool
  fresh : Bool
  dflt : List Val := []
  names : List Str := []

structure Ctx where
  fn : Str → Option FnI
  run : Str → List Val → CRes
  con : Str → Option Val
  /-- the def of a class's method or property; none: no such -/
  meth : Str → Str → Option Str
  prop : Str → Str → Option Str
  clsm : Str → Str → Option Str
  /-- what an exception's class stores of its arguments -/
  errs : Str → Option (List Str)
  /-- a class of the program's own, and a name that its instances may bear (no attribute of the class) -/
  fld : Str → Str → Bool

/-! ### data -/
mutual
def Val.py : Val → Option PyData
  | .non => some .none
  | .bl b => some (.bool b)
  | .int i => some (.int i)
  | .str x => some (.str x)
  | .tup xs => (Val.pys xs).map .tuple
  | .lst xs => (Val.pys xs).map .list
  | _ => none
def Val.pys : List Val → Option (List PyData)
  | [] => some []
  | x :: xs => match Val.py x, Val.pys xs with
    | some d, some ds => some (d :: ds)
    | _, _ => none
end

def big : Nat := 16777216

/-! ### operators, by values -/
def inI62 (i : Int) : Bool := decide (-(2 ^ 62) ≤ i) && decide (i < 2 ^ 62)
def mulOk (i j : Int) : Bool := decide (i.natAbs.log2 + j.natAbs.log2 < 1000000)
def divOk (j : Int) : Bool := decide (0 < j) && decide (j.natAbs.log2 < 9000)
def addV : Val → Val → Option Val
  | .int i, .int j => some (.int (i + j))
  | .tup xs, .tup ys => if xs.length + ys.length ≤ big then some (.tup (xs ++ ys)) else none
  | .lst xs, .lst ys => if xs.length + ys.length ≤ big then some (.lst (xs ++ ys)) else none
  | .str x, .str y => if x.length + y.length ≤ big then some (.str (x ++ y)) else none
  | _, _ => none
def subV : Val → Val → Option Val
  | .int i, .int j => some (.int (i - j))
  | _, _ => none
def mulV : Val → Val → Option Val
  | .int i, .int j => if mulOk i j then some (.int (i * j)) else none
  | .lst xs, .int k => if -(2 ^ 63) ≤ k ∧ k < 2 ^ 63 ∧ xs.length * k.toNat ≤ big then some (.lst (List.replicate k.toNat xs).flatten) else none
  | .tup xs, .int k => if k = 1 then some (.tup xs) else if k = 0 ∧ xs ≠ [] then some (.tup []) else if 2 ≤ k ∧ k ≤ 1000 ∧ xs.length ≤ 1000 ∧ xs ≠ [] then some (.tup (List.replicate k.toNat xs).flatten) else none
  | _, _ => none
def divV : Val → Val → Option Val
  | .int i, .int j => if divOk j then some (.int (i / j)) else none
  | _, _ => none
def modV : Val → Val → Option Val
  | .int i, .int j => if 0 < j then some (.int (i % j)) else none
  | _, _ => none
def powV : Val → Val → Option Val
  | .int i, .int j => if 0 ≤ j ∧ j ≤ 1000000 ∧ i.natAbs < 2 ^ 64 then some (.int (i ^ j.toNat)) else none
  | _, _ => none
def biop : Operator → Val → Val → Option Val
  | .Add => addV
  | .Sub => subV
  | .Mult => mulV
  | .FloorDiv => divV
  | .Mod => modV
  | .Pow => powV
  | _ => fun _ _ => none

/-- the order of tuples and lists of intsOf, texts and tuples of such -/
def lexLt : List Int → List Int → Bool := HT.lexLt
def intsOf : List Val → Option (List Int)
  | [] => some []
  | .int i :: xs => (intsOf xs).map (i :: ·)
  | _ :: _ => none
def eqv (a b : Val) : Option Bool :=
  match a.py, b.py with
  | some d, some e => if (d.canLay0 && e.canLay0 && decide (min d.depth e.depth ≤ 64)) = true then some (PyData.eqv d e) else none
  | _, _ => none
def neV (a b : Val) : Option Bool := (eqv a b).map not
def ltV : Val → Val → Option Bool
  | .int i, .int j => some (decide (i < j))
  | .tup xs, .tup ys => match intsOf xs, intsOf ys with
    | some ns, some ms => some (lexLt ns ms)
    | _, _ => none
  | _, _ => none
def leV : Val → Val → Option Bool
  | .int i, .int j => some (decide (i ≤ j))
  | _, _ => none
def gtV : Val → Val → Option Bool
  | .int i, .int j => some (decide (j < i))
  | _, _ => none
def geV : Val → Val → Option Bool
  | .int i, .int j => some (decide (j ≤ i))
  | _, _ => none
def inL (x : Val) (ys : List Val) : Option Bool :=
  match x.py, Val.pys ys with
  | some d, some ds => if (d.canLay0 && PyData.canLayAll0 ds && decide (min (PyData.depthAll ds) d.depth ≤ 64)) = true then some (ds.any fun y => PyData.eqv y d) else none
  | _, _ => none
/-- one sign in a text -/
def signIn (x : Val) (z : Str) : Option Bool := match x with
  | .str y => match y.cps.toList with
    | [c] => some (decide (c ∈ z.cps.toList))
    | _ => none
  | _ => none
def inV (x : Val) : Val → Option Bool
  | .tup ys => inL x ys
  | .lst ys => inL x ys
  | .str z => signIn x z
  | _ => none
def nInV (x y : Val) : Option Bool := (inV x y).map not
def isNon : Val → Bool
  | .non => true
  | _ => false
def isV (x : Val) : Val → Option Bool
  | .non => some (isNon x)
  | _ => none
def nIsV (x : Val) : Val → Option Bool
  | .non => some (!isNon x)
  | _ => none
def cmpv : CmpOp → Val → Val → Option Bool
  | .Eq => eqv
  | .NotEq => neV
  | .Lt => ltV
  | .LtE => leV
  | .Gt => gtV
  | .GtE => geV
  | .In => inV
  | .NotIn => nInV
  | .Is => isV
  | .IsNot => nIsV

def truth : Val → Option Bool
  | .bl b => some b
  | .non => some false
  | .int i => some (i != 0)
  | .tup xs => some !xs.isEmpty
  | .lst xs => some !xs.isEmpty
  | _ => none

/-- a place in a list, from the left or the right -/
def atI (xs : List Val) (i : Int) : Option Val := (L2.ixN xs.length i).bind fun j => xs[j]?
def subv : Val → Val → Option Val
  | .tup xs, .int i => atI xs i
  | .lst xs, .int i => atI xs i
  | .str z, .int i => if z.length ≤ big then (L2.atI z.cps.toList i).map fun c => .str ⟨#[c]⟩ else none
  | _, _ => none
/-- a slice's part: written or left out -/
def part : Bool → Val → Option (Option Int)
  | false, _ => some none
  | true, .int i => some (some i)
  | true, _ => none
def cut {α : Type} (xs : List α) (lo hi : Option Int) : List α := (xs.drop (HT.sIx xs.length 0 lo)).take (HT.sIx xs.length xs.length hi - HT.sIx xs.length 0 lo)
def slcv (o : Val) (l h : Option Int) : Option Val :=
  match o with
  | .tup xs => some (.tup (cut xs l h))
  | .lst xs => some (.lst (cut xs l h))
  | .scr ns => some (.lst ((cut ns l h).map .int))
  | _ => none

def revV : Val → Option Val
  | .tup xs => some (.tup xs.reverse)
  | .lst xs => some (.lst xs.reverse)
  | _ => none
/-- isinstance -/
def isiT (n : String) (yes no : List String) : Option Bool := if yes.contains n then some true else if no.contains n then some false else none
def isiv (C : Ctx) (v w : Val) : Option Bool :=
  match w with
  | .typ n => match v with
    | .non => isiT n [] ["int", "bool", "str", "tuple", "list", "dict"]
    | .bl _ => isiT n ["int", "bool"] ["str", "tuple", "list", "dict"]
    | .int _ => isiT n ["int"] ["bool", "str", "tuple", "list", "dict"]
    | .str _ => isiT n ["str"] ["int", "bool", "tuple", "list", "dict"]
    | .tup _ => isiT n ["tuple"] ["int", "bool", "str", "list", "dict"]
    | .lst _ => isiT n ["list"] ["int", "bool", "str", "tuple", "dict"]
    | _ => none
  | _ => none

def allBl : List Val → Option (List Bool)
  | [] => some []
  | .bl b :: xs => (allBl xs).map (b :: ·)
  | _ :: _ => none
def lenV : List Val → Option Val
  | [v] => match v with
    | .tup xs => some (.int xs.length)
    | .lst xs => some (.int xs.length)
    | .str z => if z.length ≤ big then some (.int z.length) else none
    | _ => none
  | _ => none
def isiW (C : Ctx) : List Val → Option Val
  | [v, t] => (isiv C v t).map .bl
  | _ => none
def allV : List Val → Option Val
  | [v] => match v with
    | .lst xs => (allBl xs).map fun bs => .bl (bs.all id)
    | _ => none
  | _ => none
def anyV : List Val → Option Val
  | [v] => match v with
    | .lst xs => (allBl xs).map fun bs => .bl (bs.any id)
    | _ => none
  | _ => none
def sumV : List Val → Option Val
  | [v] => match v with
    | .lst xs => (intsOf xs).map fun ns => .int ns.sum
    | _ => none
  | _ => none
def isTup1 : PyData → Bool
  | .tuple (_ :: _) => true
  | _ => false
def notTup : PyData → Bool
  | .none => false
  | .tuple _ => false
  | _ => true
def sortOk (ds : List PyData) : Bool := (ds.all fun d => ds.all fun e => PySem.W.alike d e) && (ds.all isTup1 || ds.all notTup) && ds.all fun d => decide (d.depth ≤ 64)
/-- sorted data -/
def sortL (xs : List Val) : Option (List Val) :=
  match Val.pys xs with
  | some ds => if sortOk ds = true then some (((xs.zip ds).mergeSort (PySem.W.dataLe false Prod.snd)).map Prod.fst) else none
  | none => none
def sortV : List Val → Option Val
  | [v] => match v with
    | .lst xs => (sortL xs).map .lst
    | .tup xs => (sortL xs).map .lst
    | _ => none
  | _ => none
def tupV : List Val → Option Val
  | [v] => match v with
    | .lst xs => some (.tup xs)
    | .tup xs => some (.tup xs)
    | _ => none
  | _ => none
def lstV : List Val → Option Val
  | [v] => match v with
    | .lst xs => some (.lst xs)
    | .tup xs => some (.lst xs)
    | _ => none
  | _ => none
def intV : List Val → Option Val
  | [v] => match v with
    | .int i => some (.int i)
    | .bl b => some (.int (if b = true then 1 else 0))
    | _ => none
  | _ => none
def absV : List Val → Option Val
  | [v] => match v with
    | .int i => some (.int (if i < 0 then -i else i))
    | _ => none
  | _ => none
def minV : List Val → Option Val
  | [v, w] => match v, w with
    | .int i, .int j => some (.int (if j < i then j else i))
    | _, _ => none
  | _ => none
def maxV : List Val → Option Val
  | [v, w] => match v, w with
    | .int i, .int j => some (.int (if j > i then j else i))
    | _, _ => none
  | _ => none
/-- a built-in by its name; lists that come out are new -/
def biv (C : Ctx) (f : Str) : List Val → Option Val :=
  if f = "len" then lenV
  else if f = "isinstance" then isiW C
  else if f = "all" then allV
  else if f = "any" then anyV
  else if f = "sum" then sumV
  else if f = "sorted" then sortV
  else if f = "tuple" then tupV
  else if f = "list" then lstV
  else if f = "int" then intV
  else if f = "abs" then absV
  else if f = "min" then minV
  else if f = "max" then maxV
  else fun _ => none

/-! ### names -/
def lookS (ρ : Env) (i : Nat) : Option (Val × Bool) := (ρ[i]?).join
def rd (ρ : Env) (r : R) : Option Val :=
  match r.s with
  | .var i => (lookS ρ i).map (·.1)
  | _ => some r.v
def rds (ρ : Env) : List R → Option (List Val)
  | [] => some []
  | r :: rs => match rd ρ r, rds ρ rs with
    | some v, some vs => some (v :: vs)
    | _, _ => none
/-- a result that is kept: its object is changed no more -/
def fzR (r : R) (ρ : Env) : Out Val :=
  match r.s with
  | .var i => match lookS ρ i with
    | some (v, _) => .ok v (ρ.set i (some (v, false)))
    | none => .stuck
  | _ => .ok r.v ρ
/-- a value that was just made -/
def mk (v : Val) : R := ⟨v, if v.mut then .fr else .fz⟩
def new (o : Option Val) (ρ : Env) : Out R := Out.opt (o.map mk) ρ
def ownOf (r : R) : Bool := r.s = .fr && r.v.mut

/-- what a name's store does with a result: a new object is the name's own -/
def keep (r : R) (ρ : Env) : Out (Val × Bool) :=
  match r.s with
  | .fr => .ok (r.v, r.v.mut) ρ
  | .fz => .ok (r.v, false) ρ
  | .var _ => (fzR r ρ).bind fun v ρ => .ok (v, false) ρ

mutual
def asgT : Tg → Val → Bool → Env → Option Env
  | .nm i, v, o, ρ => if i < ρ.length then some (ρ.set i (some (v, o))) else none
  | .tp ts, .tup xs, _, ρ => asgTs ts xs ρ
  | .tp _, _, _, _ => none
def asgTs : List Tg → List Val → Env → Option Env
  | [], [], ρ => some ρ
  | t :: ts, x :: xs, ρ => match asgT t x false ρ with
    | some ρ' => asgTs ts xs ρ'
    | none => none
  | _, _, _ => none
end

/-- a result's truth -/
def tru (r : R) (ρ : Env) : Out Bool :=
  match rd ρ r with
  | some v => Out.opt (truth v) ρ
  | none => .stuck

def itemsV : Val → Option (List Val)
  | .tup xs => some xs
  | .lst xs => some xs
  | .scr ns => some (ns.map .int)
  | .str z => some (z.cps.toList.map fun c => .str ⟨#[c]⟩)
  | _ => none
def seqV : Val → Option (List Val)
  | .str _ => none
  | v => itemsV v
def numI (i n : Nat) (lo : Int) : List Val := match n with
  | 0 => []
  | n + 1 => .int (lo + i) :: numI (i + 1) n lo
def rangeV (lo hi : Val) : Option (List Val) :=
  match lo, hi with
  | .int a, .int b => if inI62 a && inI62 b then some (numI 0 (b - a).toNat a) else none
  | _, _ => none
def rangeL (lo hi : Val) : Option (List Val) :=
  match lo, hi with
  | .int a, .int b => if (inI62 a && inI62 b && decide ((b - a).toNat ≤ big)) = true then some (numI 0 (b - a).toNat a) else none
  | _, _ => none
def enumV : Nat → List Val → List Val
  | _, [] => []
  | n, x :: xs => .tup [.int n, x] :: enumV (n + 1) xs
def zipV : List Val → List Val → List Val
  | x :: xs, y :: ys => .tup [x, y] :: zipV xs ys
  | _, _ => []
def zipW (v w : Val) : Option (List Val) := match itemsV v, itemsV w with
  | some xs, some ys => some (zipV xs ys)
  | _, _ => none
def zipV3 : List Val → List Val → List Val → List Val
  | x :: xs, y :: ys, z :: zs => .tup [x, y, z] :: zipV3 xs ys zs
  | _, _, _ => []
def zipW3 (u v w : Val) : Option (List Val) := match itemsV u, itemsV v, itemsV w with
  | some xs, some ys, some zs => some (zipV3 xs ys zs)
  | _, _, _ => none
def strsOf : List Val → Option (List Str)
  | [] => some []
  | .str x :: xs => (strsOf xs).map (x :: ·)
  | _ :: _ => none
/-- a text's join -/
def joinV (s : Str) : List Val → Option Val
  | [.lst xs] => match strsOf xs with
    | some ys => if (ys.map (·.length)).sum + ys.length * s.length ≤ big then some (.str (PySem.Txt.join s ys)) else none
    | none => none
  | _ => none
/-- the place of a value in a list -/
def lixV (ys : List Val) : List Val → Option Val
  | [w] => match w.py, Val.pys ys with
    | some d, some ds => if (SeqAt.shaped (.list ds) && SeqAt.shaped d) = true then (ds.findIdx? fun y => PyData.eqv y d).map fun (j : Nat) => .int j else none
    | _, _ => none
  | _ => none


/-- a list method of a name's own list -/
def appendM (xs : List Val) : List Val → Option (List Val × Val)
  | [v] => if xs.length < big then some (xs ++ [v], .non) else none
  | _ => none
def insertM (xs : List Val) : List Val → Option (List Val × Val)
  | [.int i, v] => if xs.length < big ∧ 0 ≤ i ∧ i < 2 ^ 63 then some (xs.take i.toNat ++ [v] ++ xs.drop i.toNat, .non) else none
  | _ => none
def extendM (xs : List Val) : List Val → Option (List Val × Val)
  | [.lst ys] => if xs.length + ys.length ≤ big then some (xs ++ ys, .non) else none
  | [.tup ys] => if xs.length + ys.length ≤ big then some (xs ++ ys, .non) else none
  | _ => none
def lmeth (m : Str) : List Val → List Val → Option (List Val × Val) :=
  if m = "append" then appendM
  else if m = "insert" then insertM
  else if m = "extend" then extendM
  else fun _ _ => none

/-- own slots of a comprehension forgotten; afterwards as they were -/
def wipeE (ρ : Env) : List Nat → Env
  | [] => ρ
  | v :: vs => (wipeE ρ vs).set v none
def unwipe (ρ ρ' : Env) : List Nat → Env
  | [] => ρ'
  | v :: vs => (unwipe ρ ρ' vs).set v (ρ[v]?).join

/-- the turns of a comprehension: the items, what there is so far -/
def compLoop (turn : List Val → Val → Env → Out (List Val)) : List Val → List Val → Env → Out (List Val)
  | [], acc, ρ => .ok acc ρ
  | x :: xs, acc, ρ => (turn acc x ρ).bind fun acc ρ => compLoop turn xs acc ρ
def push (acc : List Val) (v : Val) (ρ : Env) : Out (List Val) := if acc.length < big then .ok (acc ++ [v]) ρ else .stuck

/-- the arguments that a def may change go to it and come back -/
def take (ρ : Env) (i : Nat) : Out Val :=
  match lookS ρ i with
  | some (v, true) => if v.mut then .ok v (ρ.set i none) else .stuck
  | _ => .stuck
def giveBack (ρ : Env) : List Nat → List Val → Option Env
  | [], [] => some ρ
  | i :: is, v :: vs => giveBack (ρ.set i (some (v, true))) is vs
  | _, _ => none
def CRes.out (c : CRes) (fresh : Bool) (is : List Nat) (ρ : Env) : Out R :=
  match c with
  | .ok v fins => match giveBack ρ is fins with
    | some ρ' => .ok ⟨v, if fresh && v.mut then .fr else .fz⟩ ρ'
    | none => .stuck
  | .exc x fins => match giveBack ρ is fins with
    | some ρ' => .exc x ρ'
    | none => .stuck
  | .stuck => .stuck

/-- a call's values: what comes first, the arguments, the defaults -/
def callV (C : Ctx) (I : FnI) (f : Str) (self : List Val) (p : List Val × List Nat) (ρ : Env) : Out R :=
  if (self ++ p.1 ++ I.dflt.drop (I.dflt.length + (self ++ p.1).length - I.modes.length)).length = I.modes.length then (C.run f (self ++ p.1 ++ I.dflt.drop (I.dflt.length + (self ++ p.1).length - I.modes.length))).out I.fresh p.2 ρ else .stuck
/-- what is no object -/
def isFlat : Val → Bool
  | .int _ => true
  | .str _ => true
  | .bl _ => true
  | .non => true
  | _ => false
/-- a def that only looks at its arguments and tells no object: they stay as they are -/
def peekV (C : Ctx) (I : FnI) (f : Str) (vs : List Val) (ρ : Env) : Out R :=
  if I.modes.all (!·) = true ∧ vs.length = I.modes.length then (match C.run f vs with
    | .ok v _ => if isFlat v = true then .ok ⟨v, .fz⟩ ρ else .stuck
    | _ => .stuck) else .stuck
def CRes.outM (c : CRes) (is : List Nat) (ρ : Env) : Out R :=
  match c with
  | .ok .non (v :: fins) => match giveBack ρ is fins with
    | some ρ' => .ok ⟨v, .fr⟩ ρ'
    | none => .stuck
  | .exc x (_ :: fins) => match giveBack ρ is fins with
    | some ρ' => .exc x ρ'
    | none => .stuck
  | _ => .stuck
def makeV (C : Ctx) (I : FnI) (c f : Str) (p : List Val × List Nat) (ρ : Env) : Out R :=
  if I.modes.head? = some true ∧ I.fresh = false ∧ (.ins c [] [] :: p.1 ++ I.dflt.drop (I.dflt.length + p.1.length + 1 - I.modes.length)).length = I.modes.length then
    (C.run f (.ins c [] [] :: p.1 ++ I.dflt.drop (I.dflt.length + p.1.length + 1 - I.modes.length))).outM p.2 ρ else .stuck
/-- the method of a value that stands for ever -/
def selfV (C : Ctx) (m : Str) : Val → Option (Str × FnI)
  | .ins c ns _ => if ns.contains m then none else match C.meth c m with
    | some f => match C.fn f with
      | some I => if I.modes.head? = some false then some (f, I) else none
      | none => none
    | none => none
  | _ => none
def propV (C : Ctx) (m : Str) : Val → Option (Str × FnI)
  | .ins c _ _ => match C.prop c m with
    | some f => match C.fn f with
      | some I => if I.modes = [false] then some (f, I) else none
      | none => none
    | none => none
  | _ => none
def lmV (i : Nat) (m : Str) (vs : List Val) (ρ : Env) : Out R :=
  match lookS ρ i with
  | some (.lst xs, true) => match lmeth m xs vs with
    | some (ys, u) => .ok ⟨u, .fz⟩ (ρ.set i (some (.lst ys, true)))
    | none => .stuck
  | _ => .stuck

/-! ### the evaluator -/
mutual
def evE (C : Ctx) : Ex → Env → Out R
  | .con v, ρ => .ok ⟨v, .fz⟩ ρ
  | .loc i, ρ => match lookS ρ i with
    | some (v, o) => .ok ⟨v, if o && v.mut then .var i else .fz⟩ ρ
    | none => .stuck
  | .glo x, ρ => Out.opt ((C.con x).map fun v => ⟨v, .fz⟩) ρ
  | .typ n, ρ => .ok ⟨.typ n, .fz⟩ ρ
  | .bop o a b, ρ => (evE C a ρ).bind fun x ρ => (evE C b ρ).bind fun y ρ => match rd ρ x, rd ρ y with
    | some v, some w => new (biop o v w) ρ
    | _, _ => .stuck
  | .neg a, ρ => (evE C a ρ).bind fun x ρ => match rd ρ x with
    | some (.int i) => .ok ⟨.int (-i), .fz⟩ ρ
    | _ => .stuck
  | .not a, ρ => ((evE C a ρ).bind tru).bind fun b ρ => .ok ⟨.bl (!b), .fz⟩ ρ
  | .and a b, ρ => (evE C a ρ).bind fun x ρ => (tru x ρ).bind fun k ρ => if k then evE C b ρ else .ok x ρ
  | .or a b, ρ => (evE C a ρ).bind fun x ρ => (tru x ρ).bind fun k ρ => if k then .ok x ρ else evE C b ρ
  | .cmp o a b, ρ => (evE C a ρ).bind fun x ρ => (evE C b ρ).bind fun y ρ => match rd ρ x, rd ρ y with
    | some v, some w => Out.opt ((cmpv o v w).map fun b => ⟨.bl b, .fz⟩) ρ
    | _, _ => .stuck
  | .chn o p a b c, ρ => (evE C a ρ).bind fun x ρ => (evE C b ρ).bind fun y ρ => match rd ρ x, rd ρ y with
    | some v, some w => match cmpv o v w with
      | some true => (evE C c ρ).bind fun z ρ => match rd ρ y, rd ρ z with
        | some w, some u => Out.opt ((cmpv p w u).map fun b => ⟨.bl b, .fz⟩) ρ
        | _, _ => .stuck
      | some false => .ok ⟨.bl false, .fz⟩ ρ
      | none => .stuck
    | _, _ => .stuck
  | .ite c a b, ρ => ((evE C c ρ).bind tru).bind fun k ρ => if k then evE C a ρ else evE C b ρ
  | .sub o i, ρ => (evE C o ρ).bind fun x ρ => (evE C i ρ).bind fun y ρ => match rd ρ x, rd ρ y with
    | some v, some w => Out.opt ((subv v w).map fun u => ⟨u, .fz⟩) ρ
    | _, _ => .stuck
  | .slc o l lo h hi, ρ => (evE C o ρ).bind fun x ρ => (evE C lo ρ).bind fun y ρ => match (rd ρ y).bind (part l) with
    | some p => (evE C hi ρ).bind fun z ρ => match (rd ρ z).bind (part h) with
      | some q => match rd ρ x with
        | some v => new (slcv v p q) ρ
        | none => .stuck
      | none => .stuck
    | none => .stuck
  | .tup es, ρ => (fzEs C es ρ).bind fun vs ρ => if vs.length ≤ big then .ok ⟨.tup vs, .fz⟩ ρ else .stuck
  | .lst es, ρ => (fzEs C es ρ).bind fun vs ρ => if vs.length ≤ big then .ok ⟨.lst vs, .fr⟩ ρ else .stuck
  | .star2 a b, ρ => (evE C a ρ).bind fun x ρ => match (rd ρ x).bind itemsV with
    | some vs => (evE C b ρ).bind fun y ρ => match (rd ρ y).bind itemsV with
      | some ws => if vs.length + ws.length ≤ big then .ok ⟨.tup (vs ++ ws), .fz⟩ ρ else .stuck
      | none => .stuck
    | none => .stuck
  | .callB f es, ρ => (evEs C es ρ).bind fun rs ρ => match rds ρ rs with
    | some vs => new (biv C f vs) ρ
    | none => .stuck
  | .callF f es, ρ => match C.fn f with
    | some I => (evArgs C I.modes es ρ).bind fun p ρ => callV C I f [] p ρ
    | none => .stuck
  | .callC c es, ρ => match C.meth c "__init__" with
    | some f => match C.fn f with
      | some I => (evArgs C (I.modes.drop 1) es ρ).bind fun p ρ => makeV C I c f p ρ
      | none => .stuck
    | none => .stuck
  | .callO o es, ρ => ((evE C o ρ).bind fzR).bind fun v ρ => match selfV C "__call__" v with
    | some (f, I) => (evArgs C (I.modes.drop 1) es ρ).bind fun p ρ => callV C I f [v] p ρ
    | none => .stuck
  | .lm i m es, ρ => match lookS ρ i with
    | some (.lst _, true) => (fzEs C es ρ).bind fun vs ρ => lmV i m vs ρ
    | _ => .stuck
  | .meth o m es, ρ => ((evE C o ρ).bind fzR).bind fun v ρ => match selfV C m v with
    | some (f, I) => (evArgs C (I.modes.drop 1) es ρ).bind fun p ρ => callV C I f [v] p ρ
    | none => .stuck
  | .attr o f, ρ => (evE C o ρ).bind fun x ρ => match rd ρ x with
    | some (.ins c ns vs) => if C.fld c f = true then Out.opt ((List.lookup f (ns.zip vs)).map fun v => ⟨v, .fz⟩) ρ else .stuck
    | _ => .stuck
  | .prp o f, ρ => ((evE C o ρ).bind fzR).bind fun v ρ => match propV C f v with
    | some (g, I) => (callV C I g [v] ([], []) ρ).shut
    | none => .stuck
  | .comp elt tg it ifs own, ρ => (((evE C it ρ).bind fzR).bind fun v ρ => Out.opt (itemsV v) ρ).bind fun xs ρ =>
      (compLoop (fun acc x ρ1 => match asgT tg x false (wipeE ρ1 own) with
        | some ρ2 => (evTs C ifs ρ2).bind fun k ρ3 => if k = true then (evE C elt ρ3).bind fun r ρ4 => (fzR r ρ4).bind fun v ρ5 => push acc v (unwipe ρ1 ρ5 own) else .ok acc (unwipe ρ1 ρ3 own)
        | none => .stuck) xs [] ρ).shut.bind fun vs ρ' => .ok ⟨.lst vs, .fr⟩ ρ'
  | .comp2 elt tg it ifs tg2 it2 ifs2 own own2, ρ => (((evE C it ρ).bind fzR).bind fun v ρ => Out.opt (itemsV v) ρ).bind fun xs ρ =>
      (compLoop (fun acc x ρ1 => match asgT tg x false (wipeE ρ1 own) with
        | some ρ2 => (evTs C ifs ρ2).bind fun k ρ3 => if k = true then (((evE C it2 ρ3).bind fzR).bind fun v ρ => Out.opt (itemsV v) ρ).bind fun ys ρ4 =>
            (compLoop (fun acc y ρ5 => match asgT tg2 y false (wipeE ρ5 own2) with
              | some ρ6 => (evTs C ifs2 ρ6).bind fun k ρ7 => if k = true then (evE C elt ρ7).bind fun r ρ8 => (fzR r ρ8).bind fun v ρ9 => push acc v (unwipe ρ5 ρ9 own2) else .ok acc (unwipe ρ5 ρ7 own2)
              | none => .stuck) ys acc ρ4).bind fun acc ρ9 => .ok acc (unwipe ρ1 ρ9 own)
          else .ok acc (unwipe ρ1 ρ3 own)
        | none => .stuck) xs [] ρ).shut.bind fun vs ρ' => .ok ⟨.lst vs, .fr⟩ ρ'
  | .rng1 a, ρ => (evE C a ρ).bind fun x ρ => match rd ρ x with
    | some v => Out.opt ((rangeV (.int 0) v).map fun xs => ⟨.lst xs, .fz⟩) ρ
    | none => .stuck
  | .rng2 a b, ρ => (evE C a ρ).bind fun x ρ => (evE C b ρ).bind fun y ρ => match rd ρ x, rd ρ y with
    | some v, some w => Out.opt ((rangeV v w).map fun xs => ⟨.lst xs, .fz⟩) ρ
    | _, _ => .stuck
  | .zip2 a b, ρ => (evE C a ρ).bind fun x ρ => (fzR x ρ).bind fun v ρ => (evE C b ρ).bind fun y ρ => (fzR y ρ).bind fun w ρ => Out.opt ((zipW v w).map fun xs => ⟨.lst xs, .fz⟩) ρ
  | .zip3 a b c, ρ => (evE C a ρ).bind fun x ρ => (fzR x ρ).bind fun v ρ => (evE C b ρ).bind fun y ρ => (fzR y ρ).bind fun w ρ => (evE C c ρ).bind fun z ρ => (fzR z ρ).bind fun u ρ => Out.opt ((zipW3 v w u).map fun xs => ⟨.lst xs, .fz⟩) ρ
  | .join s es, ρ => (fzEs C es ρ).bind fun vs ρ => Out.opt ((joinV s vs).map fun u => ⟨u, .fz⟩) ρ
  | .lix o es, ρ => (evE C o ρ).bind fun r ρ => (fzR r ρ).bind fun v ρ => match v with
    | .lst ys => (fzEs C es ρ).bind fun ws ρ => Out.opt ((lixV ys ws).map fun u => ⟨u, .fz⟩) ρ
    | _ => .stuck
  | .callP f es, ρ => match C.fn f with
    | some I => (evEs C es ρ).bind fun rs ρ => match rds ρ rs with
      | some vs => peekV C I f vs ρ
      | none => .stuck
    | none => .stuck
  | .rev a, ρ => (evE C a ρ).bind fun x ρ => match rd ρ x with
    | some v => new (revV v) ρ
    | none => .stuck
  | .clsm c m es, ρ => match C.clsm c m with
    | some f => match C.fn f with
      | some I => if I.modes.head? = some false then (evArgs C (I.modes.drop 1) es ρ).bind fun p ρ => callV C I f [.glb c] p ρ else .stuck
      | none => .stuck
    | none => .stuck
  | .callK i c es, ρ => match lookS ρ i with
    | some (.glb d, _) => if d = c then (match C.meth c "__init__" with
      | some f => match C.fn f with
        | some I => (evArgs C (I.modes.drop 1) es ρ).bind fun p ρ => makeV C I c f p ρ
        | none => .stuck
      | none => .stuck) else .stuck
    | _ => .stuck
  | .enm a, ρ => (evE C a ρ).bind fun x ρ => (fzR x ρ).bind fun v ρ => Out.opt ((seqV v).map fun xs => ⟨.lst (enumV 0 xs), .fz⟩) ρ
  | .lrg1 a, ρ => (evE C a ρ).bind fun x ρ => match rd ρ x with
    | some v => Out.opt ((rangeL (.int 0) v).map fun xs => ⟨.lst xs, .fr⟩) ρ
    | none => .stuck
  | .lrg2 a b, ρ => (evE C a ρ).bind fun x ρ => (evE C b ρ).bind fun y ρ => match rd ρ x, rd ρ y with
    | some v, some w => Out.opt ((rangeL v w).map fun xs => ⟨.lst xs, .fr⟩) ρ
    | _, _ => .stuck
  | .never, ρ => .stuck
def evTs (C : Ctx) : List Ex → Env → Out Bool
  | [], ρ => .ok true ρ
  | e :: es, ρ => ((evE C e ρ).bind tru).bind fun k ρ => if k then evTs C es ρ else .ok false ρ
def evEs (C : Ctx) : List Ex → Env → Out (List R)
  | [], ρ => .ok [] ρ
  | e :: es, ρ => (evE C e ρ).bind fun r ρ => (evEs C es ρ).bind fun rs ρ => .ok (r :: rs) ρ
def fzEs (C : Ctx) : List Ex → Env → Out (List Val)
  | [], ρ => .ok [] ρ
  | e :: es, ρ => (evE C e ρ).bind fun r ρ => (fzR r ρ).bind fun v ρ => (fzEs C es ρ).bind fun vs ρ => .ok (v :: vs) ρ
/-- arguments; those that may be changed are names' own objects -/
def evArgs (C : Ctx) : List Bool → List Ex → Env → Out (List Val × List Nat)
  | _, [], ρ => .ok ([], []) ρ
  | m :: ms, e :: es, ρ => if m then match e with
      | .loc i => match lookS ρ i with
        | some _ => (evArgs C ms es ρ).bind fun p ρ => (take ρ i).bind fun v ρ => .ok (v :: p.1, i :: p.2) ρ
        | none => .stuck
      | _ => .stuck
    else (evE C e ρ).bind fun r ρ => (fzR r ρ).bind fun v ρ => (evArgs C ms es ρ).bind fun p ρ => .ok (v :: p.1, p.2) ρ
  | [], _ :: _, _ => .stuck
end

/-- what is walked: its items -/
def evI (C : Ctx) (e : Ex) (ρ : Env) : Out (List Val) := ((evE C e ρ).bind fzR).bind fun v ρ => Out.opt (itemsV v) ρ
/-- a test -/
def evT (C : Ctx) (e : Ex) (ρ : Env) : Out Bool := (evE C e ρ).bind tru

/-! ### statements -/
inductive Fl where
  | nx | bk | ct
  | rt (r : R)

def forLoop (turn : Val → Env → Out Fl) : List Val → Env → Out Fl
  | [], ρ => .ok .nx ρ
  | x :: xs, ρ => (turn x ρ).bind fun f ρ => match f with
    | .nx => forLoop turn xs ρ
    | .ct => forLoop turn xs ρ
    | .bk => .ok .nx ρ
    | .rt r => .ok (.rt r) ρ
def whileLoop (test : Env → Out Bool) (body : Env → Out Fl) : Nat → Env → Out Fl
  | 0, _ => .stuck
  | n + 1, ρ => (test ρ).bind fun k ρ => if k then (body ρ).bind fun f ρ => match f with
    | .nx => whileLoop test body n ρ
    | .ct => whileLoop test body n ρ
    | .bk => .ok .nx ρ
    | .rt r => .ok (.rt r) ρ
    else .ok .nx ρ

def setS (ρ : Env) (i : Nat) (p : Val × Bool) : Out Fl := if i < ρ.length then .ok .nx (ρ.set i (some p)) else .stuck
def augv : Operator → Val → Val → Option Val
  | .Add, .int i, .int j => some (.int (i + j))
  | .Add, .str x, .str y => if x.length + y.length ≤ big then some (.str (x ++ y)) else none
  | .Sub, .int i, .int j => some (.int (i - j))
  | .Mult, .int i, .int j => if mulOk i j then some (.int (i * j)) else none
  | .FloorDiv, .int i, .int j => if divOk j then some (.int (i / j)) else none
  | .Mod, .int i, .int j => if 0 < j then some (.int (i % j)) else none
  | _, _, _ => none
def putF (f : Str) (v : Val) : List Str → List Val → Option (List Str × List Val)
  | [], [] => some ([f], [v])
  | g :: ns, w :: vs => if g = f then some (g :: ns, v :: vs) else (putF f v ns vs).map fun p => (g :: p.1, w :: p.2)
  | _, _ => none

def augS (i : Nat) (o : Operator) (w : Val) (ρ : Env) : Out Fl :=
  match lookS ρ i with
  | some (v, _) => match augv o v w with
    | some u => setS ρ i (u, false)
    | none => .stuck
  | none => .stuck
def setSubV (i : Nat) (w v : Val) (ρ : Env) : Out Fl :=
  match w, lookS ρ i with
  | .int n, some (.lst xs, true) => match L2.ixN xs.length n with
    | some j => .ok .nx (ρ.set i (some (.lst (xs.set j v), true)))
    | none => .stuck
  | _, _ => .stuck
def setAttrV (C : Ctx) (i : Nat) (f : Str) (v : Val) (ρ : Env) : Out Fl :=
  match lookS ρ i with
  | some (.ins c ns vs, true) => match putF f v ns vs with
    | some p => if (C.fld c f && decide (ns.length < 1000)) = true then .ok .nx (ρ.set i (some (.ins c p.1 p.2, true))) else .stuck
    | none => .stuck
  | _ => .stuck

mutual
def evS (C : Ctx) (fuel : Nat) : Sx → Env → Out Fl
  | .expr e, ρ => (evE C e ρ).bind fun _ ρ => .ok .nx ρ
  | .asg (.nm i) e, ρ => (evE C e ρ).bind fun r ρ => (keep r ρ).bind fun p ρ => setS ρ i p
  | .asg (.tp ts) e, ρ => (evE C e ρ).bind fun r ρ => (fzR r ρ).bind fun v ρ => match asgT (.tp ts) v false ρ with
    | some ρ' => .ok .nx ρ'
    | none => .stuck
  | .par i j a b, ρ => (evE C a ρ).bind fun x ρ => (evE C b ρ).bind fun y ρ => (keep x ρ).bind fun p ρ => (keep y ρ).bind fun q ρ =>
      if i < ρ.length ∧ j < ρ.length then .ok .nx ((ρ.set i (some p)).set j (some q)) else .stuck
  | .par3 i j l a b c, ρ => (evE C a ρ).bind fun x ρ => (evE C b ρ).bind fun y ρ => (evE C c ρ).bind fun z ρ => (keep x ρ).bind fun p ρ => (keep y ρ).bind fun q ρ => (keep z ρ).bind fun r ρ =>
      if i < ρ.length ∧ j < ρ.length ∧ l < ρ.length then .ok .nx (((ρ.set i (some p)).set j (some q)).set l (some r)) else .stuck
  | .setSub i k e, ρ => (evE C e ρ).bind fun r ρ => (fzR r ρ).bind fun v ρ => match lookS ρ i with
    | some _ => (evE C k ρ).bind fun y ρ => match rd ρ y with
      | some w => setSubV i w v ρ
      | none => .stuck
    | none => .stuck
  | .setAttr i f e, ρ => (evE C e ρ).bind fun r ρ => (fzR r ρ).bind fun v ρ => setAttrV C i f v ρ
  | .aug i o e, ρ => match lookS ρ i with
    | some _ => (evE C e ρ).bind fun y ρ => match rd ρ y with
      | some w => augS i o w ρ
      | none => .stuck
    | none => .stuck
  | .ret e, ρ => (evE C e ρ).bind fun r ρ => .ok (.rt r) ρ
  | .ite c a b, ρ => (evT C c ρ).bind fun k ρ => if k then evSs C fuel a ρ else evSs C fuel b ρ
  | .for t it body, ρ => (evI C it ρ).bind fun xs ρ => forLoop (fun x ρ => match asgT t x false ρ with
      | some ρ => evSs C fuel body ρ
      | none => .stuck) xs ρ
  | .while c body, ρ => whileLoop (evT C c) (evSs C fuel body) fuel ρ
  | .brk, ρ => .ok .bk ρ
  | .cont, ρ => .ok .ct ρ
  | .pass, ρ => .ok .nx ρ
  | .raise c es, ρ => match C.errs c with
    | some fs => (fzEs C es ρ).bind fun vs ρ => if fs.length = vs.length then .exc (.ins c ("tag" :: fs) (.str c :: vs)) ρ else .stuck
    | none => .stuck
  | .never, ρ => .stuck
def evSs (C : Ctx) (fuel : Nat) : List Sx → Env → Out Fl
  | [], ρ => .ok .nx ρ
  | s :: ss, ρ => (evS C fuel s ρ).bind fun f ρ => match f with
    | .nx => evSs C fuel ss ρ
    | g => .ok g ρ
end

/-! ### defs -/
structure FnCode where
  info : FnI
  nloc : Nat
  body : List Sx

def argEnv (modes : List Bool) (args : List Val) : Env := List.zipWith (fun m v => some (v, m && v.mut)) modes args
def start (modes : List Bool) (args : List Val) (n : Nat) : Env := argEnv modes args ++ List.replicate (n - args.length) none
/-- the changed arguments behind a def -/
def finsOf (ρ : Env) : Nat → List Bool → Option (List Val)
  | _, [] => some []
  | i, true :: ms => match lookS ρ i with
    | some (v, true) => if v.mut = true then (finsOf ρ (i + 1) ms).map (v :: ·) else none
    | _ => none
  | i, false :: ms => finsOf ρ (i + 1) ms
/-- a result that may be handed out as new -/
def okFresh (ρ : Env) (modes : List Bool) (r : R) (v : Val) : Bool :=
  !v.mut || (match r.s with
  | .fz => false
  | .fr => true
  | .var i => !modes.getD i false && (match lookS ρ i with
    | some (_, o) => o
    | none => false))
def retFn (I : FnI) (r : R) (ρ : Env) : CRes :=
  if I.fresh = true then match rd ρ r with
    | some v => if okFresh ρ I.modes r v = true then match finsOf ρ 0 I.modes with
      | some fins => .ok v fins
      | none => .stuck
      else .stuck
    | none => .stuck
  else match fzR r ρ with
    | .ok v ρ => match finsOf ρ 0 I.modes with
      | some fins => .ok v fins
      | none => .stuck
    | _ => .stuck
def outFn (I : FnI) : Out Fl → CRes
  | .ok (.rt r) ρ => retFn I r ρ
  | .ok .nx ρ => match finsOf ρ 0 I.modes with
    | some fins => .ok .non fins
    | none => .stuck
  | .exc x ρ => match finsOf ρ 0 I.modes with
    | some fins => .exc x fins
    | none => .stuck
  | _ => .stuck
def runFn (C : Ctx) (fuel : Nat) (c : FnCode) (args : List Val) : CRes :=
  if args.length = c.info.modes.length then outFn c.info (evSs C fuel c.body (start c.info.modes args c.nloc)) else .stuck

structure Tab where
  code : Str → Option FnCode
  con : Str → Option Val
  meth : Str → Str → Option Str
  prop : Str → Str → Option Str
  clsm : Str → Str → Option Str
  errs : Str → Option (List Str)
  fld : Str → Str → Bool
  fuel : Nat

def Tab.ctx (T : Tab) (run : Str → List Val → CRes) : Ctx :=
  { fn := fun f => (T.code f).map (·.info), run := run, con := T.con, meth := T.meth, prop := T.prop, clsm := T.clsm, errs := T.errs, fld := T.fld }
def callN (T : Tab) : Nat → Str → List Val → CRes
  | 0 => fun _ _ => .stuck
  | n + 1 => fun f args => match T.code f with
    | some c => runFn (T.ctx (callN T n)) T.fuel c args
    | none => .stuck

example (C : Ctx) (v : Val) (ρ : Env) : evE C (.con v) ρ = .ok ⟨v, .fz⟩ ρ := rfl
example (C : Ctx) (a b : Ex) (ρ : Env) : evE C (.and a b) ρ = (evE C a ρ).bind fun x ρ => (tru x ρ).bind fun k ρ => if k then evE C b ρ else .ok x ρ := rfl
example (C : Ctx) (a b : Sx) (ρ : Env) (n : Nat) : evSs C n [a, b] ρ = (evS C n a ρ).bind fun f ρ => match f with
    | .nx => (evS C n b ρ).bind fun f ρ => match f with
      | .nx => .ok .nx ρ
      | g => .ok g ρ
    | g => .ok g ρ := rfl
end Rv

/-! Rv, part 2: what values stand for in the abstract heap; steps of the heap. -/
namespace Rv
open PySem PySem.Spec PyProof.Rows L2

theorem seqT {K : PySem.W.Frag} {H H' : Hp} {a : Addr} {xs : List V} (e : Same H H') (h : SqT K H a xs) : SqT K H' a xs := by
  rcases h with (h | ⟨o, h⟩) | h
  · exact .inl (.inl (e _ _ h))
  · exact .inl (.inr ⟨o, e _ _ h⟩)
  · exact .inr h

section
variable (K : PySem.W.Frag) (mg : Str → Option Value)
mutual
/-- a value that stands for ever, by the part F of the heap -/
inductive RV (F : Hp) : Val → V → Prop where
  | non : RV F .non .non
  | bl (b : Bool) : RV F (.bl b) (.bl b)
  | int (i : Int) : RV F (.int i) (.int i)
  | str (x : Str) : RV F (.str x) (.str x)
  | tup {a : Addr} {Vs : List V} {xs : List Val} : SqT K F a Vs → Vs.length ≤ sizeLine → RVs F xs Vs → RV F (.tup xs) (.ref a)
  | lst {a : Addr} {Vs : List V} {xs : List Val} : F a = some (.lst Vs) → Vs.length ≤ sizeLine → RVs F xs Vs → RV F (.lst xs) (.ref a)
  | scr {a : Addr} {ns : List Int} : SqL K F a (ns.map V.int) → ns.length ≤ sizeLine → RV F (.scr ns) (.ref a)
  | ins {a C dx : Addr} {c : Str} {ns : List Str} {Vs : List V} {vs : List Val} : F a = some (.ins C dx (ns.zip Vs)) → mg c = some (.ref C) → ns.length = Vs.length → RVs F vs Vs → RV F (.ins c ns vs) (.ref a)
  | glb {x : Str} {a : Addr} : mg x = some (.ref a) → RV F (.glb x) (.ref a)
  | typ (n : String) : RV F (.typ n) (.ty n)
inductive RVs (F : Hp) : List Val → List V → Prop where
  | nil : RVs F [] []
  | cons {v : Val} {x : V} {vs : List Val} {xs : List V} : RV F v x → RVs F vs xs → RVs F (v :: vs) (x :: xs)
end
end

section
variable {K : PySem.W.Frag} {mg : Str → Option Value} {F F' H H' : Hp}
mutual
theorem RV.mono (e : Same F F') : ∀ {v : Val} {x : V}, RV K mg F v x → RV K mg F' v x
  | _, _, .non => .non
  | _, _, .bl b => .bl b
  | _, _, .int i => .int i
  | _, _, .str x => .str x
  | _, _, .tup h l r => .tup (seqT e h) l (RVs.mono e r)
  | _, _, .lst h l r => .lst (e _ _ h) l (RVs.mono e r)
  | _, _, .scr h l => .scr (e.seq h) l
  | _, _, .ins h m l r => .ins (e _ _ h) m l (RVs.mono e r)
  | _, _, .glb m => .glb m
  | _, _, .typ n => .typ n
theorem RVs.mono (e : Same F F') : ∀ {vs : List Val} {xs : List V}, RVs K mg F vs xs → RVs K mg F' vs xs
  | _, _, .nil => .nil
  | _, _, .cons a b => .cons (RV.mono e a) (RVs.mono e b)
end
theorem RVs.length : ∀ {vs : List Val} {xs : List V}, RVs K mg F vs xs → vs.length = xs.length
  | _, _, .nil => rfl
  | _, _, .cons _ b => by rw [List.length_cons, List.length_cons, RVs.length b]
theorem RVs.get : ∀ {vs : List Val} {xs : List V} {i : Nat} {v : Val}, RVs K mg F vs xs → vs[i]? = some v → ∃ x, xs[i]? = some x ∧ RV K mg F v x
  | _, _, _, _, .nil, e => by simp at e
  | _, _, 0, _, .cons a _, e => by
    have e' := Option.some.inj e
    subst e'
    exact ⟨_, rfl, a⟩
  | _, _, i + 1, v, .cons _ b, e => RVs.get (i := i) (v := v) b e
theorem RVs.get' : ∀ {vs : List Val} {xs : List V} {i : Nat} {x : V}, RVs K mg F vs xs → xs[i]? = some x → ∃ v, vs[i]? = some v ∧ RV K mg F v x
  | _, _, _, _, .nil, e => by simp at e
  | _, _, 0, _, .cons a _, e => by
    have e' := Option.some.inj e
    subst e'
    exact ⟨_, rfl, a⟩
  | _, _, i + 1, x, .cons _ b, e => RVs.get' (i := i) (x := x) b e
theorem RVs.append : ∀ {vs ws : List Val} {xs ys : List V}, RVs K mg F vs xs → RVs K mg F ws ys → RVs K mg F (vs ++ ws) (xs ++ ys)
  | _, _, _, _, .nil, s => s
  | _, _, _, _, .cons a b, s => .cons a (RVs.append b s)
theorem RVs.take : ∀ {vs : List Val} {xs : List V} (n : Nat), RVs K mg F vs xs → RVs K mg F (vs.take n) (xs.take n)
  | _, _, 0, _ => by rw [List.take_zero, List.take_zero]; exact .nil
  | _, _, _ + 1, .nil => .nil
  | _, _, n + 1, .cons a b => .cons a (RVs.take n b)
theorem RVs.drop : ∀ {vs : List Val} {xs : List V} (n : Nat), RVs K mg F vs xs → RVs K mg F (vs.drop n) (xs.drop n)
  | _, _, 0, r => r
  | _, _, _ + 1, .nil => .nil
  | _, _, n + 1, .cons _ b => RVs.drop n b
theorem RVs.set {v : Val} {x : V} (r : RV K mg F v x) : ∀ {vs : List Val} {xs : List V} (i : Nat), RVs K mg F vs xs → RVs K mg F (vs.set i v) (xs.set i x)
  | _, _, _, .nil => .nil
  | _, _, 0, .cons _ t => .cons r t
  | _, _, i + 1, .cons q t => .cons q (RVs.set r i t)
theorem RVs.rep : ∀ (n : Nat) {vs : List Val} {xs : List V}, RVs K mg F vs xs → RVs K mg F (List.replicate n vs).flatten (List.replicate n xs).flatten
  | 0, _, _, _ => .nil
  | n + 1, _, _, r => by
    rw [List.replicate_succ, List.flatten_cons, List.replicate_succ, List.flatten_cons]
    exact r.append (RVs.rep n r)
theorem RVs.ofInts : ∀ ns : List Int, RVs K mg F (ns.map .int) (ns.map V.int)
  | [] => .nil
  | i :: ns => .cons (.int i) (RVs.ofInts ns)
/-- ints, bools read -/
theorem RVs.intsOf : ∀ {vs : List Val} {xs : List V} {ns : List Int}, RVs K mg F vs xs → Rv.intsOf vs = some ns → xs = ns.map V.int
  | _, _, _, .nil, e => by
    have e' := Option.some.inj e
    subst e'
    rfl
  | .int i :: vs, _, ns, .cons (.int _) b, e => by
    have e : (Rv.intsOf vs).map (i :: ·) = some ns := e
    cases q : Rv.intsOf vs with
    | none => rw [q] at e; cases e
    | some ms =>
      rw [q] at e
      have e' := Option.some.inj e
      subst e'
      rw [RVs.intsOf b q]
      rfl
  | .non :: _, _, _, .cons _ _, e => nomatch e
  | .bl _ :: _, _, _, .cons _ _, e => nomatch e
  | .str _ :: _, _, _, .cons _ _, e => nomatch e
  | .tup _ :: _, _, _, .cons _ _, e => nomatch e
  | .lst _ :: _, _, _, .cons _ _, e => nomatch e
  | .scr _ :: _, _, _, .cons _ _, e => nomatch e
  | .ins _ _ _ :: _, _, _, .cons _ _, e => nomatch e
  | .glb _ :: _, _, _, .cons _ _, e => nomatch e
  | .typ _ :: _, _, _, .cons _ _, e => nomatch e
theorem RVs.allBl : ∀ {vs : List Val} {xs : List V} {bs : List Bool}, RVs K mg F vs xs → Rv.allBl vs = some bs → xs = bs.map V.bl
  | _, _, _, .nil, e => by
    have e' := Option.some.inj e
    subst e'
    rfl
  | .bl i :: vs, _, ns, .cons (.bl _) b, e => by
    have e : (Rv.allBl vs).map (i :: ·) = some ns := e
    cases q : Rv.allBl vs with
    | none => rw [q] at e; cases e
    | some ms =>
      rw [q] at e
      have e' := Option.some.inj e
      subst e'
      rw [RVs.allBl b q]
      rfl
  | .non :: _, _, _, .cons _ _, e => nomatch e
  | .int _ :: _, _, _, .cons _ _, e => nomatch e
  | .str _ :: _, _, _, .cons _ _, e => nomatch e
  | .tup _ :: _, _, _, .cons _ _, e => nomatch e
  | .lst _ :: _, _, _, .cons _ _, e => nomatch e
  | .scr _ :: _, _, _, .cons _ _, e => nomatch e
  | .ins _ _ _ :: _, _, _, .cons _ _, e => nomatch e
  | .glb _ :: _, _, _, .cons _ _, e => nomatch e
  | .typ _ :: _, _, _, .cons _ _, e => nomatch e

/-- a value whose own object stands in the heap H, all below it in F -/
def R1 (K : PySem.W.Frag) (mg : Str → Option Value) (F H : Hp) (v : Val) (x : V) : Prop :=
  match v with
  | .lst xs => ∃ a Vs, x = .ref a ∧ H a = some (.lst Vs) ∧ Vs.length ≤ sizeLine ∧ RVs K mg F xs Vs
  | .ins c ns vs => ∃ a C dx Vs, x = .ref a ∧ H a = some (.ins C dx (ns.zip Vs)) ∧ mg c = some (.ref C) ∧ ns.length = Vs.length ∧ RVs K mg F vs Vs
  | v => RV K mg F v x
theorem RV.r1 (e : Same F H) {v : Val} {x : V} (r : RV K mg F v x) : R1 K mg F H v x := by
  cases r with
  | lst h l r => exact ⟨_, _, rfl, e _ _ h, l, r⟩
  | ins h m l r => exact ⟨_, _, _, _, rfl, e _ _ h, m, l, r⟩
  | non => exact .non
  | bl b => exact .bl b
  | int i => exact .int i
  | str s => exact .str s
  | tup h l r => exact .tup h l r
  | scr h l => exact .scr h l
  | glb m => exact .glb m
  | typ n => exact .typ n
theorem R1.rv {v : Val} {x : V} (m : v.mut = false) (r : R1 K mg F H v x) : RV K mg F v x := by
  cases v with
  | lst _ => exact absurd (show true = false from m) (by decide)
  | ins _ _ _ => exact absurd (show true = false from m) (by decide)
  | non => exact r
  | bl b => exact r
  | int i => exact r
  | str s => exact r
  | tup xs => exact r
  | scr ns => exact r
  | glb y => exact r
  | typ n => exact r
theorem R1.ref {v : Val} {x : V} (m : v.mut = true) (r : R1 K mg F H v x) : ∃ a o, x = .ref a ∧ H a = some o := by
  cases v with
  | lst _ => obtain ⟨a, Vs, e, h, _⟩ := r; exact ⟨a, _, e, h⟩
  | ins _ _ _ => obtain ⟨a, C, dx, Vs, e, h, _⟩ := r; exact ⟨a, _, e, h⟩
  | non => exact absurd (show false = true from m) (by decide)
  | bl b => exact absurd (show false = true from m) (by decide)
  | int i => exact absurd (show false = true from m) (by decide)
  | str s => exact absurd (show false = true from m) (by decide)
  | tup xs => exact absurd (show false = true from m) (by decide)
  | scr ns => exact absurd (show false = true from m) (by decide)
  | glb y => exact absurd (show false = true from m) (by decide)
  | typ n => exact absurd (show false = true from m) (by decide)
/-- carried to another heap -/
theorem R1.keep {v : Val} {x : V} (ff : Same F F') (k : ∀ a o, x = .ref a → H a = some o → H' a = some o) (r : R1 K mg F H v x) : R1 K mg F' H' v x := by
  cases v with
  | lst _ => obtain ⟨a, Vs, e, h, l, r⟩ := r; exact ⟨a, Vs, e, k _ _ e h, l, r.mono ff⟩
  | ins _ _ _ => obtain ⟨a, C, dx, Vs, e, h, m, l, r⟩ := r; exact ⟨a, C, dx, Vs, e, k _ _ e h, m, l, r.mono ff⟩
  | non => exact RV.mono ff r
  | bl b => exact RV.mono ff r
  | int i => exact RV.mono ff r
  | str s => exact RV.mono ff r
  | tup xs => exact RV.mono ff r
  | scr ns => exact RV.mono ff r
  | glb y => exact RV.mono ff r
  | typ n => exact RV.mono ff r
/-- its object is added to F -/
theorem R1.freeze {v : Val} {x : V} {a : Addr} {o : HO} (ff : Same F F') (hx : x = .ref a) (ho : H a = some o) (hf : F' a = some o) (r : R1 K mg F H v x) : RV K mg F' v x := by
  cases v with
  | lst _ =>
    obtain ⟨b, Vs, e, h, l, r⟩ := r
    rw [hx] at e; cases e
    rw [ho] at h; cases h
    rw [hx]
    exact .lst hf l (r.mono ff)
  | ins _ _ _ =>
    obtain ⟨b, C, dx, Vs, e, h, m, l, r⟩ := r
    rw [hx] at e; cases e
    rw [ho] at h; cases h
    rw [hx]
    exact .ins hf m l (r.mono ff)
  | non => exact RV.mono ff r
  | bl b => exact RV.mono ff r
  | int i => exact RV.mono ff r
  | str s => exact RV.mono ff r
  | tup xs => exact RV.mono ff r
  | scr ns => exact RV.mono ff r
  | glb y => exact RV.mono ff r
  | typ n => exact RV.mono ff r
end

/-! ### the names -/
/-- the object at a is a name's own -/
def Own (ρ : Env) (σ : L2.St) (a : Addr) : Prop := ∃ i v, lookS ρ i = some (v, true) ∧ v.mut = true ∧ σ[i]? = some (some (.ref a))
def SlotR (K : PySem.W.Frag) (mg : Str → Option Value) (F H : Hp) (v : Val) (o : Bool) (x : V) : Prop :=
  if (o && v.mut) = true then R1 K mg F H v x ∧ ∀ a, x = .ref a → F a = none else RV K mg F v x
structure Rp (K : PySem.W.Frag) (mg : Str → Option Value) (F H : Hp) (σ : L2.St) (ρ : Env) : Prop where
  sub : Same F H
  len : ρ.length = σ.length
  slot : ∀ i v o, lookS ρ i = some (v, o) → ∃ x, σ[i]? = some (some x) ∧ SlotR K mg F H v o x
  inj : ∀ i j v w a, lookS ρ i = some (v, true) → v.mut = true → lookS ρ j = some (w, true) → w.mut = true → σ[i]? = some (some (.ref a)) → σ[j]? = some (some (.ref a)) → i = j
/-- what became of the heap: O, O' the names' own objects -/
structure Step (F H : Hp) (O : Addr → Prop) (F' H' : Hp) (O' : Addr → Prop) : Prop where
  ff : Same F F'
  kp : ∀ a o, H a = some o → ¬ O a → H' a = some o
  nf : ∀ a, F' a ≠ none → F a ≠ none ∨ O a ∨ H a = none
  no : ∀ a, O' a → O a ∨ H a = none
  al : ∀ a, H a ≠ none → H' a ≠ none
section
variable {K : PySem.W.Frag} {mg : Str → Option Value} {F F' F1 F2 H H' H1 H2 : Hp} {σ σ' : L2.St} {ρ ρ' ρ1 ρ2 : Env} {O O' O1 O2 : Addr → Prop}
theorem Step.refl : Step F H O F H O := ⟨Same.refl _, fun _ _ h _ => h, fun _ h => .inl h, fun _ h => .inl h, fun _ h => h⟩
theorem Step.trans (a : Step F H O F1 H1 O1) (b : Step F1 H1 O1 F2 H2 O2) : Step F H O F2 H2 O2 where
  ff := a.ff.trans b.ff
  kp := fun x o h n => b.kp x o (a.kp x o h n) fun z => (a.no x z).elim n fun q => by rw [h] at q; cases q
  nf := fun x h => by
    rcases b.nf x h with z | z | z
    · exact a.nf x z
    · rcases a.no x z with q | q
      · exact .inr (.inl q)
      · exact .inr (.inr q)
    · exact .inr (.inr (Classical.byContradiction fun q => a.al x q z))
  no := fun x h => by
    rcases b.no x h with z | z
    · exact a.no x z
    · exact .inr (Classical.byContradiction fun q => a.al x q z)
  al := fun x h => b.al x (a.al x h)
/-- fewer own objects ahead of it -/
theorem Step.weak (a : Step F H O F1 H1 O1) (h : ∀ x, O x → O' x) : Step F H O' F1 H1 O1 :=
  ⟨a.ff, fun x o e n => a.kp x o e fun z => n (h x z), fun x e => (a.nf x e).imp id (Or.imp (h x) id), fun x e => (a.no x e).imp (h x) id, a.al⟩
theorem Step.less (a : Step F H O F1 H1 O1) (h : ∀ x, O' x → O1 x) : Step F H O F1 H1 O' := ⟨a.ff, a.kp, a.nf, fun x e => a.no x (h x e), a.al⟩
/-- what is neither own nor in F stays so -/
theorem Step.keepR1 (st : Step F H O F' H' O') {v : Val} {x : V} (hn : ∀ a, x = .ref a → ¬ O a) (r : R1 K mg F H v x) : R1 K mg F' H' v x := r.keep st.ff fun a o e h => st.kp a o h (hn a e)
theorem Step.stillFree (st : Step F H O F' H' O') {a : Addr} {o : HO} (h : H a = some o) (hf : F a = none) (hn : ¬ O a) : F' a = none := by
  cases q : F' a with
  | none => rfl
  | some u =>
    rcases st.nf a (by rw [q]; exact fun z => by cases z) with z | z | z
    · exact absurd hf z
    · exact absurd z hn
    · rw [h] at z; cases z
theorem Step.stillNot (st : Step F H O F' H' O') {a : Addr} {o : HO} (h : H a = some o) (hn : ¬ O a) : ¬ O' a := fun z => (st.no a z).elim hn fun q => by rw [h] at q; cases q

theorem Rp.own_there (rp : Rp K mg F H σ ρ) {a : Addr} (h : Own ρ σ a) : (∃ o, H a = some o) ∧ F a = none := by
  obtain ⟨i, v, e, m, s⟩ := h
  obtain ⟨x, s', sl⟩ := rp.slot i v true e
  rw [s] at s'; cases s'
  unfold SlotR at sl
  rw [m, if_pos (show (true && true) = true from rfl)] at sl
  obtain ⟨b, o, e2, h2⟩ := sl.1.ref m
  cases e2
  exact ⟨⟨o, h2⟩, sl.2 _ rfl⟩

/-- a result: it stands for ever; it is new; it is a name's -/
def RR (K : PySem.W.Frag) (mg : Str → Option Value) (F H : Hp) (σ : L2.St) (ρ : Env) (r : R) (x : V) : Prop :=
  match r.s with
  | .fz => RV K mg F r.v x
  | .fr => R1 K mg F H r.v x ∧ ∀ a, x = .ref a → F a = none ∧ ¬ Own ρ σ a ∧ ∃ o, H a = some o
  | .var i => σ[i]? = some (some x)
theorem RR.keep {r : R} {x : V} (st : Step F H (Own ρ σ) F' H' (Own ρ' σ)) (q : RR K mg F H σ ρ r x) : RR K mg F' H' σ ρ' r x := by
  obtain ⟨v, s⟩ := r
  cases s with
  | fz => exact RV.mono st.ff q
  | var i => exact q
  | fr =>
    obtain ⟨q1, q2⟩ := (show R1 K mg F H v x ∧ ∀ a, x = .ref a → F a = none ∧ ¬ Own ρ σ a ∧ ∃ o, H a = some o from q)
    refine ⟨st.keepR1 (fun a e => (q2 a e).2.1) q1, fun a e => ?_⟩
    obtain ⟨h1, h2, o, h3⟩ := q2 a e
    exact ⟨st.stillFree h3 h1 h2, st.stillNot h3 h2, o, st.kp a o h3 h2⟩
/-- what is read of a result -/
theorem RR.r1 {r : R} {x : V} {v : Val} (rp : Rp K mg F H σ ρ) (q : RR K mg F H σ ρ r x) (e : rd ρ r = some v) : R1 K mg F H v x := by
  obtain ⟨w, s⟩ := r
  cases s with
  | fz =>
    have e' : some w = some v := e
    cases e'
    exact RV.r1 rp.sub q
  | fr =>
    have e' : some w = some v := e
    cases e'
    exact q.1
  | var i =>
    have e' : (lookS ρ i).map (·.1) = some v := e
    cases hl : lookS ρ i with
    | none => rw [hl] at e'; cases e'
    | some p =>
      obtain ⟨w', o⟩ := p
      rw [hl] at e'
      have e2 : w' = v := Option.some.inj e'
      subst e2
      obtain ⟨y, hy, sl⟩ := rp.slot i w' o hl
      have q' : σ[i]? = some (some x) := q
      rw [q'] at hy; cases hy
      unfold SlotR at sl
      split at sl
      · exact sl.1
      · exact sl.r1 rp.sub

theorem lookS_set {ρ : Env} {i j : Nat} {p : Option (Val × Bool)} : lookS (ρ.set i p) j = if i = j ∧ j < ρ.length then p else lookS ρ j := by
  unfold lookS
  rw [List.getElem?_set]
  by_cases h : i = j
  · subst h
    by_cases h2 : i < ρ.length
    · simp [h2]
    · simp [h2]
  · rw [if_neg h, if_neg (fun z : i = j ∧ j < ρ.length => h z.1)]
theorem lookS_lt {ρ : Env} {i : Nat} {p : Val × Bool} (h : lookS ρ i = some p) : i < ρ.length := by
  unfold lookS at h
  cases q : ρ[i]? with
  | none => rw [q] at h; cases h
  | some u => exact (List.getElem?_eq_some_iff.mp q).1

/-- a new object laid, not in F -/
theorem Rp.laid (rp : Rp K mg F H σ ρ) {p : Addr} {o : HO} (n : H p = none) : Rp K mg F (upd H p o) σ ρ := by
  have s1 : Same H (upd H p o) := fun b u e => by rw [upd_ne (ne_of_none e n)]; exact e
  refine ⟨rp.sub.trans s1, rp.len, fun i v w e => ?_, rp.inj⟩
  obtain ⟨x, hx, sl⟩ := rp.slot i v w e
  refine ⟨x, hx, ?_⟩
  unfold SlotR at sl ⊢
  split
  · rename_i h
    rw [if_pos h] at sl
    exact ⟨sl.1.keep (Same.refl _) fun a u _ e => s1 a u e, sl.2⟩
  · rename_i h
    rw [if_neg h] at sl
    exact sl
theorem Step.laid {p : Addr} {o : HO} (n : H p = none) : Step F H O F (upd H p o) O := by
  have s1 : Same H (upd H p o) := fun b u e => by rw [upd_ne (ne_of_none e n)]; exact e
  refine ⟨Same.refl _, fun a u e _ => s1 a u e, fun _ h => .inl h, fun _ h => .inl h, fun a h => ?_⟩
  cases q : H a with
  | none => exact absurd q h
  | some u => rw [s1 a u q]; exact fun z => by cases z
/-- a new object laid, in F -/
theorem same_upd2 {p : Addr} {o : HO} (s : Same F H) : Same (upd F p o) (upd H p o) := fun b u e => by
  by_cases hb : b = p
  · rw [hb, upd_same] at e ⊢; exact e
  · rw [upd_ne hb] at e ⊢; exact s b u e
theorem same_updF {p : Addr} {o : HO} (n : F p = none) : Same F (upd F p o) := fun b u e => by rw [upd_ne (ne_of_none e n)]; exact e
theorem Rp.laidF (rp : Rp K mg F H σ ρ) {p : Addr} {o : HO} (n : H p = none) : Rp K mg (upd F p o) (upd H p o) σ ρ := by
  have s1 : Same H (upd H p o) := fun b u e => by rw [upd_ne (ne_of_none e n)]; exact e
  have s2 : Same F (upd F p o) := same_updF (rp.sub.free n)
  refine ⟨same_upd2 rp.sub, rp.len, fun i v w e => ?_, rp.inj⟩
  obtain ⟨x, hx, sl⟩ := rp.slot i v w e
  refine ⟨x, hx, ?_⟩
  unfold SlotR at sl ⊢
  split
  · rename_i h
    rw [if_pos h] at sl
    refine ⟨sl.1.keep s2 fun a u _ e => s1 a u e, fun a e => ?_⟩
    have hm : v.mut = true := by
      rw [Bool.and_eq_true] at h
      exact h.2
    obtain ⟨b, u, e2, h2⟩ := sl.1.ref hm
    rw [e] at e2
    cases e2
    rw [upd_ne (ne_of_none h2 n)]
    exact sl.2 a e
  · rename_i h
    rw [if_neg h] at sl
    exact sl.mono s2
theorem Step.laidF {p : Addr} {o : HO} (s : Same F H) (n : H p = none) : Step F H O (upd F p o) (upd H p o) O := by
  have s1 : Same H (upd H p o) := fun b u e => by rw [upd_ne (ne_of_none e n)]; exact e
  refine ⟨same_updF (s.free n), fun a u e _ => s1 a u e, fun a h => ?_, fun _ h => .inl h, fun a h => ?_⟩
  · by_cases hb : a = p
    · rw [hb]; exact .inr (.inr n)
    · rw [upd_ne hb] at h; exact .inl h
  · cases q : H a with
    | none => exact absurd q h
    | some u => rw [s1 a u q]; exact fun z => by cases z
/-- a name's own object is not at a place that is free -/
theorem Rp.own_free (rp : Rp K mg F H σ ρ) {p : Addr} (n : H p = none) : ¬ Own ρ σ p := fun z => by
  obtain ⟨⟨o, h⟩, _⟩ := rp.own_there z
  rw [h] at n; cases n

/-- an object that is no name's own goes to F -/
theorem Rp.toF (rp : Rp K mg F H σ ρ) {p : Addr} {o : HO} (h : H p = some o) (n : ¬ Own ρ σ p) : Rp K mg (upd F p o) H σ ρ := by
  have s2 : Same F (upd F p o) := fun b u e => by
    by_cases hb : b = p
    · rw [hb, upd_same]
      rw [hb] at e
      have z := rp.sub _ _ e
      rw [h] at z
      exact z
    · rw [upd_ne hb]; exact e
  refine ⟨fun b u e => ?_, rp.len, fun i v w e => ?_, rp.inj⟩
  · by_cases hb : b = p
    · rw [hb, upd_same] at e
      cases e
      rw [hb]; exact h
    · rw [upd_ne hb] at e; exact rp.sub b u e
  · obtain ⟨x, hx, sl⟩ := rp.slot i v w e
    refine ⟨x, hx, ?_⟩
    unfold SlotR at sl ⊢
    split
    · rename_i hc
      rw [if_pos hc] at sl
      refine ⟨sl.1.keep s2 fun a u _ e => e, fun a ea => ?_⟩
      rw [Bool.and_eq_true] at hc
      have hw : w = true := hc.1
      subst hw
      have hne : a ≠ p := fun z => n ⟨i, v, e, hc.2, by rw [hx, ea, z]⟩
      rw [upd_ne hne]
      exact sl.2 a ea
    · rename_i hc
      rw [if_neg hc] at sl
      exact sl.mono s2
theorem Step.toF {p : Addr} {o : HO} (s : Same F H) (h : H p = some o) (hO : O p ∨ F p ≠ none) (ho : ∀ x, O' x → O x) : Step F H O (upd F p o) H O' := by
  refine ⟨fun b u e => ?_, fun a u e _ => e, fun a q => ?_, fun a q => .inl (ho a q), fun a q => q⟩
  · by_cases hb : b = p
    · rw [hb, upd_same]
      rw [hb] at e
      have z := s _ _ e
      rw [h] at z
      exact z
    · rw [upd_ne hb]; exact e
  · by_cases hb : a = p
    · rw [hb]
      rcases hO with z | z
      · exact .inr (.inl z)
      · exact .inl z
    · rw [upd_ne hb] at q; exact .inl q
end
end Rv

/-! Rv, part 2b: a tuple once, or not at all. -/
namespace Rv
open PySem PySem.Spec PyProof.Rows L2
open PySem.AutoSeq1 (wpAny_loadPart')
abbrev tupO (dd : Option Addr) (its : Array Value) (n : Nat) (sl : Array (Option Value)) : Obj := { cls := .type "tuple", dict := dd, data := .seq its n, slots := sl }
theorem mul_same (l : Addr) (its : Array Value) (n : Nat) (dd : Option Addr) (sl : Array (Option Value)) (x : Int) (u : Tok) (c0 : (decide (x < -(2 ^ 63)) || decide (x ≥ 2 ^ 63)) = false) (c1 : (its.isEmpty || x == 1) = true) :
    Meets (Builtin.«tuple.__mul__» ⟨[.ref l, .int x u], []⟩) (fun _ R s => s.heap.get? l = some (tupO dd its n sl) ∧ R (.ok (.ret (.ref l))) s) :=
  .of_wp fun prog w A R s h => by
    obtain ⟨hp, g, d, tk, os⟩ := s
    obtain ⟨hl, h⟩ := h
    have f1 := AutoSeq1.idx_int
    wp_walk using wpAny_loadPart' hl
    repeat (first
      | (refine wpAny_ite_false (decide_eq_false (by rw [c0]; exact Bool.false_ne_true)) ?_; wp_walk using wpAny_loadPart' hl)
      | (refine wpAny_ite_true (decide_eq_true c1) ?_; wp_walk using wpAny_loadPart' hl))
    exact ⟨_, rfl, h⟩
theorem mul_none (l : Addr) (its : Array Value) (n : Nat) (dd : Option Addr) (sl : Array (Option Value)) (x : Int) (u : Tok) (c0 : (decide (x < -(2 ^ 63)) || decide (x ≥ 2 ^ 63)) = false) (c1 : (its.isEmpty || x == 1) = false) (c2 : (decide (x ≤ 0) || its.isEmpty) = true) :
    Meets (Builtin.«tuple.__mul__» ⟨[.ref l, .int x u], []⟩) (fun _ R s => s.heap.get? l = some (tupO dd its n sl) ∧ R (.ok (.ret (.ref s.heap.objs.size))) { s with heap := s.heap.push { cls := .type "tuple", data := .seq #[] }, toks := s.toks }) :=
  .of_wp fun prog w A R s h => by
    obtain ⟨hp, g, d, tk, os⟩ := s
    obtain ⟨hl, h⟩ := h
    have f1 := AutoSeq1.idx_int
    wp_walk using wpAny_loadPart' hl
    repeat (first
      | (refine wpAny_ite_false (decide_eq_false (by rw [c0]; exact Bool.false_ne_true)) ?_; wp_walk using wpAny_loadPart' hl)
      | (refine wpAny_ite_false (decide_eq_false (by rw [c1]; exact Bool.false_ne_true)) ?_; wp_walk using wpAny_loadPart' hl)
      | (refine wpAny_ite_true (decide_eq_true c2) ?_; wp_walk using wpAny_loadPart' hl))
    exact ⟨_, rfl, h⟩
/-- a tuple, once or zero times -/
def rOnce (K : PySem.W.Frag) : R2 := fun x y H Q => ∃ l k xs, x = .ref l ∧ y = .int k ∧ SqT K H l xs ∧ ((k = 1 ∧ Q (.ref l) H) ∨ (k = 0 ∧ xs ≠ [] ∧ ∀ p, H p = none → Q (.ref p) (upd H p (.tup []))))
theorem op_once {X : Cx} : OpR X (binaryOp .Mult) (rOnce X.K) := by
  intro pins s σ H x y v u Q I rx ry h
  obtain ⟨l, k, xs, rfl, rfl, hT, q⟩ := h
  cases rx
  obtain ⟨t, rfl⟩ := ry
  obtain ⟨its, r, ⟨⟨cls, dd, data, sl⟩, ho, hc, n, hd⟩, hs⟩ := I.tuple hT
  simp only at hc hd
  subst hc hd
  refine wpAny_binaryOp_repeat_ref (T := "tuple") (U := "int") (by decide) ⟨_, ho, rfl⟩ (fun s' => typeIs_int s' k t) noFill_tuple_mul F.fills_int_mul F.slot_int_rmul repeat_tuple F.slot_int_index.lookup
    (call_meets F.slot_int_rmul (typeIs_int s k t) F.entry_int_rmul (F.args_int_rmul_2 _ _) (int_rmul_tuple k t l its.toArray n dd sl)
      ⟨ho, rfl, ⟨_, ho, rfl⟩, ?_⟩)
  rcases q with ⟨rfl, q⟩ | ⟨rfl, hne, q⟩
  · exact call_meets F.slot_tuple_mul ⟨_, ho, rfl⟩ F.entry_tuple_mul (F.args_tuple_mul_2 _ _) (mul_same l its.toArray n dd sl 1 t (by decide) (by rw [Bool.or_eq_true]; exact .inr rfl)) ⟨ho, .ref l, H, I, rfl, q⟩
  · have hi : its.toArray.isEmpty = false := by
      cases its with
      | nil => exact absurd (List.eq_nil_of_length_eq_zero (by rw [r.length]; rfl)) hne
      | cons a b => rfl
    refine call_meets F.slot_tuple_mul ⟨_, ho, rfl⟩ F.entry_tuple_mul (F.args_tuple_mul_2 _ _) (mul_none l its.toArray n dd sl 0 t (by decide) (by rw [hi]; rfl) (by rw [Bool.or_eq_true]; exact .inl (by decide))) ⟨ho, ?_⟩
    exact ⟨.ref s.heap.objs.size, _, I.laid (t' := s.toks) (o := .tup []) (fun b ob q => Heap.get?_push_of_some _ q) (Nat.le_refl _) ⟨Nat.zero_le _, [], .nil, IsTup.new _ _⟩, rfl, q _ (I.hok.fresh (Nat.le_refl _))⟩
end Rv

/-! Rv, part 3: expressions: the evaluator's answer is what the model does. -/
namespace Rv
open PySem PySem.Spec PyProof.Rows L2

/-- an exception that leaves: its class, its own dict -/
def RX (K : PySem.W.Frag) (mg : Str → Option Value) (F : Hp) (x : Val) (cv : Value) (d : Option Addr) : Prop :=
  match x with
  | .ins c ns vs => ∃ C dx Vs, cv = .ref C ∧ mg c = some (.ref C) ∧ d = some dx ∧ F dx = some (.xd (ns.zip Vs)) ∧ ns.length = Vs.length ∧ RVs K mg F vs Vs
  | _ => False

/-- what is wanted behind code, of its outcome -/
def Post {α : Type} (K : PySem.W.Frag) (mg : Str → Option Value) (F H : Hp) (σ : L2.St) (ρ : Env) (W : WX) (G : α → Env → Hp → Hp → Prop) : Out α → Prop
  | .ok a ρ' => ∀ F' H', Rp K mg F' H' σ ρ' → Step F H (Own ρ σ) F' H' (Own ρ' σ) → G a ρ' F' H'
  | .exc x ρ' => ∀ cv d F' H', Rp K mg F' H' σ ρ' → Step F H (Own ρ σ) F' H' (Own ρ' σ) → RX K mg F' x cv d → W cv d σ H'
  | .stuck => False
/-- a new object was not there ahead -/
def Fr (H : Hp) (r : R) (V : V) : Prop := r.s = .fr → ∀ a, V = .ref a → H a = none
/-- for an expression; B: the heap ahead of it -/
abbrev PostE (K : PySem.W.Frag) (mg : Str → Option Value) (B F H : Hp) (σ : L2.St) (ρ : Env) (W : WX) (Q : VK) : Out R → Prop :=
  Post K mg F H σ ρ W fun r ρ' F' H' => ∀ V, RR K mg F' H' σ ρ' r V → Fr B r V → Q V H'
abbrev PostT (K : PySem.W.Frag) (mg : Str → Option Value) (F H : Hp) (σ : L2.St) (ρ : Env) (W : WX) (Q : Bool → Hp → Prop) : Out Bool → Prop :=
  Post K mg F H σ ρ W fun b _ _ H' => Q b H'
def rdE (K : PySem.W.Frag) (mg : Str → Option Value) (C : Ctx) (W : WX) (c : Ex) : TE := fun σ H Q => ∃ F ρ, Rp K mg F H σ ρ ∧ PostE K mg H F H σ ρ W Q (evE C c ρ)
/-- the evaluator speaks for the expression -/
def SE (X : Cx) (C : Ctx) (W : WX) (e : Expr) (c : Ex) : Prop := PE X e (rdE X.K X.mg C W c)

theorem pe_imp {X : Cx} {e : Expr} {t t' : TE} (h : PE X e t) (i : ∀ σ H Q, t' σ H Q → t σ H Q) : PE X e t' := ⟨fun pins s σ H Q I q => h.run pins s σ H Q I (i σ H Q q)⟩
theorem pt_imp {X : Cx} {e : Expr} {t t' : TT} (h : PT X e t) (i : ∀ σ H Q, t' σ H Q → t σ H Q) : PT X e t' := ⟨fun pins s σ H Q I q => h.run pins s σ H Q I (i σ H Q q)⟩
theorem ps_imp {X : Cx} {e : Stmt} {t t' : TS} (h : PS X e t) (i : ∀ D σ H, t' D σ H → t D σ H) : PS X e t' := ⟨fun pins s σ H D I q => h.run pins s σ H D I (i D σ H q)⟩

section
variable {K : PySem.W.Frag} {mg : Str → Option Value} {C : Ctx} {W : WX} {F F1 F' H H1 H' : Hp} {σ : L2.St} {ρ ρ1 ρ' : Env} {Q : VK}
/-- from a later heap on -/
theorem Post.shift {α : Type} {G : α → Env → Hp → Hp → Prop} {o : Out α} (st : Step F H (Own ρ σ) F1 H1 (Own ρ1 σ)) (h : Post K mg F H σ ρ W G o) : Post K mg F1 H1 σ ρ1 W G o := by
  cases o with
  | ok r ρ' => exact fun F' H' rp s2 => h F' H' rp (st.trans s2)
  | exc x ρ' => exact fun cv d F' H' rp s2 rx => h cv d F' H' rp (st.trans s2) rx
  | stuck => exact h
theorem Post.imp {α : Type} {G G' : α → Env → Hp → Hp → Prop} {o : Out α} (h : Post K mg F H σ ρ W G o) (i : ∀ a ρ' F' H', Rp K mg F' H' σ ρ' → Step F H (Own ρ σ) F' H' (Own ρ' σ) → G a ρ' F' H' → G' a ρ' F' H') : Post K mg F H σ ρ W G' o := by
  cases o with
  | ok r ρ' => exact fun F' H' rp s2 => i r ρ' F' H' rp s2 (h F' H' rp s2)
  | exc x ρ' => exact h
  | stuck => exact h
theorem Post.of_bind {α β : Type} {G : β → Env → Hp → Hp → Prop} {o : Out α} {f : α → Env → Out β} (h : Post K mg F H σ ρ W G (o.bind f)) :
    Post K mg F H σ ρ W (fun a ρ1 F1 H1 => Post K mg F1 H1 σ ρ1 W G (f a ρ1)) o := by
  cases o with
  | ok r ρ' => exact fun F' H' rp s2 => Post.shift s2 h
  | exc x ρ' => exact h
  | stuck => exact h
theorem Post.now {α : Type} {G : α → Env → Hp → Hp → Prop} {a : α} (rp : Rp K mg F H σ ρ) (h : Post K mg F H σ ρ W G (.ok a ρ)) : G a ρ F H := h F H rp Step.refl
/-- an expression, then what follows -/
theorem bindX {α : Type} {G : α → Env → Hp → Hp → Prop} {c : Ex} {f : R → Env → Out α} {Q1 : VK} (rp : Rp K mg F H σ ρ) (h : Post K mg F H σ ρ W G ((evE C c ρ).bind f))
    (k : ∀ r ρ1 V F1 H1, Rp K mg F1 H1 σ ρ1 → Step F H (Own ρ σ) F1 H1 (Own ρ1 σ) → RR K mg F1 H1 σ ρ1 r V → Post K mg F1 H1 σ ρ1 W G (f r ρ1) → Q1 V H1) : rdE K mg C W c σ H Q1 :=
  ⟨F, ρ, rp, h.of_bind.imp fun r ρ1 F1 H1 rp1 st q V rr _ => k r ρ1 V F1 H1 rp1 st rr q⟩
/-- .. with the freshness told -/
theorem bindF {α : Type} {G : α → Env → Hp → Hp → Prop} {c : Ex} {f : R → Env → Out α} {Q1 : VK} (rp : Rp K mg F H σ ρ) (h : Post K mg F H σ ρ W G ((evE C c ρ).bind f))
    (k : ∀ r ρ1 V F1 H1, Rp K mg F1 H1 σ ρ1 → Step F H (Own ρ σ) F1 H1 (Own ρ1 σ) → RR K mg F1 H1 σ ρ1 r V → Fr H r V → Post K mg F1 H1 σ ρ1 W G (f r ρ1) → Q1 V H1) : rdE K mg C W c σ H Q1 :=
  ⟨F, ρ, rp, h.of_bind.imp fun r ρ1 F1 H1 rp1 st q V rr fr => k r ρ1 V F1 H1 rp1 st rr fr q⟩
/-! ### results that are new -/
variable {B : Hp}
theorem fr_fz {v : Val} {V : V} : Fr B ⟨v, .fz⟩ V := fun z => by cases z
/-- a value without an own object that may change -/
theorem done_fz {v : Val} {V : V} (rp : Rp K mg F H σ ρ) (h : PostE K mg B F H σ ρ W Q (.ok ⟨v, .fz⟩ ρ)) (r : RV K mg F v V) : Q V H := h F H rp Step.refl V r fr_fz
/-- a new list -/
theorem done_lst {xs : List Val} {Vs : List V} (al : ∀ a, B a ≠ none → H a ≠ none) (rp : Rp K mg F H σ ρ) (h : PostE K mg B F H σ ρ W Q (.ok ⟨.lst xs, .fr⟩ ρ)) (r : RVs K mg F xs Vs) (l : Vs.length ≤ sizeLine) (p : Addr) (n : H p = none) : Q (.ref p) (upd H p (.lst Vs)) := by
  refine h F (upd H p (.lst Vs)) (rp.laid n) (Step.laid n) (.ref p) ⟨⟨p, Vs, rfl, upd_same, l, r⟩, fun a e => ?_⟩ fun _ a e => ?_
  · cases e
    exact ⟨rp.sub.free n, rp.own_free n, _, upd_same⟩
  · cases e
    exact Classical.byContradiction fun q => al _ q n
/-- a new tuple -/
theorem done_tup {xs : List Val} {Vs : List V} (rp : Rp K mg F H σ ρ) (h : PostE K mg B F H σ ρ W Q (.ok ⟨.tup xs, .fz⟩ ρ)) (r : RVs K mg F xs Vs) (l : Vs.length ≤ sizeLine) (p : Addr) (n : H p = none) : Q (.ref p) (upd H p (.tup Vs)) :=
  h (upd F p (.tup Vs)) (upd H p (.tup Vs)) (rp.laidF n) (Step.laidF rp.sub n) (.ref p) (.tup (SqT.of upd_same) l (r.mono (same_updF (rp.sub.free n)))) fr_fz
/-- a fresh list at p, told by mk -/
theorem done_new {o : Option Val} {v : Val} (h : PostE K mg B F H σ ρ W Q (new o ρ)) (e : o = some v) : PostE K mg B F H σ ρ W Q (.ok (mk v) ρ) := by
  subst e
  exact h
end

section
variable {X : Cx} {C : Ctx} {W : WX} {a b c : Expr} {ca cb cc : Ex} {pos : Pos}

/-! ### names and constants -/
theorem se_int {i : Int} {j : Nat} : SE X C W (.Constant (.int i) j pos) (.con (.int i)) := pe_imp pe_int fun σ H Q ⟨F, ρ, rp, h⟩ => done_fz rp h (.int i)
theorem se_bool {i : Bool} {j : Nat} : SE X C W (.Constant (.bool i) j pos) (.con (.bl i)) := pe_imp pe_bl fun σ H Q ⟨F, ρ, rp, h⟩ => done_fz rp h (.bl i)
theorem se_none {j : Nat} : SE X C W (.Constant .none j pos) (.con .non) := pe_imp pe_non fun σ H Q ⟨F, ρ, rp, h⟩ => done_fz rp h .non
theorem se_str {x : Str} {j : Nat} : SE X C W (.Constant (.str x) j pos) (.con (.str x)) := pe_imp pe_str fun σ H Q ⟨F, ρ, rp, h⟩ => done_fz rp h (.str x)
theorem se_loc {i : Nat} {x : Str} (hN : X.N[i]? = some x) (hv : Vis X.env.scope x) (hd : (x == ("__debug__" : Str)) = false) (hcd : (x == ("__classdict__" : Str)) = false) : SE X C W (.Name x pos) (.loc i) :=
  pe_imp (pe_var hN hv hd hcd) fun σ H Q ⟨F, ρ, rp, h⟩ => by
    have h : PostE X.K X.mg H F H σ ρ W Q (match lookS ρ i with
      | some (v, o) => .ok ⟨v, if o && v.mut then .var i else .fz⟩ ρ
      | none => .stuck) := h
    cases e : lookS ρ i with
    | none =>
      rw [e] at h
      exact h.elim
    | some p =>
      obtain ⟨v, o⟩ := p
      rw [e] at h
      obtain ⟨x, hx, sl⟩ := rp.slot i v o e
      refine ⟨x, hx, h F H rp Step.refl x ?_ fun z => ?_⟩
      rotate_left
      · exact absurd z (by show ¬ (if (o && v.mut) = true then Src.var i else Src.fz) = Src.fr; split <;> exact fun q => by cases q)
      unfold SlotR at sl
      by_cases hc : (o && v.mut) = true
      · rw [if_pos hc]
        exact hx
      · rw [if_neg hc]
        rw [if_neg hc] at sl
        exact sl
theorem se_glo {x : Str} {v : Val} {V : V} {u : Value} (hg : Gl X x) (hm : X.mg x = some u) (r : RelV V u) (hd : (x == ("__debug__" : Str)) = false) (hc : C.con x = some v) (hv : ∀ F, RV X.K X.mg F v V) : SE X C W (.Name x pos) (.glo x) :=
  pe_imp (pe_glob hg hm r hd) fun σ H Q ⟨F, ρ, rp, h⟩ => by
    have h : PostE X.K X.mg H F H σ ρ W Q (Out.opt ((C.con x).map fun v => ⟨v, .fz⟩) ρ) := h
    rw [hc] at h
    exact done_fz rp h (hv F)
theorem se_typ {x : Str} {n : String} (hg : Gl X x) (hm : X.mg x = none) (hv : bootBuiltins x = some (.type n)) (hn : x ≠ "__name__") (hd : (x == ("__debug__" : Str)) = false) : SE X C W (.Name x pos) (.typ n) :=
  pe_imp (pe_bltn (v := .ty n) hg hm hv rfl hn hd) fun σ H Q ⟨F, ρ, rp, h⟩ => done_fz rp h (.typ n)

/-! ### two operands -/
/-- two operands read, at the end (any outcome) -/
theorem two {α : Type} {G : α → Env → Hp → Hp → Prop} (ha : SE X C W a ca) {σ : L2.St} {H F : Hp} {ρ : Env} {g : Option Val → Option Val → Env → Out α} {r : V → V → Hp → Prop} (rp : Rp X.K X.mg F H σ ρ)
    (h : Post X.K X.mg F H σ ρ W G ((evE C ca ρ).bind fun x ρ => (evE C cb ρ).bind fun y ρ => g (rd ρ x) (rd ρ y) ρ))
    (gn : ∀ o ρ, g none o ρ = .stuck) (gn2 : ∀ o ρ, g o none ρ = .stuck)
    (k : ∀ v w ρ2 V1 V2 F2 H2, (∀ a, H a ≠ none → H2 a ≠ none) → Rp X.K X.mg F2 H2 σ ρ2 → R1 X.K X.mg F2 H2 v V1 → R1 X.K X.mg F2 H2 w V2 → Post X.K X.mg F2 H2 σ ρ2 W G (g (some v) (some w) ρ2) → r V1 V2 H2) :
    rdE X.K X.mg C W ca σ H fun x H1 => rdE X.K X.mg C W cb σ H1 fun y H2 => r x y H2 := by
  refine bindX rp h fun x ρ1 V1 F1 H1 rp1 st1 rr1 h1 => ?_
  refine bindX rp1 h1 fun y ρ2 V2 F2 H2 rp2 st2 rr2 h2 => ?_
  have rr1' := rr1.keep st2
  cases e1 : rd ρ2 x with
  | none =>
    rw [e1, gn] at h2
    exact h2.elim
  | some v =>
    cases e2 : rd ρ2 y with
    | none =>
      rw [e2, gn2] at h2
      exact h2.elim
    | some w =>
      rw [e1, e2] at h2
      exact k v w ρ2 V1 V2 F2 H2 (fun a q => st2.al a (st1.al a q)) rp2 (rr1'.r1 rp2 e1) (rr2.r1 rp2 e2) h2

/-- an operator: its rule, and what the rule asks where the evaluator has an answer -/
theorem se_bop {o : Operator} {r : R2} (ho : OpR X (binaryOp o) r) (ha : SE X C W a ca) (hb : SE X C W b cb)
    (k : ∀ (v w u : Val) (V1 V2 : V) (B F H : Hp) (σ : L2.St) (ρ : Env) (Q : VK), (∀ a, B a ≠ none → H a ≠ none) → biop o v w = some u → Rp X.K X.mg F H σ ρ → R1 X.K X.mg F H v V1 → R1 X.K X.mg F H w V2 → PostE X.K X.mg B F H σ ρ W Q (.ok (mk u) ρ) → r V1 V2 H Q) :
    SE X C W (.BinOp a o b pos) (.bop o ca cb) :=
  pe_imp (pe_op ho ha hb) fun σ H Q ⟨F, ρ, rp, h⟩ => by
    refine two ha (g := fun p q ρ => match p, q with
      | some v, some w => new (biop o v w) ρ
      | _, _ => .stuck) (r := fun x y H2 => r x y H2 Q) rp h (fun _ _ => rfl) (fun p _ => by cases p <;> rfl) fun v w ρ2 V1 V2 F2 H2 al rp2 r1 r2 h2 => ?_
    have h2 : PostE X.K X.mg H F2 H2 σ ρ2 W Q (new (biop o v w) ρ2) := h2
    cases e : biop o v w with
    | none =>
      rw [e] at h2
      exact h2.elim
    | some u => exact k v w u V1 V2 H F2 H2 σ ρ2 Q al e rp2 r1 r2 (done_new h2 e)

theorem RVs.isNil {K : PySem.W.Frag} {mg : Str → Option Value} {F : Hp} {xs : List Val} : RVs K mg F xs [] → xs = []
  | .nil => rfl
theorem big_eq : big = sizeLine := by rw [sizeLine_eq]; rfl

theorem addV_inv {v w u : Val} (e : addV v w = some u) : (∃ i j, v = .int i ∧ w = .int j ∧ u = .int (i + j)) ∨ (∃ xs ys, v = .tup xs ∧ w = .tup ys ∧ xs.length + ys.length ≤ sizeLine ∧ u = .tup (xs ++ ys)) ∨
    (∃ xs ys, v = .lst xs ∧ w = .lst ys ∧ xs.length + ys.length ≤ sizeLine ∧ u = .lst (xs ++ ys)) ∨ (∃ x y, v = .str x ∧ w = .str y ∧ x.length + y.length ≤ sizeLine ∧ u = .str (x ++ y)) := by
  rw [← big_eq]
  cases v <;> cases w <;> first | exact nomatch (show (none : Option Val) = some _ from e) | skip
  · rename_i i j
    exact .inl ⟨i, j, rfl, rfl, (Option.some.inj e).symm⟩
  · rename_i x y
    replace e : (if x.length + y.length ≤ big then some (Val.str (x ++ y)) else none) = some u := e
    split at e
    · rename_i h
      exact .inr (.inr (.inr ⟨x, y, rfl, rfl, h, (Option.some.inj e).symm⟩))
    · cases e
  · rename_i x y
    replace e : (if x.length + y.length ≤ big then some (Val.tup (x ++ y)) else none) = some u := e
    split at e
    · rename_i h
      exact .inr (.inl ⟨x, y, rfl, rfl, h, (Option.some.inj e).symm⟩)
    · cases e
  · rename_i x y
    replace e : (if x.length + y.length ≤ big then some (Val.lst (x ++ y)) else none) = some u := e
    split at e
    · rename_i h
      exact .inr (.inr (.inl ⟨x, y, rfl, rfl, h, (Option.some.inj e).symm⟩))
    · cases e
theorem se_add (ha : SE X C W a ca) (hb : SE X C W b cb) : SE X C W (.BinOp a .Add b pos) (.bop .Add ca cb) := by
  refine se_bop ((op_add.or op_catA).or (op_cat.or op_add_str)) ha hb fun v w u V1 V2 B F H σ ρ Q al e rp r1 r2 h => ?_
  rcases addV_inv e with ⟨i, j, rfl, rfl, rfl⟩ | ⟨xs, ys, rfl, rfl, hl, rfl⟩ | ⟨xs, ys, rfl, rfl, hl, rfl⟩ | ⟨x, y, rfl, rfl, hl, rfl⟩
  · cases r1.rv rfl; cases r2.rv rfl
    exact .inl (.inl ⟨_, _, rfl, rfl, done_fz rp h (.int _)⟩)
  · cases r1.rv rfl with
    | @tup a1 Vs1 _ t1 l1 q1 =>
      cases r2.rv rfl with
      | @tup a2 Vs2 _ t2 l2 q2 =>
        have n1 := q1.length
        have n2 := q2.length
        refine .inl (.inr ⟨a1, a2, Vs1, Vs2, rfl, rfl, seqT rp.sub t1, seqT rp.sub t2, by omega, fun z => ?_, fun z1 z2 => ?_, fun z1 z2 p n => ?_⟩)
        · subst z
          have e1 := q1.isNil
          subst e1
          exact done_fz rp h (.tup t2 l2 q2)
        · subst z2
          have e2 := q2.isNil
          subst e2
          exact done_fz rp h (by rw [List.append_nil]; exact .tup t1 l1 q1)
        · exact done_tup rp h (q1.append q2) (by rw [List.length_append]; omega) p n
  · obtain ⟨a1, Vs1, rfl, t1, l1, q1⟩ := r1
    obtain ⟨a2, Vs2, rfl, t2, l2, q2⟩ := r2
    have n1 := q1.length
    have n2 := q2.length
    exact .inr (.inl ⟨a1, a2, Vs1, Vs2, rfl, rfl, t1, t2, by omega, fun p n => done_lst al rp h (q1.append q2) (by rw [List.length_append]; omega) p n⟩)
  · cases r1.rv rfl; cases r2.rv rfl
    exact .inr (.inr ⟨_, _, rfl, rfl, hl, done_fz rp h (.str _)⟩)
theorem se_sub (ha : SE X C W a ca) (hb : SE X C W b cb) : SE X C W (.BinOp a .Sub b pos) (.bop .Sub ca cb) := by
  refine se_bop op_sub ha hb fun v w u V1 V2 B F H σ ρ Q al e rp r1 r2 h => ?_
  replace e : subV v w = some u := e
  cases v <;> cases w <;> first | exact nomatch (show (none : Option Val) = some _ from e) | skip
  cases e
  cases r1.rv rfl; cases r2.rv rfl
  exact ⟨_, _, rfl, rfl, done_fz rp h (.int _)⟩
theorem mulOk_iff {i j : Int} : mulOk i j = true ↔ CMulW i j := by unfold mulOk CMulW; simp
theorem divOk_iff {i j : Int} : divOk j = true ↔ CDivW i j := by unfold divOk CDivW; simp
theorem len_rep {α : Type} (n : Nat) (xs : List α) : (List.replicate n xs).flatten.length = n * xs.length := PyProof.Rows.lm_len_rep_flat ..
theorem se_mul (ha : SE X C W a ca) (hb : SE X C W b cb) : SE X C W (.BinOp a .Mult b pos) (.bop .Mult ca cb) := by
  refine se_bop ((op_mulW.or (op_rep.or op_repT)).or op_once) ha hb fun v w u V1 V2 B F H σ ρ Q al e rp r1 r2 h => ?_
  replace e : mulV v w = some u := e
  cases v <;> cases w <;> first | exact nomatch (show (none : Option Val) = some _ from e) | skip
  · rename_i i j
    replace e : (if mulOk i j = true then some (Val.int (i * j)) else none) = some u := e
    split at e
    · rename_i hm
      cases e
      cases r1.rv rfl; cases r2.rv rfl
      exact .inl (.inl ⟨_, _, rfl, rfl, mulOk_iff.mp hm, done_fz rp h (.int _)⟩)
    · cases e
  · rename_i xs k
    replace e : (if k = 1 then some (Val.tup xs) else if k = 0 ∧ xs ≠ [] then some (Val.tup []) else if 2 ≤ k ∧ k ≤ 1000 ∧ xs.length ≤ 1000 ∧ xs ≠ [] then some (Val.tup (List.replicate k.toNat xs).flatten) else none) = some u := e
    split at e
    · rename_i hk
      cases e
      cases r2.rv rfl
      have rv := r1.rv rfl
      cases rv with
      | @tup a1 Vs1 _ t1 l1 q1 => exact .inr ⟨a1, k, Vs1, rfl, rfl, seqT rp.sub t1, .inl ⟨hk, done_fz rp h (.tup t1 l1 q1)⟩⟩
    split at e
    · rename_i hk
      cases e
      cases r2.rv rfl
      cases r1.rv rfl with
      | @tup a1 Vs1 _ t1 l1 q1 =>
        exact .inr ⟨a1, k, Vs1, rfl, rfl, seqT rp.sub t1, .inr ⟨hk.1, fun z => hk.2 (by subst z; exact q1.isNil), fun p n => done_tup rp h .nil (Nat.zero_le _) p n⟩⟩
    split at e
    · rename_i hc
      obtain ⟨c1, c2, c3, c4⟩ := hc
      cases e
      cases r2.rv rfl
      cases r1.rv rfl with
      | @tup a1 Vs1 _ t1 l1 q1 =>
        have n1 := q1.length
        refine .inl (.inr (.inr ⟨a1, k, Vs1, rfl, rfl, seqT rp.sub t1, fun z => ?_, c1, c2, by omega, fun p n => done_tup rp h (RVs.rep k.toNat q1) ?_ p n⟩))
        · subst z
          exact c4 q1.isNil
        · rw [len_rep, sizeLine_eq]
          have a1 : k.toNat * Vs1.length ≤ 1000 * 1000 := Nat.mul_le_mul (by omega) (by omega)
          omega
    · cases e
  · rename_i xs k
    replace e : (if -(2 ^ 63) ≤ k ∧ k < 2 ^ 63 ∧ xs.length * k.toNat ≤ big then some (Val.lst (List.replicate k.toNat xs).flatten) else none) = some u := e
    split at e
    · rename_i hc
      obtain ⟨c1, c2, c3⟩ := hc
      cases e
      cases r2.rv rfl
      obtain ⟨a1, Vs1, rfl, t1, l1, q1⟩ := r1
      have n1 := q1.length
      rw [big_eq, n1] at c3
      exact .inl (.inr (.inl ⟨a1, k, Vs1, rfl, rfl, t1, c1, c2, c3, fun p n => done_lst al rp h (RVs.rep k.toNat q1) (by rw [len_rep, Nat.mul_comm]; exact c3) p n⟩))
    · cases e
theorem se_div (ha : SE X C W a ca) (hb : SE X C W b cb) : SE X C W (.BinOp a .FloorDiv b pos) (.bop .FloorDiv ca cb) := by
  refine se_bop op_fdivW ha hb fun v w u V1 V2 B F H σ ρ Q al e rp r1 r2 h => ?_
  replace e : divV v w = some u := e
  cases v <;> cases w <;> first | exact nomatch (show (none : Option Val) = some _ from e) | skip
  rename_i i j
  replace e : (if divOk j = true then some (Val.int (i / j)) else none) = some u := e
  split at e
  · rename_i hm
    cases e
    cases r1.rv rfl; cases r2.rv rfl
    exact ⟨_, _, rfl, rfl, divOk_iff.mp hm, done_fz rp h (.int _)⟩
  · cases e
theorem se_mod (ha : SE X C W a ca) (hb : SE X C W b cb) : SE X C W (.BinOp a .Mod b pos) (.bop .Mod ca cb) := by
  refine se_bop op_mod ha hb fun v w u V1 V2 B F H σ ρ Q al e rp r1 r2 h => ?_
  replace e : modV v w = some u := e
  cases v <;> cases w <;> first | exact nomatch (show (none : Option Val) = some _ from e) | skip
  rename_i i j
  replace e : (if 0 < j then some (Val.int (i % j)) else none) = some u := e
  split at e
  · rename_i hm
    cases e
    cases r1.rv rfl; cases r2.rv rfl
    exact ⟨_, _, rfl, rfl, hm, done_fz rp h (.int _)⟩
  · cases e
theorem se_pow (ha : SE X C W a ca) (hb : SE X C W b cb) : SE X C W (.BinOp a .Pow b pos) (.bop .Pow ca cb) := by
  refine se_bop op_pow ha hb fun v w u V1 V2 B F H σ ρ Q al e rp r1 r2 h => ?_
  replace e : powV v w = some u := e
  cases v <;> cases w <;> first | exact nomatch (show (none : Option Val) = some _ from e) | skip
  rename_i i j
  replace e : (if 0 ≤ j ∧ j ≤ 1000000 ∧ i.natAbs < 2 ^ 64 then some (Val.int (i ^ j.toNat)) else none) = some u := e
  split at e
  · rename_i hm
    cases e
    cases r1.rv rfl; cases r2.rv rfl
    exact ⟨_, _, rfl, rfl, hm, done_fz rp h (.int _)⟩
  · cases e

/-! ### data -/
mutual
theorem dp_of {K : PySem.W.Frag} {mg : Str → Option Value} {F H : Hp} (e : Same F H) : ∀ {v : Val} {x : V} {d : PyData}, RV K mg F v x → v.py = some d → Dp K H x d
  | _, _, _, .non, q => by cases q; exact .non
  | _, _, _, .bl b, q => by cases q; exact .bl b
  | _, _, _, .int i, q => by cases q; exact .int i
  | _, _, _, .str s, q => by cases q; exact .str s
  | .tup xs, _, d, .tup t l r, q => by
    have q : (Val.pys xs).map PyData.tuple = some d := q
    cases h : Val.pys xs with
    | none => rw [h] at q; cases q
    | some ds =>
      rw [h] at q
      cases q
      exact .tup (seqT e t) (dps_of e r h)
  | .lst xs, _, d, .lst t l r, q => by
    have q : (Val.pys xs).map PyData.list = some d := q
    cases h : Val.pys xs with
    | none => rw [h] at q; cases q
    | some ds =>
      rw [h] at q
      cases q
      exact .lst (SqL.of (e _ _ t)) (dps_of e r h)
  | _, _, _, .scr _ _, q => nomatch q
  | _, _, _, .ins _ _ _ _, q => nomatch q
  | _, _, _, .glb _, q => nomatch q
  | _, _, _, .typ _, q => nomatch q
theorem dps_of {K : PySem.W.Frag} {mg : Str → Option Value} {F H : Hp} (e : Same F H) : ∀ {vs : List Val} {xs : List V} {ds : List PyData}, RVs K mg F vs xs → Val.pys vs = some ds → DpAll K H xs ds
  | _, _, _, .nil, q => by cases q; exact .nil
  | v :: vs, _, ds, .cons a b, q => by
    have q : (match v.py, Val.pys vs with
      | some d, some ds => some (d :: ds)
      | _, _ => none) = some ds := q
    cases h1 : v.py with
    | none => rw [h1] at q; cases q
    | some d =>
      cases h2 : Val.pys vs with
      | none => rw [h1, h2] at q; cases q
      | some ds' =>
        rw [h1, h2] at q
        cases q
        exact .cons (dp_of e a h1) (dps_of e b h2)
end
theorem dp_r1 {K : PySem.W.Frag} {mg : Str → Option Value} {F H : Hp} (e : Same F H) {v : Val} {x : V} {d : PyData} (r : R1 K mg F H v x) (q : v.py = some d) : Dp K H x d := by
  cases v with
  | lst xs =>
    obtain ⟨a, Vs, rfl, t, l, r⟩ := r
    have q : (Val.pys xs).map PyData.list = some d := q
    cases h : Val.pys xs with
    | none => rw [h] at q; cases q
    | some ds =>
      rw [h] at q
      cases q
      exact .lst (SqL.of t) (dps_of e r h)
  | ins c ns vs => exact nomatch q
  | non => exact dp_of e r q
  | bl b => exact dp_of e r q
  | int i => exact dp_of e r q
  | str s => exact dp_of e r q
  | tup xs => exact dp_of e r q
  | scr ns => exact nomatch q
  | glb y => exact nomatch q
  | typ n => exact nomatch q

/-! ### comparisons -/
def rEqM (K : PySem.W.Frag) (f : Bool → Bool) : R2 := fun x y H Q => ∃ d e, Dp K H x d ∧ Dp K H y e ∧ (d.canLay0 && e.canLay0 && decide (min d.depth e.depth ≤ 64)) = true ∧ Q (.bl (f (PyData.eqv d e))) H
theorem op_eqM (hu : X.A.units + 64 < cLine) : OpR X (compareOp .Eq) (rEqM X.K id) := by
  intro pins s σ H x y v u Q I rx ry h
  obtain ⟨d, e, hd, he, hc, q⟩ := h
  rw [Bool.and_eq_true, Bool.and_eq_true, decide_eq_true_eq] at hc
  obtain ⟨as, r1⟩ := Dp.reads I d x v hd rx
  obtain ⟨bs, r2⟩ := Dp.reads I e y u he ry
  exact SeqAt.compareEq_reads r1 r2 hc.1.1 hc.1.2 (by omega) ⟨.bl _, H, I, rfl, q⟩
theorem op_neM (hu : X.A.units + 64 < cLine) : OpR X (compareOp .NotEq) (rEqM X.K not) := by
  intro pins s σ H x y v u Q I rx ry h
  obtain ⟨d, e, hd, he, hc, q⟩ := h
  rw [Bool.and_eq_true, Bool.and_eq_true, decide_eq_true_eq] at hc
  obtain ⟨as, r1⟩ := Dp.reads I d x v hd rx
  obtain ⟨bs, r2⟩ := Dp.reads I e y u he ry
  exact SeqAt.compareNe_reads r1 r2 hc.1.1 hc.1.2 (by omega) ⟨.bl _, H, I, rfl, q⟩
def rInM (K : PySem.W.Frag) (f : Bool → Bool) : R2 := fun x y H Q => ∃ d ds, Dp K H x d ∧ (Dp K H y (.list ds) ∨ Dp K H y (.tuple ds)) ∧ (d.canLay0 && PyData.canLayAll0 ds && decide (min (PyData.depthAll ds) d.depth ≤ 64)) = true ∧ Q (.bl (f (ds.any fun z => PyData.eqv z d))) H
theorem op_inM (hu : X.A.units + 65 < cLine) : OpR X (compareOp .In) (rInM X.K id) := by
  intro pins s σ H x y v u Q I rx ry h
  obtain ⟨d, ds, hd, he, hc, q⟩ := h
  rw [Bool.and_eq_true, Bool.and_eq_true, decide_eq_true_eq] at hc
  obtain ⟨as, r1⟩ := Dp.reads I d x v hd rx
  rcases he with he | he
  · obtain ⟨bs, r2⟩ := Dp.reads I (.list ds) y u he ry
    exact SeqAt.in_list_reads r2 r1 hc.1.2 hc.1.1 (by omega) ⟨.bl _, H, I, rfl, q⟩
  · obtain ⟨bs, r2⟩ := Dp.reads I (.tuple ds) y u he ry
    exact SeqAt.in_tuple_reads r2 r1 hc.1.2 hc.1.1 (by omega) ⟨.bl _, H, I, rfl, q⟩
theorem op_notInM (hu : X.A.units + 65 < cLine) : OpR X (compareOp .NotIn) (rInM X.K not) := by
  intro pins s σ H x y v u Q I rx ry h
  obtain ⟨d, ds, hd, he, hc, q⟩ := h
  rw [Bool.and_eq_true, Bool.and_eq_true, decide_eq_true_eq] at hc
  obtain ⟨as, r1⟩ := Dp.reads I d x v hd rx
  rcases he with he | he
  · obtain ⟨bs, r2⟩ := Dp.reads I (.list ds) y u he ry
    exact SeqAt.notIn_list_reads r2 r1 hc.1.2 hc.1.1 (by omega) ⟨.bl _, H, I, rfl, q⟩
  · obtain ⟨bs, r2⟩ := Dp.reads I (.tuple ds) y u he ry
    exact SeqAt.notIn_tuple_reads r2 r1 hc.1.2 hc.1.1 (by omega) ⟨.bl _, H, I, rfl, q⟩

/-- one sign in a text -/
def rSg (g : Bool → Bool) : R2 := fun x y H Q => ∃ (c : Nat) (z : Str), x = .str ⟨#[c]⟩ ∧ y = .str z ∧ Q (.bl (g (decide (c ∈ z.cps.toList)))) H
/-- the rule of a comparison -/
def cmpR (K : PySem.W.Frag) : CmpOp → R2
  | .Eq => rEqM K id
  | .NotEq => rEqM K not
  | .Lt => fun x y H Q => rI0 (fun i j => .bl (decide (i < j))) x y H Q ∨ rLtT K x y H Q
  | .LtE => rI0 fun i j => .bl (decide (i ≤ j))
  | .Gt => rI0 fun i j => .bl (decide (j < i))
  | .GtE => rI0 fun i j => .bl (decide (j ≤ i))
  | .In => fun x y H Q => rInM K id x y H Q ∨ rSg id x y H Q
  | .NotIn => fun x y H Q => rInM K not x y H Q ∨ rSg not x y H Q
  | .Is => fun x y H Q => y = .non ∧ Q (.bl (decide (x = .non))) H
  | .IsNot => fun x y H Q => y = .non ∧ Q (.bl (!decide (x = .non))) H
theorem cmp_ok (hu : X.A.units + 65 < cLine) : ∀ o : CmpOp, OpR X (compareOp o) (cmpR X.K o)
  | .Eq => op_eqM (by omega)
  | .NotEq => op_neM (by omega)
  | .Lt => op_lt.or (op_ltT (by omega))
  | .LtE => op_le
  | .Gt => op_gt
  | .GtE => op_ge
  | .In => OpR.or (op_inM hu) op_in_sign
  | .NotIn => OpR.or (op_notInM hu) op_notIn_sign
  | .Is => op_isN
  | .IsNot => op_notN
theorem eqv_inv {v w : Val} {u : Bool} (e : eqv v w = some u) : ∃ d g, v.py = some d ∧ w.py = some g ∧ (d.canLay0 && g.canLay0 && decide (min d.depth g.depth ≤ 64)) = true ∧ u = PyData.eqv d g := by
  unfold eqv at e
  split at e
  · rename_i d g h1 h2
    split at e
    · rename_i hc
      exact ⟨d, g, h1, h2, hc, (Option.some.inj e).symm⟩
    · cases e
  · cases e
theorem inL_inv {v : Val} {ws : List Val} {u : Bool} (e : inL v ws = some u) : ∃ d ds, v.py = some d ∧ Val.pys ws = some ds ∧ (d.canLay0 && PyData.canLayAll0 ds && decide (min (PyData.depthAll ds) d.depth ≤ 64)) = true ∧ u = ds.any fun y => PyData.eqv y d := by
  unfold inL at e
  split at e
  · rename_i d g h1 h2
    split at e
    · rename_i hc
      exact ⟨d, g, h1, h2, hc, (Option.some.inj e).symm⟩
    · cases e
  · cases e
theorem signIn_inv {v : Val} {z : Str} {u : Bool} (e : signIn v z = some u) : ∃ c, v = .str ⟨#[c]⟩ ∧ u = decide (c ∈ z.cps.toList) := by
  unfold signIn at e
  split at e
  · rename_i y
    split at e
    · rename_i c h
      refine ⟨c, ?_, (Option.some.inj e).symm⟩
      obtain ⟨ys⟩ := y
      have : ys = #[c] := by
        rw [← Array.toArray_toList (xs := ys), h]
      rw [this]
    · cases e
  · cases e
theorem map_inv {α β : Type} {f : α → β} {o : Option α} {b : β} (e : o.map f = some b) : ∃ a, o = some a ∧ b = f a := by
  cases o with
  | none => cases e
  | some a => exact ⟨a, rfl, (Option.some.inj e).symm⟩
theorem isNon_iff {K : PySem.W.Frag} {mg : Str → Option Value} {F H : Hp} {v : Val} {x : V} (r : R1 K mg F H v x) : isNon v = decide (x = .non) := by
  cases v with
  | lst xs => obtain ⟨a, Vs, rfl, _⟩ := r; rfl
  | ins c ns vs => obtain ⟨a, C, dx, Vs, rfl, _⟩ := r; rfl
  | non => cases r.rv rfl; rfl
  | bl b => cases r.rv rfl; rfl
  | int i => cases r.rv rfl; rfl
  | str s => cases r.rv rfl; rfl
  | tup xs => cases r.rv rfl; rfl
  | scr ns => cases r.rv rfl; rfl
  | glb y => cases r.rv rfl; rfl
  | typ n => cases r.rv rfl; rfl
/-- the comparison's answer is the evaluator's -/
theorem cmp_ans {K : PySem.W.Frag} {mg : Str → Option Value} {F H : Hp} (e : Same F H) {o : CmpOp} {v w : Val} {V1 V2 : V} {u : Bool} {Q : VK} (h : cmpv o v w = some u) (r1 : R1 K mg F H v V1) (r2 : R1 K mg F H w V2) (q : Q (.bl u) H) : cmpR K o V1 V2 H Q := by
  have lt_inv : ∀ {v w : Val} {u : Bool}, ltV v w = some u → (∃ i j, v = .int i ∧ w = .int j ∧ u = decide (i < j)) ∨ ∃ xs ys ns ms, v = .tup xs ∧ w = .tup ys ∧ intsOf xs = some ns ∧ intsOf ys = some ms ∧ u = lexLt ns ms := by
    intro v w u e
    cases v <;> cases w <;> first | exact nomatch (show (none : Option Bool) = some _ from e) | skip
    · exact .inl ⟨_, _, rfl, rfl, (Option.some.inj e).symm⟩
    · rename_i xs ys
      have e : (match intsOf xs, intsOf ys with
        | some ns, some ms => some (lexLt ns ms)
        | _, _ => none) = some u := e
      cases h1 : intsOf xs with
      | none => rw [h1] at e; cases e
      | some ns =>
        cases h2 : intsOf ys with
        | none => rw [h1, h2] at e; cases e
        | some ms =>
          rw [h1, h2] at e
          exact .inr ⟨xs, ys, ns, ms, rfl, rfl, h1, h2, (Option.some.inj e).symm⟩
  cases o with
  | Eq =>
    obtain ⟨d, g, h1, h2, hc, rfl⟩ := eqv_inv h
    exact ⟨d, g, dp_r1 e r1 h1, dp_r1 e r2 h2, hc, q⟩
  | NotEq =>
    obtain ⟨b, h', rfl⟩ := map_inv h
    obtain ⟨d, g, h1, h2, hc, rfl⟩ := eqv_inv h'
    exact ⟨d, g, dp_r1 e r1 h1, dp_r1 e r2 h2, hc, q⟩
  | Lt =>
    rcases lt_inv h with ⟨i, j, rfl, rfl, rfl⟩ | ⟨xs, ys, ns, ms, rfl, rfl, h1, h2, rfl⟩
    · cases r1.rv rfl; cases r2.rv rfl
      exact .inl ⟨_, _, rfl, rfl, q⟩
    · cases r1.rv rfl with
      | @tup a1 Vs1 _ t1 l1 q1 =>
        cases r2.rv rfl with
        | @tup a2 Vs2 _ t2 l2 q2 =>
          refine .inr ⟨a1, a2, ns, ms, rfl, rfl, ?_, ?_, q⟩
          · rw [← q1.intsOf h1]; exact seqT e t1
          · rw [← q2.intsOf h2]; exact seqT e t2
  | LtE =>
    replace h : leV v w = some u := h
    cases v <;> cases w <;> first | exact nomatch (show (none : Option Bool) = some _ from h) | skip
    cases h; cases r1.rv rfl; cases r2.rv rfl
    exact ⟨_, _, rfl, rfl, q⟩
  | Gt =>
    replace h : gtV v w = some u := h
    cases v <;> cases w <;> first | exact nomatch (show (none : Option Bool) = some _ from h) | skip
    cases h; cases r1.rv rfl; cases r2.rv rfl
    exact ⟨_, _, rfl, rfl, q⟩
  | GtE =>
    replace h : geV v w = some u := h
    cases v <;> cases w <;> first | exact nomatch (show (none : Option Bool) = some _ from h) | skip
    cases h; cases r1.rv rfl; cases r2.rv rfl
    exact ⟨_, _, rfl, rfl, q⟩
  | In =>
    replace h : inV v w = some u := h
    cases w <;> first | exact nomatch (show (none : Option Bool) = some _ from h) | skip
    · obtain ⟨c, rfl, rfl⟩ := signIn_inv h
      cases r1.rv rfl; cases r2.rv rfl
      exact .inr ⟨c, _, rfl, rfl, q⟩
    · obtain ⟨d, ds, h1, h2, hc, rfl⟩ := inL_inv h
      exact .inl ⟨d, ds, dp_r1 e r1 h1, .inr (dp_r1 e r2 (by show (Val.pys _).map PyData.tuple = _; rw [h2]; rfl)), hc, q⟩
    · obtain ⟨d, ds, h1, h2, hc, rfl⟩ := inL_inv h
      exact .inl ⟨d, ds, dp_r1 e r1 h1, .inl (dp_r1 e r2 (by show (Val.pys _).map PyData.list = _; rw [h2]; rfl)), hc, q⟩
  | NotIn =>
    obtain ⟨b, h', rfl⟩ := map_inv h
    clear h
    cases w <;> first | exact nomatch (show (none : Option Bool) = some _ from h') | skip
    · obtain ⟨c, rfl, rfl⟩ := signIn_inv h'
      cases r1.rv rfl; cases r2.rv rfl
      exact .inr ⟨c, _, rfl, rfl, q⟩
    · obtain ⟨d, ds, h1, h2, hc, rfl⟩ := inL_inv h'
      exact .inl ⟨d, ds, dp_r1 e r1 h1, .inr (dp_r1 e r2 (by show (Val.pys _).map PyData.tuple = _; rw [h2]; rfl)), hc, q⟩
    · obtain ⟨d, ds, h1, h2, hc, rfl⟩ := inL_inv h'
      exact .inl ⟨d, ds, dp_r1 e r1 h1, .inl (dp_r1 e r2 (by show (Val.pys _).map PyData.list = _; rw [h2]; rfl)), hc, q⟩
  | Is =>
    replace h : isV v w = some u := h
    cases w <;> first | exact nomatch (show (none : Option Bool) = some _ from h) | skip
    cases h; cases r2.rv rfl
    exact ⟨rfl, by rw [← isNon_iff r1]; exact q⟩
  | IsNot =>
    replace h : nIsV v w = some u := h
    cases w <;> first | exact nomatch (show (none : Option Bool) = some _ from h) | skip
    cases h; cases r2.rv rfl
    exact ⟨rfl, by rw [← isNon_iff r1]; exact q⟩
theorem se_cmp {o : CmpOp} (hu : X.A.units + 65 < cLine) (ha : SE X C W a ca) (hb : SE X C W b cb) (hm : behindInMarks o b = false) : SE X C W (.Compare a [o] [b] pos) (.cmp o ca cb) :=
  pe_imp (pe_cmpR (cmp_ok hu o) ha hb hm) fun σ H Q ⟨F, ρ, rp, h⟩ => by
    refine two ha (g := fun p q ρ => match p, q with
      | some v, some w => Out.opt ((cmpv o v w).map fun b => (⟨.bl b, .fz⟩ : R)) ρ
      | _, _ => .stuck) (r := fun x y H2 => cmpR X.K o x y H2 Q) rp h (fun _ _ => rfl) (fun p _ => by cases p <;> rfl) fun v w ρ2 V1 V2 F2 H2 al rp2 r1 r2 h2 => ?_
    have h2 : PostE X.K X.mg H F2 H2 σ ρ2 W Q (Out.opt ((cmpv o v w).map fun b => ⟨.bl b, .fz⟩) ρ2) := h2
    cases e : cmpv o v w with
    | none =>
      rw [e] at h2
      exact h2.elim
    | some u =>
      rw [e] at h2
      exact cmp_ans rp2.sub e r1 r2 (done_fz rp2 h2 (.bl u))
end
end Rv

/-! Rv, part 4: tests; the other expressions. -/
namespace Rv
open PySem PySem.Spec PyProof.Rows L2

theorem Out.bind_assoc {α β γ : Type} (x : Out α) (f : α → Env → Out β) (g : β → Env → Out γ) : (x.bind f).bind g = x.bind fun a ρ => (f a ρ).bind g := by
  cases x <;> rfl
theorem Out.bind_ite {α β : Type} (k : Bool) (x y : Out α) (g : α → Env → Out β) : (if k = true then x else y).bind g = if k = true then x.bind g else y.bind g := by
  cases k <;> rfl

def rdT (K : PySem.W.Frag) (mg : Str → Option Value) (C : Ctx) (W : WX) (c : Ex) : TT := fun σ H Q => ∃ F ρ, Rp K mg F H σ ρ ∧ PostT K mg F H σ ρ W Q (evT C c ρ)
def ST (X : Cx) (C : Ctx) (W : WX) (e : Expr) (c : Ex) : Prop := PT X e (rdT X.K X.mg C W c)
def SW (X : Cx) (C : Ctx) (W : WX) (e : Expr) (c : Ex) : Prop := PW X e (rdT X.K X.mg C W c)
theorem pw_imp {X : Cx} {e : Expr} {t t' : TT} (h : PW X e t) (i : ∀ σ H Q, t' σ H Q → t σ H Q) : PW X e t' := ⟨fun wh pins s σ H Q I q => h.run wh pins s σ H Q I (i σ H Q q)⟩

section
variable {K : PySem.W.Frag} {mg : Str → Option Value} {C : Ctx} {W : WX} {F F1 F' H H1 H' : Hp} {σ : L2.St} {ρ ρ1 ρ' : Env} {Q : VK}
/-- seen from a later heap, less is new -/
theorem rebase {B B' : Hp} {o : Out R} (al : ∀ a, B a ≠ none → B' a ≠ none) (h : PostE K mg B F H σ ρ W Q o) : PostE K mg B' F H σ ρ W Q o :=
  h.imp fun r ρ' F' H' _ _ q V rr fr => q V rr fun z a e => Classical.byContradiction fun n => al a n (fr z a e)
/-- a test, then what follows -/
theorem bindT {α : Type} {G : α → Env → Hp → Hp → Prop} {c : Ex} {f : Bool → Env → Out α} {Q1 : Bool → Hp → Prop} (rp : Rp K mg F H σ ρ) (h : Post K mg F H σ ρ W G ((evT C c ρ).bind f))
    (k : ∀ b ρ1 F1 H1, Rp K mg F1 H1 σ ρ1 → Step F H (Own ρ σ) F1 H1 (Own ρ1 σ) → Post K mg F1 H1 σ ρ1 W G (f b ρ1) → Q1 b H1) : rdT K mg C W c σ H Q1 :=
  ⟨F, ρ, rp, h.of_bind.imp fun b ρ1 F1 H1 rp1 st q => k b ρ1 F1 H1 rp1 st q⟩
theorem truth_ok {v : Val} {V : V} {k : Bool} (e : Same F H) (r : R1 K mg F H v V) (h : truth v = some k) : TruV K V H k := by
  cases v with
  | lst xs =>
    obtain ⟨a, Vs, rfl, t, l, r⟩ := r
    have h : some (!xs.isEmpty) = some k := h
    cases h
    refine .inl ⟨Vs, SqL.of t, ?_⟩
    cases r <;> rfl
  | tup xs =>
    have h : some (!xs.isEmpty) = some k := h
    cases h
    cases r.rv rfl with
    | @tup a Vs _ t l q =>
      refine .inr (.inl ⟨Vs, seqT e t, ?_⟩)
      cases q <;> rfl
  | non => cases h; cases r.rv rfl; rfl
  | bl b => cases h; cases r.rv rfl; rfl
  | int i => cases h; cases r.rv rfl; rfl
  | str s => cases h
  | ins c ns vs => cases h
  | scr ns => cases h
  | glb y => cases h
  | typ n => cases h
theorem tru_ans {r : R} {V : V} {G : Bool → Env → Hp → Hp → Prop} (rp : Rp K mg F H σ ρ) (rr : RR K mg F H σ ρ r V) (h : Post K mg F H σ ρ W G (tru r ρ)) : ∃ k, TruV K V H k ∧ Post K mg F H σ ρ W G (.ok k ρ) := by
  unfold tru at h
  cases e : rd ρ r with
  | none => rw [e] at h; exact h.elim
  | some v =>
    rw [e] at h
    have h : Post K mg F H σ ρ W G (Out.opt (truth v) ρ) := h
    cases e2 : truth v with
    | none => rw [e2] at h; exact h.elim
    | some k =>
      rw [e2] at h
      exact ⟨k, truth_ok rp.sub (rr.r1 rp e) e2, h⟩
end

section
variable {X : Cx} {C : Ctx} {W : WX} {a b c : Expr} {ca cb cc : Ex} {pos : Pos}
/-- a test by the value's truth -/
theorem st_gen (ha : SE X C W a ca) (he : ∀ whole, isTrue a X.env whole = (do let v ← whole; standAt a.pos; holding [v] (truthy v))) : ST X C W a ca :=
  pt_imp (pt_truth ha he) fun σ H Q ⟨F, ρ, rp, h⟩ => by
    have h : PostT X.K X.mg F H σ ρ W Q ((evE C ca ρ).bind tru) := h
    refine bindX rp h fun r ρ1 V F1 H1 rp1 st rr h1 => ?_
    obtain ⟨k, tv, h2⟩ := tru_ans rp1 rr h1
    exact ⟨k, tv, h2.now rp1⟩

theorem st_cmp {o : CmpOp} (hu : X.A.units + 65 < cLine) (ha : SE X C W a ca) (hb : SE X C W b cb) (hm : behindInMarks o b = false) : ST X C W (.Compare a [o] [b] pos) (.cmp o ca cb) :=
  pt_imp (pt_cmpR (cmp_ok hu o) ha hb hm) fun σ H Q ⟨F, ρ, rp, h⟩ => by
    have h : PostT X.K X.mg F H σ ρ W Q (((evE C ca ρ).bind fun x ρ => (evE C cb ρ).bind fun y ρ => (match rd ρ x, rd ρ y with
      | some v, some w => Out.opt ((cmpv o v w).map fun b => (⟨.bl b, .fz⟩ : R)) ρ
      | _, _ => .stuck)).bind tru) := h
    rw [Out.bind_assoc] at h
    simp only [Out.bind_assoc] at h
    refine two ha (g := fun p q ρ => (match p, q with
      | some v, some w => Out.opt ((cmpv o v w).map fun b => (⟨.bl b, .fz⟩ : R)) ρ
      | _, _ => .stuck).bind tru) (r := fun x y H2 => cmpR X.K o x y H2 fun z H' => ∃ k, z = .bl k ∧ Q k H') rp h (fun _ _ => rfl) (fun p _ => by cases p <;> rfl) fun v w ρ2 V1 V2 F2 H2 al rp2 r1 r2 h2 => ?_
    have h2 : PostT X.K X.mg F2 H2 σ ρ2 W Q ((Out.opt ((cmpv o v w).map fun b => (⟨.bl b, .fz⟩ : R)) ρ2).bind tru) := h2
    cases e : cmpv o v w with
    | none =>
      rw [e] at h2
      exact h2.elim
    | some u =>
      rw [e] at h2
      exact cmp_ans rp2.sub e r1 r2 ⟨u, rfl, Post.now rp2 h2⟩
/-- a chain of two -/
theorem chn_ok {o p : CmpOp} (ha : SE X C W a ca) {G : R → Env → Hp → Hp → Prop} {σ : L2.St} {H F : Hp} {ρ : Env} {Q : VK} (rp : Rp X.K X.mg F H σ ρ) (h : Post X.K X.mg F H σ ρ W G (evE C (.chn o p ca cb cc) ρ))
    (hq : ∀ u ρ2 F2 H2, Rp X.K X.mg F2 H2 σ ρ2 → Post X.K X.mg F2 H2 σ ρ2 W G (.ok ⟨.bl u, .fz⟩ ρ2) → Q (.bl u) H2) :
    tChain (cmpR X.K o) (cmpR X.K p) (rdE X.K X.mg C W ca) (rdE X.K X.mg C W cb) (rdE X.K X.mg C W cc) σ H Q := by
  refine bindX rp h fun x ρ1 V1 F1 H1 rp1 st1 rr1 h1 => ?_
  refine bindX rp1 h1 fun y ρ2 V2 F2 H2 rp2 st2 rr2 h2 => ?_
  have rr1' := rr1.keep st2
  cases e1 : rd ρ2 x with
  | none =>
    rw [e1] at h2
    exact h2.elim
  | some v =>
    cases e2 : rd ρ2 y with
    | none =>
      rw [e1, e2] at h2
      exact h2.elim
    | some w =>
      rw [e1, e2] at h2
      have h2 : Post X.K X.mg F2 H2 σ ρ2 W G (match cmpv o v w with
        | some true => (evE C cc ρ2).bind fun z ρ => match rd ρ y, rd ρ z with
          | some w, some u => Out.opt ((cmpv p w u).map fun b => ⟨.bl b, .fz⟩) ρ
          | _, _ => .stuck
        | some false => .ok ⟨.bl false, .fz⟩ ρ2
        | none => .stuck) := h2
      cases e : cmpv o v w with
      | none =>
        rw [e] at h2
        exact h2.elim
      | some k =>
        rw [e] at h2
        refine cmp_ans rp2.sub e (rr1'.r1 rp2 e1) (rr2.r1 rp2 e2) ⟨k, rfl, ?_⟩
        cases k with
        | false => exact iteF (hq false ρ2 F2 H2 rp2 h2)
        | true =>
          refine iteT (bindX rp2 h2 fun z ρ3 V3 F3 H3 rp3 st3 rr3 h3 => ?_)
          have rr2' := rr2.keep st3
          cases e3 : rd ρ3 y with
          | none =>
            rw [e3] at h3
            exact h3.elim
          | some w' =>
            cases e4 : rd ρ3 z with
            | none =>
              rw [e3, e4] at h3
              exact h3.elim
            | some u =>
              rw [e3, e4] at h3
              have h3 : Post X.K X.mg F3 H3 σ ρ3 W G (Out.opt ((cmpv p w' u).map fun b => ⟨.bl b, .fz⟩) ρ3) := h3
              cases e5 : cmpv p w' u with
              | none =>
                rw [e5] at h3
                exact h3.elim
              | some k2 =>
                rw [e5] at h3
                exact cmp_ans rp3.sub e5 (rr2'.r1 rp3 e3) (rr3.r1 rp3 e4) (hq k2 ρ3 F3 H3 rp3 h3)
theorem se_chn {o p : CmpOp} (hu : X.A.units + 65 < cLine) (ha : SE X C W a ca) (hb : SE X C W b cb) (hc : SE X C W c cc) (hm : lastMarks [o, p] [b, c] = false) : SE X C W (.Compare a [o, p] [b, c] pos) (.chn o p ca cb cc) :=
  pe_imp (pe_chain (cmp_ok hu o) (cmp_ok hu p) ha hb hc hm) fun σ H Q ⟨F, ρ, rp, h⟩ => chn_ok ha rp h fun u ρ2 F2 H2 rp2 h2 => done_fz rp2 h2 (.bl u)
theorem st_chn {o p : CmpOp} (hu : X.A.units + 65 < cLine) (ha : SE X C W a ca) (hb : SE X C W b cb) (hc : SE X C W c cc) (hm : lastMarks [o, p] [b, c] = false) : ST X C W (.Compare a [o, p] [b, c] pos) (.chn o p ca cb cc) :=
  pt_imp (pt_chain (cmp_ok hu o) (cmp_ok hu p) ha hb hc hm) fun σ H Q ⟨F, ρ, rp, h⟩ => by
    have h : PostT X.K X.mg F H σ ρ W Q ((evE C (.chn o p ca cb cc) ρ).bind tru) := h
    exact chn_ok ha rp h.of_bind fun u ρ2 F2 H2 rp2 h2 => ⟨u, rfl, Post.now rp2 (Post.now (G := fun r ρ' F' H' => Post X.K X.mg F' H' σ ρ' W (fun b _ _ H' => Q b H') (tru r ρ')) rp2 h2)⟩

/-! ### not, and, or, if -/
theorem se_not (ha : ST X C W a ca) (he : SE X C W a ca) : SE X C W (.UnaryOp .Not a pos) (.not ca) :=
  pe_imp (pe_notT he) fun σ H Q ⟨F, ρ, rp, h⟩ => by
    have h : PostE X.K X.mg H F H σ ρ W Q (((evE C ca ρ).bind tru).bind fun b ρ => .ok ⟨.bl (!b), .fz⟩ ρ) := h
    rw [Out.bind_assoc] at h
    refine bindX rp h fun r ρ1 V F1 H1 rp1 st rr h1 => ?_
    obtain ⟨k, tv, h2⟩ := tru_ans rp1 rr h1.of_bind
    exact ⟨k, tv, done_fz rp1 (h2.now rp1) (.bl _)⟩
theorem st_not (ha : ST X C W a ca) : ST X C W (.UnaryOp .Not a pos) (.not ca) :=
  pt_imp (pt_not ha) fun σ H Q ⟨F, ρ, rp, h⟩ => by
    have h : PostT X.K X.mg F H σ ρ W Q (((evT C ca ρ).bind fun b ρ => .ok ⟨.bl (!b), .fz⟩ ρ).bind tru) := h
    rw [Out.bind_assoc] at h
    exact bindT rp h fun b ρ1 F1 H1 rp1 st h1 => Post.now rp1 h1
theorem rr_tru {K : PySem.W.Frag} {mg : Str → Option Value} {F H : Hp} {σ : L2.St} {ρ : Env} : True := trivial
theorem se_and {rest : List Expr} (ha : SE X C W a ca) (hb : SE X C W (.BoolOp .And (b :: rest) pos) cb) : SE X C W (.BoolOp .And (a :: b :: rest) pos) (.and ca cb) :=
  pe_imp (pe_andT ha hb) fun σ H Q ⟨F, ρ, rp, h⟩ => by
    refine bindF rp h fun x ρ1 V F1 H1 rp1 st rr fr h1 => ?_
    obtain ⟨k, tv, h2⟩ := tru_ans rp1 rr h1.of_bind
    refine ⟨k, tv, ?_⟩
    have h3 := h2.now rp1
    cases k with
    | true => exact iteT ⟨F1, ρ1, rp1, rebase (fun a q => st.al a q) h3⟩
    | false => exact iteF (h3.now rp1 V rr fr)
theorem se_or {rest : List Expr} (ha : SE X C W a ca) (hb : SE X C W (.BoolOp .Or (b :: rest) pos) cb) : SE X C W (.BoolOp .Or (a :: b :: rest) pos) (.or ca cb) :=
  pe_imp (pe_orT ha hb) fun σ H Q ⟨F, ρ, rp, h⟩ => by
    refine bindF rp h fun x ρ1 V F1 H1 rp1 st rr fr h1 => ?_
    obtain ⟨k, tv, h2⟩ := tru_ans rp1 rr h1.of_bind
    refine ⟨k, tv, ?_⟩
    have h3 := h2.now rp1
    cases k with
    | true => exact iteT (h3.now rp1 V rr fr)
    | false => exact iteF ⟨F1, ρ1, rp1, rebase (fun a q => st.al a q) h3⟩
theorem se_one {o : BoolOp} (ha : SE X C W a ca) : SE X C W (.BoolOp o [a] pos) ca := pe_one ha
theorem evT_and {ρ : Env} : evT C (.and ca cb) ρ = (evT C ca ρ).bind fun k ρ => if k = true then evT C cb ρ else .ok false ρ := by
  show ((evE C ca ρ).bind fun x ρ => (tru x ρ).bind fun k ρ => if k = true then evE C cb ρ else .ok x ρ).bind tru = ((evE C ca ρ).bind tru).bind fun k ρ => if k = true then evT C cb ρ else .ok false ρ
  rw [Out.bind_assoc, Out.bind_assoc]
  congr 1
  funext x ρ1
  cases e : rd ρ1 x with
  | none =>
    have h : tru x ρ1 = .stuck := by unfold tru; rw [e]
    rw [h]; rfl
  | some v =>
    cases e2 : truth v with
    | none =>
      have h : tru x ρ1 = .stuck := by unfold tru; rw [e]; show Out.opt (truth v) ρ1 = _; rw [e2]; rfl
      rw [h]; rfl
    | some k =>
      have h : tru x ρ1 = .ok k ρ1 := by unfold tru; rw [e]; show Out.opt (truth v) ρ1 = _; rw [e2]; rfl
      rw [h]
      cases k with
      | true => rfl
      | false => exact h
theorem evT_or {ρ : Env} : evT C (.or ca cb) ρ = (evT C ca ρ).bind fun k ρ => if k = true then .ok true ρ else evT C cb ρ := by
  show ((evE C ca ρ).bind fun x ρ => (tru x ρ).bind fun k ρ => if k = true then .ok x ρ else evE C cb ρ).bind tru = ((evE C ca ρ).bind tru).bind fun k ρ => if k = true then .ok true ρ else evT C cb ρ
  rw [Out.bind_assoc, Out.bind_assoc]
  congr 1
  funext x ρ1
  cases e : rd ρ1 x with
  | none =>
    have h : tru x ρ1 = .stuck := by unfold tru; rw [e]
    rw [h]; rfl
  | some v =>
    cases e2 : truth v with
    | none =>
      have h : tru x ρ1 = .stuck := by unfold tru; rw [e]; show Out.opt (truth v) ρ1 = _; rw [e2]; rfl
      rw [h]; rfl
    | some k =>
      have h : tru x ρ1 = .ok k ρ1 := by unfold tru; rw [e]; show Out.opt (truth v) ρ1 = _; rw [e2]; rfl
      rw [h]
      cases k with
      | true => exact h
      | false => rfl
theorem sw_and1 (ha : ST X C W a ca) : SW X C W (.BoolOp .And [a] pos) ca := pw_and1 ha
theorem sw_or1 (ha : ST X C W a ca) : SW X C W (.BoolOp .Or [a] pos) ca := pw_or1 ha
theorem sw_and {rest : List Expr} (ha : ST X C W a ca) (hb : SW X C W (.BoolOp .And (b :: rest) pos) cb) : SW X C W (.BoolOp .And (a :: b :: rest) pos) (.and ca cb) :=
  pw_imp (pw_and ha hb) fun σ H Q ⟨F, ρ, rp, h⟩ => by
    rw [evT_and] at h
    refine bindT rp h fun k ρ1 F1 H1 rp1 st h1 => ?_
    cases k with
    | true => exact iteT ⟨F1, ρ1, rp1, h1⟩
    | false => exact iteF (Post.now rp1 h1)
theorem sw_or {rest : List Expr} (ha : ST X C W a ca) (hb : SW X C W (.BoolOp .Or (b :: rest) pos) cb) : SW X C W (.BoolOp .Or (a :: b :: rest) pos) (.or ca cb) :=
  pw_imp (pw_or ha hb) fun σ H Q ⟨F, ρ, rp, h⟩ => by
    rw [evT_or] at h
    refine bindT rp h fun k ρ1 F1 H1 rp1 st h1 => ?_
    cases k with
    | true => exact iteT (Post.now rp1 h1)
    | false => exact iteF ⟨F1, ρ1, rp1, h1⟩
theorem se_ite (hc : ST X C W c cc) (ha : SE X C W a ca) (hb : SE X C W b cb) : SE X C W (.IfExp c a b pos) (.ite cc ca cb) :=
  pe_imp (pe_ifExp hc ha hb) fun σ H Q ⟨F, ρ, rp, h⟩ => by
    refine bindT (c := cc) rp h fun k ρ1 F1 H1 rp1 st h1 => ?_
    cases k with
    | true => exact iteT ⟨F1, ρ1, rp1, rebase (fun a q => st.al a q) h1⟩
    | false => exact iteF ⟨F1, ρ1, rp1, rebase (fun a q => st.al a q) h1⟩
theorem se_neg (ha : SE X C W a ca) : SE X C W (.UnaryOp .USub a pos) (.neg ca) :=
  pe_imp (pe_un un_neg ha) fun σ H Q ⟨F, ρ, rp, h⟩ => by
    refine bindX rp h fun x ρ1 V F1 H1 rp1 st rr h1 => ?_
    cases e : rd ρ1 x with
    | none => rw [e] at h1; exact h1.elim
    | some v =>
      rw [e] at h1
      have r1 := rr.r1 rp1 e
      cases v with
      | int i =>
        cases r1.rv rfl
        exact ⟨i, rfl, done_fz rp1 h1 (.int _)⟩
      | _ => exact h1.elim

/-! ### subscripts and slices -/
theorem RVs.atI {K : PySem.W.Frag} {mg : Str → Option Value} {F : Hp} {vs : List Val} {xs : List V} {i : Int} {v : Val} (r : RVs K mg F vs xs) (e : Rv.atI vs i = some v) : ∃ x, L2.atI xs i = some x ∧ RV K mg F v x := by
  unfold Rv.atI at e
  unfold L2.atI
  rw [r.length] at e
  cases h : ixN xs.length i with
  | none => rw [h] at e; cases e
  | some j =>
    rw [h] at e
    have e : vs[j]? = some v := e
    exact r.get e
theorem se_sub_ix (ha : SE X C W a ca) (hb : SE X C W b cb) (hs : PlainIx b) : SE X C W (.Subscript a b pos) (.sub ca cb) :=
  pe_imp (pe_ix (ix_list.or (ix_tup.or ix_str)) ha hb hs) fun σ H Q ⟨F, ρ, rp, h⟩ => by
    refine two ha (g := fun p q ρ => match p, q with
      | some v, some w => Out.opt ((subv v w).map fun u => (⟨u, .fz⟩ : R)) ρ
      | _, _ => .stuck) (r := fun x y H2 => rIxL X.K x y H2 Q ∨ rIxT X.K x y H2 Q ∨ rIxS x y H2 Q) rp h (fun _ _ => rfl) (fun p _ => by cases p <;> rfl) fun v w ρ2 V1 V2 F2 H2 al rp2 r1 r2 h2 => ?_
    replace h2 : PostE X.K X.mg H F2 H2 σ ρ2 W Q (Out.opt ((subv v w).map fun u => ⟨u, .fz⟩) ρ2) := h2
    cases e : subv v w with
    | none =>
      rw [e] at h2
      exact h2.elim
    | some u =>
      rw [e] at h2
      cases v <;> cases w <;> first | exact nomatch (show (none : Option Val) = some _ from e) | skip
      · rename_i z i
        cases r2.rv rfl
        cases r1.rv rfl
        replace e : (if z.length ≤ big then (L2.atI z.cps.toList i).map fun c => Val.str ⟨#[c]⟩ else none) = some u := e
        split at e
        · rename_i hi
          obtain ⟨c, ec, rfl⟩ := map_inv e
          rw [big_eq] at hi
          exact .inr (.inr ⟨z, i, c, rfl, rfl, hi, ec, done_fz rp2 h2 (.str _)⟩)
        · cases e
      · rename_i xs i
        cases r2.rv rfl
        cases r1.rv rfl with
        | @tup a1 Vs _ t l q =>
          obtain ⟨y, ey, ry⟩ := q.atI e
          exact .inr (.inl ⟨a1, Vs, i, y, rfl, rfl, seqT rp2.sub t, ey, done_fz rp2 h2 ry⟩)
      · rename_i xs i
        cases r2.rv rfl
        obtain ⟨a1, Vs, rfl, t, l, q⟩ := r1
        obtain ⟨y, ey, ry⟩ := q.atI e
        exact .inl ⟨a1, Vs, i, y, rfl, rfl, SqL.of t, ey, done_fz rp2 h2 ry⟩
/-- an optional part of a slice -/
def SO (X : Cx) (C : Ctx) (W : WX) (e : Option Expr) (b : Bool) (c : Ex) : Prop :=
  match e with
  | none => c = .con .non ∧ b = false
  | some e => SE X C W e c ∧ b = true
def rdO (K : PySem.W.Frag) (mg : Str → Option Value) (C : Ctx) (W : WX) (e : Option Expr) (c : Ex) : TO := match e with
  | none => tNoPart
  | some _ => tPart (rdE K mg C W c)
theorem so_po {e : Option Expr} {k : Bool} (h : SO X C W e k ca) : PO X e (rdO X.K X.mg C W e ca) := by
  cases e with
  | none => exact po_none
  | some e => exact po_some h.1
/-- a part, then what follows -/
theorem bindO {F H : Hp} {σ : L2.St} {ρ : Env} {α : Type} {G : α → Env → Hp → Hp → Prop} {e : Option Expr} {kb : Bool} {g : Option Int → Env → Out α} {Q1 : Option Int → Hp → Prop} (ho : SO X C W e kb ca) (rp : Rp X.K X.mg F H σ ρ)
    (h : Post X.K X.mg F H σ ρ W G ((evE C ca ρ).bind fun r ρ => match (rd ρ r).bind (part kb) with
      | some p => g p ρ
      | none => .stuck))
    (k : ∀ l ρ1 F1 H1, Rp X.K X.mg F1 H1 σ ρ1 → Step F H (Own ρ σ) F1 H1 (Own ρ1 σ) → Post X.K X.mg F1 H1 σ ρ1 W G (g l ρ1) → Q1 l H1) : rdO X.K X.mg C W e ca σ H Q1 := by
  cases e with
  | none =>
    obtain ⟨rfl, rfl⟩ := ho
    exact k none ρ F H rp Step.refl h
  | some e =>
    obtain ⟨ho, rfl⟩ := ho
    refine bindX rp h fun r ρ1 V F1 H1 rp1 st rr h1 => ?_
    cases e1 : rd ρ1 r with
    | none => rw [e1] at h1; exact h1.elim
    | some v =>
      rw [e1] at h1
      have r1 := rr.r1 rp1 e1
      cases v with
      | int i =>
        cases r1.rv rfl
        exact ⟨i, rfl, k (some i) ρ1 F1 H1 rp1 st h1⟩
      | _ => exact h1.elim
theorem cut_map {α β : Type} (f : α → β) (xs : List α) (l h : Option Int) : cut (xs.map f) l h = (cut xs l h).map f := by
  unfold cut
  rw [List.length_map, List.map_take, List.map_drop]
theorem cut_len {α : Type} (xs : List α) (l h : Option Int) : (cut xs l h).length ≤ xs.length := by
  unfold cut
  rw [List.length_take, List.length_drop]
  omega
theorem RVs.cut {K : PySem.W.Frag} {mg : Str → Option Value} {F : Hp} {vs : List Val} {xs : List V} (r : RVs K mg F vs xs) (l h : Option Int) : RVs K mg F (Rv.cut vs l h) (Rv.cut xs l h) := by
  unfold Rv.cut
  rw [r.length]
  exact (r.drop _).take _
theorem cut_all {α : Type} {xs : List α} {l h : Option Int} (h1 : HT.sIx xs.length 0 l = 0) (h2 : HT.sIx xs.length xs.length h = xs.length) : cut xs l h = xs := by
  unfold cut
  rw [h1, h2, List.drop_zero, Nat.sub_zero, List.take_length]
theorem se_slc {lo hi : Option Expr} {p2 : Pos} {kl kh : Bool} {cl ch : Ex} (ha : SE X C W a ca) (hl : SO X C W lo kl cl) (hh : SO X C W hi kh ch) : SE X C W (.Subscript a (.Slice lo hi none p2) pos) (.slc ca kl cl kh ch) :=
  pe_imp (pe_slice (sl_list.or sl_tupA) ha (so_po hl) (so_po hh)) fun σ H Q ⟨F, ρ, rp, h⟩ => by
    refine bindX rp h fun x ρ1 V1 F1 H1 rp1 st1 rr1 h1 => ?_
    refine bindO (g := fun p ρ => (evE C ch ρ).bind fun z ρ => match (rd ρ z).bind (part kh) with
      | some q => match rd ρ x with
        | some v => new (slcv v p q) ρ
        | none => .stuck
      | none => .stuck) hl rp1 h1 fun p ρ2 F2 H2 rp2 st2 h2 => ?_
    refine bindO (g := fun q ρ => match rd ρ x with
        | some v => new (slcv v p q) ρ
        | none => .stuck) hh rp2 h2 fun q ρ3 F3 H3 rp3 st3 h3 => ?_
    have rr := (rr1.keep st2).keep st3
    have al : ∀ a, H a ≠ none → H3 a ≠ none := fun a q => st3.al a (st2.al a (st1.al a q))
    cases e1 : rd ρ3 x with
    | none => rw [e1] at h3; exact h3.elim
    | some v =>
      rw [e1] at h3
      replace h3 : PostE X.K X.mg H F3 H3 σ ρ3 W Q (new (slcv v p q) ρ3) := h3
      have r1 := rr.r1 rp3 e1
      cases v with
      | lst xs =>
        obtain ⟨a1, Vs, rfl, t, l, r⟩ := r1
        exact .inl ⟨a1, Vs, rfl, SqL.of t, fun p' n => done_lst (Vs := cut Vs p q) al rp3 h3 (r.cut p q) (Nat.le_trans (cut_len _ _ _) l) p' n⟩
      | scr ns =>
        cases r1.rv rfl with
        | scr t l =>
          rename_i a1
          refine .inl ⟨a1, ns.map V.int, rfl, rp3.sub.seq t, fun p' n => ?_⟩
          have z := done_lst (Vs := (cut ns p q).map V.int) al rp3 h3 (RVs.ofInts _) (by rw [List.length_map]; exact Nat.le_trans (cut_len _ _ _) l) p' n
          rw [← cut_map] at z
          exact z
      | tup xs =>
        cases r1.rv rfl with
        | @tup a1 Vs _ t l r =>
          refine .inr ⟨a1, Vs, rfl, seqT rp3.sub t, fun ⟨c1, c2⟩ => ?_, fun _ p' n => done_tup (Vs := cut Vs p q) rp3 h3 (r.cut p q) (Nat.le_trans (cut_len _ _ _) l) p' n⟩
          refine done_fz rp3 h3 (.tup t l ?_)
          rw [← r.length] at c1 c2
          rw [cut_all c1 c2]
          exact r
      | _ => exact h3.elim

/-! ### lists of expressions -/
/-- results and what they stand for -/
inductive RRs (K : PySem.W.Frag) (mg : Str → Option Value) (F H : Hp) (σ : L2.St) (ρ : Env) : List R → List V → Prop where
  | nil : RRs K mg F H σ ρ [] []
  | cons {r : R} {x : V} {rs : List R} {xs : List V} : RR K mg F H σ ρ r x → RRs K mg F H σ ρ rs xs → RRs K mg F H σ ρ (r :: rs) (x :: xs)
inductive R1s (K : PySem.W.Frag) (mg : Str → Option Value) (F H : Hp) : List Val → List V → Prop where
  | nil : R1s K mg F H [] []
  | cons {v : Val} {x : V} {vs : List Val} {xs : List V} : R1 K mg F H v x → R1s K mg F H vs xs → R1s K mg F H (v :: vs) (x :: xs)
theorem RRs.r1s {K : PySem.W.Frag} {mg : Str → Option Value} {F H : Hp} {σ : L2.St} {ρ : Env} (rp : Rp K mg F H σ ρ) : ∀ {rs : List R} {xs : List V} {vs : List Val}, RRs K mg F H σ ρ rs xs → rds ρ rs = some vs → R1s K mg F H vs xs
  | _, _, _, .nil, e => by cases e; exact .nil
  | r :: rs, _, vs, .cons a b, e => by
    have e : (match rd ρ r, rds ρ rs with
      | some v, some vs => some (v :: vs)
      | _, _ => none) = some vs := e
    cases h1 : rd ρ r with
    | none => rw [h1] at e; cases e
    | some v =>
      cases h2 : rds ρ rs with
      | none => rw [h1, h2] at e; cases e
      | some ws =>
        rw [h1, h2] at e
        cases e
        exact .cons (a.r1 rp h1) (b.r1s rp h2)
def rdA (K : PySem.W.Frag) (mg : Str → Option Value) (C : Ctx) (W : WX) (cs : List Ex) : TA := fun σ H Q => ∃ F ρ, Rp K mg F H σ ρ ∧
  Post K mg F H σ ρ W (fun rs ρ' F' H' => ∀ Vs, RRs K mg F' H' σ ρ' rs Vs → Q Vs H') (evEs C cs ρ)
def SA (X : Cx) (C : Ctx) (W : WX) (es : List Expr) (cs : List Ex) : Prop := PA X es (rdA X.K X.mg C W cs)
theorem pa_imp {X : Cx} {es : List Expr} {t t' : TA} (h : PA X es t) (i : ∀ σ H Q, t' σ H Q → t σ H Q) : PA X es t' := ⟨fun pos pins s σ H Q I q => h.run pos pins s σ H Q I (i σ H Q q)⟩
/-- no star among them -/
def noStar : Expr → Bool
  | .Starred _ _ => false
  | _ => true
theorem starEach_cons {e : Expr} {es : List Expr} {env : PySem.Env} (h : noStar e = true) : starEach (e :: es) env = (false, eval e env) :: starEach es env := by
  cases e <;> first | rfl | exact (Bool.false_ne_true h).elim
variable {es : List Expr} {cs : List Ex}
theorem sa_nil : SA X C W [] [] := pa_imp pa_nil fun σ H Q ⟨F, ρ, rp, h⟩ => (h.now rp) [] .nil
theorem sa_cons (h : noStar a = true) (ha : SE X C W a ca) (hs : SA X C W es cs) : SA X C W (a :: es) (ca :: cs) :=
  pa_imp (pa_cons ha hs (starEach_cons h)) fun σ H Q ⟨F, ρ, rp, h⟩ => by
    refine bindX rp h fun r ρ1 V F1 H1 rp1 st rr h1 => ?_
    exact ⟨F1, ρ1, rp1, h1.of_bind.imp fun rs ρ2 F2 H2 rp2 st2 h2 Vs rrs => h2.now rp2 (V :: Vs) (.cons (rr.keep st2) rrs)⟩
/-- arguments, then what follows -/
theorem bindA {F H : Hp} {σ : L2.St} {ρ : Env} {α : Type} {G : α → Env → Hp → Hp → Prop} {f : List R → Env → Out α} {Q1 : List V → Hp → Prop} (rp : Rp X.K X.mg F H σ ρ) (h : Post X.K X.mg F H σ ρ W G ((evEs C cs ρ).bind f))
    (k : ∀ rs ρ1 Vs F1 H1, Rp X.K X.mg F1 H1 σ ρ1 → Step F H (Own ρ σ) F1 H1 (Own ρ1 σ) → RRs X.K X.mg F1 H1 σ ρ1 rs Vs → Post X.K X.mg F1 H1 σ ρ1 W G (f rs ρ1) → Q1 Vs H1) : rdA X.K X.mg C W cs σ H Q1 :=
  ⟨F, ρ, rp, h.of_bind.imp fun rs ρ1 F1 H1 rp1 st q Vs rrs => k rs ρ1 Vs F1 H1 rp1 st rrs q⟩
/-! ### what is kept -/
/-- fzR has an answer wherever it is not stuck -/
theorem fzR_cases {r : R} {ρ : Env} : fzR r ρ = .stuck ∨ ∃ v ρ1, fzR r ρ = .ok v ρ1 := by
  obtain ⟨v, s⟩ := r
  cases s with
  | fz => exact .inr ⟨_, _, rfl⟩
  | fr => exact .inr ⟨_, _, rfl⟩
  | var i =>
    have z : fzR ⟨v, .var i⟩ ρ = (match lookS ρ i with
      | some (v, _) => Out.ok v (ρ.set i (some (v, false)))
      | none => .stuck) := rfl
    rw [z]
    cases lookS ρ i with
    | none => exact .inl rfl
    | some p => exact .inr ⟨_, _, rfl⟩
/-- a result is kept: it stands for ever from now on. B: the heap ahead of the expression -/
theorem fz_all {K : PySem.W.Frag} {mg : Str → Option Value} {F H : Hp} {σ : L2.St} {ρ ρ1 : Env} {r : R} {V : V} {w : Val} (rp : Rp K mg F H σ ρ)
    (rr : RR K mg F H σ ρ r V) (e : fzR r ρ = .ok w ρ1) : ∃ F1, Rp K mg F1 H σ ρ1 ∧ RV K mg F1 w V ∧ ∀ F0 B O0, Step F0 B O0 F H (Own ρ σ) → Fr B r V → Step F0 B O0 F1 H (Own ρ1 σ) := by
  obtain ⟨v, s⟩ := r
  cases s with
  | fz =>
    cases e
    exact ⟨F, rp, rr, fun _ _ _ st _ => st⟩
  | fr =>
    cases e
    obtain ⟨q1, q2⟩ := (show R1 K mg F H v V ∧ ∀ a, V = .ref a → F a = none ∧ ¬ Own ρ σ a ∧ ∃ o, H a = some o from rr)
    cases hm : v.mut with
    | false => exact ⟨F, rp, q1.rv hm, fun _ _ _ st _ => st⟩
    | true =>
      obtain ⟨a, o, rfl, ho⟩ := q1.ref hm
      obtain ⟨h1, h2, _⟩ := q2 a rfl
      have ff : Same F (upd F a o) := same_updF h1
      refine ⟨upd F a o, rp.toF ho h2, q1.freeze ff rfl ho upd_same, fun F0 B O0 st fr => ⟨st.ff.trans ff, st.kp, fun b q => ?_, st.no, st.al⟩⟩
      have hb : B a = none := fr rfl a rfl
      by_cases e : b = a
      · rw [e]; exact .inr (.inr hb)
      · rw [upd_ne e] at q; exact st.nf b q
  | var i =>
    have hx : σ[i]? = some (some V) := rr
    replace e : (match lookS ρ i with
      | some (v, _) => Out.ok v (ρ.set i (some (v, false)))
      | none => Out.stuck) = .ok w ρ1 := e
    cases e0 : lookS ρ i with
    | none => rw [e0] at e; cases e
    | some p =>
      obtain ⟨w', o⟩ := p
      rw [e0] at e
      cases e
      have e := e0
      have hlt := lookS_lt e
      obtain ⟨x, hx', sl⟩ := rp.slot i w o e
      rw [hx] at hx'; cases hx'
      -- fewer own ones
      have ow : ∀ {a}, Own (ρ.set i (some (w, false))) σ a → Own ρ σ a := fun {a} ⟨j, u, e1, m, s⟩ => by
        rw [lookS_set] at e1
        split at e1
        · cases e1
        · exact ⟨j, u, e1, m, s⟩
      unfold SlotR at sl
      by_cases hc : (o && w.mut) = true
      · rw [if_pos hc] at sl
        rw [Bool.and_eq_true] at hc
        obtain ⟨a, ob, rfl, ho⟩ := sl.1.ref hc.2
        have hO : Own ρ σ a := ⟨i, w, by rw [e, hc.1], hc.2, hx⟩
        have ff : Same F (upd F a ob) := same_updF (sl.2 a rfl)
        have rp1 : Rp K mg (upd F a ob) H σ (ρ.set i (some (w, false))) := by
          refine ⟨fun b u q => ?_, by rw [List.length_set]; exact rp.len, fun j u q e1 => ?_, fun j k u1 u2 b e1 m1 e2 m2 s1 s2 => ?_⟩
          · by_cases hb : b = a
            · rw [hb, upd_same] at q; cases q; rw [hb]; exact ho
            · rw [upd_ne hb] at q; exact rp.sub b u q
          · rw [lookS_set] at e1
            by_cases hj : i = j ∧ j < ρ.length
            · rw [if_pos hj] at e1
              cases e1
              refine ⟨.ref a, by rw [← hj.1]; exact hx, ?_⟩
              unfold SlotR
              rw [Bool.false_and, if_neg Bool.false_ne_true]
              exact sl.1.freeze ff rfl ho upd_same
            · rw [if_neg hj] at e1
              obtain ⟨y, hy, sy⟩ := rp.slot j u q e1
              refine ⟨y, hy, ?_⟩
              unfold SlotR at sy ⊢
              split
              · rename_i hc2
                rw [if_pos hc2] at sy
                refine ⟨sy.1.keep ff fun _ _ _ z => z, fun b eb => ?_⟩
                rw [Bool.and_eq_true] at hc2
                have hne : b ≠ a := fun z => hj ⟨rp.inj i j w u a (by rw [e, hc.1]) hc.2 (by rw [e1, hc2.1]) hc2.2 hx (by rw [hy, eb, z]), lookS_lt e1⟩
                rw [upd_ne hne]
                exact sy.2 b eb
              · rename_i hc2
                rw [if_neg hc2] at sy
                exact sy.mono ff
          · have e1' : lookS ρ j = some (u1, true) := by
              rw [lookS_set] at e1
              split at e1
              · cases e1
              · exact e1
            have e2' : lookS ρ k = some (u2, true) := by
              rw [lookS_set] at e2
              split at e2
              · cases e2
              · exact e2
            exact rp.inj j k u1 u2 b e1' m1 e2' m2 s1 s2
        refine ⟨upd F a ob, rp1, sl.1.freeze ff rfl ho upd_same, fun F0 B O0 st _ => ⟨st.ff.trans ff, st.kp, fun b q => ?_, fun b q => st.no b (ow q), st.al⟩⟩
        by_cases hb : b = a
        · rw [hb]
          exact (st.no a hO).elim (fun z => .inr (.inl z)) (fun z => .inr (.inr z))
        · rw [upd_ne hb] at q; exact st.nf b q
      · rw [if_neg hc] at sl
        have rp1 : Rp K mg F H σ (ρ.set i (some (w, false))) := by
          refine ⟨rp.sub, by rw [List.length_set]; exact rp.len, fun j u q e1 => ?_, fun j k u1 u2 b e1 m1 e2 m2 s1 s2 => ?_⟩
          · rw [lookS_set] at e1
            by_cases hj : i = j ∧ j < ρ.length
            · rw [if_pos hj] at e1
              cases e1
              refine ⟨V, by rw [← hj.1]; exact hx, ?_⟩
              unfold SlotR
              rw [Bool.false_and, if_neg Bool.false_ne_true]
              exact sl
            · rw [if_neg hj] at e1
              exact rp.slot j u q e1
          · have e1' : lookS ρ j = some (u1, true) := by
              rw [lookS_set] at e1
              split at e1
              · cases e1
              · exact e1
            have e2' : lookS ρ k = some (u2, true) := by
              rw [lookS_set] at e2
              split at e2
              · cases e2
              · exact e2
            exact rp.inj j k u1 u2 b e1' m1 e2' m2 s1 s2
        exact ⟨F, rp1, sl, fun F0 B O0 st _ => st.less fun b q => ow q⟩
theorem fz_core {K : PySem.W.Frag} {mg : Str → Option Value} {F0 B F H : Hp} {σ : L2.St} {O0 : Addr → Prop} {ρ ρ1 : Env} {r : R} {V : V} {w : Val} (st : Step F0 B O0 F H (Own ρ σ)) (rp : Rp K mg F H σ ρ)
    (rr : RR K mg F H σ ρ r V) (fr : Fr B r V) (e : fzR r ρ = .ok w ρ1) : ∃ F1, Rp K mg F1 H σ ρ1 ∧ Step F0 B O0 F1 H (Own ρ1 σ) ∧ RV K mg F1 w V :=
  let ⟨F1, a, b, c⟩ := fz_all rp rr e
  ⟨F1, a, c _ _ _ st fr, b⟩
theorem fz_ok {K : PySem.W.Frag} {mg : Str → Option Value} {F0 B F H : Hp} {σ : L2.St} {ρ0 ρ : Env} {α : Type} {G : α → Env → Hp → Hp → Prop} {r : R} {V : V} {f : Val → Env → Out α} (st : Step F0 B (Own ρ0 σ) F H (Own ρ σ)) (rp : Rp K mg F H σ ρ)
    (rr : RR K mg F H σ ρ r V) (fr : Fr B r V) (h : Post K mg F0 B σ ρ0 W G ((fzR r ρ).bind f)) : ∃ v ρ1 F1, Rp K mg F1 H σ ρ1 ∧ Step F0 B (Own ρ0 σ) F1 H (Own ρ1 σ) ∧ RV K mg F1 v V ∧ fzR r ρ = .ok v ρ1 ∧ Post K mg F0 B σ ρ0 W G (f v ρ1) := by
  rcases fzR_cases (r := r) (ρ := ρ) with e | ⟨v, ρ1, e⟩
  · rw [e] at h; exact h.elim
  · obtain ⟨F1, a, b, c⟩ := fz_core st rp rr fr e
    rw [e] at h
    exact ⟨v, ρ1, F1, a, b, c, e, h⟩
/-- an expression whose value is kept, then what follows -/
theorem bindZ {F H : Hp} {σ : L2.St} {ρ : Env} {α : Type} {G : α → Env → Hp → Hp → Prop} {f : Val → Env → Out α} {Q1 : VK} (rp : Rp X.K X.mg F H σ ρ) (h : Post X.K X.mg F H σ ρ W G ((evE C ca ρ).bind fun r ρ => (fzR r ρ).bind f))
    (k : ∀ v ρ1 V F1 H1, Rp X.K X.mg F1 H1 σ ρ1 → Step F H (Own ρ σ) F1 H1 (Own ρ1 σ) → RV X.K X.mg F1 v V → Post X.K X.mg F1 H1 σ ρ1 W G (f v ρ1) → Q1 V H1) : rdE X.K X.mg C W ca σ H Q1 := by
  refine ⟨F, ρ, rp, ?_⟩
  cases e : evE C ca ρ with
  | exc x ρ1 => rw [e] at h; exact h
  | stuck => rw [e] at h; exact h
  | ok r ρ1 =>
    rw [e] at h
    intro F1 H1 rp1 st V rr fr
    obtain ⟨v, ρ2, F2, rp2, st2, rv, _, h2⟩ := fz_ok st rp1 rr fr h
    exact k v ρ2 V F2 H1 rp2 st2 rv (h2.shift st2)
/-- kept ones, from the left -/
def rdZ (K : PySem.W.Frag) (mg : Str → Option Value) (C : Ctx) (W : WX) (cs : List Ex) : TA := fun σ H Q => ∃ F ρ, Rp K mg F H σ ρ ∧
  Post K mg F H σ ρ W (fun vs ρ' F' H' => ∀ Vs, RVs K mg F' vs Vs → Q Vs H') (fzEs C cs ρ)
def SZ (X : Cx) (C : Ctx) (W : WX) (es : List Expr) (cs : List Ex) : Prop := PA X es (rdZ X.K X.mg C W cs)
theorem sz_nil : SZ X C W [] [] := pa_imp pa_nil fun σ H Q ⟨F, ρ, rp, h⟩ => (h.now rp) [] .nil
theorem sz_cons (h : noStar a = true) (ha : SE X C W a ca) (hs : SZ X C W es cs) : SZ X C W (a :: es) (ca :: cs) :=
  pa_imp (pa_cons ha hs (starEach_cons h)) fun σ H Q ⟨F, ρ, rp, h⟩ => by
    refine bindZ rp h fun v ρ1 V F1 H1 rp1 st rv h1 => ?_
    exact ⟨F1, ρ1, rp1, h1.of_bind.imp fun vs ρ2 F2 H2 rp2 st2 h2 Vs rvs => h2.now rp2 (V :: Vs) (.cons (rv.mono st2.ff) rvs)⟩
theorem bindZs {F H : Hp} {σ : L2.St} {ρ : Env} {α : Type} {G : α → Env → Hp → Hp → Prop} {f : List Val → Env → Out α} {Q1 : List V → Hp → Prop} (rp : Rp X.K X.mg F H σ ρ) (h : Post X.K X.mg F H σ ρ W G ((fzEs C cs ρ).bind f))
    (k : ∀ vs ρ1 Vs F1 H1, Rp X.K X.mg F1 H1 σ ρ1 → Step F H (Own ρ σ) F1 H1 (Own ρ1 σ) → RVs X.K X.mg F1 vs Vs → Post X.K X.mg F1 H1 σ ρ1 W G (f vs ρ1) → Q1 Vs H1) : rdZ X.K X.mg C W cs σ H Q1 :=
  ⟨F, ρ, rp, h.of_bind.imp fun vs ρ1 F1 H1 rp1 st q Vs rvs => k vs ρ1 Vs F1 H1 rp1 st rvs q⟩
/-! ### displays -/
theorem se_tup {x1 : Nat} (hs : SZ X C W es cs) : SE X C W (.Tuple es x1 pos) (.tup cs) :=
  pe_imp (pe_tup hs) fun σ H Q ⟨F, ρ, rp, h⟩ => by
    refine bindZs rp h fun vs ρ1 Vs F1 H1 rp1 st rvs h1 => ?_
    replace h1 : PostE X.K X.mg H F1 H1 σ ρ1 W Q (if vs.length ≤ big then .ok ⟨.tup vs, .fz⟩ ρ1 else .stuck) := h1
    split at h1
    · rename_i hl
      rw [big_eq, rvs.length] at hl
      exact ⟨hl, fun p n => done_tup rp1 h1 rvs hl p n⟩
    · exact h1.elim
theorem se_lst (hs : SZ X C W es cs) : SE X C W (.List es pos) (.lst cs) :=
  pe_imp (pe_lst hs) fun σ H Q ⟨F, ρ, rp, h⟩ => by
    refine bindZs rp h fun vs ρ1 Vs F1 H1 rp1 st rvs h1 => ?_
    replace h1 : PostE X.K X.mg H F1 H1 σ ρ1 W Q (if vs.length ≤ big then .ok ⟨.lst vs, .fr⟩ ρ1 else .stuck) := h1
    split at h1
    · rename_i hl
      rw [big_eq, rvs.length] at hl
      exact ⟨hl, fun p n => done_lst (fun a q => st.al a q) rp1 h1 rvs hl p n⟩
    · exact h1.elim
end
end Rv

/-! Rv, part 3b: a list or a tuple read from behind. -/
namespace Rv
open PySem PySem.Spec PyProof.Rows L2 HT
theorem fm_congr {α β : Type} {f g : α → Option β} : ∀ {l : List α}, (∀ k ∈ l, f k = g k) → l.filterMap f = l.filterMap g
  | [], _ => rfl
  | a :: l, h => by
    rw [List.filterMap_cons, List.filterMap_cons, h a List.mem_cons_self, fm_congr fun k hk => h k (List.mem_cons_of_mem _ hk)]
theorem back_pick (xs : Array Value) : ((List.range xs.size).filterMap fun (k : Nat) => xs[(((xs.size : Nat) : Int) - 1 + (k : Int) * (-1)).toNat]?).toArray = xs.toList.reverse.toArray := by
  have all : ∀ m : List Value, (List.range m.length).filterMap (fun k => m[k]?) = m := by
    intro m
    induction m with
    | nil => rfl
    | cons a m ih =>
      rw [List.length_cons, List.range_succ_eq_map, List.filterMap_cons]
      show a :: _ = _
      rw [List.filterMap_map]
      congr 1
  have e : (List.range xs.size).filterMap (fun (k : Nat) => xs[(((xs.size : Nat) : Int) - 1 + (k : Int) * (-1)).toNat]?) = (List.range xs.size).filterMap fun k => xs.toList.reverse[k]? := by
    refine fm_congr fun k hk => ?_
    have hk : k < xs.size := List.mem_range.mp hk
    rw [List.getElem?_reverse (by rw [Array.length_toList]; exact hk), Array.length_toList, Array.getElem?_toList]
    congr 1
    omega
  rw [e]
  have := all xs.toList.reverse
  rw [List.length_reverse, Array.length_toList] at this
  rw [this]
section
variable {prog : Program} {w : World} {A : Around} {E : Value → Shared → Prop} {s : Shared}
theorem back_applied {sl : Addr} {u : Tok} {n : Nat} {Q : Int × Int × Nat → Shared → Prop} (hs : s.heap.IsSliceOf sl .none .none (.int (-1) u)) (h : Q ((n : Int) - 1, -1, n) s) : wpAny (model prog w) A (Builtin.Slice.sliceApplied (.ref sl) (pure (n : Int))) Q E s := by
  obtain ⟨o, ho, hc, hd⟩ := id hs
  unfold Builtin.Slice.sliceApplied Builtin.Slice.sliceFields
  refine wpAny_bind (wpAny_bind (wpAny_field ho hd (x := .none) rfl (wpAny_bind ?_)))
  refine wpAny_field ho hd (x := .none) rfl (wpAny_bind ?_)
  refine wpAny_field ho hd (x := .int (-1) u) rfl (wpAny_pure ?_)
  refine wpAny_bind (slicePart_int ?_)
  show wpAny _ _ (if ((-1 : Int) == 0) = true then _ else _) _ _ s
  rw [if_neg (by decide)]
  refine wpAny_bind (slicePart_none (wpAny_bind (slicePart_none (wpAny_bind (wpAny_pure (wpAny_pure ?_))))))
  have e : Builtin.Slice.slicePlaces ((n : Int) - 1) (-1) (-1) = n := by
    unfold Builtin.Slice.slicePlaces
    rw [if_neg (by decide)]
    by_cases hn : n = 0
    · subst hn; rfl
    · rw [if_pos (by omega)]
      have : ((n : Int) - 1 - -1 - 1) / (- -1) + 1 = n := by
        rw [Int.neg_neg, Int.ediv_one]
        omega
      rw [this]
      exact Int.toNat_natCast n
  show Q ((n : Int) - 1, -1, Builtin.Slice.slicePlaces ((n : Int) - 1) (-1) (-1)) s
  rw [e]
  exact h
theorem getItem_back {t sl : Addr} {u : Tok} {xs : Array Value} {Q : Value → Shared → Prop} (ht : IsTup s.heap t xs) (hs : s.heap.IsSliceOf sl .none .none (.int (-1) u)) (hz : xs.size ≤ sizeLine)
    (h : Q (.ref s.heap.objs.size) { s with heap := s.heap.push { cls := .type "tuple", data := .seq xs.toList.reverse.toArray } }) : wpAny (model prog w) A (getItem (.ref t) (.ref sl)) Q E s := by
  obtain ⟨o, ho, hc, hd⟩ := id hs
  unfold getItem
  try with_reducible refine wpAny_holding ?_
  first | refine wpAny_bind (wpAny_pure ?_) | skip
  refine wpAny_bind (wpAny_sequenceKey ht.typeIs (by decide) (wpAny_bind ?_))
  refine wpAny_callSpecial?_slot (name := Str.ofString "__getitem__") ht.typeIs PyProof.Rows.slot_tuple_getitem ?_
  refine wpAny_call_entry PyProof.Rows.slot_tuple_getitem ht.typeIs entry_tuple_getitem ?_ (args_tuple_getitem _ _)
  show wpAny _ _ (Builtin.Tuple.tupleItemsOf (.ref t) >>= _) _ _ s
  refine wpAny_bind (tupleItemsOf_ ht (wpAny_bind (wpAny_typeOf (T := "slice") ⟨o, ho, hc⟩ ?_)))
  rw [if_pos (by decide)]
  refine wpAny_bind (back_applied hs ?_)
  have no : ¬ ((((xs.size : Nat) : Int) - 1 == 0 && ((-1 : Int) == 1) && (xs.size == xs.size)) = true) := by
    intro q
    rw [Bool.and_eq_true, Bool.and_eq_true] at q
    exact absurd q.1.2 (by decide)
  show wpAny _ _ (if (((xs.size : Nat) : Int) - 1 == 0 && ((-1 : Int) == 1) && (xs.size == xs.size)) = true then _ else _) _ _ s
  rw [if_neg no, back_pick]
  have ok : sizeOk (.seq xs.toList.reverse.toArray) := by
    show xs.toList.reverse.toArray.size ≤ sizeLine
    rw [List.size_toArray, List.length_reverse, Array.length_toList]
    exact hz
  first
    | exact wpAny_bind (m := Builtin.Tuple.tupleExact _) (wpAny_newObj_type (wpAny_pure ⟨_, rfl, wpAny_pure h⟩) ok)
    | exact wpAny_bind (m := Builtin.Tuple.tupleExact _) (wpAny_newObj_type (wpAny_bind (wpAny_pure (wpAny_pure ⟨_, rfl, wpAny_pure h⟩))) ok)
    | exact wpAny_bind (wpAny_bind (m := Builtin.Tuple.tupleExact _) (wpAny_newObj_type (wpAny_pure (wpAny_pure ⟨_, rfl, wpAny_pure h⟩)) ok))
end
end Rv

namespace Rv
open PySem PySem.Spec PyProof.Rows L2
section
variable {X : Cx} {C : Ctx} {W : WX} {a e : Expr} {ca : Ex} {te : TE} {k : Nat} {p1 p2 p3 pos : Pos}
/-- the part written -1 -/
def negOne (k : Nat) (p1 p2 : Pos) : Expr := .UnaryOp .USub (.Constant (.int 1) k p1) p2
def tBack (K : PySem.W.Frag) (te : TE) : TE := fun σ H Q => te σ H fun x H1 => ∃ b xs, x = .ref b ∧ ((SqL K H1 b xs ∧ ∀ p, H1 p = none → Q (.ref p) (upd H1 p (.lst xs.reverse))) ∨ (SqT K H1 b xs ∧ ∀ p, H1 p = none → Q (.ref p) (upd H1 p (.tup xs.reverse))))
theorem pe_back (he : PE X e te) : PE X (.Subscript e (.Slice none none (some (negOne k p1 p2)) p3) pos) (tBack X.K te) := by
  refine ⟨fun pins s σ H Q I h => Subscript_ (thn (he.run pins s σ H _ I h) fun v s1 ⟨x, H1, I1, r1, b, xs, ex, q⟩ => ?_)⟩
  subst ex
  obtain rfl : v = Value.ref b := r1
  have part : PO X (some (negOne k p1 p2)) (tPart (tUn (rU fun i => .int (-i)) (tC (.int 1)))) := po_some (pe_un un_neg pe_int)
  refine wpAny_Slice ?_
  refine thn (po_none.run pins s1 σ H1 (fun o H2 => o = none ∧ H2 = H1) I1 ⟨rfl, rfl⟩) fun vl s2 ⟨l, H2, I2, pl, e1, e2⟩ => ?_
  subst e1 e2
  refine thn (po_none.run pins s2 σ H2 (fun o H3 => o = none ∧ H3 = H2) I2 ⟨rfl, rfl⟩) fun vu s3 ⟨m, H3, I3, pu, e1, e2⟩ => ?_
  subst e1 e2
  refine thn (part.run pins s3 σ H3 (fun o H4 => o = some (-1) ∧ H4 = H3) I3 ⟨1, rfl, -1, rfl, rfl, rfl⟩) fun vs s4 ⟨o, H4, I4, ps, e1, e2⟩ => ?_
  subst e1 e2
  cases pl
  cases pu
  cases ps with
  | int _ t =>
  have J : Inv X pins σ H4 { s4 with heap := s4.heap.push { cls := .type "slice", data := .fields #[.none, .none, .int (-1) t] } } := I4.kept (t' := s4.toks) fun c oc z => Heap.get?_push_of_some _ z
  have hsl := Heap.IsSliceOf.new s4.heap .none .none (.int (-1) t)
  show wpAny (model X.prog X.w) X.A (subscriptTail e (.Slice none none (some (negOne k p1 p2)) p3) (.ref b) (.ref s4.heap.objs.size)) (EP X pins σ Q) X.xe { s4 with heap := s4.heap.push { cls := .type "slice", data := .fields #[.none, .none, .int (-1) t] } }
  rcases q with ⟨hx, q⟩ | ⟨hx, q⟩
  · obtain ⟨its, r, ht, hz⟩ := J.list hx
    have hl := r.length
    refine tail_any (ops := [.ref b, .ref s4.heap.objs.size]) ht.isList.typeIs (PySem.slot_list_getitem.lookup) ?_ (by with_unfolding_all rfl)
    refine wpAny_getItem_list_slice (st := some (-1)) (lo := none) (hi := none) ht.isList hsl .none .none (.int (-1) t) (by decide) ?_ (by rw [List.size_toArray]; omega)
    rw [PySem.W.krv_pick]
    have J2 := J.laid (t' := s4.toks) (o := .lst xs.reverse) (fun c oc z => Heap.get?_push_of_some _ z) (Nat.le_refl _) ⟨by rw [List.length_reverse]; exact hz, _, 0, r.reverse, Heap.get?_push_size _ rfl⟩
    exact ⟨.ref _, _, J2, rfl, q _ (J.hok.fresh (Nat.le_refl _))⟩
  · obtain ⟨its, r, ht, hz⟩ := J.tuple hx
    have hl := r.length
    refine tail_any (ops := [.ref b, .ref s4.heap.objs.size]) ht.typeIs (PyProof.Rows.slot_tuple_getitem.lookup) ?_ (by with_unfolding_all rfl)
    refine getItem_back ht hsl (by rw [List.size_toArray]; omega) ?_
    have J2 := J.laid (t' := s4.toks) (o := .tup xs.reverse) (fun c oc z => Heap.get?_push_of_some _ z) (Nat.le_refl _) ⟨by rw [List.length_reverse]; exact hz, _, r.reverse, IsTup.new _ _⟩
    exact ⟨.ref _, _, J2, rfl, q _ (J.hok.fresh (Nat.le_refl _))⟩
theorem RVs.back {K : PySem.W.Frag} {mg : Str → Option Value} {F : Hp} : ∀ {vs : List Val} {xs : List V}, RVs K mg F vs xs → RVs K mg F vs.reverse xs.reverse
  | _, _, .nil => .nil
  | _, _, .cons a b => by
    rw [List.reverse_cons, List.reverse_cons]
    exact (RVs.back b).append (.cons a .nil)
theorem se_back (ha : SE X C W a ca) : SE X C W (.Subscript a (.Slice none none (some (negOne k p1 p2)) p3) pos) (.rev ca) :=
  pe_imp (pe_back ha) fun σ H Q ⟨F, ρ, rp, h⟩ => by
    refine bindX rp h fun x ρ1 V1 F1 H1 rp1 st1 rr h1 => ?_
    have al : ∀ a, H a ≠ none → H1 a ≠ none := fun a q => st1.al a q
    cases e1 : rd ρ1 x with
    | none => rw [e1] at h1; exact h1.elim
    | some v =>
      rw [e1] at h1
      replace h1 : PostE X.K X.mg H F1 H1 σ ρ1 W Q (new (revV v) ρ1) := h1
      have r1 := rr.r1 rp1 e1
      cases v <;> first | exact h1.elim | skip
      · cases r1.rv rfl with
        | @tup a1 Vs _ t l r =>
          exact ⟨a1, Vs, rfl, .inr ⟨seqT rp1.sub t, fun p' n => done_tup rp1 h1 r.back (by rw [List.length_reverse]; exact l) p' n⟩⟩
      · obtain ⟨a1, Vs, rfl, t, l, r⟩ := r1
        exact ⟨a1, Vs, rfl, .inl ⟨SqL.of t, fun p' n => done_lst al rp1 h1 r.back (by rw [List.length_reverse]; exact l) p' n⟩⟩
end
end Rv

/-! Rv, part 5: built-in functions. -/
namespace Rv
open PySem PySem.Spec PyProof.Rows L2

theorem noStars {env : PySem.Env} {pos : Pos} : ∀ {es : List Expr}, es.all noStar = true → (backTo pos (starEach es env)).any (·.1) = false
  | [], _ => rfl
  | e :: es, h => by
    rw [List.all_cons, Bool.and_eq_true] at h
    rw [starEach_cons h.1]
    show (false || (backTo pos (starEach es env)).any (·.1)) = false
    rw [noStars h.2]
    rfl

section
variable {X : Cx} {C : Ctx} {W : WX} {a : Expr} {ca : Ex} {pos p : Pos} {es : List Expr} {cs : List Ex} {x : Str}

/-- a built-in function: its rule, and what the rule asks where the evaluator has an answer -/
theorem se_callB {id : String} {r : List V → Hp → VK → Prop} (hc : CallR X (.builtin id) r) (hg : Gl X x) (hm : X.mg x = none) (hv : bootBuiltins x = some (.builtin id)) (hn : x ≠ "__name__") (hdb : (x == ("__debug__" : Str)) = false)
    (hst : (a :: es).all noStar = true) (hs : SA X C W (a :: es) cs)
    (k : ∀ (vs : List Val) (u : Val) (Vs : List V) (B F H : Hp) (σ : L2.St) (ρ : Env) (Q : VK), (∀ a, B a ≠ none → H a ≠ none) → biv C x vs = some u → Rp X.K X.mg F H σ ρ → R1s X.K X.mg F H vs Vs → PostE X.K X.mg B F H σ ρ W Q (.ok (mk u) ρ) → r Vs H Q) :
    SE X C W (.Call (.Name x p) (a :: es) [] pos) (.callB x cs) := by
  rw [List.all_cons, Bool.and_eq_true] at hst
  refine pe_imp (pe_callB hc hg hm hv hs hn hdb (starEach_cons hst.1) (noStars hst.2)) fun σ H Q ⟨F, ρ, rp, h⟩ => ?_
  refine bindA rp h fun rs ρ1 Vs F1 H1 rp1 st rrs h1 => ?_
  cases e : rds ρ1 rs with
  | none => rw [e] at h1; exact h1.elim
  | some vs =>
    rw [e] at h1
    replace h1 : PostE X.K X.mg H F1 H1 σ ρ1 W Q (new (biv C x vs) ρ1) := h1
    cases e2 : biv C x vs with
    | none => rw [e2] at h1; exact h1.elim
    | some u => exact k vs u Vs H F1 H1 σ ρ1 Q (fun a q => st.al a q) e2 rp1 (rrs.r1s rp1 e) (done_new h1 e2)
/-- a built-in type, called -/
theorem se_callTy {T : String} {r : List V → Hp → VK → Prop} (hc : CallR X (.type T) r) (hg : Gl X x) (hm : X.mg x = none) (hv : bootBuiltins x = some (.type T)) (hn : x ≠ "__name__") (hdb : (x == ("__debug__" : Str)) = false)
    (hst : (a :: es).all noStar = true) (hs : SA X C W (a :: es) cs)
    (k : ∀ (vs : List Val) (u : Val) (Vs : List V) (B F H : Hp) (σ : L2.St) (ρ : Env) (Q : VK), (∀ a, B a ≠ none → H a ≠ none) → biv C x vs = some u → Rp X.K X.mg F H σ ρ → R1s X.K X.mg F H vs Vs → PostE X.K X.mg B F H σ ρ W Q (.ok (mk u) ρ) → r Vs H Q) :
    SE X C W (.Call (.Name x p) (a :: es) [] pos) (.callB x cs) := by
  rw [List.all_cons, Bool.and_eq_true] at hst
  refine pe_imp (pe_callTy hc hg hm hv hs hn hdb (starEach_cons hst.1) (noStars hst.2)) fun σ H Q ⟨F, ρ, rp, h⟩ => ?_
  refine bindA rp h fun rs ρ1 Vs F1 H1 rp1 st rrs h1 => ?_
  cases e : rds ρ1 rs with
  | none => rw [e] at h1; exact h1.elim
  | some vs =>
    rw [e] at h1
    replace h1 : PostE X.K X.mg H F1 H1 σ ρ1 W Q (new (biv C x vs) ρ1) := h1
    cases e2 : biv C x vs with
    | none => rw [e2] at h1; exact h1.elim
    | some u => exact k vs u Vs H F1 H1 σ ρ1 Q (fun a q => st.al a q) e2 rp1 (rrs.r1s rp1 e) (done_new h1 e2)

/-! ### what each asks -/
/-- one argument -/
theorem one_arg {f : Val → Option Val} {vs : List Val} {u : Val} (e : (match vs with
    | [v] => f v
    | _ => none) = some u) : ∃ v, vs = [v] ∧ f v = some u := by
  match vs, e with
  | [v], e => exact ⟨v, rfl, e⟩
theorem two_args {f : Val → Val → Option Val} {vs : List Val} {u : Val} (e : (match vs with
    | [v, w] => f v w
    | _ => none) = some u) : ∃ v w, vs = [v, w] ∧ f v w = some u := by
  match vs, e with
  | [v, w], e => exact ⟨v, w, rfl, e⟩
theorem R1s.one {K : PySem.W.Frag} {mg : Str → Option Value} {F H : Hp} {v : Val} {Vs : List V} (r : R1s K mg F H [v] Vs) : ∃ V, Vs = [V] ∧ R1 K mg F H v V := by
  cases r with
  | cons a b => cases b; exact ⟨_, rfl, a⟩
theorem R1s.two {K : PySem.W.Frag} {mg : Str → Option Value} {F H : Hp} {v w : Val} {Vs : List V} (r : R1s K mg F H [v, w] Vs) : ∃ V U, Vs = [V, U] ∧ R1 K mg F H v V ∧ R1 K mg F H w U := by
  cases r with
  | cons a b =>
    cases b with
    | cons b c => cases c; exact ⟨_, _, rfl, a, b⟩

theorem se_len (hg : Gl X "len") (hm : X.mg "len" = none) (hst : (a :: es).all noStar = true) (hs : SA X C W (a :: es) cs) : SE X C W (.Call (.Name "len" p) (a :: es) [] pos) (.callB "len" cs) :=
  se_callB (call_len.or call_len_str) hg hm PySem.boot_len (by decide) (by decide) hst hs fun vs u Vs B F H σ ρ Q al e rp rs h => by
    replace e : lenV vs = some u := e
    obtain ⟨v, rfl, e'⟩ := one_arg e
    replace e := e'
    clear e'
    obtain ⟨V, rfl, r⟩ := rs.one
    cases v <;> first | exact nomatch (show (none : Option Val) = some _ from e) | skip
    · rename_i z
      replace e : (if z.length ≤ big then some (Val.int z.length) else none) = some u := e
      split at e
      · rename_i hz
        cases e
        cases r.rv rfl
        rw [big_eq] at hz
        exact .inr ⟨z, rfl, hz, done_fz rp h (.int _)⟩
      · cases e
    · rename_i xs
      cases e
      cases r.rv rfl with
      | @tup a1 Vs _ t l q => exact .inl ⟨_, xs.length, rfl, .inr ⟨Vs, seqT rp.sub t, q.length⟩, done_fz rp h (.int _)⟩
    · rename_i xs
      cases e
      obtain ⟨a1, Vs, rfl, t, l, q⟩ := r
      exact .inl ⟨_, xs.length, rfl, .inl ⟨Vs, SqL.of t, q.length⟩, done_fz rp h (.int _)⟩
theorem se_all (hc : X.calm = true) (hg : Gl X "all") (hm : X.mg "all" = none) (hst : (a :: es).all noStar = true) (hs : SA X C W (a :: es) cs) : SE X C W (.Call (.Name "all" p) (a :: es) [] pos) (.callB "all" cs) :=
  se_callB (cr_all hc) hg hm (by decide +kernel) (by decide) (by decide) hst hs fun vs u Vs B F H σ ρ Q al e rp rs h => by
    replace e : allV vs = some u := e
    obtain ⟨v, rfl, e'⟩ := one_arg e
    replace e := e'
    clear e'
    obtain ⟨V, rfl, r⟩ := rs.one
    cases v <;> first | exact nomatch (show (none : Option Val) = some _ from e) | skip
    rename_i xs
    obtain ⟨bs, e1, rfl⟩ := map_inv (show (allBl xs).map (fun bs => Val.bl (bs.all id)) = some u from e)
    obtain ⟨a1, Vs, rfl, t, l, q⟩ := r
    exact ⟨a1, bs, rfl, by rw [← q.allBl e1]; exact SqL.of t, done_fz rp h (.bl _)⟩
theorem se_any (hc : X.calm = true) (hg : Gl X "any") (hm : X.mg "any" = none) (hst : (a :: es).all noStar = true) (hs : SA X C W (a :: es) cs) : SE X C W (.Call (.Name "any" p) (a :: es) [] pos) (.callB "any" cs) :=
  se_callB (cr_any hc) hg hm (by decide +kernel) (by decide) (by decide) hst hs fun vs u Vs B F H σ ρ Q al e rp rs h => by
    replace e : anyV vs = some u := e
    obtain ⟨v, rfl, e'⟩ := one_arg e
    replace e := e'
    clear e'
    obtain ⟨V, rfl, r⟩ := rs.one
    cases v <;> first | exact nomatch (show (none : Option Val) = some _ from e) | skip
    rename_i xs
    obtain ⟨bs, e1, rfl⟩ := map_inv (show (allBl xs).map (fun bs => Val.bl (bs.any id)) = some u from e)
    obtain ⟨a1, Vs, rfl, t, l, q⟩ := r
    exact ⟨a1, bs, rfl, by rw [← q.allBl e1]; exact SqL.of t, done_fz rp h (.bl _)⟩
theorem se_sum (hc : X.calm = true) (hg : Gl X "sum") (hm : X.mg "sum" = none) (hst : (a :: es).all noStar = true) (hs : SA X C W (a :: es) cs) : SE X C W (.Call (.Name "sum" p) (a :: es) [] pos) (.callB "sum" cs) :=
  se_callB (cr_sum hc) hg hm (by decide +kernel) (by decide) (by decide) hst hs fun vs u Vs B F H σ ρ Q al e rp rs h => by
    replace e : sumV vs = some u := e
    obtain ⟨v, rfl, e'⟩ := one_arg e
    replace e := e'
    clear e'
    obtain ⟨V, rfl, r⟩ := rs.one
    cases v <;> first | exact nomatch (show (none : Option Val) = some _ from e) | skip
    rename_i xs
    obtain ⟨ns, e1, rfl⟩ := map_inv (show (intsOf xs).map (fun ns => Val.int ns.sum) = some u from e)
    obtain ⟨a1, Vs, rfl, t, l, q⟩ := r
    exact ⟨a1, ns, rfl, by rw [← q.intsOf e1]; exact SqL.of t, done_fz rp h (.int _)⟩
theorem se_abs (hg : Gl X "abs") (hm : X.mg "abs" = none) (hst : (a :: es).all noStar = true) (hs : SA X C W (a :: es) cs) : SE X C W (.Call (.Name "abs" p) (a :: es) [] pos) (.callB "abs" cs) :=
  se_callB call_abs hg hm (by decide +kernel) (by decide) (by decide) hst hs fun vs u Vs B F H σ ρ Q al e rp rs h => by
    replace e : absV vs = some u := e
    obtain ⟨v, rfl, e'⟩ := one_arg e
    replace e := e'
    clear e'
    obtain ⟨V, rfl, r⟩ := rs.one
    cases v <;> first | exact nomatch (show (none : Option Val) = some _ from e) | skip
    cases e
    cases r.rv rfl
    exact ⟨_, rfl, done_fz rp h (.int _)⟩
theorem se_max2 (hc : X.calm = true) (hg : Gl X "max") (hm : X.mg "max" = none) (hst : (a :: es).all noStar = true) (hs : SA X C W (a :: es) cs) : SE X C W (.Call (.Name "max" p) (a :: es) [] pos) (.callB "max" cs) :=
  se_callB (call_max2 hc) hg hm (by decide +kernel) (by decide) (by decide) hst hs fun vs u Vs B F H σ ρ Q al e rp rs h => by
    replace e : maxV vs = some u := e
    obtain ⟨v, w, rfl, e'⟩ := two_args e
    replace e := e'
    clear e'
    obtain ⟨V, U, rfl, r1, r2⟩ := rs.two
    cases v <;> cases w <;> first | exact nomatch (show (none : Option Val) = some _ from e) | skip
    cases e
    cases r1.rv rfl; cases r2.rv rfl
    exact ⟨_, _, rfl, done_fz rp h (.int _)⟩
theorem se_min2 (hc : X.calm = true) (hg : Gl X "min") (hm : X.mg "min" = none) (hst : (a :: es).all noStar = true) (hs : SA X C W (a :: es) cs) : SE X C W (.Call (.Name "min" p) (a :: es) [] pos) (.callB "min" cs) :=
  se_callB (call_min2 hc) hg hm (by decide +kernel) (by decide) (by decide) hst hs fun vs u Vs B F H σ ρ Q al e rp rs h => by
    replace e : minV vs = some u := e
    obtain ⟨v, w, rfl, e'⟩ := two_args e
    replace e := e'
    clear e'
    obtain ⟨V, U, rfl, r1, r2⟩ := rs.two
    cases v <;> cases w <;> first | exact nomatch (show (none : Option Val) = some _ from e) | skip
    cases e
    cases r1.rv rfl; cases r2.rv rfl
    exact ⟨_, _, rfl, done_fz rp h (.int _)⟩
theorem se_int1 (hg : Gl X "int") (hm : X.mg "int" = none) (hst : (a :: es).all noStar = true) (hs : SA X C W (a :: es) cs) : SE X C W (.Call (.Name "int" p) (a :: es) [] pos) (.callB "int" cs) :=
  se_callTy call_int1 hg hm (by decide +kernel) (by decide) (by decide) hst hs fun vs u Vs B F H σ ρ Q al e rp rs h => by
    replace e : intV vs = some u := e
    obtain ⟨v, rfl, e'⟩ := one_arg e
    replace e := e'
    clear e'
    obtain ⟨V, rfl, r⟩ := rs.one
    cases v <;> first | exact nomatch (show (none : Option Val) = some _ from e) | skip
    · cases e
      cases r.rv rfl
      exact .inr ⟨_, rfl, done_fz rp h (.int _)⟩
    · cases e
      cases r.rv rfl
      exact .inl ⟨_, rfl, done_fz rp h (.int _)⟩
theorem se_tuple (hg : Gl X "tuple") (hm : X.mg "tuple" = none) (hst : (a :: es).all noStar = true) (hs : SA X C W (a :: es) cs) : SE X C W (.Call (.Name "tuple" p) (a :: es) [] pos) (.callB "tuple" cs) :=
  se_callTy call_tuple_of hg hm (by decide +kernel) (by decide) (by decide) hst hs fun vs u Vs B F H σ ρ Q al e rp rs h => by
    replace e : tupV vs = some u := e
    obtain ⟨v, rfl, e'⟩ := one_arg e
    replace e := e'
    clear e'
    obtain ⟨V, rfl, r⟩ := rs.one
    cases v <;> first | exact nomatch (show (none : Option Val) = some _ from e) | skip
    · cases e
      cases r.rv rfl with
      | @tup a1 Vs _ t l q => exact ⟨a1, Vs, rfl, .inr ⟨seqT rp.sub t, done_fz rp h (.tup t l q)⟩⟩
    · cases e
      obtain ⟨a1, Vs, rfl, t, l, q⟩ := r
      exact ⟨a1, Vs, rfl, .inl ⟨SqL.of t, fun p' n => done_tup rp h q l p' n⟩⟩
theorem se_list (hg : Gl X "list") (hm : X.mg "list" = none) (hst : (a :: es).all noStar = true) (hs : SA X C W (a :: es) cs) : SE X C W (.Call (.Name "list" p) (a :: es) [] pos) (.callB "list" cs) :=
  se_callTy call_list_of hg hm (by decide +kernel) (by decide) (by decide) hst hs fun vs u Vs B F H σ ρ Q al e rp rs h => by
    replace e : lstV vs = some u := e
    obtain ⟨v, rfl, e'⟩ := one_arg e
    replace e := e'
    clear e'
    obtain ⟨V, rfl, r⟩ := rs.one
    cases v <;> first | exact nomatch (show (none : Option Val) = some _ from e) | skip
    · cases e
      cases r.rv rfl with
      | @tup a1 Vs _ t l q => exact ⟨a1, Vs, rfl, .inr (seqT rp.sub t), fun p' n => done_lst al rp h q l p' n⟩
    · cases e
      obtain ⟨a1, Vs, rfl, t, l, q⟩ := r
      exact ⟨a1, Vs, rfl, .inl (SqL.of t), fun p' n => done_lst al rp h q l p' n⟩
theorem isi_of {m n : String} {b : Bool} {yes no : List String} (e : isiT n yes no = some b) (h1 : ∀ x ∈ yes, kitB m x = some true) (h2 : ∀ x ∈ no, kitB m x = some false) : kitB m n = some b := by
  unfold isiT at e
  split at e
  · rename_i h
    cases e
    exact h1 n (List.contains_iff_mem.mp h)
  · split at e
    · rename_i h
      cases e
      exact h2 n (List.contains_iff_mem.mp h)
    · cases e
theorem tyX_of {K : PySem.W.Frag} {F H : Hp} {a : Addr} {xs : List V} (e : Same F H) (t : SqT K F a xs) : TyX K H (.ref a) (.type "tuple") := by
  rcases t with (t | ⟨o, t⟩) | ⟨o, its, n, h1, h2, _⟩
  · exact .base (.tup (e _ _ t))
  · exact .fTuple (e _ _ t)
  · exact .kTuple h1 h2
theorem se_isi (hg : Gl X "isinstance") (hm : X.mg "isinstance" = none) (hst : (a :: es).all noStar = true) (hs : SA X C W (a :: es) cs) : SE X C W (.Call (.Name "isinstance" p) (a :: es) [] pos) (.callB "isinstance" cs) :=
  se_callB call_isi hg hm (by decide +kernel) (by decide) (by decide) hst hs fun vs u Vs B F H σ ρ Q al e rp rs h => by
    replace e : isiW C vs = some u := e
    obtain ⟨v, w, rfl, e'⟩ := two_args e
    replace e := e'
    clear e'
    obtain ⟨V, U, rfl, r1, r2⟩ := rs.two
    obtain ⟨b, e', rfl⟩ := map_inv (show (isiv C v w).map Val.bl = some u from e)
    replace e := e'
    clear e'
    have fin : Q (.bl b) H := done_fz rp h (.bl b)
    cases w <;> first | exact nomatch (show (none : Option Bool) = some _ from (by unfold isiv at e; exact e)) | skip
    rename_i n
    cases r2.rv rfl
    obtain ⟨m, tv, k⟩ : ∃ m, TyX X.K H V (.type m) ∧ kitB m n = some b := by
      cases v <;> first | exact nomatch (show (none : Option Bool) = some _ from e) | skip
      · cases r1.rv rfl
        exact ⟨"NoneType", .base .non, isi_of (m := "NoneType") e (by decide +kernel) (by decide +kernel)⟩
      · cases r1.rv rfl
        exact ⟨"bool", .base (.bl _), isi_of (m := "bool") e (by decide +kernel) (by decide +kernel)⟩
      · cases r1.rv rfl
        exact ⟨"int", .base (.int _), isi_of (m := "int") e (by decide +kernel) (by decide +kernel)⟩
      · cases r1.rv rfl
        exact ⟨"str", .base (.str _), isi_of (m := "str") e (by decide +kernel) (by decide +kernel)⟩
      · cases r1.rv rfl with
        | @tup a1 Vs _ t l q => exact ⟨"tuple", tyX_of rp.sub t, isi_of (m := "tuple") e (by decide +kernel) (by decide +kernel)⟩
      · obtain ⟨a1, Vs, rfl, t, l, q⟩ := r1
        exact ⟨"list", .base (.lst t), isi_of (m := "list") e (by decide +kernel) (by decide +kernel)⟩
    exact ⟨V, .ty n, .type m, .type n, b, rfl, .ty n, tv, kit_ty k, fin⟩
end
end Rv

/-! Rv, part 6: sorted, of lists and tuples of data. -/
namespace Rv
open PySem PySem.W PySem.Calls PySem.Spec PyProof.Rows

section
variable {prog : Program} {w : World} {A : Around} {E : Value → Shared → Prop} {s : Shared}
theorem collect_tup {l : Addr} {vs : List Value} {Q : List Value → Shared → Prop} (hl : IsTup s.heap l vs.toArray)
    (h : Q vs { s with heap := (s.heap.push (seqObj "list" #[] 0)).update s.heap.objs.size (Obj.mapSeq (· ++ vs.toArray)) }) (hsz : vs.length ≤ sizeLine) :
    wpAny (model prog w) A (collect (.ref l)) Q E s := by
  obtain ⟨o, ho, hc, n, hd⟩ := id hl
  unfold collect
  refine wpAny_bind (wpAny_runValue (codeAny_builtin entry_proto_collect' ?_))
  show wpAny _ _ (do again (.builtin "list.__iadd__" ⟨[← newList [], .ref l], []⟩)) _ _ s
  refine wpAny_bind (wpAny_newList (wpAny_pure ⟨Code.quiet_builtin _ (by decide +kernel), codeAny_builtin entry_list_iadd' ?_⟩))
  show wpAny _ _ (Builtin.List.listExtendWith (.ref s.heap.objs.size) (.ref l) (.ref s.heap.objs.size)) _ _ { s with heap := s.heap.push (seqObj "list" #[] 0) }
  unfold Builtin.List.listExtendWith
  have ho' : (s.heap.push (seqObj "list" #[] 0)).get? l = some o := Heap.get?_push_of_some _ ho
  refine wpAny_bind (wpAny_typeOf (T := "tuple") ⟨o, ho', hc⟩ ?_)
  have ht : (Value.type "tuple" == Value.type "tuple") = true := by rfl
  rw [if_pos (by rw [ht]; simp)]
  refine wpAny_bind (listItems_at ho' hd ?_)
  refine wpAny_bind (listItems_at (xs := #[]) (n := 0) (Heap.get?_push_size _ rfl) rfl ?_)
  rw [if_neg (by simp)]
  refine wpAny_bind (listUpdate_at (xs := #[]) (n := 0) (Heap.get?_push_size _ rfl) rfl ?_ (Nat.zero_le _) (by show (#[] ++ vs.toArray).size ≤ sizeLine + 1; simp only [Array.size_append, List.size_toArray, List.length_nil]; omega))
  refine wpAny_pure ?_
  show wpAny (model prog w) A (do
      let o ← load s.heap.objs.size
      match o.data with
      | .seq xs _ => pure xs.toList
      | _ => unsupported "internal:collect") Q E { s with heap := (s.heap.push (seqObj "list" #[] 0)).update s.heap.objs.size (Obj.mapSeq (· ++ vs.toArray)) }
  refine wpAny_bind (wpAny_load (get?_update_seq (Heap.get?_push_size _ rfl) _) ?_)
  show wpAny _ _ (pure ((#[] : Array Value) ++ vs.toArray).toList) Q E _
  rw [show ((#[] : Array Value) ++ vs.toArray).toList = vs by simp]
  exact wpAny_pure h
theorem sorted_of_sortT {l : Addr} {vs : List Value} {kw : List (Str × Value)} {Q : Value → Shared → Prop} (hl : IsTup s.heap l vs.toArray) (hL : vs.length ≤ sizeLine) (ha1 : argsOk "sorted" ⟨[.ref l], kw⟩) (ha2 : ∀ x, argsOk "list.sort" ⟨[.ref x], kw⟩)
    (body : ∀ E' : Value → Shared → Prop, wpAny (model prog w) A.in1.in1 (Builtin.«list.sort» ⟨[.ref (s.heap.objs.size + 1)], kw⟩) (fun f s' => f = .done (.ret .none) ∧ Q (.ref (s.heap.objs.size + 1)) s') E' { s with heap := copyHeap s.heap vs }) :
    wpAny (model prog w) A (call (.builtin "sorted") [.ref l] kw) Q E s := by
  refine call_function_entry_kw kind_sorted plain_sorted entry_sorted ha1 ?_
  unfold Builtin.«sorted»
  refine wpAny_bind (m := checkCount "sorted" 1 1 _) (wpAny_pure ?_)
  refine wpAny_bind (collect_tup hl ?_ hL)
  refine wpAny_bind (wpAny_newList ?_ hL)
  have hsz : ((s.heap.push (seqObj "list" #[] 0)).update s.heap.objs.size (Obj.mapSeq (· ++ vs.toArray))).objs.size = s.heap.objs.size + 1 := by
    rw [Heap.size_update, size_push']
  show wpAny _ _ _ _ _ { s with heap := copyHeap s.heap vs }
  rw [hsz]
  refine wpAny_bind (wpAny_holding (wpAny_call_entry_kw slot_list_sort ⟨_, copyHeap_at s.heap vs, rfl⟩ entry_list_sort ?body (ha2 _)))
  case body =>
    show wpAny (model prog w) A.in1.in1 (Builtin.«list.sort» ⟨[.ref (s.heap.objs.size + 1)], kw⟩) _ _ _
    refine wpAny_mono (body _) (fun f s' hf => ?_) fun _ _ e => e
    obtain ⟨rfl, hq⟩ := hf
    exact ⟨_, rfl, wpAny_pure ⟨_, rfl, hq⟩⟩
theorem sorted_dataT {β : Type} {vs : List Value} {bs : List β} {enc : β → PyData} {R : Value → β → Prop} {l : Addr} {Q : Value → Shared → Prop} (hl : IsTup s.heap l vs.toArray) (e : EachIs R vs bs) (er : EachIs (fun v b => ∃ as, Reads s.heap v (enc b) as) vs bs) (hal : AllAlike (bs.map enc)) (hk : Sortable (bs.map enc)) (hL : bs.length ≤ sizeLine)
    (hu : ∀ b, b ∈ bs → A.units + 2 + (enc b).depth < cLine) (h : ∀ out, out.length = bs.length → EachIs R out (bs.mergeSort (dataLe false enc)) → Q (.ref (s.heap.objs.size + 1)) { s with heap := sortedAll s.heap vs (List.toArray out) }) :
    wpAny (model prog w) A (call (.builtin "sorted") [.ref l]) Q E s := by
  have er' : EachIs (fun v b => ∃ as, Reads (sortingHeap (copyHeap s.heap vs) (s.heap.objs.size + 1) vs) v (enc b) as) vs bs := er.mono fun _ _ ⟨as, r⟩ => ⟨as, PyProof.Rows.Reads.keeps (fun _ _ => sorting_copy_old) r⟩
  have hLv : vs.length ≤ sizeLine := by rw [e.length]; exact hL
  refine sorted_of_sortT hl hLv (args_sorted1 _) (fun _ => args_list_sort _) fun _ => list_sort_vals (s := { s with heap := copyHeap s.heap vs }) (copyHeap_at s.heap vs)
    (SortsAt.data (s := { s with heap := sortingHeap (copyHeap s.heap vs) (s.heap.objs.size + 1) vs }) (each_map (R := fun v d => ∃ as, Reads (sortingHeap (copyHeap s.heap vs) (s.heap.objs.size + 1) vs) v d as) enc er') hal hk (bound_map hu)) hLv ⟨rfl, ?_⟩
  exact h _ (by rw [sortVals_length false rfl]; exact e.length) (sortVals_data false e er' hal)
end
end Rv

namespace Rv
open PySem PySem.Spec PyProof.Rows L2
open PySem.W (EachIs dataLe AllAlike Sortable alike)
def rSortM (K : PySem.W.Frag) : List V → Hp → VK → Prop := fun vs H Q => ∃ a Vs ds, vs = [V.ref a] ∧ (SqL K H a Vs ∨ SqT K H a Vs) ∧ DpAll K H Vs ds ∧ AllAlike ds ∧ Sortable ds ∧ (∀ d ∈ ds, d.depth ≤ 64) ∧
  ∀ p, H p = none → Q (.ref p) (upd H p (.lst (((Vs.zip ds).mergeSort (dataLe false Prod.snd)).map Prod.fst)))
theorem DpAll.len {K : PySem.W.Frag} {H : Hp} : ∀ {Vs : List V} {ds : List PyData}, DpAll K H Vs ds → Vs.length = ds.length
  | _, _, .nil => rfl
  | _, _, .cons _ b => by rw [List.length_cons, List.length_cons, DpAll.len b]
theorem each_data {X : Cx} {pins : List (Addr × Obj)} {σ : L2.St} {H : Hp} {s : Shared} (I : Inv X pins σ H s) : ∀ {Vs : List V} {ds : List PyData} {us : List Value}, DpAll X.K H Vs ds → Vals Vs us →
    EachIs (fun v (b : V × PyData) => RelV b.1 v ∧ ∃ as, Reads s.heap v b.2 as) us (Vs.zip ds)
  | _, _, _, .nil, .nil => .nil
  | _, _, _, .cons a b, .cons r t => .cons ⟨r, Dp.reads I _ _ _ a r⟩ (each_data I b t)
theorem vals_each {us : List Value} {bs : List (V × PyData)} (e : EachIs (fun v (b : V × PyData) => RelV b.1 v) us bs) : Vals (bs.map Prod.fst) us := by
  induction e with
  | nil => exact .nil
  | cons h _ ih => exact .cons h ih
theorem cr_sortedM {X : Cx} (hu : X.A.units + 70 < cLine) : CallR X (.builtin "sorted") (rSortM X.K) := by
  intro pins s σ H vs us Q I r h
  obtain ⟨a, Vs, ds, rfl, hs, hd, hal, hso, hdp, q⟩ := h
  obtain ⟨u, rfl, ru⟩ := vals1 r
  cases ru
  have hlen := DpAll.len hd
  have hsnd : (Vs.zip ds).map Prod.snd = ds := List.map_snd_zip (by omega)
  have fin : ∀ (its out : List Value), Vals Vs its → Vs.length ≤ sizeLine → out.length = (Vs.zip ds).length → EachIs (fun v (b : V × PyData) => RelV b.1 v) out ((Vs.zip ds).mergeSort (dataLe false Prod.snd)) →
      EP X pins σ Q (.ref (s.heap.objs.size + 1)) { s with heap := PyProof.Rows.sortedAll s.heap its out.toArray } := fun its out rv hz hl eo => by
    obtain ⟨n, he⟩ := PyProof.Rows.sortedAll_at s.heap its out.toArray
    refine ⟨.ref _, _, I.laid (t' := s.toks) (o := .lst (((Vs.zip ds).mergeSort (dataLe false Prod.snd)).map Prod.fst)) (fun _ _ => PyProof.Rows.sortedAll_old) (Nat.le_succ _) ⟨?_, out, n, vals_each eo, he⟩, rfl, q _ (I.hok.fresh (Nat.le_succ _))⟩
    rw [List.length_map, List.length_mergeSort, List.length_zip]
    omega
  rcases hs with hs | hs
  · obtain ⟨its, rv, hl, hz⟩ := I.list hs
    have ed := each_data I hd rv
    exact PySem.W.sorted_data (enc := Prod.snd) hl.isList (ed.mono fun _ _ h => h.1) (ed.mono fun _ _ h => h.2) (by rw [hsnd]; exact hal) (by rw [hsnd]; exact hso) (by rw [List.length_zip]; omega)
      (fun b hb => by have := hdp b.2 (List.of_mem_zip hb).2; omega) fun out h1 h2 => fin its out rv hz h1 h2
  · obtain ⟨its, rv, hl, hz⟩ := I.tuple hs
    have ed := each_data I hd rv
    exact sorted_dataT (enc := Prod.snd) hl (ed.mono fun _ _ h => h.1) (ed.mono fun _ _ h => h.2) (by rw [hsnd]; exact hal) (by rw [hsnd]; exact hso) (by rw [List.length_zip]; omega)
      (fun b hb => by have := hdp b.2 (List.of_mem_zip hb).2; omega) fun out h1 h2 => fin its out rv hz h1 h2
theorem sortOk_iff {ds : List PyData} (h : sortOk ds = true) : AllAlike ds ∧ Sortable ds ∧ ∀ d ∈ ds, d.depth ≤ 64 := by
  unfold sortOk at h
  rw [Bool.and_eq_true, Bool.and_eq_true, Bool.or_eq_true] at h
  obtain ⟨⟨h1, h2⟩, h3⟩ := h
  refine ⟨fun d hd e he => List.all_eq_true.mp (List.all_eq_true.mp h1 d hd) e he, ?_, fun d hd => of_decide_eq_true (List.all_eq_true.mp h3 d hd)⟩
  rcases h2 with h2 | h2
  · refine .inl fun d hd => ?_
    have z := List.all_eq_true.mp h2 d hd
    unfold isTup1 at z
    split at z
    · exact ⟨_, _, rfl⟩
    · cases z
  · refine .inr fun d hd => ?_
    have z := List.all_eq_true.mp h2 d hd
    unfold notTup at z
    split at z
    · cases z
    · cases z
    · rename_i h4 h5
      exact ⟨h4, h5⟩
theorem RVs.each {K : PySem.W.Frag} {mg : Str → Option Value} {F : Hp} : ∀ {vs : List Val} {xs : List V}, RVs K mg F vs xs → EachIs (RV K mg F) vs xs
  | _, _, .nil => .nil
  | _, _, .cons a b => .cons a (RVs.each b)
theorem RVs.of_each {K : PySem.W.Frag} {mg : Str → Option Value} {F : Hp} {vs : List Val} {xs : List V} (e : EachIs (RV K mg F) vs xs) : RVs K mg F vs xs := by
  induction e with
  | nil => exact .nil
  | cons h _ ih => exact .cons h ih
theorem each_zip {α β γ : Type} {R : α → β → Prop} {xs : List α} {ys : List β} (e : EachIs R xs ys) : ∀ {zs : List γ}, EachIs (fun p q => R p.1 q.1 ∧ p.2 = q.2) (xs.zip zs) (ys.zip zs) := by
  induction e with
  | nil => intro zs; exact .nil
  | cons h _ ih =>
    intro zs
    cases zs with
    | nil => exact .nil
    | cons z zs => exact .cons ⟨h, rfl⟩ ih
theorem each_fst {α β γ : Type} {R : α → β → Prop} {xs : List (α × γ)} {ys : List (β × γ)} (e : EachIs (fun p q => R p.1 q.1 ∧ p.2 = q.2) xs ys) : EachIs R (xs.map Prod.fst) (ys.map Prod.fst) := by
  induction e with
  | nil => exact .nil
  | cons h _ ih => exact .cons h.1 ih
theorem RVs.sorted {K : PySem.W.Frag} {mg : Str → Option Value} {F : Hp} {vs : List Val} {xs : List V} (r : RVs K mg F vs xs) (ds : List PyData) :
    RVs K mg F (((vs.zip ds).mergeSort (dataLe false Prod.snd)).map Prod.fst) (((xs.zip ds).mergeSort (dataLe false Prod.snd)).map Prod.fst) := by
  have z := each_zip (R := RV K mg F) r.each (zs := ds)
  refine .of_each (each_fst (PySem.W.sort_each z fun p hp q hq => ?_))
  show dataLe false Prod.snd p.1 q.1 = dataLe false Prod.snd p.2 q.2
  have e1 := (z.zip p hp).2
  have e2 := (z.zip q hq).2
  show PySem.W.sortLe _ _ _ _ _ = PySem.W.sortLe _ _ _ _ _
  unfold PySem.W.sortLe
  dsimp only
  rw [e1, e2]
section
variable {X : Cx} {C : Ctx} {W : WX} {a : Expr} {ca : Ex} {pos p : Pos} {es : List Expr} {cs : List Ex}
theorem se_sorted (hu : X.A.units + 70 < cLine) (hg : Gl X "sorted") (hm : X.mg "sorted" = none) (hst : (a :: es).all noStar = true) (hs : SA X C W (a :: es) cs) : SE X C W (.Call (.Name "sorted" p) (a :: es) [] pos) (.callB "sorted" cs) :=
  se_callB (cr_sortedM hu) hg hm (by decide +kernel) (by decide) (by decide) hst hs fun vs u Vs B F H σ ρ Q al e rp rs h => by
    replace e : sortV vs = some u := e
    obtain ⟨v, rfl, e'⟩ := one_arg e
    replace e := e'
    clear e'
    obtain ⟨V, rfl, r⟩ := rs.one
    have fin : ∀ (xs : List Val) (a1 : Addr) (Vs : List L2.V), V = .ref a1 → (SqL X.K H a1 Vs ∨ SqT X.K H a1 Vs) → Vs.length ≤ sizeLine → RVs X.K X.mg F xs Vs → (sortL xs).map Val.lst = some u → rSortM X.K [V] H Q := fun xs a1 Vs ev t l q e => by
      obtain ⟨ys, e1, rfl⟩ := map_inv e
      unfold sortL at e1
      cases hp : Val.pys xs with
      | none => rw [hp] at e1; cases e1
      | some ds =>
        rw [hp] at e1
        replace e1 : (if sortOk ds = true then some (((xs.zip ds).mergeSort (dataLe false Prod.snd)).map Prod.fst) else none) = some ys := e1
        split at e1
        · rename_i hk
          cases e1
          obtain ⟨k1, k2, k3⟩ := sortOk_iff hk
          have hd := dps_of rp.sub q hp
          subst ev
          refine ⟨a1, Vs, ds, rfl, t, hd, k1, k2, k3, fun p' n => done_lst al rp h (q.sorted ds) ?_ p' n⟩
          rw [List.length_map, List.length_mergeSort, List.length_zip]
          omega
        · cases e1
    cases v <;> first | exact nomatch (show (none : Option Val) = some _ from e) | skip
    · rename_i xs
      cases r.rv rfl with
      | @tup a1 Vs _ t l q => exact fin xs a1 Vs rfl (.inr (seqT rp.sub t)) l q e
    · rename_i xs
      obtain ⟨a1, Vs, rfl, t, l, q⟩ := r
      exact fin xs a1 Vs rfl (.inl (SqL.of t)) l q e
end
end Rv

/-! Rv, part 7: methods of a name's own list. -/
namespace Rv
open PySem PySem.Spec PyProof.Rows L2
open PySem.AutoSeq1 (wpAny_loadPart')

theorem extend_tup (l : Addr) (items : Array Value) (n : Nat) (b : Addr) (items2 : Array Value) (n2 : Nat) (dd : Option Addr) (sl : Array (Option Value)) (hs0 : ¬(!items.isEmpty && Builtin.List.listTooLong (items.size + items2.size)) = true) (hs1 : items.size ≤ sizeLine) (hs2 : items.size + items2.size ≤ sizeLine + 1) :
    Meets (Builtin.«list.extend» ⟨[.ref l, .ref b], []⟩) (fun _ R s => s.heap.get? l = some { cls := .type "list", dict := none, data := .seq items n, slots := #[] } ∧ s.heap.get? b = some { cls := .type "tuple", dict := dd, data := .seq items2 n2, slots := sl } ∧ R (.ok (.ret Value.none)) { s with heap := s.heap.update l (Obj.mapSeq (· ++ items2)) }) :=
  .of_wp fun prog w A R s h => by
    obtain ⟨hp, g, d, tk, os⟩ := s; obtain ⟨hl, hb, h⟩ := h; have f1 := @AutoSeq1.idx_int; have f2 := @AutoSeq1.sub_tuple_tuple; have f3 := @AutoSeq1.sub_list_list; have f4 := @AutoSeq1.sub_tuple_list; have f5 := @AutoSeq1.sub_list_tuple;
    have hz' : (items ++ items2).size ≤ sizeLine + 1 := by rw [Array.size_append]; exact hs2
    wp_walk using (wpAny_updateSeq hl rfl (hz := hs1) (_hz' := hz')), wpAny_loadPart' hl, wpAny_loadPart' hb; exact ⟨_, rfl, h⟩
def rExtT (K : PySem.W.Frag) : V → List V → Hp → VK → Prop := fun x vs H Q => ∃ l b xs zs, x = .ref l ∧ vs = [.ref b] ∧ H l = some (.lst xs) ∧ SqT K H b zs ∧ xs.length + zs.length ≤ sizeLine ∧ Q .non (upd H l (.lst (xs ++ zs)))
theorem mt_extT {X : Cx} : MtR X "list.extend" (rExtT X.K) := by
  intro pins s σ H x vs v us Q I rx rv h
  obtain ⟨l, b, xs, zs, rfl, rfl, hH, hB, hz, q⟩ := h
  cases rx
  obtain ⟨u, rfl, ru⟩ := rv.one
  cases ru
  obtain ⟨z, its, n, r, hl, e⟩ := I.lstM hH
  obtain ⟨its2, r2, ⟨⟨cls, dd, data, sl⟩, e2, hc, n2, hd⟩, hz2⟩ := I.tuple hB
  simp only at hc hd
  subst hc hd
  have hl2 := r2.length
  have hsz : its.toArray.size + its2.toArray.size ≤ sizeLine := by rw [List.size_toArray, List.size_toArray]; omega
  have hlong : ¬ (!its.toArray.isEmpty && Builtin.List.listTooLong (its.toArray.size + its2.toArray.size)) = true := by
    rw [notLongL hsz, Bool.and_false]
    exact Bool.false_ne_true
  refine call_meets F.slot_list_extend ⟨_, e, rfl⟩ F.entry_list_extend (F.args_list_extend_2 _ _)
    (extend_tup l its.toArray n b its2.toArray n2 dd sl hlong (by rw [List.size_toArray]; omega) (by omega)) ⟨e, e2, ?_⟩
  refine ⟨.non, _, I.lset (its' := its ++ its2) hH e (by simp) (r.append r2) ?_, rfl, q⟩
  rw [List.length_append]
  omega

section
variable {K : PySem.W.Frag} {mg : Str → Option Value} {F H : Hp} {σ : L2.St} {ρ : Env} {a : Addr} {o : HO} {i : Nat} {v v' : Val}
/-- a name's own object is changed -/
theorem Rp.write (rp : Rp K mg F H σ ρ) (h : lookS ρ i = some (v, true)) (m : v.mut = true) (s : σ[i]? = some (some (.ref a))) (m' : v'.mut = true) (new : R1 K mg F (upd H a o) v' (.ref a)) : Rp K mg F (upd H a o) σ (ρ.set i (some (v', true))) := by
  have hf := (rp.own_there ⟨i, v, h, m, s⟩).2
  refine ⟨fun b u e => ?_, by rw [List.length_set]; exact rp.len, fun j u q e => ?_, fun j k u1 u2 b e1 m1 e2 m2 s1 s2 => ?_⟩
  · rw [upd_ne (ne_of_none e hf)]; exact rp.sub b u e
  · rw [lookS_set] at e
    by_cases hj : i = j ∧ j < ρ.length
    · rw [if_pos hj] at e
      cases e
      refine ⟨.ref a, by rw [← hj.1]; exact s, ?_⟩
      unfold SlotR
      rw [m', if_pos (show (true && true) = true from rfl)]
      exact ⟨new, fun b eb => by cases eb; exact hf⟩
    · rw [if_neg hj] at e
      obtain ⟨x, hx, sl⟩ := rp.slot j u q e
      refine ⟨x, hx, ?_⟩
      unfold SlotR at sl ⊢
      split
      · rename_i hc
        rw [if_pos hc] at sl
        rw [Bool.and_eq_true] at hc
        refine ⟨sl.1.keep (Same.refl _) fun b ob eb hb => ?_, sl.2⟩
        have hne : b ≠ a := fun z => hj ⟨rp.inj i j v u a h m (by rw [e, hc.1]) hc.2 s (by rw [hx, eb, z]), lookS_lt e⟩
        rw [upd_ne hne]
        exact hb
      · rename_i hc
        rw [if_neg hc] at sl
        exact sl
  · have look : ∀ {j u}, lookS (ρ.set i (some (v', true))) j = some (u, true) → (j = i) ∨ lookS ρ j = some (u, true) := fun {j u} e => by
      rw [lookS_set] at e
      split at e
      · rename_i hc; exact .inl hc.1.symm
      · exact .inr e
    rcases look e1 with z1 | z1 <;> rcases look e2 with z2 | z2
    · rw [z1, z2]
    · rw [z1] at s1 ⊢
      rw [s] at s1; cases s1
      exact rp.inj i k v u2 a h m z2 m2 s s2
    · rw [z2] at s2 ⊢
      rw [s] at s2; cases s2
      exact rp.inj j i u1 v a z1 m1 h m s1 s
    · exact rp.inj j k u1 u2 b z1 m1 z2 m2 s1 s2
theorem Step.write (rp : Rp K mg F H σ ρ) (h : lookS ρ i = some (v, true)) (m : v.mut = true) (s : σ[i]? = some (some (.ref a))) : Step F H (Own ρ σ) F (upd H a o) (Own (ρ.set i (some (v', true))) σ) := by
  have hO : Own ρ σ a := ⟨i, v, h, m, s⟩
  refine ⟨Same.refl _, fun b u e n => ?_, fun b q => .inl q, fun b ⟨j, u, e, mu, sj⟩ => .inl ?_, fun b q => ?_⟩
  · rw [upd_ne (fun z => n (by rw [z]; exact hO))]; exact e
  · rw [lookS_set] at e
    split at e
    · rename_i hc
      rw [← hc.1, s] at sj
      cases sj
      exact hO
    · exact ⟨j, u, e, mu, sj⟩
  · by_cases hb : b = a
    · rw [hb, upd_same]; exact fun z => by cases z
    · rw [upd_ne hb]; exact q
end
section
variable {X : Cx} {C : Ctx} {W : WX} {a : Expr} {i : Nat} {x : Str} {np : Pos} {apos pos : Pos} {es : List Expr} {cs : List Ex} {m : Str} {id : String}
/-- a method of a name's own list: its rule, and what the rule asks where the evaluator has an answer -/
theorem se_lmeth {r : V → List V → Hp → VK → Prop} (slot : Slot "list" m id) (hty : typeOf (.builtin id) = pure (.type "method_descriptor")) (hm : MtR X id r) (hN : X.N[i]? = some x) (hv : Vis X.env.scope x) (hd : (x == ("__debug__" : Str)) = false) (hcd : (x == ("__classdict__" : Str)) = false)
    (hst : (a :: es).all noStar = true) (hfew : (a :: es).length < 30) (hline : (apos.endLine == pos.line) = true) (hs : SZ X C W (a :: es) cs)
    (k : ∀ (xs ys vs : List Val) (u : Val) (b : Addr) (Xs Vs : List V) (F H : Hp) (Q : VK), lmeth m xs vs = some (ys, u) → Same F H → H b = some (.lst Xs) → Xs.length ≤ sizeLine → RVs X.K X.mg F xs Xs → RVs X.K X.mg F vs Vs →
      (∀ Ys U, Ys.length ≤ sizeLine → RVs X.K X.mg F ys Ys → RV X.K X.mg F u U → Q U (upd H b (.lst Ys))) → r (.ref b) Vs H Q) :
    SE X C W (.Call (.Attribute (.Name x np) m apos) (a :: es) [] pos) (.lm i m cs) := by
  have hst' := hst
  rw [List.all_cons, Bool.and_eq_true] at hst
  have few : ((backTo pos (starEach (a :: es) X.env)).all (fun x => !x.1) && (backToKw pos (keywordEach [] X.env)).all (fun x => x.1.isSome)
      && decide ((a :: es).length + ([] : List Keyword).length + (if ([] : List Keyword).isEmpty then 0 else 1) < 30)) = true := by
    have h1 : (backTo pos (starEach (a :: es) X.env)).all (fun x => !x.1) = true := by
      have z := noStars (env := X.env) (pos := pos) hst'
      rw [List.all_eq_not_any_not]
      simp only [Bool.not_not]
      rw [z]; rfl
    rw [h1]
    have h2 : decide ((a :: es).length + 0 + 0 < 30) = true := decide_eq_true (by omega)
    show (true && true && decide ((a :: es).length + 0 + 0 < 30)) = true
    rw [h2]; rfl
  refine pe_imp (pe_bm PySem.F.plainAttrs_list slot hty hm (pe_var hN hv hd hcd) hs (by rfl) few hline (starEach_cons hst.1) (noStars hst.2)) fun σ H Q ⟨F, ρ, rp, h⟩ => ?_
  replace h : PostE X.K X.mg H F H σ ρ W Q (match lookS ρ i with
    | some (.lst _, true) => (fzEs C cs ρ).bind fun vs ρ => lmV i m vs ρ
    | _ => .stuck) := h
  cases e : lookS ρ i with
  | none => rw [e] at h; exact h.elim
  | some p =>
    obtain ⟨w, ow⟩ := p
    rw [e] at h
    cases w <;> first | exact h.elim | skip
    cases ow with
    | false => exact h.elim
    | true =>
      obtain ⟨V1, hx, sl⟩ := rp.slot i _ true e
      obtain ⟨b, Xs0, rfl, t0, _⟩ := (show R1 X.K X.mg F H (.lst _) V1 from sl.1)
      refine ⟨_, hx, .inl ⟨rfl, _, SqL.of t0⟩, ?_⟩
      refine bindZs rp h fun vs ρ2 Vs F2 H2 rp2 st2 rvs h2 => ?_
      replace h2 : PostE X.K X.mg H F2 H2 σ ρ2 W Q (match lookS ρ2 i with
        | some (.lst xs, true) => match lmeth m xs vs with
          | some (ys, u) => .ok ⟨u, .fz⟩ (ρ2.set i (some (.lst ys, true)))
          | none => .stuck
        | _ => .stuck) := h2
      cases e2 : lookS ρ2 i with
      | none => rw [e2] at h2; exact h2.elim
      | some p =>
        obtain ⟨w2, ow2⟩ := p
        rw [e2] at h2
        cases w2 <;> first | exact h2.elim | skip
        cases ow2 with
        | false => exact h2.elim
        | true =>
          rename_i xs
          have h2 : PostE X.K X.mg H F2 H2 σ ρ2 W Q (match lmeth m xs vs with
            | some (ys, u) => .ok ⟨u, .fz⟩ (ρ2.set i (some (.lst ys, true)))
            | none => .stuck) := h2
          cases e3 : lmeth m xs vs with
          | none => rw [e3] at h2; exact h2.elim
          | some q =>
            obtain ⟨ys, u⟩ := q
            rw [e3] at h2
            obtain ⟨y, hy, sl2⟩ := rp2.slot i _ true e2
            rw [hx] at hy; cases hy
            obtain ⟨b', Xs, eb, t, l, r⟩ := (show R1 X.K X.mg F2 H2 (.lst xs) (.ref b) from sl2.1)
            cases eb
            refine k xs ys vs u b Xs Vs F2 H2 Q e3 rp2.sub t l r rvs fun Ys U lY rY rU => ?_
            exact h2 F2 (upd H2 b (.lst Ys)) (rp2.write e2 rfl hx rfl ⟨b, Ys, rfl, upd_same, lY, rY⟩) (Step.write rp2 e2 rfl hx) U rU fr_fz
theorem se_append (hN : X.N[i]? = some x) (hv : Vis X.env.scope x) (hd : (x == ("__debug__" : Str)) = false) (hcd : (x == ("__classdict__" : Str)) = false) (hst : (a :: es).all noStar = true) (hfew : (a :: es).length < 30) (hline : (apos.endLine == pos.line) = true) (hs : SZ X C W (a :: es) cs) : SE X C W (.Call (.Attribute (.Name x np) "append" apos) (a :: es) [] pos) (.lm i "append" cs) :=
  se_lmeth PySem.F.slot_list_append PySem.F.type_list_append mt_append hN hv hd hcd hst hfew hline hs fun xs ys vs u b Xs Vs F H Q e s t l r rv q => by
    replace e : appendM xs vs = some (ys, u) := e
    unfold appendM at e
    split at e
    · rename_i v
      split at e
      · rename_i hl
        cases e
        obtain ⟨V, rfl, rV⟩ : ∃ V, Vs = [V] ∧ RV X.K X.mg F v V := by
          cases rv with
          | cons a b => cases b; exact ⟨_, rfl, a⟩
        rw [big_eq, r.length] at hl
        refine ⟨b, Xs, V, rfl, rfl, t, hl, q (Xs ++ [V]) .non ?_ (r.append (.cons rV .nil)) .non⟩
        rw [List.length_append, List.length_singleton]
        omega
      · cases e
    · cases e
theorem se_insert (hN : X.N[i]? = some x) (hv : Vis X.env.scope x) (hd : (x == ("__debug__" : Str)) = false) (hcd : (x == ("__classdict__" : Str)) = false) (hst : (a :: es).all noStar = true) (hfew : (a :: es).length < 30) (hline : (apos.endLine == pos.line) = true) (hs : SZ X C W (a :: es) cs) : SE X C W (.Call (.Attribute (.Name x np) "insert" apos) (a :: es) [] pos) (.lm i "insert" cs) :=
  se_lmeth PySem.F.slot_list_insert PySem.F.type_list_insert mt_insert hN hv hd hcd hst hfew hline hs fun xs ys vs u b Xs Vs F H Q e s t l r rv q => by
    replace e : insertM xs vs = some (ys, u) := e
    unfold insertM at e
    split at e
    · rename_i i v
      split at e
      · rename_i hl
        obtain ⟨h1, h2, h3⟩ := hl
        cases e
        obtain ⟨V, rfl, rV⟩ : ∃ V, Vs = [.int i, V] ∧ RV X.K X.mg F v V := by
          cases rv with
          | cons a b =>
            cases a
            cases b with
            | cons b c => cases c; exact ⟨_, rfl, b⟩
        rw [big_eq, r.length] at h1
        refine ⟨b, Xs, i, V, rfl, rfl, t, h1, h2, h3, q _ .non ?_ (((r.take _).append (.cons rV .nil)).append (r.drop _)) .non⟩
        rw [List.length_append, List.length_append, List.length_singleton, List.length_take, List.length_drop]
        omega
      · cases e
    · cases e
theorem se_extend (hN : X.N[i]? = some x) (hv : Vis X.env.scope x) (hd : (x == ("__debug__" : Str)) = false) (hcd : (x == ("__classdict__" : Str)) = false) (hst : (a :: es).all noStar = true) (hfew : (a :: es).length < 30) (hline : (apos.endLine == pos.line) = true) (hs : SZ X C W (a :: es) cs) : SE X C W (.Call (.Attribute (.Name x np) "extend" apos) (a :: es) [] pos) (.lm i "extend" cs) :=
  se_lmeth PySem.F.slot_list_extend PySem.F.type_list_extend (MtR.or mt_extend mt_extT) hN hv hd hcd hst hfew hline hs fun xs ys vs u b Xs Vs F H Q e s t l r rv q => by
    replace e : extendM xs vs = some (ys, u) := e
    unfold extendM at e
    split at e
    · rename_i zs
      split at e
      · rename_i hl
        cases e
        cases rv with
        | cons a c =>
          cases c
          cases a with
          | @lst a1 Zs _ t1 l1 q1 =>
            rw [big_eq, r.length, q1.length] at hl
            exact .inl ⟨b, a1, Xs, Zs, rfl, rfl, t, s _ _ t1, hl, q (Xs ++ Zs) .non (by rw [List.length_append]; exact hl) (r.append q1) .non⟩
      · cases e
    · rename_i zs
      split at e
      · rename_i hl
        cases e
        cases rv with
        | cons a c =>
          cases c
          cases a with
          | @tup a1 Zs _ t1 l1 q1 =>
            rw [big_eq, r.length, q1.length] at hl
            exact .inr ⟨b, a1, Xs, Zs, rfl, rfl, t, seqT s t1, hl, q (Xs ++ Zs) .non (by rw [List.length_append]; exact hl) (r.append q1) .non⟩
      · cases e
    · cases e
end
end Rv

/-! Rv, part 8: statements. -/
namespace Rv
open PySem PySem.Spec PyProof.Rows L2

def FlS (K : PySem.W.Frag) (mg : Str → Option Value) (B F H : Hp) (σ : L2.St) (ρ : Env) (D : Ends) : Fl → Prop
  | .nx => D.nx σ H
  | .bk => D.bk σ H
  | .ct => D.ct σ H
  | .rt r => ∀ V, RR K mg F H σ ρ r V → Fr B r V → D.rt V H
/-- what is wanted behind statements; U: the slots that keep what they hold; B: the heap at the def's entry -/
def PostS (K : PySem.W.Frag) (mg : Str → Option Value) (U : Nat → Prop) (B F H : Hp) (σ : L2.St) (ρ : Env) (W : WX) (D : Ends) : Out Fl → Prop
  | .ok f ρ' => ∀ σ' F' H', Rp K mg F' H' σ' ρ' → Step F H (Own ρ σ) F' H' (Own ρ' σ') → (∀ i, U i → σ'[i]? = σ[i]?) → FlS K mg B F' H' σ' ρ' D f
  | .exc x ρ' => ∀ cv d σ' F' H', Rp K mg F' H' σ' ρ' → Step F H (Own ρ σ) F' H' (Own ρ' σ') → (∀ i, U i → σ'[i]? = σ[i]?) → RX K mg F' x cv d → W cv d σ' H'
  | .stuck => False

section
variable {K : PySem.W.Frag} {mg : Str → Option Value} {C : Ctx} {W : WX} {U : Nat → Prop} {B F F1 F' H H1 H' : Hp} {σ σ1 : L2.St} {ρ ρ1 ρ' : Env} {Q : VK} {D D' : Ends}
theorem PostS.shift {o : Out Fl} (st : Step F H (Own ρ σ) F1 H1 (Own ρ1 σ1)) (u : ∀ i, U i → σ1[i]? = σ[i]?) (h : PostS K mg U B F H σ ρ W D o) : PostS K mg U B F1 H1 σ1 ρ1 W D o := by
  cases o with
  | ok r ρ' => exact fun σ' F' H' rp s2 k => h σ' F' H' rp (st.trans s2) fun i hi => (k i hi).trans (u i hi)
  | exc x ρ' => exact fun cv d σ' F' H' rp s2 k rx => h cv d σ' F' H' rp (st.trans s2) (fun i hi => (k i hi).trans (u i hi)) rx
  | stuck => exact h
theorem PostS.of_bind {α : Type} {o : Out α} {f : α → Env → Out Fl} (h : PostS K mg U B F H σ ρ W D (o.bind f)) :
    Post K mg F H σ ρ W (fun a ρ1 F1 H1 => PostS K mg U B F1 H1 σ ρ1 W D (f a ρ1)) o := by
  cases o with
  | ok r ρ' => exact fun F' H' rp s2 => PostS.shift s2 (fun _ _ => rfl) h
  | exc x ρ' => exact fun cv d F' H' rp s2 rx => h cv d σ F' H' rp s2 (fun _ _ => rfl) rx
  | stuck => exact h
theorem PostS.now {f : Fl} (rp : Rp K mg F H σ ρ) (h : PostS K mg U B F H σ ρ W D (.ok f ρ)) : FlS K mg B F H σ ρ D f := h σ F H rp Step.refl fun _ _ => rfl
/-- an expression, then the rest; what follows the expression is told from its start -/
theorem bindS {c : Ex} {f : R → Env → Out Fl} {Q1 : VK} (rp : Rp K mg F H σ ρ) (h : PostS K mg U B F H σ ρ W D ((evE C c ρ).bind f))
    (k : ∀ r ρ1 V F1 H1, Rp K mg F1 H1 σ ρ1 → Step F H (Own ρ σ) F1 H1 (Own ρ1 σ) → RR K mg F1 H1 σ ρ1 r V → Fr H r V → PostS K mg U B F H σ ρ W D (f r ρ1) → Q1 V H1) : rdE K mg C W c σ H Q1 := by
  refine ⟨F, ρ, rp, ?_⟩
  cases e : evE C c ρ with
  | ok r ρ1 =>
    rw [e] at h
    exact fun F1 H1 rp1 st V rr fr => k r ρ1 V F1 H1 rp1 st rr fr h
  | exc x ρ1 =>
    rw [e] at h
    exact fun cv d F1 H1 rp1 st rx => h cv d σ F1 H1 rp1 st (fun _ _ => rfl) rx
  | stuck =>
    rw [e] at h
    exact h

/-! ### stores -/
theorem getS {σ : L2.St} {i j : Nat} {V : V} : (σ.set i (some V))[j]? = if i = j ∧ j < σ.length then some (some V) else σ[j]? := by
  rw [List.getElem?_set]
  by_cases h : i = j
  · subst h
    by_cases h2 : i < σ.length
    · simp [h2]
    · simp [h2]
  · rw [if_neg h, if_neg fun z : i = j ∧ j < σ.length => h z.1]
theorem Rp.store {v : Val} {o : Bool} {V : V} {i : Nat} (rp : Rp K mg F H σ ρ) (sl : SlotR K mg F H v o V) (hn : o = true → v.mut = true → ∀ a, V = .ref a → ¬ Own ρ σ a) : Rp K mg F H (σ.set i (some V)) (ρ.set i (some (v, o))) := by
  have hl := rp.len
  refine ⟨rp.sub, by rw [List.length_set, List.length_set]; exact hl, fun j w q e => ?_, fun j k u1 u2 b e1 m1 e2 m2 s1 s2 => ?_⟩
  · rw [lookS_set] at e
    rw [getS]
    by_cases hj : i = j ∧ j < ρ.length
    · rw [if_pos hj] at e
      rw [if_pos (by rw [← hl]; exact hj)]
      cases e
      exact ⟨V, rfl, sl⟩
    · rw [if_neg hj] at e
      rw [if_neg (by rw [← hl]; exact hj)]
      exact rp.slot j w q e
  · rw [lookS_set] at e1 e2
    rw [getS] at s1 s2
    rw [← hl] at s1 s2
    by_cases hj : i = j ∧ j < ρ.length
    · rw [if_pos hj] at e1 s1
      by_cases hk : i = k ∧ k < ρ.length
      · rw [← hj.1, ← hk.1]
      · rw [if_neg hk] at e2 s2
        cases e1
        cases s1
        exact absurd ⟨k, u2, e2, m2, s2⟩ (hn rfl m1 b rfl)
    · rw [if_neg hj] at e1 s1
      by_cases hk : i = k ∧ k < ρ.length
      · rw [if_pos hk] at e2 s2
        cases e2
        cases s2
        exact absurd ⟨j, u1, e1, m1, s1⟩ (hn rfl m2 b rfl)
      · rw [if_neg hk] at e2 s2
        exact rp.inj j k u1 u2 b e1 m1 e2 m2 s1 s2
theorem Own.store {v : Val} {o : Bool} {V : V} {i : Nat} {a : Addr} (hl : ρ.length = σ.length) (h : Own (ρ.set i (some (v, o))) (σ.set i (some V)) a) : Own ρ σ a ∨ (o = true ∧ v.mut = true ∧ V = .ref a) := by
  obtain ⟨j, w, e, m, s⟩ := h
  rw [lookS_set] at e
  rw [getS, ← hl] at s
  by_cases hj : i = j ∧ j < ρ.length
  · rw [if_pos hj] at e s
    cases e
    cases s
    exact .inr ⟨rfl, m, rfl⟩
  · rw [if_neg hj] at e s
    exact .inl ⟨j, w, e, m, s⟩
/-- what a store keeps of a result -/
theorem keep_all {r : R} {V : V} {p : Val × Bool} (rp : Rp K mg F H σ ρ) (rr : RR K mg F H σ ρ r V) (e : keep r ρ = .ok p ρ1) :
    ∃ F1, Rp K mg F1 H σ ρ1 ∧ SlotR K mg F1 H p.1 p.2 V ∧ (p.2 = true → p.1.mut = true → r.s = .fr ∧ ∀ a, V = .ref a → ¬ Own ρ1 σ a ∧ (∃ o, H a = some o)) ∧ ∀ F0 H0 O0, Step F0 H0 O0 F H (Own ρ σ) → Step F0 H0 O0 F1 H (Own ρ1 σ) := by
  obtain ⟨v, s⟩ := r
  cases s with
  | fz =>
    have e : Out.ok (v, false) ρ = .ok p ρ1 := e
    cases e
    refine ⟨F, rp, ?_, (fun z => nomatch z), fun _ _ _ st => st⟩
    unfold SlotR
    rw [Bool.false_and, if_neg Bool.false_ne_true]
    exact rr
  | fr =>
    have e : Out.ok (v, v.mut) ρ = .ok p ρ1 := e
    cases e
    obtain ⟨q1, q2⟩ := (show R1 K mg F H v V ∧ ∀ a, V = .ref a → F a = none ∧ ¬ Own ρ σ a ∧ ∃ o, H a = some o from rr)
    refine ⟨F, rp, ?_, fun _ _ => ⟨rfl, fun a ea => ⟨(q2 a ea).2.1, (q2 a ea).2.2⟩⟩, fun _ _ _ st => st⟩
    unfold SlotR
    cases hm : v.mut with
    | true => exact ⟨q1, fun a ea => (q2 a ea).1⟩
    | false => exact q1.rv hm
  | var i =>
    have e : (fzR ⟨v, .var i⟩ ρ).bind (fun v ρ => Out.ok (v, false) ρ) = .ok p ρ1 := e
    rcases fzR_cases (r := ⟨v, .var i⟩) (ρ := ρ) with ez | ⟨w, ρ2, ez⟩
    · rw [ez] at e; cases e
    obtain ⟨F2, rp2, rv, st2⟩ := fz_all rp rr ez
    rw [ez] at e
    have e : Out.ok (w, false) ρ2 = .ok p ρ1 := e
    cases e
    refine ⟨F2, rp2, ?_, (fun z => by cases z), fun F0 H0 O0 st => st2 F0 H0 O0 st fun z => by cases z⟩
    unfold SlotR
    rw [Bool.false_and, if_neg Bool.false_ne_true]
    exact rv
theorem keep_ok {F0 H0 : Hp} {ρ0 : Env} {σ0 : L2.St} {r : R} {V : V} {p : Val × Bool} (st : Step F0 H0 (Own ρ0 σ0) F H (Own ρ σ)) (rp : Rp K mg F H σ ρ) (rr : RR K mg F H σ ρ r V) (fr : Fr H0 r V) (e : keep r ρ = .ok p ρ1) :
    ∃ F1, Rp K mg F1 H σ ρ1 ∧ Step F0 H0 (Own ρ0 σ0) F1 H (Own ρ1 σ) ∧ SlotR K mg F1 H p.1 p.2 V ∧ (p.2 = true → p.1.mut = true → ∀ a, V = .ref a → ¬ Own ρ1 σ a ∧ H0 a = none ∧ (∃ o, H a = some o)) := by
  obtain ⟨F1, a, b, c, d⟩ := keep_all rp rr e
  exact ⟨F1, a, d _ _ _ st, b, fun z1 z2 u eu => ⟨((c z1 z2).2 u eu).1, fr (c z1 z2).1 u eu, ((c z1 z2).2 u eu).2⟩⟩
theorem SlotR.later {v : Val} {o : Bool} {V : V} (st : Step F H (Own ρ σ) F1 H (Own ρ1 σ)) (hn : o = true → v.mut = true → ∀ a, V = .ref a → ¬ Own ρ σ a) (s : SlotR K mg F H v o V) : SlotR K mg F1 H v o V := by
  unfold SlotR at s ⊢
  split
  · rename_i hc
    rw [if_pos hc] at s
    rw [Bool.and_eq_true] at hc
    refine ⟨s.1.keep st.ff fun _ _ _ z => z, fun a ea => ?_⟩
    obtain ⟨b, ob, eb, hb⟩ := s.1.ref hc.2
    rw [ea] at eb; cases eb
    exact st.stillFree hb (s.2 a ea) (hn hc.1 hc.2 a ea)
  · rename_i hc
    rw [if_neg hc] at s
    exact s.mono st.ff
/-- a slot is stored: the step from the start -/
theorem Step.store {F0 H0 : Hp} {ρ0 : Env} {σ0 : L2.St} {v : Val} {o : Bool} {V : V} {i : Nat} (st : Step F0 H0 (Own ρ0 σ0) F H (Own ρ σ)) (hl : ρ.length = σ.length) (hn : o = true → v.mut = true → ∀ a, V = .ref a → H0 a = none) :
    Step F0 H0 (Own ρ0 σ0) F H (Own (ρ.set i (some (v, o))) (σ.set i (some V))) :=
  ⟨st.ff, st.kp, st.nf, fun a h => (h.store hl).elim (st.no a) fun z => .inr (hn z.1 z.2.1 a z.2.2), st.al⟩

/-! ### targets -/
mutual
def Tg.has : Tg → Nat → Prop
  | .nm i, j => i = j
  | .tp ts, j => Tg.hasS ts j
def Tg.hasS : List Tg → Nat → Prop
  | [], _ => False
  | t :: ts, j => Tg.has t j ∨ Tg.hasS ts j
end
/-- kept values go to the target -/
def rdG (K : PySem.W.Frag) (mg : Str → Option Value) (t : Tg) : TG := fun V σ H Q => ∃ F ρ v ρ', Rp K mg F H σ ρ ∧ RV K mg F v V ∧ asgT t v false ρ = some ρ' ∧
  ∀ σ', Rp K mg F H σ' ρ' → (∀ a, Own ρ' σ' a → Own ρ σ a) → (∀ i, ¬ t.has i → σ'[i]? = σ[i]?) → Q σ' H
def rdGs (K : PySem.W.Frag) (mg : Str → Option Value) (ts : List Tg) : TGs := fun Vs σ H Q => ∃ F ρ vs ρ', Rp K mg F H σ ρ ∧ RVs K mg F vs Vs ∧ asgTs ts vs ρ = some ρ' ∧
  ∀ σ', Rp K mg F H σ' ρ' → (∀ a, Own ρ' σ' a → Own ρ σ a) → (∀ i, ¬ Tg.hasS ts i → σ'[i]? = σ[i]?) → Q σ' H
def SG (X : Cx) (e : Expr) (t : Tg) : Prop := PG X e (rdG X.K X.mg t)
def SGs (X : Cx) (es : List Expr) (ts : List Tg) : Prop := PGs X es (rdGs X.K X.mg ts)
theorem pg_imp {X : Cx} {e : Expr} {t t' : TG} (h : PG X e t) (i : ∀ v σ H Q, t' v σ H Q → t v σ H Q) : PG X e t' := ⟨fun pins s σ H v u Q I r q => h.run pins s σ H v u Q I r (i v σ H Q q)⟩
theorem pgs_imp {X : Cx} {e : List Expr} {t t' : TGs} (h : PGs X e t) (i : ∀ v σ H Q, t' v σ H Q → t v σ H Q) : PGs X e t' := ⟨fun pins s σ H v u Q I r q => h.run pins s σ H v u Q I r (i v σ H Q q)⟩
end
section
variable {X : Cx} {pos : Pos}
theorem sg_nm {i : Nat} {x : Str} (hN : X.N.Nodup) (hi : X.N[i]? = some x) (hx : Loc X.env.scope x) (hf : X.fn x = true ∨ X.env.scope.names.lookup x = some .local) : SG X (.Name x pos) (.nm i) :=
  pg_imp (pg_name hN hi hx hf) fun V σ H Q ⟨F, ρ, v, ρ', rp, rv, e, k⟩ => by
    replace e : (if i < ρ.length then some (ρ.set i (some (v, false))) else none) = some ρ' := e
    split at e
    · cases e
      refine k _ (rp.store (by unfold SlotR; rw [Bool.false_and, if_neg Bool.false_ne_true]; exact rv) fun z => by cases z) (fun a h => (h.store rp.len).elim id fun z => by cases z.1) fun j hj => ?_
      rw [getS, if_neg fun z => hj z.1]
    · cases e
theorem sgs_nil : SGs X [] [] := pgs_imp pgs_nil fun Vs σ H Q ⟨F, ρ, vs, ρ', rp, rvs, e, k⟩ => by
  cases vs with
  | nil =>
    cases rvs
    cases e
    exact ⟨rfl, k σ rp (fun _ h => h) fun _ _ => rfl⟩
  | cons v vs => cases e
theorem assignEach_cons {e : Expr} {es : List Expr} {env : PySem.Env} (h : noStar e = true) : assignEach (e :: es) env = (false, assign e env) :: assignEach es env := by
  cases e <;> first | rfl | exact (Bool.false_ne_true h).elim
theorem sgs_cons {e : Expr} {es : List Expr} {t : Tg} {ts : List Tg} (hst : noStar e = true) (h1 : SG X e t) (h2 : SGs X es ts) : SGs X (e :: es) (t :: ts) :=
  pgs_imp (pgs_cons h1 h2 (by rw [assignEach_cons hst]; rfl)) fun Vs σ H Q ⟨F, ρ, vs, ρ', rp, rvs, e, k⟩ => by
    cases rvs with
    | nil => cases e
    | @cons v V vs Vs a b =>
      replace e : (match asgT t v false ρ with
        | some ρ' => asgTs ts vs ρ'
        | none => none) = some ρ' := e
      cases e1 : asgT t v false ρ with
      | none => rw [e1] at e; cases e
      | some ρ1 =>
        rw [e1] at e
        refine ⟨V, Vs, rfl, F, ρ, v, ρ1, rp, a, e1, fun σ1 rp1 o1 u1 => ⟨F, ρ1, vs, ρ', rp1, b, e, fun σ2 rp2 o2 u2 => k σ2 rp2 (fun a h => o1 a (o2 a h)) fun i hi => ?_⟩⟩
        rw [u2 i fun z => hi (.inr z), u1 i fun z => hi (.inl z)]
theorem assignEach_len {env : PySem.Env} : ∀ {es : List Expr}, es.all noStar = true → (assignEach es env).length = es.length ∧ (assignEach es env).findIdx? (·.1) = none
  | [], _ => ⟨rfl, rfl⟩
  | e :: es, h => by
    rw [List.all_cons, Bool.and_eq_true] at h
    obtain ⟨h1, h2⟩ := assignEach_len (env := env) h.2
    rw [assignEach_cons h.1]
    refine ⟨by rw [List.length_cons, List.length_cons, h1], ?_⟩
    rw [List.findIdx?_cons, h2]
    rfl
theorem asgTs_len {ts : List Tg} : ∀ {vs : List Val} {ρ ρ' : Env}, asgTs ts vs ρ = some ρ' → vs.length = ts.length := by
  induction ts with
  | nil =>
    intro vs ρ ρ' e
    cases vs with
    | nil => rfl
    | cons => cases e
  | cons t ts ih =>
    intro vs ρ ρ' e
    cases vs with
    | nil => cases e
    | cons v vs =>
      replace e : (match asgT t v false ρ with
        | some ρ' => asgTs ts vs ρ'
        | none => none) = some ρ' := e
      cases e1 : asgT t v false ρ with
      | none => rw [e1] at e; cases e
      | some ρ1 =>
        rw [e1] at e
        rw [List.length_cons, List.length_cons, ih e]
theorem sg_tp {es : List Expr} {ts : List Tg} {k : Nat} (hc : X.calm = true) (hst : es.all noStar = true) (hl : es.length = ts.length) (h : SGs X es ts) : SG X (.Tuple es k pos) (.tp ts) :=
  pg_imp (pg_tup hc h (n := es.length) (assignEach_len hst).1 (assignEach_len hst).2) fun V σ H Q ⟨F, ρ, v, ρ', rp, rv, e, k⟩ => by
    cases v <;> first | exact nomatch (show (none : Option Env) = some _ from e) | skip
    rename_i xs
    replace e : asgTs ts xs ρ = some ρ' := e
    cases rv with
    | @tup a Vs _ t l r =>
      refine ⟨a, Vs, rfl, seqT rp.sub t, ?_, F, ρ, xs, ρ', rp, r, e, fun σ' h1 h2 h3 => k σ' h1 h2 h3⟩
      rw [← r.length, asgTs_len e, hl]
end

/-! ### the judgement -/
def rdS (K : PySem.W.Frag) (mg : Str → Option Value) (C : Ctx) (n : Nat) (U : Nat → Prop) (W : WX) (c : Sx) : TS := fun D σ H => ∃ B F ρ, Rp K mg F H σ ρ ∧ (∀ a, B a ≠ none → H a ≠ none) ∧ PostS K mg U B F H σ ρ W D (evS C n c ρ)
def rdSs (K : PySem.W.Frag) (mg : Str → Option Value) (C : Ctx) (n : Nat) (U : Nat → Prop) (W : WX) (cs : List Sx) : TS := fun D σ H => ∃ B F ρ, Rp K mg F H σ ρ ∧ (∀ a, B a ≠ none → H a ≠ none) ∧ PostS K mg U B F H σ ρ W D (evSs C n cs ρ)
def SS (X : Cx) (C : Ctx) (n : Nat) (U : Nat → Prop) (W : WX) (s : Stmt) (c : Sx) : Prop := PS X s (rdS X.K X.mg C n U W c)
def SSs (X : Cx) (C : Ctx) (n : Nat) (U : Nat → Prop) (W : WX) (ss : List Stmt) (cs : List Sx) : Prop := PSs X ss (rdSs X.K X.mg C n U W cs)
theorem pss_imp {X : Cx} {e : List Stmt} {t t' : TS} (h : PSs X e t) (i : ∀ D σ H, t' D σ H → t D σ H) : PSs X e t' := ⟨fun pins s σ H D I q => h.run pins s σ H D I (i D σ H q)⟩
section
variable {X : Cx} {C : Ctx} {n : Nat} {U : Nat → Prop} {W : WX} {e a : Expr} {ce ca : Ex} {pos : Pos} {s : Stmt} {ss : List Stmt} {c : Sx} {cs : List Sx}
theorem sss_nil : SSs X C n U W [] [] := pss_imp pss_nil fun D σ H ⟨B, F, ρ, rp, al, h⟩ => PostS.now rp h
/-- the flow goes on -/
def goOn (g : Env → Out Fl) (f : Fl) (ρ : Env) : Out Fl := match f with
  | .nx => g ρ
  | f => .ok f ρ
theorem PostS.seq {K : PySem.W.Frag} {mg : Str → Option Value} {B F H : Hp} {σ : L2.St} {ρ : Env} {D : Ends} {o : Out Fl} {g : Env → Out Fl} (h : PostS K mg U B F H σ ρ W D (o.bind (goOn g))) (nx : L2.St → Hp → Prop)
    (k : ∀ σ' H', nx σ' H' ↔ nx σ' H') (hn : ∀ F1 H1 σ1 ρ1, Rp K mg F1 H1 σ1 ρ1 → Step F H (Own ρ σ) F1 H1 (Own ρ1 σ1) → PostS K mg U B F1 H1 σ1 ρ1 W D (g ρ1) → nx σ1 H1) : PostS K mg U B F H σ ρ W { D with nx := nx } o := by
  cases o with
  | stuck => exact h
  | exc x ρ' => exact h
  | ok f ρ' =>
    intro σ' F' H' rp st u
    cases f with
    | nx => exact hn F' H' σ' ρ' rp st (PostS.shift st u h)
    | bk => exact h σ' F' H' rp st u
    | ct => exact h σ' F' H' rp st u
    | rt r => exact h σ' F' H' rp st u
theorem evSs_cons {ρ : Env} : evSs C n (c :: cs) ρ = (evS C n c ρ).bind (goOn (evSs C n cs)) := by
  show ((evS C n c ρ).bind fun f ρ => match f with
    | .nx => evSs C n cs ρ
    | g => .ok g ρ) = _
  rfl
theorem sss_cons (h1 : SS X C n U W s c) (h2 : SSs X C n U W ss cs) : SSs X C n U W (s :: ss) (c :: cs) :=
  pss_imp (pss_cons h1 h2) fun D σ H ⟨B, F, ρ, rp, al, h⟩ => by
    rw [evSs_cons] at h
    exact ⟨B, F, ρ, rp, al, h.seq _ (fun _ _ => Iff.rfl) fun F1 H1 σ1 ρ1 rp1 st h1 => ⟨B, F1, ρ1, rp1, fun a q => st.al a (al a q), h1⟩⟩
theorem ss_pass : SS X C n U W (.Pass pos) .pass := ps_imp ps_pass fun D σ H ⟨B, F, ρ, rp, al, h⟩ => PostS.now rp h
theorem ss_brk : SS X C n U W (.Break pos) .brk := ps_imp ps_break fun D σ H ⟨B, F, ρ, rp, al, h⟩ => PostS.now rp h
theorem ss_cont : SS X C n U W (.Continue pos) .cont := ps_imp ps_continue fun D σ H ⟨B, F, ρ, rp, al, h⟩ => PostS.now rp h
theorem ss_doc {x : Str} {j : Nat} {p' : Pos} : SS X C n U W (.Expr (.Constant (.str x) j p') pos) .pass := ps_imp ps_doc fun D σ H ⟨B, F, ρ, rp, al, h⟩ => PostS.now rp h
/-- not a comprehension -/
def notComp : Expr → Bool
  | .ListComp _ _ _ _ => false
  | .SetComp _ _ _ _ => false
  | .DictComp _ _ _ _ _ => false
  | _ => true
theorem swaps_no {t : Option Expr} {l : Nat} {env : PySem.Env} (h : notComp e = true) : swapsWith e t l env = pure false := by
  cases e <;> first | rfl | exact (Bool.false_ne_true h).elim
theorem ss_expr (hn : notComp e = true) (he : SE X C W e ce) : SS X C n U W (.Expr e pos) (.expr ce) :=
  ps_imp (ps_expr he (swaps_no hn)) fun D σ H ⟨B, F, ρ, rp, al, h⟩ => bindS rp h fun r ρ1 V F1 H1 rp1 st rr fr h1 => h1 σ F1 H1 rp1 st fun _ _ => rfl
theorem ss_ret (he : SE X C W e ce) : SS X C n U W (.Return (some e) pos) (.ret ce) :=
  ps_imp (ps_ret he) fun D σ H ⟨B, F, ρ, rp, al, h⟩ => bindS rp h fun r ρ1 V F1 H1 rp1 st rr fr h1 =>
    h1 σ F1 H1 rp1 st (fun _ _ => rfl) V rr fun z b ez => Classical.byContradiction fun q => al b q (fr z b ez)
theorem ss_retN : SS X C n U W (.Return none pos) (.ret (.con .non)) :=
  ps_imp ps_retN fun D σ H ⟨B, F, ρ, rp, al, h⟩ => h σ F H rp Step.refl (fun _ _ => rfl) .non .non fr_fz
/-- a store by a name -/
theorem set_ok {K : PySem.W.Frag} {mg : Str → Option Value} {B F H F1 H1 : Hp} {σ : L2.St} {ρ ρ1 : Env} {D : Ends} {r : R} {V : V} {i : Nat} (hU : ¬ U i) (rp1 : Rp K mg F1 H1 σ ρ1) (st : Step F H (Own ρ σ) F1 H1 (Own ρ1 σ)) (rr : RR K mg F1 H1 σ ρ1 r V) (fr : Fr H r V)
    (h : PostS K mg U B F H σ ρ W D ((keep r ρ1).bind fun p ρ => setS ρ i p)) : D.nx (σ.set i (some V)) H1 := by
  cases e : keep r ρ1 with
  | stuck => rw [e] at h; exact h.elim
  | exc x ρ2 =>
    exfalso
    obtain ⟨v, s⟩ := r
    cases s with
    | fz => cases e
    | fr => cases e
    | var j =>
      replace e : (fzR ⟨v, .var j⟩ ρ1).bind (fun v ρ => Out.ok (v, false) ρ) = .exc x ρ2 := e
      replace e : (match lookS ρ1 j with
        | some (v, _) => Out.ok v (ρ1.set j (some (v, false)))
        | none => .stuck).bind (fun v ρ => Out.ok (v, false) ρ) = .exc x ρ2 := e
      cases e2 : lookS ρ1 j with
      | none => rw [e2] at e; cases e
      | some q => rw [e2] at e; cases e
  | ok p ρ2 =>
    rw [e] at h
    replace h : PostS K mg U B F H σ ρ W D (if i < ρ2.length then .ok .nx (ρ2.set i (some p)) else .stuck) := h
    obtain ⟨F2, rp2, st2, sl, q⟩ := keep_ok st rp1 rr fr e
    split at h
    · obtain ⟨v, o⟩ := p
      refine h _ F2 H1 (rp2.store sl fun z1 z2 a ea => (q z1 z2 a ea).1) (st2.store rp2.len fun z1 z2 a ea => (q z1 z2 a ea).2.1) fun j hj => ?_
      rw [getS, if_neg fun (z : i = j ∧ j < σ.length) => hU (z.1 ▸ hj)]
    · exact h.elim
theorem ss_asg {i : Nat} {x : Str} {p' : Pos} (hU : ¬ U i) (hN : X.N.Nodup) (hi : X.N[i]? = some x) (hx : Loc X.env.scope x) (hf : X.fn x = true ∨ X.env.scope.names.lookup x = some .local) (hn : notComp e = true) (he : SE X C W e ce) : SS X C n U W (.Assign [.Name x p'] e pos) (.asg (.nm i) ce) :=
  ps_imp (ps_set hN hi hx he (swaps_no hn) hf) fun D σ H ⟨B, F, ρ, rp, al, h⟩ => bindS rp h fun r ρ1 V F1 H1 rp1 st rr fr h1 => set_ok hU rp1 st rr fr h1
theorem ss_asgT {tg : Expr} {ts : List Tg} (hU : ∀ i, U i → ¬ Tg.has (.tp ts) i) (hg : SG X tg (.tp ts)) (hn : notComp e = true) (hw : swappedStores [tg] e X.env = pure none) (h1 : (assignEach [tg] X.env).map (·.2) = [assign tg X.env]) (he : SE X C W e ce) : SS X C n U W (.Assign [tg] e pos) (.asg (.tp ts) ce) :=
  ps_imp (ps_asg he hg (swaps_no hn) hw h1) fun D σ H ⟨B, F, ρ, rp, al, h⟩ => bindS rp h fun r ρ1 V F1 H1 rp1 st rr fr h1 => by
    cases e : fzR r ρ1 with
    | stuck =>
      replace h1 : PostS X.K X.mg U B F H σ ρ W D ((fzR r ρ1).bind fun v ρ => match asgT (.tp ts) v false ρ with
        | some ρ' => .ok .nx ρ'
        | none => .stuck) := h1
      rw [e] at h1; exact h1.elim
    | exc x ρ2 =>
      exfalso
      obtain ⟨v, s⟩ := r
      cases s with
      | fz => cases e
      | fr => cases e
      | var j =>
        replace e : (match lookS ρ1 j with
          | some (v, _) => Out.ok v (ρ1.set j (some (v, false)))
          | none => .stuck) = .exc x ρ2 := e
        cases e2 : lookS ρ1 j with
        | none => rw [e2] at e; cases e
        | some q => rw [e2] at e; cases e
    | ok v ρ2 =>
      replace h1 : PostS X.K X.mg U B F H σ ρ W D ((fzR r ρ1).bind fun v ρ => match asgT (.tp ts) v false ρ with
        | some ρ' => .ok .nx ρ'
        | none => .stuck) := h1
      rw [e] at h1
      replace h1 : PostS X.K X.mg U B F H σ ρ W D (match asgT (.tp ts) v false ρ2 with
        | some ρ' => .ok .nx ρ'
        | none => .stuck) := h1
      cases e3 : asgT (.tp ts) v false ρ2 with
      | none => rw [e3] at h1; exact h1.elim
      | some ρ3 =>
        rw [e3] at h1
        obtain ⟨w, ρ4, F2, rp2, st2, rv, ez, _⟩ := fz_ok (G := fun (_ : Unit) _ _ _ => True) (W := fun _ _ _ _ => True) (f := fun v ρ => (.ok () ρ : Out Unit)) st rp1 rr fr (by
          rw [e]
          exact fun _ _ _ _ => trivial)
        rw [e] at ez
        cases ez
        exact ⟨F2, ρ2, v, ρ3, rp2, rv, e3, fun σ' rp' ow u => h1 σ' F2 H1 rp' (st2.less ow) fun i hi => u i (hU i hi)⟩
end
end Rv

/-! Rv, part 9: more statements. -/
namespace Rv
open PySem PySem.Spec PyProof.Rows L2

section
variable {K : PySem.W.Frag} {mg : Str → Option Value} {C : Ctx} {W : WX} {U : Nat → Prop} {B F0 H0 F F1 F' H H1 H' : Hp} {σ σ0 σ1 : L2.St} {ρ ρ0 ρ1 ρ' : Env} {Q : VK} {D D' : Ends}
/-- an expression, then the rest; all is told from the statement's start -/
theorem bindS' {c : Ex} {f : R → Env → Out Fl} {Q1 : VK} (st0 : Step F0 H0 (Own ρ0 σ) F H (Own ρ σ)) (rp : Rp K mg F H σ ρ) (h : PostS K mg U B F0 H0 σ ρ0 W D ((evE C c ρ).bind f))
    (k : ∀ r ρ1 V F1 H1, Rp K mg F1 H1 σ ρ1 → Step F0 H0 (Own ρ0 σ) F1 H1 (Own ρ1 σ) → Step F H (Own ρ σ) F1 H1 (Own ρ1 σ) → RR K mg F1 H1 σ ρ1 r V → Fr H r V → PostS K mg U B F0 H0 σ ρ0 W D (f r ρ1) → Q1 V H1) : rdE K mg C W c σ H Q1 := by
  refine ⟨F, ρ, rp, ?_⟩
  cases e : evE C c ρ with
  | ok r ρ1 =>
    rw [e] at h
    exact fun F1 H1 rp1 st V rr fr => k r ρ1 V F1 H1 rp1 (st0.trans st) st rr fr h
  | exc x ρ1 =>
    rw [e] at h
    exact fun cv d F1 H1 rp1 st rx => h cv d σ F1 H1 rp1 (st0.trans st) (fun _ _ => rfl) rx
  | stuck =>
    rw [e] at h
    exact h
/-- .. and it is kept -/
theorem bindSZ {c : Ex} {f : Val → Env → Out Fl} {Q1 : VK} (st0 : Step F0 H0 (Own ρ0 σ) F H (Own ρ σ)) (rp : Rp K mg F H σ ρ) (h : PostS K mg U B F0 H0 σ ρ0 W D ((evE C c ρ).bind fun r ρ => (fzR r ρ).bind f))
    (k : ∀ v ρ1 V F1 H1, Rp K mg F1 H1 σ ρ1 → Step F0 H0 (Own ρ0 σ) F1 H1 (Own ρ1 σ) → Step F H (Own ρ σ) F1 H1 (Own ρ1 σ) → RV K mg F1 v V → PostS K mg U B F0 H0 σ ρ0 W D (f v ρ1) → Q1 V H1) : rdE K mg C W c σ H Q1 :=
  bindS' st0 rp h fun r ρ1 V F1 H1 rp1 st1 st2 rr fr h1 => by
    rcases fzR_cases (r := r) (ρ := ρ1) with e | ⟨v, ρ2, e⟩
    · rw [e] at h1; exact h1.elim
    · rw [e] at h1
      obtain ⟨F2, rp2, rv, stp⟩ := fz_all rp1 rr e
      have al : ∀ a, H0 a ≠ none → H a ≠ none := st0.al
      exact k v ρ2 V F2 H1 rp2 (stp _ _ _ st1 fun z a ea => Classical.byContradiction fun q => al a q (fr z a ea)) (stp _ _ _ st2 fr) rv h1
theorem keep_cases {r : R} {ρ : Env} : keep r ρ = .stuck ∨ ∃ p ρ1, keep r ρ = .ok p ρ1 := by
  obtain ⟨v, s⟩ := r
  cases s with
  | fz => exact .inr ⟨_, _, rfl⟩
  | fr => exact .inr ⟨_, _, rfl⟩
  | var i =>
    have z : keep ⟨v, .var i⟩ ρ = (fzR ⟨v, .var i⟩ ρ).bind fun v ρ => .ok (v, false) ρ := rfl
    rw [z]
    rcases fzR_cases (r := ⟨v, .var i⟩) (ρ := ρ) with e | ⟨w, ρ2, e⟩
    · rw [e]; exact .inl rfl
    · rw [e]; exact .inr ⟨_, _, rfl⟩
end
section
variable {X : Cx} {C : Ctx} {n : Nat} {U : Nat → Prop} {W : WX} {e a b c : Expr} {ce ca cb cc : Ex} {pos : Pos} {s : Stmt} {ss : List Stmt} {cs : Sx} {css : List Sx}

/-- two values for two names; a tuple of them may have been made -/
theorem par_core {i j : Nat} {D : Ends} {σ : L2.St} {B F H : Hp} {ρ : Env} {R : List V → Hp → Prop} (hU1 : ¬ U i) (hU2 : ¬ U j) (rp : Rp X.K X.mg F H σ ρ) (al : ∀ a, B a ≠ none → H a ≠ none) (h : PostS X.K X.mg U B F H σ ρ W D (evS C n (.par i j ca cb) ρ))
    (hR : ∀ V1 V2 H2, D.nx ((σ.set i (some V1)).set j (some V2)) H2 → (∀ q, H2 q = none → D.nx ((σ.set i (some V1)).set j (some V2)) (upd H2 q (.tup [V1, V2]))) → R [V1, V2] H2) :
    tCons (rdE X.K X.mg C W ca) (tCons (rdE X.K X.mg C W cb) tNil) σ H R := by
  refine bindS' Step.refl rp h fun r1 ρ1 V1 F1 H1 rp1 st1 _ rr1 fr1 h1 => ?_
  refine bindS' st1 rp1 h1 fun r2 ρ2 V2 F2 H2 rp2 st2 st12 rr2 fr2 h2 => ?_
  have rr1' := rr1.keep st12
  rcases keep_cases (r := r1) (ρ := ρ2) with e | ⟨p, ρ3, e3⟩
  · rw [e] at h2; exact h2.elim
  rw [e3] at h2
  obtain ⟨F3, rp3, sl1, n1, s3⟩ := keep_all rp2 rr1' e3
  have st3 := s3 _ _ _ st2
  have st23 := s3 _ _ _ (Step.refl (F := F2) (H := H2) (O := Own ρ2 σ))
  have rr2' := rr2.keep st23
  replace h2 : PostS X.K X.mg U B F H σ ρ W D ((keep r2 ρ3).bind fun q ρ => if i < ρ.length ∧ j < ρ.length then .ok .nx ((ρ.set i (some p)).set j (some q)) else .stuck) := h2
  rcases keep_cases (r := r2) (ρ := ρ3) with e | ⟨q, ρ4, e4⟩
  · rw [e] at h2; exact h2.elim
  rw [e4] at h2
  obtain ⟨F4, rp4, sl2, n2, s4⟩ := keep_all rp3 rr2' e4
  have st4 := s4 _ _ _ st3
  have st34 := s4 _ _ _ (Step.refl (F := F3) (H := H2) (O := Own ρ3 σ))
  replace h2 : PostS X.K X.mg U B F H σ ρ W D (if i < ρ4.length ∧ j < ρ4.length then .ok .nx ((ρ4.set i (some p)).set j (some q)) else .stuck) := h2
  split at h2
  · obtain ⟨v, o⟩ := p
    obtain ⟨w, o2⟩ := q
    have sl1' := sl1.later st34 fun z1 z2 u eu => ((n1 z1 z2).2 u eu).1
    have no1 : o = true → v.mut = true → ∀ u, V1 = .ref u → ¬ Own ρ4 σ u := fun z1 z2 u eu => by
      obtain ⟨y1, ob, y2⟩ := (n1 z1 z2).2 u eu
      exact st34.stillNot y2 y1
    have rp5 := rp4.store (i := i) sl1' no1
    have no2 : o2 = true → w.mut = true → ∀ u, V2 = .ref u → ¬ Own (ρ4.set i (some (v, o))) (σ.set i (some V1)) u := fun z1 z2 u eu z => by
      rcases z.store rp4.len with z | ⟨w1, w2, w3⟩
      · exact ((n2 z1 z2).2 u eu).1 z
      · -- the first is older than the second
        have f2 := fr2 (n2 z1 z2).1 u eu
        obtain ⟨w4, w5⟩ := n1 w1 w2
        have rr1q := rr1
        obtain ⟨rv, rs⟩ := r1
        cases w4
        obtain ⟨_, q2⟩ := (show R1 X.K X.mg F1 H1 rv V1 ∧ ∀ a, V1 = .ref a → F1 a = none ∧ ¬ Own ρ1 σ a ∧ ∃ o, H1 a = some o from rr1q)
        obtain ⟨_, _, o', h'⟩ := q2 u w3
        rw [f2] at h'; cases h'
    have rp6 := rp5.store (i := j) sl2 no2
    have st5 := st4.store (i := i) (v := v) (o := o) (V := V1) rp4.len fun z1 z2 u eu => fr1 (n1 z1 z2).1 u eu
    have st6 := st5.store (i := j) (v := w) (o := o2) (V := V2) rp5.len fun z1 z2 u eu => Classical.byContradiction fun q => st1.al u q (fr2 (n2 z1 z2).1 u eu)
    have keepU : ∀ l, U l → ((σ.set i (some V1)).set j (some V2))[l]? = σ[l]? := fun l hl => by
      rw [getS, getS, if_neg fun (z : j = l ∧ _) => hU2 (z.1 ▸ hl), if_neg fun (z : i = l ∧ _) => hU1 (z.1 ▸ hl)]
    exact hR V1 V2 H2 (h2 _ F4 H2 rp6 st6 keepU) fun q hq => h2 _ F4 _ (rp6.laid hq) (st6.trans (Step.laid hq)) keepU
  · exact h2.elim
/-- a, b = x, y by plain names -/
theorem ss_par {i j : Nat} {x y : Str} {px py pt : Pos} {kt k2 : Nat} {pt2 : Pos} (hU1 : ¬ U i) (hU2 : ¬ U j) (hc : X.calm = true) (hN : X.N.Nodup) (hi : X.N[i]? = some x) (hj : X.N[j]? = some y) (hij : i ≠ j)
    (hx : X.env.scope.names.lookup x = some .local) (hy : X.env.scope.names.lookup y = some .local) (ha : SE X C W a ca) (hb : SE X C W b cb) (hsa : noStar a = true) (hsb : noStar b = true)
    (hw : swappedStores [.Tuple [.Name x px, .Name y py] kt pt] (.Tuple [a, b] k2 pt2) X.env = pure (some [x, y])) :
    SS X C n U W (.Assign [.Tuple [.Name x px, .Name y py] kt pt] (.Tuple [a, b] k2 pt2) pos) (.par i j ca cb) :=
  ps_imp (ps_par hc hN hi hj hij hx hy (pa_cons ha (pa_cons hb pa_nil (starEach_cons hsb)) (starEach_cons hsa)) hw) fun D σ H ⟨B, F, ρ, rp, al, h⟩ =>
    par_core hU1 hU2 rp al h fun V1 V2 H2 q _ => ⟨V1, V2, rfl, q⟩
/-- the same by way of a tuple, which is let go -/
theorem ss_parT {i j : Nat} {x y : Str} {px py pt : Pos} {kt k2 : Nat} {pt2 : Pos} (hU1 : ¬ U i) (hU2 : ¬ U j) (hc : X.calm = true) (hN : X.N.Nodup) (hi : X.N[i]? = some x) (hj : X.N[j]? = some y)
    (hx : Loc X.env.scope x) (hy : Loc X.env.scope y) (hfx : X.fn x = true ∨ X.env.scope.names.lookup x = some .local) (hfy : X.fn y = true ∨ X.env.scope.names.lookup y = some .local) (ha : SE X C W a ca) (hb : SE X C W b cb) (hsa : noStar a = true) (hsb : noStar b = true)
    (hw : swappedStores [.Tuple [.Name x px, .Name y py] kt pt] (.Tuple [a, b] k2 pt2) X.env = pure none) :
    SS X C n U W (.Assign [.Tuple [.Name x px, .Name y py] kt pt] (.Tuple [a, b] k2 pt2) pos) (.par i j ca cb) :=
  ps_imp (ps_asg (pe_tup (pa_cons ha (pa_cons hb pa_nil (starEach_cons hsb)) (starEach_cons hsa))) (pg_tup (n := 2) hc (pgs_cons (pg_name hN hi hx hfx) (pgs_cons (pg_name hN hj hy hfy) pgs_nil)) (by rfl) (by rfl)) (by rfl) hw (by rfl)) fun D σ H ⟨B, F, ρ, rp, al, h⟩ => by
    unfold tAsg tTup
    refine par_core hU1 hU2 rp al h fun V1 V2 H2 _ q => ?_
    exact ⟨(by decide : 2 ≤ sizeLine), fun p n => ⟨p, [V1, V2], rfl, SqT.of upd_same, rfl, V1, [V2], rfl, V2, [], rfl, rfl, q p n⟩⟩

/-- name op= e -/
theorem iop_mulW : OpR X (inplaceOp .Mult) (rI CMulW fun i j => .int (i * j)) := opI fun _ _ _ _ _ _ _ hc q => imul_int q hc.ok
def augR : Operator → R2
  | .Add => fun x y H Q => rI0 (fun i j => .int (i + j)) x y H Q ∨ ∃ i j, x = .str i ∧ y = .str j ∧ i.length + j.length ≤ sizeLine ∧ Q (.str (i ++ j)) H
  | .Sub => rI0 fun i j => .int (i - j)
  | .Mult => rI CMulW fun i j => .int (i * j)
  | .FloorDiv => rI CDivW fun i j => .int (i / j)
  | .Mod => rI (fun _ j => 0 < j) fun i j => .int (i % j)
  | _ => fun _ _ _ _ => False
theorem aug_ok : ∀ o : Operator, OpR X (inplaceOp o) (augR o)
  | .Add => iop_add.or iop_add_str
  | .Sub => iop_sub
  | .Mult => iop_mulW
  | .FloorDiv => iop_fdivW
  | .Mod => iop_mod
  | .Div => fun _ _ _ _ _ _ _ _ _ _ _ _ h => h.elim
  | .MatMult => fun _ _ _ _ _ _ _ _ _ _ _ _ h => h.elim
  | .Pow => fun _ _ _ _ _ _ _ _ _ _ _ _ h => h.elim
  | .LShift => fun _ _ _ _ _ _ _ _ _ _ _ _ h => h.elim
  | .RShift => fun _ _ _ _ _ _ _ _ _ _ _ _ h => h.elim
  | .BitOr => fun _ _ _ _ _ _ _ _ _ _ _ _ h => h.elim
  | .BitXor => fun _ _ _ _ _ _ _ _ _ _ _ _ h => h.elim
  | .BitAnd => fun _ _ _ _ _ _ _ _ _ _ _ _ h => h.elim
theorem augv_some {o : Operator} {v w u : Val} (e : augv o v w = some u) : (∃ i j, v = .int i ∧ w = .int j) ∨ (o = .Add ∧ ∃ x y, v = .str x ∧ w = .str y ∧ x.length + y.length ≤ big ∧ u = .str (x ++ y)) := by
  cases o <;> cases v <;> cases w <;> first
    | exact .inl ⟨_, _, rfl, rfl⟩
    | exact nomatch (show (none : Option Val) = some _ from e)
    | (rename_i x y
       refine .inr ⟨rfl, x, y, rfl, rfl, ?_⟩
       replace e : (if x.length + y.length ≤ big then some (Val.str (x ++ y)) else none) = some u := e
       split at e
       · rename_i hl
         cases e
         exact ⟨hl, rfl⟩
       · cases e)
theorem augv_int {o : Operator} {i j : Int} {u : Val} (e : augv o (.int i) (.int j) = some u) : ∃ k, u = .int k ∧ ∀ (H : Hp) (Q : VK), Q (.int k) H → augR o (.int i) (.int j) H Q := by
  cases o <;> first | exact nomatch (show (none : Option Val) = some _ from e) | skip
  · cases e
    exact ⟨_, rfl, fun H Q q => .inl ⟨_, _, rfl, rfl, q⟩⟩
  · cases e
    exact ⟨_, rfl, fun H Q q => ⟨_, _, rfl, rfl, q⟩⟩
  · replace e : (if mulOk i j = true then some (Val.int (i * j)) else none) = some u := e
    split at e
    · rename_i hm
      cases e
      exact ⟨_, rfl, fun H Q q => ⟨_, _, rfl, rfl, mulOk_iff.mp hm, q⟩⟩
    · cases e
  · replace e : (if 0 < j then some (Val.int (i % j)) else none) = some u := e
    split at e
    · rename_i hm
      cases e
      exact ⟨_, rfl, fun H Q q => ⟨_, _, rfl, rfl, hm, q⟩⟩
    · cases e
  · replace e : (if divOk j = true then some (Val.int (i / j)) else none) = some u := e
    split at e
    · rename_i hm
      cases e
      exact ⟨_, rfl, fun H Q q => ⟨_, _, rfl, rfl, divOk_iff.mp hm, q⟩⟩
    · cases e
theorem ss_aug {i : Nat} {x : Str} {p' : Pos} {o : Operator} (hU : ¬ U i) (hN : X.N.Nodup) (hi : X.N[i]? = some x) (hx : Loc X.env.scope x) (hf : X.fn x = true ∨ X.env.scope.names.lookup x = some .local) (he : SE X C W e ce) : SS X C n U W (.AugAssign (.Name x p') o e pos) (.aug i o ce) :=
  ps_imp (ps_aug hN hi hx he (aug_ok o) hf) fun D σ H ⟨B, F, ρ, rp, al, h⟩ => by
    replace h : PostS X.K X.mg U B F H σ ρ W D (match lookS ρ i with
      | some _ => (evE C ce ρ).bind fun y ρ => match rd ρ y with
        | some w => augS i o w ρ
        | none => .stuck
      | none => .stuck) := h
    cases e0 : lookS ρ i with
    | none => rw [e0] at h; exact h.elim
    | some p0 =>
      rw [e0] at h
      obtain ⟨v0, o0⟩ := p0
      obtain ⟨V0, hV0, _⟩ := rp.slot i v0 o0 e0
      refine ⟨V0, hV0, ?_⟩
      refine bindS' Step.refl rp h fun r ρ1 V F1 H1 rp1 st1 _ rr fr h1 => ?_
      cases e1 : rd ρ1 r with
      | none => rw [e1] at h1; exact h1.elim
      | some w =>
        rw [e1] at h1
        replace h1 : PostS X.K X.mg U B F H σ ρ W D (match lookS ρ1 i with
          | some (v, _) => match augv o v w with
            | some u => setS ρ1 i (u, false)
            | none => .stuck
          | none => .stuck) := h1
        cases e2 : lookS ρ1 i with
        | none => rw [e2] at h1; exact h1.elim
        | some p =>
          obtain ⟨v, ow⟩ := p
          rw [e2] at h1
          replace h1 : PostS X.K X.mg U B F H σ ρ W D (match augv o v w with
            | some u => setS ρ1 i (u, false)
            | none => .stuck) := h1
          cases e3 : augv o v w with
          | none => rw [e3] at h1; exact h1.elim
          | some u =>
            rw [e3] at h1
            replace h1 : PostS X.K X.mg U B F H σ ρ W D (if i < ρ1.length then .ok .nx (ρ1.set i (some (u, false))) else .stuck) := h1
            obtain ⟨V1, hV1, sl⟩ := rp1.slot i v ow e2
            rw [hV0] at hV1
            cases hV1
            have r2 := rr.r1 rp1 e1
            split at h1
            · have fin : ∀ Z, RV X.K X.mg F1 u Z → D.nx (σ.set i (some Z)) H1 := fun Z rz => by
                refine h1 _ F1 H1 (rp1.store (by unfold SlotR; rw [Bool.false_and, if_neg Bool.false_ne_true]; exact rz) fun z => by cases z) (st1.store rp1.len fun z => by cases z) fun j hj => ?_
                rw [getS, if_neg fun (z : i = j ∧ _) => hU (z.1 ▸ hj)]
              rcases augv_some e3 with ⟨k, l, rfl, rfl⟩ | ⟨rfl, x, y, rfl, rfl, hl, rfl⟩
              · obtain ⟨m, rfl, q⟩ := augv_int e3
                have sl' : SlotR X.K X.mg F1 H1 (.int k) ow V0 := sl
                unfold SlotR at sl'
                rw [show (ow && (Val.int k).mut) = false from Bool.and_false _, if_neg Bool.false_ne_true] at sl'
                cases sl'
                cases r2.rv rfl
                exact q _ _ (fin _ (.int m))
              · unfold SlotR at sl
                rw [show (ow && (Val.str x).mut) = false from Bool.and_false _, if_neg Bool.false_ne_true] at sl
                cases sl
                cases r2.rv rfl
                exact .inr ⟨_, _, rfl, rfl, by rw [big_eq] at hl; exact hl, fin _ (.str _)⟩
            · exact h1.elim
/-- name[k] = e, a name's own list -/
def notSlice : Expr → Bool
  | .Slice _ _ _ _ => false
  | _ => true
theorem ss_setSub {i : Nat} {x : Str} {p1 p2 : Pos} {k : Expr} {ck : Ex} (hns : notSlice k = true) (hi : X.N[i]? = some x) (hv : Vis X.env.scope x) (hd : (x == ("__debug__" : Str)) = false) (hcd : (x == ("__classdict__" : Str)) = false) (hn : notComp e = true)
    (hk : SE X C W k ck) (he : SE X C W e ce) : SS X C n U W (.Assign [.Subscript (.Name x p1) k p2] e pos) (.setSub i ck ce) :=
  ps_imp (ps_asg he (pg_sub (pe_var hi hv hd hcd) hk set_list (fun v => by cases k <;> first | rfl | exact (Bool.false_ne_true hns).elim)) (by cases e <;> first | rfl | exact (Bool.false_ne_true hn).elim) (by cases e <;> rfl)) fun D σ H ⟨B, F, ρ, rp, al, h⟩ => by
    refine bindSZ Step.refl rp h fun v ρ1 V F1 H1 rp1 st1 _ rv h1 => ?_
    cases e0 : lookS ρ1 i with
    | none => rw [e0] at h1; exact h1.elim
    | some p0 =>
      rw [e0] at h1
      obtain ⟨v0, o0⟩ := p0
      obtain ⟨V0, hV0, _⟩ := rp1.slot i v0 o0 e0
      refine ⟨V0, hV0, ?_⟩
      refine bindS' st1 rp1 h1 fun r ρ2 V2 F2 H2 rp2 st2 st12 rr fr h2 => ?_
      cases e1 : rd ρ2 r with
      | none => rw [e1] at h2; exact h2.elim
      | some w =>
        rw [e1] at h2
        have r2 := rr.r1 rp2 e1
        replace h2 : PostS X.K X.mg U B F H σ ρ W D (setSubV i w v ρ2) := h2
        cases w <;> first | exact h2.elim | skip
        rename_i m
        cases r2.rv rfl
        unfold setSubV at h2
        cases e2 : lookS ρ2 i with
        | none => rw [e2] at h2; exact h2.elim
        | some p =>
          obtain ⟨u, ow⟩ := p
          rw [e2] at h2
          cases u <;> first | exact h2.elim | skip
          cases ow <;> first | exact h2.elim | skip
          rename_i xs
          replace h2 : PostS X.K X.mg U B F H σ ρ W D (match L2.ixN xs.length m with
            | some j => .ok .nx (ρ2.set i (some (.lst (xs.set j v), true)))
            | none => .stuck) := h2
          cases e3 : L2.ixN xs.length m with
          | none => rw [e3] at h2; exact h2.elim
          | some j =>
            rw [e3] at h2
            obtain ⟨V1, hV1, sl⟩ := rp2.slot i _ true e2
            rw [hV0] at hV1
            cases hV1
            obtain ⟨b, Xs, rfl, t, l, r⟩ := (show R1 X.K X.mg F2 H2 (.lst xs) V0 from sl.1)
            rw [r.length] at e3
            refine ⟨b, Xs, m, j, rfl, rfl, t, e3, ?_⟩
            have rvx := rv.mono st12.ff
            exact h2 σ F2 _ (rp2.write e2 rfl hV0 rfl ⟨b, Xs.set j V, rfl, upd_same, by rw [List.length_set]; exact l, RVs.set rvx j r⟩) (st2.trans (Step.write rp2 e2 rfl hV0)) fun _ _ => rfl
/-! ### attributes -/
theorem zip_putF {f : Str} {v : Val} {V : V} {K : PySem.W.Frag} {mg : Str → Option Value} {F : Hp} (rv : RV K mg F v V) : ∀ {ns : List Str} {vs : List Val} {Vs : List L2.V} {p : List Str × List Val}, RVs K mg F vs Vs → ns.length = Vs.length → putF f v ns vs = some p →
    ∃ Ws, L2.putF f V (ns.zip Vs) = p.1.zip Ws ∧ p.1.length = Ws.length ∧ RVs K mg F p.2 Ws
  | [], [], [], p, .nil, _, e => by
    have e : some ([f], [v]) = some p := e
    cases e
    exact ⟨[V], rfl, rfl, .cons rv .nil⟩
  | g :: ns, w :: vs, x :: Vs, p, .cons a b, hl, e => by
    replace e : (if g = f then some (g :: ns, v :: vs) else (putF f v ns vs).map fun p => (g :: p.1, w :: p.2)) = some p := e
    have hl' : ns.length = Vs.length := Nat.succ.inj hl
    have he : L2.putF f V ((g :: ns).zip (x :: Vs)) = if g = f then (g, V) :: ns.zip Vs else (g, x) :: L2.putF f V (ns.zip Vs) := rfl
    split at e
    · rename_i hg
      cases e
      exact ⟨V :: Vs, by rw [he, if_pos hg]; rfl, by rw [List.length_cons, List.length_cons, hl'], .cons rv b⟩
    · rename_i hg
      obtain ⟨q, e1, rfl⟩ := map_inv e
      obtain ⟨Ws, h1, h2, h3⟩ := zip_putF rv b hl' e1
      exact ⟨x :: Ws, by rw [he, if_neg hg, h1]; rfl, by rw [List.length_cons, List.length_cons, h2], .cons a h3⟩
  | [], _ :: _, [], _, h, _, _ => nomatch h
  | _ :: _, [], _ :: _, _, h, _, _ => nomatch h
  | [], _, _ :: _, _, _, hl, _ => nomatch hl
  | _ :: _, _, [], _, _, hl, _ => nomatch hl
/-- name.f = e, a name's own instance -/
theorem ss_setAttr {i : Nat} {x f : Str} {p1 p2 : Pos} (hcl : ∀ c D, C.fld c f = true → X.mg c = some (.ref D) → Cls X.K D ∧ NoAttr X.K D f) (hi : X.N[i]? = some x) (hv : Vis X.env.scope x) (hd : (x == ("__debug__" : Str)) = false) (hcd : (x == ("__classdict__" : Str)) = false) (hn : notComp e = true)
    (he : SE X C W e ce) : SS X C n U W (.Assign [.Attribute (.Name x p1) f p2] e pos) (.setAttr i f ce) :=
  ps_imp (ps_fld (pe_var hi hv hd hcd) he (swaps_no hn)) fun D σ H ⟨B, F, ρ, rp, al, h⟩ => by
    refine bindSZ Step.refl rp h fun v ρ1 V F1 H1 rp1 st1 _ rv h1 => ?_
    replace h1 : PostS X.K X.mg U B F H σ ρ W D (setAttrV C i f v ρ1) := h1
    unfold setAttrV at h1
    cases e0 : lookS ρ1 i with
    | none => rw [e0] at h1; exact h1.elim
    | some p0 =>
      rw [e0] at h1
      obtain ⟨v0, o0⟩ := p0
      obtain ⟨V0, hV0, sl⟩ := rp1.slot i v0 o0 e0
      refine ⟨V0, hV0, ?_⟩
      cases v0 <;> first | exact h1.elim | skip
      cases o0 <;> first | exact h1.elim | skip
      rename_i c ns vs
      replace h1 : PostS X.K X.mg U B F H σ ρ W D (match putF f v ns vs with
        | some p => if (C.fld c f && decide (ns.length < 1000)) = true then .ok .nx (ρ1.set i (some (.ins c p.1 p.2, true))) else .stuck
        | none => .stuck) := h1
      cases e1 : putF f v ns vs with
      | none => rw [e1] at h1; exact h1.elim
      | some p =>
        rw [e1] at h1
        replace h1 : PostS X.K X.mg U B F H σ ρ W D (if (C.fld c f && decide (ns.length < 1000)) = true then .ok .nx (ρ1.set i (some (.ins c p.1 p.2, true))) else .stuck) := h1
        split at h1
        · rename_i hc
          rw [Bool.and_eq_true, decide_eq_true_eq] at hc
          obtain ⟨a, Cl, dx, Vs, rfl, t, m, l, r⟩ := (show R1 X.K X.mg F1 H1 (.ins c ns vs) V0 from sl.1)
          obtain ⟨Ws, w1, w2, w3⟩ := zip_putF rv r l e1
          obtain ⟨k1, k2⟩ := hcl c Cl hc.1 m
          refine ⟨a, Cl, dx, ns.zip Vs, rfl, t, k1, k2, by rw [List.length_zip]; omega, ?_⟩
          rw [w1]
          exact h1 σ F1 _ (rp1.write e0 rfl hV0 rfl ⟨a, Cl, dx, Ws, rfl, upd_same, m, w2, w3⟩) (st1.trans (Step.write rp1 e0 rfl hV0)) fun _ _ => rfl
        · exact h1.elim
/-! ### if, while -/
theorem ss_ite {sa sb : List Stmt} {la lb : List Sx} (hc : ST X C W c cc) (ha : SSs X C n U W sa la) (hb : SSs X C n U W sb lb) : SS X C n U W (.If c sa sb pos) (.ite cc la lb) :=
  ps_imp (ps_if hc ha hb) fun D σ H ⟨B, F, ρ, rp, al, h⟩ => by
    replace h : PostS X.K X.mg U B F H σ ρ W D ((evT C cc ρ).bind fun k ρ => if k = true then evSs C n la ρ else evSs C n lb ρ) := h
    refine ⟨F, ρ, rp, h.of_bind.imp fun k ρ1 F1 H1 rp1 st h1 => ?_⟩
    cases k with
    | true => exact iteT ⟨B, F1, ρ1, rp1, fun a q => st.al a (al a q), h1⟩
    | false => exact iteF ⟨B, F1, ρ1, rp1, fun a q => st.al a (al a q), h1⟩
theorem PostS.loop {K : PySem.W.Frag} {mg : Str → Option Value} {B F H : Hp} {σ : L2.St} {ρ : Env} {D : Ends} {o : Out Fl} {g : Env → Out Fl}
    (h : PostS K mg U B F H σ ρ W D (o.bind fun f ρ => match f with
      | .nx => g ρ
      | .ct => g ρ
      | .bk => .ok .nx ρ
      | .rt r => .ok (.rt r) ρ)) (nx : L2.St → Hp → Prop)
    (hn : ∀ F1 H1 σ1 ρ1, Rp K mg F1 H1 σ1 ρ1 → Step F H (Own ρ σ) F1 H1 (Own ρ1 σ1) → PostS K mg U B F1 H1 σ1 ρ1 W D (g ρ1) → nx σ1 H1) : PostS K mg U B F H σ ρ W { D with nx := nx, ct := nx, bk := D.nx } o := by
  cases o with
  | stuck => exact h
  | exc x ρ' => exact h
  | ok f ρ' =>
    intro σ' F' H' rp st u
    cases f with
    | nx => exact hn F' H' σ' ρ' rp st (PostS.shift st u h)
    | bk => exact h σ' F' H' rp st u
    | ct => exact hn F' H' σ' ρ' rp st (PostS.shift st u h)
    | rt r => exact h σ' F' H' rp st u
theorem ss_while {body : List Stmt} {cs : List Sx} (hp : PassesOwn (model X.prog X.w) X.A X.env X.xe) (hc : ST X C W c cc) (hb : SSs X C n U W body cs) : SS X C n U W (.While c body [] pos) (.while cc cs) :=
  ps_imp (ps_while hp hc hb) fun D σ H ⟨B, F, ρ, rp, al, h⟩ => by
    refine ⟨fun m σ H => ∃ F ρ, Rp X.K X.mg F H σ ρ ∧ (∀ a, B a ≠ none → H a ≠ none) ∧ PostS X.K X.mg U B F H σ ρ W D (whileLoop (evT C cc) (evSs C n cs) m ρ), ⟨n, F, ρ, rp, al, h⟩, ?_⟩
    rintro m σ1 H1 ⟨F1, ρ1, rp1, al1, h1⟩
    cases m with
    | zero => exact h1.elim
    | succ m =>
      replace h1 : PostS X.K X.mg U B F1 H1 σ1 ρ1 W D ((evT C cc ρ1).bind fun k ρ => if k = true then (evSs C n cs ρ).bind fun f ρ => match f with
        | .nx => whileLoop (evT C cc) (evSs C n cs) m ρ
        | .ct => whileLoop (evT C cc) (evSs C n cs) m ρ
        | .bk => .ok .nx ρ
        | .rt r => .ok (.rt r) ρ
        else .ok .nx ρ) := h1
      refine ⟨F1, ρ1, rp1, h1.of_bind.imp fun k ρ2 F2 H2 rp2 st h2 => ?_⟩
      cases k with
      | true =>
        refine iteT ⟨fun σ H => ∃ F ρ, Rp X.K X.mg F H σ ρ ∧ (∀ a, B a ≠ none → H a ≠ none) ∧ PostS X.K X.mg U B F H σ ρ W D (whileLoop (evT C cc) (evSs C n cs) m ρ), fun σ' H' q => ⟨m, Nat.lt_succ_self m, q⟩, ?_⟩
        have al2 : ∀ a, B a ≠ none → H2 a ≠ none := fun a q => st.al a (al1 a q)
        refine ⟨B, F2, ρ2, rp2, al2, PostS.loop h2 _ fun F3 H3 σ3 ρ3 rp3 st3 h3 => ⟨F3, ρ3, rp3, fun a q => st3.al a (al2 a q), h3⟩⟩
      | false => exact iteF (PostS.now rp2 h2)
end
end Rv

/-! Rv, part 10: what is walked; for. -/
namespace Rv
open PySem PySem.Spec PyProof.Rows L2

/-- J walks the items -/
def Walks (K : PySem.W.Frag) (mg : Str → Option Value) (F0 : Hp) (xs : List Val) (J : It) : Prop := ∀ (i : Nat) (F H : Hp), Same F0 F → Same F H →
  (∀ v, xs[i]? = some v → J.go i H ∧ ∀ x H', J.yld i H x H' → (H' = H ∧ RV K mg F v x) ∨ ∃ p o, H p = none ∧ H' = upd H p o ∧ RV K mg (upd F p o) v x) ∧ (i = xs.length → J.stop i H)
def rdI (K : PySem.W.Frag) (mg : Str → Option Value) (C : Ctx) (W : WX) (c : Ex) : TI := fun σ H R => ∃ F ρ, Rp K mg F H σ ρ ∧ Post K mg F H σ ρ W (fun xs ρ' F' H' => ∀ J, Walks K mg F' xs J → R J H') (evI C c ρ)
def SI (X : Cx) (C : Ctx) (W : WX) (tg e : Expr) (c : Ex) : Prop := PI X tg e (rdI X.K X.mg C W c)
theorem pi_imp {X : Cx} {tg e : Expr} {t t' : TI} (h : PI X tg e t) (i : ∀ σ H R, t' σ H R → t σ H R) : PI X tg e t' := ⟨fun pins s σ H R I q => h.run pins s σ H R I (i σ H R q)⟩

section
variable {K : PySem.W.Frag} {mg : Str → Option Value} {F0 : Hp} {xs ys : List Val} {a b : Addr} {Vs Ws : List V}
theorem walks_list (t : SqL K F0 a Vs) (r : RVs K mg F0 xs Vs) : Walks K mg F0 xs (Itl K a) := fun i F H e1 e2 => by
  have t' : SqL K H a Vs := e2.seq (e1.seq t)
  refine ⟨fun v hv => ?_, fun hl => ⟨Vs, t', by rw [← r.length]; exact Nat.le_of_eq hl.symm⟩⟩
  obtain ⟨x, hx, rx⟩ := r.get hv
  refine ⟨⟨Vs, x, t', hx⟩, fun y H' ⟨e, q⟩ => .inl ⟨e, ?_⟩⟩
  have := q Vs t'
  rw [hx] at this
  cases this
  exact rx.mono e1
theorem walks_tup (t : SqT K F0 a Vs) (r : RVs K mg F0 xs Vs) : Walks K mg F0 xs (Itt K a) := fun i F H e1 e2 => by
  have t' : SqT K H a Vs := seqT e2 (seqT e1 t)
  refine ⟨fun v hv => ?_, fun hl => ⟨Vs, t', by rw [← r.length]; exact Nat.le_of_eq hl.symm⟩⟩
  obtain ⟨x, hx, rx⟩ := r.get hv
  refine ⟨⟨Vs, x, t', hx⟩, fun y H' ⟨e, q⟩ => .inl ⟨e, ?_⟩⟩
  have := q Vs t'
  rw [hx] at this
  cases this
  exact rx.mono e1
theorem walks_str {z : Str} : Walks K mg F0 (z.cps.toList.map fun c => .str ⟨#[c]⟩) (Its z) := fun i F H e1 e2 => by
  refine ⟨fun v hv => ?_, fun hl => by rw [List.length_map, Array.length_toList] at hl; exact Nat.le_of_eq hl.symm⟩
  rw [List.getElem?_map] at hv
  obtain ⟨c, hc, rfl⟩ := map_inv hv
  rw [Array.getElem?_toList] at hc
  refine ⟨(Array.getElem?_eq_some_iff.mp hc).1, fun x H' ⟨e, d, hd, q⟩ => .inl ⟨e, ?_⟩⟩
  rw [hc] at hd
  cases hd
  rw [q]
  exact .str _
theorem numI_get : ∀ (n i j : Nat) (lo : Int), (numI i n lo)[j]? = if j < n then some (.int (lo + ((i + j : Nat) : Int))) else none
  | 0, i, j, lo => by rw [if_neg (Nat.not_lt_zero _)]; rfl
  | n + 1, i, 0, lo => by rw [if_pos (Nat.succ_pos _)]; rfl
  | n + 1, i, j + 1, lo => by
    show (numI (i + 1) n lo)[j]? = _
    rw [numI_get n (i + 1) j lo, show i + 1 + j = i + (j + 1) by omega]
    by_cases h : j < n
    · rw [if_pos h, if_pos (Nat.succ_lt_succ h)]
    · rw [if_neg h, if_neg fun z => h (Nat.lt_of_succ_lt_succ z)]
theorem numI_len : ∀ (n i : Nat) (lo : Int), (numI i n lo).length = n
  | 0, _, _ => rfl
  | n + 1, i, lo => by
    show (numI (i + 1) n lo).length + 1 = n + 1
    rw [numI_len n (i + 1) lo]
theorem walks_range {lo : Int} {n : Nat} : Walks K mg F0 (numI 0 n lo) (Itr lo n) := fun i F H e1 e2 => by
  refine ⟨fun v hv => ?_, fun hl => by rw [numI_len] at hl; exact Nat.le_of_eq hl.symm⟩
  rw [numI_get] at hv
  split at hv
  · rename_i hi
    cases hv
    refine ⟨hi, fun x H' ⟨e, q⟩ => .inl ⟨e, ?_⟩⟩
    rw [q, Nat.zero_add]
    exact .int _
  · cases hv
theorem zipV_get : ∀ {xs ys : List Val} {i : Nat} {v : Val}, (zipV xs ys)[i]? = some v → ∃ x y, xs[i]? = some x ∧ ys[i]? = some y ∧ v = .tup [x, y]
  | [], _, i, v, e => by
    have e : ([] : List Val)[i]? = some v := e
    simp at e
  | _ :: _, [], i, v, e => by
    have e : ([] : List Val)[i]? = some v := e
    simp at e
  | x :: xs, y :: ys, 0, v, e => by
    have e : some (Val.tup [x, y]) = some v := e
    cases e
    exact ⟨x, y, rfl, rfl, rfl⟩
  | x :: xs, y :: ys, i + 1, v, e => zipV_get (xs := xs) (ys := ys) (i := i) e
theorem zipV_len : ∀ {xs ys : List Val}, (zipV xs ys).length = min xs.length ys.length
  | [], _ => by
    show 0 = min 0 _
    rw [Nat.zero_min]
  | _ :: _, [] => rfl
  | x :: xs, y :: ys => by
    show (zipV xs ys).length + 1 = min (xs.length + 1) (ys.length + 1)
    rw [zipV_len, Nat.succ_min_succ]
theorem pair_rv {F : Hp} {p : Addr} {x y : Val} {X Y : V} (n : F p = none) (rx : RV K mg F x X) (ry : RV K mg F y Y) : RV K mg (upd F p (.tup [X, Y])) (.tup [x, y]) (.ref p) :=
  .tup (SqT.of upd_same) (by show 2 ≤ sizeLine; decide) (.cons (rx.mono (same_updF n)) (.cons (ry.mono (same_updF n)) .nil))
end

section
variable {X : Cx} {C : Ctx} {W : WX} {tg e a b : Expr} {c ca cb : Ex} {pos p : Pos}
def iSeq (K : PySem.W.Frag) (tl : TE) : TI := fun σ H R => tl σ H fun x H1 => (∃ a, x = .ref a ∧ (((∃ xs, SqL K H1 a xs) ∧ R (Itl K a) H1) ∨ ((∃ xs, SqT K H1 a xs) ∧ R (Itt K a) H1))) ∨ ∃ z, x = .str z ∧ R (Its z) H1
theorem pi_seq {l : Expr} {tl : TE} (hl : PE X l tl) : PI X tg l (iSeq X.K tl) := by
  refine ⟨fun pins s σ H R I h => ?_⟩
  refine thn (hl.run pins s σ H _ I h) fun v s1 ⟨x, H1, I1, r1, q1⟩ => ?_
  rcases q1 with q1 | ⟨z, rfl, q1⟩
  rotate_left
  · obtain ⟨t, rfl⟩ := r1
    cases ha : z.cps.all (· < 128)
    · refine wpAny_pyIter_wide ha ?_
      refine ⟨s1.heap.objs.size, [s1.heap.objs.size], _, _, H1, rfl, I1.kept (t' := s1.toks) fun b o e => Heap.get?_push_of_some _ e, turn_str _ z t "str_iterator" (.inr rfl), ⟨_, Heap.get?_push_size _ rfl, rfl, rfl⟩, fun b hb => ?_, q1⟩
      have e : b = s1.heap.objs.size := by simpa using hb
      subst e
      exact I1.fpOk (Nat.le_refl _) (I1.hok.fresh (Nat.le_refl _))
    · refine wpAny_pyIter_ascii ha ?_
      refine ⟨s1.heap.objs.size, [s1.heap.objs.size], _, _, H1, rfl, I1.kept (t' := s1.toks) fun b o e => Heap.get?_push_of_some _ e, turn_str _ z t "str_ascii_iterator" (.inl rfl), ⟨_, Heap.get?_push_size _ rfl, rfl, rfl⟩, fun b hb => ?_, q1⟩
      have e : b = s1.heap.objs.size := by simpa using hb
      subst e
      exact I1.fpOk (Nat.le_refl _) (I1.hok.fresh (Nat.le_refl _))
  obtain ⟨a, e, q1⟩ := q1
  subst e
  cases r1
  rcases q1 with ⟨⟨xs, hq⟩, q⟩ | ⟨⟨xs, hq⟩, q⟩
  · obtain ⟨its, rv, p, hz⟩ := I1.list hq
    refine wpAny_pyIter_list p.isList ?_
    refine ⟨s1.heap.objs.size, [s1.heap.objs.size], _, _, H1, rfl, I1.kept (t' := s1.toks) fun b o e => Heap.get?_push_of_some _ e, turn_list a _, ⟨_, Heap.get?_push_size _ rfl, rfl, rfl⟩, fun b hb => ?_, q⟩
    have e : b = s1.heap.objs.size := by simpa using hb
    subst e
    exact I1.fpOk (Nat.le_refl _) (I1.hok.fresh (Nat.le_refl _))
  · obtain ⟨its, rv, p, hz⟩ := I1.tuple hq
    refine wpAny_pyIter_tuple (show s1.heap.IsTuple a its.toArray from p) ?_
    refine ⟨s1.heap.objs.size, [s1.heap.objs.size], _, _, H1, rfl, I1.kept (t' := s1.toks) fun b o e => Heap.get?_push_of_some _ e, turn_tuple a _, ⟨_, Heap.get?_push_size _ rfl, rfl, rfl⟩, fun b hb => ?_, q⟩
    have e : b = s1.heap.objs.size := by simpa using hb
    subst e
    exact I1.fpOk (Nat.le_refl _) (I1.hok.fresh (Nat.le_refl _))
/-- a list, a tuple, the script -/
theorem si_seq (he : SE X C W e c) : SI X C W tg e c :=
  pi_imp (pi_seq he) fun σ H R ⟨F, ρ, rp, h⟩ => by
    replace h : Post X.K X.mg F H σ ρ W _ (((evE C c ρ).bind fzR).bind fun v ρ => Out.opt (itemsV v) ρ) := h
    rw [Out.bind_assoc] at h
    refine bindZ rp h fun v ρ1 V F1 H1 rp1 st rv h1 => ?_
    cases v <;> first | exact h1.elim | skip
    · cases rv
      exact .inr ⟨_, rfl, h1.now rp1 _ walks_str⟩
    · cases rv with
      | @tup a Vs xs t l r => exact .inl ⟨a, rfl, .inr ⟨⟨Vs, seqT rp1.sub t⟩, h1.now rp1 _ (walks_tup t r)⟩⟩
    · cases rv with
      | @lst a Vs xs t l r => exact .inl ⟨a, rfl, .inl ⟨⟨Vs, SqL.of (rp1.sub _ _ t)⟩, h1.now rp1 _ (walks_list (SqL.of t) r)⟩⟩
    · cases rv with
      | scr t l =>
        skip
        exact .inl ⟨_, rfl, .inl ⟨⟨_, rp1.sub.seq t⟩, h1.now rp1 _ (walks_list t (RVs.ofInts _))⟩⟩
/-- what the rests of rules ask of one int -/
theorem inI62_iff {i : Int} : inI62 i = true ↔ -(2 ^ 62) ≤ i ∧ i < 2 ^ 62 := by
  unfold inI62
  rw [Bool.and_eq_true, decide_eq_true_eq, decide_eq_true_eq]
theorem rangeV_inv {v w : Val} {xs : List Val} (e : rangeV v w = some xs) : ∃ i j, v = .int i ∧ w = .int j ∧ inI62 i = true ∧ inI62 j = true ∧ xs = numI 0 (j - i).toNat i := by
  unfold rangeV at e
  split at e
  · rename_i i j
    split at e
    · rename_i h
      rw [Bool.and_eq_true] at h
      cases e
      exact ⟨i, j, rfl, rfl, h.1, h.2, rfl⟩
    · cases e
  · cases e
theorem si_range1 (hg : Gl X "range") (hm : X.mg "range" = none) (hst : noStar a = true) (ha : SE X C W a ca) : SI X C W tg (.Call (.Name "range" p) [a] [] pos) (.rng1 ca) :=
  pi_imp (pi_range1 hg hm (pa_cons ha pa_nil (starEach_cons hst)) (starEach_cons hst)) fun σ H R ⟨F, ρ, rp, h⟩ => by
    replace h : Post X.K X.mg F H σ ρ W _ ((((evE C ca ρ).bind fun x ρ => match rd ρ x with
      | some v => Out.opt ((rangeV (.int 0) v).map fun xs => ⟨.lst xs, .fz⟩) ρ
      | none => .stuck).bind fzR).bind fun v ρ => Out.opt (itemsV v) ρ) := h
    rw [Out.bind_assoc, Out.bind_assoc] at h
    refine bindX rp h fun x ρ1 V F1 H1 rp1 st rr h1 => ?_
    cases e : rd ρ1 x with
    | none => rw [e] at h1; exact h1.elim
    | some v =>
      rw [e] at h1
      cases e2 : rangeV (.int 0) v with
      | none =>
        simp only [e2] at h1
        exact h1.elim
      | some xs =>
        simp only [e2] at h1
        obtain ⟨i, j, ei, rfl, hi, hj, rfl⟩ := rangeV_inv e2
        cases ei
        have r1 := rr.r1 rp1 e
        cases r1.rv rfl
        rw [inI62_iff] at hj
        refine ⟨j, rfl, hj.1, hj.2, ?_⟩
        have h2 := h1.now rp1
        rw [Int.sub_zero] at h2
        exact h2 _ walks_range
theorem si_range2 (hg : Gl X "range") (hm : X.mg "range" = none) (hsa : noStar a = true) (hsb : noStar b = true) (ha : SE X C W a ca) (hb : SE X C W b cb) : SI X C W tg (.Call (.Name "range" p) [a, b] [] pos) (.rng2 ca cb) :=
  pi_imp (pi_range2 hg hm (pa_cons ha (pa_cons hb pa_nil (starEach_cons hsb)) (starEach_cons hsa)) (by rw [starEach_cons hsa, starEach_cons hsb]; rfl) (starEach_cons hsb)) fun σ H R ⟨F, ρ, rp, h⟩ => by
    replace h : Post X.K X.mg F H σ ρ W _ ((((evE C ca ρ).bind fun x ρ => (evE C cb ρ).bind fun y ρ => match rd ρ x, rd ρ y with
      | some v, some w => Out.opt ((rangeV v w).map fun xs => ⟨.lst xs, .fz⟩) ρ
      | _, _ => .stuck).bind fzR).bind fun v ρ => Out.opt (itemsV v) ρ) := h
    rw [Out.bind_assoc, Out.bind_assoc] at h
    simp only [Out.bind_assoc] at h
    refine bindX rp h fun x ρ1 V1 F1 H1 rp1 st1 rr1 h1 => ?_
    refine bindX rp1 h1 fun y ρ2 V2 F2 H2 rp2 st2 rr2 h2 => ?_
    have rr1' := rr1.keep st2
    cases e1 : rd ρ2 x with
    | none => rw [e1] at h2; exact h2.elim
    | some v =>
      cases e2 : rd ρ2 y with
      | none => rw [e1, e2] at h2; exact h2.elim
      | some w =>
        rw [e1, e2] at h2
        cases e3 : rangeV v w with
        | none =>
          simp only [e3] at h2
          exact h2.elim
        | some xs =>
          simp only [e3] at h2
          obtain ⟨i, j, rfl, rfl, hi, hj, rfl⟩ := rangeV_inv e3
          cases (rr1'.r1 rp2 e1).rv rfl
          cases (rr2.r1 rp2 e2).rv rfl
          rw [inI62_iff] at hi hj
          exact ⟨i, j, rfl, ⟨hi.1, hi.2, hj.1, hj.2⟩, h2.now rp2 _ walks_range⟩
/-! ### for -/
def notSet : Expr → Bool
  | .Set _ _ _ => false
  | _ => true
theorem folded_no {env : PySem.Env} (h : notSet e = true) (x : Value) : foldedSetIterable e env x = pure x := by
  cases e <;> first | rfl | exact (Bool.false_ne_true h).elim
variable {n : Nat} {U : Nat → Prop}
/-- an item has come -/
theorem item_in {K : PySem.W.Frag} {mg : Str → Option Value} {F H H' : Hp} {σ : L2.St} {ρ : Env} {v : Val} {x : V} (rp : Rp K mg F H σ ρ) (y : (H' = H ∧ RV K mg F v x) ∨ ∃ p o, H p = none ∧ H' = upd H p o ∧ RV K mg (upd F p o) v x) :
    ∃ F', Rp K mg F' H' σ ρ ∧ Step F H (Own ρ σ) F' H' (Own ρ σ) ∧ RV K mg F' v x ∧ ∀ a, H a ≠ none → H' a = H a ∧ F' a = F a := by
  rcases y with ⟨rfl, rv⟩ | ⟨p, o, hp, rfl, rv⟩
  · exact ⟨F, rp, Step.refl, rv, fun _ _ => ⟨rfl, rfl⟩⟩
  · refine ⟨upd F p o, rp.laidF hp, Step.laidF rp.sub hp, rv, fun a ha => ?_⟩
    have : a ≠ p := fun z => ha (z ▸ hp)
    exact ⟨upd_ne this, upd_ne this⟩
theorem ss_for {t : Tg} {body : List Stmt} {cs : List Sx} (hp : PassesOwn (model X.prog X.w) X.A X.env X.xe) (hc : X.calm = true) (hU : ∀ i, U i → ¬ t.has i) (hi : SI X C W tg e c) (hg : SG X tg t) (hb : SSs X C n U W body cs) (hs : notSet e = true) :
    SS X C n U W (.For tg e body [] pos) (.for t c cs) :=
  ps_imp (ps_for hp hc hi hg hb (folded_no hs)) fun D σ H ⟨B, F, ρ, rp, al, h⟩ => by
    replace h : PostS X.K X.mg U B F H σ ρ W D ((evI C c ρ).bind fun xs ρ => forLoop (fun x ρ => match asgT t x false ρ with
      | some ρ => evSs C n cs ρ
      | none => .stuck) xs ρ) := h
    refine ⟨F, ρ, rp, h.of_bind.imp fun xs ρ0 F0 H0 rp0 st0 h0 J wk => ?_⟩
    have al0 : ∀ a, B a ≠ none → H0 a ≠ none := fun a q => st0.al a (al a q)
    refine ⟨fun i m σ H => m = xs.length - i ∧ i ≤ xs.length ∧ ∃ F ρ, Rp X.K X.mg F H σ ρ ∧ Same F0 F ∧ (∀ a, B a ≠ none → H a ≠ none) ∧ PostS X.K X.mg U B F H σ ρ W D (forLoop (fun x ρ => match asgT t x false ρ with
      | some ρ => evSs C n cs ρ
      | none => .stuck) (xs.drop i) ρ), ⟨xs.length, rfl, Nat.zero_le _, F0, ρ0, rp0, Same.refl _, al0, h0⟩, ?_⟩
    rintro i m σ1 H1 ⟨rfl, hi, F1, ρ1, rp1, sm, al1, h1⟩
    obtain ⟨w1, w2⟩ := wk i F1 H1 sm rp1.sub
    cases e : xs[i]? with
    | none =>
      have hl : xs.length ≤ i := List.getElem?_eq_none_iff.mp e
      rw [List.drop_eq_nil_of_le hl] at h1
      exact .inl ⟨w2 (Nat.le_antisymm hi hl), PostS.now rp1 h1⟩
    | some v =>
      obtain ⟨hlt, ev⟩ := List.getElem?_eq_some_iff.mp e
      have ed : xs.drop i = v :: xs.drop (i + 1) := by rw [List.drop_eq_getElem_cons hlt, ev]
      rw [ed] at h1
      obtain ⟨g1, g2⟩ := w1 v e
      refine .inr ⟨g1, fun σ H => ∃ F ρ, Rp X.K X.mg F H σ ρ ∧ Same F0 F ∧ (∀ a, B a ≠ none → H a ≠ none) ∧ PostS X.K X.mg U B F H σ ρ W D (forLoop (fun x ρ => match asgT t x false ρ with
        | some ρ => evSs C n cs ρ
        | none => .stuck) (xs.drop (i + 1)) ρ), fun σ' H' q => ⟨xs.length - (i + 1), by omega, rfl, hlt, q⟩, fun x H' y => ?_⟩
      obtain ⟨F2, rp2, st2, rv, _⟩ := item_in rp1 (g2 x H' y)
      replace h1 : PostS X.K X.mg U B F1 H1 σ1 ρ1 W D ((match asgT t v false ρ1 with
        | some ρ => evSs C n cs ρ
        | none => .stuck).bind fun f ρ => match f with
        | .nx => forLoop (fun x ρ => match asgT t x false ρ with
          | some ρ => evSs C n cs ρ
          | none => .stuck) (xs.drop (i + 1)) ρ
        | .ct => forLoop (fun x ρ => match asgT t x false ρ with
          | some ρ => evSs C n cs ρ
          | none => .stuck) (xs.drop (i + 1)) ρ
        | .bk => .ok .nx ρ
        | .rt r => .ok (.rt r) ρ) := h1
      cases e2 : asgT t v false ρ1 with
      | none => rw [e2] at h1; exact h1.elim
      | some ρ2 =>
        rw [e2] at h1
        refine ⟨F2, ρ1, v, ρ2, rp2, rv, e2, fun σ3 rp3 ow u => ?_⟩
        have st3 : Step F1 H1 (Own ρ1 σ1) F2 H' (Own ρ2 σ3) := st2.less ow
        have al3 : ∀ a, B a ≠ none → H' a ≠ none := fun a q => st3.al a (al1 a q)
        refine ⟨B, F2, ρ2, rp3, al3, PostS.loop (h1.shift st3 fun j hj => u j (hU j hj)) _ fun F4 H4 σ4 ρ4 rp4 st4 h4 => ⟨F4, ρ4, rp4, sm.trans (st3.ff.trans st4.ff), fun a q => st4.al a (al3 a q), h4⟩⟩
end
end Rv

/-! Rv, part 10a: zip of two or three lists, tuples, texts. -/
namespace Rv
open PySem PySem.Spec PyProof.Rows L2

/-- a thing that zip walks -/
inductive Kd where
  | lst (a : Addr)
  | tup (a : Addr)
  | str (z : Str) (t : Tok)
def Kd.val : Kd → Value
  | .lst a => .ref a
  | .tup a => .ref a
  | .str z t => .str z t
def Kd.adr : Kd → List Addr
  | .lst a => [a]
  | .tup a => [a]
  | .str _ _ => []
def Kd.obj : Kd → Obj
  | .lst a => { cls := .type "list_iterator", data := .fields #[.ref a, .int 0 0] }
  | .tup a => { cls := .type "tuple_iterator", data := .fields #[.ref a, .int 0 0] }
  | .str z t => { cls := .type (strIterType z), data := .fields #[.str z t, .int 0 0] }
def chrs (z : Str) : List V := z.cps.toList.map fun c => .str ⟨#[c]⟩
def Kd.has (K : PySem.W.Frag) (H : Hp) (k : Kd) (xs : List V) : Prop := match k with
  | .lst a => SqL K H a xs
  | .tup a => SqT K H a xs
  | .str z _ => xs = chrs z
/-- the iterator at it, behind n turns -/
def Kd.at (it : Addr) (n : Nat) (h : Heap) (k : Kd) : Prop := match k with
  | .lst a => h.IsListIter it a n
  | .tup a => h.IsTupleIter it a n
  | .str z t => h.IsStrIter it (strIterType z) z t n
def Kd.items (h : Heap) (its : Array Value) (k : Kd) : Prop := match k with
  | .lst a => h.IsList a its
  | .tup a => h.IsTuple a its
  | .str _ _ => True
section
variable {X : Cx} {pins : List (Addr × Obj)} {σ : L2.St} {H : Hp} {s : Shared} {A : Around} {k : Kd} {xs ys : List V} {it : Addr} {n : Nat} {h h' : Heap}
theorem Kd.uniq (I : Inv X pins σ H s) (a : k.has X.K H xs) (b : k.has X.K H ys) : xs = ys := by
  cases k with
  | lst a1 => exact I.list_inj a b
  | tup a1 => exact I.tuple_inj a b
  | str z t =>
    have a : xs = chrs z := a
    have b : ys = chrs z := b
    rw [a, b]
theorem Kd.live (w : k.at it n h) : ∃ o, h.get? it = some o ∧ ∀ v, o.data ≠ .cell v := by
  cases k <;> obtain ⟨o, ho, _, hd⟩ := w <;> exact ⟨o, ho, fun v q => by rw [hd] at q; cases q⟩
theorem Kd.stay (w : k.at it n h) (e : ∀ o, h.get? it = some o → h'.get? it = some o) : k.at it n h' := by
  cases k <;> obtain ⟨o, ho, hc, hd⟩ := w <;> exact ⟨o, e o ho, hc, hd⟩
theorem Kd.start (e : h.get? it = some k.obj) : k.at it 0 h := by
  cases k <;> exact ⟨_, e, rfl, rfl⟩
/-- what its iterator draws -/
theorem Kd.draws (I : Inv X pins σ H s) (hh : A.handled = none) (hn : it ∉ k.adr) (w : k.has X.K H xs) :
    ∃ (P : Nat → Value → Prop) (S : Nat → Heap → Prop), Draws X.prog X.w A it (it :: k.adr) xs.length P S ∧ (∀ n, k.at it n s.heap → S n s.heap) ∧ (∀ n h', S n h' → k.at it n h') ∧ ∀ n v, P n v → ∃ x, xs[n]? = some x ∧ RelV x v := by
  cases k with
  | lst a =>
    obtain ⟨its, rv, p, _⟩ := I.list w
    have hl : its.toArray.size = xs.length := by rw [List.size_toArray, rv.length]
    refine ⟨_, _, hl ▸ Draws.list hh it a (fun e => hn (by rw [e]; exact List.mem_singleton.mpr rfl)) its.toArray, fun n q => ⟨q, p.isList⟩, fun n h' q => q.1, fun n v q => ?_⟩
    have q : its[n]? = some v := by simpa using q
    obtain ⟨hi, ev⟩ := List.getElem?_eq_some_iff.mp q
    have hx : xs[n]? = some (xs[n]'(by rw [rv.length]; exact hi)) := List.getElem?_eq_getElem _
    obtain ⟨u, hu, ru⟩ := rv.get hx
    rw [q] at hu
    cases hu
    exact ⟨_, hx, ru⟩
  | tup a =>
    obtain ⟨its, rv, p, _⟩ := I.tuple w
    have hl : its.toArray.size = xs.length := by rw [List.size_toArray, rv.length]
    refine ⟨_, _, hl ▸ Draws.tuple hh it a (fun e => hn (by rw [e]; exact List.mem_singleton.mpr rfl)) its.toArray, fun n q => ⟨q, p⟩, fun n h' q => q.1, fun n v q => ?_⟩
    have q : its[n]? = some v := by simpa using q
    obtain ⟨hi, ev⟩ := List.getElem?_eq_some_iff.mp q
    have hx : xs[n]? = some (xs[n]'(by rw [rv.length]; exact hi)) := List.getElem?_eq_getElem _
    obtain ⟨u, hu, ru⟩ := rv.get hx
    rw [q] at hu
    cases hu
    exact ⟨_, hx, ru⟩
  | str z t =>
    have w : xs = chrs z := w
    have hl : z.cps.size = xs.length := by rw [w, chrs, List.length_map, Array.length_toList]
    refine ⟨_, _, hl ▸ Draws.text hh it z t, fun n q => q, fun n h' q => q, fun n v q => ?_⟩
    obtain ⟨c, u, hc, rfl⟩ := q
    refine ⟨.str ⟨#[c]⟩, ?_, ⟨u, rfl⟩⟩
    rw [w, chrs, List.getElem?_map, Array.getElem?_toList, hc]
    rfl
theorem Kd.below (I : Inv X pins σ H s) (w : k.has X.K H xs) : ∀ b ∈ k.adr, b < s.heap.objs.size := by
  cases k with
  | lst a =>
    intro b hb
    rw [List.mem_singleton.mp hb]
    obtain ⟨its, rv, p, _⟩ := I.list w
    exact p.lt
  | tup a =>
    intro b hb
    rw [List.mem_singleton.mp hb]
    obtain ⟨its, rv, p, _⟩ := I.tuple w
    obtain ⟨o, ho, _⟩ := p
    exact Heap.lt_size ho
  | str z t =>
    intro b hb
    cases hb
/-- how it begins -/
theorem Kd.begins (I : Inv X pins σ H s) (w : k.has X.K H xs) : ∃ B : Heap → Prop, Begins k.val k.obj B ∧ B s.heap := by
  cases k with
  | lst a =>
    obtain ⟨its, rv, p, _⟩ := I.list w
    exact ⟨_, begins_list a its.toArray, p.isList⟩
  | tup a =>
    obtain ⟨its, rv, p, _⟩ := I.tuple w
    exact ⟨_, begins_tuple a its.toArray, p⟩
  | str z t => exact ⟨_, begins_text z t, trivial⟩
end
/-- two of them, turn by turn, in new pairs -/
def Iz2 (K : PySem.W.Frag) (k l : Kd) : It :=
  ⟨fun i H => ∃ (xs ys : List V), k.has K H xs ∧ l.has K H ys ∧ i < xs.length ∧ i < ys.length,
    fun i H v H' => ∃ T x y, v = .ref T ∧ H T = none ∧ H' = upd H T (.tup [x, y]) ∧ (∀ xs, k.has K H xs → xs[i]? = some x) ∧ ∀ ys, l.has K H ys → ys[i]? = some y,
    fun i H => ∃ xs ys : List V, k.has K H xs ∧ l.has K H ys ∧ i ≤ xs.length ∧ i ≤ ys.length ∧ (i = xs.length ∨ i = ys.length)⟩
def Iz3 (K : PySem.W.Frag) (k l m : Kd) : It :=
  ⟨fun i H => ∃ (xs ys zs : List V), k.has K H xs ∧ l.has K H ys ∧ m.has K H zs ∧ i < xs.length ∧ i < ys.length ∧ i < zs.length,
    fun i H v H' => ∃ T x y z, v = .ref T ∧ H T = none ∧ H' = upd H T (.tup [x, y, z]) ∧ (∀ xs, k.has K H xs → xs[i]? = some x) ∧ (∀ ys, l.has K H ys → ys[i]? = some y) ∧ ∀ zs, m.has K H zs → zs[i]? = some z,
    fun i H => ∃ xs ys zs : List V, k.has K H xs ∧ l.has K H ys ∧ m.has K H zs ∧ i ≤ xs.length ∧ i ≤ ys.length ∧ i ≤ zs.length ∧ (i = xs.length ∨ i = ys.length ∨ i = zs.length)⟩
def Z2 (N : Addr) (k l : Kd) (i : Nat) (h : Heap) : Prop := IsZip h (N + 4) (N + 2) (N + 3) .none ∧ IsTupOf2 h (N + 2) (.ref N) (.ref (N + 1)) ∧ (∃ p q, IsTupOf2 h (N + 3) p q) ∧ k.at N i h ∧ l.at (N + 1) i h
def Z3 (N : Addr) (k l m : Kd) (i : Nat) (h : Heap) : Prop := IsZip h (N + 5) (N + 3) (N + 4) .none ∧ IsTupOf3 h (N + 3) (.ref N) (.ref (N + 1)) (.ref (N + 2)) ∧ (∃ p q r, IsTupOf3 h (N + 4) p q r) ∧ k.at N i h ∧ l.at (N + 1) i h ∧ m.at (N + 2) i h
theorem notAdr {N j : Nat} {l : List Addr} (h : ∀ b ∈ l, b < N) : (N + j : Nat) ∉ l := fun q => by
  have := h _ q
  exact absurd this (Nat.not_lt.mpr (Nat.le_add_right N j))
theorem turn_z2 {P : Program} {w : World} {K : PySem.W.Frag} {elts : List Expr} {kk : Nat} {tpos : Pos} {N : Addr} {k l : Kd} (hk : ∀ b ∈ k.adr, b < N) (hl : ∀ b ∈ l.adr, b < N) :
    Turn P w K (.Tuple elts kk tpos) (Iz2 K k l) [N + 4, N + 2, N + 3, N, N + 1] (N + 4) (Z2 N k l) where
  mem := List.mem_cons_self
  obj := fun i h st c hc => by
    obtain ⟨z, t, ⟨p, q, o⟩, a, b⟩ := st
    simp only [List.mem_cons, List.not_mem_nil, or_false] at hc
    rcases hc with rfl | rfl | rfl | rfl | rfl
    · exact ⟨_, z, fun v q => nomatch q⟩
    · exact ⟨_, t, fun v q => nomatch q⟩
    · exact ⟨_, o, fun v q => nomatch q⟩
    · exact Kd.live a
    · exact Kd.live b
  keep := fun i h h' st f => by
    obtain ⟨z, t, ⟨p, q, o⟩, a, b⟩ := st
    exact ⟨f _ (by simp) _ z, f _ (by simp) _ t, ⟨p, q, f _ (by simp) _ o⟩, Kd.stay a (f _ (by simp)), Kd.stay b (f _ (by simp))⟩
  item := by
    intro X e1 e2 e3 hC i pins s σ H E I hf st g
    subst e1 e2 e3
    obtain ⟨z, t, ⟨p, q, o⟩, a, b⟩ := st
    obtain ⟨xs, ys, hx, hy, li, lj⟩ := g
    have hh : X.A.in1.handled = none := I.ok.hd hC
    have S := zip_sep2 (N := N) hk hl
    obtain ⟨P1, S1, D1, f1, g1, r1⟩ := Kd.draws (it := N) I hh (notAdr (j := 0) hk) hx
    obtain ⟨P2, S2, D2, f2, g2, r2⟩ := Kd.draws (it := N + 1) I hh (notAdr (j := 1) hl) hy
    have zs : (N + 4 : Nat) < s.heap.objs.size := Heap.lt_size z
    refine wpAny_pyNext_zipD2_item S D1 D2 z t o (f1 i a) (f2 i b) li lj fun u v h' tk pu pv z1 o1 s1 s2 T1 _ old => ?_
    refine ⟨_, rfl, wpAny_letOwnedTupleGo_zip (s := { s with heap := h', toks := tk }) z1 fun h2 z2 sb => ?_⟩
    obtain ⟨x, ex, rx⟩ := r1 i u pu
    obtain ⟨y, ey, ry⟩ := r2 i v pv
    have T2 : h2.get? s.heap.objs.size = _ := (sb.2 _ (Nat.ne_of_gt zs)).trans T1
    have ob : ObjOk X.prog X.w (upd H s.heap.objs.size (.tup [x, y])) h2 s.heap.objs.size (.tup [x, y]) := ⟨(by decide : 2 ≤ sizeLine), [u, v], .cons rx (.cons ry .nil), _, T2, rfl, _, rfl⟩
    have J : Inv X pins σ (upd H s.heap.objs.size (.tup [x, y])) { s with heap := h2, toks := tk } :=
      I.turnedNew (t' := tk) (ch := [N + 4, N + 2, N + 3, N, N + 1]) (fun c u hc e => by
        simp only [List.mem_cons, List.not_mem_nil, or_false, not_or] at hc
        exact (sb.2 c hc.1).trans (old c u hc.1 hc.2.2.1 hc.2.2.2.1 hc.2.2.2.2 e)) hf (Nat.le_refl _) ob
    refine ⟨.ref s.heap.objs.size, _, J, rfl, ⟨_, x, y, rfl, I.hok.fresh (Nat.le_refl _), rfl, fun ws q => by rw [Kd.uniq I q hx]; exact ex, fun ws q => by rw [Kd.uniq I q hy]; exact ey⟩, ⟨z2, ?_, ⟨u, v, ?_⟩, ?_, ?_⟩, fun c hc => ?_⟩
    · exact (sb.2 _ S.TIz).trans (old _ _ S.TIz S.TITO S.TIi1 S.TIi2 t)
    · exact (sb.2 _ S.TOz).trans o1
    · exact g1 _ _ (D1.over s1 sb S.zf1)
    · exact g2 _ _ (D2.over s2 sb S.zf2)
    · have lt : c < s.heap.objs.size := by
        simp only [List.mem_cons, List.not_mem_nil, or_false] at hc
        rcases hc with rfl | rfl | rfl | rfl | rfl
        · exact zs
        · exact Heap.lt_size t
        · exact Heap.lt_size o
        · obtain ⟨_, q, _⟩ := Kd.live a; exact Heap.lt_size q
        · obtain ⟨_, q, _⟩ := Kd.live b; exact Heap.lt_size q
      rw [upd_ne (Nat.ne_of_lt lt)]
      exact (hf c hc).1
  done := by
    intro X e1 e2 e3 hC i pins s σ H E I hf st g
    subst e1 e2 e3
    obtain ⟨z, t, ⟨p, q, o⟩, a, b⟩ := st
    obtain ⟨xs, ys, hx, hy, li, lj, le⟩ := g
    have hh : X.A.in1.handled = none := I.ok.hd hC
    obtain ⟨P1, S1, D1, f1, g1, r1⟩ := Kd.draws (it := N) I hh (notAdr (j := 0) hk) hx
    obtain ⟨P2, S2, D2, f2, g2, r2⟩ := Kd.draws (it := N + 1) I hh (notAdr (j := 1) hl) hy
    refine wpAny_pyNext_zipD2_end (zip_sep2 (N := N) hk hl) D1 D2 z t o (f1 i a) (f2 i b) li lj le fun h' tk old => ⟨rfl, I.turnedL (t' := tk) (ch := [N + 4, N + 2, N + 3, N, N + 1]) (fun c u hc e => ?_) hf⟩
    simp only [List.mem_cons, List.not_mem_nil, or_false, not_or] at hc
    exact old c u hc.1 hc.2.2.1 hc.2.2.2.1 hc.2.2.2.2 e
  self := fun A i s Q E st q => wpAny_pyIter_zip st.1 q
theorem turn_z3 {P : Program} {w : World} {K : PySem.W.Frag} {elts : List Expr} {kk : Nat} {tpos : Pos} {N : Addr} {k l m : Kd} (hk : ∀ b ∈ k.adr, b < N) (hl : ∀ b ∈ l.adr, b < N) (hm : ∀ b ∈ m.adr, b < N) :
    Turn P w K (.Tuple elts kk tpos) (Iz3 K k l m) [N + 5, N + 3, N + 4, N, N + 1, N + 2] (N + 5) (Z3 N k l m) where
  mem := List.mem_cons_self
  obj := fun i h st c hc => by
    obtain ⟨z, t, ⟨p, q, r, o⟩, a, b, d⟩ := st
    simp only [List.mem_cons, List.not_mem_nil, or_false] at hc
    rcases hc with rfl | rfl | rfl | rfl | rfl | rfl
    · exact ⟨_, z, fun v q => nomatch q⟩
    · exact ⟨_, t, fun v q => nomatch q⟩
    · exact ⟨_, o, fun v q => nomatch q⟩
    · exact Kd.live a
    · exact Kd.live b
    · exact Kd.live d
  keep := fun i h h' st f => by
    obtain ⟨z, t, ⟨p, q, r, o⟩, a, b, d⟩ := st
    exact ⟨f _ (by simp) _ z, f _ (by simp) _ t, ⟨p, q, r, f _ (by simp) _ o⟩, Kd.stay a (f _ (by simp)), Kd.stay b (f _ (by simp)), Kd.stay d (f _ (by simp))⟩
  item := by
    intro X e1 e2 e3 hC i pins s σ H E I hf st g
    subst e1 e2 e3
    obtain ⟨z, t, ⟨p, q, r, o⟩, a, b, d⟩ := st
    obtain ⟨xs, ys, ws, hx, hy, hw, li, lj, ln⟩ := g
    have hh : X.A.in1.handled = none := I.ok.hd hC
    have S := zip_sep3 (N := N) hk hl hm
    obtain ⟨P1, S1, D1, f1, g1, r1⟩ := Kd.draws (it := N) I hh (notAdr (j := 0) hk) hx
    obtain ⟨P2, S2, D2, f2, g2, r2⟩ := Kd.draws (it := N + 1) I hh (notAdr (j := 1) hl) hy
    obtain ⟨P3, S3, D3, f3, g3, r3⟩ := Kd.draws (it := N + 2) I hh (notAdr (j := 2) hm) hw
    have zs : (N + 5 : Nat) < s.heap.objs.size := Heap.lt_size z
    refine wpAny_pyNext_zipD3_item S D1 D2 D3 z t o (f1 i a) (f2 i b) (f3 i d) li lj ln fun u v v3 h' tk pu pv pw z1 o1 s1 s2 s3 T1 _ old => ?_
    refine ⟨_, rfl, wpAny_letOwnedTupleGo_zip (s := { s with heap := h', toks := tk }) z1 fun h2 z2 sb => ?_⟩
    obtain ⟨x, ex, rx⟩ := r1 i u pu
    obtain ⟨y, ey, ry⟩ := r2 i v pv
    obtain ⟨y3, ey3, ry3⟩ := r3 i v3 pw
    have T2 : h2.get? s.heap.objs.size = _ := (sb.2 _ (Nat.ne_of_gt zs)).trans T1
    have ob : ObjOk X.prog X.w (upd H s.heap.objs.size (.tup [x, y, y3])) h2 s.heap.objs.size (.tup [x, y, y3]) := ⟨(by decide : 3 ≤ sizeLine), [u, v, v3], .cons rx (.cons ry (.cons ry3 .nil)), _, T2, rfl, _, rfl⟩
    have J : Inv X pins σ (upd H s.heap.objs.size (.tup [x, y, y3])) { s with heap := h2, toks := tk } :=
      I.turnedNew (t' := tk) (ch := [N + 5, N + 3, N + 4, N, N + 1, N + 2]) (fun c u hc e => by
        simp only [List.mem_cons, List.not_mem_nil, or_false, not_or] at hc
        exact (sb.2 c hc.1).trans (old c u hc.1 hc.2.2.1 hc.2.2.2.1 hc.2.2.2.2.1 hc.2.2.2.2.2 e)) hf (Nat.le_refl _) ob
    refine ⟨.ref s.heap.objs.size, _, J, rfl, ⟨_, x, y, y3, rfl, I.hok.fresh (Nat.le_refl _), rfl, fun ws q => by rw [Kd.uniq I q hx]; exact ex, fun ws q => by rw [Kd.uniq I q hy]; exact ey, fun ws q => by rw [Kd.uniq I q hw]; exact ey3⟩, ⟨z2, ?_, ⟨u, v, v3, ?_⟩, ?_, ?_, ?_⟩, fun c hc => ?_⟩
    · exact (sb.2 _ S.TIz).trans (old _ _ S.TIz S.TITO S.TIi1 S.TIi2 S.TIi3 t)
    · exact (sb.2 _ S.TOz).trans o1
    · exact g1 _ _ (D1.over s1 sb S.zf1)
    · exact g2 _ _ (D2.over s2 sb S.zf2)
    · exact g3 _ _ (D3.over s3 sb S.zf3)
    · have lt : c < s.heap.objs.size := by
        simp only [List.mem_cons, List.not_mem_nil, or_false] at hc
        rcases hc with rfl | rfl | rfl | rfl | rfl | rfl
        · exact zs
        · exact Heap.lt_size t
        · exact Heap.lt_size o
        · obtain ⟨_, q, _⟩ := Kd.live a; exact Heap.lt_size q
        · obtain ⟨_, q, _⟩ := Kd.live b; exact Heap.lt_size q
        · obtain ⟨_, q, _⟩ := Kd.live d; exact Heap.lt_size q
      rw [upd_ne (Nat.ne_of_lt lt)]
      exact (hf c hc).1
  done := by
    intro X e1 e2 e3 hC i pins s σ H E I hf st g
    subst e1 e2 e3
    obtain ⟨z, t, ⟨p, q, r, o⟩, a, b, d⟩ := st
    obtain ⟨xs, ys, ws, hx, hy, hw, li, lj, ln, le⟩ := g
    have hh : X.A.in1.handled = none := I.ok.hd hC
    obtain ⟨P1, S1, D1, f1, g1, r1⟩ := Kd.draws (it := N) I hh (notAdr (j := 0) hk) hx
    obtain ⟨P2, S2, D2, f2, g2, r2⟩ := Kd.draws (it := N + 1) I hh (notAdr (j := 1) hl) hy
    obtain ⟨P3, S3, D3, f3, g3, r3⟩ := Kd.draws (it := N + 2) I hh (notAdr (j := 2) hm) hw
    refine wpAny_pyNext_zipD3_end (zip_sep3 (N := N) hk hl hm) D1 D2 D3 z t o (f1 i a) (f2 i b) (f3 i d) li lj ln le fun h' tk old => ⟨rfl, I.turnedL (t' := tk) (ch := [N + 5, N + 3, N + 4, N, N + 1, N + 2]) (fun c u hc e => ?_) hf⟩
    simp only [List.mem_cons, List.not_mem_nil, or_false, not_or] at hc
    exact old c u hc.1 hc.2.2.1 hc.2.2.2.1 hc.2.2.2.2.1 hc.2.2.2.2.2 e
  self := fun A i s Q E st q => wpAny_pyIter_zip st.1 q

/-! ### the rules -/
section
variable {X : Cx} {e e2 e3 : Expr} {ta : TA} {p pos tpos : Pos} {elts : List Expr} {kk : Nat}
def hasV (K : PySem.W.Frag) (H : Hp) (x : V) (xs : List V) (k : Kd → Prop) : Prop := ∀ u, RelV x u → ∃ d : Kd, d.val = u ∧ d.has K H xs ∧ k d
def iZ2 (K : PySem.W.Frag) (ta : TA) : TI := fun σ H R => ta σ H fun vs H1 => ∃ x y xs ys, vs = [x, y] ∧ hasV K H1 x xs fun k => hasV K H1 y ys fun l => R (Iz2 K k l) H1
theorem pi_z2 (hg : Gl X "zip") (hm : X.mg "zip" = none) (ha : PA X [e, e2] ta) (hs : starEach [e, e2] X.env = (false, eval e X.env) :: starEach [e2] X.env) (hpl : (backTo pos (starEach [e2] X.env)).any (·.1) = false) :
    PI X (.Tuple elts kk tpos) (.Call (.Name "zip" p) [e, e2] [] pos) (iZ2 X.K ta) := by
  refine ⟨fun pins s σ H R I h => ?_⟩
  refine Call_ (ld_blt I hg hm PyProof.Rows.boot_zip (PyProof.Rows.callWith_type1 (thn (ha.run pos pins s σ H _ I h) fun us s1 ⟨vs, H1, I1, r1, q1⟩ => ?_) hs hpl))
  obtain ⟨x, y, xs, ys, rfl, q1⟩ := q1
  cases r1 with
  | cons r rr =>
    cases rr with
    | cons r' rr =>
      cases rr
      obtain ⟨k, rfl, hk, q1⟩ := q1 _ r
      obtain ⟨l, rfl, hl, q1⟩ := q1 _ r'
      obtain ⟨B1, b1, o1⟩ := Kd.begins I1 hk
      obtain ⟨B2, b2, o2⟩ := Kd.begins I1 hl
      refine zip_begins2 b1 b2 o1 o2 fun h' z t o i1 i2 _ old => wpAny_pyIter_zip z ?_
      have J : Inv X pins σ H1 { s1 with heap := h' } := I1.kept (t' := s1.toks) old
      refine ⟨s1.heap.objs.size + 4, _, _, _, H1, rfl, J, turn_z2 (N := s1.heap.objs.size) (Kd.below I1 hk) (Kd.below I1 hl), ⟨z, t, ⟨_, _, o⟩, Kd.start i1, Kd.start i2⟩, fun c hc => ?_, q1⟩
      have le : s1.heap.objs.size ≤ c := by
        simp only [List.mem_cons, List.not_mem_nil, or_false] at hc
        rcases hc with rfl | rfl | rfl | rfl | rfl <;> first | exact Nat.le_refl _ | exact Nat.le_add_right _ _
      exact I1.fpOk le (I1.hok.fresh le)
def iZ3 (K : PySem.W.Frag) (ta : TA) : TI := fun σ H R => ta σ H fun vs H1 => ∃ x y z xs ys zs, vs = [x, y, z] ∧ hasV K H1 x xs fun k => hasV K H1 y ys fun l => hasV K H1 z zs fun m => R (Iz3 K k l m) H1
theorem pi_z3 (hg : Gl X "zip") (hm : X.mg "zip" = none) (ha : PA X [e, e2, e3] ta) (hs : starEach [e, e2, e3] X.env = (false, eval e X.env) :: starEach [e2, e3] X.env) (hpl : (backTo pos (starEach [e2, e3] X.env)).any (·.1) = false) :
    PI X (.Tuple elts kk tpos) (.Call (.Name "zip" p) [e, e2, e3] [] pos) (iZ3 X.K ta) := by
  refine ⟨fun pins s σ H R I h => ?_⟩
  refine Call_ (ld_blt I hg hm PyProof.Rows.boot_zip (PyProof.Rows.callWith_type1 (thn (ha.run pos pins s σ H _ I h) fun us s1 ⟨vs, H1, I1, r1, q1⟩ => ?_) hs hpl))
  obtain ⟨x, y, y3, xs, ys, ws, rfl, q1⟩ := q1
  cases r1 with
  | cons r rr =>
    cases rr with
    | cons r' rr =>
      cases rr with
      | cons r3 rr =>
        cases rr
        obtain ⟨k, rfl, hk, q1⟩ := q1 _ r
        obtain ⟨l, rfl, hl, q1⟩ := q1 _ r'
        obtain ⟨m, rfl, hw, q1⟩ := q1 _ r3
        obtain ⟨B1, b1, o1⟩ := Kd.begins I1 hk
        obtain ⟨B2, b2, o2⟩ := Kd.begins I1 hl
        obtain ⟨B3, b3, o3⟩ := Kd.begins I1 hw
        refine zip_begins3 b1 b2 b3 o1 o2 o3 fun h' z t o i1 i2 i3 _ old => wpAny_pyIter_zip z ?_
        have J : Inv X pins σ H1 { s1 with heap := h' } := I1.kept (t' := s1.toks) old
        refine ⟨s1.heap.objs.size + 5, _, _, _, H1, rfl, J, turn_z3 (N := s1.heap.objs.size) (Kd.below I1 hk) (Kd.below I1 hl) (Kd.below I1 hw), ⟨z, t, ⟨_, _, _, o⟩, Kd.start i1, Kd.start i2, Kd.start i3⟩, fun c hc => ?_, q1⟩
        have le : s1.heap.objs.size ≤ c := by
          simp only [List.mem_cons, List.not_mem_nil, or_false] at hc
          rcases hc with rfl | rfl | rfl | rfl | rfl | rfl <;> first | exact Nat.le_refl _ | exact Nat.le_add_right _ _
        exact I1.fpOk le (I1.hok.fresh le)
end
section
variable {K : PySem.W.Frag} {mg : Str → Option Value} {F0 : Hp} {xs ys zs : List Val} {k l m : Kd} {Vs Ws Us : List V}
theorem Kd.mono {H H' : Hp} (e : Same H H') (w : k.has K H Vs) : k.has K H' Vs := by
  cases k with
  | lst a => exact e.seq w
  | tup a => exact seqT e w
  | str z t => exact w
theorem walks_z2 (t : k.has K F0 Vs) (t2 : l.has K F0 Ws) (r : RVs K mg F0 xs Vs) (r2 : RVs K mg F0 ys Ws) : Walks K mg F0 (zipV xs ys) (Iz2 K k l) := fun i F H e1 e2 => by
  have h1 : k.has K H Vs := Kd.mono e2 (Kd.mono e1 t)
  have h2 : l.has K H Ws := Kd.mono e2 (Kd.mono e1 t2)
  have l1 := r.length
  have l2 := r2.length
  refine ⟨fun v hv => ?_, fun hl => ?_⟩
  · obtain ⟨x, y, hx, hy, rfl⟩ := zipV_get hv
    obtain ⟨A, hA, ra⟩ := r.get hx
    obtain ⟨B, hB, rb⟩ := r2.get hy
    refine ⟨⟨Vs, Ws, h1, h2, (List.getElem?_eq_some_iff.mp hA).1, (List.getElem?_eq_some_iff.mp hB).1⟩, fun z H' ⟨T, a, b, ez, hT, eH, q1, q2⟩ => .inr ⟨T, _, hT, eH, ?_⟩⟩
    have g1 := q1 Vs h1
    have g2 := q2 Ws h2
    rw [hA] at g1
    rw [hB] at g2
    cases g1; cases g2
    rw [ez]
    exact pair_rv (e2.free hT) (ra.mono e1) (rb.mono e1)
  · rw [zipV_len] at hl
    exact ⟨Vs, Ws, h1, h2, by omega, by omega, by omega⟩
theorem zipV3_len : ∀ {xs ys zs : List Val}, (zipV3 xs ys zs).length = min xs.length (min ys.length zs.length)
  | [], _, _ => (Nat.zero_min _).symm
  | _ :: _, [], _ => by
    show 0 = min _ (min 0 _)
    rw [Nat.zero_min, Nat.min_zero]
  | _ :: _, _ :: _, [] => by
    show 0 = min _ (min _ 0)
    rw [Nat.min_zero, Nat.min_zero]
  | x :: xs, y :: ys, z :: zs => by
    show (zipV3 xs ys zs).length + 1 = min (xs.length + 1) (min (ys.length + 1) (zs.length + 1))
    rw [zipV3_len, Nat.succ_min_succ, Nat.succ_min_succ]
theorem zipV3_get : ∀ {xs ys zs : List Val} {i : Nat} {v : Val}, (zipV3 xs ys zs)[i]? = some v → ∃ x y z, xs[i]? = some x ∧ ys[i]? = some y ∧ zs[i]? = some z ∧ v = .tup [x, y, z]
  | [], _, _, i, v, e => by
    have e : ([] : List Val)[i]? = some v := e
    simp at e
  | _ :: _, [], _, i, v, e => by
    have e : ([] : List Val)[i]? = some v := e
    simp at e
  | _ :: _, _ :: _, [], i, v, e => by
    have e : ([] : List Val)[i]? = some v := e
    simp at e
  | x :: xs, y :: ys, z :: zs, 0, v, e => by
    have e : some (Val.tup [x, y, z]) = some v := e
    cases e
    exact ⟨x, y, z, rfl, rfl, rfl, rfl⟩
  | x :: xs, y :: ys, z :: zs, i + 1, v, e => zipV3_get (xs := xs) (ys := ys) (zs := zs) (i := i) e
theorem walks_z3 (t : k.has K F0 Vs) (t2 : l.has K F0 Ws) (t3 : m.has K F0 Us) (r : RVs K mg F0 xs Vs) (r2 : RVs K mg F0 ys Ws) (r3 : RVs K mg F0 zs Us) : Walks K mg F0 (zipV3 xs ys zs) (Iz3 K k l m) := fun i F H e1 e2 => by
  have h1 : k.has K H Vs := Kd.mono e2 (Kd.mono e1 t)
  have h2 : l.has K H Ws := Kd.mono e2 (Kd.mono e1 t2)
  have h3 : m.has K H Us := Kd.mono e2 (Kd.mono e1 t3)
  have l1 := r.length
  have l2 := r2.length
  have l3 := r3.length
  refine ⟨fun v hv => ?_, fun hl => ?_⟩
  · obtain ⟨x, y, z, hx, hy, hz, rfl⟩ := zipV3_get hv
    obtain ⟨A, hA, ra⟩ := r.get hx
    obtain ⟨B, hB, rb⟩ := r2.get hy
    obtain ⟨D, hD, rd⟩ := r3.get hz
    refine ⟨⟨Vs, Ws, Us, h1, h2, h3, (List.getElem?_eq_some_iff.mp hA).1, (List.getElem?_eq_some_iff.mp hB).1, (List.getElem?_eq_some_iff.mp hD).1⟩, fun z H' ⟨T, a, b, d, ez, hT, eH, q1, q2, q3⟩ => .inr ⟨T, _, hT, eH, ?_⟩⟩
    have g1 := q1 Vs h1
    have g2 := q2 Ws h2
    have g3 := q3 Us h3
    rw [hA] at g1
    rw [hB] at g2
    rw [hD] at g3
    cases g1; cases g2; cases g3
    rw [ez]
    have n := e2.free hT
    exact .tup (SqT.of upd_same) (by decide : 3 ≤ sizeLine) (.cons ((ra.mono e1).mono (same_updF n)) (.cons ((rb.mono e1).mono (same_updF n)) (.cons ((rd.mono e1).mono (same_updF n)) .nil)))
  · rw [zipV3_len] at hl
    exact ⟨Vs, Ws, Us, h1, h2, h3, by omega, by omega, by omega, by omega⟩
/-- what is known of a value that is walked -/
theorem hasV_of {F H : Hp} (sb : Same F H) {v : Val} {x : V} (rv : RV K mg F v x) {xs : List Val} (e : itemsV v = some xs) {Q : Kd → Prop} (h : ∀ k Vs, k.has K F Vs → RVs K mg F xs Vs → Q k) : ∃ Vs, hasV K H x Vs Q := by
  cases v <;> first | exact nomatch (show (none : Option (List Val)) = some _ from e) | skip
  · rename_i z
    cases e
    cases rv
    refine ⟨chrs z, fun u r => ?_⟩
    obtain ⟨t, rfl⟩ := r
    refine ⟨.str z t, rfl, rfl, h _ (chrs z) rfl ?_⟩
    unfold chrs
    generalize z.cps.toList = l
    induction l with
    | nil => exact .nil
    | cons c l ih => exact .cons (.str _) ih
  · cases e
    cases rv with
    | @tup a Vs _ t l r =>
      refine ⟨Vs, fun u q => ?_⟩
      cases q
      exact ⟨.tup a, rfl, seqT sb t, h _ Vs t r⟩
  · cases e
    cases rv with
    | @lst a Vs _ t l r =>
      refine ⟨Vs, fun u q => ?_⟩
      cases q
      exact ⟨.lst a, rfl, SqL.of (sb _ _ t), h _ Vs (SqL.of t) r⟩
  · rename_i ns
    cases e
    cases rv with
    | @scr a _ t l =>
      refine ⟨ns.map V.int, fun u q => ?_⟩
      cases q
      exact ⟨.lst a, rfl, sb.seq t, h _ _ t (RVs.ofInts _)⟩
end
section
variable {X : Cx} {C : Ctx} {W : WX} {tg e a b d : Expr} {c ca cb cd : Ex} {pos p : Pos}
theorem si_zip {elts : List Expr} {kk : Nat} {tpos : Pos} (hg : Gl X "zip") (hm : X.mg "zip" = none) (hsa : noStar a = true) (hsb : noStar b = true) (ha : SE X C W a ca) (hb : SE X C W b cb) : SI X C W (.Tuple elts kk tpos) (.Call (.Name "zip" p) [a, b] [] pos) (.zip2 ca cb) :=
  pi_imp (pi_z2 hg hm (pa_cons ha (pa_cons hb pa_nil (starEach_cons hsb)) (starEach_cons hsa)) (starEach_cons hsa) (by rw [starEach_cons hsb]; rfl)) fun σ H R' ⟨F, ρ, rp, h⟩ => by
    replace h : Post X.K X.mg F H σ ρ W _ ((((evE C ca ρ).bind fun x ρ => (fzR x ρ).bind fun v ρ => (evE C cb ρ).bind fun y ρ => (fzR y ρ).bind fun w ρ => Out.opt ((zipW v w).map fun xs => (⟨.lst xs, .fz⟩ : Rv.R)) ρ).bind fzR).bind fun v ρ => Out.opt (itemsV v) ρ) := h
    rw [Out.bind_assoc, Out.bind_assoc] at h
    simp only [Out.bind_assoc] at h
    refine bindZ rp h fun v ρ1 V1 F1 H1 rp1 st1 rv1 h1 => ?_
    refine bindZ rp1 h1 fun w ρ2 V2 F2 H2 rp2 st2 rv2 h2 => ?_
    have rv1' := rv1.mono st2.ff
    cases e3 : zipW v w with
    | none =>
      rw [e3] at h2
      exact h2.elim
    | some xs =>
      rw [e3] at h2
      replace h2 := h2.now rp2
      unfold zipW at e3
      split at e3
      · rename_i us ws q1 q2
        cases e3
        obtain ⟨Ws, k2⟩ := hasV_of (H := H2) rp2.sub rv2 q2 (Q := fun l => ∀ k Vs, k.has X.K F2 Vs → RVs X.K X.mg F2 us Vs → R' (Iz2 X.K k l) H2) fun l Ws t r k Vs t' r' => h2 _ (walks_z2 t' t r' r)
        obtain ⟨Vs, k1⟩ := hasV_of (H := H2) rp2.sub rv1' q1 (Q := fun k => hasV X.K H2 V2 Ws fun l => R' (Iz2 X.K k l) H2) fun k Vs t r u ru => by
          obtain ⟨l, e1, e2, q⟩ := k2 u ru
          exact ⟨l, e1, e2, q k Vs t r⟩
        exact ⟨V1, V2, Vs, Ws, rfl, k1⟩
      · cases e3
theorem si_zip3 {elts : List Expr} {kk : Nat} {tpos : Pos} (hg : Gl X "zip") (hm : X.mg "zip" = none) (hsa : noStar a = true) (hsb : noStar b = true) (hsd : noStar d = true) (ha : SE X C W a ca) (hb : SE X C W b cb) (hd : SE X C W d cd) : SI X C W (.Tuple elts kk tpos) (.Call (.Name "zip" p) [a, b, d] [] pos) (.zip3 ca cb cd) :=
  pi_imp (pi_z3 hg hm (pa_cons ha (pa_cons hb (pa_cons hd pa_nil (starEach_cons hsd)) (starEach_cons hsb)) (starEach_cons hsa)) (starEach_cons hsa) (by rw [starEach_cons hsb, starEach_cons hsd]; rfl)) fun σ H R' ⟨F, ρ, rp, h⟩ => by
    replace h : Post X.K X.mg F H σ ρ W _ ((((evE C ca ρ).bind fun x ρ => (fzR x ρ).bind fun v ρ => (evE C cb ρ).bind fun y ρ => (fzR y ρ).bind fun w ρ => (evE C cd ρ).bind fun z ρ => (fzR z ρ).bind fun u ρ => Out.opt ((zipW3 v w u).map fun xs => (⟨.lst xs, .fz⟩ : Rv.R)) ρ).bind fzR).bind fun v ρ => Out.opt (itemsV v) ρ) := h
    rw [Out.bind_assoc, Out.bind_assoc] at h
    simp only [Out.bind_assoc] at h
    refine bindZ rp h fun v ρ1 V1 F1 H1 rp1 st1 rv1 h1 => ?_
    refine bindZ rp1 h1 fun w ρ2 V2 F2 H2 rp2 st2 rv2 h2 => ?_
    refine bindZ rp2 h2 fun x ρ3 V3 F3 H3 rp3 st3 rv3 h3 => ?_
    have rv1' := (rv1.mono st2.ff).mono st3.ff
    have rv2' := rv2.mono st3.ff
    cases e3 : zipW3 v w x with
    | none =>
      rw [e3] at h3
      exact h3.elim
    | some xs =>
      rw [e3] at h3
      replace h3 := h3.now rp3
      unfold zipW3 at e3
      split at e3
      · rename_i us ws os q1 q2 q3
        cases e3
        obtain ⟨Os, k3⟩ := hasV_of (H := H3) rp3.sub rv3 q3 (Q := fun m => ∀ k l Vs Ws, k.has X.K F3 Vs → l.has X.K F3 Ws → RVs X.K X.mg F3 us Vs → RVs X.K X.mg F3 ws Ws → R' (Iz3 X.K k l m) H3) fun m Os t r k l Vs Ws t' t'' r' r'' => h3 _ (walks_z3 t' t'' t r' r'' r)
        obtain ⟨Ws, k2⟩ := hasV_of (H := H3) rp3.sub rv2' q2 (Q := fun l => ∀ k Vs, k.has X.K F3 Vs → RVs X.K X.mg F3 us Vs → hasV X.K H3 V3 Os fun m => R' (Iz3 X.K k l m) H3) fun l Ws t r k Vs t' r' u ru => by
          obtain ⟨m, e1, e2, q⟩ := k3 u ru
          exact ⟨m, e1, e2, q k l Vs Ws t' t r' r⟩
        obtain ⟨Vs, k1⟩ := hasV_of (H := H3) rp3.sub rv1' q1 (Q := fun k => hasV X.K H3 V2 Ws fun l => hasV X.K H3 V3 Os fun m => R' (Iz3 X.K k l m) H3) fun k Vs t r u ru => by
          obtain ⟨l, e1, e2, q⟩ := k2 u ru
          exact ⟨l, e1, e2, q k Vs t r⟩
        exact ⟨V1, V2, V3, Vs, Ws, Os, rfl, k1⟩
      · cases e3
end
end Rv

/-! Rv, part 11: list comprehensions. -/
namespace Rv
open PySem PySem.Spec PyProof.Rows L2

section
variable {ρ ρ' : Env} {σ : L2.St} {i : Nat}
theorem wipeE_len : ∀ own : List Nat, (wipeE ρ own).length = ρ.length
  | [] => rfl
  | v :: vs => by
    show ((wipeE ρ vs).set v none).length = _
    rw [List.length_set, wipeE_len vs]
theorem unwipe_len : ∀ own : List Nat, (unwipe ρ ρ' own).length = ρ'.length
  | [] => rfl
  | v :: vs => by
    show ((unwipe ρ ρ' vs).set v _).length = _
    rw [List.length_set, unwipe_len vs]
theorem lookS_wipeE : ∀ {own : List Nat} {p : Val × Bool}, lookS (wipeE ρ own) i = some p → lookS ρ i = some p ∧ i ∉ own
  | [], p, e => ⟨e, by simp⟩
  | v :: vs, p, e => by
    have e : lookS ((wipeE ρ vs).set v none) i = some p := e
    rw [lookS_set] at e
    split at e
    · cases e
    · rename_i h
      obtain ⟨h1, h2⟩ := lookS_wipeE e
      refine ⟨h1, fun z => ?_⟩
      rcases List.mem_cons.mp z with z | z
      · exact h ⟨z.symm, by rw [wipeE_len]; exact lookS_lt h1⟩
      · exact h2 z
theorem lookS_unwipe : ∀ {own : List Nat}, i < ρ'.length → lookS (unwipe ρ ρ' own) i = if i ∈ own then lookS ρ i else lookS ρ' i
  | [], h => by rw [if_neg (by simp)]; rfl
  | v :: vs, h => by
    show lookS ((unwipe ρ ρ' vs).set v (lookS ρ v)) i = _
    rw [lookS_set, unwipe_len]
    by_cases e : v = i
    · rw [if_pos ⟨e, h⟩, if_pos (by rw [e]; exact List.mem_cons_self), e]
    · rw [if_neg fun z => e z.1, lookS_unwipe h]
      by_cases m : i ∈ vs
      · rw [if_pos m, if_pos (List.mem_cons_of_mem _ m)]
      · rw [if_neg m, if_neg fun z => (List.mem_cons.mp z).elim (fun q => e q.symm) m]
theorem wipe_get : ∀ {own : List Nat}, (wipe σ own)[i]? = if i ∈ own ∧ i < σ.length then some none else σ[i]?
  | [] => by rw [if_neg (by simp)]; rfl
  | v :: vs => by
    show ((wipe σ vs).set v none)[i]? = _
    rw [List.getElem?_set, wipe_length, wipe_get]
    by_cases e : v = i
    · subst e
      by_cases h : v < σ.length
      · simp [h]
      · simp [h]
    · rw [if_neg e]
      by_cases m : i ∈ vs
      · simp [m]
      · have : i ∉ v :: vs := fun z => (List.mem_cons.mp z).elim (fun q => e q.symm) m
        simp [m, this]
theorem wipe_eq {σ2 : L2.St} {own : List Nat} (hl : σ2.length = σ.length) (ag : ∀ i, i ∉ own → σ2[i]? = σ[i]?) : wipe σ2 own = wipe σ own := by
  refine List.ext_getElem? fun i => ?_
  rw [wipe_get, wipe_get, hl]
  by_cases h : i ∈ own
  · by_cases h2 : i < σ.length
    · rw [if_pos ⟨h, h2⟩, if_pos ⟨h, h2⟩]
    · rw [if_neg fun z => h2 z.2, if_neg fun z => h2 z.2, List.getElem?_eq_none (by omega), List.getElem?_eq_none (by omega)]
  · rw [if_neg fun z => h z.1, if_neg fun z => h z.1, ag i h]
end

def OwnX (own : List Nat) (ρ : Env) (σ : L2.St) (a : Addr) : Prop := ∃ i v, i ∉ own ∧ lookS ρ i = some (v, true) ∧ v.mut = true ∧ σ[i]? = some (some (.ref a))
def OwnI (own : List Nat) (ρ : Env) (σ : L2.St) (a : Addr) : Prop := ∃ i v, i ∈ own ∧ lookS ρ i = some (v, true) ∧ v.mut = true ∧ σ[i]? = some (some (.ref a))
section
variable {K : PySem.W.Frag} {mg : Str → Option Value} {C : Ctx} {F F0 F1 F3 H H0 H1 H3 : Hp} {σ σ2 : L2.St} {ρ ρ1 ρ3 : Env} {own : List Nat} {O O0 O2 O3 : Addr → Prop} {D a : Addr}
theorem OwnX.toOwn (h : OwnX own ρ σ a) : Own ρ σ a := let ⟨i, v, _, e, m, s⟩ := h; ⟨i, v, e, m, s⟩
theorem OwnI.toOwn (h : OwnI own ρ σ a) : Own ρ σ a := let ⟨i, v, _, e, m, s⟩ := h; ⟨i, v, e, m, s⟩
theorem OwnX.not (rp : Rp K mg F H σ ρ) (h : OwnX own ρ σ a) : ¬ OwnI own ρ σ a := fun ⟨j, w, hj, e2, m2, s2⟩ => by
  obtain ⟨i, v, hi, e, m, s⟩ := h
  exact hi (rp.inj i j v w a e m e2 m2 s s2 ▸ hj)
theorem own_wipe (h : Own (wipeE ρ own) (wipe σ own) a) : OwnX own ρ σ a := by
  obtain ⟨i, v, e, m, s⟩ := h
  obtain ⟨e1, hi⟩ := lookS_wipeE e
  exact ⟨i, v, hi, e1, m, (wipe_some s).1⟩
theorem Rp.wipe (rp : Rp K mg F H σ ρ) : Rp K mg F H (wipe σ own) (wipeE ρ own) := by
  refine ⟨rp.sub, by rw [wipeE_len, wipe_length]; exact rp.len, fun i v o e => ?_, fun i j v w a e1 m1 e2 m2 s1 s2 => ?_⟩
  · obtain ⟨e1, hi⟩ := lookS_wipeE e
    obtain ⟨x, hx, sl⟩ := rp.slot i v o e1
    exact ⟨x, by rw [wipe_out hi]; exact hx, sl⟩
  · exact rp.inj i j v w a (lookS_wipeE e1).1 m1 (lookS_wipeE e2).1 m2 (wipe_some s1).1 (wipe_some s2).1
/-- back from a block to the names around it -/
theorem unblock (rp : Rp K mg F H σ ρ) (rp3 : Rp K mg F3 H3 σ2 ρ3) (hl : σ2.length = σ.length) (ag : ∀ i, i ∉ own → σ2[i]? = σ[i]?) (st : Step F H O2 F3 H3 O3) (h2 : ∀ a, O2 a → ¬ OwnI own ρ σ a) (h3 : ∀ a, Own ρ3 σ2 a → O3 a) :
    Rp K mg F3 H3 σ (unwipe ρ ρ3 own) ∧ ∀ a, Own (unwipe ρ ρ3 own) σ a → OwnI own ρ σ a ∨ Own ρ3 σ2 a := by
  have l3 : ρ3.length = ρ.length := by rw [rp3.len, rp.len, hl]
  have look : ∀ {i p}, lookS (unwipe ρ ρ3 own) i = some p → (i ∈ own ∧ lookS ρ i = some p) ∨ (i ∉ own ∧ lookS ρ3 i = some p) := fun {i p} e => by
    have hi : i < ρ3.length := by
      have := lookS_lt e
      rw [unwipe_len] at this
      exact this
    rw [lookS_unwipe hi] at e
    by_cases m : i ∈ own
    · rw [if_pos m] at e; exact .inl ⟨m, e⟩
    · rw [if_neg m] at e; exact .inr ⟨m, e⟩
  have clash : ∀ {a}, OwnI own ρ σ a → ¬ Own ρ3 σ2 a := fun {a} h q => by
    obtain ⟨⟨o, ho⟩, _⟩ := rp.own_there (OwnI.toOwn h)
    exact (st.no a (h3 a q)).elim (fun z => h2 a z h) fun z => by rw [ho] at z; cases z
  refine ⟨⟨rp3.sub, by rw [unwipe_len, l3]; exact rp.len, fun i v o e => ?_, fun i j v w a e1 m1 e2 m2 s1 s2 => ?_⟩, fun a ⟨i, v, e, m, s⟩ => ?_⟩
  · rcases look e with ⟨hi, e⟩ | ⟨hi, e⟩
    · obtain ⟨x, hx, sl⟩ := rp.slot i v o e
      refine ⟨x, hx, ?_⟩
      unfold SlotR at sl ⊢
      split
      · rename_i hc
        rw [if_pos hc] at sl
        rw [Bool.and_eq_true] at hc
        have ho : o = true := hc.1
        subst ho
        have hn : ∀ a, x = .ref a → ¬ O2 a := fun a ea z => h2 a z ⟨i, v, hi, e, hc.2, by rw [hx, ea]⟩
        refine ⟨st.keepR1 hn sl.1, fun a ea => ?_⟩
        obtain ⟨b, ob, eb, hb⟩ := sl.1.ref hc.2
        rw [ea] at eb; cases eb
        exact st.stillFree hb (sl.2 a ea) (hn a ea)
      · rename_i hc
        rw [if_neg hc] at sl
        exact sl.mono st.ff
    · obtain ⟨x, hx, sl⟩ := rp3.slot i v o e
      exact ⟨x, by rw [← ag i hi]; exact hx, sl⟩
  · rcases look e1 with ⟨hi, e1⟩ | ⟨hi, e1⟩ <;> rcases look e2 with ⟨hj, e2⟩ | ⟨hj, e2⟩
    · exact rp.inj i j v w a e1 m1 e2 m2 s1 s2
    · exact absurd ⟨j, w, e2, m2, by rw [ag j hj]; exact s2⟩ (clash ⟨i, v, hi, e1, m1, s1⟩)
    · exact absurd ⟨i, v, e1, m1, by rw [ag i hi]; exact s1⟩ (clash ⟨j, w, hj, e2, m2, s2⟩)
    · exact rp3.inj i j v w a e1 m1 e2 m2 (by rw [ag i hi]; exact s1) (by rw [ag j hj]; exact s2)
  · rcases look e with ⟨hi, e⟩ | ⟨hi, e⟩
    · exact .inl ⟨i, v, hi, e, m, s⟩
    · exact .inr ⟨i, v, e, m, by rw [ag i hi]; exact s⟩

/-! ### the list that is being made -/
def OD (D : Addr) (ρ : Env) (σ : L2.St) (a : Addr) : Prop := Own ρ σ a ∨ a = D
theorem Step.dropD (st : Step F H (OD D ρ σ) F1 H1 (OD D ρ1 σ)) (n : H D = none) : Step F H (Own ρ σ) F1 H1 (Own ρ1 σ) := by
  have ne : ∀ {b o}, H b = some o → b ≠ D := fun {b o} e z => by rw [z, n] at e; cases e
  refine ⟨st.ff, fun b o e q => st.kp b o e fun z => z.elim q (ne e), fun b e => ?_, fun b e => ?_, st.al⟩
  · rcases st.nf b e with z | z | z
    · exact .inl z
    · rcases z with z | z
      · exact .inr (.inl z)
      · exact .inr (.inr (by rw [z]; exact n))
    · exact .inr (.inr z)
  · rcases st.no b (.inl e) with z | z
    · rcases z with z | z
      · exact .inl z
      · exact .inr (by rw [z]; exact n)
    · exact .inr z
structure LD (K : PySem.W.Frag) (mg : Str → Option Value) (D : Addr) (F H : Hp) (σ : L2.St) (ρ : Env) (acc : List Val) : Prop where
  rp : Rp K mg F H σ ρ
  at_ : ∃ Vs, H D = some (.lst Vs) ∧ Vs.length ≤ sizeLine ∧ RVs K mg F acc Vs
  nf : F D = none
  no : ¬ Own ρ σ D
/-- the block's own steps leave it -/
theorem LD.block {acc : List Val} (L : LD K mg D F H σ ρ acc) (rp3 : Rp K mg F3 H3 σ2 ρ3) (st : Step F H O2 F3 H3 (Own ρ3 σ2)) (h2 : ¬ O2 D) : LD K mg D F3 H3 σ2 ρ3 acc := by
  obtain ⟨Vs, h1, l, r⟩ := L.at_
  exact ⟨rp3, ⟨Vs, st.kp D _ h1 h2, l, r.mono st.ff⟩, st.stillFree h1 L.nf h2, st.stillNot h1 h2⟩
theorem Rp.poke (rp : Rp K mg F H σ ρ) {o : HO} (hf : F D = none) (hn : ¬ Own ρ σ D) : Rp K mg F (upd H D o) σ ρ := by
  refine ⟨fun b u e => by rw [upd_ne (ne_of_none e hf)]; exact rp.sub b u e, rp.len, fun i v w e => ?_, rp.inj⟩
  obtain ⟨x, hx, sl⟩ := rp.slot i v w e
  refine ⟨x, hx, ?_⟩
  unfold SlotR at sl ⊢
  split
  · rename_i h
    rw [if_pos h] at sl
    rw [Bool.and_eq_true] at h
    refine ⟨sl.1.keep (Same.refl _) fun b u eb hb => ?_, sl.2⟩
    have hw : w = true := h.1
    subst hw
    have : b ≠ D := fun z => hn ⟨i, v, e, h.2, by rw [hx, eb, z]⟩
    rw [upd_ne this]
    exact hb
  · rename_i h
    rw [if_neg h] at sl
    exact sl
theorem Step.poke {o : HO} (hD : O D) : Step F H O F (upd H D o) O := by
  refine ⟨Same.refl _, fun b u e n => by rw [upd_ne (fun z => n (by rw [z]; exact hD))]; exact e, fun b e => .inl e, fun b e => .inl e, fun b q => ?_⟩
  by_cases hb : b = D
  · rw [hb, upd_same]; exact fun z => by cases z
  · rw [upd_ne hb]; exact q
theorem LD.push {acc : List Val} {v : Val} {V : V} (L : LD K mg D F H σ ρ acc) (rv : RV K mg F v V) (hl : acc.length < big) : ∃ Vs, H D = some (.lst Vs) ∧ Vs.length < sizeLine ∧ LD K mg D F (upd H D (.lst (Vs ++ [V]))) σ ρ (acc ++ [v]) := by
  obtain ⟨Vs, h1, l, r⟩ := L.at_
  rw [big_eq, r.length] at hl
  refine ⟨Vs, h1, hl, L.rp.poke L.nf L.no, ⟨Vs ++ [V], upd_same, ?_, r.append (.cons rv .nil)⟩, L.nf, L.no⟩
  rw [List.length_append, List.length_singleton]
  omega
end

/-- no exception is wanted in a block -/
def Wn : WX := fun _ _ _ _ => False
def rdTs (K : PySem.W.Frag) (mg : Str → Option Value) (C : Ctx) (cs : List Ex) : TT := fun σ H Q => ∃ F ρ, Rp K mg F H σ ρ ∧ PostT K mg F H σ ρ Wn Q (evTs C cs ρ)
def STs (X : Cx) (C : Ctx) (es : List Expr) (cs : List Ex) : Prop := PTs X es (rdTs X.K X.mg C cs)
theorem pts_imp {X : Cx} {es : List Expr} {t t' : TT} (h : PTs X es t) (i : ∀ σ H Q, t' σ H Q → t σ H Q) : PTs X es t' := ⟨fun pins s σ H Q I q => h.run pins s σ H Q I (i σ H Q q)⟩
theorem evTs_one {C : Ctx} {c : Ex} {ρ : Env} : evTs C [c] ρ = evT C c ρ := by
  show ((evE C c ρ).bind tru).bind (fun k ρ => if k = true then .ok true ρ else .ok false ρ) = (evE C c ρ).bind tru
  cases (evE C c ρ).bind tru with
  | ok k ρ1 => cases k <;> rfl
  | exc x ρ1 => rfl
  | stuck => rfl
section
variable {X : Cx} {C : Ctx} {e : Expr} {c : Ex}
theorem sts_nil : STs X C [] [] := pts_imp pts_nil fun σ H Q ⟨F, ρ, rp, h⟩ => h.now rp
theorem sts_one (h : ST X C Wn e c) : STs X C [e] [c] := pts_imp (pts_one h) fun σ H Q ⟨F, ρ, rp, h⟩ => ⟨F, ρ, rp, by rw [← evTs_one]; exact h⟩
end

mutual
theorem asgT_len : ∀ (t : Tg) (v : Val) (o : Bool) (ρ ρ' : Env), asgT t v o ρ = some ρ' → ρ'.length = ρ.length
  | .nm i, v, o, ρ, ρ', e => by
    have e : (if i < ρ.length then some (ρ.set i (some (v, o))) else none) = some ρ' := e
    split at e
    · cases e
      rw [List.length_set]
    · cases e
  | .tp ts, v, o, ρ, ρ', e => by
    cases v <;> first | exact nomatch (show (none : Option Env) = some _ from e) | skip
    exact asgTs_len' ts _ ρ ρ' e
theorem asgTs_len' : ∀ (ts : List Tg) (vs : List Val) (ρ ρ' : Env), asgTs ts vs ρ = some ρ' → ρ'.length = ρ.length
  | [], [], ρ, ρ', e => by
    have e : some ρ = some ρ' := e
    cases e; rfl
  | [], _ :: _, _, _, e => nomatch (show (none : Option Env) = some _ from e)
  | _ :: _, [], _, _, e => nomatch (show (none : Option Env) = some _ from e)
  | t :: ts, v :: vs, ρ, ρ', e => by
    have e : (match asgT t v false ρ with
      | some ρ' => asgTs ts vs ρ'
      | none => none) = some ρ' := e
    cases e1 : asgT t v false ρ with
    | none => rw [e1] at e; cases e
    | some ρ1 =>
      rw [e1] at e
      rw [asgTs_len' ts vs ρ1 ρ' e, asgT_len t v false ρ ρ1 e1]
end
/-- outcomes of which only the good ones matter -/
structure Good (Pk : Out (List Val) → Prop) : Prop where
  st : ¬ Pk .stuck
  ex : ∀ x ρ, ¬ Pk (.exc x ρ)
theorem Good.bind {Pk : Out (List Val) → Prop} (g : Good Pk) {α : Type} {o : Out α} {f : α → Env → Out (List Val)} (h : Pk (o.bind f)) : ∃ a ρ, o = .ok a ρ ∧ Pk (f a ρ) := by
  cases o with
  | ok a ρ => exact ⟨a, ρ, rfl, h⟩
  | exc x ρ => exact (g.ex x ρ h).elim
  | stuck => exact (g.st h).elim
section
variable {K : PySem.W.Frag} {mg : Str → Option Value} {C : Ctx} {F H : Hp} {σ : L2.St} {ρ1 : Env} {own : List Nat} {D : Addr} {acc : List Val} {v : Val} {x : V} {tg : Tg}
theorem ownI_not {F H : Hp} {σ : L2.St} {ρ1 : Env} (rp : Rp K mg F H σ ρ1) {a : Addr} (h : Own (wipeE ρ1 own) (wipe σ own) a) : ¬ OwnI own ρ1 σ a := (own_wipe h).not rp
/-- a target's store within a block -/
theorem tg_in {R : L2.St → Hp → Prop} (rp : Rp K mg F H σ ρ1) (rv : RV K mg F v x) (hown : ∀ i, tg.has i → i ∈ own) {ρ2 : Env} (e2 : asgT tg v false (wipeE ρ1 own) = some ρ2)
    (k : ∀ σ2, Rp K mg F H σ2 ρ2 → σ2.length = σ.length → (∀ a, Own ρ2 σ2 a → OwnX own ρ1 σ a) → (∀ i, i ∉ own → σ2[i]? = σ[i]?) → wipe σ2 own = wipe σ own → R σ2 H) : rdG K mg tg x (wipe σ own) H R := by
  refine ⟨F, wipeE ρ1 own, v, ρ2, rp.wipe, rv, e2, fun σ2 rp2 ow ag => ?_⟩
  have ag' : ∀ i, i ∉ own → σ2[i]? = σ[i]? := fun i hi => by rw [ag i fun z => hi (hown i z), wipe_out hi]
  have hl : σ2.length = σ.length := by
    have lr : ρ2.length = ρ1.length := by rw [asgT_len _ _ _ _ _ e2, wipeE_len]
    rw [rp2.len, rp.len] at lr
    exact lr
  exact k σ2 rp2 hl (fun a h => own_wipe (ow a h)) ag' (wipe_eq hl ag')
end
end Rv

/-! Rv, part 12: list comprehensions: the walk. -/
namespace Rv
open PySem PySem.Spec PyProof.Rows L2

section
variable {K : PySem.W.Frag} {mg : Str → Option Value} {C : Ctx} {W : WX} {F F1 F3 H H1 H3 : Hp} {σ σ2 : L2.St} {ρ ρ1 ρ3 : Env} {own : List Nat} {O O' O2 : Addr → Prop} {D : Addr} {acc : List Val} {v : Val} {x : V} {tg : Tg} {Pk : Out (List Val) → Prop}
/-- the block's steps, seen from the names around it -/
theorem block_step {acc' : List Val} (L : LD K mg D F H σ ρ acc) (hl : σ2.length = σ.length) (ag : ∀ i, i ∉ own → σ2[i]? = σ[i]?) (h2 : ∀ a, O2 a → OwnX own ρ σ a ∨ a = D) (L3 : LD K mg D F3 H3 σ2 ρ3 acc') (st : Step F H O2 F3 H3 (OD D ρ3 σ2)) :
    LD K mg D F3 H3 σ (unwipe ρ ρ3 own) acc' ∧ Step F H (OD D ρ σ) F3 H3 (OD D (unwipe ρ ρ3 own) σ) := by
  obtain ⟨Vs0, hD0, _, _⟩ := L.at_
  have nD : ¬ OwnI own ρ σ D := fun z => L.no z.toOwn
  have h2' : ∀ a, O2 a → ¬ OwnI own ρ σ a := fun a q => (h2 a q).elim (fun z => z.not L.rp) fun z => z ▸ nD
  obtain ⟨r1, r2⟩ := unblock (own := own) L.rp L3.rp hl ag st h2' fun a h => .inl h
  obtain ⟨Vs, e1, e2, e3⟩ := L3.at_
  have no : ¬ Own (unwipe ρ ρ3 own) σ D := fun z => (r2 D z).elim nD L3.no
  refine ⟨⟨r1, ⟨Vs, e1, e2, e3⟩, L3.nf, no⟩, ?_⟩
  have w : ∀ a, O2 a → OD D ρ σ a := fun a q => (h2 a q).imp (fun z => z.toOwn) id
  have stw := st.weak w
  refine ⟨stw.ff, stw.kp, stw.nf, fun a q => ?_, stw.al⟩
  rcases q with q | q
  · rcases r2 a q with z | z
    · exact .inl (.inl z.toOwn)
    · exact stw.no a (.inl z)
  · exact .inl (.inr q)
/-- a step of an expression is one with the list that is being made -/
theorem Step.withD {ρ' : Env} (st : Step F H (Own ρ σ) F1 H1 (Own ρ' σ)) : Step F H (OD D ρ σ) F1 H1 (OD D ρ' σ) := by
  have stw := st.weak (O' := OD D ρ σ) fun a q => .inl q
  exact ⟨stw.ff, stw.kp, stw.nf, fun a q => q.elim (fun z => stw.no a z) fun z => .inl (.inr z), stw.al⟩
/-- a target's store, then tests, then what follows -/
theorem LD.step {acc : List Val} (L : LD K mg D F H σ ρ acc) (rp3 : Rp K mg F3 H3 σ ρ3) (st : Step F H (Own ρ σ) F3 H3 (Own ρ3 σ)) : LD K mg D F3 H3 σ ρ3 acc := L.block rp3 st L.no

/-- the end of a turn: the item is worked out and put to the list -/
def eltOut (C : Ctx) (elt : Ex) (acc : List Val) (ρ0 : Env) (own : List Nat) (ρ : Env) : Out (List Val) := (evE C elt ρ).bind fun r ρ4 => (fzR r ρ4).bind fun v ρ5 => push acc v (unwipe ρ0 ρ5 own)
theorem elt_end {Q : Hp → Prop} {elt : Ex} {ρ2 : Env} (g : Good Pk) (L : LD K mg D F H σ ρ acc) (hl : σ2.length = σ.length) (ag : ∀ i, i ∉ own → σ2[i]? = σ[i]?) (h2 : ∀ a, O2 a → OwnX own ρ σ a ∨ a = D)
    (L2 : LD K mg D F1 H1 σ2 ρ2 acc) (st : Step F H O2 F1 H1 (OD D ρ2 σ2)) (h : Pk (eltOut C elt acc ρ own ρ2))
    (nx : ∀ F' H' ρ' acc', LD K mg D F' H' σ ρ' acc' → Step F H (OD D ρ σ) F' H' (OD D ρ' σ) → Pk (.ok acc' ρ') → Q H') :
    rdE K mg C Wn elt σ2 H1 fun y H4 => ∃ acc, H4 D = some (.lst acc) ∧ acc.length < sizeLine ∧ Q (upd H4 D (.lst (acc ++ [y]))) := by
  refine ⟨F1, ρ2, L2.rp, ?_⟩
  obtain ⟨r, ρ4, e4, h4⟩ := g.bind (show Pk ((evE C elt ρ2).bind fun r ρ4 => (fzR r ρ4).bind fun v ρ5 => push acc v (unwipe ρ ρ5 own)) from h)
  rw [e4]
  intro F4 H4 rp4 st4 V rr fr
  obtain ⟨v, ρ5, e5, h5⟩ := g.bind h4
  obtain ⟨F5, rp5, st5, rv⟩ := fz_core st4 rp4 rr fr e5
  have L5 := L2.step rp5 st5
  have h5 : Pk (if acc.length < big then .ok (acc ++ [v]) (unwipe ρ ρ5 own) else .stuck) := h5
  split at h5
  · rename_i hlt
    obtain ⟨Vs, d1, d2, L6⟩ := L5.push rv hlt
    refine ⟨Vs, d1, d2, ?_⟩
    have st6 : Step F H O2 F5 (upd H4 D (.lst (Vs ++ [V]))) (OD D ρ5 σ2) := (st.trans st5.withD).trans (Step.poke (.inr rfl))
    obtain ⟨L7, st7⟩ := block_step L hl ag h2 L6 st6
    exact nx _ _ _ _ L7 st7 h5
  · exact (g.st h5).elim
/-- a turn's tests -/
theorem tests_in {R : Bool → Hp → Prop} {ifs : List Ex} {ρ2 : Env} {f : Bool → Env → Out (List Val)} (g : Good Pk) (rp2 : Rp K mg F1 H1 σ2 ρ2) (h : Pk ((evTs C ifs ρ2).bind f))
    (k : ∀ b ρ3 F3 H3, Rp K mg F3 H3 σ2 ρ3 → Step F1 H1 (Own ρ2 σ2) F3 H3 (Own ρ3 σ2) → Pk (f b ρ3) → R b H3) : rdTs K mg C ifs σ2 H1 R := by
  obtain ⟨b, ρ3, e3, h3⟩ := g.bind h
  refine ⟨F1, ρ2, rp2, ?_⟩
  rw [e3]
  exact fun F3 H3 rp3 st3 => k b ρ3 F3 H3 rp3 st3 h3
/-- what is walked within a block -/
theorem iter_in {R : It → Hp → Prop} {it : Ex} {ρ2 : Env} {f : List Val → Env → Out (List Val)} (g : Good Pk) (rp2 : Rp K mg F1 H1 σ2 ρ2) (h : Pk ((evI C it ρ2).bind f))
    (k : ∀ xs ρ3 F3 H3 J, Rp K mg F3 H3 σ2 ρ3 → Step F1 H1 (Own ρ2 σ2) F3 H3 (Own ρ3 σ2) → Walks K mg F3 xs J → Pk (f xs ρ3) → R J H3) : rdI K mg C Wn it σ2 H1 R := by
  obtain ⟨xs, ρ3, e3, h3⟩ := g.bind h
  refine ⟨F1, ρ2, rp2, ?_⟩
  rw [e3]
  exact fun F3 H3 rp3 st3 J wk => k xs ρ3 F3 H3 J rp3 st3 wk h3
/-- an item comes, the list that is being made stays -/
theorem LD.item {H' : Hp} (L : LD K mg D F H σ ρ acc) (y : (H' = H ∧ RV K mg F v x) ∨ ∃ p o, H p = none ∧ H' = upd H p o ∧ RV K mg (upd F p o) v x) :
    ∃ F', LD K mg D F' H' σ ρ acc ∧ Step F H (OD D ρ σ) F' H' (OD D ρ σ) ∧ RV K mg F' v x := by
  obtain ⟨F', rp', st, rv, ke⟩ := item_in L.rp y
  obtain ⟨Vs, h1, l, r⟩ := L.at_
  obtain ⟨k1, k2⟩ := ke D (by rw [h1]; exact fun z => by cases z)
  exact ⟨F', ⟨rp', ⟨Vs, by rw [k1]; exact h1, l, r.mono st.ff⟩, by rw [k2]; exact L.nf, L.no⟩, st.withD, rv⟩

/-- a whole turn with one clause -/
def turn1 (C : Ctx) (tg : Tg) (ifs : List Ex) (elt : Ex) (own : List Nat) (acc : List Val) (x : Val) (ρ1 : Env) : Out (List Val) := match asgT tg x false (wipeE ρ1 own) with
  | some ρ2 => (evTs C ifs ρ2).bind fun k ρ3 => if k = true then eltOut C elt acc ρ1 own ρ3 else .ok acc (unwipe ρ1 ρ3 own)
  | none => .stuck
theorem turn_one {ifs : List Ex} {elt : Ex} {Nx : Hp → Prop} (g : Good Pk) (L : LD K mg D F H σ ρ acc) (rv : RV K mg F v x) (hown : ∀ i, tg.has i → i ∈ own) (h : Pk (turn1 C tg ifs elt own acc v ρ))
    (nx : ∀ F' H' ρ' acc', LD K mg D F' H' σ ρ' acc' → Step F H (OD D ρ σ) F' H' (OD D ρ' σ) → Pk (.ok acc' ρ') → Nx H') :
    rdG K mg tg x (wipe σ own) H fun σ2 H2 => wipe σ2 own = wipe σ own ∧ rdTs K mg C ifs σ2 H2 fun b H3 =>
      if b = true then rdE K mg C Wn elt σ2 H3 fun y H4 => ∃ acc, H4 D = some (.lst acc) ∧ acc.length < sizeLine ∧ Nx (upd H4 D (.lst (acc ++ [y]))) else Nx H3 := by
  unfold turn1 at h
  cases e2 : asgT tg v false (wipeE ρ own) with
  | none => rw [e2] at h; exact (g.st h).elim
  | some ρ2 =>
    rw [e2] at h
    refine tg_in L.rp rv hown e2 fun σ2 rp2 hl ow ag we => ⟨we, ?_⟩
    refine tests_in g rp2 h fun b ρ3 F3 H3 rp3 st3 h3 => ?_
    have L3 : LD K mg D F3 H3 σ2 ρ3 acc := L.block rp3 st3 fun z => L.no (ow D z).toOwn
    have h2 : ∀ a, Own ρ2 σ2 a → OwnX own ρ σ a ∨ a = D := fun a z => .inl (ow a z)
    have st3' : Step F H (OD D ρ2 σ2) F3 H3 (OD D ρ3 σ2) := st3.withD
    have h2' : ∀ a, OD D ρ2 σ2 a → OwnX own ρ σ a ∨ a = D := fun a z => z.elim (h2 a) .inr
    cases b with
    | true => exact iteT (elt_end g L hl ag h2' L3 st3' h3 nx)
    | false =>
      obtain ⟨L4, st4⟩ := block_step L hl ag h2' L3 st3'
      exact iteF (nx _ _ _ _ L4 st4 h3)
/-- a whole turn with two clauses -/
def turn2 (C : Ctx) (tg : Tg) (ifs : List Ex) (tg2 : Tg) (it2 : Ex) (ifs2 : List Ex) (elt : Ex) (own own2 : List Nat) (acc : List Val) (x : Val) (ρ1 : Env) : Out (List Val) := match asgT tg x false (wipeE ρ1 own) with
  | some ρ2 => (evTs C ifs ρ2).bind fun k ρ3 => if k = true then (evI C it2 ρ3).bind fun ys ρ4 => (compLoop (turn1 C tg2 ifs2 elt own2) ys acc ρ4).bind fun acc ρ9 => .ok acc (unwipe ρ1 ρ9 own) else .ok acc (unwipe ρ1 ρ3 own)
  | none => .stuck
theorem turn_two {ifs ifs2 : List Ex} {elt it2 : Ex} {tg2 : Tg} {own2 : List Nat} {Nx : Hp → Prop} (g : Good Pk) (L : LD K mg D F H σ ρ acc) (rv : RV K mg F v x) (hown : ∀ i, tg.has i → i ∈ own) (hown2 : ∀ i, tg2.has i → i ∈ own2) (h : Pk (turn2 C tg ifs tg2 it2 ifs2 elt own own2 acc v ρ))
    (nx : ∀ F' H' ρ' acc', LD K mg D F' H' σ ρ' acc' → Step F H (OD D ρ σ) F' H' (OD D ρ' σ) → Pk (.ok acc' ρ') → Nx H') :
    rdG K mg tg x (wipe σ own) H fun σ2 H2 => wipe σ2 own = wipe σ own ∧ rdTs K mg C ifs σ2 H2 fun b H3 =>
      if b = true then rdI K mg C Wn it2 σ2 H3 fun J1 H4 => ∃ W1 : Nat → Nat → Hp → Prop, (∃ m, W1 0 m H4) ∧ ∀ j k H, W1 j k H →
        (J1.stop j H ∧ Nx H) ∨ (J1.go j H ∧ ∃ Nx1 : Hp → Prop, (∀ H', Nx1 H' → ∃ k', k' < k ∧ W1 (j + 1) k' H') ∧ ∀ x H', J1.yld j H x H' → rdG K mg tg2 x (wipe σ2 own2) H' fun σ3 H5 => wipe σ3 own2 = wipe σ2 own2 ∧ rdTs K mg C ifs2 σ3 H5 fun b H6 =>
          if b = true then rdE K mg C Wn elt σ3 H6 fun y H7 => ∃ acc, H7 D = some (.lst acc) ∧ acc.length < sizeLine ∧ Nx1 (upd H7 D (.lst (acc ++ [y]))) else Nx1 H6)
      else Nx H3 := by
  unfold turn2 at h
  cases e2 : asgT tg v false (wipeE ρ own) with
  | none => rw [e2] at h; exact (g.st h).elim
  | some ρ2 =>
    rw [e2] at h
    refine tg_in L.rp rv hown e2 fun σ2 rp2 hl ow ag we => ⟨we, ?_⟩
    refine tests_in g rp2 h fun b ρ3 F3 H3 rp3 st3 h3 => ?_
    have L3 : LD K mg D F3 H3 σ2 ρ3 acc := L.block rp3 st3 fun z => L.no (ow D z).toOwn
    have st3' : Step F H (OD D ρ2 σ2) F3 H3 (OD D ρ3 σ2) := st3.withD
    have h2' : ∀ a, OD D ρ2 σ2 a → OwnX own ρ σ a ∨ a = D := fun a z => z.elim (fun z => .inl (ow a z)) .inr
    cases b with
    | false =>
      obtain ⟨L4, st4⟩ := block_step L hl ag h2' L3 st3'
      exact iteF (nx _ _ _ _ L4 st4 h3)
    | true =>
      refine iteT (iter_in g rp3 h3 fun ys ρ4 F4 H4 J rp4 st4 wk h4 => ?_)
      have L4 := L3.step rp4 st4
      have s4 := st3'.trans st4.withD
      refine ⟨fun j k H' => k = ys.length - j ∧ j ≤ ys.length ∧ ∃ F' ρ' acc', LD K mg D F' H' σ2 ρ' acc' ∧ Step F H (OD D ρ2 σ2) F' H' (OD D ρ' σ2) ∧ Same F4 F' ∧ Pk ((compLoop (turn1 C tg2 ifs2 elt own2) (ys.drop j) acc' ρ').bind fun acc ρ9 => .ok acc (unwipe ρ ρ9 own)),
        ⟨ys.length, rfl, Nat.zero_le _, F4, ρ4, acc, L4, s4, Same.refl _, h4⟩, ?_⟩
      rintro j k H5 ⟨rfl, hj, F5, ρ5, acc5, L5, s5, sm, h5⟩
      obtain ⟨w1, w2⟩ := wk j F5 H5 sm L5.rp.sub
      cases e : ys[j]? with
      | none =>
        have hlen : ys.length ≤ j := List.getElem?_eq_none_iff.mp e
        rw [List.drop_eq_nil_of_le hlen] at h5
        obtain ⟨L6, st6⟩ := block_step L hl ag h2' L5 s5
        exact .inl ⟨w2 (Nat.le_antisymm hj hlen), nx _ _ _ _ L6 st6 h5⟩
      | some v2 =>
        obtain ⟨hlt, ev⟩ := List.getElem?_eq_some_iff.mp e
        have ed : ys.drop j = v2 :: ys.drop (j + 1) := by rw [List.drop_eq_getElem_cons hlt, ev]
        rw [ed] at h5
        obtain ⟨g1, g2⟩ := w1 v2 e
        refine .inr ⟨g1, fun H' => ∃ F' ρ' acc', LD K mg D F' H' σ2 ρ' acc' ∧ Step F H (OD D ρ2 σ2) F' H' (OD D ρ' σ2) ∧ Same F4 F' ∧ Pk ((compLoop (turn1 C tg2 ifs2 elt own2) (ys.drop (j + 1)) acc' ρ').bind fun acc ρ9 => .ok acc (unwipe ρ ρ9 own)),
          fun H' q => ⟨ys.length - (j + 1), by omega, rfl, hlt, q⟩, fun x2 H' y => ?_⟩
        obtain ⟨F6, L6, st6, rv6⟩ := L5.item (g2 x2 H' y)
        refine turn_one (Pk := fun o => Pk ((o.bind fun acc ρ => compLoop (turn1 C tg2 ifs2 elt own2) (ys.drop (j + 1)) acc ρ).bind fun acc ρ9 => .ok acc (unwipe ρ ρ9 own))) ⟨g.st, fun x ρ => g.ex x ρ⟩ L6 rv6 hown2 h5 fun F7 H7 ρ7 acc7 L7 st7 h7 => ?_
        exact ⟨F7, ρ7, acc7, L7, (s5.trans st6).trans st7, sm.trans (st6.ff.trans st7.ff), h7⟩
end

section
variable {X : Cx} {C : Ctx} {W : WX} {elt tg iter tg1 iter1 : Expr} {celt cit cit1 : Ex} {t t1 : Tg} {ifs ifs1 : List Expr} {cifs cifs1 : List Ex} {scope : Scope} {own : List (Str × Nat)} {vs1 : List Nat} {pos : Pos}
/-- in a comprehension's block -/
def Bl (X : Cx) (scope : Scope) (P : Cx → Prop) : Prop := ∀ (s : Shared) (H : Hp) (c : Addr) (cl : List (Str × Addr)) (fp : List Addr), P (X.blk s H scope (compEnvC scope cl c X.env) fp)
end
section
variable {K : PySem.W.Frag} {mg : Str → Option Value} {C : Ctx} {W : WX} {F H : Hp} {σ : L2.St} {ρ : Env} {cit : Ex}
/-- the turns of a comprehension -/
theorem comp_loop {Bd : Addr → (Hp → Prop) → V → Hp → Prop} {Q : VK} {turn : List Val → Val → Env → Out (List Val)} {Pq : Hp → Hp → Env → Out (List Val) → Prop} (hst : ∀ F H ρ, ¬ Pq F H ρ .stuck)
    (hstep : ∀ (Pk : Out (List Val) → Prop) D F H ρ acc v x (Nx : Hp → Prop), Good Pk → LD K mg D F H σ ρ acc → RV K mg F v x → Pk (turn acc v ρ) → (∀ F' H' ρ' acc', LD K mg D F' H' σ ρ' acc' → Step F H (OD D ρ σ) F' H' (OD D ρ' σ) → Pk (.ok acc' ρ') → Nx H') → Bd D Nx x H)
    (hfin : ∀ F0 H0 ρ0 D F' H' ρ' acc, H0 D = none → LD K mg D F' H' σ ρ' acc → Step F0 H0 (Own ρ0 σ) F' H' (Own ρ' σ) → Pq F0 H0 ρ0 (.ok acc ρ') → Q (.ref D) H')
    (rp : Rp K mg F H σ ρ) (h : Post K mg F H σ ρ W (fun xs ρ0 F0 H0 => Pq F0 H0 ρ0 (compLoop turn xs [] ρ0).shut) (evI C cit ρ)) :
    rdI K mg C W cit σ H fun J H1 => ∀ D, H1 D = none → ∃ W' : Nat → Nat → Hp → Prop, (∃ m, W' 0 m (upd H1 D (.lst []))) ∧ ∀ i m H, W' i m H → (J.stop i H ∧ Q (.ref D) H) ∨ (J.go i H ∧ ∃ Nx : Hp → Prop, (∀ H', Nx H' → ∃ m', m' < m ∧ W' (i + 1) m' H') ∧ ∀ x H', J.yld i H x H' → Bd D Nx x H') := by
  refine ⟨F, ρ, rp, h.imp fun xs ρ0 F0 H0 rp0 st0 h0 J wk D hD => ?_⟩
  refine ⟨fun i m Hc => m = xs.length - i ∧ i ≤ xs.length ∧ ∃ F' ρ' acc, LD K mg D F' Hc σ ρ' acc ∧ Step F0 H0 (OD D ρ0 σ) F' Hc (OD D ρ' σ) ∧ Pq F0 H0 ρ0 (compLoop turn (xs.drop i) acc ρ').shut, ⟨xs.length, rfl, Nat.zero_le _, F0, ρ0, [], ?_, ?_, h0⟩, ?_⟩
  · refine ⟨rp0.laid hD, ⟨[], upd_same, Nat.zero_le _, .nil⟩, rp0.sub.free hD, rp0.own_free hD⟩
  · exact Step.poke (.inr rfl)
  rintro i m Hc ⟨rfl, hi, F1, ρ1, acc, L1, s1, h1⟩
  obtain ⟨w1, w2⟩ := wk i F1 Hc s1.ff L1.rp.sub
  cases e : xs[i]? with
  | none =>
    have hlen : xs.length ≤ i := List.getElem?_eq_none_iff.mp e
    rw [List.drop_eq_nil_of_le hlen] at h1
    exact .inl ⟨w2 (Nat.le_antisymm hi hlen), hfin F0 H0 ρ0 D F1 Hc ρ1 acc hD L1 (s1.dropD hD) h1⟩
  | some v =>
    obtain ⟨hlt, ev⟩ := List.getElem?_eq_some_iff.mp e
    have ed : xs.drop i = v :: xs.drop (i + 1) := by rw [List.drop_eq_getElem_cons hlt, ev]
    rw [ed] at h1
    obtain ⟨g1, g2⟩ := w1 v e
    refine .inr ⟨g1, fun Hc => ∃ F' ρ' acc, LD K mg D F' Hc σ ρ' acc ∧ Step F0 H0 (OD D ρ0 σ) F' Hc (OD D ρ' σ) ∧ Pq F0 H0 ρ0 (compLoop turn (xs.drop (i + 1)) acc ρ').shut, fun H' q => ⟨xs.length - (i + 1), by omega, rfl, hlt, q⟩, fun x H' y => ?_⟩
    obtain ⟨F2, L2, st2, rv⟩ := L1.item (g2 x H' y)
    refine hstep (fun o => Pq F0 H0 ρ0 (o.bind fun acc ρ => compLoop turn (xs.drop (i + 1)) acc ρ).shut) D F2 H' ρ1 acc v x _ ⟨hst F0 H0 ρ0, fun x ρ => hst F0 H0 ρ0⟩ L2 rv h1 fun F3 H3 ρ3 acc3 L3 st3 h3 => ?_
    exact ⟨F3, ρ3, acc3, L3, (s1.trans st2).trans st3, h3⟩
/-- the new list as a result -/
theorem LD.rr {D : Addr} {acc : List Val} (L : LD K mg D F H σ ρ acc) : RR K mg F H σ ρ ⟨.lst acc, .fr⟩ (.ref D) := by
  obtain ⟨Vs, h1, l, r⟩ := L.at_
  exact ⟨⟨D, Vs, rfl, h1, l, r⟩, fun a ea => by cases ea; exact ⟨L.nf, L.no, _, h1⟩⟩
end
section
variable {X : Cx} {C : Ctx} {W : WX} {elt tg iter tg1 iter1 : Expr} {celt cit cit1 : Ex} {t t1 : Tg} {ifs ifs1 : List Expr} {cifs cifs1 : List Ex} {scope : Scope} {own : List (Str × Nat)} {vs1 : List Nat} {pos : Pos}
theorem evE_comp {ρ : Env} {own : List Nat} : evE C (.comp celt t cit cifs own) ρ = (evI C cit ρ).bind fun xs ρ => (compLoop (turn1 C t cifs celt own) xs [] ρ).shut.bind fun vs ρ' => .ok ⟨.lst vs, .fr⟩ ρ' := rfl
theorem evE_comp2 {ρ : Env} {own own2 : List Nat} : evE C (.comp2 celt t cit cifs t1 cit1 cifs1 own own2) ρ = (evI C cit ρ).bind fun xs ρ => (compLoop (turn2 C t cifs t1 cit1 cifs1 celt own own2) xs [] ρ).shut.bind fun vs ρ' => .ok ⟨.lst vs, .fr⟩ ρ' := rfl
/-- where a list comprehension is an expression -/
theorem comp_post {Bd : Addr → (Hp → Prop) → V → Hp → Prop} {Q : VK} {turn : List Val → Val → Env → Out (List Val)} {K : PySem.W.Frag} {mg : Str → Option Value} {F H : Hp} {σ : L2.St} {ρ : Env}
    (hstep : ∀ (Pk : Out (List Val) → Prop) D F H ρ acc v x (Nx : Hp → Prop), Good Pk → LD K mg D F H σ ρ acc → RV K mg F v x → Pk (turn acc v ρ) → (∀ F' H' ρ' acc', LD K mg D F' H' σ ρ' acc' → Step F H (OD D ρ σ) F' H' (OD D ρ' σ) → Pk (.ok acc' ρ') → Nx H') → Bd D Nx x H)
    (rp : Rp K mg F H σ ρ) (h : PostE K mg H F H σ ρ W Q ((evI C cit ρ).bind fun xs ρ => (compLoop turn xs [] ρ).shut.bind fun vs ρ' => .ok ⟨.lst vs, .fr⟩ ρ')) :
    rdI K mg C W cit σ H fun J H1 => ∀ D, H1 D = none → ∃ W' : Nat → Nat → Hp → Prop, (∃ m, W' 0 m (upd H1 D (.lst []))) ∧ ∀ i m H, W' i m H → (J.stop i H ∧ Q (.ref D) H) ∨ (J.go i H ∧ ∃ Nx : Hp → Prop, (∀ H', Nx H' → ∃ m', m' < m ∧ W' (i + 1) m' H') ∧ ∀ x H', J.yld i H x H' → Bd D Nx x H') :=
  comp_loop (Pq := fun F0 H0 ρ0 o => (∀ a, H a ≠ none → H0 a ≠ none) ∧ PostE K mg H F0 H0 σ ρ0 W Q (o.bind fun vs ρ' => .ok ⟨.lst vs, .fr⟩ ρ')) (fun _ _ _ z => z.2) hstep
    (fun F0 H0 ρ0 D F' H' ρ' acc hD L st ⟨al, h⟩ => h F' H' L.rp st (.ref D) L.rr fun _ a ea => by cases ea; exact Classical.byContradiction fun q => al _ q hD)
    rp (h.of_bind.imp fun xs ρ0 F0 H0 rp0 st0 h0 => ⟨st0.al, h0⟩)
/-- where a name takes it -/
theorem comp_set {Bd : Addr → (Hp → Prop) → V → Hp → Prop} {D : Ends} {U : Nat → Prop} {B : Hp} {q : Nat} {turn : List Val → Val → Env → Out (List Val)} {K : PySem.W.Frag} {mg : Str → Option Value} {F H : Hp} {σ : L2.St} {ρ : Env} (hU : ¬ U q)
    (hstep : ∀ (Pk : Out (List Val) → Prop) D F H ρ acc v x (Nx : Hp → Prop), Good Pk → LD K mg D F H σ ρ acc → RV K mg F v x → Pk (turn acc v ρ) → (∀ F' H' ρ' acc', LD K mg D F' H' σ ρ' acc' → Step F H (OD D ρ σ) F' H' (OD D ρ' σ) → Pk (.ok acc' ρ') → Nx H') → Bd D Nx x H)
    (rp : Rp K mg F H σ ρ) (h : PostS K mg U B F H σ ρ W D (((evI C cit ρ).bind fun xs ρ => (compLoop turn xs [] ρ).shut.bind fun vs ρ' => .ok (⟨.lst vs, .fr⟩ : R) ρ').bind fun r ρ => (keep r ρ).bind fun p ρ => setS ρ q p)) :
    rdI K mg C W cit σ H fun J H1 => ∀ Da, H1 Da = none → ∃ W' : Nat → Nat → Hp → Prop, (∃ m, W' 0 m (upd H1 Da (.lst []))) ∧ ∀ i m H, W' i m H → (J.stop i H ∧ (fun x H1 => gName q x σ H1 D.nx) (.ref Da) H) ∨ (J.go i H ∧ ∃ Nx : Hp → Prop, (∀ H', Nx H' → ∃ m', m' < m ∧ W' (i + 1) m' H') ∧ ∀ x H', J.yld i H x H' → Bd Da Nx x H') := by
  rw [Out.bind_assoc] at h
  simp only [Out.bind_assoc] at h
  exact comp_loop (Q := fun x H1 => gName q x σ H1 D.nx) (Pq := fun F0 H0 ρ0 o => PostS K mg U B F0 H0 σ ρ0 W D (o.bind fun vs ρ' => (Out.ok (⟨.lst vs, .fr⟩ : R) ρ').bind fun r ρ => (keep r ρ).bind fun p ρ => setS ρ q p)) (fun _ _ _ z => z) hstep
    (fun F0 H0 ρ0 D F' H' ρ' acc hD L st h => set_ok hU L.rp st L.rr (fun _ a ea => by cases ea; exact hD) h)
    rp h.of_bind
theorem se_comp (hc : X.calm = true) (hN : X.N.Nodup) (hs : notSet iter = true) (ok : BlkOk X.N X.env.scope scope own) (hown : ∀ i, t.has i → i ∈ own.map (·.2)) (hi : SI X C W tg iter cit) (hg : Bl X scope fun Y => SG Y tg t) (ht : Bl X scope fun Y => STs Y C ifs cifs) (he : Bl X scope fun Y => SE Y C Wn elt celt) :
    SE X C W (.ListComp elt [⟨tg, iter, ifs, 0⟩] scope pos) (.comp celt t cit cifs (own.map (·.2))) :=
  pe_imp (pe_lc (g := rdG X.K X.mg t) (tt := rdTs X.K X.mg C cifs) (te := rdE X.K X.mg C Wn celt) hc hN hi ok hg ht he (folded_no hs)) fun σ H Q ⟨F, ρ, rp, h⟩ =>
    comp_post (fun Pk D F H ρ acc v x Nx g L rv h nx => turn_one g L rv hown h nx) rp h
theorem se_comp2 (hc : X.calm = true) (hN : X.N.Nodup) (hs : notSet iter = true) (hs1 : notSet iter1 = true) (ok : BlkOk X.N X.env.scope scope own) (hv : ∀ i ∈ vs1, i ∈ own.map (·.2)) (hown : ∀ i, t.has i → i ∈ own.map (·.2)) (hown1 : ∀ i, t1.has i → i ∈ vs1) (hi : SI X C W tg iter cit)
    (hg : Bl X scope fun Y => SG Y tg t) (ht : Bl X scope fun Y => STs Y C ifs cifs) (hi1 : Bl X scope fun Y => SI Y C Wn tg1 iter1 cit1) (hg1 : Bl X scope fun Y => SG Y tg1 t1) (ht1 : Bl X scope fun Y => STs Y C ifs1 cifs1) (he : Bl X scope fun Y => SE Y C Wn elt celt) :
    SE X C W (.ListComp elt [⟨tg, iter, ifs, 0⟩, ⟨tg1, iter1, ifs1, 0⟩] scope pos) (.comp2 celt t cit cifs t1 cit1 cifs1 (own.map (·.2)) vs1) :=
  pe_imp (pe_lc2 (g := rdG X.K X.mg t) (tt := rdTs X.K X.mg C cifs) (wi1 := rdI X.K X.mg C Wn cit1) (g1 := rdG X.K X.mg t1) (tt1 := rdTs X.K X.mg C cifs1) (te := rdE X.K X.mg C Wn celt) hc hN hi ok hv hg ht hi1 hg1 ht1 he (folded_no hs) (fun env => folded_no hs1)) fun σ H Q ⟨F, ρ, rp, h⟩ =>
    comp_post (fun Pk D F H ρ acc v x Nx g L rv h nx => turn_two g L rv hown hown1 h nx) rp h
variable {n i : Nat} {U : Nat → Prop} {y : Str} {py spos : Pos}
theorem ss_setComp (hU : ¬ U i) (hy : X.N[i]? = some y) (hyl : X.env.scope.names.lookup y = some .local) (hsw : swapsWith (.ListComp elt [⟨tg, iter, ifs, 0⟩] scope pos) (some (.Name y py)) spos.line X.env = pure true)
    (hc : X.calm = true) (hN : X.N.Nodup) (hs : notSet iter = true) (ok : BlkOk X.N X.env.scope scope own) (hown : ∀ i, t.has i → i ∈ own.map (·.2)) (hi : SI X C W tg iter cit) (hg : Bl X scope fun Y => SG Y tg t) (ht : Bl X scope fun Y => STs Y C ifs cifs) (he : Bl X scope fun Y => SE Y C Wn elt celt) :
    SS X C n U W (.Assign [.Name y py] (.ListComp elt [⟨tg, iter, ifs, 0⟩] scope pos) spos) (.asg (.nm i) (.comp celt t cit cifs (own.map (·.2)))) :=
  ps_imp (ps_setLc (g := rdG X.K X.mg t) (tt := rdTs X.K X.mg C cifs) (te := rdE X.K X.mg C Wn celt) hc hN hy hyl hsw hi ok hg ht he (folded_no hs)) fun D σ H ⟨B, F, ρ, rp, al, h⟩ =>
    comp_set hU (fun Pk D F H ρ acc v x Nx g L rv h nx => turn_one g L rv hown h nx) rp h
theorem ss_setComp2 (hU : ¬ U i) (hy : X.N[i]? = some y) (hyl : X.env.scope.names.lookup y = some .local) (hsw : swapsWith (.ListComp elt [⟨tg, iter, ifs, 0⟩, ⟨tg1, iter1, ifs1, 0⟩] scope pos) (some (.Name y py)) spos.line X.env = pure true)
    (hc : X.calm = true) (hN : X.N.Nodup) (hs : notSet iter = true) (hs1 : notSet iter1 = true) (ok : BlkOk X.N X.env.scope scope own) (hv : ∀ i ∈ vs1, i ∈ own.map (·.2)) (hown : ∀ i, t.has i → i ∈ own.map (·.2)) (hown1 : ∀ i, t1.has i → i ∈ vs1) (hi : SI X C W tg iter cit)
    (hg : Bl X scope fun Y => SG Y tg t) (ht : Bl X scope fun Y => STs Y C ifs cifs) (hi1 : Bl X scope fun Y => SI Y C Wn tg1 iter1 cit1) (hg1 : Bl X scope fun Y => SG Y tg1 t1) (ht1 : Bl X scope fun Y => STs Y C ifs1 cifs1) (he : Bl X scope fun Y => SE Y C Wn elt celt) :
    SS X C n U W (.Assign [.Name y py] (.ListComp elt [⟨tg, iter, ifs, 0⟩, ⟨tg1, iter1, ifs1, 0⟩] scope pos) spos) (.asg (.nm i) (.comp2 celt t cit cifs t1 cit1 cifs1 (own.map (·.2)) vs1)) :=
  ps_imp (ps_setLc2 (g := rdG X.K X.mg t) (tt := rdTs X.K X.mg C cifs) (wi1 := rdI X.K X.mg C Wn cit1) (g1 := rdG X.K X.mg t1) (tt1 := rdTs X.K X.mg C cifs1) (te := rdE X.K X.mg C Wn celt) hc hN hy hyl hsw hi ok hv hg ht hi1 hg1 ht1 he (folded_no hs) (fun env => folded_no hs1)) fun D σ H ⟨B, F, ρ, rp, al, h⟩ =>
    comp_set hU (fun Pk D F H ρ acc v x Nx g L rv h nx => turn_two g L rv hown hown1 h nx) rp h
end
end Rv

/-! Rv, part 10b: enumerate of a tuple; of a list or a tuple. -/
namespace Rv
open PySem
open PySem.AutoSeq1 (wpAny_loadPart')
section
variable {prog : Program} {w : World} {A : Around} {E : Value → Shared → Prop} {s : Shared}
theorem meets_enumT (l : Addr) (items : Array Value) :
    Meets (Builtin.«enumerate.__new__» ⟨[.type "enumerate", .ref l], []⟩) (fun _ R s => s.heap.IsTuple l items ∧
      R (.ok (.ret (.ref (s.heap.push { cls := .type "tuple_iterator", data := .fields #[.ref l, .int 0 0] }).objs.size)))
        { s with heap := (s.heap.push { cls := .type "tuple_iterator", data := .fields #[.ref l, .int 0 0] }).push { cls := .type "enumerate", data := .fields #[.none, .bool false, .ref s.heap.objs.size, rawInt 0, .none, .none] } }) :=
  .of_wp fun prog w A R s h => by
    obtain ⟨hp, g, d, tk, os⟩ := s; obtain ⟨hl, h⟩ := h
    have hsub := sub_enumerate
    have q1 : ∀ {A' : Around} {E : Value → Shared → Prop} {Q : Value → Shared → Prop}, Q (.ref hp.objs.size) ⟨hp.push { cls := .type "tuple_iterator", data := .fields #[.ref l, .int 0 0] }, g, d, tk, os⟩ → wpAny (model prog w) A' (pyIter (.ref l)) Q E ⟨hp, g, d, tk, os⟩ :=
      fun q => wpAny_pyIter_tuple (show (Shared.heap ⟨hp, g, d, tk, os⟩).IsTuple l items from hl) q
    wp_walk using q1
    refine wpAny_stack_any fun st => wpAny_pure ?_
    split
    · rename_i c _ _ _ _ _
      cases (c == Value.type "enumerate")
      · wp_walk using q1
        exact ⟨_, rfl, h⟩
      · wp_walk using q1
        exact ⟨_, rfl, h⟩
    · wp_walk using q1
      exact ⟨_, rfl, h⟩
theorem call_enumT {l : Addr} {items : Array Value} {Q : Value → Shared → Prop} (hL : s.heap.IsTuple l items)
    (h : ∀ h', IsEnum h' (s.heap.objs.size + 1) s.heap.objs.size 0 .none → h'.IsTupleIter s.heap.objs.size l 0 → h'.objs.size = s.heap.objs.size + 2 →
      (∀ b o, s.heap.get? b = some o → h'.get? b = some o) → Q (.ref (s.heap.objs.size + 1)) { s with heap := h' }) :
    wpAny (model prog w) A (call (.type "enumerate") [.ref l]) Q E s := by
  refine callType_new F.called_enumerate (by decide) (F.typeCall_enumerate_1 _) (F.newCall_enumerate_1 _) (fun obj => F.args_object_init_2 obj _) F.entry_enumerate_new
    (meets_enumT l items) ⟨hL, ?_⟩
  have hz : (s.heap.push { cls := .type "tuple_iterator", data := .fields #[.ref l, .int 0 0] }).objs.size = s.heap.objs.size + 1 := Heap.size_push ..
  show _ ∧ _
  rw [hz]
  have he : IsEnum ((s.heap.push { cls := .type "tuple_iterator", data := .fields #[.ref l, .int 0 0] }).push
      { cls := .type "enumerate", data := .fields #[.none, .bool false, .ref s.heap.objs.size, rawInt 0, .none, .none] }) (s.heap.objs.size + 1) s.heap.objs.size 0 .none := by
    have := Heap.get?_push_size (s.heap.push { cls := .type "tuple_iterator", data := .fields #[.ref l, .int 0 0] })
      (o := { cls := .type "enumerate", data := .fields #[.none, .bool false, .ref s.heap.objs.size, rawInt 0, .none, .none] }) rfl
    rw [hz] at this; exact this
  refine ⟨⟨_, he, rfl⟩, h _ he ⟨_, Heap.get?_push_of_some _ (Heap.get?_push_size _ rfl), rfl, rfl⟩ (by rw [Heap.size_push, hz]) fun b o x => Heap.get?_push_of_some _ (Heap.get?_push_of_some _ x)⟩
end
end Rv

namespace Rv
open PySem PySem.Spec PyProof.Rows L2
/-- the tuple at a, each item in a new pair -/
def IteT (K : PySem.W.Frag) (a : Addr) : It :=
  ⟨fun i H => ∃ (xs : List V) (x : V), SqT K H a xs ∧ xs[i]? = some x, fun i H v H' => ∃ T x, v = .ref T ∧ H T = none ∧ H' = upd H T (.tup [.int (i : Nat), x]) ∧ ∀ xs, SqT K H a xs → xs[i]? = some x, fun i H => ∃ xs : List V, SqT K H a xs ∧ xs.length ≤ i⟩
theorem turn_enumT {P : Program} {w : World} {K : PySem.W.Frag} {elts : List Expr} {kk : Nat} {tpos : Pos} (a e it : Addr) :
    Turn P w K (.Tuple elts kk tpos) (IteT K a) [e, it] e (fun i h => (∃ old, IsEnum h e it ((i : Nat) : Int) old) ∧ h.IsTupleIter it a i ∧ e ≠ it ∧ e ≠ a ∧ a ≠ it) where
  mem := by simp
  obj := fun i h st b hb => by
    obtain ⟨⟨old, he⟩, ⟨o, ho, hc, hd⟩, _⟩ := st
    have e' : b = e ∨ b = it := by simpa using hb
    rcases e' with z | z
    · rw [z]; exact ⟨_, he, fun v q => nomatch q⟩
    · rw [z]; exact ⟨o, ho, fun v q => by rw [hd] at q; cases q⟩
  keep := fun i h h' st k => let ⟨⟨old, he⟩, hi, hne⟩ := st; ⟨⟨old, k e (by simp) _ he⟩, hi.at fun o q => k it (by simp) o q, hne⟩
  item := by
    intro X hP hw hK hc i pins s σ H E I hf st hg
    subst hP hw hK
    obtain ⟨⟨old, he⟩, hit, hne, hea, hai⟩ := st
    obtain ⟨xs, x, hq, hx⟩ := hg
    obtain ⟨its, rv, p, hz⟩ := I.tuple hq
    have hel : e < s.heap.objs.size := Heap.lt_size he
    have hil : it < s.heap.objs.size := by obtain ⟨_, q, _⟩ := hit; exact Heap.lt_size q
    have hlen := rv.length
    have hxl := (List.getElem?_eq_some_iff.mp hx).1
    refine wpAny_pyNext_enum_itemD (Draws.tuple (prog := X.prog) (w := X.w) (A := X.A.in1) (show X.A.in1.handled = none from I.ok.hd hc) it a hai its.toArray) he ⟨hit, p⟩ (by rw [List.size_toArray]; omega) hne (by simp [hne, hea]) fun u h' tk hu ho hit' hT hsz hk => ?_
    obtain ⟨u', hu', ru⟩ := rv.get hx
    have eu : u = u' := by
      have hu : its.toArray[i]? = some u := hu
      rw [List.getElem?_toArray, hu'] at hu
      exact (Option.some.inj hu).symm
    subst eu
    refine ⟨_, rfl, wpAny_letOwnedTupleGo_enum (s := { s with heap := h', toks := tk + 1 }) ho fun h'' he' sb => ?_⟩
    have hT2 : h''.get? s.heap.objs.size = some { cls := .type "tuple", data := .seq #[.int i tk, u] } := (sb.2 _ (Nat.ne_of_gt hel)).trans hT
    have new : ObjOk X.prog X.w (upd H s.heap.objs.size (.tup [.int (i : Nat), x])) h'' s.heap.objs.size (.tup [.int (i : Nat), x]) :=
      ⟨by show 2 ≤ sizeLine; decide, [.int i tk, u], .cons ⟨_, rfl⟩ (.cons ru .nil), ⟨_, hT2, rfl, _, rfl⟩⟩
    have I1 : Inv X pins σ (upd H s.heap.objs.size (.tup [.int (i : Nat), x])) { s with heap := h'', toks := tk + 1 } :=
      I.turnedNew (ch := [e, it]) (fun b ob hb q => (sb.2 b (fun z => hb (by simp [z]))).trans (hk b ob (fun z => hb (by simp [z])) (fun z => hb (by simp [z])) q)) hf (Nat.le_refl _) new
    refine ⟨.ref s.heap.objs.size, _, I1, rfl, ⟨_, x, rfl, I.hok.fresh (Nat.le_refl _), rfl, fun ys hy => by rw [I.tuple_inj hy hq]; exact hx⟩, ⟨⟨u, ?_⟩, hit'.1.at fun o q => (sb.2 it (Ne.symm hne)).trans q, hne, hea, hai⟩, fun b hb => ?_⟩
    · have e1 : ((i + 1 : Nat) : Int) = (i : Int) + 1 := by omega
      rw [e1]; exact he'
    · have hb' : b < s.heap.objs.size := by
        have e' : b = e ∨ b = it := by simpa using hb
        rcases e' with z | z
        · rw [z]; exact hel
        · rw [z]; exact hil
      rw [upd_ne (Nat.ne_of_lt hb')]
      exact (hf b hb).1
  done := by
    intro X hP hw hK hc i pins s σ H E I hf st hg
    subst hP hw hK
    obtain ⟨⟨old, he⟩, hit, hne, hea, hai⟩ := st
    obtain ⟨xs, hq, hx⟩ := hg
    obtain ⟨its, rv, p, hz⟩ := I.tuple hq
    obtain ⟨f0, f1, f2, f3, f4, f5⟩ := hf it (by simp)
    have hl := rv.length
    -- the iterator stands at or behind the end
    have D : Draws X.prog X.w X.A.in1 it [it, a] i (fun _ _ => False) (fun j h => j = i ∧ h.IsTupleIter it a i ∧ h.IsTuple a its.toArray) := {
      live := fun _ _ st => let ⟨o, ho, _⟩ := st.2.1; ⟨o, ho⟩
      frame := fun _ _ _ st hk => ⟨st.1, st.2.1.at fun o e => hk it (by simp) o e, st.2.2.at fun o e => hk a (by simp) o e⟩
      item := fun j s Q E hj st hQ => by have := st.1; omega
      done := fun s Q E st hE => wpAny_nextOf_tuple_end (I.ok.hd hc) st.2.1 st.2.2 (by simp; omega) hE }
    exact wpAny_pyNext_enum_endD D he ⟨rfl, hit, p⟩ fun h' eb => ⟨rfl, I.turned (t' := s.toks) (fun b o hb q => eb b o hb q) f0 f1 f3 f4 f5⟩
  self := fun A i s Q E st h => let ⟨⟨_, he⟩, _⟩ := st; wpAny_pyIter_enum he h
def iEnumA (K : PySem.W.Frag) (ta : TA) : TI := fun σ H R => ta σ H fun vs H1 => ∃ a, vs = [.ref a] ∧ (((∃ xs, SqL K H1 a xs) ∧ R (Ite K a) H1) ∨ ((∃ xs, SqT K H1 a xs) ∧ R (IteT K a) H1))
theorem pi_enumA {X : Cx} {e : Expr} {ta : TA} {p pos tpos : Pos} {elts : List Expr} {kk : Nat} (hg : Gl X "enumerate") (hm : X.mg "enumerate" = none) (ha : PA X [e] ta) (hs : starEach [e] X.env = [(false, eval e X.env)]) :
    PI X (.Tuple elts kk tpos) (.Call (.Name "enumerate" p) [e] [] pos) (iEnumA X.K ta) := by
  refine ⟨fun pins s σ H R I h => ?_⟩
  refine Call_ (ld_blt I hg hm boot_enumerate (PyProof.Rows.callWith_type1 (thn (ha.run pos pins s σ H _ I h) fun us s1 ⟨vs, H1, I1, r1, q1⟩ => ?_) hs rfl))
  obtain ⟨a, ex, q1⟩ := q1
  subst ex
  cases r1 with
  | cons r rr =>
    cases rr
    cases r
    have fresh : ∀ b ∈ [s1.heap.objs.size + 1, s1.heap.objs.size], FpOk X pins H1 b := fun b hb => by
      have e' : b = s1.heap.objs.size + 1 ∨ b = s1.heap.objs.size := by simpa using hb
      have hle : s1.heap.objs.size ≤ b := by
        rcases e' with z | z
        · rw [z]; exact Nat.le_add_right _ _
        · rw [z]; exact Nat.le_refl _
      exact I1.fpOk hle (I1.hok.fresh hle)
    rcases q1 with ⟨⟨xs, hq⟩, q⟩ | ⟨⟨xs, hq⟩, q⟩
    · obtain ⟨its, rv, p', hz⟩ := I1.list hq
      refine call_enumerate_list p'.isList fun h' he hit hsz hk => wpAny_pyIter_enum he ?_
      have I2 : Inv X pins σ H1 { s1 with heap := h' } := I1.kept (t' := s1.toks) hk
      exact ⟨s1.heap.objs.size + 1, [s1.heap.objs.size + 1, s1.heap.objs.size], _, _, H1, rfl, I2, turn_enum a (s1.heap.objs.size + 1) s1.heap.objs.size, ⟨⟨.none, he⟩, hit, Nat.succ_ne_self _⟩, fresh, q⟩
    · obtain ⟨its, rv, p', hz⟩ := I1.tuple hq
      have hlt : a < s1.heap.objs.size := p'.lt
      refine call_enumT (show s1.heap.IsTuple a its.toArray from p') fun h' he hit hsz hk => wpAny_pyIter_enum he ?_
      have I2 : Inv X pins σ H1 { s1 with heap := h' } := I1.kept (t' := s1.toks) hk
      exact ⟨s1.heap.objs.size + 1, [s1.heap.objs.size + 1, s1.heap.objs.size], _, _, H1, rfl, I2, turn_enumT a (s1.heap.objs.size + 1) s1.heap.objs.size, ⟨⟨.none, he⟩, hit, Nat.succ_ne_self _, Nat.ne_of_gt (Nat.lt_succ_of_lt hlt), Nat.ne_of_lt hlt⟩, fresh, q⟩
section
variable {K : PySem.W.Frag} {mg : Str → Option Value} {F0 : Hp} {xs : List Val} {a : Addr} {Vs : List V}
theorem enumV_get : ∀ {xs : List Val} {n i : Nat} {v : Val}, (enumV n xs)[i]? = some v → ∃ x, xs[i]? = some x ∧ v = .tup [.int ((n + i : Nat) : Int), x]
  | [], n, i, v, e => by
    have e : ([] : List Val)[i]? = some v := e
    simp at e
  | x :: xs, n, 0, v, e => by
    have e : some (Val.tup [.int (n : Int), x]) = some v := e
    cases e
    exact ⟨x, rfl, rfl⟩
  | x :: xs, n, i + 1, v, e => by
    obtain ⟨y, h1, h2⟩ := enumV_get (xs := xs) (n := n + 1) (i := i) e
    exact ⟨y, h1, by rw [h2, show n + 1 + i = n + (i + 1) by omega]⟩
theorem enumV_len : ∀ {xs : List Val} {n : Nat}, (enumV n xs).length = xs.length
  | [], _ => rfl
  | x :: xs, n => by
    show (enumV (n + 1) xs).length + 1 = xs.length + 1
    rw [enumV_len]
theorem walks_enum (t : SqL K F0 a Vs) (r : RVs K mg F0 xs Vs) : Walks K mg F0 (enumV 0 xs) (Ite K a) := fun i F H e1 e2 => by
  have t' : SqL K H a Vs := e2.seq (e1.seq t)
  refine ⟨fun v hv => ?_, fun hl => ⟨Vs, t', by rw [enumV_len, r.length] at hl; exact Nat.le_of_eq hl.symm⟩⟩
  obtain ⟨x, hx, rfl⟩ := enumV_get hv
  obtain ⟨y, hy, rx⟩ := r.get hx
  refine ⟨⟨Vs, y, t', hy⟩, fun z H' ⟨T, y', ez, hT, eH, q⟩ => .inr ⟨T, _, hT, eH, ?_⟩⟩
  have := q Vs t'
  rw [hy] at this
  cases this
  rw [ez, Nat.zero_add]
  exact pair_rv (e2.free hT) (.int _) (rx.mono e1)
theorem walks_enumT (t : SqT K F0 a Vs) (r : RVs K mg F0 xs Vs) : Walks K mg F0 (enumV 0 xs) (IteT K a) := fun i F H e1 e2 => by
  have t' : SqT K H a Vs := seqT e2 (seqT e1 t)
  refine ⟨fun v hv => ?_, fun hl => ⟨Vs, t', by rw [enumV_len, r.length] at hl; exact Nat.le_of_eq hl.symm⟩⟩
  obtain ⟨x, hx, rfl⟩ := enumV_get hv
  obtain ⟨y, hy, rx⟩ := r.get hx
  refine ⟨⟨Vs, y, t', hy⟩, fun z H' ⟨T, y', ez, hT, eH, q⟩ => .inr ⟨T, _, hT, eH, ?_⟩⟩
  have := q Vs t'
  rw [hy] at this
  cases this
  rw [ez, Nat.zero_add]
  exact pair_rv (e2.free hT) (.int _) (rx.mono e1)
end
theorem si_enum {X : Cx} {C : Ctx} {W : WX} {a : Expr} {ca : Ex} {p pos tpos : Pos} {elts : List Expr} {kk : Nat} (hg : Gl X "enumerate") (hm : X.mg "enumerate" = none) (hst : noStar a = true) (ha : SE X C W a ca) : SI X C W (.Tuple elts kk tpos) (.Call (.Name "enumerate" p) [a] [] pos) (.enm ca) :=
  pi_imp (pi_enumA hg hm (pa_cons ha pa_nil (starEach_cons hst)) (starEach_cons hst)) fun σ H R' ⟨F, ρ, rp, h⟩ => by
    replace h : Post X.K X.mg F H σ ρ W _ ((((evE C ca ρ).bind fun x ρ => (fzR x ρ).bind fun v ρ => Out.opt ((seqV v).map fun xs => (⟨.lst (enumV 0 xs), .fz⟩ : Rv.R)) ρ).bind fzR).bind fun v ρ => Out.opt (itemsV v) ρ) := h
    rw [Out.bind_assoc, Out.bind_assoc] at h
    simp only [Out.bind_assoc] at h
    refine bindZ rp h fun v ρ1 V F1 H1 rp1 st rv h1 => ?_
    cases v <;> first | exact h1.elim | skip
    · cases rv with
      | @tup a Vs xs t l r => exact ⟨a, rfl, .inr ⟨⟨Vs, seqT rp1.sub t⟩, h1.now rp1 _ (walks_enumT t r)⟩⟩
    · cases rv with
      | @lst a Vs xs t l r => exact ⟨a, rfl, .inl ⟨⟨Vs, SqL.of (rp1.sub _ _ t)⟩, h1.now rp1 _ (walks_enum (SqL.of t) r)⟩⟩
    · cases rv with
      | scr t l => exact ⟨_, rfl, .inl ⟨⟨_, rp1.sub.seq t⟩, h1.now rp1 _ (walks_enum t (RVs.ofInts _))⟩⟩
end Rv

/-! Rv, part 10c: list(range(..)); attributes; nothing. -/
namespace Rv
open PySem PySem.Spec PyProof.Rows L2
theorem rvs_range {K : PySem.W.Frag} {mg : Str → Option Value} {F : Hp} (lo : Int) : ∀ (n i : Nat), RVs K mg F (numI i n lo) ((List.range' i n).map fun j => V.int (lo + (j : Nat)))
  | 0, _ => .nil
  | n + 1, i => by
    show RVs K mg F (.int (lo + i) :: numI (i + 1) n lo) ((i :: List.range' (i + 1) n).map fun j => V.int (lo + (j : Nat)))
    exact .cons (.int _) (rvs_range lo n (i + 1))
theorem rvs_rgV {K : PySem.W.Frag} {mg : Str → Option Value} {F : Hp} {a b : Int} : RVs K mg F (numI 0 (b - a).toNat a) (rgV a b) := by
  unfold rgV
  rw [List.range_eq_range']
  exact rvs_range a _ 0
theorem rangeL_inv {v w : Val} {xs : List Val} (e : rangeL v w = some xs) : ∃ i j, v = .int i ∧ w = .int j ∧ RgOk i j ∧ xs = numI 0 (j - i).toNat i := by
  unfold rangeL at e
  split at e
  · rename_i i j
    split at e
    · rename_i h
      rw [Bool.and_eq_true, Bool.and_eq_true, decide_eq_true_eq] at h
      cases e
      obtain ⟨⟨h1, h2⟩, h3⟩ := h
      rw [inI62_iff] at h1 h2
      exact ⟨i, j, rfl, rfl, ⟨h1.1, h1.2, h2.1, h2.2, h3⟩, rfl⟩
    · cases e
  · cases e
theorem rgV_le {i j : Int} (h : RgOk i j) : (rgV i j).length ≤ sizeLine := by
  rw [rgV_length, sizeLine_eq]
  exact h.2.2.2.2
section
variable {X : Cx} {C : Ctx} {W : WX} {a b e : Expr} {ca cb ce : Ex} {p p2 pos pos2 : Pos}
theorem se_lrg1 (hc : X.calm = true) (hg : Gl X "list") (hm : X.mg "list" = none) (hg2 : Gl X "range") (hm2 : X.mg "range" = none) (hst : noStar a = true) (ha : SE X C W a ca) : SE X C W (.Call (.Name "list" p) [.Call (.Name "range" p2) [a] [] pos2] [] pos) (.lrg1 ca) :=
  pe_imp (pe_listRg hc hg hm (prg_1 hg2 hm2 ha (starEach_cons hst)) rfl) fun σ H Q ⟨F, ρ, rp, h⟩ => by
    refine bindX rp h fun x ρ1 V F1 H1 rp1 st rr h1 => ?_
    cases e1 : rd ρ1 x with
    | none => rw [e1] at h1; exact h1.elim
    | some v =>
      rw [e1] at h1
      replace h1 : PostE X.K X.mg H F1 H1 σ ρ1 W Q (Out.opt ((rangeL (.int 0) v).map fun xs => ⟨.lst xs, .fr⟩) ρ1) := h1
      cases e2 : rangeL (.int 0) v with
      | none => rw [e2] at h1; exact h1.elim
      | some xs =>
        rw [e2] at h1
        obtain ⟨i, j, ei, rfl, ok, rfl⟩ := rangeL_inv e2
        cases ei
        cases (rr.r1 rp1 e1).rv rfl
        exact ⟨j, rfl, ok, fun q n => done_lst st.al rp1 h1 rvs_rgV (rgV_le ok) q n⟩
theorem se_lrg2 (hc : X.calm = true) (hg : Gl X "list") (hm : X.mg "list" = none) (hg2 : Gl X "range") (hm2 : X.mg "range" = none) (hsa : noStar a = true) (hsb : noStar b = true) (ha : SE X C W a ca) (hb : SE X C W b cb) :
    SE X C W (.Call (.Name "list" p) [.Call (.Name "range" p2) [a, b] [] pos2] [] pos) (.lrg2 ca cb) :=
  pe_imp (pe_listRg hc hg hm (prg_2 hg2 hm2 ha hb (starEach_cons hsa) (starEach_cons hsb) (by rw [starEach_cons hsb]; rfl)) rfl) fun σ H Q ⟨F, ρ, rp, h⟩ => by
    refine two ha (g := fun p q ρ => match p, q with
      | some v, some w => Out.opt ((rangeL v w).map fun xs => (⟨.lst xs, .fr⟩ : R)) ρ
      | _, _ => .stuck) (r := fun x y H2 => ∃ i j, x = .int i ∧ y = .int j ∧ RgOk i j ∧ ∀ q, H2 q = none → Q (.ref q) (upd H2 q (.lst (rgV i j)))) rp h (fun _ _ => rfl) (fun p _ => by cases p <;> rfl) fun v w ρ2 V1 V2 F2 H2 al rp2 r1 r2 h2 => ?_
    replace h2 : PostE X.K X.mg H F2 H2 σ ρ2 W Q (Out.opt ((rangeL v w).map fun xs => (⟨.lst xs, .fr⟩ : R)) ρ2) := h2
    cases e2 : rangeL v w with
    | none => rw [e2] at h2; exact h2.elim
    | some xs =>
      rw [e2] at h2
      obtain ⟨i, j, rfl, rfl, ok, rfl⟩ := rangeL_inv e2
      cases r1.rv rfl; cases r2.rv rfl
      exact ⟨i, j, rfl, rfl, ok, fun q n => done_lst al rp2 h2 rvs_rgV (rgV_le ok) q n⟩
/-! ### attributes -/
theorem zip_look {K : PySem.W.Frag} {mg : Str → Option Value} {F : Hp} {f : Str} {v : Val} : ∀ {ns : List Str} {vs : List Val} {Vs : List V}, RVs K mg F vs Vs → List.lookup f (ns.zip vs) = some v → ∃ x, List.lookup f (ns.zip Vs) = some x ∧ RV K mg F v x
  | [], _, _, _, e => nomatch (show (none : Option Val) = some _ from e)
  | _ :: _, [], _, _, e => nomatch (show (none : Option Val) = some _ from e)
  | n :: ns, w :: vs, x :: Vs, .cons a b, e => by
    have e : (match f == n with
      | true => some w
      | false => List.lookup f (ns.zip vs)) = some v := e
    have h : List.lookup f ((n :: ns).zip (x :: Vs)) = (match f == n with
      | true => some x
      | false => List.lookup f (ns.zip Vs)) := rfl
    rw [h]
    cases q : f == n with
    | true =>
      rw [q] at e
      cases e
      exact ⟨x, rfl, a⟩
    | false =>
      rw [q] at e
      exact zip_look b e
theorem se_attr {f : Str} (hcl : ∀ c D, C.fld c f = true → X.mg c = some (.ref D) → Cls X.K D ∧ NoAttr X.K D f) (hb : attributeBase e f X.env (eval e X.env) = eval e X.env) (he : SE X C W e ce) : SE X C W (.Attribute e f pos) (.attr ce f) :=
  pe_imp (pe_fld he hb) fun σ H Q ⟨F, ρ, rp, h⟩ => by
    refine bindX rp h fun x ρ1 V F1 H1 rp1 st rr h1 => ?_
    cases e1 : rd ρ1 x with
    | none => rw [e1] at h1; exact h1.elim
    | some v =>
      rw [e1] at h1
      have r1 := rr.r1 rp1 e1
      cases v <;> first | exact h1.elim | skip
      rename_i c ns vs
      replace h1 : PostE X.K X.mg H F1 H1 σ ρ1 W Q (if C.fld c f = true then Out.opt ((List.lookup f (ns.zip vs)).map fun v => ⟨v, .fz⟩) ρ1 else .stuck) := h1
      split at h1
      · rename_i hf
        obtain ⟨a, D, dx, Vs, rfl, t, m, l, r⟩ := r1
        cases e2 : List.lookup f (ns.zip vs) with
        | none => rw [e2] at h1; exact h1.elim
        | some u =>
          rw [e2] at h1
          obtain ⟨y, hy, ry⟩ := zip_look r e2
          obtain ⟨k1, k2⟩ := hcl c D hf m
          exact ⟨a, D, dx, _, y, rfl, t, k1, k2, hy, done_fz rp1 h1 ry⟩
      · exact h1.elim
/-! ### what the proof never comes to -/
theorem se_never : SE X C W e .never := ⟨fun pins s σ H Q I ⟨F, ρ, rp, h⟩ => h.elim⟩
theorem st_never : ST X C W e .never := ⟨fun pins s σ H Q I ⟨F, ρ, rp, h⟩ => by
  have h : PostT X.K X.mg F H σ ρ W Q .stuck := h
  exact h.elim⟩
theorem si_never {tg : Expr} : SI X C W tg e .never := ⟨fun pins s σ H R I ⟨F, ρ, rp, h⟩ => by
  have h : Post X.K X.mg F H σ ρ W (fun xs ρ' F' H' => ∀ J, Walks X.K X.mg F' xs J → R J H') .stuck := h
  exact h.elim⟩
theorem ss_never {n : Nat} {U : Nat → Prop} {s : Stmt} : SS X C n U W s .never := ⟨fun pins s σ H D I ⟨B, F, ρ, rp, al, h⟩ => h.elim⟩
theorem sss_never {n : Nat} {U : Nat → Prop} {s : List Stmt} : SSs X C n U W s [.never] := ⟨fun pins s σ H D I ⟨B, F, ρ, rp, al, h⟩ => h.elim⟩
end
end Rv

/-! Rv, part 13: what a def promises. -/
namespace Rv
open PySem PySem.Spec PyProof.Rows L2

section
variable {K : PySem.W.Frag} {mg : Str → Option Value} {F F' H H' : Hp} {σ τ : L2.St} {ρ α : Env} {O O' : Addr → Prop}
/-! ### slots put in front -/
theorem lookS_app {i : Nat} : lookS (α ++ ρ) i = if i < α.length then lookS α i else lookS ρ (i - α.length) := by
  unfold lookS
  by_cases h : i < α.length
  · rw [if_pos h, List.getElem?_append_left h]
  · rw [if_neg h, List.getElem?_append_right (by omega)]
theorem own_app {a : Addr} (hl : α.length = τ.length) : Own (α ++ ρ) (τ ++ σ) a ↔ Own α τ a ∨ Own ρ σ a := by
  constructor
  · rintro ⟨i, v, e, m, s⟩
    rw [lookS_app] at e
    by_cases h : i < α.length
    · rw [if_pos h] at e
      rw [List.getElem?_append_left (by omega)] at s
      exact .inl ⟨i, v, e, m, s⟩
    · rw [if_neg h] at e
      rw [List.getElem?_append_right (by omega), ← hl] at s
      exact .inr ⟨_, v, e, m, s⟩
  · rintro (⟨i, v, e, m, s⟩ | ⟨i, v, e, m, s⟩)
    · have h := lookS_lt e
      exact ⟨i, v, by rw [lookS_app, if_pos h]; exact e, m, by rw [List.getElem?_append_left (by omega)]; exact s⟩
    · refine ⟨α.length + i, v, by rw [lookS_app, if_neg (by omega), Nat.add_sub_cancel_left]; exact e, m, ?_⟩
      rw [List.getElem?_append_right (by omega), ← hl, Nat.add_sub_cancel_left]
      exact s
theorem Rp.fst (rp : Rp K mg F H (τ ++ σ) (α ++ ρ)) (hl : α.length = τ.length) : Rp K mg F H τ α := by
  refine ⟨rp.sub, hl, fun i v o e => ?_, fun i j v w a e1 m1 e2 m2 s1 s2 => ?_⟩
  · have h := lookS_lt e
    obtain ⟨x, hx, sl⟩ := rp.slot i v o (by rw [lookS_app, if_pos h]; exact e)
    rw [List.getElem?_append_left (by omega)] at hx
    exact ⟨x, hx, sl⟩
  · have h1 := lookS_lt e1
    have h2 := lookS_lt e2
    exact rp.inj i j v w a (by rw [lookS_app, if_pos h1]; exact e1) m1 (by rw [lookS_app, if_pos h2]; exact e2) m2 (by rw [List.getElem?_append_left (by omega)]; exact s1) (by rw [List.getElem?_append_left (by omega)]; exact s2)
theorem Rp.snd (rp : Rp K mg F H (τ ++ σ) (α ++ ρ)) (hl : α.length = τ.length) : Rp K mg F H σ ρ := by
  have e1 := rp.len
  rw [List.length_append, List.length_append] at e1
  have sh : ∀ i, (τ ++ σ)[α.length + i]? = σ[i]? := fun i => by rw [List.getElem?_append_right (by omega), hl, Nat.add_sub_cancel_left]
  have lk : ∀ i, lookS (α ++ ρ) (α.length + i) = lookS ρ i := fun i => by rw [lookS_app, if_neg (by omega), Nat.add_sub_cancel_left]
  refine ⟨rp.sub, by omega, fun i v o e => ?_, fun i j v w a e1 m1 e2 m2 s1 s2 => ?_⟩
  · obtain ⟨x, hx, sl⟩ := rp.slot (α.length + i) v o (by rw [lk]; exact e)
    exact ⟨x, by rw [← sh]; exact hx, sl⟩
  · have z := rp.inj (α.length + i) (α.length + j) v w a (by rw [lk]; exact e1) m1 (by rw [lk]; exact e2) m2 (by rw [sh]; exact s1) (by rw [sh]; exact s2)
    omega
theorem Rp.apart (rp : Rp K mg F H (τ ++ σ) (α ++ ρ)) (hl : α.length = τ.length) {a : Addr} (h1 : Own α τ a) (h2 : Own ρ σ a) : False := by
  obtain ⟨i, v, e1, m1, s1⟩ := h1
  obtain ⟨j, w, e2, m2, s2⟩ := h2
  have l1 := lookS_lt e1
  have z := rp.inj i (α.length + j) v w a (by rw [lookS_app, if_pos l1]; exact e1) m1 (by rw [lookS_app, if_neg (by omega), Nat.add_sub_cancel_left]; exact e2) m2 (by rw [List.getElem?_append_left (by omega)]; exact s1)
    (by rw [List.getElem?_append_right (by omega), hl, Nat.add_sub_cancel_left]; exact s2)
  omega
theorem Rp.cons {v : Val} {o : Bool} {x : V} (rp : Rp K mg F H σ ρ) (sl : SlotR K mg F H v o x) (hn : o = true → v.mut = true → ∀ a, x = .ref a → ¬ Own ρ σ a) : Rp K mg F H (some x :: σ) (some (v, o) :: ρ) := by
  refine ⟨rp.sub, by rw [List.length_cons, List.length_cons, rp.len], fun i w q e => ?_, fun i j u w a e1 m1 e2 m2 s1 s2 => ?_⟩
  · cases i with
    | zero =>
      have e : some (v, o) = some (w, q) := e
      cases e
      exact ⟨x, rfl, sl⟩
    | succ i => exact rp.slot i w q e
  · cases i with
    | zero =>
      have e1 : some (v, o) = some (u, true) := e1
      cases e1
      have s1 : some (some x) = some (some (V.ref a)) := s1
      cases s1
      cases j with
      | zero => rfl
      | succ j => exact absurd ⟨j, w, e2, m2, s2⟩ (hn rfl m1 a rfl)
    | succ i =>
      cases j with
      | zero =>
        have e2 : some (v, o) = some (w, true) := e2
        cases e2
        have s2 : some (some x) = some (some (V.ref a)) := s2
        cases s2
        exact absurd ⟨i, u, e1, m1, s1⟩ (hn rfl m2 a rfl)
      | succ j => exact congrArg Nat.succ (rp.inj i j u w a e1 m1 e2 m2 s1 s2)
theorem own_cons {v : Val} {o : Bool} {x : V} {a : Addr} : Own (some (v, o) :: ρ) (some x :: σ) a ↔ (o = true ∧ v.mut = true ∧ x = .ref a) ∨ Own ρ σ a := by
  constructor
  · rintro ⟨i, w, e, m, s⟩
    cases i with
    | zero =>
      have e : some (v, o) = some (w, true) := e
      cases e
      have s : some (some x) = some (some (V.ref a)) := s
      cases s
      exact .inl ⟨rfl, m, rfl⟩
    | succ i => exact .inr ⟨i, w, e, m, s⟩
  · rintro (⟨rfl, m, rfl⟩ | ⟨i, w, e, m, s⟩)
    · exact ⟨0, v, rfl, m, rfl⟩
    · exact ⟨i + 1, w, e, m, s⟩
theorem Rp.pad (rp : Rp K mg F H σ ρ) (n : Nat) : Rp K mg F H (σ ++ List.replicate n none) (ρ ++ List.replicate n none) := by
  have lk : ∀ {i p}, lookS (ρ ++ List.replicate n none) i = some p → lookS ρ i = some p := fun {i p} e => by
    rw [lookS_app] at e
    split at e
    · exact e
    · unfold lookS at e
      rw [List.getElem?_replicate] at e
      split at e <;> cases e
  have up : ∀ {i : Nat}, i < ρ.length → (σ ++ List.replicate n none)[i]? = σ[i]? := fun {i} h => by rw [List.getElem?_append_left (by rw [← rp.len]; exact h)]
  refine ⟨rp.sub, by rw [List.length_append, List.length_append, rp.len, List.length_replicate, List.length_replicate], fun i v o e => ?_, fun i j v w a e1 m1 e2 m2 s1 s2 => ?_⟩
  · have e' := lk e
    obtain ⟨x, hx, sl⟩ := rp.slot i v o e'
    exact ⟨x, by rw [up (lookS_lt e')]; exact hx, sl⟩
  · have e1' := lk e1
    have e2' := lk e2
    rw [up (lookS_lt e1')] at s1
    rw [up (lookS_lt e2')] at s2
    exact rp.inj i j v w a e1' m1 e2' m2 s1 s2
theorem own_pad {n : Nat} {a : Addr} (hl : ρ.length = σ.length) : Own (ρ ++ List.replicate n none) (σ ++ List.replicate n none) a ↔ Own ρ σ a := by
  rw [own_app hl]
  refine ⟨fun h => h.elim id fun ⟨i, v, e, _, _⟩ => ?_, .inl⟩
  unfold lookS at e
  rw [List.getElem?_replicate] at e
  split at e <;> cases e
/-- names that a step does not touch -/
theorem Rp.frame (rp : Rp K mg F H σ ρ) (st : Step F H O F' H' O') (sub : Same F' H') (hn : ∀ a, Own ρ σ a → ¬ O a) : Rp K mg F' H' σ ρ := by
  refine ⟨sub, rp.len, fun i v o e => ?_, rp.inj⟩
  obtain ⟨x, hx, sl⟩ := rp.slot i v o e
  refine ⟨x, hx, ?_⟩
  unfold SlotR at sl ⊢
  split
  · rename_i hc
    rw [if_pos hc] at sl
    rw [Bool.and_eq_true] at hc
    have ho : o = true := hc.1
    subst ho
    have no : ∀ a, x = .ref a → ¬ O a := fun a ea => hn a ⟨i, v, e, hc.2, by rw [hx, ea]⟩
    refine ⟨st.keepR1 no sl.1, fun a ea => ?_⟩
    obtain ⟨b, ob, eb, hb⟩ := sl.1.ref hc.2
    rw [ea] at eb; cases eb
    exact st.stillFree hb (sl.2 a ea) (no a ea)
  · rename_i hc
    rw [if_neg hc] at sl
    exact sl.mono st.ff
/-- a name gets its object back -/
theorem Rp.give {i : Nat} {v : Val} {x : V} (rp : Rp K mg F H σ ρ) (hs : σ[i]? = some (some x)) (sl : SlotR K mg F H v true x) (hn : v.mut = true → ∀ a, x = .ref a → ¬ Own ρ σ a) : Rp K mg F H σ (ρ.set i (some (v, true))) := by
  have z := rp.store (i := i) sl fun _ m a ea => hn m a ea
  have e : σ.set i (some x) = σ := by
    refine List.ext_getElem? fun j => ?_
    rw [getS]
    split
    · rename_i h
      rw [← h.1, hs]
    · rfl
  rw [e] at z
  exact z

/-! ### the arguments that come back -/
def modeAt (modes : List Bool) (vs : List V) (a : Addr) : Prop := ∃ i : Nat, modes[i]? = some true ∧ vs[i]? = some (.ref a)
/-- at the end: what the changed arguments are -/
def FinR (K : PySem.W.Frag) (mg : Str → Option Value) (F H : Hp) : List Bool → List V → List Val → Prop
  | [], _, fins => fins = []
  | true :: ms, x :: vs, v :: fins => (v.mut = true ∧ R1 K mg F H v x ∧ ∀ a, x = .ref a → F a = none) ∧ FinR K mg F H ms vs fins
  | false :: ms, _ :: vs, fins => FinR K mg F H ms vs fins
  | _, _, _ => False
/-- what a call gives -/
def RetR (K : PySem.W.Frag) (mg : Str → Option Value) (H F' H' : Hp) (O' : Addr → Prop) (fresh : Bool) (v : Val) (x : V) : Prop :=
  if (fresh && v.mut) = true then R1 K mg F' H' v x ∧ ∀ a, x = .ref a → F' a = none ∧ ¬ O' a ∧ H a = none ∧ ∃ o, H' a = some o else RV K mg F' v x
def PostC (K : PySem.W.Frag) (mg : Str → Option Value) (F H : Hp) (O : Addr → Prop) (I : FnI) (vs : List V) (Q : VK) (E : XK) : CRes → Prop
  | .ok v fins => ∀ F' H' x, Same F' H' → Step F H O F' H' (modeAt I.modes vs) → FinR K mg F' H' I.modes vs fins → RetR K mg H F' H' (modeAt I.modes vs) I.fresh v x → Q x H'
  | .exc x fins => ∀ cv d F' H', Same F' H' → Step F H O F' H' (modeAt I.modes vs) → FinR K mg F' H' I.modes vs fins → RX K mg F' x cv d → E cv d H'
  | .stuck => False
/-- a def's promise, by the evaluator's answer -/
def spC (K : PySem.W.Frag) (mg : Str → Option Value) (I : FnI) (run : List Val → CRes) : Sp := fun vs H Q E => ∃ F args, args.length = I.modes.length ∧ vs.length = I.modes.length ∧ Rp K mg F H (vs.map some) (argEnv I.modes args) ∧
  PostC K mg F H (Own (argEnv I.modes args) (vs.map some)) I vs Q E (run args)
end

section
variable {K : PySem.W.Frag} {mg : Str → Option Value} {F F' H H' : Hp} {σ σ' : L2.St} {ρ ρ' : Env} {O O' : Addr → Prop}
theorem argEnv_len : ∀ {ms : List Bool} {args : List Val}, args.length = ms.length → (argEnv ms args).length = ms.length
  | [], [], _ => rfl
  | m :: ms, v :: args, h => by
    show (argEnv ms args).length + 1 = ms.length + 1
    rw [argEnv_len (Nat.succ.inj h)]
  | [], _ :: _, h => nomatch h
  | _ :: _, [], h => nomatch h
theorem argEnv_look : ∀ {ms : List Bool} {args : List Val} {i : Nat} {v : Val}, lookS (argEnv ms args) i = some (v, true) → ms[i]? = some true
  | m :: ms, u :: args, 0, v, e => by
    have e : some (u, m && u.mut) = some (v, true) := e
    have h : (m && u.mut) = true := congrArg Prod.snd (Option.some.inj e)
    rw [Bool.and_eq_true] at h
    rw [h.1]; rfl
  | m :: ms, u :: args, i + 1, v, e => argEnv_look (ms := ms) (args := args) (i := i) e
  | [], _, i, v, e => by
    have e : lookS [] i = some (v, true) := e
    unfold lookS at e
    simp at e
  | _ :: _, [], i, v, e => by
    have e : lookS [] i = some (v, true) := e
    unfold lookS at e
    simp at e
/-- the changed arguments at the end of a body -/
theorem fins_ok (rp : Rp K mg F H σ ρ) : ∀ (k : Nat) (ms : List Bool) (vs : List V) (fins : List Val), vs.length = ms.length → (∀ (i : Nat) (x : V), ms[i]? = some true → vs[i]? = some x → σ[k + i]? = some (some x)) → finsOf ρ k ms = some fins →
    FinR K mg F H ms vs fins ∧ ∀ a, modeAt ms vs a → ∃ i v, k ≤ i ∧ ms[i - k]? = some true ∧ lookS ρ i = some (v, true) ∧ v.mut = true ∧ σ[i]? = some (some (.ref a))
  | k, [], vs, fins, _, _, e => by
    have e : some [] = some fins := e
    cases e
    exact ⟨rfl, fun a ⟨i, h, _⟩ => by simp at h⟩
  | k, true :: ms, x :: vs, fins, hl, hs, e => by
    replace e : (match lookS ρ k with
      | some (v, true) => if v.mut = true then (finsOf ρ (k + 1) ms).map (v :: ·) else none
      | _ => none) = some fins := e
    cases e1 : lookS ρ k with
    | none => rw [e1] at e; cases e
    | some p =>
      obtain ⟨v, o⟩ := p
      rw [e1] at e
      cases o with
      | false => cases e
      | true =>
        replace e : (if v.mut = true then (finsOf ρ (k + 1) ms).map (v :: ·) else none) = some fins := e
        split at e
        · rename_i hm
          obtain ⟨fs, e2, rfl⟩ := map_inv e
          have hx : σ[k]? = some (some x) := hs 0 x rfl rfl
          obtain ⟨y, hy, sl⟩ := rp.slot k v true e1
          rw [hx] at hy; cases hy
          unfold SlotR at sl
          rw [hm, if_pos (show (true && true) = true from rfl)] at sl
          obtain ⟨f1, f2⟩ := fins_ok rp (k + 1) ms vs fs (Nat.succ.inj hl) (fun i y h1 h2 => by
            have := hs (i + 1) y h1 h2
            rw [show k + (i + 1) = k + 1 + i by omega] at this
            exact this) e2
          refine ⟨⟨⟨hm, sl.1, sl.2⟩, f1⟩, fun a ⟨i, h1, h2⟩ => ?_⟩
          cases i with
          | zero =>
            have h2 : some x = some (V.ref a) := h2
            cases h2
            exact ⟨k, v, Nat.le_refl _, by rw [Nat.sub_self]; rfl, e1, hm, hx⟩
          | succ i =>
            obtain ⟨j, w, q1, q2, q3⟩ := f2 a ⟨i, h1, h2⟩
            refine ⟨j, w, by omega, ?_, q3⟩
            rw [show j - k = (j - (k + 1)) + 1 by omega]
            exact q2
        · cases e
  | k, false :: ms, x :: vs, fins, hl, hs, e => by
    replace e : finsOf ρ (k + 1) ms = some fins := e
    obtain ⟨f1, f2⟩ := fins_ok rp (k + 1) ms vs fins (Nat.succ.inj hl) (fun i y h1 h2 => by
      have := hs (i + 1) y h1 h2
      rw [show k + (i + 1) = k + 1 + i by omega] at this
      exact this) e
    refine ⟨f1, fun a ⟨i, h1, h2⟩ => ?_⟩
    cases i with
    | zero => cases h1
    | succ i =>
      obtain ⟨j, w, q1, q2, q3⟩ := f2 a ⟨i, h1, h2⟩
      refine ⟨j, w, by omega, ?_, q3⟩
      rw [show j - k = (j - (k + 1)) + 1 by omega]
      exact q2
  | k, _ :: _, [], _, h, _, _ => nomatch h
/-- a body's end is the call's -/
theorem ret_ok {I : FnI} {vs : List V} {Q : VK} {E : XK} {O : Addr → Prop} {r : R} {V : V} {H' : Hp} (hl : vs.length = I.modes.length) (hO : ∀ a, O a → modeAt I.modes vs a)
    (rp : Rp K mg F' H' σ ρ) (st : Step F H O F' H' (Own ρ σ)) (hs : ∀ (i : Nat) (x : L2.V), I.modes[i]? = some true → vs[i]? = some x → σ[i]? = some (some x)) (rr : RR K mg F' H' σ ρ r V) (fr : Fr H r V) (h : PostC K mg F H O I vs Q E (retFn I r ρ)) : Q V H' := by
  have hs0 : ∀ (i : Nat) (x : L2.V), I.modes[i]? = some true → vs[i]? = some x → σ[0 + i]? = some (some x) := fun i x h1 h2 => by rw [Nat.zero_add]; exact hs i x h1 h2
  unfold retFn at h
  cases hf : I.fresh with
  | false =>
    rw [hf, if_neg Bool.false_ne_true] at h
    rcases fzR_cases (r := r) (ρ := ρ) with e | ⟨v, ρ2, e⟩
    · rw [e] at h; exact h.elim
    rw [e] at h
    obtain ⟨F2, rp2, st2, rv⟩ := fz_core st rp rr fr e
    replace h : PostC K mg F H O I vs Q E (match finsOf ρ2 0 I.modes with
      | some fins => .ok v fins
      | none => .stuck) := h
    cases e2 : finsOf ρ2 0 I.modes with
    | none => rw [e2] at h; exact h.elim
    | some fins =>
      rw [e2] at h
      obtain ⟨f1, f2⟩ := fins_ok rp2 0 I.modes vs fins hl hs0 e2
      refine h F2 H' V rp2.sub (st2.less fun a ha => ?_) f1 ?_
      · obtain ⟨i, w, _, _, q3, q4, q5⟩ := f2 a ha
        exact ⟨i, w, q3, q4, q5⟩
      · unfold RetR
        rw [hf, Bool.false_and, if_neg Bool.false_ne_true]
        exact rv
  | true =>
    rw [hf, if_pos rfl] at h
    cases e : rd ρ r with
    | none => rw [e] at h; exact h.elim
    | some v =>
      rw [e] at h
      replace h : PostC K mg F H O I vs Q E (if okFresh ρ I.modes r v = true then match finsOf ρ 0 I.modes with
        | some fins => .ok v fins
        | none => .stuck
        else .stuck) := h
      split at h
      · rename_i ok
        cases e2 : finsOf ρ 0 I.modes with
        | none => rw [e2] at h; exact h.elim
        | some fins =>
          rw [e2] at h
          obtain ⟨f1, f2⟩ := fins_ok rp 0 I.modes vs fins hl hs0 e2
          have f2' : ∀ a, modeAt I.modes vs a → Own ρ σ a := fun a ha => by
            obtain ⟨i, w, _, _, q3, q4, q5⟩ := f2 a ha
            exact ⟨i, w, q3, q4, q5⟩
          refine h F' H' V rp.sub (st.less f2') f1 ?_
          have r1 := rr.r1 rp e
          unfold RetR
          rw [hf, Bool.true_and]
          cases hm : v.mut with
          | false => rw [if_neg Bool.false_ne_true]; exact r1.rv hm
          | true =>
            rw [if_pos rfl]
            refine ⟨r1, fun a ea => ?_⟩
            unfold okFresh at ok
            rw [hm] at ok
            obtain ⟨rv, s⟩ := r
            cases s with
            | fz => cases ok
            | fr =>
              obtain ⟨_, q⟩ := (show R1 K mg F' H' rv V ∧ ∀ a, V = .ref a → F' a = none ∧ ¬ Own ρ σ a ∧ ∃ o, H' a = some o from rr)
              obtain ⟨q1, q2, q3⟩ := q a ea
              exact ⟨q1, fun z => q2 (f2' a z), fr rfl a ea, q3⟩
            | var i =>
              have hx : σ[i]? = some (some V) := rr
              replace ok : (!I.modes.getD i false && (match lookS ρ i with
                | some (_, o) => o
                | none => false)) = true := ok
              rw [Bool.and_eq_true] at ok
              obtain ⟨ok1, ok2⟩ := ok
              replace e : (lookS ρ i).map (·.1) = some v := e
              cases e3 : lookS ρ i with
              | none => rw [e3] at e; cases e
              | some p =>
                obtain ⟨w, o⟩ := p
                rw [e3] at e ok2
                have ew : w = v := Option.some.inj e
                subst ew
                have eo : o = true := ok2
                subst eo
                have own : Own ρ σ a := ⟨i, w, e3, hm, by rw [hx, ea]⟩
                obtain ⟨⟨ob, hob⟩, nf⟩ := rp.own_there own
                have nm : ¬ modeAt I.modes vs a := fun z => by
                  obtain ⟨j, u, _, m2, q3, q4, q5⟩ := f2 a z
                  have ij := rp.inj i j w u a e3 hm q3 q4 (by rw [hx, ea]) q5
                  subst ij
                  rw [Nat.sub_zero] at m2
                  rw [List.getD_eq_getElem?_getD, m2] at ok1
                  cases ok1
                refine ⟨nf, nm, ?_, ob, hob⟩
                exact (st.no a own).elim (fun z => absurd (hO a z) nm) id
      · exact h.elim
end
end Rv

/-! Rv, part 14: arguments, calls. -/
namespace Rv
open PySem PySem.Spec PyProof.Rows L2

/-! ### the rules, exceptions by the slots' wish -/
section
variable {X : Cx} {pins : List (Addr × Obj)} {σ : L2.St} {H : Hp} {s : Shared} {W : WX} {k : Nat} {f C : Addr} {sp : Sp} {Q : VK} {us : List Value} {vs : List V} {e : Expr} {es : List Expr} {x m : Str} {p pos apos : Pos} {t : TA} {ta : TE}
theorem run_W (F : FnR X.prog X.w X.K X.mg X.base (L2.CX X.prog X.w) k f sp) (hr : Room k X.A) (tk : Takes X W) (I : Inv X pins σ H s) (r : Vals vs us) (h : sp vs H Q fun cv d H' => W cv d σ H') :
    codeAny (model X.prog X.w) X.A (.call (.ref f) ⟨us, []⟩) (fun r s' => match r with | .ok (.ret v) => EP X pins σ Q v s' | .ok _ => False | .error e => X.xe e s') s := by
  refine codeAny_mono (F X.A X.stack s H us vs Q _ hr I.env0 r h) fun r s' hq => ?_
  cases r with
  | error e => exact tk e s' (XE.of_call I (fun _ _ _ h => h) hq)
  | ok fl =>
    cases fl with
    | ret u => exact I.after hq
    | next => exact False.elim hq
    | brk => exact False.elim hq
    | cont => exact False.elim hq
def tCallW (sp : Sp) (W : WX) (t : TA) : TE := fun σ H Q => t σ H fun vs H1 => sp vs H1 Q fun cv d H' => W cv d σ H'
theorem pe_callW (F : FnR X.prog X.w X.K X.mg X.base (L2.CX X.prog X.w) k f sp) (hr : Room k X.A) (hg : Gl X x) (hm : X.mg x = some (.ref f)) (hk : PySem.W.keepIn X.K (.ref f) = true) (tk : Takes X W) (hdb : (x == ("__debug__" : Str)) = false) (ha : PA X (e :: es) t)
    (he : starEach (e :: es) X.env = (false, eval e X.env) :: starEach es X.env) (hpl : (backTo pos (starEach es X.env)).any (·.1) = false) : PE X (.Call (.Name x p) (e :: es) [] pos) (tCallW sp W t) := by
  refine ⟨fun pins s σ H Q I h => ?_⟩
  refine wpAny_Call_Name_kw (ld_glob I hg hm ?_ hdb)
  refine PySem.W.callWith_K (h₀ := X.base) I.ok.mod.kin hk (thn (ha.run pos pins s σ H _ I h) fun us s1 ⟨vs, H1, I1, r, q⟩ => ⟨I1.kIn, ?_⟩) he hpl
  exact wpAny_call (run_W F hr tk I1 r q)
theorem pe_callW0 (F : FnR X.prog X.w X.K X.mg X.base (L2.CX X.prog X.w) k f sp) (hr : Room k X.A) (hg : Gl X x) (hm : X.mg x = some (.ref f)) (hk : PySem.W.keepIn X.K (.ref f) = true) (tk : Takes X W) (hdb : (x == ("__debug__" : Str)) = false) : PE X (.Call (.Name x p) [] [] pos) (tCallW sp W tNil) := by
  refine ⟨fun pins s σ H Q I h => ?_⟩
  refine wpAny_Call_Name_kw (ld_glob I hg hm ?_ hdb)
  exact PySem.W.callWith_K0 I.kIn hk (wpAny_call (run_W (us := []) F hr tk I .nil h))
def tMethW (C : Addr) (m : Str) (sp : Sp) (W : WX) (ta : TE) (t : TA) : TE := fun σ H Q => ta σ H fun x H1 => ∃ a dx fs, x = .ref a ∧ H1 a = some (.ins C dx fs) ∧ fs.lookup m = none ∧ t σ H1 fun vs H2 => sp (x :: vs) H2 Q fun cv d H' => W cv d σ H'
theorem pe_methW {pl : Sem Bool} {o : Expr} (he : PE X o ta) (c : Cls X.K C) (hm : Meth X.K C m f) (F : FnR X.prog X.w X.K X.mg X.base (L2.CX X.prog X.w) k f sp) (hr : Room k X.A) (tk : Takes X W) (ha : PA X (e :: es) t)
    (hst : starEach (e :: es) X.env = (false, eval e X.env) :: starEach es X.env) (hpl : (backTo pos (starEach es X.env)).any (·.1) = false)
    (ht : eval (.Call (.Attribute o m apos) (e :: es) [] pos) X.env = (do
      let ov ← eval o X.env
      standAt apos.atName
      let (f, first) ← holding [ov] (getMethod ov m pl)
      callWith pos f first (backTo pos (starEach (e :: es) X.env)) (backToKw pos (keywordEach [] X.env)))) :
    PE X (.Call (.Attribute o m apos) (e :: es) [] pos) (tMethW C m sp W ta t) := by
  refine ⟨fun pins s σ H Q I h => ?_⟩
  refine PySem.W.methodCall_KW (pl := pl) (thn (he.run pins s σ H _ I h) fun u s1 ⟨x, H1, I1, rx, a, dx, fs, ex, ea, l, q⟩ => ?_) ht
  subst ex
  obtain rfl : u = Value.ref a := rx
  refine getmeth_ok I1 ea c hm l ?_
  refine PySem.W.callWith_K (first := [.ref a]) (h₀ := X.base) I.ok.mod.kin hm.kp (thn (ha.run pos pins s1 σ H1 _ I1 q) fun us s2 ⟨vs, H2, I2, r, q2⟩ => ⟨I2.kIn, ?_⟩) hst hpl
  exact wpAny_call (run_W (us := .ref a :: us) (vs := .ref a :: vs) F hr tk I2 (.cons rfl r) q2)
theorem pe_methW0 {pl : Sem Bool} {o : Expr} (he : PE X o ta) (c : Cls X.K C) (hm : Meth X.K C m f) (F : FnR X.prog X.w X.K X.mg X.base (L2.CX X.prog X.w) k f sp) (hr : Room k X.A) (tk : Takes X W)
    (ht : eval (.Call (.Attribute o m apos) [] [] pos) X.env = (do
      let ov ← eval o X.env
      standAt apos.atName
      let (f, first) ← holding [ov] (getMethod ov m pl)
      callWith pos f first (backTo pos (starEach [] X.env)) (backToKw pos (keywordEach [] X.env)))) :
    PE X (.Call (.Attribute o m apos) [] [] pos) (tMethW C m sp W ta tNil) := by
  refine ⟨fun pins s σ H Q I h => ?_⟩
  refine PySem.W.methodCall_KW (pl := pl) (thn (he.run pins s σ H _ I h) fun u s1 ⟨x, H1, I1, rx, a, dx, fs, ex, ea, l, q⟩ => ?_) ht
  subst ex
  obtain rfl : u = Value.ref a := rx
  refine getmeth_ok I1 ea c hm l ?_
  exact PySem.W.callWith_K0 (first := [.ref a]) I1.kIn hm.kp (wpAny_call (run_W (us := [.ref a]) (vs := [.ref a]) F hr tk I1 (.cons rfl .nil) q))
def tMakeW (C : Addr) (sp : Sp) (W : WX) (t : TA) : TE := fun σ H Q => t σ H fun vs H1 => ∀ x dx, H1 x = Option.none → H1 dx = Option.none → dx ≠ x →
  sp (V.ref x :: vs) (upd (upd H1 dx (.own x)) x (.ins C dx [])) (fun v H2 => v = .non ∧ Q (.ref x) H2) fun cv d H' => W cv d σ H'
theorem run_makeW (M : Mk X.K C f) (F : FnR X.prog X.w X.K X.mg X.base (L2.CX X.prog X.w) k f sp) (hr : Room (k + 1) X.A) (tk : Takes X W) (I : Inv X pins σ H s) (r : Vals vs us)
    (h : ∀ x dx, H x = Option.none → H dx = Option.none → dx ≠ x → sp (V.ref x :: vs) (upd (upd H dx (.own x)) x (.ins C dx [])) (fun v H2 => v = .non ∧ Q (.ref x) H2) fun cv d H' => W cv d σ H') :
    wpAny (model X.prog X.w) X.A (call (.ref C) us) (EP X pins σ Q) X.xe s := by
  have hq := h (s.heap.objs.size + 1) s.heap.objs.size (I.hok.fresh (Nat.le_succ _)) (I.hok.fresh (Nat.le_refl _)) (Nat.ne_of_lt (Nat.lt_succ_self _))
  have I2 := Inv.made (C := C) I
  have r2 : Vals (V.ref (s.heap.objs.size + 1) :: vs) (Value.ref (s.heap.objs.size + 1) :: us) := .cons rfl r
  refine wpAny_call (make_map (f := f) I.kIn M.makes M.init (beq_iff_eq.mp M.fn) (codeAny_mono (F _ X.stack _ _ (Value.ref (s.heap.objs.size + 1) :: us) _ _ _ (hr.make C us []) (I2.env0.make C us []) r2 hq) fun r s' hq' => ?_))
  cases r with
  | error e => exact tk e s' (XE.of_call I2 (fun _ _ _ h => h) hq')
  | ok fl =>
    cases fl with
    | ret u =>
      obtain ⟨v, H', I3, rv, ev, q3⟩ := I2.after hq'
      subst ev
      exact ⟨rv, ⟨V.ref (s.heap.objs.size + 1), H', I3, rfl, q3⟩⟩
    | next => exact False.elim hq'
    | brk => exact False.elim hq'
    | cont => exact False.elim hq'
theorem pe_makeW (M : Mk X.K C f) (F : FnR X.prog X.w X.K X.mg X.base (L2.CX X.prog X.w) k f sp) (hr : Room (k + 1) X.A) (hg : Gl X x) (hm : X.mg x = some (.ref C)) (tk : Takes X W) (hdb : (x == ("__debug__" : Str)) = false) (ha : PA X (e :: es) t)
    (he : starEach (e :: es) X.env = (false, eval e X.env) :: starEach es X.env) (hpl : (backTo pos (starEach es X.env)).any (·.1) = false) : PE X (.Call (.Name x p) (e :: es) [] pos) (tMakeW C sp W t) := by
  refine ⟨fun pins s σ H Q I h => ?_⟩
  refine wpAny_Call_Name_kw (ld_glob I hg hm ?_ hdb)
  refine PySem.W.callWith_K (h₀ := X.base) I.ok.mod.kin M.kp (thn (ha.run pos pins s σ H _ I h) fun us s1 ⟨vs, H1, I1, r, q⟩ => ⟨I1.kIn, ?_⟩) he hpl
  exact run_makeW M F hr tk I1 r q
theorem pe_makeW0 (M : Mk X.K C f) (F : FnR X.prog X.w X.K X.mg X.base (L2.CX X.prog X.w) k f sp) (hr : Room (k + 1) X.A) (hg : Gl X x) (hm : X.mg x = some (.ref C)) (tk : Takes X W) (hdb : (x == ("__debug__" : Str)) = false) : PE X (.Call (.Name x p) [] [] pos) (tMakeW C sp W tNil) := by
  refine ⟨fun pins s σ H Q I h => ?_⟩
  refine wpAny_Call_Name_kw (ld_glob I hg hm ?_ hdb)
  exact PySem.W.callWith_K0 I.kIn M.kp (run_makeW (us := []) M F hr tk I .nil h)
def tCallOW (C : Addr) (sp : Sp) (W : WX) (tf : TE) (t : TA) : TE := fun σ H Q => tf σ H fun y H1 => ∃ a, y = V.ref a ∧ t σ H1 fun vs H2 => (∃ dx fs, H2 a = some (.ins C dx fs)) ∧ sp (V.ref a :: vs) H2 Q fun cv d H' => W cv d σ H'
theorem pe_callOW {g : Addr} {fe : Expr} {tf : TE} (hf : PE X fe tf) (c : StX.CallO X.K C g) (F : FnR X.prog X.w X.K X.mg X.base (L2.CX X.prog X.w) k g sp) (hr : Room k X.A) (tk : Takes X W) (ha : PA X (e :: es) t)
    (ht : eval (.Call fe (e :: es) [] pos) X.env = (do callWith pos (← eval fe X.env) [] (backTo pos (starEach (e :: es) X.env)) (backToKw pos (keywordEach [] X.env))))
    (he : starEach (e :: es) X.env = (false, eval e X.env) :: starEach es X.env) (hpl : (backTo pos (starEach es X.env)).any (·.1) = false) : PE X (.Call fe (e :: es) [] pos) (tCallOW C sp W tf t) := by
  refine ⟨fun pins s σ H Q I h => ?_⟩
  refine Call_ (thn (hf.run pins s σ H _ I h) fun u s1 ⟨y, H1, I1, ry, a, ey, q⟩ => ?_) ht
  subst ey
  obtain rfl : u = Value.ref a := ry
  refine StX.callO_with (thn (ha.run pos pins s1 σ H1 _ I1 q) fun us s2 ⟨vs, H2, I2, r, hi, q2⟩ => ?_) he hpl
  obtain ⟨ox, od, J, hd⟩ := StX.insC_at I2 (.inr hi)
  exact ⟨⟨C, ox, od, J, hd⟩, wpAny_call (PySem.W.kco_code I2.kIn J hd c.at_ c.fn c.fi (run_W (us := .ref a :: us) (vs := .ref a :: vs) F hr tk I2 (.cons rfl r) q2))⟩
end

/-! ### arguments -/
/-- the taken names' slots hold the arguments -/
inductive TK (σ : L2.St) : List Bool → List Val → List V → List Nat → Prop where
  | nil {ms : List Bool} : TK σ ms [] [] []
  | own {ms : List Bool} {v : Val} {args : List Val} {x : V} {vs : List V} {i : Nat} {is : List Nat} : v.mut = true → σ[i]? = some (some x) → TK σ ms args vs is → TK σ (true :: ms) (v :: args) (x :: vs) (i :: is)
  | fz {ms : List Bool} {v : Val} {args : List Val} {x : V} {vs : List V} {is : List Nat} : TK σ ms args vs is → TK σ (false :: ms) (v :: args) (x :: vs) is
/-- what stands behind the arguments -/
def ArgG (K : PySem.W.Frag) (mg : Str → Option Value) (σ : L2.St) (F0 H0 : Hp) (O0 : Addr → Prop) (ms : List Bool) (Q : List V → Hp → Prop) : List Val × List Nat → Env → Hp → Hp → Prop := fun p ρ F H =>
  ∀ vs, vs.length = p.1.length → p.1.length ≤ ms.length → Rp K mg F H (vs.map some ++ σ) (argEnv (ms.take p.1.length) p.1 ++ ρ) → Step F0 H0 O0 F H (Own (argEnv (ms.take p.1.length) p.1 ++ ρ) (vs.map some ++ σ)) → TK σ ms p.1 vs p.2 → Q vs H
def rdArgs (K : PySem.W.Frag) (mg : Str → Option Value) (C : Ctx) (W : WX) (ms : List Bool) (cs : List Ex) : TA := fun σ H Q => ∃ F ρ, Rp K mg F H σ ρ ∧ Post K mg F H σ ρ W (ArgG K mg σ F H (Own ρ σ) ms Q) (evArgs C ms cs ρ)
def SArgs (X : Cx) (C : Ctx) (W : WX) (ms : List Bool) (es : List Expr) (cs : List Ex) : Prop := PA X es (rdArgs X.K X.mg C W ms cs)
section
variable {K : PySem.W.Frag} {mg : Str → Option Value} {F F' H H' : Hp} {σ : L2.St} {ρ ρ' : Env}
/-- a name's object is taken -/
theorem Rp.drop {i : Nat} (rp : Rp K mg F H σ ρ) : Rp K mg F H σ (ρ.set i none) := by
  have lk : ∀ {j p}, lookS (ρ.set i none) j = some p → lookS ρ j = some p := fun {j p} e => by
    rw [lookS_set] at e
    split at e
    · cases e
    · exact e
  exact ⟨rp.sub, by rw [List.length_set]; exact rp.len, fun j v o e => rp.slot j v o (lk e), fun j k v w a e1 m1 e2 m2 s1 s2 => rp.inj j k v w a (lk e1) m1 (lk e2) m2 s1 s2⟩
theorem own_drop {i : Nat} {a : Addr} (h : Own (ρ.set i none) σ a) : Own ρ σ a ∧ ∃ j v, j ≠ i ∧ lookS ρ j = some (v, true) ∧ v.mut = true ∧ σ[j]? = some (some (.ref a)) := by
  obtain ⟨j, v, e, m, s⟩ := h
  have hlt := lookS_lt e
  rw [List.length_set] at hlt
  rw [lookS_set] at e
  split at e
  · cases e
  · rename_i hn
    exact ⟨⟨j, v, e, m, s⟩, j, v, fun z => hn ⟨z.symm, hlt⟩, e, m, s⟩
end
section
variable {X : Cx} {C : Ctx} {W : WX} {a : Expr} {ca : Ex} {es : List Expr} {cs : List Ex} {ms : List Bool} {m : Bool}
theorem sargs_nil : SArgs X C W ms [] [] := pa_imp pa_nil fun σ H Q ⟨F, ρ, rp, h⟩ => by
  exact h F H rp Step.refl [] rfl (Nat.zero_le _) (by simpa [argEnv] using rp) (by simpa [argEnv] using Step.refl) .nil
/-- an argument that is kept -/
theorem sargs_fz (hst : noStar a = true) (ha : SE X C W a ca) (hs : SArgs X C W ms es cs) : SArgs X C W (false :: ms) (a :: es) (ca :: cs) :=
  pa_imp (pa_cons ha hs (starEach_cons hst)) fun σ H Q ⟨F, ρ, rp, h⟩ => by
    replace h : Post X.K X.mg F H σ ρ W (ArgG X.K X.mg σ F H (Own ρ σ) (false :: ms) Q) ((evE C ca ρ).bind fun r ρ => (fzR r ρ).bind fun v ρ => (evArgs C ms cs ρ).bind fun p ρ => .ok (v :: p.1, p.2) ρ) := h
    refine bindZ rp h fun v ρ1 V F1 H1 rp1 st rv h1 => ?_
    refine ⟨F1, ρ1, rp1, h1.of_bind.imp fun p ρ2 F2 H2 rp2 st2 h2 vs hl hm rpa sta tk => ?_⟩
    have h3 := h2.now rp2
    have rv2 := rv.mono st2.ff
    refine h3 (V :: vs) (by show vs.length + 1 = p.1.length + 1; rw [hl]) (Nat.succ_le_succ hm) ?_ ?_ (.fz tk)
    · show Rp X.K X.mg F2 H2 (some V :: (vs.map some ++ σ)) (some (v, false && v.mut) :: (argEnv (ms.take p.1.length) p.1 ++ ρ2))
      refine rpa.cons ?_ fun z => by cases z
      unfold SlotR
      rw [Bool.false_and, Bool.false_and, if_neg Bool.false_ne_true]
      exact rv2
    · have s3 := st.trans sta
      refine s3.less fun b hb => ?_
      have hb : Own (some (v, false && v.mut) :: (argEnv (ms.take p.1.length) p.1 ++ ρ2)) (some V :: (vs.map some ++ σ)) b := hb
      rw [own_cons] at hb
      exact hb.elim (fun z => by cases z.1) id
/-- a name's own object; it is taken when all arguments are there -/
theorem sargs_own {i : Nat} {x : Str} {pos : Pos} (hN : X.N[i]? = some x) (hv : Vis X.env.scope x) (hd : (x == ("__debug__" : Str)) = false) (hcd : (x == ("__classdict__" : Str)) = false) (hs : SArgs X C W ms es cs) : SArgs X C W (true :: ms) (.Name x pos :: es) (.loc i :: cs) :=
  pa_imp (pa_cons (pe_var hN hv hd hcd) hs rfl) fun σ H Q ⟨F, ρ, rp, h⟩ => by
    replace h : Post X.K X.mg F H σ ρ W (ArgG X.K X.mg σ F H (Own ρ σ) (true :: ms) Q) (match lookS ρ i with
      | some _ => (evArgs C ms cs ρ).bind fun p ρ => (take ρ i).bind fun v ρ => .ok (v :: p.1, i :: p.2) ρ
      | none => .stuck) := h
    cases e : lookS ρ i with
    | none => rw [e] at h; exact h.elim
    | some q =>
      obtain ⟨v0, o0⟩ := q
      rw [e] at h
      obtain ⟨V, hV, _⟩ := rp.slot i v0 o0 e
      replace h : Post X.K X.mg F H σ ρ W (ArgG X.K X.mg σ F H (Own ρ σ) (true :: ms) Q) ((evArgs C ms cs ρ).bind fun p ρ => (take ρ i).bind fun v ρ => .ok (v :: p.1, i :: p.2) ρ) := h
      refine ⟨V, hV, F, ρ, rp, h.of_bind.imp fun p ρ2 F2 H2 rp2 st2 h2 vs hl hm2 rpa sta tk => ?_⟩
      unfold take at h2
      cases e2 : lookS ρ2 i with
      | none => rw [e2] at h2; exact h2.elim
      | some q =>
        obtain ⟨v, o⟩ := q
        rw [e2] at h2
        cases o <;> first | exact h2.elim | skip
        replace h2 : Post X.K X.mg F2 H2 σ ρ2 W (ArgG X.K X.mg σ F H (Own ρ σ) (true :: ms) Q) ((if v.mut = true then Out.ok v (ρ2.set i none) else .stuck).bind fun v ρ => .ok (v :: p.1, i :: p.2) ρ) := h2
        split at h2
        · rename_i hm
          obtain ⟨V2, hV2, sl⟩ := rp2.slot i v true e2
          rw [hV] at hV2
          cases hV2
          unfold SlotR at sl
          rw [hm, if_pos (show (true && true) = true from rfl)] at sl
          obtain ⟨a, ob, rfl, ha⟩ := sl.1.ref hm
          have own0 : Own ρ2 σ a := ⟨i, v, e2, hm, hV⟩
          have no1 : ¬ Own (ρ2.set i none) σ a := fun z => by
            obtain ⟨_, j, w, hj, e3, m3, s3⟩ := own_drop z
            exact hj (rp2.inj j i w v a e3 m3 e2 hm s3 hV)
          have st1 : Step F2 H2 (Own ρ2 σ) F2 H2 (Own (ρ2.set i none) σ) := Step.refl.less fun b z => (own_drop z).1
          have h3 : ArgG X.K X.mg σ F H (Own ρ σ) (true :: ms) Q (v :: p.1, i :: p.2) (ρ2.set i none) F2 H2 := h2 F2 H2 rp2.drop st1
          have la : (argEnv (ms.take p.1.length) p.1).length = (vs.map some).length := by
            rw [argEnv_len (by rw [List.length_take]; omega), List.length_take, List.length_map, hl]
            omega
          have es : argEnv (ms.take p.1.length) p.1 ++ ρ2.set i none = (argEnv (ms.take p.1.length) p.1 ++ ρ2).set ((argEnv (ms.take p.1.length) p.1).length + i) none := by
            rw [List.set_append_right _ _ (Nat.le_add_right _ _), Nat.add_sub_cancel_left]
          refine h3 (.ref a :: vs) (by show vs.length + 1 = p.1.length + 1; rw [hl]) (Nat.succ_le_succ hm2) ?_ ?_ (.own hm hV tk)
          · show Rp X.K X.mg F2 H2 (some (.ref a) :: (vs.map some ++ σ)) (some (v, true && v.mut) :: (argEnv (ms.take p.1.length) p.1 ++ ρ2.set i none))
            refine Rp.cons (by rw [es]; exact rpa.drop) ?_ fun _ _ b eb => ?_
            · unfold SlotR
              rw [hm, if_pos (show (true && true && true) = true from rfl)]
              exact sl
            · cases eb
              intro z
              rw [own_app la] at z
              exact z.elim (fun z => rpa.apart la z own0) no1
          · refine sta.less fun b hb => ?_
            have hb : Own (some (v, true && v.mut) :: (argEnv (ms.take p.1.length) p.1 ++ ρ2.set i none)) (some (.ref a) :: (vs.map some ++ σ)) b := hb
            rw [own_cons] at hb
            rw [own_app la]
            rcases hb with ⟨_, _, eb⟩ | hb
            · cases eb; exact .inr own0
            · rw [own_app la] at hb
              exact hb.imp id fun z => (own_drop z).1
        · exact h2.elim
end
end Rv

/-! Rv, part 15: calls of the program's own. -/
namespace Rv
open PySem PySem.Spec PyProof.Rows L2

section
variable {K : PySem.W.Frag} {mg : Str → Option Value} {F F0 F' H H0 H' : Hp} {σ τ : L2.St} {ρ α ρ0 ρ' : Env} {O O' O0 : Addr → Prop}
theorem argEnv_app : ∀ {m1 m2 : List Bool} {a1 a2 : List Val}, m1.length = a1.length → argEnv (m1 ++ m2) (a1 ++ a2) = argEnv m1 a1 ++ argEnv m2 a2
  | [], m2, [], a2, _ => rfl
  | m :: m1, m2, v :: a1, a2, h => by
    show some (v, m && v.mut) :: argEnv (m1 ++ m2) (a1 ++ a2) = _
    rw [argEnv_app (Nat.succ.inj h)]
    rfl
  | [], _, _ :: _, _, h => nomatch h
  | _ :: _, _, [], _, h => nomatch h
theorem fz_look : ∀ {ms : List Bool} {ds : List Val} {dvs : List V}, RVs K mg F ds dvs → ms.length = ds.length → ∀ {i : Nat} {v : Val} {o : Bool}, lookS (argEnv ms ds) i = some (v, o) → ∃ x, (dvs.map some)[i]? = some (some x) ∧ RV K mg F v x
  | m :: ms, d :: ds, _, .cons a b, hl, 0, v, o, e => by
    have e : some (d, m && Val.mut d) = some (v, o) := e
    cases e
    exact ⟨_, rfl, a⟩
  | m :: ms, d :: ds, _, .cons a b, hl, i + 1, v, o, e => fz_look (ms := ms) (i := i) b (Nat.succ.inj hl) e
  | [], [], _, .nil, _, i, v, o, e => by
    have e : lookS [] i = some (v, o) := e
    unfold lookS at e
    simp at e
  | [], _ :: _, _, _, hl, _, _, _, _ => nomatch hl
  | _ :: _, [], _, _, hl, _, _, _, _ => nomatch hl
/-- values that stand for ever, put behind -/
theorem Rp.appFz (rp : Rp K mg F H τ α) : ∀ {ms : List Bool} {ds : List Val} {dvs : List V}, RVs K mg F ds dvs → ms.length = ds.length → ms.all (!·) = true →
    Rp K mg F H (τ ++ dvs.map some) (α ++ argEnv ms ds) ∧ ∀ a, Own (α ++ argEnv ms ds) (τ ++ dvs.map some) a → Own α τ a := by
  intro ms ds dvs r hl hm
  have hn : ∀ {i : Nat} {v : Val}, lookS (argEnv ms ds) i ≠ some (v, true) := fun {i v} e => by
    have z := argEnv_look e
    have := List.all_eq_true.mp hm true (List.mem_of_getElem? z)
    cases this
  have key := @fz_look K mg F
  have hdl : (argEnv ms ds).length = dvs.length := by
    rw [argEnv_len (hl.symm), hl, r.length]
  have ow : ∀ a, Own (α ++ argEnv ms ds) (τ ++ dvs.map some) a → Own α τ a := fun a h => by
    rw [own_app rp.len] at h
    exact h.elim id fun ⟨i, v, e, _⟩ => absurd e hn
  have lo : ∀ {i v}, lookS (α ++ argEnv ms ds) i = some (v, true) → i < α.length ∧ lookS α i = some (v, true) := fun {i v} e => by
    rw [lookS_app] at e
    split at e
    · rename_i h; exact ⟨h, e⟩
    · exact absurd e hn
  refine ⟨⟨rp.sub, by rw [List.length_append, List.length_append, rp.len, hdl, List.length_map], fun i v o e => ?_, fun i j v w a e1 m1 e2 m2 s1 s2 => ?_⟩, ow⟩
  · rw [lookS_app] at e
    by_cases h : i < α.length
    · rw [if_pos h] at e
      obtain ⟨x, hx, sl⟩ := rp.slot i v o e
      exact ⟨x, by rw [List.getElem?_append_left (by rw [← rp.len]; exact h)]; exact hx, sl⟩
    · rw [if_neg h] at e
      obtain ⟨x, hx, rv⟩ := key r hl e
      refine ⟨x, by rw [List.getElem?_append_right (by rw [← rp.len]; omega), ← rp.len]; exact hx, ?_⟩
      unfold SlotR
      split
      · rename_i hc
        rw [Bool.and_eq_true] at hc
        rw [hc.1] at e
        exact absurd e hn
      · exact rv
  · obtain ⟨h1, e1⟩ := lo e1
    obtain ⟨h2, e2⟩ := lo e2
    rw [List.getElem?_append_left (by rw [← rp.len]; exact h1)] at s1
    rw [List.getElem?_append_left (by rw [← rp.len]; exact h2)] at s2
    exact rp.inj i j v w a e1 m1 e2 m2 s1 s2
/-- what the changed arguments were -/
theorem tk_own : ∀ {ms : List Bool} {args : List Val} {vs : List V} {is : List Nat}, TK σ ms args vs is → ∀ {i : Nat} {a : Addr}, ms[i]? = some true → vs[i]? = some (.ref a) → ∃ v, lookS (argEnv ms args) i = some (v, true) ∧ v.mut = true
  | _, _, _, _, .nil, i, a, _, h => by simp at h
  | _, _, _, _, .own hm _ t, 0, a, h1, h2 => ⟨_, by show some (_, true && Val.mut _) = _; rw [hm]; rfl, hm⟩
  | _, _, _, _, .own hm _ t, i + 1, a, h1, h2 => tk_own (i := i) t h1 h2
  | _, _, _, _, .fz t, 0, a, h1, _ => by cases h1
  | _, _, _, _, .fz t, i + 1, a, h1, h2 => tk_own (i := i) t h1 h2
/-- the names get their objects back -/
theorem give_ok {dvs : List V} : ∀ {ms : List Bool} {args : List Val} {vs : List V} {is : List Nat}, TK σ ms args vs is → ∀ {ρ ρ' : Env} {fins : List Val}, FinR K mg F' H' ms (vs ++ dvs) fins → Rp K mg F' H' σ ρ → giveBack ρ is fins = some ρ' →
    (∀ (i : Nat) (a : Addr), ms[i]? = some true → vs[i]? = some (L2.V.ref a) → ¬ Own ρ σ a) → (∀ (i j : Nat) (a : Addr), ms[i]? = some true → ms[j]? = some true → vs[i]? = some (L2.V.ref a) → vs[j]? = some (L2.V.ref a) → i = j) →
    Rp K mg F' H' σ ρ' ∧ ∀ a, Own ρ' σ a → Own ρ σ a ∨ modeAt ms (vs ++ dvs) a
  | _, _, _, _, .nil, ρ, ρ', fins, f, rp, e, _, _ => by
    cases fins with
    | nil =>
      have e : some ρ = some ρ' := e
      cases e
      exact ⟨rp, fun a h => .inl h⟩
    | cons v fins => exact nomatch (show (none : Option Env) = some _ from e)
  | _, _, _, _, @TK.fz _ ms v args x vs is t, ρ, ρ', fins, f, rp, e, hn, hd => by
    obtain ⟨r1, r2⟩ := give_ok t (ρ := ρ) (ρ' := ρ') (fins := fins) f rp e (fun i a h1 h2 => hn (i + 1) a h1 h2) fun i j a h1 h2 h3 h4 => Nat.succ.inj (hd (i + 1) (j + 1) a h1 h2 h3 h4)
    exact ⟨r1, fun a h => (r2 a h).imp id fun ⟨i, h1, h2⟩ => ⟨i + 1, h1, h2⟩⟩
  | _, _, _, _, @TK.own _ ms v args x vs i is hm hs t, ρ, ρ', fins, f, rp, e, hn, hd => by
    cases fins with
    | nil => exact (show False from f).elim
    | cons w fins =>
      obtain ⟨⟨wm, r1, nf⟩, f'⟩ := (show (w.mut = true ∧ R1 K mg F' H' w x ∧ ∀ a, x = .ref a → F' a = none) ∧ FinR K mg F' H' ms (vs ++ dvs) fins from f)
      have e : giveBack (ρ.set i (some (w, true))) is fins = some ρ' := e
      have sl : SlotR K mg F' H' w true x := by
        unfold SlotR
        rw [wm, if_pos (show (true && true) = true from rfl)]
        exact ⟨r1, nf⟩
      have rp1 := rp.give hs sl fun _ a ea => hn 0 a rfl (by show some x = _; rw [ea])
      have ow1 : ∀ a, Own (ρ.set i (some (w, true))) σ a → Own ρ σ a ∨ x = .ref a := fun a ⟨j, u, e1, m1, s1⟩ => by
        rw [lookS_set] at e1
        split at e1
        · rename_i hj
          rw [← hj.1, hs] at s1
          cases s1
          exact .inr rfl
        · exact .inl ⟨j, u, e1, m1, s1⟩
      obtain ⟨r2, r3⟩ := give_ok t f' rp1 e (fun j a h1 h2 z => by
        rcases ow1 a z with z | z
        · exact hn (j + 1) a h1 h2 z
        · exact absurd (hd 0 (j + 1) a rfl h1 (by show some x = _; rw [z]) h2) (Nat.succ_ne_zero j).symm) fun j k a h1 h2 h3 h4 => Nat.succ.inj (hd (j + 1) (k + 1) a h1 h2 h3 h4)
      refine ⟨r2, fun a h => ?_⟩
      rcases r3 a h with z | ⟨j, h1, h2⟩
      · rcases ow1 a z with z | z
        · exact .inl z
        · exact .inr ⟨0, rfl, by show some x = _; rw [z]⟩
      · exact .inr ⟨j + 1, h1, h2⟩
theorem modeAt_app {ms : List Bool} {vs dvs : List V} {a : Addr} (hl : (ms.drop vs.length).all (!·) = true) (h : modeAt ms (vs ++ dvs) a) : ∃ i : Nat, ms[i]? = some true ∧ vs[i]? = some (.ref a) := by
  obtain ⟨i, h1, h2⟩ := h
  by_cases hi : i < vs.length
  · exact ⟨i, h1, by rw [List.getElem?_append_left hi] at h2; exact h2⟩
  · exfalso
    have : (ms.drop vs.length)[i - vs.length]? = some true := by rw [List.getElem?_drop, show vs.length + (i - vs.length) = i by omega]; exact h1
    have := List.all_eq_true.mp hl true (List.mem_of_getElem? this)
    cases this
theorem argEnv_take : ∀ {ms : List Bool} {args : List Val}, argEnv (ms.take args.length) args = argEnv ms args
  | [], [] => rfl
  | [], _ :: _ => rfl
  | _ :: _, [] => rfl
  | m :: ms, v :: args => by
    show some (v, m && v.mut) :: argEnv (ms.take args.length) args = some (v, m && v.mut) :: argEnv ms args
    rw [argEnv_take]
variable {mg : Str → Option Value} {W : WX} {Q : VK}
/-- the end of a call, seen by the caller -/
theorem back_ok {I : FnI} {args : List Val} {vs dvs : List V} {is : List Nat} {fins : List Val} {ρ' : Env} (hl : vs.length = args.length) (hm : args.length ≤ I.modes.length) (hst : (I.modes.drop args.length).all (!·) = true)
    (rpa : Rp K mg F H (vs.map some ++ σ) (argEnv I.modes args ++ ρ)) (tk : TK σ I.modes args vs is) (sub : Same F' H') (st : Step F H (Own (argEnv I.modes args) (vs.map some)) F' H' (modeAt I.modes (vs ++ dvs))) (fin : FinR K mg F' H' I.modes (vs ++ dvs) fins) (e : giveBack ρ is fins = some ρ') :
    Rp K mg F' H' σ ρ' ∧ Step F H (Own (argEnv I.modes args ++ ρ) (vs.map some ++ σ)) F' H' (Own ρ' σ) ∧ ∀ a, Own ρ' σ a → Own ρ σ a ∨ modeAt I.modes (vs ++ dvs) a := by
  have la : (argEnv I.modes args).length = (vs.map some).length := by
    rw [← argEnv_take, argEnv_len (by rw [List.length_take]; omega), List.length_take, List.length_map, hl]
    omega
  have rp1 := rpa.fst la
  have ap : ∀ a, Own ρ σ a → ¬ Own (argEnv I.modes args) (vs.map some) a := fun a h2 h1 => rpa.apart la h1 h2
  have own_of : ∀ {i : Nat} {a : Addr}, I.modes[i]? = some true → vs[i]? = some (L2.V.ref a) → ∃ v, lookS (argEnv I.modes args) i = some (v, true) ∧ v.mut = true ∧ (vs.map some)[i]? = some (some (L2.V.ref a)) := fun {i a} h1 h2 => by
    obtain ⟨v, e1, m1⟩ := tk_own tk h1 h2
    exact ⟨v, e1, m1, by rw [List.getElem?_map, h2]; rfl⟩
  have rp3 : Rp K mg F' H' σ ρ := (rpa.snd la).frame st sub ap
  obtain ⟨r1, r2⟩ := give_ok tk fin rp3 e (fun i a h1 h2 z => by
    obtain ⟨v, e1, m1, s1⟩ := own_of h1 h2
    exact ap a z ⟨i, v, e1, m1, s1⟩) fun i j a h1 h2 h3 h4 => by
    obtain ⟨v, e1, m1, s1⟩ := own_of h1 h3
    obtain ⟨w, e2, m2, s2⟩ := own_of h2 h4
    exact rp1.inj i j v w a e1 m1 e2 m2 s1 s2
  refine ⟨r1, ?_, r2⟩
  have st' := st.weak (O' := Own (argEnv I.modes args ++ ρ) (vs.map some ++ σ)) fun a z => (own_app la).mpr (.inl z)
  refine ⟨st'.ff, st'.kp, st'.nf, fun a z => ?_, st'.al⟩
  rcases r2 a z with q | q
  · exact .inl ((own_app la).mpr (.inr q))
  · exact st'.no a q
theorem call_ok {I : FnI} {run : List Val → CRes} {args ds : List Val} {vs dvs : List V} {is : List Nat} (hd : RVs K mg F ds dvs) (hl : vs.length = args.length) (hm : args.length ≤ I.modes.length) (hst : I.modes.length ≤ args.length + ds.length → (I.modes.drop args.length).all (!·) = true)
    (rpa : Rp K mg F H (vs.map some ++ σ) (argEnv I.modes args ++ ρ)) (sta : Step F0 H0 (Own ρ0 σ) F H (Own (argEnv I.modes args ++ ρ) (vs.map some ++ σ))) (tk : TK σ I.modes args vs is)
    (h : PostE K mg H0 F0 H0 σ ρ0 W Q (if (args ++ ds).length = I.modes.length then (run (args ++ ds)).out I.fresh is ρ else .stuck)) : spC K mg I run (vs ++ dvs) H Q fun cv d H' => W cv d σ H' := by
  split at h
  · rename_i hlen
    have la : (argEnv I.modes args).length = (vs.map some).length := by
      rw [← argEnv_take, argEnv_len (by rw [List.length_take]; omega), List.length_take, List.length_map, hl]
      omega
    have rp1 := rpa.fst la
    rw [List.length_append] at hlen
    replace hst := hst (by omega)
    obtain ⟨rp2, ow2⟩ := rp1.appFz (ms := I.modes.drop args.length) hd (by rw [List.length_drop]; omega) hst
    have ee : argEnv I.modes args ++ argEnv (I.modes.drop args.length) ds = argEnv I.modes (args ++ ds) := by
      rw [← argEnv_take (ms := I.modes), ← argEnv_app (by rw [List.length_take]; omega), List.take_append_drop]
    rw [ee] at rp2 ow2
    rw [← List.map_append] at rp2 ow2
    have dl := hd.length
    refine ⟨F, args ++ ds, by rw [List.length_append]; exact hlen, by rw [List.length_append]; omega, rp2, ?_⟩
    cases hr : run (args ++ ds) with
    | stuck => rw [hr] at h; exact h.elim
    | ok v fins =>
      rw [hr] at h
      intro F' H' x sub st fin ret
      have st1 : Step F H (Own (argEnv I.modes args) (vs.map some)) F' H' (modeAt I.modes (vs ++ dvs)) := st.weak ow2
      replace h : PostE K mg H0 F0 H0 σ ρ0 W Q (match giveBack ρ is fins with
        | some ρ' => .ok ⟨v, if I.fresh && v.mut then .fr else .fz⟩ ρ'
        | none => .stuck) := h
      cases e : giveBack ρ is fins with
      | none => rw [e] at h; exact h.elim
      | some ρ' =>
        rw [e] at h
        obtain ⟨r1, r2, r3⟩ := back_ok hl hm hst rpa tk sub st1 fin e
        have rpσ := rpa.snd la
        unfold RetR at ret
        refine h F' H' r1 (sta.trans r2) x ?_ ?_
        · by_cases hc : (I.fresh && v.mut) = true
          · rw [if_pos hc] at ret ⊢
            refine ⟨ret.1, fun a ea => ?_⟩
            obtain ⟨q1, q2, q3, q4⟩ := ret.2 a ea
            refine ⟨q1, fun z => ?_, q4⟩
            rcases r3 a z with y | y
            · obtain ⟨⟨o, ho⟩, _⟩ := rpσ.own_there y
              rw [q3] at ho; cases ho
            · exact q2 y
          · rw [if_neg hc] at ret ⊢
            exact ret
        · intro z a ea
          by_cases hc : (I.fresh && v.mut) = true
          · rw [if_pos hc] at ret
            obtain ⟨_, _, q3, _⟩ := ret.2 a ea
            exact Classical.byContradiction fun q => sta.al a q q3
          · replace z : (if (I.fresh && v.mut) = true then Src.fr else Src.fz) = .fr := z
            rw [if_neg hc] at z
            cases z
    | exc y fins =>
      rw [hr] at h
      intro cv d F' H' sub st fin rx
      have st1 : Step F H (Own (argEnv I.modes args) (vs.map some)) F' H' (modeAt I.modes (vs ++ dvs)) := st.weak ow2
      replace h : PostE K mg H0 F0 H0 σ ρ0 W Q (match giveBack ρ is fins with
        | some ρ' => .exc y ρ'
        | none => .stuck) := h
      cases e : giveBack ρ is fins with
      | none => rw [e] at h; exact h.elim
      | some ρ' =>
        rw [e] at h
        obtain ⟨r1, r2, r3⟩ := back_ok hl hm hst rpa tk sub st1 fin e
        exact h cv d F' H' r1 (sta.trans r2) rx
  · exact h.elim
end

theorem evArgs_len {C : Ctx} : ∀ {cs : List Ex} {ms : List Bool} {ρ ρ' : Env} {p : List Val × List Nat}, evArgs C ms cs ρ = .ok p ρ' → p.1.length = cs.length
  | [], ms, ρ, ρ', p, e => by
    have e : Out.ok ([], []) ρ = .ok p ρ' := by cases ms <;> exact e
    cases e
    rfl
  | c :: cs, [], ρ, ρ', p, e => nomatch (show (Out.stuck : Out (List Val × List Nat)) = _ from e)
  | c :: cs, m :: ms, ρ, ρ', p, e => by
    have key : ∀ {α : Type} {o : Out α} {g : α → Env → Out Val} {h : List Val × List Nat → List Val × List Nat}, True := trivial
    cases m with
    | false =>
      have e : ((evE C c ρ).bind fun r ρ => (fzR r ρ).bind fun v ρ => (evArgs C ms cs ρ).bind fun p ρ => .ok (v :: p.1, p.2) ρ) = .ok p ρ' := e
      cases e1 : evE C c ρ with
      | ok r ρ1 =>
        rw [e1] at e
        replace e : ((fzR r ρ1).bind fun v ρ => (evArgs C ms cs ρ).bind fun p ρ => .ok (v :: p.1, p.2) ρ) = .ok p ρ' := e
        cases e2 : fzR r ρ1 with
        | ok v ρ2 =>
          rw [e2] at e
          replace e : ((evArgs C ms cs ρ2).bind fun p ρ => .ok (v :: p.1, p.2) ρ) = .ok p ρ' := e
          cases e3 : evArgs C ms cs ρ2 with
          | ok q ρ3 =>
            rw [e3] at e
            cases e
            show q.1.length + 1 = cs.length + 1
            rw [evArgs_len e3]
          | exc x ρ3 => rw [e3] at e; cases e
          | stuck => rw [e3] at e; cases e
        | exc x ρ3 => rw [e2] at e; cases e
        | stuck => rw [e2] at e; cases e
      | exc x ρ3 => rw [e1] at e; cases e
      | stuck => rw [e1] at e; cases e
    | true =>
      cases c <;> first | exact nomatch (show (Out.stuck : Out (List Val × List Nat)) = _ from e) | skip
      rename_i i
      have e : (match lookS ρ i with
        | some _ => (evArgs C ms cs ρ).bind fun p ρ => (take ρ i).bind fun v ρ => .ok (v :: p.1, i :: p.2) ρ
        | none => .stuck) = .ok p ρ' := e
      cases e0 : lookS ρ i with
      | none => rw [e0] at e; cases e
      | some q0 =>
        rw [e0] at e
        replace e : ((evArgs C ms cs ρ).bind fun p ρ => (take ρ i).bind fun v ρ => .ok (v :: p.1, i :: p.2) ρ) = .ok p ρ' := e
        cases e3 : evArgs C ms cs ρ with
        | ok q ρ3 =>
          rw [e3] at e
          replace e : ((take ρ3 i).bind fun v ρ => .ok (v :: q.1, i :: q.2) ρ) = .ok p ρ' := e
          cases e2 : take ρ3 i with
          | ok v ρ2 =>
            rw [e2] at e
            cases e
            show q.1.length + 1 = cs.length + 1
            rw [evArgs_len e3]
          | exc x ρ2 => rw [e2] at e; cases e
          | stuck => rw [e2] at e; cases e
        | exc x ρ3 => rw [e3] at e; cases e
        | stuck => rw [e3] at e; cases e
/-- what is known of a def that is called with n written values (self among them) -/
def FnCall (X : Cx) (C : Ctx) (k : Nat) (fa : Addr) (f : Str) (I : FnI) (n : Nat) : Prop := ∃ dvs, (∀ F, RVs X.K X.mg F (I.dflt.drop (I.dflt.length + n - I.modes.length)) dvs) ∧ (I.modes.length ≤ n + I.dflt.length → (I.modes.drop n).all (!·) = true) ∧
  FnR X.prog X.w X.K X.mg X.base (L2.CX X.prog X.w) k fa fun vs H Q E => vs.length = n ∧ spC X.K X.mg I (C.run f) (vs ++ dvs) H Q E
section
variable {X : Cx} {C : Ctx} {W : WX} {k : Nat} {fa : Addr} {x f : Str} {I : FnI} {p pos : Pos} {es : List Expr} {cs : List Ex}
/-- f(..) -/
theorem se_callF (hI : C.fn x = some I) (hc : FnCall X C k fa x I es.length) (hr : Room k X.A) (hg : Gl X x) (hm : X.mg x = some (.ref fa)) (hk : PySem.W.keepIn X.K (.ref fa) = true) (tk : Takes X W) (hdb : (x == ("__debug__" : Str)) = false) (hst : es.all noStar = true) (hlen : es.length = cs.length)
    (ha : SArgs X C W I.modes es cs) : SE X C W (.Call (.Name x p) es [] pos) (.callF x cs) := by
  obtain ⟨dvs, hd, hdm, hF⟩ := hc
  have fin : ∀ σ H Q, rdE X.K X.mg C W (.callF x cs) σ H Q → rdArgs X.K X.mg C W I.modes cs σ H fun vs H1 => vs.length = es.length ∧ spC X.K X.mg I (C.run x) (vs ++ dvs) H1 Q fun cv d H' => W cv d σ H' := fun σ H Q ⟨F, ρ, rp, h⟩ => by
    replace h : PostE X.K X.mg H F H σ ρ W Q (match C.fn x with
      | some I => (evArgs C I.modes cs ρ).bind fun p ρ => callV C I x [] p ρ
      | none => .stuck) := h
    rw [hI] at h
    replace h : PostE X.K X.mg H F H σ ρ W Q ((evArgs C I.modes cs ρ).bind fun p ρ => callV C I x [] p ρ) := h
    refine ⟨F, ρ, rp, ?_⟩
    cases e : evArgs C I.modes cs ρ with
    | stuck => rw [e] at h; exact h
    | exc y ρ1 => rw [e] at h; exact h
    | ok p ρ1 =>
      rw [e] at h
      intro F1 H1 rp1 st1 vs hl hm2 rpa sta tk
      rw [argEnv_take] at rpa sta
      have hn : p.1.length = es.length := by rw [hlen]; exact evArgs_len e
      refine ⟨by rw [hl, hn], ?_⟩
      exact call_ok (hd F1) hl hm2 (fun z => by rw [hn]; exact hdm (by rw [List.length_drop] at z; omega)) rpa sta tk (by rw [← hn]; exact h)
  cases es with
  | nil =>
    exact pe_imp (pe_callW0 hF hr hg hm hk tk hdb) fun σ H Q h => by
      obtain ⟨F, ρ, rp, h2⟩ := fin σ H Q h
      cases cs with
      | cons c cs => cases hlen
      | nil => exact h2 F H rp Step.refl [] rfl (Nat.zero_le _) (by simpa [argEnv] using rp) (by simpa [argEnv] using Step.refl) .nil
  | cons e es =>
    rw [List.all_cons, Bool.and_eq_true] at hst
    exact pe_imp (pe_callW hF hr hg hm hk tk hdb ha (starEach_cons hst.1) (noStars hst.2)) fin
/-- self, ahead of the arguments -/
theorem self_in {K : PySem.W.Frag} {mg : Str → Option Value} {F0 H0 F H : Hp} {σ : L2.St} {O0 : Addr → Prop} {ρ : Env} {ms : List Bool} {p : List Val} {vs : List V} {v : Val} {x : V} {is : List Nat} (rv : RV K mg F v x) (rpa : Rp K mg F H (vs.map some ++ σ) (argEnv ms p ++ ρ)) (sta : Step F0 H0 O0 F H (Own (argEnv ms p ++ ρ) (vs.map some ++ σ))) (tk : TK σ ms p vs is) :
    Rp K mg F H ((x :: vs).map some ++ σ) (argEnv (false :: ms) (v :: p) ++ ρ) ∧ Step F0 H0 O0 F H (Own (argEnv (false :: ms) (v :: p) ++ ρ) ((x :: vs).map some ++ σ)) ∧ TK σ (false :: ms) (v :: p) (x :: vs) is := by
  refine ⟨?_, ?_, .fz tk⟩
  · show Rp K mg F H (some x :: (vs.map some ++ σ)) (some (v, false && v.mut) :: (argEnv ms p ++ ρ))
    refine rpa.cons ?_ fun z => by cases z
    unfold SlotR
    rw [Bool.false_and, Bool.false_and, if_neg Bool.false_ne_true]
    exact rv
  · refine sta.less fun b hb => ?_
    have hb : Own (some (v, false && v.mut) :: (argEnv ms p ++ ρ)) (some x :: (vs.map some ++ σ)) b := hb
    rw [own_cons] at hb
    exact hb.elim (fun z => by cases z.1) id
theorem zip_none {m : Str} : ∀ {ns : List Str} {Vs : List V}, ns.contains m = false → (ns.zip Vs).lookup m = none
  | [], _, _ => rfl
  | _ :: _, [], _ => rfl
  | n :: ns, x :: Vs, h => by
    rw [List.contains_cons, Bool.or_eq_false_iff] at h
    show (match m == n with
      | true => some x
      | false => (ns.zip Vs).lookup m) = none
    rw [h.1]
    exact zip_none h.2
theorem selfV_inv {m f : Str} {I : FnI} {v : Val} (e : selfV C m v = some (f, I)) : ∃ c ns vs, v = .ins c ns vs ∧ ns.contains m = false ∧ C.meth c m = some f ∧ C.fn f = some I ∧ ∃ ms, I.modes = false :: ms := by
  unfold selfV at e
  split at e
  · rename_i c ns vs
    split at e
    · cases e
    · rename_i hn
      split at e
      · rename_i g h1
        split at e
        · rename_i J h2
          split at e
          · rename_i h3
            cases e
            refine ⟨c, ns, vs, rfl, by simpa using hn, h1, h2, ?_⟩
            cases hm : I.modes with
            | nil => rw [hm] at h3; cases h3
            | cons b ms =>
              rw [hm] at h3
              have h3 : some b = some false := h3
              cases h3
              exact ⟨ms, rfl⟩
          · cases e
        · cases e
      · cases e
  · cases e
/-- what is known of the methods of a name, called with n written values (self among them) -/
def MethOk (X : Cx) (C : Ctx) (k : Nat) (m : Str) (n : Nat) : Prop := ∀ c D f I, C.meth c m = some f → C.fn f = some I → X.mg c = some (.ref D) → Cls X.K D ∧ ∃ fa, Meth X.K D m fa ∧ FnCall X C k fa f I n
def CallOk (X : Cx) (C : Ctx) (k : Nat) (n : Nat) : Prop := ∀ c D f I, C.meth c "__call__" = some f → C.fn f = some I → X.mg c = some (.ref D) → ∃ fa, StX.CallO X.K D fa ∧ FnCall X C k fa f I n
/-- the arguments behind self -/
theorem self_call {σ : L2.St} {F0 H0 F H : Hp} {ρ0 ρ : Env} {I : FnI} {ms : List Bool} {v : Val} {V0 : V} {Q : VK} {n : Nat} {dvs : List V} (hI : I.modes = false :: ms) (hn : n = cs.length + 1) (st0 : Step F0 H0 (Own ρ0 σ) F H (Own ρ σ)) (rp : Rp X.K X.mg F H σ ρ) (rv : RV X.K X.mg F v V0)
    (hd : ∀ F, RVs X.K X.mg F (I.dflt.drop (I.dflt.length + n - I.modes.length)) dvs) (hdm : I.modes.length ≤ n + I.dflt.length → (I.modes.drop n).all (!·) = true)
    (h : PostE X.K X.mg H0 F0 H0 σ ρ0 W Q ((evArgs C ms cs ρ).bind fun p ρ => callV C I f [v] p ρ)) :
    rdArgs X.K X.mg C W ms cs σ H fun vs H1 => (V0 :: vs).length = n ∧ (∃ F1, Step F H (Own ρ σ) F1 H1 (fun _ => False) ∧ Same F1 H1) ∧ spC X.K X.mg I (C.run f) ((V0 :: vs) ++ dvs) H1 Q fun cv d H' => W cv d σ H' := by
  refine ⟨F, ρ, rp, ?_⟩
  cases e : evArgs C ms cs ρ with
  | stuck => rw [e] at h; exact h
  | exc y ρ1 =>
    rw [e] at h
    exact fun cv d F' H' rp' st' rx => h cv d F' H' rp' (st0.trans st') rx
  | ok p ρ1 =>
    rw [e] at h
    intro F1 H1 rp1 st1 vs hl hm2 rpa sta tk
    rw [argEnv_take] at rpa sta
    have hp : p.1.length = cs.length := evArgs_len e
    obtain ⟨a1, a2, a3⟩ := self_in (rv.mono sta.ff) rpa sta tk
    have hlen : ([v] ++ p.1).length = n := by rw [hn, ← hp]; rfl
    refine ⟨by show vs.length + 1 = n; rw [hl, hp, hn], ⟨F1, sta.less fun _ z => z.elim, rp1.sub⟩, ?_⟩
    have hrun : PostE X.K X.mg H0 F0 H0 σ ρ0 W Q (callV C I f [v] p ρ1) := h
    unfold callV at hrun
    rw [hlen] at hrun
    refine call_ok (args := v :: p.1) (hd F1) (by show vs.length + 1 = p.1.length + 1; rw [hl]) (by rw [hI]; exact Nat.succ_le_succ hm2) (fun z => ?_) (by rw [hI]; exact a1) (by rw [hI]; exact st0.trans a2) (by rw [hI]; exact a3) hrun
    have en : (v :: p.1).length = n := hlen
    rw [en] at z ⊢
    exact hdm (by rw [List.length_drop] at z; omega)
end
end Rv

/-! Rv, part 16: methods, called instances, new instances; a def keeps its promise. -/
namespace Rv
open PySem PySem.Spec PyProof.Rows L2

section
variable {X : Cx} {W : WX} {e : Expr} {es : List Expr} {m : Str} {p pos apos : Pos} {t : TA} {ta : TE}
def tMethD (X : Cx) (m : Str) (W : WX) (ta : TE) (t : TA) : TE := fun σ H Q => ta σ H fun x H1 => ∃ a D dx fs f k sp, x = .ref a ∧ H1 a = some (.ins D dx fs) ∧ Cls X.K D ∧ Meth X.K D m f ∧ FnR X.prog X.w X.K X.mg X.base (L2.CX X.prog X.w) k f sp ∧ Room k X.A ∧ fs.lookup m = none ∧
  t σ H1 fun vs H2 => sp (x :: vs) H2 Q fun cv d H' => W cv d σ H'
theorem pe_methD {pl : Sem Bool} {o : Expr} (he : PE X o ta) (tk : Takes X W) (ha : PA X (e :: es) t)
    (hst : starEach (e :: es) X.env = (false, eval e X.env) :: starEach es X.env) (hpl : (backTo pos (starEach es X.env)).any (·.1) = false)
    (ht : eval (.Call (.Attribute o m apos) (e :: es) [] pos) X.env = (do
      let ov ← eval o X.env
      standAt apos.atName
      let (f, first) ← holding [ov] (getMethod ov m pl)
      callWith pos f first (backTo pos (starEach (e :: es) X.env)) (backToKw pos (keywordEach [] X.env)))) :
    PE X (.Call (.Attribute o m apos) (e :: es) [] pos) (tMethD X m W ta t) := by
  refine ⟨fun pins s σ H Q I h => ?_⟩
  refine PySem.W.methodCall_KW (pl := pl) (thn (he.run pins s σ H _ I h) fun u s1 ⟨x, H1, I1, rx, a, D, dx, fs, f, k, sp, ex, ea, c, hm, F, hr, l, q⟩ => ?_) ht
  subst ex
  obtain rfl : u = Value.ref a := rx
  refine getmeth_ok I1 ea c hm l ?_
  refine PySem.W.callWith_K (first := [.ref a]) (h₀ := X.base) I.ok.mod.kin hm.kp (thn (ha.run pos pins s1 σ H1 _ I1 q) fun us s2 ⟨vs, H2, I2, r, q2⟩ => ⟨I2.kIn, ?_⟩) hst hpl
  exact wpAny_call (run_W (us := .ref a :: us) (vs := .ref a :: vs) F hr tk I2 (.cons rfl r) q2)
theorem pe_methD0 {pl : Sem Bool} {o : Expr} (he : PE X o ta) (tk : Takes X W)
    (ht : eval (.Call (.Attribute o m apos) [] [] pos) X.env = (do
      let ov ← eval o X.env
      standAt apos.atName
      let (f, first) ← holding [ov] (getMethod ov m pl)
      callWith pos f first (backTo pos (starEach [] X.env)) (backToKw pos (keywordEach [] X.env)))) :
    PE X (.Call (.Attribute o m apos) [] [] pos) (tMethD X m W ta tNil) := by
  refine ⟨fun pins s σ H Q I h => ?_⟩
  refine PySem.W.methodCall_KW (pl := pl) (thn (he.run pins s σ H _ I h) fun u s1 ⟨x, H1, I1, rx, a, D, dx, fs, f, k, sp, ex, ea, c, hm, F, hr, l, q⟩ => ?_) ht
  subst ex
  obtain rfl : u = Value.ref a := rx
  refine getmeth_ok I1 ea c hm l ?_
  exact PySem.W.callWith_K0 (first := [.ref a]) I1.kIn hm.kp (wpAny_call (run_W (us := [.ref a]) (vs := [.ref a]) F hr tk I1 (.cons rfl .nil) q))
def tCallD (X : Cx) (W : WX) (tf : TE) (t : TA) : TE := fun σ H Q => tf σ H fun y H1 => ∃ a D g k sp, y = V.ref a ∧ StX.CallO X.K D g ∧ FnR X.prog X.w X.K X.mg X.base (L2.CX X.prog X.w) k g sp ∧ Room k X.A ∧ t σ H1 fun vs H2 => (∃ dx fs, H2 a = some (.ins D dx fs)) ∧ sp (V.ref a :: vs) H2 Q fun cv d H' => W cv d σ H'
theorem pe_callD {fe : Expr} {tf : TE} (hf : PE X fe tf) (tk : Takes X W) (ha : PA X (e :: es) t)
    (ht : eval (.Call fe (e :: es) [] pos) X.env = (do callWith pos (← eval fe X.env) [] (backTo pos (starEach (e :: es) X.env)) (backToKw pos (keywordEach [] X.env))))
    (he : starEach (e :: es) X.env = (false, eval e X.env) :: starEach es X.env) (hpl : (backTo pos (starEach es X.env)).any (·.1) = false) : PE X (.Call fe (e :: es) [] pos) (tCallD X W tf t) := by
  refine ⟨fun pins s σ H Q I h => ?_⟩
  refine Call_ (thn (hf.run pins s σ H _ I h) fun u s1 ⟨y, H1, I1, ry, a, D, g, k, sp, ey, c, F, hr, q⟩ => ?_) ht
  subst ey
  obtain rfl : u = Value.ref a := ry
  refine StX.callO_with (thn (ha.run pos pins s1 σ H1 _ I1 q) fun us s2 ⟨vs, H2, I2, r, hi, q2⟩ => ?_) he hpl
  obtain ⟨ox, od, J, hd⟩ := StX.insC_at I2 (.inr hi)
  exact ⟨⟨D, ox, od, J, hd⟩, wpAny_call (PySem.W.kco_code I2.kIn J hd c.at_ c.fn c.fi (run_W (us := .ref a :: us) (vs := .ref a :: vs) F hr tk I2 (.cons rfl r) q2))⟩
theorem pa_ex {G : List Bool → Prop} {T : List Bool → TA} (h : ∀ ms, G ms → PA X es (T ms)) : PA X es fun σ H Q => ∃ ms, G ms ∧ T ms σ H Q := ⟨fun pos pins s σ H Q I ⟨ms, g, q⟩ => (h ms g).run pos pins s σ H Q I q⟩
end
section
variable {X : Cx} {C : Ctx} {W : WX} {k : Nat} {x f : Str} {e fe : Expr} {es : List Expr} {ce : Ex} {cs : List Ex} {p pos : Pos}
/-- o(..), o an expression that gives an instance -/
theorem se_callO (hf : SE X C W fe ce) (hc : CallOk X C k ((e :: es).length + 1)) (hr : Room k X.A) (tk : Takes X W) (hst : (e :: es).all noStar = true) (hlen : (e :: es).length = cs.length)
    (ha : ∀ c f I ms, C.meth c "__call__" = some f → C.fn f = some I → I.modes = false :: ms → SArgs X C W ms (e :: es) cs)
    (ht : eval (.Call fe (e :: es) [] pos) X.env = (do callWith pos (← eval fe X.env) [] (backTo pos (starEach (e :: es) X.env)) (backToKw pos (keywordEach [] X.env)))) :
    SE X C W (.Call fe (e :: es) [] pos) (.callO ce cs) := by
  rw [List.all_cons, Bool.and_eq_true] at hst
  refine pe_imp (pe_callD hf tk (pa_ex (G := fun ms => ∃ c f I, C.meth c "__call__" = some f ∧ C.fn f = some I ∧ I.modes = false :: ms) (T := fun ms => rdArgs X.K X.mg C W ms cs) fun ms ⟨c, f, I, h1, h2, h3⟩ => ha c f I ms h1 h2 h3) ht (starEach_cons hst.1) (noStars hst.2)) fun σ H Q ⟨F, ρ, rp, h⟩ => ?_
  replace h : PostE X.K X.mg H F H σ ρ W Q (((evE C ce ρ).bind fzR).bind fun v ρ => match selfV C "__call__" v with
    | some (f, I) => (evArgs C (I.modes.drop 1) cs ρ).bind fun p ρ => callV C I f [v] p ρ
    | none => .stuck) := h
  rw [Out.bind_assoc] at h
  refine ⟨F, ρ, rp, ?_⟩
  cases e0 : evE C ce ρ with
  | stuck => rw [e0] at h; exact h
  | exc y ρ1 => rw [e0] at h; exact h
  | ok r ρ1 =>
    rw [e0] at h
    intro F1 H1 rp1 st1 V rr fr
    replace h : PostE X.K X.mg H F H σ ρ W Q ((fzR r ρ1).bind fun v ρ => match selfV C "__call__" v with
      | some (f, I) => (evArgs C (I.modes.drop 1) cs ρ).bind fun p ρ => callV C I f [v] p ρ
      | none => .stuck) := h
    obtain ⟨v, ρ2, F2, rp2, st2, rv, _, h2⟩ := fz_ok st1 rp1 rr fr h
    cases e1 : selfV C "__call__" v with
    | none => rw [e1] at h2; exact h2.elim
    | some q =>
      obtain ⟨f, I⟩ := q
      rw [e1] at h2
      obtain ⟨c, ns, vs, rfl, hn, hm, hfn, ms, hms⟩ := selfV_inv e1
      replace h2 : PostE X.K X.mg H F H σ ρ W Q ((evArgs C (I.modes.drop 1) cs ρ2).bind fun p ρ => callV C I f [.ins c ns vs] p ρ) := h2
      rw [hms] at h2
      cases rv with
      | @ins a D dx _ _ Vs _ t m l r =>
        obtain ⟨fa, k1, dvs, hd, hdm, hF⟩ := hc c D f I hm hfn m
        refine ⟨a, D, fa, k, _, rfl, k1, hF, hr, ms, ⟨c, f, I, hm, hfn, hms⟩, ?_⟩
        obtain ⟨F', ρ', rp', z⟩ := self_call (n := (e :: es).length + 1) (V0 := .ref a) hms (by rw [hlen]) st2 rp2 (RV.ins t m l r) hd hdm h2
        refine ⟨F', ρ', rp', z.imp fun p ρ4 F4 H4 rp4 st4 q vs hl hm2 rpa sta tk => ?_⟩
        obtain ⟨q1, ⟨F5, st5, sub5⟩, q2⟩ := q vs hl hm2 rpa sta tk
        exact ⟨⟨dx, _, sub5 _ _ (st5.ff _ _ t)⟩, q1, q2⟩
end
end Rv

namespace Rv
open PySem PySem.Spec PyProof.Rows L2
section
variable {X : Cx} {C : Ctx} {W : WX} {k : Nat} {x f : Str} {fa D : Addr} {I : FnI} {es : List Expr} {cs : List Ex} {p pos : Pos}
theorem make_ok {σ : L2.St} {F0 H0 F H : Hp} {ρ0 ρ : Env} {Q : VK} {ms : List Bool} {args ds : List Val} {vs dvs : List V} {is : List Nat} {run : List Val → CRes} {a dx : Addr} {K : PySem.W.Frag} {mg : Str → Option Value}
    (hmg : mg x = some (.ref D)) (hI : I.modes = true :: ms) (hfr : I.fresh = false) (hd : RVs K mg F ds dvs) (hl : vs.length = args.length) (hm : args.length ≤ ms.length) (hst : ms.length ≤ args.length + ds.length → (ms.drop args.length).all (!·) = true)
    (rpa : Rp K mg F H (vs.map some ++ σ) (argEnv ms args ++ ρ)) (sta : Step F0 H0 (Own ρ0 σ) F H (Own (argEnv ms args ++ ρ) (vs.map some ++ σ))) (tk : TK σ ms args vs is) (ha : H a = none) (hdx : H dx = none) (hne : dx ≠ a)
    (h : PostE K mg H0 F0 H0 σ ρ0 W Q (if (.ins x [] [] :: args ++ ds).length = I.modes.length then (run (.ins x [] [] :: args ++ ds)).outM is ρ else .stuck)) :
    spC K mg I run (.ref a :: vs ++ dvs) (upd (upd H dx (.own a)) a (.ins D dx [])) (fun v H2 => v = .non ∧ Q (.ref a) H2) fun cv d H' => W cv d σ H' := by
  split at h
  · rename_i hlen
    rw [hI] at hlen
    have hlen : args.length + ds.length = ms.length := by
      have z : (args ++ ds).length + 1 = ms.length + 1 := hlen
      rw [List.length_append] at z
      omega
    replace hst := hst (by omega)
    have hf : F a = none := rpa.sub.free ha
    have ha2 : (upd H dx (.own a)) a = none := by rw [upd_ne (Ne.symm hne)]; exact ha
    have na : ¬ Own (argEnv ms args ++ ρ) (vs.map some ++ σ) a := rpa.own_free ha
    have rp2 : Rp K mg F (upd (upd H dx (.own a)) a (.ins D dx [])) (vs.map some ++ σ) (argEnv ms args ++ ρ) := (rpa.laid hdx).laid ha2
    have st2 : Step F H (Own (argEnv ms args ++ ρ) (vs.map some ++ σ)) F (upd (upd H dx (.own a)) a (.ins D dx [])) (Own (argEnv ms args ++ ρ) (vs.map some ++ σ)) := (Step.laid hdx).trans (Step.laid ha2)
    have rp3 : Rp K mg F (upd (upd H dx (.own a)) a (.ins D dx [])) (some (.ref a) :: (vs.map some ++ σ)) (some (.ins x [] [], true) :: (argEnv ms args ++ ρ)) :=
      rp2.cons ⟨⟨a, D, dx, [], rfl, upd_same, hmg, rfl, .nil⟩, fun b eb => by cases eb; exact hf⟩ fun _ _ b eb => by cases eb; exact na
    generalize hH : upd (upd H dx (.own a)) a (.ins D dx []) = H2 at rp2 st2 rp3 ⊢
    have rp4 : Rp K mg F H2 ((.ref a :: vs).map some ++ σ) (argEnv (true :: ms) (.ins x [] [] :: args) ++ ρ) := rp3
    have la : (argEnv (true :: ms) (.ins x [] [] :: args)).length = ((L2.V.ref a :: vs).map some).length := by
      rw [← argEnv_take, argEnv_len (by rw [List.length_take, List.length_cons, List.length_cons]; omega), List.length_take, List.length_map, List.length_cons, List.length_cons, List.length_cons, hl]
      omega
    have rp1 := rp4.fst la
    obtain ⟨rp5, ow5⟩ := rp1.appFz (ms := ms.drop args.length) hd (by rw [List.length_drop]; omega) hst
    have ee : argEnv (true :: ms) (.ins x [] [] :: args) ++ argEnv (ms.drop args.length) ds = argEnv I.modes (.ins x [] [] :: args ++ ds) := by
      rw [hI]
      show some (Val.ins x [] [], true && Val.mut _) :: (argEnv ms args ++ argEnv (ms.drop args.length) ds) = some (Val.ins x [] [], true && Val.mut _) :: argEnv ms (args ++ ds)
      rw [← argEnv_take (ms := ms), ← argEnv_app (by rw [List.length_take]; omega), List.take_append_drop]
    rw [ee] at rp5 ow5
    rw [← List.map_append] at rp5 ow5
    have dl := hd.length
    have ap : ∀ b, Own ρ σ b → ¬ Own (argEnv (true :: ms) (.ins x [] [] :: args)) ((L2.V.ref a :: vs).map some) b := fun b h2 h1 => rp4.apart la h1 h2
    have own_of : ∀ {i : Nat} {b : Addr}, ms[i]? = some true → vs[i]? = some (L2.V.ref b) → ∃ v, lookS (argEnv (true :: ms) (.ins x [] [] :: args)) (i + 1) = some (v, true) ∧ v.mut = true ∧ ((L2.V.ref a :: vs).map some)[i + 1]? = some (some (L2.V.ref b)) := fun {i b} h1 h2 => by
      obtain ⟨v, e1, m1⟩ := tk_own tk h1 h2
      exact ⟨v, e1, m1, by rw [List.getElem?_map]; show (vs[i]?).map some = _; rw [h2]; rfl⟩
    -- what the caller finds behind the call
    have back : ∀ {F' H' : Hp} {fins : List Val} {ρ' : Env}, Same F' H' → Step F H2 (Own (argEnv I.modes (.ins x [] [] :: args ++ ds)) ((.ref a :: vs ++ dvs).map some)) F' H' (modeAt I.modes (.ref a :: vs ++ dvs)) → FinR K mg F' H' ms (vs ++ dvs) fins → giveBack ρ is fins = some ρ' →
        Rp K mg F' H' σ ρ' ∧ Step F0 H0 (Own ρ0 σ) F' H' (Own ρ' σ) ∧ ¬ Own ρ' σ a := fun {F' H' fins ρ'} sub st fin e => by
      have st1 := st.weak ow5
      have rp6 : Rp K mg F' H' σ ρ := (rp4.snd la).frame st1 sub ap
      obtain ⟨r1, r2⟩ := give_ok tk fin rp6 e (fun i b h1 h2 z => by
        obtain ⟨v, e1, m1, s1⟩ := own_of h1 h2
        exact ap b z ⟨i + 1, v, e1, m1, s1⟩) fun i j b h1 h2 h3 h4 => by
        obtain ⟨v, e1, m1, s1⟩ := own_of h1 h3
        obtain ⟨w, e2, m2, s2⟩ := own_of h2 h4
        exact Nat.succ.inj (rp1.inj (i + 1) (j + 1) v w b e1 m1 e2 m2 s1 s2)
      have hfin : ∀ b, modeAt ms (vs ++ dvs) b → Own (argEnv ms args) (vs.map some) b := fun b z => by
        obtain ⟨i, h1, h2⟩ := modeAt_app (by rw [hl]; exact hst) z
        obtain ⟨v, e1, m1⟩ := tk_own tk h1 h2
        exact ⟨i, v, e1, m1, by rw [List.getElem?_map, h2]; rfl⟩
      have la2 : (argEnv ms args).length = (vs.map some).length := by
        rw [← argEnv_take, argEnv_len (by rw [List.length_take]; omega), List.length_take, List.length_map, hl]
        omega
      have inOld : ∀ b, Own ρ' σ b → Own (argEnv ms args ++ ρ) (vs.map some ++ σ) b := fun b z => by
        rw [own_app la2]
        exact (r2 b z).symm.imp (hfin b) id
      refine ⟨r1, ?_, fun z => na (inOld a z)⟩
      -- the steps: the arguments, the new objects, the call
      have s1 := sta.trans st2
      refine ⟨s1.ff.trans st1.ff, fun b o e n => ?_, fun b q => ?_, fun b q => s1.no b (inOld b q), fun b q => st1.al b (s1.al b q)⟩
      · refine st1.kp b o (s1.kp b o e n) fun z => ?_
        have z : Own (some (.ins x [] [], true && Val.mut _) :: argEnv ms args) (some (L2.V.ref a) :: vs.map some) b := z
        rw [own_cons] at z
        rcases z with ⟨_, _, eb⟩ | z
        · cases eb
          exact (sta.al a (by rw [e]; exact fun q => by cases q)) ha
        · rcases sta.no b ((own_app la2).mpr (.inl z)) with y | y
          · exact n y
          · rw [e] at y; cases y
      · rcases st1.nf b q with z | z | z
        · exact s1.nf b z
        · have z : Own (some (.ins x [] [], true && Val.mut _) :: argEnv ms args) (some (L2.V.ref a) :: vs.map some) b := z
          rw [own_cons] at z
          rcases z with ⟨_, _, eb⟩ | z
          · cases eb
            exact .inr (.inr (Classical.byContradiction fun q => sta.al a q ha))
          · exact (sta.no b ((own_app la2).mpr (.inl z))).elim (fun y => .inr (.inl y)) fun y => .inr (.inr y)
        · exact .inr (.inr (Classical.byContradiction fun q => s1.al b q z))
    refine ⟨F, .ins x [] [] :: args ++ ds, by rw [hI]; show (args ++ ds).length + 1 = ms.length + 1; rw [List.length_append, hlen], by rw [hI]; show (vs ++ dvs).length + 1 = ms.length + 1; rw [List.length_append]; omega, rp5, ?_⟩
    cases hr : run (.ins x [] [] :: args ++ ds) with
    | stuck => rw [hr] at h; exact h.elim
    | ok v fins =>
      rw [hr] at h
      intro F' H' y sub st fin ret
      cases v <;> first | exact h.elim | skip
      rw [hI] at fin
      cases fins with
      | nil => exact (show False from fin).elim
      | cons w fins =>
        obtain ⟨⟨wm, r1, nf⟩, fin'⟩ := (show (w.mut = true ∧ R1 K mg F' H' w (.ref a) ∧ ∀ b, V.ref a = .ref b → F' b = none) ∧ FinR K mg F' H' ms (vs ++ dvs) fins from fin)
        unfold RetR at ret
        rw [hfr, Bool.false_and, if_neg Bool.false_ne_true] at ret
        cases ret
        refine ⟨rfl, ?_⟩
        replace h : PostE K mg H0 F0 H0 σ ρ0 W Q (match giveBack ρ is fins with
          | some ρ' => .ok ⟨w, .fr⟩ ρ'
          | none => .stuck) := h
        cases e : giveBack ρ is fins with
        | none => rw [e] at h; exact h.elim
        | some ρ' =>
          rw [e] at h
          obtain ⟨b1, b2, b3⟩ := back sub st fin' e
          obtain ⟨b, o, eb, hb⟩ := r1.ref wm
          cases eb
          exact h F' H' b1 b2 (.ref a) ⟨r1, fun b eb => by cases eb; exact ⟨nf a rfl, b3, o, hb⟩⟩ fun _ b eb => by cases eb; exact Classical.byContradiction fun q => sta.al a q ha
    | exc y fins =>
      rw [hr] at h
      intro cv d F' H' sub st fin rx
      rw [hI] at fin
      cases fins with
      | nil => exact (show False from fin).elim
      | cons w fins =>
        obtain ⟨_, fin'⟩ := (show (w.mut = true ∧ R1 K mg F' H' w (.ref a) ∧ ∀ b, V.ref a = .ref b → F' b = none) ∧ FinR K mg F' H' ms (vs ++ dvs) fins from fin)
        replace h : PostE K mg H0 F0 H0 σ ρ0 W Q (match giveBack ρ is fins with
          | some ρ' => .exc y ρ'
          | none => .stuck) := h
        cases e : giveBack ρ is fins with
        | none => rw [e] at h; exact h.elim
        | some ρ' =>
          rw [e] at h
          obtain ⟨b1, b2, b3⟩ := back sub st fin' e
          exact h cv d F' H' b1 b2 rx
  · exact h.elim
/-- C(..) -/
theorem make_args {D : Addr} {dvs : List V} (hf : C.meth x "__init__" = some f) (hI : C.fn f = some I) (hd : ∀ F, RVs X.K X.mg F (I.dflt.drop (I.dflt.length + (es.length + 1) - I.modes.length)) dvs) (hdm : I.modes.length ≤ es.length + 1 + I.dflt.length → (I.modes.drop (es.length + 1)).all (!·) = true) (hm : X.mg x = some (.ref D)) (hlen : es.length = cs.length) : ∀ σ H Q, rdE X.K X.mg C W (.callC x cs) σ H Q → rdArgs X.K X.mg C W (I.modes.drop 1) cs σ H fun vs H1 => ∀ a dx, H1 a = none → H1 dx = none → dx ≠ a →
      (V.ref a :: vs).length = es.length + 1 ∧ spC X.K X.mg I (C.run f) ((V.ref a :: vs) ++ dvs) (upd (upd H1 dx (.own a)) a (.ins D dx [])) (fun v H2 => v = .non ∧ Q (.ref a) H2) fun cv d H' => W cv d σ H' := fun σ H Q ⟨F, ρ, rp, h⟩ => by
  replace h : PostE X.K X.mg H F H σ ρ W Q (match C.meth x "__init__" with
    | some f => match C.fn f with
      | some I => (evArgs C (I.modes.drop 1) cs ρ).bind fun p ρ => makeV C I x f p ρ
      | none => .stuck
    | none => .stuck) := h
  rw [hf] at h
  replace h : PostE X.K X.mg H F H σ ρ W Q (match C.fn f with
    | some I => (evArgs C (I.modes.drop 1) cs ρ).bind fun p ρ => makeV C I x f p ρ
    | none => .stuck) := h
  rw [hI] at h
  replace h : PostE X.K X.mg H F H σ ρ W Q ((evArgs C (I.modes.drop 1) cs ρ).bind fun p ρ => makeV C I x f p ρ) := h
  refine ⟨F, ρ, rp, ?_⟩
  cases e : evArgs C (I.modes.drop 1) cs ρ with
  | stuck => rw [e] at h; exact h
  | exc y ρ1 => rw [e] at h; exact h
  | ok p ρ1 =>
    rw [e] at h
    intro F1 H1 rp1 st1 vs hl hm2 rpa sta tk a dx h1 h2 hne
    rw [argEnv_take] at rpa sta
    have hn : p.1.length = es.length := by rw [hlen]; exact evArgs_len e
    refine ⟨by show vs.length + 1 = _; rw [hl, hn], ?_⟩
    replace h : PostE X.K X.mg H F H σ ρ W Q (makeV C I x f p ρ1) := h
    unfold makeV at h
    split at h
    · rename_i hc
      obtain ⟨c1, c2, c3⟩ := hc
      cases hms : I.modes with
      | nil => rw [hms] at c1; cases c1
      | cons b ms =>
        rw [hms] at c1
        have c1 : some b = some true := c1
        cases c1
        have ed : I.modes.drop 1 = ms := by rw [hms]; rfl
        rw [ed] at rpa sta tk hm2
        have en : I.dflt.length + p.1.length + 1 - I.modes.length = I.dflt.length + (es.length + 1) - I.modes.length := by rw [hn]; omega
        rw [en] at h c3
        refine make_ok (ds := I.dflt.drop (I.dflt.length + (es.length + 1) - I.modes.length)) hm hms c2 (hd F1) hl hm2 (fun z => ?_) rpa sta tk h1 h2 hne (by rw [if_pos c3]; exact h)
        have := hdm (by rw [List.length_drop] at z; rw [hms, List.length_cons]; omega)
        rw [hms] at this
        rw [hn]
        exact this
    · exact h.elim
theorem se_callC (hf : C.meth x "__init__" = some f) (hI : C.fn f = some I) (hc : FnCall X C k fa f I (es.length + 1)) (M : Mk X.K D fa) (hr : Room (k + 1) X.A) (hg : Gl X x) (hm : X.mg x = some (.ref D)) (tk : Takes X W) (hdb : (x == ("__debug__" : Str)) = false) (hst : es.all noStar = true) (hlen : es.length = cs.length)
    (ha : SArgs X C W (I.modes.drop 1) es cs) : SE X C W (.Call (.Name x p) es [] pos) (.callC x cs) := by
  obtain ⟨dvs, hd, hdm, hF⟩ := hc
  have fin := make_args (W := W) (es := es) (cs := cs) hf hI hd hdm hm hlen
  cases es with
  | nil =>
    exact pe_imp (pe_makeW0 M hF hr hg hm tk hdb) fun σ H Q h => by
      obtain ⟨F, ρ, rp, h2⟩ := fin σ H Q h
      cases cs with
      | cons c cs => cases hlen
      | nil => exact h2 F H rp Step.refl [] rfl (Nat.zero_le _) (by simpa [argEnv] using rp) (by simpa [argEnv] using Step.refl) .nil
  | cons e es =>
    rw [List.all_cons, Bool.and_eq_true] at hst
    exact pe_imp (pe_makeW M hF hr hg hm tk hdb ha (starEach_cons hst.1) (noStars hst.2)) fin
end
end Rv

/-! Rv, part 16b: a def that only looks at its arguments. -/
namespace Rv
open PySem PySem.Spec PyProof.Rows L2
section
variable {K : PySem.W.Frag} {mg : Str → Option Value} {F H : Hp}
theorem R1.all (e : Same F H) {v : Val} {x : V} (r : R1 K mg F H v x) : RV K mg H v x := by
  cases v with
  | lst xs => obtain ⟨a, Vs, rfl, h, l, r⟩ := r; exact .lst h l (r.mono e)
  | ins c ns vs => obtain ⟨a, C, dx, Vs, rfl, h, m, l, r⟩ := r; exact .ins h m l (r.mono e)
  | non => exact RV.mono e r
  | bl b => exact RV.mono e r
  | int i => exact RV.mono e r
  | str s => exact RV.mono e r
  | tup xs => exact RV.mono e r
  | scr ns => exact RV.mono e r
  | glb y => exact RV.mono e r
  | typ n => exact RV.mono e r
theorem R1s.all (e : Same F H) : ∀ {vs : List Val} {xs : List V}, R1s K mg F H vs xs → RVs K mg H vs xs
  | _, _, .nil => .nil
  | _, _, .cons a b => .cons (a.all e) (R1s.all e b)
theorem flat_any {F' : Hp} {v : Val} {x : V} (h : isFlat v = true) (r : RV K mg F v x) : RV K mg F' v x := by
  cases v <;> first | exact (Bool.false_ne_true h).elim | skip
  all_goals cases r
  · exact .non
  · exact .bl _
  · exact .int _
  · exact .str _
theorem flat_mut {v : Val} (h : isFlat v = true) : v.mut = false := by
  cases v <;> first | rfl | exact (Bool.false_ne_true h).elim
theorem Rp.empty (F : Hp) : Rp K mg F F [] [] := by
  refine ⟨Same.refl _, rfl, fun i v o e => ?_, fun i j v w a e => ?_⟩
  · unfold lookS at e; simp at e
  · unfold lookS at e; simp at e
theorem Rp.later {H' : Hp} {σ : L2.St} {ρ : Env} (rp : Rp K mg F H σ ρ) (e : Same H H') : Rp K mg F H' σ ρ := by
  refine ⟨rp.sub.trans e, rp.len, fun i v o q => ?_, rp.inj⟩
  obtain ⟨x, hx, sl⟩ := rp.slot i v o q
  refine ⟨x, hx, ?_⟩
  unfold SlotR at sl ⊢
  split
  · rename_i h
    rw [if_pos h] at sl
    exact ⟨sl.1.keep (Same.refl _) fun b u _ hb => e b u hb, sl.2⟩
  · rename_i h
    rw [if_neg h] at sl
    exact sl
end
section
variable {X : Cx} {C : Ctx} {W : WX} {k : Nat} {fa : Addr} {x : Str} {I : FnI} {p pos : Pos} {e : Expr} {es : List Expr} {cs : List Ex}
theorem se_callP (hI : C.fn x = some I) (hc : FnCall X C k fa x I (e :: es).length) (hr : Room k X.A) (hg : Gl X x) (hm : X.mg x = some (.ref fa)) (hk : PySem.W.keepIn X.K (.ref fa) = true) (tk : Takes X W) (hdb : (x == ("__debug__" : Str)) = false) (hst : (e :: es).all noStar = true)
    (ha : SA X C W (e :: es) cs) (hlen : (e :: es).length = I.modes.length) : SE X C W (.Call (.Name x p) (e :: es) [] pos) (.callP x cs) := by
  obtain ⟨dvs, hd, hdm, hF⟩ := hc
  have hd0 : dvs = [] := by
    have := (hd fun _ => none).length
    rw [List.length_drop] at this
    exact List.eq_nil_of_length_eq_zero (by omega)
  subst hd0
  rw [List.all_cons, Bool.and_eq_true] at hst
  refine pe_imp (pe_callW hF hr hg hm hk tk hdb ha (starEach_cons hst.1) (noStars hst.2)) fun σ H Q ⟨F, ρ, rp, h⟩ => ?_
  replace h : PostE X.K X.mg H F H σ ρ W Q (match C.fn x with
    | some I => (evEs C cs ρ).bind fun rs ρ => match rds ρ rs with
      | some vs => peekV C I x vs ρ
      | none => .stuck
    | none => .stuck) := h
  rw [hI] at h
  refine bindA rp h fun rs ρ1 Vs F1 H1 rp1 st rrs h1 => ?_
  cases e1 : rds ρ1 rs with
  | none => rw [e1] at h1; exact h1.elim
  | some vs =>
    rw [e1] at h1
    replace h1 : PostE X.K X.mg H F1 H1 σ ρ1 W Q (peekV C I x vs ρ1) := h1
    unfold peekV at h1
    split at h1
    · rename_i hc
      have rv := R1s.all rp1.sub (rrs.r1s rp1 e1)
      have lv := rv.length
      refine ⟨by rw [← lv, hc.2]; exact hlen.symm, ?_⟩
      rw [List.append_nil]
      obtain ⟨rpa, ow⟩ := (Rp.empty (K := X.K) (mg := X.mg) H1).appFz (ms := I.modes) rv hc.2.symm hc.1
      refine ⟨H1, vs, hc.2, by rw [← lv]; exact hc.2, rpa, ?_⟩
      cases hr : C.run x vs with
      | stuck => rw [hr] at h1; exact h1.elim
      | exc y fins => rw [hr] at h1; exact h1.elim
      | ok v fins =>
        rw [hr] at h1
        replace h1 : PostE X.K X.mg H F1 H1 σ ρ1 W Q (if isFlat v = true then .ok ⟨v, .fz⟩ ρ1 else .stuck) := h1
        split at h1
        · rename_i hf
          intro F' H' y sub st1 fin ret
          have sm : Same H1 H' := st1.ff.trans sub
          unfold RetR at ret
          rw [flat_mut hf, Bool.and_false, if_neg Bool.false_ne_true] at ret
          refine h1 F1 H' (rp1.later sm) ⟨Same.refl _, fun a o q _ => sm a o q, fun _ q => .inl q, fun _ q => .inl q, fun a q => ?_⟩ y (flat_any hf ret) fr_fz
          cases z : H1 a with
          | none => exact absurd z q
          | some o => rw [sm a o z]; exact fun w => by cases w
        · exact h1.elim
    · exact h1.elim
end
end Rv

/-! Rv, part 17: a def keeps its promise. -/
namespace Rv
open PySem PySem.Spec PyProof.Rows L2
section
variable {P : Program} {w : World} {K : PySem.W.Frag} {mg : Str → Option Value} {base : Heap} {x qual : Str} {params : Arguments} {body : List Stmt} {scope : Scope} {dvs : List V} {kws : List (Str × V)} {fa : Addr} {fd : FuncData} {N ps : List Str} {k n : Nat} {C : Ctx} {c : FnCode}
/-- the wish of a def's body: its caller's -/
abbrev WE (E : XK) : WX := fun cv d _ H => E cv d H
/-- the slots of the parameters that may be changed -/
abbrev Um (ms : List Bool) (i : Nat) : Prop := ms[i]? = some true
theorem start_eq {vs : List V} {args : List Val} {ms : List Bool} {m : Nat} (h1 : args.length = ms.length) (h2 : vs.length = ms.length) (hN : N.length = m) : L2.start N vs = vs.map some ++ List.replicate (m - args.length) none := by
  unfold L2.start
  rw [hN, h1, h2]
theorem body_ok (F : FunD K x qual params body scope dvs kws fa fd) (S : FnScope N ps scope) (hps : ps.length = c.info.modes.length) (hN : N.length = c.nloc)
    (hbody : ∀ (cdv : Value) (A : Around) (outer : List PySem.Env) (s : Shared) (H : Hp) (E : XK), Room k (A.deeper (envOfC qual scope s.heap.objs.size fa cdv)) →
      SSs (cxOf (L2.CX P w) P w K mg base N qual scope fa cdv A outer s H E) C n (Um c.info.modes) (WE E) body c.body) :
    FnOk P w K mg base (L2.CX P w) (k + 1) fa fd ps (spC K mg c.info (runFn C n c)) := by
  refine F.ok S (fun vs H Q E ⟨_, _, _, hv, _⟩ => by rw [hv, hps]) fun cdv A outer s H vs Q E hr hsp => ?_
  refine ⟨rdSs K mg C n (Um c.info.modes) (WE E) c.body, hbody cdv A outer s H E hr, ?_⟩
  obtain ⟨F0, args, ha, hv, rp, h⟩ := hsp
  have rp0 := rp.pad (c.nloc - args.length)
  have e0 := start_eq (N := N) ha hv hN
  have la : (argEnv c.info.modes args).length = (vs.map some).length := by rw [argEnv_len ha, List.length_map, hv]
  refine ⟨H, F0, start c.info.modes args c.nloc, by rw [e0]; exact rp0, fun _ q => q, ?_⟩
  unfold runFn at h
  rw [if_pos ha] at h
  rw [e0]
  have own0 : ∀ a, Own (start c.info.modes args c.nloc) (vs.map some ++ List.replicate (c.nloc - args.length) none) a ↔ Own (argEnv c.info.modes args) (vs.map some) a := fun a => own_pad la
  have hO : ∀ a, Own (argEnv c.info.modes args) (vs.map some) a → modeAt c.info.modes vs a := fun a ⟨i, v, e, m, s⟩ => by
    refine ⟨i, argEnv_look e, ?_⟩
    rw [List.getElem?_map] at s
    cases q : vs[i]? with
    | none => rw [q] at s; cases s
    | some y => rw [q] at s; cases s; rfl
  have keepU : ∀ {σ' : L2.St}, (∀ i, Um c.info.modes i → σ'[i]? = (vs.map some ++ List.replicate (c.nloc - args.length) none)[i]?) → ∀ (i : Nat) (y : V), c.info.modes[i]? = some true → vs[i]? = some y → σ'[i]? = some (some y) := fun {σ'} u i y h1 h2 => by
    have hi : i < vs.length := (List.getElem?_eq_some_iff.mp h2).1
    rw [u i h1, List.getElem?_append_left (by rw [List.length_map]; exact hi), List.getElem?_map, h2]
    rfl
  cases e : evSs C n c.body (start c.info.modes args c.nloc) with
  | stuck => rw [e] at h; exact h.elim
  | exc y ρ' =>
    rw [e] at h
    replace h : PostC K mg F0 H (Own (argEnv c.info.modes args) (vs.map some)) c.info vs Q E (match finsOf ρ' 0 c.info.modes with
      | some fins => .exc y fins
      | none => .stuck) := h
    intro cv d σ' F' H' rp' st u rx
    cases e2 : finsOf ρ' 0 c.info.modes with
    | none => rw [e2] at h; exact h.elim
    | some fins =>
      rw [e2] at h
      obtain ⟨f1, f2⟩ := fins_ok rp' 0 c.info.modes vs fins hv (fun i y h1 h2 => by rw [Nat.zero_add]; exact keepU u i y h1 h2) e2
      exact h cv d F' H' rp'.sub ((st.weak fun a z => (own0 a).mp z).less fun a z => let ⟨i, v, _, _, q3, q4, q5⟩ := f2 a z; ⟨i, v, q3, q4, q5⟩) f1 rx
  | ok f ρ' =>
    rw [e] at h
    intro σ' F' H' rp' st u
    have st' : Step F0 H (Own (argEnv c.info.modes args) (vs.map some)) F' H' (Own ρ' σ') := st.weak fun a z => (own0 a).mp z
    cases f with
    | nx =>
      replace h : PostC K mg F0 H (Own (argEnv c.info.modes args) (vs.map some)) c.info vs Q E (match finsOf ρ' 0 c.info.modes with
        | some fins => .ok .non fins
        | none => .stuck) := h
      cases e2 : finsOf ρ' 0 c.info.modes with
      | none => rw [e2] at h; exact h.elim
      | some fins =>
        rw [e2] at h
        obtain ⟨f1, f2⟩ := fins_ok rp' 0 c.info.modes vs fins hv (fun i y h1 h2 => by rw [Nat.zero_add]; exact keepU u i y h1 h2) e2
        refine h F' H' .non rp'.sub (st'.less fun a z => let ⟨i, v, _, _, q3, q4, q5⟩ := f2 a z; ⟨i, v, q3, q4, q5⟩) f1 ?_
        unfold RetR
        rw [show (c.info.fresh && Val.non.mut) = false from Bool.and_false _, if_neg Bool.false_ne_true]
        exact .non
    | bk => exact h.elim
    | ct => exact h.elim
    | rt r =>
      intro V rr fr
      exact ret_ok hv hO rp' st' (keepU u) rr fr h
end
end Rv

/-! Rv, part 17b: methods and properties of instances. -/
namespace Rv
open PySem PySem.Spec PyProof.Rows L2
section
variable {X : Cx} {C : Ctx} {W : WX} {k : Nat} {x f m : Str} {e oe : Expr} {es : List Expr} {ce : Ex} {cs : List Ex} {p pos apos : Pos}
/-- o.m(..) -/
theorem se_meth {pl : Sem Bool} (hf : SE X C W oe ce) (hc : MethOk X C k m (es.length + 1)) (hr : Room k X.A) (tk : Takes X W) (hst : es.all noStar = true) (hlen : es.length = cs.length)
    (ha : ∀ c f I ms, C.meth c m = some f → C.fn f = some I → I.modes = false :: ms → SArgs X C W ms es cs)
    (ht : eval (.Call (.Attribute oe m apos) es [] pos) X.env = (do
      let ov ← eval oe X.env
      standAt apos.atName
      let (f, first) ← holding [ov] (getMethod ov m pl)
      callWith pos f first (backTo pos (starEach es X.env)) (backToKw pos (keywordEach [] X.env)))) :
    SE X C W (.Call (.Attribute oe m apos) es [] pos) (.meth ce m cs) := by
  have fin : ∀ (T : TA), (∀ σ H Q, (∃ ms, (∃ c f I, C.meth c m = some f ∧ C.fn f = some I ∧ I.modes = false :: ms) ∧ rdArgs X.K X.mg C W ms cs σ H Q) → T σ H Q) → ∀ σ H Q, rdE X.K X.mg C W (.meth ce m cs) σ H Q → tMethD X m W (rdE X.K X.mg C W ce) T σ H Q := fun T hT σ H Q ⟨F, ρ, rp, h⟩ => by
    replace h : PostE X.K X.mg H F H σ ρ W Q (((evE C ce ρ).bind fzR).bind fun v ρ => match selfV C m v with
      | some (f, I) => (evArgs C (I.modes.drop 1) cs ρ).bind fun p ρ => callV C I f [v] p ρ
      | none => .stuck) := h
    rw [Out.bind_assoc] at h
    refine ⟨F, ρ, rp, ?_⟩
    cases e0 : evE C ce ρ with
    | stuck => rw [e0] at h; exact h
    | exc y ρ1 => rw [e0] at h; exact h
    | ok r ρ1 =>
      rw [e0] at h
      intro F1 H1 rp1 st1 V rr fr
      replace h : PostE X.K X.mg H F H σ ρ W Q ((fzR r ρ1).bind fun v ρ => match selfV C m v with
        | some (f, I) => (evArgs C (I.modes.drop 1) cs ρ).bind fun p ρ => callV C I f [v] p ρ
        | none => .stuck) := h
      obtain ⟨v, ρ2, F2, rp2, st2, rv, _, h2⟩ := fz_ok st1 rp1 rr fr h
      cases e1 : selfV C m v with
      | none => rw [e1] at h2; exact h2.elim
      | some q =>
        obtain ⟨f, I⟩ := q
        rw [e1] at h2
        obtain ⟨c, ns, vs, rfl, hn, hm, hfn, ms, hms⟩ := selfV_inv e1
        replace h2 : PostE X.K X.mg H F H σ ρ W Q ((evArgs C (I.modes.drop 1) cs ρ2).bind fun p ρ => callV C I f [.ins c ns vs] p ρ) := h2
        rw [hms] at h2
        cases rv with
        | @ins a D dx _ _ Vs _ t mm l r =>
          obtain ⟨k0, fa, k1, dvs, hd, hdm, hF⟩ := hc c D f I hm hfn mm
          refine ⟨a, D, dx, _, fa, k, _, rfl, rp2.sub _ _ t, k0, k1, hF, hr, zip_none hn, hT _ _ _ ⟨ms, ⟨c, f, I, hm, hfn, hms⟩, ?_⟩⟩
          obtain ⟨F', ρ', rp', z⟩ := self_call (n := es.length + 1) (V0 := .ref a) hms (by rw [hlen]) st2 rp2 (RV.ins t mm l r) hd hdm h2
          refine ⟨F', ρ', rp', z.imp fun p ρ4 F4 H4 rp4 st4 q vs hl hm2 rpa sta tk => ?_⟩
          obtain ⟨q1, _, q2⟩ := q vs hl hm2 rpa sta tk
          exact ⟨q1, q2⟩
  cases es with
  | nil =>
    exact pe_imp (pe_methD0 hf tk ht) (fin _ fun σ H Q ⟨ms, _, q⟩ => by
      cases cs with
      | cons c cs => cases hlen
      | nil =>
        obtain ⟨F, ρ, rp, h2⟩ := q
        have e0 : evArgs C ms [] ρ = .ok ([], []) ρ := by cases ms <;> rfl
        rw [e0] at h2
        exact h2 F H rp Step.refl [] rfl (Nat.zero_le _) (by simpa [argEnv] using rp) (by simpa [argEnv] using Step.refl) .nil)
  | cons e es =>
    rw [List.all_cons, Bool.and_eq_true] at hst
    exact pe_imp (pe_methD hf tk (pa_ex (G := fun ms => ∃ c f I, C.meth c m = some f ∧ C.fn f = some I ∧ I.modes = false :: ms) (T := fun ms => rdArgs X.K X.mg C W ms cs) fun ms ⟨c, f, I, h1, h2, h3⟩ => ha c f I ms h1 h2 h3) (starEach_cons hst.1) (noStars hst.2) ht) (fin _ fun σ H Q q => q)
/-! ### properties -/
def tPropD (X : Cx) (f : Str) (ta : TE) : TE := fun σ H Q => ta σ H fun x H1 => ∃ a D dx fs p g k sp, x = .ref a ∧ H1 a = some (.ins D dx fs) ∧ Cls X.K D ∧ PropOf X.K D f p g ∧ FnR X.prog X.w X.K X.mg X.base (L2.CX X.prog X.w) k g sp ∧ Room (k + 1) X.A ∧ sp [.ref a] H1 Q fun _ _ _ => False
theorem pe_propD {ta : TE} (he : PE X e ta) (hab : attributeBase e f X.env (eval e X.env) = eval e X.env) : PE X (.Attribute e f pos) (tPropD X f ta) := by
  refine ⟨fun pins s σ H Q I h => attr_of hab (thn (he.run pins s σ H _ I h) fun u s1 ⟨x, H1, J, rx, a, D, dx, fs, p, g, k, sp, ex, ea, c, hp, F, hr, q⟩ => ?_)⟩
  subst ex
  obtain rfl : u = Value.ref a := rx
  obtain ⟨mA, O, _⟩ := ins_get J.hok ea
  obtain ⟨od, io, _⟩ := O.look
  obtain ⟨rest, hrec⟩ := hp.rec_
  have J2 := J.tok (s1.toks + 1)
  have hcd : (PySem.W.clsIn X.K D).isSome = true := by
    obtain ⟨cd, z, _⟩ := PySem.W.any_some c.hd
    exact Option.isSome_iff_exists.mpr ⟨cd, z⟩
  have run := F X.A.in1 X.stack { s1 with toks := s1.toks + 1 } H1 [.ref a] [.ref a] Q (fun _ _ _ => False) hr.in1 J2.env0.in1 (.cons rfl .nil) q
  have pg := PySem.W.plainGet_of (c.get f)
  refine PySem.W.get_bind J.kIn io pg.1 (PySem.W.findObj_data hcd hp.at_ hp.get hp.tak) pg.2 (wpAny_call (PySem.W.prop_get (s := { s1 with toks := s1.toks + 1 }) J.kIn hrec (codeAny_mono run fun r s2 hq => ?_)))
  cases r with
  | error er =>
    obtain ⟨_, _, _, _, _, _, _, _, _, _, _, _, z⟩ := hq
    exact z.elim
  | ok fl =>
    cases fl <;> first | exact False.elim hq | skip
    rename_i u
    obtain ⟨v, H', I3, rv, q3⟩ := J2.after hq
    show wpAny _ _ (handedOut u) _ _ _
    rw [PySem.W.handedOut_of (handed_of rv)]
    exact wpAny_pure ⟨v, H', I3, rv, q3⟩
/-- what is known of a property's name -/
def PropOk (X : Cx) (C : Ctx) (k : Nat) (f : Str) : Prop := ∀ c D g I, C.prop c f = some g → C.fn g = some I → X.mg c = some (.ref D) → Cls X.K D ∧ ∃ p ga, PropOf X.K D f p ga ∧ FnCall X C k ga g I 1
theorem se_prp (hf : SE X C W e ce) (hc : PropOk X C k f) (hr : Room (k + 1) X.A) (hab : attributeBase e f X.env (eval e X.env) = eval e X.env) : SE X C W (.Attribute e f pos) (.prp ce f) :=
  pe_imp (pe_propD hf hab) fun σ H Q ⟨F, ρ, rp, h⟩ => by
    replace h : PostE X.K X.mg H F H σ ρ W Q (((evE C ce ρ).bind fzR).bind fun v ρ => match propV C f v with
      | some (g, I) => (callV C I g [v] ([], []) ρ).shut
      | none => .stuck) := h
    rw [Out.bind_assoc] at h
    refine ⟨F, ρ, rp, ?_⟩
    cases e0 : evE C ce ρ with
    | stuck => rw [e0] at h; exact h
    | exc y ρ1 => rw [e0] at h; exact h
    | ok r ρ1 =>
      rw [e0] at h
      intro F1 H1 rp1 st1 V rr fr
      replace h : PostE X.K X.mg H F H σ ρ W Q ((fzR r ρ1).bind fun v ρ => match propV C f v with
        | some (g, I) => (callV C I g [v] ([], []) ρ).shut
        | none => .stuck) := h
      obtain ⟨v, ρ2, F2, rp2, st2, rv, _, h2⟩ := fz_ok st1 rp1 rr fr h
      cases e1 : propV C f v with
      | none => rw [e1] at h2; exact h2.elim
      | some q =>
        obtain ⟨g, I⟩ := q
        rw [e1] at h2
        replace h2 : PostE X.K X.mg H F H σ ρ W Q (callV C I g [v] ([], []) ρ2).shut := h2
        unfold propV at e1
        obtain ⟨c, ns, vs, rfl⟩ : ∃ c ns vs, v = .ins c ns vs := by
          cases v <;> first | exact ⟨_, _, _, rfl⟩ | cases e1
        replace e1 : (match C.prop c f with
          | some f => match C.fn f with
            | some I => if I.modes = [false] then some (f, I) else none
            | none => none
          | none => none) = some (g, I) := e1
        split at e1
        · rename_i g' hp
          split at e1
          · rename_i I' hI
            split at e1
            · rename_i hm
              cases e1
              cases rv with
              | @ins a D dx _ _ Vs _ t mm l r =>
                obtain ⟨k0, pp, ga, k1, dvs, hd, hdm, hF⟩ := hc c D g I hp hI mm
                have hn : ([Val.ins c ns vs] ++ ([] : List Val)).length = 1 := rfl
                have hdn : I.dflt.drop (I.dflt.length + 1 - I.modes.length) = [] := List.drop_eq_nil_of_le (by rw [hm]; show I.dflt.length ≤ I.dflt.length + 1 - 1; omega)
                have hdv : dvs = [] := by
                  have := (hd fun _ => none).length
                  rw [hdn] at this
                  exact List.eq_nil_of_length_eq_zero this.symm
                subst hdv
                refine ⟨a, D, dx, _, pp, ga, k, _, rfl, rp2.sub _ _ t, k0, k1, hF, hr, rfl, ?_⟩
                have h3 : PostE X.K X.mg H F H σ ρ (fun _ _ _ _ => False) Q (callV C I g [.ins c ns vs] ([], []) ρ2) := by
                  cases z : callV C I g [.ins c ns vs] ([], []) ρ2 with
                  | ok r ρ' => rw [z] at h2; exact h2
                  | exc y ρ' => rw [z] at h2; exact h2.elim
                  | stuck => rw [z] at h2; exact h2
                unfold callV at h3
                rw [hn, hdn] at h3
                have rp3 : Rp X.K X.mg F2 H1 (([V.ref a] : List V).map some ++ σ) (argEnv I.modes [.ins c ns vs] ++ ρ2) := by
                  rw [hm]
                  exact (self_in (ms := []) (p := []) (vs := []) (is := []) (RV.ins t mm l r) (by simpa [argEnv] using rp2) (by simpa [argEnv] using st2) .nil).1
                have st3 : Step F H (Own ρ σ) F2 H1 (Own (argEnv I.modes [.ins c ns vs] ++ ρ2) (([V.ref a] : List V).map some ++ σ)) := by
                  rw [hm]
                  exact (self_in (ms := []) (p := []) (vs := []) (is := []) (RV.ins t mm l r) (by simpa [argEnv] using rp2) (by simpa [argEnv] using st2) .nil).2.1
                have tk3 : TK σ I.modes [.ins c ns vs] [V.ref a] [] := by
                  rw [hm]
                  exact .fz .nil
                exact call_ok (ds := []) (dvs := []) (W := fun _ _ _ _ => False) .nil rfl (by rw [hm]; exact Nat.le_refl _) (fun _ => by rw [hm]; rfl) rp3 st3 tk3 h3
            · cases e1
          · cases e1
        · cases e1
/-! ### where a dot may stand behind -/
def baseQ : Expr → Bool
  | .Name _ _ => true
  | .Attribute _ _ _ => true
  | .Subscript _ _ _ => true
  | .Call _ es _ _ => !es.isEmpty
  | _ => false
theorem base_ok {o : Expr} (h : baseQ o = true) (f : Str) (env : PySem.Env) : attributeBase o f env (eval o env) = eval o env := by
  cases o <;> first | rfl | exact (Bool.false_ne_true h).elim | skip
  rename_i g es kws pos
  cases es with
  | nil => exact (Bool.false_ne_true h).elim
  | cons a es => cases g <;> rfl
theorem few_ok {es : List Expr} {pos : Pos} {env : PySem.Env} (hst : es.all noStar = true) (hlt : es.length < 30) :
    methodCallForm (es.length + ([] : List Keyword).length) (backTo pos (starEach es env)) (backToKw pos (keywordEach [] env)) = true := by
  have h1 : (backTo pos (starEach es env)).all (fun x => !x.1) = true := by
    have z := noStars (env := env) (pos := pos) hst
    rw [List.all_eq_not_any_not]
    simp only [Bool.not_not]
    rw [z]; rfl
  have h2 : decide (es.length + 0 + 0 < 30) = true := decide_eq_true (by omega)
  unfold methodCallForm
  rw [h1]
  show (true && true && decide (es.length + 0 + 0 < 30)) = true
  rw [h2]; rfl
theorem meth_ht {o : Expr} (hb : attributeBase o m X.env (eval o X.env) = eval o X.env) (hst : es.all noStar = true) (hlt : es.length < 30) (hline : (apos.endLine == pos.line) = true) :
    eval (.Call (.Attribute o m apos) es [] pos) X.env = (do
      let ov ← eval o X.env
      standAt apos.atName
      let (f, first) ← holding [ov] (getMethod ov m (do return (← importBound o X.env).getD true))
      callWith pos f first (backTo pos (starEach es X.env)) (backToKw pos (keywordEach [] X.env))) := by
  have e : eval (.Call (.Attribute o m apos) es [] pos) X.env = (do
      let ov ← attributeBase o m X.env (eval o X.env)
      standAt apos.atName
      methodCall o m apos pos X.env ov (es.length + ([] : List Keyword).length) (backTo pos (starEach es X.env)) (backToKw pos (keywordEach [] X.env))) := rfl
  rw [e, hb]
  congr 1
  funext ov
  congr 1
  funext _
  unfold methodCall
  rw [few_ok hst hlt]
  unfold methodCallPos calleeOf
  rw [hline]
  rfl
end
end Rv

/-! Rv, part 17c: join, index, classmethods, classes called through a name. -/
namespace Rv
open PySem PySem.Spec PyProof.Rows L2
section
variable {X : Cx} {C : Ctx} {W : WX} {k : Nat} {x f m : Str} {a e oe : Expr} {es : List Expr} {ca ce : Ex} {cs : List Ex} {p pos apos cp : Pos}
theorem fz_one {ρ : Env} {v : Val} {ρ' : Env} : fzEs C [ca] ρ = (evE C ca ρ).bind fun r ρ => (fzR r ρ).bind fun v ρ => .ok [v] ρ := rfl
theorem strs_rv {K : PySem.W.Frag} {mg : Str → Option Value} {F : Hp} : ∀ {xs : List Val} {Vs : List V} {ys : List Str}, RVs K mg F xs Vs → strsOf xs = some ys → Vs = ys.map V.str
  | [], _, ys, .nil, e => by cases e; rfl
  | v :: xs, _, ys, .cons r rs, e => by
    cases v <;> first | exact nomatch (show (none : Option (List Str)) = some _ from e) | skip
    obtain ⟨zs, e1, rfl⟩ := map_inv (show (strsOf xs).map (_ :: ·) = some ys from e)
    cases r
    rw [strs_rv rs e1]
    rfl
theorem few_ok' (hst : noStar a = true) : ((backTo pos (starEach [a] X.env)).all (fun x => !x.1) && (backToKw pos (keywordEach [] X.env)).all (fun x => x.1.isSome)
      && decide ([a].length + ([] : List Keyword).length + (if ([] : List Keyword).isEmpty then 0 else 1) < 30)) = true := by
  have h1 : (backTo pos (starEach [a] X.env)).all (fun x => !x.1) = true := by
    have z := noStars (env := X.env) (pos := pos) (es := [a]) (by rw [List.all_cons, hst]; rfl)
    rw [List.all_eq_not_any_not]
    simp only [Bool.not_not]
    rw [z]; rfl
  rw [h1]
  rfl
/-- a written text's join of a list -/
theorem se_join {z : Str} {j : Nat} (hst : noStar a = true) (hline : (apos.endLine == pos.line) = true) (ha : SE X C W a ca) : SE X C W (.Call (.Attribute (.Constant (.str z) j cp) "join" apos) [a] [] pos) (.join z [ca]) := by
  refine pe_imp (pe_bm PySem.F.plainAttrs_str PySem.F.slot_str_join PySem.F.type_str_join mt_join pe_str (sz_cons hst ha sz_nil) (by rfl) (few_ok' hst) hline (starEach_cons hst) (by rfl)) fun σ H Q ⟨F, ρ, rp, h⟩ => ?_
  replace h : PostE X.K X.mg H F H σ ρ W Q ((fzEs C [ca] ρ).bind fun vs ρ => Out.opt ((joinV z vs).map fun u => (⟨u, .fz⟩ : R)) ρ) := h
  refine ⟨rfl, bindZs rp h fun vs ρ2 Vs F2 H2 rp2 st2 rvs h2 => ?_⟩
  cases e : joinV z vs with
  | none => rw [e] at h2; exact h2.elim
  | some u =>
    rw [e] at h2
    unfold joinV at e
    split at e
    · rename_i xs
      split at e
      · rename_i ys e1
        split at e
        · rename_i hz
          cases e
          cases rvs with
          | cons rv rr =>
            cases rr
            cases rv with
            | @lst b Xs _ t l r =>
              have ex := strs_rv r e1
              refine ⟨z, b, ys, rfl, rfl, .inl (by rw [← ex]; exact SqL.of (rp2.sub _ _ t)), hz, done_fz rp2 h2 (.str _)⟩
        · cases e
      · cases e
    · cases e
/-- the place of a value in a list -/
theorem se_lix (hu : X.A.units + 65 < cLine) (hb : baseQ oe = true) (hst : noStar a = true) (hline : (apos.endLine == pos.line) = true) (ho : SE X C W oe ce) (ha : SE X C W a ca) : SE X C W (.Call (.Attribute oe "index" apos) [a] [] pos) (.lix ce [ca]) := by
  refine pe_imp (pe_bm PySem.F.plainAttrs_list PySem.F.slot_list_index PySem.F.type_list_index (mt_indexD hu) ho (sz_cons hst ha sz_nil) (base_ok hb _ _) (few_ok' hst) hline (starEach_cons hst) (by rfl)) fun σ H Q ⟨F, ρ, rp, h⟩ => ?_
  replace h : PostE X.K X.mg H F H σ ρ W Q ((evE C ce ρ).bind fun r ρ => (fzR r ρ).bind fun v ρ => match v with
    | .lst ys => (fzEs C [ca] ρ).bind fun ws ρ => Out.opt ((lixV ys ws).map fun u => (⟨u, .fz⟩ : R)) ρ
    | _ => .stuck) := h
  refine bindZ rp h fun v ρ1 V F1 H1 rp1 st1 rv h1 => ?_
  cases v <;> first | exact h1.elim | skip
  rename_i ys
  replace h1 : Post X.K X.mg F1 H1 σ ρ1 W _ ((fzEs C [ca] ρ1).bind fun ws ρ => Out.opt ((lixV ys ws).map fun u => (⟨u, .fz⟩ : R)) ρ) := h1
  cases rv with
  | @lst b Ys _ t l r =>
  refine ⟨.inl ⟨rfl, _, SqL.of (rp1.sub _ _ t)⟩, ?_⟩
  refine bindZs rp1 h1 fun vs ρ2 Vs F2 H2 rp2 st2 rvs h2 => ?_
  cases e : lixV ys vs with
  | none => rw [e] at h2; exact h2.elim
  | some u =>
    rw [e] at h2
    unfold lixV at e
    split at e
    · rename_i w
      split at e
      · rename_i d ds e1 e2
        split at e
        · rename_i hc
          rw [Bool.and_eq_true] at hc
          obtain ⟨j, ej, rfl⟩ := map_inv e
          rw [List.findIdx?_eq_some_iff_getElem] at ej
          obtain ⟨hj, p1, p2⟩ := ej
          cases rvs with
          | cons rw_ rr =>
            cases rr
            refine ⟨b, _, d, ds, j, ds[j], rfl, rfl, dp_of rp2.sub ((RV.lst t l r).mono st2.ff) (by show (Val.pys ys).map PyData.list = _; rw [e2]; rfl), dp_of rp2.sub rw_ e1, hc.1, hc.2, List.getElem?_eq_getElem hj, p1, fun m z' hm hz => ?_, done_fz rp2 h2 (.int _)⟩
            obtain ⟨hm2, rfl⟩ := List.getElem?_eq_some_iff.mp hz
            simpa using p2 m hm
        · cases e
      · cases e
    · cases e
/-! ### classmethods -/
def tClsD (X : Cx) (D : Addr) (sp : Sp) (W : WX) (ta : TE) (t : TA) : TE := fun σ H Q => ta σ H fun x H1 => x = .ref D ∧ t σ H1 fun vs H2 => sp (.ref D :: vs) H2 Q fun cv d H' => W cv d σ H'
theorem pe_clsD {pl : Sem Bool} {o : Expr} {ta : TE} {t : TA} {D q g : Addr} {mc : Value} {sp : Sp} (he : PE X o ta) (r : ClX.CRead X.K D mc) (c : ClX.CMet X.K D mc m q g) (F : FnR X.prog X.w X.K X.mg X.base (L2.CX X.prog X.w) k g sp) (hr : Room k X.A) (tk : Takes X W) (ha : PA X (e :: es) t)
    (hst : starEach (e :: es) X.env = (false, eval e X.env) :: starEach es X.env) (hpl : (backTo pos (starEach es X.env)).any (·.1) = false)
    (ht : eval (.Call (.Attribute o m apos) (e :: es) [] pos) X.env = (do
      let ov ← eval o X.env
      standAt apos.atName
      let (f, first) ← holding [ov] (getMethod ov m pl)
      callWith pos f first (backTo pos (starEach (e :: es) X.env)) (backToKw pos (keywordEach [] X.env)))) :
    PE X (.Call (.Attribute o m apos) (e :: es) [] pos) (tClsD X D sp W ta t) := by
  refine ⟨fun pins s σ H Q I h => ?_⟩
  refine PySem.W.methodCall_KW (pl := pl) (thn (he.run pins s σ H _ I h) fun u s1 ⟨x, H1, I1, rx, ex, q1⟩ => ?_) ht
  subst ex
  obtain rfl : u = Value.ref D := rx
  refine ClX.getmethcm_ok I1 r c fun s2 I2 => ?_
  refine ClX.callwith_cm I2 (ClX.base_none I1 (Nat.le_refl _)) c.fi (thn (ha.run pos _ s2 σ H1 _ I2 q1) fun us s3 ⟨vs, H2, I3, rv, q2⟩ => ⟨⟨ClX.pin_at I3, I3.kIn⟩, ?_⟩) hst hpl
  exact thn (wpAny_call (PySem.W.method_call (ClX.pin_at I3) (run_W (us := .ref D :: us) (vs := .ref D :: vs) F hr tk I3 (.cons rfl rv) q2))) fun _ _ y => ClX.unpinE y
/-- what is known of a classmethod -/
def ClsOk (X : Cx) (C : Ctx) (k : Nat) (x m : Str) (n : Nat) : Prop := ∀ f I, C.clsm x m = some f → C.fn f = some I → ∃ D q g, X.mg x = some (.ref D) ∧ ClX.CRead X.K D (.type "type") ∧ ClX.CMet X.K D (.type "type") m q g ∧ FnCall X C k g f I n
theorem se_clsm (hg : Gl X x) (hdb : (x == ("__debug__" : Str)) = false) (hc : ClsOk X C k x m ((e :: es).length + 1)) (hr : Room k X.A) (tk : Takes X W) (hst : (e :: es).all noStar = true) (hlen : (e :: es).length = cs.length) {f0 : Str} {I0 : FnI} (hf0 : C.clsm x m = some f0) (hI0 : C.fn f0 = some I0)
    (ha : SArgs X C W (I0.modes.drop 1) (e :: es) cs) (h30 : (e :: es).length < 30) (hline : (apos.endLine == pos.line) = true) :
    SE X C W (.Call (.Attribute (.Name x p) m apos) (e :: es) [] pos) (.clsm x m cs) := by
  obtain ⟨D, q, g, hm, r, c, dvs, hd, hdm, hF⟩ := hc f0 I0 hf0 hI0
  have hst' := hst
  rw [List.all_cons, Bool.and_eq_true] at hst
  refine pe_imp (pe_clsD (pe_glob (v := .ref D) hg hm rfl hdb) r c hF hr tk ha (starEach_cons hst.1) (noStars hst.2) (meth_ht (base_ok (o := .Name x p) rfl _ _) hst' h30 hline)) fun σ H Q ⟨F, ρ, rp, h⟩ => ?_
  replace h : PostE X.K X.mg H F H σ ρ W Q (match C.clsm x m with
    | some f => match C.fn f with
      | some I => if I.modes.head? = some false then (evArgs C (I.modes.drop 1) cs ρ).bind fun p ρ => callV C I f [.glb x] p ρ else .stuck
      | none => .stuck
    | none => .stuck) := h
  rw [hf0] at h
  replace h : PostE X.K X.mg H F H σ ρ W Q (match C.fn f0 with
    | some I => if I.modes.head? = some false then (evArgs C (I.modes.drop 1) cs ρ).bind fun p ρ => callV C I f0 [.glb x] p ρ else .stuck
    | none => .stuck) := h
  rw [hI0] at h
  replace h : PostE X.K X.mg H F H σ ρ W Q (if I0.modes.head? = some false then (evArgs C (I0.modes.drop 1) cs ρ).bind fun p ρ => callV C I0 f0 [.glb x] p ρ else .stuck) := h
  split at h
  · rename_i hh
    have hms : ∃ ms, I0.modes = false :: ms := by
      cases hI : I0.modes with
      | nil => rw [hI] at hh; cases hh
      | cons b ms =>
        rw [hI] at hh
        have hh : some b = some false := hh
        cases hh
        exact ⟨ms, rfl⟩
    obtain ⟨ms, hms⟩ := hms
    have ed : I0.modes.drop 1 = ms := by rw [hms]; rfl
    rw [ed] at h ⊢
    refine ⟨rfl, ?_⟩
    obtain ⟨F', ρ', rp', z⟩ := self_call (n := (e :: es).length + 1) (V0 := .ref D) hms (by rw [hlen]) Step.refl rp (RV.glb hm) hd hdm h
    refine ⟨F', ρ', rp', z.imp fun p ρ4 F4 H4 rp4 st4 q vs hl hm2 rpa sta tk => ?_⟩
    obtain ⟨q1, _, q2⟩ := q vs hl hm2 rpa sta tk
    exact ⟨q1, q2⟩
  · exact h.elim
/-! ### a class called through a name -/
theorem pe_makeV {fe : Expr} {tf : TE} {t : TA} {D fa : Addr} {sp : Sp} (hf : PE X fe tf) (M : Mk X.K D fa) (F : FnR X.prog X.w X.K X.mg X.base (L2.CX X.prog X.w) k fa sp) (hr : Room (k + 1) X.A) (tk : Takes X W) (ha : PA X (e :: es) t)
    (ht : eval (.Call fe (e :: es) [] pos) X.env = (do callWith pos (← eval fe X.env) [] (backTo pos (starEach (e :: es) X.env)) (backToKw pos (keywordEach [] X.env))))
    (he : starEach (e :: es) X.env = (false, eval e X.env) :: starEach es X.env) (hpl : (backTo pos (starEach es X.env)).any (·.1) = false) : PE X (.Call fe (e :: es) [] pos) (fun σ H Q => tf σ H fun y H1 => y = .ref D ∧ tMakeW D sp W t σ H1 Q) := by
  refine ⟨fun pins s σ H Q I h => ?_⟩
  refine Call_ (thn (hf.run pins s σ H _ I h) fun u s1 ⟨y, H1, I1, ry, ey, q⟩ => ?_) ht
  subst ey
  obtain rfl : u = Value.ref D := ry
  refine PySem.W.callWith_K (h₀ := X.base) I.ok.mod.kin M.kp (thn (ha.run pos pins s1 σ H1 _ I1 q) fun us s2 ⟨vs, H2, I2, r, q2⟩ => ⟨I2.kIn, ?_⟩) he hpl
  exact run_makeW M F hr tk I2 r q2
theorem se_callK {i : Nat} {y : Str} {fa D : Addr} {I : FnI} (hN : X.N[i]? = some y) (hv : Vis X.env.scope y) (hdb : (y == ("__debug__" : Str)) = false) (hcd : (y == ("__classdict__" : Str)) = false) (hf : C.meth x "__init__" = some f) (hI : C.fn f = some I) (hc : FnCall X C k fa f I ((e :: es).length + 1)) (M : Mk X.K D fa) (hr : Room (k + 1) X.A) (hm : X.mg x = some (.ref D)) (tk : Takes X W) (hst : (e :: es).all noStar = true) (hlen : (e :: es).length = cs.length)
    (ha : SArgs X C W (I.modes.drop 1) (e :: es) cs) : SE X C W (.Call (.Name y p) (e :: es) [] pos) (.callK i x cs) := by
  obtain ⟨dvs, hd, hdm, hF⟩ := hc
  have fin := make_args (W := W) (es := e :: es) (cs := cs) hf hI hd hdm hm hlen
  rw [List.all_cons, Bool.and_eq_true] at hst
  refine pe_imp (pe_makeV (pe_var hN hv hdb hcd) M hF hr tk ha rfl (starEach_cons hst.1) (noStars hst.2)) fun σ H Q ⟨F, ρ, rp, h⟩ => ?_
  replace h : PostE X.K X.mg H F H σ ρ W Q (match lookS ρ i with
    | some (.glb d, _) => if d = x then evE C (.callC x cs) ρ else .stuck
    | _ => .stuck) := h
  cases e1 : lookS ρ i with
  | none => rw [e1] at h; exact h.elim
  | some q =>
    obtain ⟨w, o⟩ := q
    rw [e1] at h
    cases w <;> first | exact h.elim | skip
    rename_i d
    replace h : PostE X.K X.mg H F H σ ρ W Q (if d = x then evE C (.callC x cs) ρ else .stuck) := h
    split at h
    · rename_i ed
      subst ed
      obtain ⟨V1, hx, sl⟩ := rp.slot i _ o e1
      have rv : RV X.K X.mg F (.glb d) V1 := by
        unfold SlotR at sl
        rw [show (o && (Val.glb d).mut) = false from by cases o <;> rfl, if_neg Bool.false_ne_true] at sl
        exact sl
      cases rv with
      | glb m1 =>
        rw [hm] at m1
        cases m1
        exact ⟨_, hx, rfl, fin σ H Q ⟨F, ρ, rp, h⟩⟩
    · exact h.elim
end
end Rv

/-! Rv, part 18: from the text to code. -/
namespace Rv
open PySem PySem.Spec PyProof.Rows L2

/-- what the translation knows of the module -/
structure Gx where
  /-- defs: which arguments they may change -/
  fns : List (Str × List Bool)
  /-- classes: the same of __init__ behind self -/
  cls : List (Str × List Bool)
  /-- instances called: the same behind self -/
  call : List Bool
  cons : List Str
  /-- built-in names that the module does not bind -/
  free : List Str
  /-- methods: the same behind self -/
  meths : List (Str × List Bool)
  props : List Str
  /-- classmethods: the same behind cls -/
  clsm : List ((Str × Str) × List Bool)
  /-- the class that the name cls stands for -/
  kls : Str
  /-- defs that only look at their arguments and tell no object: how many -/
  peek : List (Str × Nat)

def ixFrom (x : Str) : Nat → List Str → Option Nat
  | _, [] => none
  | i, y :: ys => if x = y then some i else ixFrom x (i + 1) ys
def ix (N : List Str) (x : Str) : Option Nat := ixFrom x 0 N
theorem ixFrom_ok {x : Str} : ∀ {k : Nat} {N : List Str} {i : Nat}, ixFrom x k N = some i → k ≤ i ∧ N[i - k]? = some x
  | _, [], _, e => nomatch e
  | k, y :: ys, i, e => by
    have e : (if x = y then some k else ixFrom x (k + 1) ys) = some i := e
    split at e
    · rename_i h
      cases e
      exact ⟨Nat.le_refl _, by rw [Nat.sub_self, h]; rfl⟩
    · obtain ⟨h1, h2⟩ := ixFrom_ok e
      refine ⟨by omega, ?_⟩
      rw [show i - k = (i - (k + 1)) + 1 by omega]
      exact h2
theorem ix_ok {N : List Str} {x : Str} {i : Nat} (e : ix N x = some i) : N[i]? = some x := (ixFrom_ok e).2

def badN (x : Str) : Bool := x == ("__debug__" : Str) || x == ("__classdict__" : Str)
def typOf (x : Str) : Option String :=
  if x = "int" then some "int" else if x = "bool" then some "bool" else if x = "str" then some "str" else if x = "tuple" then some "tuple" else if x = "list" then some "list" else if x = "dict" then some "dict" else none
/-- a slot that a name is read from -/
def slotQ (N : List Str) (sc : Scope) (x : Str) : Option Nat :=
  if badN x = true then none else match sc.names.lookup x with
  | some .local => ix N x
  | some .cell => ix N x
  | some .free => ix N x
  | _ => none
/-- a slot that a name is stored to -/
def storeQ (fn : Str → Bool) (N : List Str) (sc : Scope) (x : Str) : Option Nat :=
  match sc.names.lookup x with
  | some .local => ix N x
  | some .cell => if fn x = true then ix N x else none
  | _ => none
def gloQ (sc : Scope) (x : Str) : Bool := decide (sc.names.lookup x = some .globalImplicit) && !(x == ("__debug__" : Str))
def trName (G : Gx) (N : List Str) (sc : Scope) (x : Str) : Ex :=
  match slotQ N sc x with
  | some i => .loc i
  | none => if gloQ sc x = true then (if G.cons.contains x = true then .glo x else match typOf x with
    | some n => if G.free.contains x = true then .typ n else .never
    | none => .never) else .never
def plainIxQ : Expr → Bool
  | .Slice _ _ _ _ => false
  | _ => true
def okOp : Operator → Bool
  | .Add => true
  | .Sub => true
  | .Mult => true
  | .FloorDiv => true
  | .Mod => true
  | .Pow => true
  | _ => false
def bNames : List Str := ["len", "isinstance", "all", "any", "sum", "sorted", "tuple", "list", "int", "abs", "min", "max"]
def lmNames : List Str := ["append", "insert", "extend"]
/-- the own slots of a comprehension's block -/
def ownOfS (N : List Str) (scope : Scope) : List (Str × Nat) := scope.names.filterMap fun y => match y.2 with
  | .local => (ix N y.1).map fun i => (y.1, i)
  | .cell => (ix N y.1).map fun i => (y.1, i)
  | _ => none
mutual
def tgAll (p : Nat → Bool) : Tg → Bool
  | .nm i => p i
  | .tp ts => tgAlls p ts
def tgAlls (p : Nat → Bool) : List Tg → Bool
  | [] => true
  | t :: ts => tgAll p t && tgAlls p ts
end
mutual
theorem tgAll_ok {p : Nat → Bool} : ∀ {t : Tg}, tgAll p t = true → ∀ i, t.has i → p i = true
  | .nm j, h, i, e => by
    have e : j = i := e
    rw [← e]; exact h
  | .tp ts, h, i, e => tgAlls_ok (ts := ts) h i e
theorem tgAlls_ok {p : Nat → Bool} : ∀ {ts : List Tg}, tgAlls p ts = true → ∀ i, Tg.hasS ts i → p i = true
  | [], _, i, e => False.elim e
  | t :: ts, h, i, e => by
    have h : (tgAll p t && tgAlls p ts) = true := h
    rw [Bool.and_eq_true] at h
    exact e.elim (tgAll_ok h.1 i) (tgAlls_ok h.2 i)
end

def orN (o : Option Ex) : Ex := o.getD .never
def isTupE : Expr → Bool
  | .Tuple _ _ _ => true
  | _ => false
/-- the names whose cells a block makes -/
def fnC (scope : Scope) (x : Str) : Bool := scope.names.lookup x == some .cell
/-- a list method of a name -/
def lmQ (N : List Str) (sc : Scope) (o : Expr) (m : Str) (k : Nat) (near : Bool) : Option Nat := match o with
  | .Name x _ => (match slotQ N sc x with
    | some i => if (lmNames.contains m && (decide (0 < k) && (decide (k < 30) && near))) = true then some i else none
    | none => none)
  | _ => none
/-- a text's join; a list's index; a classmethod -/
def jnQ (o : Expr) (m : Str) (es : List Expr) : Option (Str × Expr) := match o, es with
  | .Constant (.str z) _ _, [a] => if m = "join" then some (z, a) else none
  | _, _ => none
def ixQ (m : Str) (es : List Expr) : Option Expr := match es with
  | [a] => if m = "index" then some a else none
  | _ => none
def clQ (G : Gx) (N : List Str) (sc : Scope) (o : Expr) (m : Str) (es : List Expr) : Option (Str × List Bool) := match o with
  | .Name x _ => if (slotQ N sc x).isSome || (!gloQ sc x || es.isEmpty) then none else (G.clsm.lookup (x, m)).map fun ms => (x, ms)
  | _ => none
/-- a target -/
def trTg (fn : Str → Bool) (N : List Str) (sc : Scope) : Nat → Expr → Option Tg
  | 0, _ => none
  | n + 1, e => match e with
    | .Name x _ => (storeQ fn N sc x).map .nm
    | .Tuple es _ _ => if es.all noStar = true then (es.mapM (trTg fn N sc n)).map .tp else none
    | _ => none
mutual
def trE (G : Gx) (N : List Str) (sc : Scope) : Nat → Expr → Ex
  | 0, _ => .never
  | n + 1, e => match e with
    | .Constant c _ _ => (match c with
      | .int i => .con (.int i)
      | .bool b => .con (.bl b)
      | .none => .con .non
      | .str x => .con (.str x)
      | _ => .never)
    | .Name x _ => trName G N sc x
    | .BinOp a o b _ => if okOp o = true then .bop o (trE G N sc n a) (trE G N sc n b) else .never
    | .UnaryOp .Not a _ => .not (trE G N sc n a)
    | .UnaryOp .USub a _ => .neg (trE G N sc n a)
    | .BoolOp o es pos => (match es with
      | [] => .never
      | [a] => trE G N sc n a
      | a :: b :: r => match o with
        | .And => .and (trE G N sc n a) (trE G N sc n (.BoolOp .And (b :: r) pos))
        | .Or => .or (trE G N sc n a) (trE G N sc n (.BoolOp .Or (b :: r) pos)))
    | .Compare a os bs _ => (match os, bs with
      | [o], [b] => if behindInMarks o b = false then .cmp o (trE G N sc n a) (trE G N sc n b) else .never
      | [o, p], [b, c] => if lastMarks [o, p] [b, c] = false then .chn o p (trE G N sc n a) (trE G N sc n b) (trE G N sc n c) else .never
      | _, _ => .never)
    | .IfExp c a b _ => .ite (trT G N sc n c) (trE G N sc n a) (trE G N sc n b)
    | .Subscript a s _ => (match s with
      | .Slice lo hi none _ => .slc (trE G N sc n a) lo.isSome (match lo with
        | some e => trE G N sc n e
        | none => .con .non) hi.isSome (match hi with
        | some e => trE G N sc n e
        | none => .con .non)
      | .Slice none none (some (.UnaryOp .USub (.Constant (.int 1) _ _) _)) _ => .rev (trE G N sc n a)
      | s => if plainIxQ s = true then .sub (trE G N sc n a) (trE G N sc n s) else .never)
    | .Tuple es _ _ => if es.all noStar = true then .tup (es.map (trE G N sc n)) else .never
    | .List es _ => if es.all noStar = true then .lst (es.map (trE G N sc n)) else .never
    | .Call f es kws pos => (match kws with
      | [] => if es.all noStar = true then (match f with
        | .Name x p => (match slotQ N sc x with
          | some i => if es.isEmpty = true then .never else if x = "cls" then (match G.cls.lookup G.kls with
            | some ms => orN ((trArgs G N sc n ms es).map fun cs => .callK i G.kls cs)
            | none => .never) else orN ((trArgs G N sc n G.call es).map fun cs => .callO (.loc i) cs)
          | none => if gloQ sc x = true then
            (if (bNames.contains x && (G.free.contains x && !es.isEmpty)) = true then (match trR G N sc n x es with
              | some c => c
              | none => .callB x (es.map (trE G N sc n)))
            else if G.peek.lookup x = some es.length ∧ es.isEmpty = false ∧ (G.fns.lookup x).map List.length = some es.length then .callP x (es.map (trE G N sc n)) else match G.fns.lookup x with
              | some ms => orN ((trArgs G N sc n ms es).map fun cs => .callF x cs)
              | none => match G.cls.lookup x with
                | some ms => orN ((trArgs G N sc n ms es).map fun cs => .callC x cs)
                | none => .never)
            else .never)
        | .Attribute o m apos => (match lmQ N sc o m es.length (apos.endLine == pos.line) with
          | some i => .lm i m (es.map (trE G N sc n))
          | none => if (decide (es.length < 30) && (apos.endLine == pos.line)) = true then (match jnQ o m es with
            | some (z, a) => .join z [trE G N sc n a]
            | none => match clQ G N sc o m es with
              | some (x, ms) => orN ((trArgs G N sc n ms es).map fun cs => .clsm x m cs)
              | none => if baseQ o = true then (match ixQ m es with
                | some a => .lix (trE G N sc n o) [trE G N sc n a]
                | none => match G.meths.lookup m with
                  | some ms => orN ((trArgs G N sc n ms es).map fun cs => .meth (trE G N sc n o) m cs)
                  | none => .never) else .never) else .never)
        | _ => .never) else .never
      | _ => .never)
    | .Attribute o f _ => if baseQ o = true then (if G.props.contains f = true then .prp (trE G N sc n o) f else .attr (trE G N sc n o) f) else .never
    | .ListComp elt gs scope pos => (match gs with
      | [⟨tg, it, ifs, a⟩] => if a = 0 then (match trTg (fnC scope) N (relS scope sc) n tg with
        | some t => if (notSet it && (blkC N sc scope (ownOfS N scope) && (decide (ifs.length ≤ 1) && tgAll (fun i => ((ownOfS N scope).map (·.2)).contains i) t))) = true then
            .comp (trE G N (relS scope sc) n elt) t (trI G N sc n tg it) (ifs.map (trT G N (relS scope sc) n)) ((ownOfS N scope).map (·.2)) else .never
        | none => .never) else .never
      | [⟨tg, it, ifs, a⟩, ⟨tg1, it1, ifs1, a1⟩] => if a = 0 ∧ a1 = 0 then (match trTg (fnC scope) N (relS scope sc) n tg, trTg (fnC scope) N (relS scope sc) n tg1 with
        | some t, some t1 => if (notSet it && (notSet it1 && (blkC N sc scope (ownOfS N scope) && (decide (ifs.length ≤ 1 ∧ ifs1.length ≤ 1) && (tgAll (fun i => ((ownOfS N scope).map (·.2)).contains i) t && tgAll (fun i => ((ownOfS N scope).map (·.2)).contains i) t1))))) = true then
            .comp2 (trE G N (relS scope sc) n elt) t (trI G N sc n tg it) (ifs.map (trT G N (relS scope sc) n)) t1 (trI G N (relS scope sc) n tg1 it1) (ifs1.map (trT G N (relS scope sc) n)) ((ownOfS N scope).map (·.2)) ((ownOfS N scope).map (·.2)) else .never
        | _, _ => .never) else .never
      | _ => .never)
    | _ => .never
/-- list(range(..)) -/
def trR (G : Gx) (N : List Str) (sc : Scope) : Nat → Str → List Expr → Option Ex
  | 0, _, _ => none
  | n + 1, x, es => match es with
    | [.Call (.Name y _) as [] _] => if (decide (x = "list") && (decide (y = "range") && (gloQ sc y && (G.free.contains y && as.all noStar)))) = true then (match as with
      | [a] => some (.lrg1 (trE G N sc n a))
      | [a, b] => some (.lrg2 (trE G N sc n a) (trE G N sc n b))
      | _ => none) else none
    | _ => none
/-- a test -/
def trT (G : Gx) (N : List Str) (sc : Scope) : Nat → Expr → Ex
  | 0, _ => .never
  | n + 1, e => match e with
    | .UnaryOp .Not a _ => .not (trT G N sc n a)
    | .BoolOp o es pos => (match es with
      | [] => .never
      | [a] => trT G N sc n a
      | a :: b :: r => match o with
        | .And => .and (trT G N sc n a) (trT G N sc n (.BoolOp .And (b :: r) pos))
        | .Or => .or (trT G N sc n a) (trT G N sc n (.BoolOp .Or (b :: r) pos)))
    | .IfExp _ _ _ _ => .never
    | e => trE G N sc n e
/-- what is walked -/
def trI (G : Gx) (N : List Str) (sc : Scope) : Nat → Expr → Expr → Ex
  | 0, _, _ => .never
  | n + 1, tg, e => match e with
    | .Call (.Name x p) es [] pos => if (gloQ sc x && (G.free.contains x && es.all noStar)) = true then
        (if x = "range" then (match es with
          | [a] => .rng1 (trE G N sc n a)
          | [a, b] => .rng2 (trE G N sc n a) (trE G N sc n b)
          | _ => .never)
        else if x = "zip" then (match es with
          | [a, b] => if isTupE tg = true then .zip2 (trE G N sc n a) (trE G N sc n b) else .never
          | [a, b, d] => if isTupE tg = true then .zip3 (trE G N sc n a) (trE G N sc n b) (trE G N sc n d) else .never
          | _ => .never)
        else if x = "enumerate" then (match es with
          | [a] => if isTupE tg = true then .enm (trE G N sc n a) else .never
          | _ => .never)
        else trE G N sc n (.Call (.Name x p) es [] pos))
      else trE G N sc n (.Call (.Name x p) es [] pos)
    | e => trE G N sc n e
def trArgs (G : Gx) (N : List Str) (sc : Scope) : Nat → List Bool → List Expr → Option (List Ex)
  | 0, _, _ => none
  | n + 1, ms, es => match es with
    | [] => some []
    | e :: es => match ms with
      | [] => none
      | true :: ms => (match e with
        | .Name x _ => match slotQ N sc x with
          | some i => (trArgs G N sc n ms es).map (.loc i :: ·)
          | none => none
        | _ => none)
      | false :: ms => (trArgs G N sc n ms es).map (trE G N sc n e :: ·)
end

/-! ### statements -/
/-- the swapped stores of a pair or a triple of plain names -/
def swapQ (sc : Scope) (targets : List Expr) (value : Expr) : Option (Option (List Str)) :=
  match (match targets, value with
    | [.Tuple ts _ _], .Tuple vs _ _ => some (ts, vs)
    | [.List ts _], .Tuple vs _ _ => some (ts, vs)
    | _, _ => none) with
  | none => some none
  | some (ts, vs) =>
    if (!(ts.length == 2 || ts.length == 3) || vs.length != ts.length) = true then some none
    else if (vs.any fun | .Starred .. => true | _ => false) = true then some none
    else
      let line := (ts.head?.map (·.pos.line)).getD 0
      let names := ts.filterMap fun
        | .Name id pos => if sc.names.lookup id == some .local && pos.line == line then some id else none
        | _ => none
      if (names.length != ts.length || names.eraseDups.length != names.length) = true then some none
      else if (vs.all (foldedForSure 8)) = true then some none
      else if (vs.all (constantsAlone 8)) = true then none
      else some (some names)
end Rv

/-! Rv, part 19: statements to code. -/
namespace Rv
open PySem PySem.Spec PyProof.Rows L2
/-- a slot that a statement may store to: not one of the arguments that come back -/
def stQ (N : List Str) (sc : Scope) (ms : List Bool) (x : Str) : Option Nat := match storeQ (fun _ => true) N sc x with
  | some i => if ms.getD i false = true then none else some i
  | none => none
def tgU (ms : List Bool) (t : Tg) : Bool := tgAll (fun i => !ms.getD i false) t
def trPair (G : Gx) (N : List Str) (sc : Scope) (ms : List Bool) (n : Nat) (x y : Str) (a b : Expr) : Sx :=
  match stQ N sc ms x, stQ N sc ms y with
  | some i, some j => if i ≠ j ∧ sc.names.lookup x = some .local ∧ sc.names.lookup y = some .local ∧ noStar a = true ∧ noStar b = true then .par i j (trE G N sc n a) (trE G N sc n b) else .never
  | _, _ => .never
/-- a pair with a new list in it, by way of a tuple -/
def isListE : Expr → Bool
  | .List _ _ => true
  | _ => false
def parTQ (N : List Str) (sc : Scope) (ms : List Bool) (es : List Expr) (v : Expr) : Option (Nat × Nat × Expr × Expr) := match es, v with
  | [.Name x _, .Name y _], .Tuple [a, b] _ _ => (match stQ N sc ms x, stQ N sc ms y with
    | some i, some j => if ((isListE a || isListE b) && (noStar a && noStar b)) = true then some (i, j, a, b) else none
    | _, _ => none)
  | _, _ => none
mutual
def trS (G : Gx) (N : List Str) (sc : Scope) (ms : List Bool) : Nat → Stmt → Sx
  | 0, _ => .never
  | n + 1, s => match s with
    | .Pass _ => .pass
    | .Break _ => .brk
    | .Continue _ => .cont
    | .Return none _ => .ret (.con .non)
    | .Return (some e) _ => .ret (trE G N sc n e)
    | .Expr e _ => (match e with
      | .Constant (.str _) _ _ => .pass
      | e => if notComp e = true then .expr (trE G N sc n e) else .never)
    | .Assign ts v _ => (match ts with
      | [.Name x _] => (match stQ N sc ms x with
        | some i => .asg (.nm i) (trE G N sc n v)
        | none => .never)
      | [.Tuple es k p] => (match swapQ sc [.Tuple es k p] v with
        | some none => (match parTQ N sc ms es v with
          | some (i, j, a, b) => .par i j (trE G N sc n a) (trE G N sc n b)
          | none => if (notComp v && es.all noStar) = true then (match trTg (fun _ => true) N sc n (.Tuple es k p) with
          | some t => if tgU ms t = true then (match t with
            | .tp ts => .asg (.tp ts) (trE G N sc n v)
            | _ => .never) else .never
          | none => .never) else .never)
        | some (some [u, w]) => (match es, v with
          | [.Name x _, .Name y _], .Tuple [a, b] _ _ => if u = x ∧ w = y then trPair G N sc ms n x y a b else .never
          | _, _ => .never)
        | _ => .never)
      | [.Subscript (.Name x _) k _] => (match slotQ N sc x with
        | some i => if (notSlice k && notComp v) = true then .setSub i (trE G N sc n k) (trE G N sc n v) else .never
        | none => .never)
      | [.Attribute (.Name x _) f _] => (match slotQ N sc x with
        | some i => if notComp v = true then .setAttr i f (trE G N sc n v) else .never
        | none => .never)
      | _ => .never)
    | .AugAssign t o e _ => (match t with
      | .Name x _ => (match stQ N sc ms x with
        | some i => .aug i o (trE G N sc n e)
        | none => .never)
      | _ => .never)
    | .If c a b _ => .ite (trT G N sc n c) (trSs G N sc ms n a) (trSs G N sc ms n b)
    | .While c body orelse _ => if orelse.isEmpty = true then .while (trT G N sc n c) (trSs G N sc ms n body) else .never
    | .For tg it body orelse _ => if (orelse.isEmpty && notSet it) = true then (match trTg (fun _ => true) N sc n tg with
      | some t => if tgU ms t = true then .for t (trI G N sc n tg it) (trSs G N sc ms n body) else .never
      | none => .never) else .never
    | _ => .never
def trSs (G : Gx) (N : List Str) (sc : Scope) (ms : List Bool) : Nat → List Stmt → List Sx
  | 0, _ => [.never]
  | n + 1, ss => match ss with
    | [] => []
    | s :: ss => trS G N sc ms n s :: trSs G N sc ms n ss
end
end Rv

/-! Rv, part 20: the code speaks for the text. -/
namespace Rv
open PySem PySem.Spec PyProof.Rows L2

/-- what is known of a context -/
structure Cok (X : Cx) (C : Ctx) (G : Gx) (N : List Str) (k : Nat) (sc : Scope) (fn : Str → Bool) : Prop where
  hN : X.N = N
  nd : N.Nodup
  hsc : X.env.scope = sc
  kd : sc.kind = .function
  hfn : ∀ x, fn x = true → X.fn x = true
  calm : X.calm = true
  un : X.A.units + 70 < cLine
  room : Room (k + 1) X.A
  free : ∀ x, G.free.contains x = true → X.mg x = none
  fns : ∀ x ms, G.fns.lookup x = some ms → ∃ I fa, C.fn x = some I ∧ I.modes = ms ∧ X.mg x = some (.ref fa) ∧ PySem.W.keepIn X.K (.ref fa) = true ∧ ∀ n, FnCall X C k fa x I n
  cls : ∀ x ms, G.cls.lookup x = some ms → ∃ f I fa D, C.meth x "__init__" = some f ∧ C.fn f = some I ∧ I.modes.drop 1 = ms ∧ X.mg x = some (.ref D) ∧ Mk X.K D fa ∧ ∀ n, FnCall X C k fa f I n
  call : ∀ n, CallOk X C k n
  callm : ∀ c f I ms, C.meth c "__call__" = some f → C.fn f = some I → I.modes = false :: ms → ms = G.call
  con : ∀ x, G.cons.contains x = true → ∃ v V u, C.con x = some v ∧ X.mg x = some u ∧ RelV V u ∧ ∀ F, RV X.K X.mg F v V
  fld : ∀ f c D, C.fld c f = true → X.mg c = some (.ref D) → Cls X.K D ∧ NoAttr X.K D f
  meth : ∀ m ms, G.meths.lookup m = some ms → (∀ n, MethOk X C k m n) ∧ ∀ c f I ms', C.meth c m = some f → C.fn f = some I → I.modes = false :: ms' → ms' = ms
  prop : ∀ f, G.props.contains f = true → PropOk X C k f
  clsm : ∀ x m ms, G.clsm.lookup (x, m) = some ms → (∃ f I, C.clsm x m = some f ∧ C.fn f = some I ∧ I.modes.drop 1 = ms) ∧ ∀ n, ClsOk X C k x m n

section
variable {X : Cx} {C : Ctx} {G : Gx} {N : List Str} {k : Nat} {sc : Scope} {fn : Str → Bool} {W : WX}
theorem Cok.blk (c : Cok X C G N k sc fn) {scope : Scope} (hk : scope.kind = .function) (s : Shared) (H : Hp) (a : Addr) (cl : List (Str × Addr)) (fp : List Addr) :
    Cok (X.blk s H scope (compEnvC scope cl a X.env) fp) C G N k (relS scope sc) (fnC scope) where
  hN := c.hN
  nd := c.nd
  hsc := by rw [← c.hsc]; rfl
  kd := hk
  hfn := fun x h => h
  calm := c.calm
  un := c.un
  room := c.room
  free := c.free
  fns := c.fns
  cls := c.cls
  call := c.call
  callm := c.callm
  con := c.con
  fld := c.fld
  meth := c.meth
  prop := c.prop
  clsm := c.clsm
theorem takes_blk {s : Shared} {H : Hp} {scope : Scope} {env : PySem.Env} {fp : List Addr} : Takes (X.blk s H scope env fp) Wn := fun _ _ x => by
  obtain ⟨_, _, _, _, _, _, _, _, _, _, _, _, _, _, _, _, z⟩ := x
  exact z
theorem slotQ_ok {x : Str} {i : Nat} (c : Cok X C G N k sc fn) (e : slotQ N sc x = some i) : X.N[i]? = some x ∧ Vis X.env.scope x ∧ (x == ("__debug__" : Str)) = false ∧ (x == ("__classdict__" : Str)) = false := by
  unfold slotQ at e
  split at e
  · cases e
  · rename_i hb
    have hb' : badN x = false := by simpa using hb
    unfold badN at hb'
    rw [Bool.or_eq_false_iff] at hb'
    rw [c.hN, c.hsc]
    split at e
    · rename_i h; exact ⟨ix_ok e, .inl h, hb'.1, hb'.2⟩
    · rename_i h; exact ⟨ix_ok e, .inr (.inl h), hb'.1, hb'.2⟩
    · rename_i h; exact ⟨ix_ok e, .inr (.inr h), hb'.1, hb'.2⟩
    · cases e
theorem storeQ_ok {x : Str} {i : Nat} (c : Cok X C G N k sc fn) (e : storeQ fn N sc x = some i) : X.N[i]? = some x ∧ Loc X.env.scope x ∧ (X.fn x = true ∨ X.env.scope.names.lookup x = some .local) := by
  unfold storeQ at e
  rw [c.hN, c.hsc]
  split at e
  · rename_i h; exact ⟨ix_ok e, .inl h, .inr h⟩
  · rename_i h
    split at e
    · rename_i hf; exact ⟨ix_ok e, .inr h, .inl (c.hfn x hf)⟩
    · cases e
  · cases e
theorem gloQ_ok {x : Str} (c : Cok X C G N k sc fn) (e : gloQ sc x = true) : Gl X x ∧ (x == ("__debug__" : Str)) = false := by
  unfold gloQ at e
  rw [Bool.and_eq_true, decide_eq_true_eq] at e
  refine ⟨?_, by simpa using e.2⟩
  show X.env.scope.names.lookup x = some .globalImplicit
  rw [c.hsc]
  exact e.1
theorem typOf_ok {x : Str} {n : String} (e : typOf x = some n) : bootBuiltins x = some (.type n) ∧ x ≠ "__name__" := by
  unfold typOf at e
  split at e
  · rename_i h; cases e; subst h; exact ⟨by decide +kernel, by decide⟩
  split at e
  · rename_i h; cases e; subst h; exact ⟨by decide +kernel, by decide⟩
  split at e
  · rename_i h; cases e; subst h; exact ⟨by decide +kernel, by decide⟩
  split at e
  · rename_i h; cases e; subst h; exact ⟨by decide +kernel, by decide⟩
  split at e
  · rename_i h; cases e; subst h; exact ⟨by decide +kernel, by decide⟩
  split at e
  · rename_i h; cases e; subst h; exact ⟨by decide +kernel, by decide⟩
  · cases e
theorem trName_ok (c : Cok X C G N k sc fn) {x : Str} {pos : Pos} : SE X C W (.Name x pos) (trName G N sc x) := by
  unfold trName
  split
  · rename_i i e
    obtain ⟨h1, h2, h3, h4⟩ := slotQ_ok c e
    exact se_loc h1 h2 h3 h4
  · split
    · rename_i hg
      obtain ⟨g1, g2⟩ := gloQ_ok c hg
      split
      · rename_i hc
        obtain ⟨v, V, u, q1, q2, q3, q4⟩ := c.con x hc
        exact se_glo g1 q2 q3 g2 q1 q4
      · split
        · rename_i n e
          split
          · rename_i hf
            obtain ⟨t1, t2⟩ := typOf_ok e
            exact se_typ g1 (c.free x hf) t1 t2 g2
          · exact se_never
        · exact se_never
    · exact se_never
/-! ### targets -/
theorem mapM_inv {α β : Type} {f : α → Option β} : ∀ {xs : List α} {ys : List β}, xs.mapM f = some ys → xs.length = ys.length ∧ ∀ (i : Nat) (x : α), xs[i]? = some x → ∃ y, ys[i]? = some y ∧ f x = some y
  | [], ys, e => by
    have e : some [] = some ys := by simpa using e
    cases e
    exact ⟨rfl, fun i x h => by simp at h⟩
  | x :: xs, ys, e => by
    rw [List.mapM_cons] at e
    cases h1 : f x with
    | none => rw [h1] at e; cases e
    | some y =>
      rw [h1] at e
      cases h2 : xs.mapM f with
      | none => rw [h2] at e; cases e
      | some zs =>
        rw [h2] at e
        cases e
        obtain ⟨l, k⟩ := mapM_inv h2
        refine ⟨by rw [List.length_cons, List.length_cons, l], fun i u hu => ?_⟩
        cases i with
        | zero =>
          have hu : some x = some u := hu
          cases hu
          exact ⟨y, rfl, h1⟩
        | succ i => exact k i u hu
theorem trTg_ok : ∀ (n : Nat) {e : Expr} {t : Tg}, Cok X C G N k sc fn → trTg fn N sc n e = some t → SG X e t
  | 0, _, _, _, e => nomatch (show (none : Option Tg) = some _ from e)
  | n + 1, e, t, c, h => by
    cases e <;> first | exact nomatch (show (none : Option Tg) = some _ from h) | skip
    · rename_i x pos
      obtain ⟨i, h1, rfl⟩ := map_inv (show (storeQ fn N sc x).map Tg.nm = some t from h)
      obtain ⟨a, b, d⟩ := storeQ_ok c h1
      exact sg_nm (by rw [c.hN]; exact c.nd) a b d
    · rename_i es kk pos
      replace h : (if es.all noStar = true then (es.mapM (trTg fn N sc n)).map Tg.tp else none) = some t := h
      split at h
      · rename_i hst
        obtain ⟨ts, h1, rfl⟩ := map_inv h
        obtain ⟨hl, _⟩ := mapM_inv h1
        refine sg_tp c.calm hst hl ?_
        have go : ∀ (es : List Expr) (ts : List Tg), es.all noStar = true → es.mapM (trTg fn N sc n) = some ts → SGs X es ts := by
          intro es
          induction es with
          | nil =>
            intro ts _ e
            have e : some [] = some ts := by simpa using e
            cases e
            exact sgs_nil
          | cons a es ih =>
            intro ts hs e
            rw [List.all_cons, Bool.and_eq_true] at hs
            rw [List.mapM_cons] at e
            cases q1 : trTg fn N sc n a with
            | none => rw [q1] at e; cases e
            | some y =>
              rw [q1] at e
              cases q2 : es.mapM (trTg fn N sc n) with
              | none => rw [q2] at e; cases e
              | some zs =>
                rw [q2] at e
                cases e
                exact sgs_cons hs.1 (trTg_ok n c q1) (ih zs hs.2 q2)
        exact go es ts hst h1
      · cases h
end
end Rv

/-! Rv, part 21: the code speaks for the text: expressions. -/
namespace Rv
open PySem PySem.Spec PyProof.Rows L2
theorem se_not2 {X : Cx} {C : Ctx} {W : WX} {a : Expr} {ca : Ex} {pos : Pos} (he : SE X C W a ca) : SE X C W (.UnaryOp .Not a pos) (.not ca) :=
  pe_imp (pe_notT he) fun σ H Q ⟨F, ρ, rp, h⟩ => by
    have h : PostE X.K X.mg H F H σ ρ W Q (((evE C ca ρ).bind tru).bind fun b ρ => .ok ⟨.bl (!b), .fz⟩ ρ) := h
    rw [Out.bind_assoc] at h
    refine bindX rp h fun r ρ1 V F1 H1 rp1 st rr h1 => ?_
    obtain ⟨k, tv, h2⟩ := tru_ans rp1 rr h1.of_bind
    exact ⟨k, tv, done_fz rp1 (h2.now rp1) (.bl _)⟩
/-- what is to be shown of each fuel -/
structure TrOk (C : Ctx) (G : Gx) (N : List Str) (k n : Nat) : Prop where
  e : ∀ {X : Cx} {sc : Scope} {fn : Str → Bool} {W : WX}, Cok X C G N k sc fn → Takes X W → ∀ e : Expr, SE X C W e (trE G N sc n e)
  t : ∀ {X : Cx} {sc : Scope} {fn : Str → Bool} {W : WX}, Cok X C G N k sc fn → Takes X W → ∀ e : Expr, ST X C W e (trT G N sc n e)
  i : ∀ {X : Cx} {sc : Scope} {fn : Str → Bool} {W : WX}, Cok X C G N k sc fn → Takes X W → ∀ tg e : Expr, SI X C W tg e (trI G N sc n tg e)
  a : ∀ {X : Cx} {sc : Scope} {fn : Str → Bool} {W : WX}, Cok X C G N k sc fn → Takes X W → ∀ (ms : List Bool) (es : List Expr) (cs : List Ex), es.all noStar = true → trArgs G N sc n ms es = some cs → SArgs X C W ms es cs ∧ es.length = cs.length
  r : ∀ {X : Cx} {sc : Scope} {fn : Str → Bool} {W : WX}, Cok X C G N k sc fn → Takes X W → ∀ (x : Str) (p pos : Pos) (es : List Expr) (c : Ex), Gl X x → X.mg x = none → trR G N sc n x es = some c → SE X C W (.Call (.Name x p) es [] pos) c
  w : ∀ {X : Cx} {sc : Scope} {fn : Str → Bool} {W : WX}, Cok X C G N k sc fn → Takes X W → ∀ (o : BoolOp) (es : List Expr) (pos : Pos), SW X C W (.BoolOp o es pos) (trT G N sc n (.BoolOp o es pos))
  q : ∀ {X : Cx} {sc : Scope} {fn : Str → Bool} {W : WX}, Cok X C G N k sc fn → Takes X W → ∀ (a : Expr) (os : List CmpOp) (bs : List Expr) (pos : Pos), ST X C W (.Compare a os bs pos) (trE G N sc n (.Compare a os bs pos))
section
variable {C : Ctx} {G : Gx} {N : List Str} {k n : Nat} {X : Cx} {sc : Scope} {fn : Str → Bool} {W : WX}
theorem sas_map (f : Expr → Ex) (h : ∀ e, SE X C W e (f e)) : ∀ {es : List Expr}, es.all noStar = true → SA X C W es (es.map f)
  | [], _ => sa_nil
  | a :: es, hs => by
    rw [List.all_cons, Bool.and_eq_true] at hs
    exact sa_cons hs.1 (h a) (sas_map f h hs.2)
theorem szs_map (f : Expr → Ex) (h : ∀ e, SE X C W e (f e)) : ∀ {es : List Expr}, es.all noStar = true → SZ X C W es (es.map f)
  | [], _ => sz_nil
  | a :: es, hs => by
    rw [List.all_cons, Bool.and_eq_true] at hs
    exact sz_cons hs.1 (h a) (szs_map f h hs.2)
theorem plainIx_ok {s : Expr} (h : plainIxQ s = true) : PlainIx s := by
  intro o i
  cases s <;> first | rfl | exact (Bool.false_ne_true h).elim
/-- a built-in by its name -/
theorem callB_ok (c : Cok X C G N k sc fn) {x : Str} {a : Expr} {es : List Expr} {cs : List Ex} {p pos : Pos} (hb : bNames.contains x = true) (hg : Gl X x) (hm : X.mg x = none) (hst : (a :: es).all noStar = true) (hs : SA X C W (a :: es) cs) :
    SE X C W (.Call (.Name x p) (a :: es) [] pos) (.callB x cs) := by
  have hb : x ∈ bNames := List.contains_iff_mem.mp hb
  unfold bNames at hb
  have un := c.un
  simp only [List.mem_cons, List.not_mem_nil, or_false] at hb
  rcases hb with rfl | rfl | rfl | rfl | rfl | rfl | rfl | rfl | rfl | rfl | rfl | rfl
  · exact se_len hg hm hst hs
  · exact se_isi hg hm hst hs
  · exact se_all c.calm hg hm hst hs
  · exact se_any c.calm hg hm hst hs
  · exact se_sum c.calm hg hm hst hs
  · exact se_sorted un hg hm hst hs
  · exact se_tuple hg hm hst hs
  · exact se_list hg hm hst hs
  · exact se_int1 hg hm hst hs
  · exact se_abs hg hm hst hs
  · exact se_min2 c.calm hg hm hst hs
  · exact se_max2 c.calm hg hm hst hs
theorem lm_ok (c : Cok X C G N k sc fn) {x m : Str} {i : Nat} {a : Expr} {es : List Expr} {cs : List Ex} {np apos pos : Pos} (hl : lmNames.contains m = true) (e : slotQ N sc x = some i) (hst : (a :: es).all noStar = true) (hfew : (a :: es).length < 30) (hline : (apos.endLine == pos.line) = true) (hs : SZ X C W (a :: es) cs) :
    SE X C W (.Call (.Attribute (.Name x np) m apos) (a :: es) [] pos) (.lm i m cs) := by
  have hl : m ∈ lmNames := List.contains_iff_mem.mp hl
  unfold lmNames at hl
  obtain ⟨h1, h2, h3, h4⟩ := slotQ_ok c e
  simp only [List.mem_cons, List.not_mem_nil, or_false] at hl
  rcases hl with rfl | rfl | rfl
  · exact se_append h1 h2 h3 h4 hst hfew hline hs
  · exact se_insert h1 h2 h3 h4 hst hfew hline hs
  · exact se_extend h1 h2 h3 h4 hst hfew hline hs
theorem bop_ok {o : Operator} {a b : Expr} {ca cb : Ex} {pos : Pos} (h : okOp o = true) (ha : SE X C W a ca) (hb : SE X C W b cb) : SE X C W (.BinOp a o b pos) (.bop o ca cb) := by
  cases o <;> first
    | exact (Bool.false_ne_true h).elim
    | exact se_add ha hb
    | exact se_sub ha hb
    | exact se_mul ha hb
    | exact se_mod ha hb
    | exact se_pow ha hb
    | exact se_div ha hb
/-- the tests of a clause -/
theorem sts_map (f : Expr → Ex) (h : ∀ e, ST X C Wn e (f e)) {ifs : List Expr} (hl : ifs.length ≤ 1) : STs X C ifs (ifs.map f) := by
  cases ifs with
  | nil => exact sts_nil
  | cons a r =>
    cases r with
    | nil => exact sts_one (h a)
    | cons b r => simp at hl
theorem call_tree {fe : Expr} {es : List Expr} {x : Str} {p pos : Pos} (h : fe = .Name x p) : eval (.Call fe es [] pos) X.env = (do callWith pos (← eval fe X.env) [] (backTo pos (starEach es X.env)) (backToKw pos (keywordEach [] X.env))) := by
  subst h
  rfl
/-- an argument list by modes -/
theorem args_step (ih : TrOk C G N k n) (c : Cok X C G N k sc fn) (tk : Takes X W) (ms : List Bool) (es : List Expr) (cs : List Ex) (hst : es.all noStar = true) (h : trArgs G N sc (n + 1) ms es = some cs) : SArgs X C W ms es cs ∧ es.length = cs.length := by
  cases es with
  | nil =>
    have h : some [] = some cs := h
    cases h
    exact ⟨sargs_nil, rfl⟩
  | cons e es =>
    rw [List.all_cons, Bool.and_eq_true] at hst
    cases ms with
    | nil => exact nomatch (show (none : Option (List Ex)) = some _ from h)
    | cons m ms =>
      cases m with
      | false =>
        obtain ⟨cs', h1, rfl⟩ := map_inv (show (trArgs G N sc n ms es).map (trE G N sc n e :: ·) = some cs from h)
        obtain ⟨a1, a2⟩ := ih.a c tk ms es cs' hst.2 h1
        exact ⟨sargs_fz hst.1 (ih.e c tk e) a1, by rw [List.length_cons, List.length_cons, a2]⟩
      | true =>
        cases e <;> first | exact nomatch (show (none : Option (List Ex)) = some _ from h) | skip
        rename_i x pos
        replace h : (match slotQ N sc x with
          | some i => (trArgs G N sc n ms es).map (.loc i :: ·)
          | none => none) = some cs := h
        cases e1 : slotQ N sc x with
        | none => rw [e1] at h; cases h
        | some i =>
          rw [e1] at h
          obtain ⟨cs', h1, rfl⟩ := map_inv h
          obtain ⟨a1, a2⟩ := ih.a c tk ms es cs' hst.2 h1
          obtain ⟨b1, b2, b3, b4⟩ := slotQ_ok c e1
          exact ⟨sargs_own b1 b2 b3 b4 a1, by rw [List.length_cons, List.length_cons, a2]⟩
theorem range_step (ih : TrOk C G N k n) (c : Cok X C G N k sc fn) (tk : Takes X W) (x : Str) (p pos : Pos) (es : List Expr) (cc : Ex) (hg : Gl X x) (hm : X.mg x = none) (h : trR G N sc (n + 1) x es = some cc) : SE X C W (.Call (.Name x p) es [] pos) cc := by
  unfold trR at h
  split at h
  · rename_i y p2 as pos2
    split at h
    · rename_i hc
      simp only [Bool.and_eq_true, decide_eq_true_eq] at hc
      obtain ⟨rfl, rfl, h3, h4, h5⟩ := hc
      obtain ⟨g1, _⟩ := gloQ_ok c h3
      split at h
      · rename_i a
        cases h
        rw [List.all_cons, Bool.and_eq_true] at h5
        exact se_lrg1 c.calm hg hm g1 (c.free _ h4) h5.1 (ih.e c tk a)
      · rename_i a b
        cases h
        rw [List.all_cons, List.all_cons, Bool.and_eq_true, Bool.and_eq_true] at h5
        exact se_lrg2 c.calm hg hm g1 (c.free _ h4) h5.1 h5.2.1 (ih.e c tk a) (ih.e c tk b)
      · cases h
    · cases h
  · cases h
theorem iter_step (ih : TrOk C G N k n) (c : Cok X C G N k sc fn) (tk : Takes X W) (tg e : Expr) : SI X C W tg e (trI G N sc (n + 1) tg e) := by
  unfold trI
  split
  · rename_i x p es pos
    split
    · rename_i hc
      simp only [Bool.and_eq_true] at hc
      obtain ⟨h1, h2, h3⟩ := hc
      obtain ⟨g1, _⟩ := gloQ_ok c h1
      have hm := c.free _ h2
      split
      · rename_i hx
        subst hx
        split
        · rename_i a
          rw [List.all_cons, Bool.and_eq_true] at h3
          exact si_range1 g1 hm h3.1 (ih.e c tk a)
        · rename_i a b
          rw [List.all_cons, List.all_cons, Bool.and_eq_true, Bool.and_eq_true] at h3
          exact si_range2 g1 hm h3.1 h3.2.1 (ih.e c tk a) (ih.e c tk b)
        · exact si_never
      · split
        · rename_i hx
          subst hx
          split
          · rename_i a b
            split
            · rename_i ht
              cases tg <;> first | exact (Bool.false_ne_true ht).elim | skip
              rw [List.all_cons, List.all_cons, Bool.and_eq_true, Bool.and_eq_true] at h3
              exact si_zip g1 hm h3.1 h3.2.1 (ih.e c tk a) (ih.e c tk b)
            · exact si_never
          · rename_i a b d
            split
            · rename_i ht
              cases tg <;> first | exact (Bool.false_ne_true ht).elim | skip
              rw [List.all_cons, List.all_cons, List.all_cons, Bool.and_eq_true, Bool.and_eq_true, Bool.and_eq_true] at h3
              exact si_zip3 g1 hm h3.1 h3.2.1 h3.2.2.1 (ih.e c tk a) (ih.e c tk b) (ih.e c tk d)
            · exact si_never
          · exact si_never
        · split
          · rename_i hx
            subst hx
            split
            · rename_i a
              split
              · rename_i ht
                cases tg <;> first | exact (Bool.false_ne_true ht).elim | skip
                rw [List.all_cons, Bool.and_eq_true] at h3
                exact si_enum g1 hm h3.1 (ih.e c tk a)
              · exact si_never
            · exact si_never
          · exact si_seq (ih.e c tk _)
    · exact si_seq (ih.e c tk _)
  · exact si_seq (ih.e c tk _)
end
end Rv

/-! Rv, part 22: the code speaks for the text: all expressions. -/
namespace Rv
open PySem PySem.Spec PyProof.Rows L2
theorem sw_never {X : Cx} {C : Ctx} {W : WX} {e : Expr} : SW X C W e .never := ⟨fun wh pins s σ H Q I ⟨F, ρ, rp, h⟩ => by
  have h : PostT X.K X.mg F H σ ρ W Q .stuck := h
  exact h.elim⟩
section
variable {C : Ctx} {G : Gx} {N : List Str} {k n : Nat} {X : Cx} {sc : Scope} {fn : Str → Bool} {W : WX}
theorem cmp_step (ih : TrOk C G N k n) (c : Cok X C G N k sc fn) (tk : Takes X W) (a : Expr) (os : List CmpOp) (bs : List Expr) (pos : Pos) :
    SE X C W (.Compare a os bs pos) (trE G N sc (n + 1) (.Compare a os bs pos)) ∧ ST X C W (.Compare a os bs pos) (trE G N sc (n + 1) (.Compare a os bs pos)) := by
  have un := c.un
  show SE X C W _ (match os, bs with
      | [o], [b] => if behindInMarks o b = false then .cmp o (trE G N sc n a) (trE G N sc n b) else .never
      | [o, p], [b, c] => if lastMarks [o, p] [b, c] = false then .chn o p (trE G N sc n a) (trE G N sc n b) (trE G N sc n c) else .never
      | _, _ => .never) ∧ ST X C W _ (match os, bs with
      | [o], [b] => if behindInMarks o b = false then .cmp o (trE G N sc n a) (trE G N sc n b) else .never
      | [o, p], [b, c] => if lastMarks [o, p] [b, c] = false then .chn o p (trE G N sc n a) (trE G N sc n b) (trE G N sc n c) else .never
      | _, _ => .never)
  split
  · rename_i o b
    split
    · rename_i hm
      exact ⟨se_cmp (by omega) (ih.e c tk a) (ih.e c tk b) hm, st_cmp (by omega) (ih.e c tk a) (ih.e c tk b) hm⟩
    · exact ⟨se_never, st_never⟩
  · rename_i o p b d
    split
    · rename_i hm
      exact ⟨se_chn (by omega) (ih.e c tk a) (ih.e c tk b) (ih.e c tk d) hm, st_chn (by omega) (ih.e c tk a) (ih.e c tk b) (ih.e c tk d) hm⟩
    · exact ⟨se_never, st_never⟩
  · exact ⟨se_never, st_never⟩
theorem bool_step (ih : TrOk C G N k n) (c : Cok X C G N k sc fn) (tk : Takes X W) (o : BoolOp) (es : List Expr) (pos : Pos) : SW X C W (.BoolOp o es pos) (trT G N sc (n + 1) (.BoolOp o es pos)) := by
  show SW X C W _ (match es with
      | [] => .never
      | [a] => trT G N sc n a
      | a :: b :: r => match o with
        | .And => .and (trT G N sc n a) (trT G N sc n (.BoolOp .And (b :: r) pos))
        | .Or => .or (trT G N sc n a) (trT G N sc n (.BoolOp .Or (b :: r) pos)))
  split
  · exact sw_never
  · rename_i a
    cases o
    · exact sw_and1 (ih.t c tk a)
    · exact sw_or1 (ih.t c tk a)
  · rename_i a b r
    cases o
    · exact sw_and (ih.t c tk a) (ih.w c tk .And (b :: r) pos)
    · exact sw_or (ih.t c tk a) (ih.w c tk .Or (b :: r) pos)
theorem test_step (ih : TrOk C G N k n) (c : Cok X C G N k sc fn) (tk : Takes X W) (e : Expr) : ST X C W e (trT G N sc (n + 1) e) := by
  cases e with
  | UnaryOp op a pos =>
    cases op with
    | Not => exact st_not (ih.t c tk a)
    | Invert => exact st_gen (ih.e c tk _) fun _ => rfl
    | UAdd => exact st_gen (ih.e c tk _) fun _ => rfl
    | USub => exact st_gen (ih.e c tk _) fun _ => rfl
  | BoolOp o es pos => exact (bool_step ih c tk o es pos).pt
  | IfExp a b d pos => exact st_never
  | Compare a os bs pos => exact ih.q c tk a os bs pos
  | NamedExpr _ _ _ => exact st_gen (ih.e c tk _) fun _ => rfl
  | BinOp _ _ _ _ => exact st_gen (ih.e c tk _) fun _ => rfl
  | Lambda _ _ _ _ => exact st_gen (ih.e c tk _) fun _ => rfl
  | Dict _ _ _ => exact st_gen (ih.e c tk _) fun _ => rfl
  | Set _ _ _ => exact st_gen (ih.e c tk _) fun _ => rfl
  | ListComp _ _ _ _ => exact st_gen (ih.e c tk _) fun _ => rfl
  | SetComp _ _ _ _ => exact st_gen (ih.e c tk _) fun _ => rfl
  | DictComp _ _ _ _ _ => exact st_gen (ih.e c tk _) fun _ => rfl
  | GeneratorExp _ _ _ _ => exact st_gen (ih.e c tk _) fun _ => rfl
  | Await _ _ => exact st_gen (ih.e c tk _) fun _ => rfl
  | Yield _ _ => exact st_gen (ih.e c tk _) fun _ => rfl
  | YieldFrom _ _ => exact st_gen (ih.e c tk _) fun _ => rfl
  | Call _ _ _ _ => exact st_gen (ih.e c tk _) fun _ => rfl
  | FormattedValue _ _ _ _ => exact st_gen (ih.e c tk _) fun _ => rfl
  | JoinedStr _ _ => exact st_gen (ih.e c tk _) fun _ => rfl
  | Constant _ _ _ => exact st_gen (ih.e c tk _) fun _ => rfl
  | Attribute _ _ _ => exact st_gen (ih.e c tk _) fun _ => rfl
  | Subscript _ _ _ => exact st_gen (ih.e c tk _) fun _ => rfl
  | Starred _ _ => exact st_gen (ih.e c tk _) fun _ => rfl
  | Name _ _ => exact st_gen (ih.e c tk _) fun _ => rfl
  | List _ _ => exact st_gen (ih.e c tk _) fun _ => rfl
  | Tuple _ _ _ => exact st_gen (ih.e c tk _) fun _ => rfl
  | Slice _ _ _ _ => exact st_gen (ih.e c tk _) fun _ => rfl
theorem lmQ_ok {o : Expr} {m : Str} {l i : Nat} {near : Bool} (e : lmQ N sc o m l near = some i) : ∃ x np, o = .Name x np ∧ slotQ N sc x = some i ∧ lmNames.contains m = true ∧ 0 < l ∧ l < 30 ∧ near = true := by
  unfold lmQ at e
  split at e
  · split at e
    · split at e
      · rename_i h hc
        cases e
        simp only [Bool.and_eq_true, decide_eq_true_eq] at hc
        exact ⟨_, _, rfl, h, hc.1, hc.2.1, hc.2.2.1, hc.2.2.2⟩
      · cases e
    · cases e
  · cases e
theorem jnQ_ok {o : Expr} {m : Str} {es : List Expr} {z : Str} {a : Expr} (e : jnQ o m es = some (z, a)) : ∃ j cp, o = .Constant (.str z) j cp ∧ m = "join" ∧ es = [a] := by
  unfold jnQ at e
  split at e
  · split at e
    · rename_i h
      cases e
      exact ⟨_, _, rfl, h, rfl⟩
    · cases e
  · cases e
theorem ixQ_ok {m : Str} {es : List Expr} {a : Expr} (e : ixQ m es = some a) : m = "index" ∧ es = [a] := by
  unfold ixQ at e
  split at e
  · split at e
    · rename_i h
      cases e
      exact ⟨h, rfl⟩
    · cases e
  · cases e
theorem clQ_ok {o : Expr} {m : Str} {es : List Expr} {x : Str} {ms : List Bool} (e : clQ G N sc o m es = some (x, ms)) : ∃ np, o = .Name x np ∧ gloQ sc x = true ∧ es ≠ [] ∧ G.clsm.lookup (x, m) = some ms := by
  unfold clQ at e
  split at e
  · split at e
    · cases e
    · rename_i hc
      obtain ⟨ms', e1, e2⟩ := map_inv e
      cases e2
      simp only [Bool.or_eq_true, not_or, Bool.not_eq_true', Bool.not_eq_true, Bool.not_eq_false', Bool.not_eq_false] at hc
      exact ⟨_, rfl, by simpa using hc.2.1, fun z => by rw [z] at hc; exact absurd hc.2.2 (by decide), e1⟩
  · cases e
theorem call_step (ih : TrOk C G N k n) (c : Cok X C G N k sc fn) (tk : Takes X W) (f : Expr) (es : List Expr) (kws : List Keyword) (pos : Pos) : SE X C W (.Call f es kws pos) (trE G N sc (n + 1) (.Call f es kws pos)) := by
  cases kws with
  | cons _ _ => exact se_never
  | nil =>
    show SE X C W _ (if es.all noStar = true then _ else Ex.never)
    by_cases hst : es.all noStar = true
    · rw [if_pos hst]
      cases f <;> first | exact se_never | skip
      · -- a method
        rename_i o m apos
        show SE X C W _ (match lmQ N sc o m es.length (apos.endLine == pos.line) with
          | some i => .lm i m (es.map (trE G N sc n))
          | none => if (decide (es.length < 30) && (apos.endLine == pos.line)) = true then (match jnQ o m es with
            | some (z, a) => .join z [trE G N sc n a]
            | none => match clQ G N sc o m es with
              | some (x, ms) => orN ((trArgs G N sc n ms es).map fun cs => .clsm x m cs)
              | none => if baseQ o = true then (match ixQ m es with
                | some a => .lix (trE G N sc n o) [trE G N sc n a]
                | none => match G.meths.lookup m with
                  | some ms => orN ((trArgs G N sc n ms es).map fun cs => .meth (trE G N sc n o) m cs)
                  | none => .never) else .never) else .never)
        split
        · rename_i i e1
          obtain ⟨x, np, rfl, e9, h1, h2, h3, h4⟩ := lmQ_ok e1
          cases es with
          | nil => exact (Nat.lt_irrefl _ h2).elim
          | cons a es => exact lm_ok c h1 e9 hst h3 h4 (szs_map _ (fun e => ih.e c tk e) hst)
        · split
          · rename_i hc
            simp only [Bool.and_eq_true, decide_eq_true_eq] at hc
            obtain ⟨h2, h3⟩ := hc
            split
            · rename_i z a e2
              obtain ⟨j, cp, rfl, rfl, rfl⟩ := jnQ_ok e2
              rw [List.all_cons, Bool.and_eq_true] at hst
              exact se_join hst.1 h3 (ih.e c tk a)
            · split
              · rename_i x ms e2
                obtain ⟨np, rfl, hg, hne, hms⟩ := clQ_ok e2
                cases e3 : trArgs G N sc n ms es with
                | none => exact se_never
                | some cs =>
                  obtain ⟨⟨f0, I0, q1, q2, q3⟩, q4⟩ := c.clsm x m ms hms
                  obtain ⟨a1, a2⟩ := ih.a c tk ms es cs hst e3
                  obtain ⟨g1, g2⟩ := gloQ_ok c hg
                  cases es with
                  | nil => exact (hne rfl).elim
                  | cons a es => exact se_clsm g1 g2 (q4 _) (c.room.mono (Nat.le_succ _)) tk hst a2 q1 q2 (by rw [q3]; exact a1) h2 h3
              · split
                · rename_i h1
                  split
                  · rename_i a e2
                    obtain ⟨rfl, rfl⟩ := ixQ_ok e2
                    rw [List.all_cons, Bool.and_eq_true] at hst
                    exact se_lix (by have := c.un; omega) h1 hst.1 h3 (ih.e c tk o) (ih.e c tk a)
                  · split
                    · rename_i ms e2
                      cases e3 : trArgs G N sc n ms es with
                      | none => exact se_never
                      | some cs =>
                        obtain ⟨m1, m2⟩ := c.meth m ms e2
                        obtain ⟨a1, a2⟩ := ih.a c tk ms es cs hst e3
                        refine se_meth (ih.e c tk o) (m1 _) (c.room.mono (Nat.le_succ _)) tk hst a2 (fun cc ff I ms' q1 q2 q3 => ?_) (meth_ht (base_ok h1 _ _) hst h2 h3)
                        rw [m2 cc ff I ms' q1 q2 q3]
                        exact a1
                    · exact se_never
                · exact se_never
          · exact se_never
      · -- a name
        rename_i x p
        show SE X C W _ (match slotQ N sc x with
          | some i => if es.isEmpty = true then .never else if x = "cls" then (match G.cls.lookup G.kls with
            | some ms => orN ((trArgs G N sc n ms es).map fun cs => .callK i G.kls cs)
            | none => .never) else orN ((trArgs G N sc n G.call es).map fun cs => .callO (.loc i) cs)
          | none => if gloQ sc x = true then
            (if (bNames.contains x && (G.free.contains x && !es.isEmpty)) = true then (match trR G N sc n x es with
              | some c => c
              | none => .callB x (es.map (trE G N sc n)))
            else if G.peek.lookup x = some es.length ∧ es.isEmpty = false ∧ (G.fns.lookup x).map List.length = some es.length then .callP x (es.map (trE G N sc n)) else match G.fns.lookup x with
              | some ms => orN ((trArgs G N sc n ms es).map fun cs => .callF x cs)
              | none => match G.cls.lookup x with
                | some ms => orN ((trArgs G N sc n ms es).map fun cs => .callC x cs)
                | none => .never)
            else .never)
        split
        · rename_i i e1
          obtain ⟨b1, b2, b3, b4⟩ := slotQ_ok c e1
          split
          · exact se_never
          · rename_i hne
            cases es with
            | nil => exact (hne rfl).elim
            | cons a es =>
              by_cases hx : x = "cls"
              · rw [if_pos hx]
                split
                · rename_i ms e1
                  cases e2 : trArgs G N sc n ms (a :: es) with
                  | none => exact se_never
                  | some cs =>
                    obtain ⟨ff, I, fa, D, q0, q1, q2, q3, q4, q5⟩ := c.cls G.kls ms e1
                    obtain ⟨a1, a2⟩ := ih.a c tk ms (a :: es) cs hst e2
                    exact se_callK b1 b2 b3 b4 q0 q1 (q5 _) q4 c.room q3 tk hst a2 (by rw [q2]; exact a1)
                · exact se_never
              rw [if_neg hx]
              cases e2 : trArgs G N sc n G.call (a :: es) with
              | none => exact se_never
              | some cs =>
                obtain ⟨a1, a2⟩ := ih.a c tk G.call (a :: es) cs hst e2
                refine se_callO (se_loc b1 b2 b3 b4) (c.call _) (c.room.mono (Nat.le_succ _)) tk hst a2 (fun cc ff I ms h1 h2 h3 => ?_) rfl
                rw [c.callm cc ff I ms h1 h2 h3]
                exact a1
        · split
          · rename_i hg
            obtain ⟨g1, g2⟩ := gloQ_ok c hg
            split
            · rename_i hb
              simp only [Bool.and_eq_true] at hb
              obtain ⟨h1, h2, h3⟩ := hb
              have hm := c.free x h2
              split
              · rename_i cc e2
                exact ih.r c tk x p pos es cc g1 hm e2
              · cases es with
                | nil => exact (Bool.false_ne_true h3).elim
                | cons a es => exact callB_ok c h1 g1 hm hst (sas_map _ (fun e => ih.e c tk e) hst)
            · split
              · rename_i hp
                obtain ⟨_, hne, hl⟩ := hp
                cases e1 : G.fns.lookup x with
                | none => rw [e1] at hl; cases hl
                | some ms =>
                  rw [e1] at hl
                  have hl : ms.length = es.length := Option.some.inj hl
                  obtain ⟨I, fa, q1, q2, q3, q4, q5⟩ := c.fns x ms e1
                  cases es with
                  | nil => cases hne
                  | cons a es => exact se_callP q1 (q5 _) (c.room.mono (Nat.le_succ _)) g1 q3 q4 tk g2 hst (sas_map _ (fun e => ih.e c tk e) hst) (by rw [q2]; exact hl.symm)
              split
              · rename_i ms e1
                cases e2 : trArgs G N sc n ms es with
                | none => exact se_never
                | some cs =>
                  obtain ⟨I, fa, q1, q2, q3, q4, q5⟩ := c.fns x ms e1
                  obtain ⟨a1, a2⟩ := ih.a c tk ms es cs hst e2
                  exact se_callF q1 (q5 _) (c.room.mono (Nat.le_succ _)) g1 q3 q4 tk g2 hst a2 (by rw [q2]; exact a1)
              · split
                · rename_i ms e1
                  cases e2 : trArgs G N sc n ms es with
                  | none => exact se_never
                  | some cs =>
                    obtain ⟨ff, I, fa, D, q0, q1, q2, q3, q4, q5⟩ := c.cls x ms e1
                    obtain ⟨a1, a2⟩ := ih.a c tk ms es cs hst e2
                    exact se_callC q0 q1 (q5 _) q4 c.room g1 q3 tk g2 hst a2 (by rw [q2]; exact a1)
                · exact se_never
          · exact se_never
    · rw [if_neg hst]
      exact se_never
end
end Rv

/-! Rv, part 23: the code speaks for the text: comprehensions, all together. -/
namespace Rv
open PySem PySem.Spec PyProof.Rows L2
section
variable {C : Ctx} {G : Gx} {N : List Str} {k n : Nat} {X : Cx} {sc : Scope} {fn : Str → Bool} {W : WX}
theorem blk_kind {N : List Str} {sc scope : Scope} {own : List (Str × Nat)} (h : blkC N sc scope own = true) : scope.kind = .function := (blkOk_by h).kind
/-- a list comprehension, as a value and as what a name takes -/
theorem comp_step (ih : TrOk C G N k n) (c : Cok X C G N k sc fn) (tk : Takes X W) (elt : Expr) (gs : List Comprehension) (scope : Scope) (pos : Pos) :
    SE X C W (.ListComp elt gs scope pos) (trE G N sc (n + 1) (.ListComp elt gs scope pos)) ∧
    ∀ (m i : Nat) (U : Nat → Prop) (y : Str) (py spos : Pos), ¬ U i → X.N[i]? = some y → X.env.scope.names.lookup y = some .local → swapsWith (.ListComp elt gs scope pos) (some (.Name y py)) spos.line X.env = pure true →
      SS X C m U W (.Assign [.Name y py] (.ListComp elt gs scope pos) spos) (.asg (.nm i) (trE G N sc (n + 1) (.ListComp elt gs scope pos))) := by
  have nv : ∀ (m i : Nat) (U : Nat → Prop) (s : Stmt), SS X C m U W s (.asg (.nm i) .never) := fun m i U s => ⟨fun pins s σ H D I ⟨B, F, ρ, rp, al, h⟩ => h.elim⟩
  have nd : X.N.Nodup := by rw [c.hN]; exact c.nd
  match gs with
  | [] => exact ⟨se_never, fun m i U y py spos _ _ _ _ => nv m i U _⟩
  | [⟨tg, it, ifs, a⟩] =>
    show SE X C W _ (if a = 0 then (match trTg (fnC scope) N (relS scope sc) n tg with
        | some t => if (notSet it && (blkC N sc scope (ownOfS N scope) && (decide (ifs.length ≤ 1) && tgAll (fun i => ((ownOfS N scope).map (·.2)).contains i) t))) = true then
            .comp (trE G N (relS scope sc) n elt) t (trI G N sc n tg it) (ifs.map (trT G N (relS scope sc) n)) ((ownOfS N scope).map (·.2)) else .never
        | none => .never) else .never) ∧ ∀ (m i : Nat) (U : Nat → Prop) (y : Str) (py spos : Pos), ¬ U i → X.N[i]? = some y → X.env.scope.names.lookup y = some .local → swapsWith (.ListComp elt [⟨tg, it, ifs, a⟩] scope pos) (some (.Name y py)) spos.line X.env = pure true →
      SS X C m U W (.Assign [.Name y py] (.ListComp elt [⟨tg, it, ifs, a⟩] scope pos) spos) (.asg (.nm i) (if a = 0 then (match trTg (fnC scope) N (relS scope sc) n tg with
        | some t => if (notSet it && (blkC N sc scope (ownOfS N scope) && (decide (ifs.length ≤ 1) && tgAll (fun i => ((ownOfS N scope).map (·.2)).contains i) t))) = true then
            .comp (trE G N (relS scope sc) n elt) t (trI G N sc n tg it) (ifs.map (trT G N (relS scope sc) n)) ((ownOfS N scope).map (·.2)) else .never
        | none => .never) else .never))
    by_cases ha : a = 0
    · subst ha
      rw [if_pos rfl]
      cases e1 : trTg (fnC scope) N (relS scope sc) n tg with
      | none => exact ⟨se_never, fun m i U y py spos _ _ _ _ => nv m i U _⟩
      | some t =>
        dsimp only
        split
        · rename_i hc
          simp only [Bool.and_eq_true, decide_eq_true_eq] at hc
          obtain ⟨h1, h2, h3, h4⟩ := hc
          have hk := blk_kind h2
          have ok : BlkOk X.N X.env.scope scope (ownOfS N scope) := by rw [c.hN, c.hsc]; exact blkOk_by h2
          have hown : ∀ i, t.has i → i ∈ (ownOfS N scope).map (·.2) := fun i hi => List.contains_iff_mem.mp (tgAll_ok h4 i hi)
          have hg : Bl X scope fun Y => SG Y tg t := fun s H b cl fp => trTg_ok n (c.blk hk s H b cl fp) e1
          have ht : Bl X scope fun Y => STs Y C ifs (ifs.map (trT G N (relS scope sc) n)) := fun s H b cl fp => sts_map _ (fun e => ih.t (c.blk hk s H b cl fp) takes_blk e) h3
          have he : Bl X scope fun Y => SE Y C Wn elt (trE G N (relS scope sc) n elt) := fun s H b cl fp => ih.e (c.blk hk s H b cl fp) takes_blk elt
          exact ⟨se_comp c.calm nd h1 ok hown (ih.i c tk tg it) hg ht he, fun m i U y py spos hU hy hyl hsw => ss_setComp hU hy hyl hsw c.calm nd h1 ok hown (ih.i c tk tg it) hg ht he⟩
        · exact ⟨se_never, fun m i U y py spos _ _ _ _ => nv m i U _⟩
    · rw [if_neg ha]
      exact ⟨se_never, fun m i U y py spos _ _ _ _ => nv m i U _⟩
  | [⟨tg, it, ifs, a⟩, ⟨tg1, it1, ifs1, a1⟩] =>
    show SE X C W _ (if a = 0 ∧ a1 = 0 then (match trTg (fnC scope) N (relS scope sc) n tg, trTg (fnC scope) N (relS scope sc) n tg1 with
        | some t, some t1 => if (notSet it && (notSet it1 && (blkC N sc scope (ownOfS N scope) && (decide (ifs.length ≤ 1 ∧ ifs1.length ≤ 1) && (tgAll (fun i => ((ownOfS N scope).map (·.2)).contains i) t && tgAll (fun i => ((ownOfS N scope).map (·.2)).contains i) t1))))) = true then
            .comp2 (trE G N (relS scope sc) n elt) t (trI G N sc n tg it) (ifs.map (trT G N (relS scope sc) n)) t1 (trI G N (relS scope sc) n tg1 it1) (ifs1.map (trT G N (relS scope sc) n)) ((ownOfS N scope).map (·.2)) ((ownOfS N scope).map (·.2)) else .never
        | _, _ => .never) else .never) ∧ ∀ (m i : Nat) (U : Nat → Prop) (y : Str) (py spos : Pos), ¬ U i → X.N[i]? = some y → X.env.scope.names.lookup y = some .local → swapsWith (.ListComp elt [⟨tg, it, ifs, a⟩, ⟨tg1, it1, ifs1, a1⟩] scope pos) (some (.Name y py)) spos.line X.env = pure true →
      SS X C m U W (.Assign [.Name y py] (.ListComp elt [⟨tg, it, ifs, a⟩, ⟨tg1, it1, ifs1, a1⟩] scope pos) spos) (.asg (.nm i) (if a = 0 ∧ a1 = 0 then (match trTg (fnC scope) N (relS scope sc) n tg, trTg (fnC scope) N (relS scope sc) n tg1 with
        | some t, some t1 => if (notSet it && (notSet it1 && (blkC N sc scope (ownOfS N scope) && (decide (ifs.length ≤ 1 ∧ ifs1.length ≤ 1) && (tgAll (fun i => ((ownOfS N scope).map (·.2)).contains i) t && tgAll (fun i => ((ownOfS N scope).map (·.2)).contains i) t1))))) = true then
            .comp2 (trE G N (relS scope sc) n elt) t (trI G N sc n tg it) (ifs.map (trT G N (relS scope sc) n)) t1 (trI G N (relS scope sc) n tg1 it1) (ifs1.map (trT G N (relS scope sc) n)) ((ownOfS N scope).map (·.2)) ((ownOfS N scope).map (·.2)) else .never
        | _, _ => .never) else .never))
    by_cases ha : a = 0 ∧ a1 = 0
    · obtain ⟨ha0, ha1⟩ := ha
      subst ha0 ha1
      rw [if_pos ⟨rfl, rfl⟩]
      cases e1 : trTg (fnC scope) N (relS scope sc) n tg with
      | none => exact ⟨se_never, fun m i U y py spos _ _ _ _ => nv m i U _⟩
      | some t =>
        cases e2 : trTg (fnC scope) N (relS scope sc) n tg1 with
        | none => exact ⟨se_never, fun m i U y py spos _ _ _ _ => nv m i U _⟩
        | some t1 =>
          dsimp only
          split
          · rename_i hc
            simp only [Bool.and_eq_true, decide_eq_true_eq] at hc
            obtain ⟨h1, h1', h2, ⟨h3, h3'⟩, h4, h4'⟩ := hc
            have hk := blk_kind h2
            have ok : BlkOk X.N X.env.scope scope (ownOfS N scope) := by rw [c.hN, c.hsc]; exact blkOk_by h2
            have hown : ∀ i, t.has i → i ∈ (ownOfS N scope).map (·.2) := fun i hi => List.contains_iff_mem.mp (tgAll_ok h4 i hi)
            have hown1 : ∀ i, t1.has i → i ∈ (ownOfS N scope).map (·.2) := fun i hi => List.contains_iff_mem.mp (tgAll_ok h4' i hi)
            have hg : Bl X scope fun Y => SG Y tg t := fun s H b cl fp => trTg_ok n (c.blk hk s H b cl fp) e1
            have hg1 : Bl X scope fun Y => SG Y tg1 t1 := fun s H b cl fp => trTg_ok n (c.blk hk s H b cl fp) e2
            have ht : Bl X scope fun Y => STs Y C ifs (ifs.map (trT G N (relS scope sc) n)) := fun s H b cl fp => sts_map _ (fun e => ih.t (c.blk hk s H b cl fp) takes_blk e) h3
            have ht1 : Bl X scope fun Y => STs Y C ifs1 (ifs1.map (trT G N (relS scope sc) n)) := fun s H b cl fp => sts_map _ (fun e => ih.t (c.blk hk s H b cl fp) takes_blk e) h3'
            have hi1 : Bl X scope fun Y => SI Y C Wn tg1 it1 (trI G N (relS scope sc) n tg1 it1) := fun s H b cl fp => ih.i (c.blk hk s H b cl fp) takes_blk tg1 it1
            have he : Bl X scope fun Y => SE Y C Wn elt (trE G N (relS scope sc) n elt) := fun s H b cl fp => ih.e (c.blk hk s H b cl fp) takes_blk elt
            exact ⟨se_comp2 c.calm nd h1 h1' ok (fun _ h => h) hown hown1 (ih.i c tk tg it) hg ht hi1 hg1 ht1 he, fun m i U y py spos hU hy hyl hsw => ss_setComp2 hU hy hyl hsw c.calm nd h1 h1' ok (fun _ h => h) hown hown1 (ih.i c tk tg it) hg ht hi1 hg1 ht1 he⟩
          · exact ⟨se_never, fun m i U y py spos _ _ _ _ => nv m i U _⟩
    · rw [if_neg ha]
      exact ⟨se_never, fun m i U y py spos _ _ _ _ => nv m i U _⟩
  | ⟨_, _, _, _⟩ :: ⟨_, _, _, _⟩ :: _ :: _ => exact ⟨se_never, fun m i U y py spos _ _ _ _ => nv m i U _⟩
theorem so_ok (ih : TrOk C G N k n) (c : Cok X C G N k sc fn) (tk : Takes X W) (o : Option Expr) : SO X C W o o.isSome (match o with
    | some e => trE G N sc n e
    | none => .con .non) := by
  cases o with
  | none => exact ⟨rfl, rfl⟩
  | some e => exact ⟨ih.e c tk e, rfl⟩
theorem expr_step (ih : TrOk C G N k n) (c : Cok X C G N k sc fn) (tk : Takes X W) (e : Expr) : SE X C W e (trE G N sc (n + 1) e) := by
  cases e with
  | Constant cc j pos =>
    cases cc with
    | none => exact se_none
    | bool b => exact se_bool
    | int i => exact se_int
    | str x => exact se_str
    | _ => exact se_never
  | Name x pos => exact trName_ok c
  | BinOp a o b pos =>
    show SE X C W _ (if okOp o = true then .bop o (trE G N sc n a) (trE G N sc n b) else .never)
    split
    · rename_i h; exact bop_ok h (ih.e c tk a) (ih.e c tk b)
    · exact se_never
  | UnaryOp op a pos =>
    cases op with
    | Not => exact se_not2 (ih.e c tk a)
    | USub => exact se_neg (ih.e c tk a)
    | Invert => exact se_never
    | UAdd => exact se_never
  | BoolOp o es pos =>
    show SE X C W _ (match es with
      | [] => .never
      | [a] => trE G N sc n a
      | a :: b :: r => match o with
        | .And => .and (trE G N sc n a) (trE G N sc n (.BoolOp .And (b :: r) pos))
        | .Or => .or (trE G N sc n a) (trE G N sc n (.BoolOp .Or (b :: r) pos)))
    split
    · exact se_never
    · rename_i a; exact se_one (ih.e c tk a)
    · rename_i a b r
      cases o
      · exact se_and (ih.e c tk a) (ih.e c tk _)
      · exact se_or (ih.e c tk a) (ih.e c tk _)
  | Compare a os bs pos => exact (cmp_step ih c tk a os bs pos).1
  | IfExp d a b pos => exact se_ite (ih.t c tk d) (ih.e c tk a) (ih.e c tk b)
  | Subscript a s pos =>
    cases s with
    | Slice lo hi st p2 =>
      cases st with
      | none => exact se_slc (ih.e c tk a) (so_ok ih c tk lo) (so_ok ih c tk hi)
      | some st =>
        show SE X C W _ (match (Expr.Slice lo hi (some st) p2) with
          | .Slice lo hi none _ => .slc (trE G N sc n a) lo.isSome (match lo with
            | some e => trE G N sc n e
            | none => .con .non) hi.isSome (match hi with
            | some e => trE G N sc n e
            | none => .con .non)
          | .Slice none none (some (.UnaryOp .USub (.Constant (.int 1) _ _) _)) _ => .rev (trE G N sc n a)
          | s => if plainIxQ s = true then .sub (trE G N sc n a) (trE G N sc n s) else .never)
        split
        · rename_i e
          cases e
        · rename_i e
          cases e
          exact se_back (ih.e c tk a)
        · exact se_never
    | _ => exact se_sub_ix (ih.e c tk a) (ih.e c tk _) (plainIx_ok rfl)
  | Tuple es kk pos =>
    show SE X C W _ (if es.all noStar = true then .tup (es.map (trE G N sc n)) else .never)
    split
    · rename_i h; exact se_tup (szs_map _ (fun e => ih.e c tk e) h)
    · exact se_never
  | List es pos =>
    show SE X C W _ (if es.all noStar = true then .lst (es.map (trE G N sc n)) else .never)
    split
    · rename_i h; exact se_lst (szs_map _ (fun e => ih.e c tk e) h)
    · exact se_never
  | Call f es kws pos => exact call_step ih c tk f es kws pos
  | Attribute o f pos =>
    show SE X C W _ (if baseQ o = true then (if G.props.contains f = true then .prp (trE G N sc n o) f else .attr (trE G N sc n o) f) else .never)
    split
    · rename_i h
      split
      · rename_i h2
        exact se_prp (ih.e c tk o) (c.prop f h2) c.room (base_ok h _ _)
      · exact se_attr (fun cc D => c.fld f cc D) (base_ok h _ _) (ih.e c tk o)
    · exact se_never
  | ListComp elt gs scope pos => exact (comp_step ih c tk elt gs scope pos).1
  | _ => exact se_never
theorem tr_ok : ∀ n, TrOk C G N k n
  | 0 => ⟨fun _ _ _ => se_never, fun _ _ _ => st_never, fun _ _ _ _ => si_never, (fun _ _ _ _ _ _ h => nomatch h), (fun _ _ _ _ _ _ _ _ _ h => nomatch h), fun _ _ _ _ _ => sw_never, fun _ _ _ _ _ _ => st_never⟩
  | n + 1 => ⟨expr_step (tr_ok n), test_step (tr_ok n), iter_step (tr_ok n), args_step (tr_ok n), range_step (tr_ok n), bool_step (tr_ok n), fun c tk a os bs pos => (cmp_step (tr_ok n) c tk a os bs pos).2⟩
end
end Rv

/-! Rv, part 24: the code speaks for the text: statements. -/
namespace Rv
open PySem PySem.Spec PyProof.Rows L2
theorem blockKind_fn {env : PySem.Env} (h : env.scope.kind = .function) : env.blockKind = .function := by
  unfold Env.blockKind
  rw [h]
  rfl
theorem swapQ_ok {sc : Scope} {t v : Expr} {r : Option (List Str)} {env : PySem.Env} (hsc : env.scope = sc) (hk : sc.kind = .function) (h : swapQ sc [t] v = some r) : swappedStores [t] v env = pure r := by
  have hb := blockKind_fn (env := env) (by rw [hsc]; exact hk)
  subst hsc
  unfold swapQ at h
  unfold swappedStores
  cases t <;> cases v <;> first
    | (cases h; rfl)
    | (dsimp only at h ⊢
       simp only [hb, bne_self_eq_false, Bool.or_false]
       split at h
       · rename_i h1
         cases h
         exact if_pos h1
       · rename_i h1
         refine (if_neg h1).trans ?_
         split at h
         · rename_i h2
           cases h
           exact if_pos h2
         · rename_i h2
           refine (if_neg h2).trans ?_
           split at h
           · rename_i h3
             cases h
             exact if_pos h3
           · rename_i h3
             refine (if_neg h3).trans ?_
             split at h
             · rename_i h4
               cases h
               exact if_pos h4
             · rename_i h4
               refine (if_neg h4).trans ?_
               split at h
               · cases h
               · rename_i h5
                 cases h
                 exact if_neg h5)
section
variable {C : Ctx} {G : Gx} {N : List Str} {k n fuel : Nat} {X : Cx} {sc : Scope} {W : WX} {ms : List Bool}
abbrev allT : Str → Bool := fun _ => true
theorem stQ_ok {x : Str} {i : Nat} (c : Cok X C G N k sc allT) (e : stQ N sc ms x = some i) : ¬ Um ms i ∧ X.N[i]? = some x ∧ Loc X.env.scope x ∧ (X.fn x = true ∨ X.env.scope.names.lookup x = some .local) := by
  unfold stQ at e
  split at e
  · rename_i j h1
    split at e
    · cases e
    · rename_i hm
      cases e
      obtain ⟨a, b, d⟩ := storeQ_ok c h1
      refine ⟨fun z => hm ?_, a, b, d⟩
      rw [List.getD_eq_getElem?_getD, z]
      rfl
  · cases e
theorem ss_asgS {e : Expr} {ce : Ex} {pos : Pos} {i : Nat} {x : Str} {p' : Pos} {U : Nat → Prop} (hU : ¬ U i) (hN : X.N.Nodup) (hi : X.N[i]? = some x) (hx : Loc X.env.scope x) (hf : X.fn x = true ∨ X.env.scope.names.lookup x = some .local) (hs : swapsWith e (some (.Name x p')) pos.line X.env = pure false) (he : SE X C W e ce) : SS X C fuel U W (.Assign [.Name x p'] e pos) (.asg (.nm i) ce) :=
  ps_imp (ps_set hN hi hx he hs hf) fun D σ H ⟨B, F, ρ, rp, al, h⟩ => bindS rp h fun r ρ1 V F1 H1 rp1 st rr fr h1 => set_ok hU rp1 st rr fr h1
theorem asg_never {i : Nat} {U : Nat → Prop} {s : Stmt} : SS X C fuel U W s (.asg (.nm i) .never) := ⟨fun pins s σ H D I ⟨B, F, ρ, rp, al, h⟩ => h.elim⟩
/-- name = e -/
theorem asg_step (c : Cok X C G N k sc allT) (tk : Takes X W) {x : Str} {p' pos : Pos} {v : Expr} {i : Nat} (e : stQ N sc ms x = some i) : SS X C fuel (Um ms) W (.Assign [.Name x p'] v pos) (.asg (.nm i) (trE G N sc n v)) := by
  obtain ⟨a, b, d, f⟩ := stQ_ok c e
  have nd : X.N.Nodup := by rw [c.hN]; exact c.nd
  by_cases hn : notComp v = true
  · exact ss_asg a nd b d f hn ((tr_ok n).e c tk v)
  · cases v <;> first | exact (hn rfl).elim | skip
    · rename_i elt gs scope p2
      have hb := blockKind_fn (env := X.env) (by rw [c.hsc]; exact c.kd)
      have sw : swapsWith (.ListComp elt gs scope p2) (some (.Name x p')) pos.line X.env = pure (X.env.blockKind == .function && X.env.kindOf x == some .local && p'.line == p2.line
          && !(scope.names.any fun (n, k) => n == x && (k == .local || k == .cell))) := rfl
      cases hq : (X.env.blockKind == .function && X.env.kindOf x == some .local && p'.line == p2.line && !(scope.names.any fun (n, k) => n == x && (k == .local || k == .cell))) with
      | false =>
        rw [hq] at sw
        exact ss_asgS a nd b d f sw ((tr_ok n).e c tk _)
      | true =>
        rw [hq] at sw
        cases n with
        | zero => exact asg_never
        | succ n =>
          simp only [Bool.and_eq_true, beq_iff_eq] at hq
          exact (comp_step (tr_ok n) c tk elt gs scope p2).2 fuel i (Um ms) x p' pos a b hq.1.1.2 sw
    · cases n <;> exact asg_never
    · cases n <;> exact asg_never
theorem pair_step (c : Cok X C G N k sc allT) (tk : Takes X W) {x y : Str} {px py pt pt2 pos : Pos} {kt k2 : Nat} {a b : Expr} (hw : swapQ sc [.Tuple [.Name x px, .Name y py] kt pt] (.Tuple [a, b] k2 pt2) = some (some [x, y])) :
    SS X C fuel (Um ms) W (.Assign [.Tuple [.Name x px, .Name y py] kt pt] (.Tuple [a, b] k2 pt2) pos) (trPair G N sc ms n x y a b) := by
  unfold trPair
  split
  · rename_i i j e1 e2
    split
    · rename_i hc
      obtain ⟨h1, h2, h3, h4, h5⟩ := hc
      obtain ⟨a1, b1, d1, f1⟩ := stQ_ok c e1
      obtain ⟨a2, b2, d2, f2⟩ := stQ_ok c e2
      exact ss_par a1 a2 c.calm (by rw [c.hN]; exact c.nd) b1 b2 h1 (by rw [c.hsc]; exact h2) (by rw [c.hsc]; exact h3) ((tr_ok n).e c tk a) ((tr_ok n).e c tk b) h4 h5 (swapQ_ok c.hsc c.kd hw)
    · exact ss_never
  · exact ss_never
theorem parT_step (c : Cok X C G N k sc allT) (tk : Takes X W) {es : List Expr} {v a b : Expr} {kk i j : Nat} {p' pos : Pos} (hw : swapQ sc [.Tuple es kk p'] v = some none) (h : parTQ N sc ms es v = some (i, j, a, b)) :
    SS X C fuel (Um ms) W (.Assign [.Tuple es kk p'] v pos) (.par i j (trE G N sc n a) (trE G N sc n b)) := by
  unfold parTQ at h
  split at h
  · split at h
    · rename_i i' j' e1 e2
      split at h
      · rename_i hc
        cases h
        simp only [Bool.and_eq_true] at hc
        obtain ⟨a1, b1, d1, f1⟩ := stQ_ok c e1
        obtain ⟨a2, b2, d2, f2⟩ := stQ_ok c e2
        exact ss_parT a1 a2 c.calm (by rw [c.hN]; exact c.nd) b1 b2 d1 d2 f1 f2 ((tr_ok n).e c tk a) ((tr_ok n).e c tk b) hc.2.1 hc.2.2 (swapQ_ok c.hsc c.kd hw)
      · cases h
    · cases h
  · cases h
theorem tgU_ok {t : Tg} (h : tgU ms t = true) : ∀ i, Um ms i → ¬ t.has i := fun i hu ht => by
  have z := tgAll_ok h i ht
  have z2 : (!ms.getD i false) = true := z
  rw [List.getD_eq_getElem?_getD, hu] at z2
  cases z2
mutual
theorem trS_ok (hp : PassesOwn (model X.prog X.w) X.A X.env X.xe) (c : Cok X C G N k sc allT) (tk : Takes X W) : ∀ (n : Nat) (s : Stmt), SS X C fuel (Um ms) W s (trS G N sc ms n s)
  | 0, _ => ss_never
  | n + 1, s => by
    cases s with
    | Pass pos => exact ss_pass
    | Break pos => exact ss_brk
    | Continue pos => exact ss_cont
    | Return e pos =>
      cases e with
      | none => exact ss_retN
      | some e => exact ss_ret ((tr_ok n).e c tk e)
    | Expr e pos =>
      have gen : SS X C fuel (Um ms) W (.Expr e pos) (if notComp e = true then .expr (trE G N sc n e) else .never) := by
        split
        · rename_i h; exact ss_expr h ((tr_ok n).e c tk e)
        · exact ss_never
      cases e with
      | Constant cc j p' =>
        cases cc with
        | str x => exact ss_doc
        | _ => exact gen
      | _ => exact gen
    | Assign ts v pos =>
      match ts with
      | [] => exact ss_never
      | [t] =>
        cases t with
        | Name x p' =>
          show SS X C fuel (Um ms) W _ (match stQ N sc ms x with
            | some i => .asg (.nm i) (trE G N sc n v)
            | none => .never)
          split
          · rename_i i e; exact asg_step c tk e
          · exact ss_never
        | Tuple es kk p' =>
          show SS X C fuel (Um ms) W _ (match swapQ sc [.Tuple es kk p'] v with
            | some none => (match parTQ N sc ms es v with
              | some (i, j, a, b) => .par i j (trE G N sc n a) (trE G N sc n b)
              | none => if (notComp v && es.all noStar) = true then (match trTg allT N sc n (.Tuple es kk p') with
              | some t => if tgU ms t = true then (match t with
                | .tp ts => .asg (.tp ts) (trE G N sc n v)
                | _ => .never) else .never
              | none => .never) else .never)
            | some (some [u, w]) => (match es, v with
              | [.Name x _, .Name y _], .Tuple [a, b] _ _ => if u = x ∧ w = y then trPair G N sc ms n x y a b else .never
              | _, _ => .never)
            | _ => .never)
          split
          · rename_i e1
            split
            · rename_i i j a b e2
              exact parT_step c tk e1 e2
            split
            · rename_i hc
              rw [Bool.and_eq_true] at hc
              split
              · rename_i t e2
                split
                · rename_i hu
                  split
                  · rename_i tts
                    exact ss_asgT (fun i hi => tgU_ok hu i hi) (trTg_ok n c e2) hc.1 (swapQ_ok c.hsc c.kd e1) rfl ((tr_ok n).e c tk v)
                  · exact ss_never
                · exact ss_never
              · exact ss_never
            · exact ss_never
          · rename_i u w e1
            split
            · rename_i x px y py a b k2 pt2
              split
              · rename_i hc
                obtain ⟨rfl, rfl⟩ := hc
                exact pair_step c tk e1
              · exact ss_never
            · exact ss_never
          · exact ss_never
        | Subscript o s p' =>
          cases o with
          | Name x p2 =>
            show SS X C fuel (Um ms) W _ (match slotQ N sc x with
              | some i => if (notSlice s && notComp v) = true then .setSub i (trE G N sc n s) (trE G N sc n v) else .never
              | none => .never)
            split
            · rename_i i e
              obtain ⟨b1, b2, b3, b4⟩ := slotQ_ok c e
              split
              · rename_i hc
                rw [Bool.and_eq_true] at hc
                exact ss_setSub hc.1 b1 b2 b3 b4 hc.2 ((tr_ok n).e c tk s) ((tr_ok n).e c tk v)
              · exact ss_never
            · exact ss_never
          | _ => exact ss_never
        | Attribute o f p' =>
          cases o with
          | Name x p2 =>
            show SS X C fuel (Um ms) W _ (match slotQ N sc x with
              | some i => if notComp v = true then .setAttr i f (trE G N sc n v) else .never
              | none => .never)
            split
            · rename_i i e
              obtain ⟨b1, b2, b3, b4⟩ := slotQ_ok c e
              split
              · rename_i hc
                exact ss_setAttr (fun cc D => c.fld f cc D) b1 b2 b3 b4 hc ((tr_ok n).e c tk v)
              · exact ss_never
            · exact ss_never
          | _ => exact ss_never
        | _ => exact ss_never
      | t1 :: t2 :: r =>
        cases t1 with
        | Subscript o _ _ => cases o <;> exact ss_never
        | Attribute o _ _ => cases o <;> exact ss_never
        | _ => exact ss_never
    | AugAssign t o e pos =>
      cases t with
      | Name x p' =>
        show SS X C fuel (Um ms) W _ (match stQ N sc ms x with
          | some i => .aug i o (trE G N sc n e)
          | none => .never)
        split
        · rename_i i h
          obtain ⟨a, b, d, f⟩ := stQ_ok c h
          exact ss_aug a (by rw [c.hN]; exact c.nd) b d f ((tr_ok n).e c tk e)
        · exact ss_never
      | _ => exact ss_never
    | If t a b pos => exact ss_ite ((tr_ok n).t c tk t) (trSs_ok hp c tk n a) (trSs_ok hp c tk n b)
    | While t body orelse pos =>
      cases orelse with
      | nil => exact ss_while hp ((tr_ok n).t c tk t) (trSs_ok hp c tk n body)
      | cons _ _ => exact ss_never
    | For tg it body orelse pos =>
      cases orelse with
      | cons _ _ => exact ss_never
      | nil =>
        show SS X C fuel (Um ms) W _ (if (true && notSet it) = true then (match trTg allT N sc n tg with
          | some t => if tgU ms t = true then .for t (trI G N sc n tg it) (trSs G N sc ms n body) else .never
          | none => .never) else .never)
        split
        · rename_i hs
          rw [Bool.true_and] at hs
          split
          · rename_i t e
            split
            · rename_i hu
              exact ss_for hp c.calm (tgU_ok hu) ((tr_ok n).i c tk tg it) (trTg_ok n c e) (trSs_ok hp c tk n body) hs
            · exact ss_never
          · exact ss_never
        · exact ss_never
    | _ => exact ss_never
theorem trSs_ok (hp : PassesOwn (model X.prog X.w) X.A X.env X.xe) (c : Cok X C G N k sc allT) (tk : Takes X W) : ∀ (n : Nat) (ss : List Stmt), SSs X C fuel (Um ms) W ss (trSs G N sc ms n ss)
  | 0, _ => sss_never
  | n + 1, ss => by
    cases ss with
    | nil => exact sss_nil
    | cons s ss => exact sss_cons (trS_ok hp c tk n s) (trSs_ok hp c tk n ss)
end
end
end Rv

/-! Rv, part 25: every def keeps its promise; the facts of the head. -/
namespace Rv
open PySem PySem.Spec PyProof.Rows L2

/-- a def of the text: its key, where and what it is, its names (parameters first), its form -/
structure Df where
  key : Str
  d : He.DefD
  N : List Str
  ps : List Str
  info : FnI
  /-- 0: a def or a method; 1: a property's def; 2: a classmethod's -/
  kd : Nat := 0
def Df.ad (K : PySem.W.Frag) (df : Df) : Addr := if df.kd = 0 then He.fAd K df.d.at_ else He5.wf K (He.ga K df.d.at_.1) (if df.kd = 1 then "property" else "classmethod") (df.d.at_.2.getD "")
def Df.code (G : Gx) (n : Nat) (df : Df) : FnCode := ⟨df.info, df.N.length, trSs G df.N df.d.scope df.info.modes n df.d.body⟩
def mkTab (codes : List (Str × FnCode)) (L : List Df) (cons : List (Str × Val)) (flds : List (Str × Str)) (fuel : Nat) : Tab where
  code := fun f => codes.lookup f
  con := fun x => cons.lookup x
  meth := fun c m => (L.find? fun df => decide (df.d.at_ = (c, some m) ∧ df.kd = 0)).map (·.key)
  prop := fun c m => (L.find? fun df => decide (df.d.at_ = (c, some m) ∧ df.kd = 1)).map (·.key)
  clsm := fun c m => (L.find? fun df => decide (df.d.at_ = (c, some m) ∧ df.kd = 2)).map (·.key)
  errs := fun _ => none
  fld := fun c f => flds.contains (c, f)
  fuel := fuel

/-- how a def's parameters are bound, for every number of defaults that fill up -/
def BindsAll (K : PySem.W.Frag) (fd : FuncData) (ps : List Str) (dvs : List V) : Prop := ∀ j, j ≤ dvs.length → ∃ ds, Vals (dvs.drop j) ds ∧ Binds K fd ps ds
/-- what is known of a def -/
structure DfOk (K : PySem.W.Frag) (mg : Str → Option Value) (df : Df) : Prop where
  fn : ∃ fd dvs kws, FunD K df.d.name df.d.qual df.d.params df.d.body df.d.scope dvs kws (df.ad K) fd ∧ (∀ F, RVs K mg F df.info.dflt dvs) ∧ BindsAll K fd df.ps dvs
  sc : FnScope df.N df.ps df.d.scope
  len : df.ps.length = df.info.modes.length
  kd : df.d.scope.kind = .function
  dm : (df.info.modes.drop (df.info.modes.length - df.info.dflt.length)).all (!·) = true
/-- what is known of the module -/
structure NOk (K : PySem.W.Frag) (mg : Str → Option Value) (T : Tab) (G : Gx) (n : Nat) (L : List Df) : Prop where
  code : ∀ df ∈ L, T.code df.key = some (df.code G n)
  dfs : ∀ df ∈ L, DfOk K mg df
  free : ∀ x, G.free.contains x = true → mg x = none
  fns : ∀ x ms, G.fns.lookup x = some ms → ∃ df ∈ L, df.key = x ∧ df.info.modes = ms ∧ mg x = some (.ref (df.ad K))
  cls : ∀ x ms, G.cls.lookup x = some ms → ∃ df ∈ L, T.meth x "__init__" = some df.key ∧ df.info.modes.drop 1 = ms ∧ ∃ D, mg x = some (.ref D) ∧ Mk K D (df.ad K)
  call : ∀ c f, T.meth c "__call__" = some f → ∃ df ∈ L, df.key = f ∧ df.info.modes = false :: G.call ∧ ∀ D, mg c = some (.ref D) → StX.CallO K D (df.ad K)
  con : ∀ x, G.cons.contains x = true → ∃ v V u, T.con x = some v ∧ mg x = some u ∧ RelV V u ∧ ∀ F, RV K mg F v V
  fld : ∀ f c D, T.fld c f = true → mg c = some (.ref D) → Cls K D ∧ NoAttr K D f
  meth : ∀ m ms, G.meths.lookup m = some ms → ∀ c f, T.meth c m = some f → ∃ df ∈ L, df.key = f ∧ df.info.modes.drop 1 = ms ∧ ∀ D, mg c = some (.ref D) → Cls K D ∧ Meth K D m (df.ad K)
  prop : ∀ f c g, T.prop c f = some g → ∃ df ∈ L, df.key = g ∧ ∀ D, mg c = some (.ref D) → Cls K D ∧ ∃ p, PropOf K D f p (df.ad K)
  clsm : ∀ x m ms, G.clsm.lookup (x, m) = some ms → ∃ df ∈ L, T.clsm x m = some df.key ∧ df.info.modes.drop 1 = ms ∧ ∃ D q, mg x = some (.ref D) ∧ ClX.CRead K D (.type "type") ∧ ClX.CMet K D (.type "type") m q (df.ad K)

section
variable {P : Program} {w : World} {K : PySem.W.Frag} {mg : Str → Option Value} {base : Heap} {T : Tab} {G : Gx} {n : Nat} {L : List Df}
/-- every def of the list, called at level j -/
def AllOk (P : Program) (w : World) (K : PySem.W.Frag) (mg : Str → Option Value) (base : Heap) (T : Tab) (L : List Df) (j : Nat) : Prop := ∀ df ∈ L, ∃ fd, FnOk P w K mg base (L2.CX P w) (2 * j) (df.ad K) fd df.ps (spC K mg df.info (callN T j df.key)) ∧
  ∃ dvs kws, FunD K df.d.name df.d.qual df.d.params df.d.body df.d.scope dvs kws (df.ad K) fd ∧ (∀ F, RVs K mg F df.info.dflt dvs) ∧ BindsAll K fd df.ps dvs
theorem RVs.dropR {F : Hp} {vs : List Val} {xs : List V} (n : Nat) (r : RVs K mg F vs xs) : RVs K mg F (vs.drop n) (xs.drop n) := RVs.drop n r
/-- a def's promise, for calls -/
theorem fnCall_of {X : Cx} {C : Ctx} {j : Nat} {df : Df} {fd : FuncData} {dvs : List V} (D : DfOk X.K X.mg df) (F : FnOk X.prog X.w X.K X.mg X.base (L2.CX X.prog X.w) j (df.ad X.K) fd df.ps (spC X.K X.mg df.info (C.run df.key))) (hd : ∀ F, RVs X.K X.mg F df.info.dflt dvs) (hb : BindsAll X.K fd df.ps dvs) (m : Nat) :
    FnCall X C j (df.ad X.K) df.key df.info m := by
  have hl : df.info.dflt.length = dvs.length := (hd fun _ => none).length
  refine ⟨dvs.drop (df.info.dflt.length + m - df.info.modes.length), fun F => (hd F).dropR _, fun h => ?_, ?_⟩
  · -- the defaults' places
    refine List.all_eq_true.mpr fun b hb => ?_
    have e : df.info.modes.drop m = (df.info.modes.drop (df.info.modes.length - df.info.dflt.length)).drop (m - (df.info.modes.length - df.info.dflt.length)) := by
      rw [List.drop_drop]
      congr 1
      omega
    rw [e] at hb
    exact List.all_eq_true.mp D.dm b (List.mem_of_mem_drop hb)
  · by_cases h : df.info.modes.length ≤ m + df.info.dflt.length ∧ m ≤ df.info.modes.length
    · obtain ⟨ds, v, b⟩ := hb (df.info.dflt.length + m - df.info.modes.length) (by omega)
      exact (F.raw b v).imp fun vs H Q E h => h.2
    · intro A outer s H us vs Q E _ _ _ hs
      obtain ⟨h1, _, _, _, h2, _⟩ := hs
      exfalso
      rw [List.length_append, List.length_drop, h1] at h2
      omega
/-- the context of a def's body -/
theorem cok_of (O : NOk K mg T G n L) {j : Nat} (A : AllOk P w K mg base T L j) {df : Df} (hdf : df ∈ L) {qual : Str} {fa : Addr} {cdv : Value} {A0 : Around} {outer : List PySem.Env} {s : Shared} {H : Hp} {E : XK} (hr : Room (2 * j + 1) (A0.deeper (envOfC qual df.d.scope s.heap.objs.size fa cdv))) :
    Cok (cxOf (L2.CX P w) P w K mg base df.N qual df.d.scope fa cdv A0 outer s H E) (T.ctx (callN T j)) G df.N (2 * j) df.d.scope allT where
  hN := rfl
  nd := (O.dfs df hdf).sc.nd
  hsc := rfl
  kd := (O.dfs df hdf).kd
  hfn := fun _ h => rfl
  calm := rfl
  un := by
    have := hr.un
    show (A0.deeper (envOfC qual df.d.scope s.heap.objs.size fa cdv)).units + 70 < cLine
    omega
  room := hr
  free := O.free
  fns := fun x ms h => by
    obtain ⟨g, hg, rfl, h2, h3⟩ := O.fns x ms h
    obtain ⟨fd, F, dvs, kws, f1, f2, f3⟩ := A g hg
    refine ⟨g.info, g.ad K, ?_, h2, h3, f1.kp, fun m => fnCall_of (O.dfs g hg) F f2 f3 m⟩
    show (T.code g.key).map (·.info) = _
    rw [O.code g hg]
    rfl
  cls := fun x ms h => by
    obtain ⟨g, hg, h1, h2, D, h3, h4⟩ := O.cls x ms h
    obtain ⟨fd, F, dvs, kws, f1, f2, f3⟩ := A g hg
    refine ⟨g.key, g.info, g.ad K, D, h1, ?_, h2, h3, h4, fun m => fnCall_of (O.dfs g hg) F f2 f3 m⟩
    show (T.code g.key).map (·.info) = _
    rw [O.code g hg]
    rfl
  call := fun m c D f I h1 h2 h3 => by
    obtain ⟨g, hg, rfl, h4, h5⟩ := O.call c f h1
    obtain ⟨fd, F, dvs, kws, f1, f2, f3⟩ := A g hg
    have h2 : (T.code g.key).map (·.info) = some I := h2
    rw [O.code g hg] at h2
    cases h2
    exact ⟨g.ad K, h5 D h3, fnCall_of (O.dfs g hg) F f2 f3 m⟩
  callm := fun c f I ms h1 h2 h3 => by
    obtain ⟨g, hg, rfl, h4, h5⟩ := O.call c f h1
    have h2 : (T.code g.key).map (·.info) = some I := h2
    rw [O.code g hg] at h2
    cases h2
    have h3 : g.info.modes = false :: ms := h3
    rw [h4] at h3
    cases h3
    rfl
  con := O.con
  fld := O.fld
  meth := fun m ms h => ⟨fun r c D f I h1 h2 h3 => by
    obtain ⟨g, hg, rfl, h4, h5⟩ := O.meth m ms h c f h1
    obtain ⟨fd, F, dvs, kws, f1, f2, f3⟩ := A g hg
    have h2 : (T.code g.key).map (·.info) = some I := h2
    rw [O.code g hg] at h2
    cases h2
    obtain ⟨q1, q2⟩ := h5 D h3
    exact ⟨q1, g.ad K, q2, fnCall_of (O.dfs g hg) F f2 f3 r⟩, fun c f I ms' h1 h2 h3 => by
    obtain ⟨g, hg, rfl, h4, h5⟩ := O.meth m ms h c f h1
    have h2 : (T.code g.key).map (·.info) = some I := h2
    rw [O.code g hg] at h2
    cases h2
    have h3 : g.info.modes = false :: ms' := h3
    rw [h3] at h4
    exact h4⟩
  prop := fun f _ c D g I h1 h2 h3 => by
    obtain ⟨gd, hg, rfl, h5⟩ := O.prop f c g h1
    obtain ⟨fd, F, dvs, kws, f1, f2, f3⟩ := A gd hg
    have h2 : (T.code gd.key).map (·.info) = some I := h2
    rw [O.code gd hg] at h2
    cases h2
    obtain ⟨q1, p, q2⟩ := h5 D h3
    exact ⟨q1, p, gd.ad K, q2, fnCall_of (O.dfs gd hg) F f2 f3 1⟩
  clsm := fun x m ms h => by
    obtain ⟨g, hg, h1, h2, D, q, h3, h4, h5⟩ := O.clsm x m ms h
    have hI : (T.code g.key).map (·.info) = some g.info := by
      rw [O.code g hg]
      rfl
    refine ⟨⟨g.key, g.info, h1, hI, h2⟩, fun r f I e1 e2 => ?_⟩
    have e1 : T.clsm x m = some f := e1
    rw [h1] at e1
    cases e1
    have e2 : (T.code g.key).map (·.info) = some I := e2
    rw [hI] at e2
    cases e2
    obtain ⟨fd, F, dvs, kws, f1, f2, f3⟩ := A g hg
    exact ⟨D, q, g.ad K, h3, h4, h5, fnCall_of (O.dfs g hg) F f2 f3 r⟩
theorem all_ok (O : NOk K mg T G n L) : ∀ j, AllOk P w K mg base T L j
  | 0 => fun df hdf => by
    obtain ⟨fd, dvs, kws, f1, f2, f3⟩ := (O.dfs df hdf).fn
    refine ⟨fd, ⟨fun vs H Q E ⟨_, _, _, hv, _⟩ => by rw [hv, (O.dfs df hdf).len], fun A outer s H args us vs Q E _ _ _ _ ⟨_, _, _, _, _, h⟩ => h.elim⟩, dvs, kws, f1, f2, f3⟩
  | j + 1 => fun df hdf => by
    obtain ⟨fd, dvs, kws, f1, f2, f3⟩ := (O.dfs df hdf).fn
    have A : AllOk P w K mg base T L j := all_ok O j
    refine ⟨fd, ?_, dvs, kws, f1, f2, f3⟩
    have B := body_ok (P := P) (w := w) (mg := mg) (base := base) (k := 2 * j + 1) (n := T.fuel) (C := T.ctx (callN T j)) (c := df.code G n) f1 (O.dfs df hdf).sc (O.dfs df hdf).len rfl fun cdv A0 outer s H E hr =>
      trSs_ok (passes_of rfl) (cok_of O A hdf hr) (takes_of rfl rfl rfl rfl) n df.d.body
    have e : spC K mg df.info (callN T (j + 1) df.key) = spC K mg (df.code G n).info (runFn (T.ctx (callN T j)) T.fuel (df.code G n)) := by
      have : callN T (j + 1) df.key = runFn (T.ctx (callN T j)) T.fuel (df.code G n) := by
        funext args
        show (match T.code df.key with
          | some c => runFn (T.ctx (callN T j)) T.fuel c args
          | none => .stuck) = _
        rw [O.code df hdf]
      rw [this]
      rfl
    rw [e]
    exact B
end
end Rv

/-! Rv, part 26: the facts that a head tells; a law's end. -/
namespace Rv
open PySem PySem.Spec PyProof.Rows L2

/-! ### a Hook with a check of one's own -/
abbrev AlR : Type := Bool × List He.FnW
def Df.da (df : Df) : He5.DefA := ⟨fun K => df.ad K, df.d.name, df.d.qual, df.d.params, df.d.body, df.d.scope, df.d.dfl, df.d.kwd⟩
def obsR (chk : PySem.W.Frag → Bool) (fn : List He5.DefA) (K : PySem.W.Frag) : AlR := (chk K && fn.all fun d => d.ok K, fn.map fun d => He5.fnA K (d.at_ K))
def valR (fn : List He5.DefA) : AlR := (true, fn.map He5.DefA.val)
def SaysR (chk : PySem.W.Frag → Bool) (fn : List He5.DefA) (K : PySem.W.Frag) : Prop := obsR chk fn K = valR fn
def obsRG (n : Nat) (chk : PySem.W.Frag → Bool) (fn : List He5.DefA) (g : Addr → Option Obj) : AlR := obsR chk fn (He.frG g (He5.asA g n))
def hookR (n : Nat) (chk : PySem.W.Frag → Bool) (fn : List He5.DefA) : PySem.W.Hook where
  α := AlR
  obs := fun s => obsRG n chk fn s.heap.get?
  val := fun _ => valR fn
  says := fun _ h => ∃ K : PySem.W.Frag, K.In h ∧ SaysR chk fn K
  of := fun _ _ e => ⟨_, He.frG_in, e⟩
  keeps := fun _ _ _ ⟨K, hK, c⟩ k => ⟨K, PySem.W.Frag.In.keeps hK k, c⟩
theorem obsRG_eq {n : Nat} {chk : PySem.W.Frag → Bool} {fn : List He5.DefA} {g : Addr → Option Obj} {s : Shared} (h : ∀ a, g a = s.heap.get? a) : obsRG n chk fn g = (hookR n chk fn).obs s := by
  have e : g = s.heap.get? := funext h
  rw [e] <;> rfl
theorem SaysR.chk {chk : PySem.W.Frag → Bool} {fn : List He5.DefA} {K : PySem.W.Frag} (c : SaysR chk fn K) : chk K = true :=
  (He.ba (show (chk K && fn.all fun d => d.ok K) = true from congrArg (fun z : AlR => z.1) c)).1
theorem SaysR.def_ {chk : PySem.W.Frag → Bool} {fn : List He5.DefA} {K : PySem.W.Frag} (c : SaysR chk fn K) {d : He5.DefA} (h : d ∈ fn) : ∃ fd, FunD K d.name d.qual d.params d.body d.scope (d.dvs K) (d.kws K) (d.at_ K) fd := by
  have c2 := (He.ba (show (chk K && fn.all fun d => d.ok K) = true from congrArg (fun z : AlR => z.1) c)).2
  have e : fn.map (fun d => He5.fnA K (d.at_ K)) = fn.map He5.DefA.val := congrArg (fun z : AlR => z.2) c
  have e2 : He5.fnA K (d.at_ K) = d.val := List.map_inj_left.mp e d h
  exact He5.DefA.funD e2 (List.all_eq_true.mp c2 d h)

/-! ### constants -/
def dvOf : Val → He.Dv
  | .int i => .int i
  | .str x => .str x
  | .bl b => .bl b
  | _ => .non
def flatV : Val → Bool
  | .int _ => true
  | .str _ => true
  | .bl _ => true
  | .non => true
  | _ => false
theorem flat_rv {K : PySem.W.Frag} {mg : Str → Option Value} {F : Hp} {v : Val} (h : flatV v = true) : RV K mg F v ((dvOf v).v K) := by
  cases v <;> first | exact (Bool.false_ne_true h).elim | skip
  · exact .non
  · exact .bl _
  · exact .int _
  · exact .str _
theorem flats_rv {K : PySem.W.Frag} {mg : Str → Option Value} {F : Hp} : ∀ {vs : List Val}, vs.all flatV = true → RVs K mg F vs ((vs.map dvOf).map (He.Dv.v K))
  | [], _ => .nil
  | v :: vs, h => by
    rw [List.all_cons, Bool.and_eq_true] at h
    exact .cons (flat_rv h.1) (flats_rv h.2)
def conOk (K : PySem.W.Frag) (q : Str × Val) : Bool := match q.2 with
  | .int i => (He.Fa.int q.1 i).ok K
  | .str x => (He.Fa.str q.1 x).ok K
  | .tup vs => (He.Fa.glo q.1).ok K && (He.tupB K q.1 (vs.map dvOf) && (vs.all flatV && decide (vs.length ≤ 1000)))
  | _ => false
theorem conOk_ok {K : PySem.W.Frag} {mg : Str → Option Value} {h : Heap} (X : K.In h) (Gh : h.Ns mainGlobals mg) {q : Str × Val} (c : conOk K q = true) : ∃ V u, mg q.1 = some u ∧ RelV V u ∧ ∀ F, RV K mg F q.2 V := by
  obtain ⟨x, v⟩ := q
  cases v <;> first | exact (Bool.false_ne_true c).elim | skip
  · rename_i i
    obtain ⟨t, e⟩ := He.int_ok X Gh (show (He.Fa.int x i).ok K = true from c)
    exact ⟨.int i, _, e, ⟨t, rfl⟩, fun F => .int i⟩
  · rename_i y
    obtain ⟨t, e⟩ := He.str_ok X Gh (show (He.Fa.str x y).ok K = true from c)
    exact ⟨.str y, _, e, ⟨t, rfl⟩, fun F => .str y⟩
  · rename_i vs
    replace c : ((He.Fa.glo x).ok K && (He.tupB K x (vs.map dvOf) && (vs.all flatV && decide (vs.length ≤ 1000)))) = true := c
    simp only [Bool.and_eq_true, decide_eq_true_eq] at c
    obtain ⟨c1, c2, c3, c4⟩ := c
    refine ⟨.ref (He.ga K x), _, He.glo_ok X Gh c1, rfl, fun F => .tup (He.tupB_ok c2 F) ?_ (flats_rv c3)⟩
    rw [List.length_map, List.length_map, sizeLine_eq]
    omega
/-! ### a law's names -/
/-- what is written of a law's module -/
structure Wr where
  L : List Df
  cons : List (Str × Val)
  flds : List (Str × Str)
  free : List Str
  peek : List (Str × Nat) := []
  call : List Bool
  fuel : Nat
  n : Nat
def Wr.G (R : Wr) : Gx where
  fns := R.L.filterMap fun df => match df.d.at_.2 with
    | none => some (df.key, df.info.modes)
    | some _ => none
  cls := R.L.filterMap fun df => if df.d.at_.2 = some ("__init__" : Str) then some (df.d.at_.1, df.info.modes.drop 1) else none
  call := R.call
  cons := R.cons.map (·.1)
  free := R.free
  meths := R.L.filterMap fun df => match df.d.at_.2 with
    | some m => if df.kd = 0 ∧ m ≠ "__init__" ∧ m ≠ "__call__" then some (m, df.info.modes.drop 1) else none
    | none => none
  props := R.L.filterMap fun df => if df.kd = 1 then df.d.at_.2 else none
  clsm := R.L.filterMap fun df => match df.d.at_.2 with
    | some m => if df.kd = 2 then some ((df.d.at_.1, m), df.info.modes.drop 1) else none
    | none => none
  peek := R.peek
  kls := ((R.L.find? fun df => decide (df.kd = 2)).map (·.d.at_.1)).getD ""
/-- a classmethod of a class -/
def clsB (K : PySem.W.Frag) (C : Addr) (m : Str) : Bool := PySem.W.readsIn K C (.type "type") && (He.eqO (PySem.W.specialIn K (.ref C) "__getattribute__") (some (some (.builtin "type.__getattribute__"))) && (He5.wrapB K C "classmethod" "classmethod.__get__" m && PySem.W.fnIn K (He5.wf K C "classmethod" m)))
theorem clsB_ok {K : PySem.W.Frag} {C : Addr} {m : Str} (h : clsB K C m = true) : ClX.CRead K C (.type "type") ∧ ClX.CMet K C (.type "type") m (He.ma K C m) (He5.wf K C "classmethod" m) := by
  unfold clsB at h
  simp only [Bool.and_eq_true] at h
  obtain ⟨h1, h2, h3, h4⟩ := h
  exact ⟨⟨h1, He.eqO_ok h2⟩, He5.cmet_of h3 h4⟩
/-- a property of a class -/
def propB (K : PySem.W.Frag) (C : Addr) (f : Str) : Bool := He.eqO (PySem.W.findIn K (.ref C) f) (some (some (.ref (He.ma K C f)))) && (He.eqO (PySem.W.specialIn K (.ref (He.ma K C f)) "__get__") (some (some (.builtin "property.__get__"))) && (decide (PySem.W.takesIn K (.ref (He.ma K C f)) = some true) && (match PySem.W.recIn K (He.ma K C f) "property" with
  | some (.ref _ :: _) => true
  | _ => false)))
theorem propB_ok {K : PySem.W.Frag} {C : Addr} {f : Str} (h : propB K C f = true) : PropOf K C f (He.ma K C f) (He5.wf K C "property" f) := by
  unfold propB at h
  simp only [Bool.and_eq_true, decide_eq_true_eq] at h
  obtain ⟨h1, h2, h3, h4⟩ := h
  refine ⟨He.eqO_ok h1, He.eqO_ok h2, h3, ?_⟩
  unfold He5.wf
  split at h4
  · rename_i g r e
    exact ⟨r, by rw [e]⟩
  · cases h4
def Wr.chk (R : Wr) (K : PySem.W.Frag) : Bool :=
  (R.L.all fun df => match df.d.at_.2 with
    | none => (He.Fa.glo df.d.at_.1).ok K
    | some m => (He.Fa.glo df.d.at_.1).ok K && (if df.kd = 0 then (He.Fa.cls df.d.at_.1).ok K && ((He.Fa.meth df.d.at_.1 m).ok K && (if m = ("__init__" : Str) then (He.Fa.mkr df.d.at_.1).ok K else true)) else if df.kd = 1 then (He.Fa.cls df.d.at_.1).ok K && propB K (He.ga K df.d.at_.1) m else clsB K (He.ga K df.d.at_.1) m)) &&
  ((R.free.all fun x => (He.Fa.free x).ok K) && ((R.cons.all fun q => conOk K q) && (R.flds.all fun q => (He.Fa.glo q.1).ok K && ((He.Fa.cls q.1).ok K && (He.Fa.noat q.1 q.2).ok K))))
/-- what is decided of the text alone -/
structure WrOk (R : Wr) (codes : List (Str × FnCode)) : Prop where
  codes : codes = R.L.map fun df => (df.key, df.code R.G R.n)
  nd : (R.L.map (·.key)).Nodup
  key : ∀ df ∈ R.L, df.d.at_.2 = none → df.key = df.d.at_.1
  kd0 : ∀ df ∈ R.L, (df.d.at_.2 = none ∨ df.d.at_.2 = some ("__init__" : Str)) → df.kd = 0
  callm : ∀ df ∈ R.L, df.d.at_.2 = some ("__call__" : Str) → df.info.modes = false :: R.call
  mm : ∀ df ∈ R.L, ∀ m, df.kd = 0 → df.d.at_.2 = some m → m = "__init__" ∨ m = "__call__" ∨ R.G.meths.lookup m = some (df.info.modes.drop 1)
  sc : ∀ df ∈ R.L, FnScope df.N df.ps df.d.scope ∧ df.ps.length = df.info.modes.length ∧ (df.info.modes.drop (df.info.modes.length - df.info.dflt.length)).all (!·) = true
  ndm : (R.L.map (·.d.at_)).Nodup
abbrev Wr.T (R : Wr) (codes : List (Str × FnCode)) : Tab := mkTab codes R.L R.cons R.flds R.fuel
theorem lookup_map {α β : Type} {key : α → Str} {f : α → β} : ∀ {l : List α} {a : α}, (l.map key).Nodup → a ∈ l → (l.map fun a => (key a, f a)).lookup (key a) = some (f a)
  | b :: l, a, nd, h => by
    rw [List.map_cons, List.nodup_cons] at nd
    show (match key a == key b with
      | true => some (f b)
      | false => (l.map fun a => (key a, f a)).lookup (key a)) = _
    rcases List.mem_cons.mp h with rfl | h
    · rw [beq_self_eq_true]
    · have : (key a == key b) = false := by
        rw [beq_eq_false_iff_ne]
        exact fun z => nd.1 (z ▸ List.mem_map_of_mem h)
      rw [this]
      exact lookup_map nd.2 h
theorem lookup_filterMap {α β κ : Type} [BEq κ] [LawfulBEq κ] {f : α → Option (κ × β)} {x : κ} {b : β} : ∀ {l : List α}, (l.filterMap f).lookup x = some b → ∃ a ∈ l, f a = some (x, b)
  | [], h => nomatch (show (none : Option β) = some b from h)
  | a :: l, h => by
    rw [List.filterMap_cons] at h
    cases e : f a with
    | none =>
      rw [e] at h
      obtain ⟨c, hc, q⟩ := lookup_filterMap h
      exact ⟨c, List.mem_cons_of_mem _ hc, q⟩
    | some p =>
      obtain ⟨y, d⟩ := p
      rw [e] at h
      replace h : (match x == y with
        | true => some d
        | false => (l.filterMap f).lookup x) = some b := h
      cases q : x == y with
      | true =>
        rw [q] at h
        cases h
        rw [beq_iff_eq] at q
        exact ⟨a, List.mem_cons_self, by rw [e, q]⟩
      | false =>
        rw [q] at h
        obtain ⟨c, hc, r⟩ := lookup_filterMap h
        exact ⟨c, List.mem_cons_of_mem _ hc, r⟩
end Rv

namespace Rv
open PySem PySem.Spec PyProof.Rows L2
section
variable {K : PySem.W.Frag} {mg : Str → Option Value} {h : Heap} {R : Wr} {codes : List (Str × FnCode)}
theorem find_meth {L : List Df} {c m f : Str} {k : Nat} (e : (L.find? fun df => decide (df.d.at_ = (c, some m) ∧ df.kd = k)).map (·.key) = some f) : ∃ df ∈ L, df.d.at_ = (c, some m) ∧ df.kd = k ∧ df.key = f := by
  obtain ⟨df, h1, h2⟩ := map_inv e
  have z := List.find?_some h1
  exact ⟨df, List.mem_of_find?_eq_some h1, (of_decide_eq_true z).1, (of_decide_eq_true z).2, h2.symm⟩
theorem meth_find {k : Nat} : ∀ {L : List Df} {df : Df} {c m : Str}, (L.map (·.d.at_)).Nodup → df ∈ L → df.d.at_ = (c, some m) → df.kd = k → (L.find? fun df => decide (df.d.at_ = (c, some m) ∧ df.kd = k)).map (·.key) = some df.key
  | b :: L, df, c, m, nd, hm, e, e0 => by
    rw [List.map_cons, List.nodup_cons] at nd
    rw [List.find?_cons]
    rcases List.mem_cons.mp hm with rfl | hm
    · rw [decide_eq_true ⟨e, e0⟩]; rfl
    · have : decide (b.d.at_ = (c, some m) ∧ b.kd = k) = false := decide_eq_false fun z => nd.1 (by rw [z.1, ← e]; exact List.mem_map_of_mem hm)
      rw [this]
      exact meth_find nd.2 hm e e0
/-- the module's facts, from the check and the text -/
theorem nok_of (X : K.In h) (Gh : h.Ns mainGlobals mg) (c : SaysR R.chk (R.L.map (·.da)) K) (W : WrOk R codes)
    (hd : ∀ df ∈ R.L, ∀ fd, FunD K df.d.name df.d.qual df.d.params df.d.body df.d.scope (df.d.dvs K) (df.d.kws K) (df.ad K) fd → (∀ F, RVs K mg F df.info.dflt (df.d.dvs K)) ∧ BindsAll K fd df.ps (df.d.dvs K)) :
    NOk K mg (R.T codes) R.G R.n R.L := by
  have chk := c.chk
  unfold Wr.chk at chk
  simp only [Bool.and_eq_true] at chk
  obtain ⟨c1, c2, c3, c4⟩ := chk
  have defs : ∀ df ∈ R.L, ∃ fd, FunD K df.d.name df.d.qual df.d.params df.d.body df.d.scope (df.d.dvs K) (df.d.kws K) (df.ad K) fd := fun df hdf => c.def_ (d := df.da) (List.mem_map_of_mem hdf)
  have hcode : ∀ df ∈ R.L, (R.T codes).code df.key = some (df.code R.G R.n) := fun df hdf => by
    show codes.lookup df.key = _
    rw [W.codes]
    exact lookup_map W.nd hdf
  have cons : ∀ (x : Str) (v : Val), (x, v) ∈ R.cons → ∃ V u, mg x = some u ∧ RelV V u ∧ ∀ F, RV K mg F v V := fun x v hm => conOk_ok X Gh (q := (x, v)) (List.all_eq_true.mp c3 _ hm)
  refine ⟨hcode, fun df hdf => ?_, fun x hx => ?_, fun x ms e => ?_, fun x ms e => ?_, fun cc f e => ?_, fun x hx => ?_, fun f cc D e1 e2 => ?_, fun m ms e cc f e1 => ?_, fun f cc g e1 => ?_, fun x m ms e => ?_⟩
  · obtain ⟨fd, F⟩ := defs df hdf
    obtain ⟨h1, h2⟩ := hd df hdf fd F
    obtain ⟨s1, s2, s3⟩ := W.sc df hdf
    exact ⟨⟨fd, _, _, F, h1, h2⟩, s1, s2, s1.kind, s3⟩
  · exact He.free_ok X Gh (List.all_eq_true.mp c2 x (List.contains_iff_mem.mp hx))
  · obtain ⟨df, hdf, q⟩ := lookup_filterMap e
    cases ha : df.d.at_.2 with
    | some m => rw [ha] at q; cases q
    | none =>
      rw [ha] at q
      have q : some (df.key, df.info.modes) = some (x, ms) := q
      cases q
      have z := List.all_eq_true.mp c1 df hdf
      rw [ha] at z
      refine ⟨df, hdf, rfl, rfl, ?_⟩
      rw [W.key df hdf ha]
      have e2 : df.ad K = He.ga K df.d.at_.1 := by
        unfold Df.ad He.fAd
        rw [if_pos (W.kd0 df hdf (.inl ha)), ha]
      rw [e2]
      exact He.glo_ok X Gh z
  · obtain ⟨df, hdf, q⟩ := lookup_filterMap e
    split at q
    · rename_i ha
      cases q
      have z := List.all_eq_true.mp c1 df hdf
      have k0 := W.kd0 df hdf (.inr ha)
      rw [ha] at z
      simp only [Bool.and_eq_true] at z
      obtain ⟨z1, z2⟩ := z
      rw [if_pos k0] at z2
      simp only [Bool.and_eq_true] at z2
      obtain ⟨_, z2, z3⟩ := z2
      rw [if_pos (by trivial)] at z3
      refine ⟨df, hdf, meth_find W.ndm hdf (Prod.ext rfl ha) k0, rfl, He.ga K df.d.at_.1, He.glo_ok X Gh z1, ?_⟩
      have e2 : df.ad K = He.ma K (He.ga K df.d.at_.1) "__init__" := by
        unfold Df.ad He.fAd
        rw [if_pos k0, ha]
      rw [e2]
      exact He.mkr_ok z3
    · cases q
  · obtain ⟨df, hdf, ha, k0, hk⟩ := find_meth e
    have ha2 : df.d.at_.2 = some ("__call__" : Str) := by rw [ha]
    refine ⟨df, hdf, hk, W.callm df hdf ha2, fun D hD => ?_⟩
    have z := List.all_eq_true.mp c1 df hdf
    rw [ha2] at z
    simp only [Bool.and_eq_true] at z
    obtain ⟨z1, z2⟩ := z
    rw [if_pos k0] at z2
    simp only [Bool.and_eq_true] at z2
    obtain ⟨_, z2, z3⟩ := z2
    have g1 := He.glo_ok X Gh z1
    have ea : df.d.at_.1 = cc := by rw [ha]
    rw [ea] at g1 z2
    rw [hD] at g1
    cases g1
    have m := He.meth_ok z2
    have e2 : df.ad K = He.ma K (He.ga K cc) "__call__" := by
      unfold Df.ad He.fAd
      rw [if_pos k0, ha]
    obtain ⟨fd, F⟩ := defs df hdf
    obtain ⟨oc, od, dV, kV, doc, pm, an, cdv, ct, osl, _, lk, _⟩ := F.ex
    rw [e2] at lk ⊢
    refine ⟨m.at_, m.fn, ?_⟩
    unfold PySem.W.fnIn
    rw [lk]
  · have hx : x ∈ R.cons.map (·.1) := List.contains_iff_mem.mp hx
    have : ∃ v, R.cons.lookup x = some v ∧ (x, v) ∈ R.cons := by
      have go : ∀ l : List (Str × Val), x ∈ l.map (·.1) → ∃ v, l.lookup x = some v ∧ (x, v) ∈ l := by
        intro l
        induction l with
        | nil => intro h; cases h
        | cons p l ih =>
          intro h
          obtain ⟨y, v⟩ := p
          cases q : x == y with
          | true =>
            refine ⟨v, ?_, ?_⟩
            · show (match x == y with
                | true => some v
                | false => l.lookup x) = _
              rw [q]
            · rw [beq_iff_eq] at q
              rw [q]; exact List.mem_cons_self
          | false =>
            have h : x ∈ y :: l.map (·.1) := h
            rcases List.mem_cons.mp h with z | z
            · rw [z, beq_self_eq_true] at q; cases q
            · obtain ⟨u, h1, h2⟩ := ih z
              refine ⟨u, ?_, List.mem_cons_of_mem _ h2⟩
              show (match x == y with
                | true => some v
                | false => l.lookup x) = _
              rw [q]
              exact h1
      exact go R.cons hx
    obtain ⟨v, h1, h2⟩ := this
    obtain ⟨V, u, q1, q2, q3⟩ := cons x v h2
    exact ⟨v, V, u, h1, q1, q2, q3⟩
  · have e1 : (cc, f) ∈ R.flds := List.contains_iff_mem.mp e1
    have z := List.all_eq_true.mp c4 _ e1
    simp only [Bool.and_eq_true] at z
    obtain ⟨z1, z2, z3⟩ := z
    have g1 := He.glo_ok X Gh z1
    rw [e2] at g1
    cases g1
    exact ⟨He.cls_ok z2, He.noat_ok z3⟩
  · obtain ⟨df, hdf, ha, k0, hk⟩ := find_meth e1
    have ha2 : df.d.at_.2 = some m := by rw [ha]
    have nm : m ≠ "__init__" ∧ m ≠ "__call__" := by
      obtain ⟨d2, _, q⟩ := lookup_filterMap e
      split at q
      · rename_i m2 _
        split at q
        · rename_i q2
          cases q
          exact q2.2
        · cases q
      · cases q
    have hms : df.info.modes.drop 1 = ms := by
      rcases W.mm df hdf m k0 ha2 with q | q | q
      · exact (nm.1 q).elim
      · exact (nm.2 q).elim
      · rw [e] at q; cases q; rfl
    refine ⟨df, hdf, hk, hms, fun D hD => ?_⟩
    have z := List.all_eq_true.mp c1 df hdf
    rw [ha2] at z
    simp only [Bool.and_eq_true] at z
    obtain ⟨z1, z2⟩ := z
    rw [if_pos k0] at z2
    simp only [Bool.and_eq_true] at z2
    obtain ⟨z2, z3, _⟩ := z2
    have g1 := He.glo_ok X Gh z1
    have ea : df.d.at_.1 = cc := by rw [ha]
    rw [ea] at g1 z2 z3
    rw [hD] at g1
    cases g1
    have e2 : df.ad K = He.ma K (He.ga K cc) m := by
      unfold Df.ad He.fAd
      rw [if_pos k0, ha]
    rw [e2]
    exact ⟨He.cls_ok z2, He.meth_ok z3⟩
  · obtain ⟨df, hdf, ha, k0, hk⟩ := find_meth e1
    have ha2 : df.d.at_.2 = some f := by rw [ha]
    refine ⟨df, hdf, hk, fun D hD => ?_⟩
    have z := List.all_eq_true.mp c1 df hdf
    rw [ha2] at z
    simp only [Bool.and_eq_true] at z
    obtain ⟨z1, z2⟩ := z
    rw [if_neg (by rw [k0]; decide), if_pos k0] at z2
    simp only [Bool.and_eq_true] at z2
    obtain ⟨z2, z3⟩ := z2
    have g1 := He.glo_ok X Gh z1
    have ea : df.d.at_.1 = cc := by rw [ha]
    rw [ea] at g1 z2 z3
    rw [hD] at g1
    cases g1
    have e2 : df.ad K = He5.wf K (He.ga K cc) "property" f := by
      unfold Df.ad
      rw [if_neg (by rw [k0]; decide), if_pos k0, ha]
      rfl
    rw [e2]
    exact ⟨He.cls_ok z2, _, propB_ok z3⟩
  · obtain ⟨df, hdf, q⟩ := lookup_filterMap e
    split at q
    · rename_i m2 ha
      split at q
      · rename_i k2
        cases q
        have z := List.all_eq_true.mp c1 df hdf
        rw [ha] at z
        simp only [Bool.and_eq_true] at z
        obtain ⟨z1, z2⟩ := z
        rw [if_neg (by rw [k2]; decide), if_neg (by rw [k2]; decide)] at z2
        have e2 : df.ad K = He5.wf K (He.ga K df.d.at_.1) "classmethod" m := by
          unfold Df.ad
          rw [if_neg (by rw [k2]; decide), if_neg (by rw [k2]; decide), ha]
          rfl
        refine ⟨df, hdf, meth_find W.ndm hdf (Prod.ext rfl ha) k2, rfl, He.ga K df.d.at_.1, He.ma K (He.ga K df.d.at_.1) m, He.glo_ok X Gh z1, (clsB_ok z2).1, ?_⟩
        rw [e2]
        exact (clsB_ok z2).2
      · cases q
    · cases q
end
end Rv

/-! Rv, part 27: what is decided of a text; the law's end. -/
namespace Rv
open PySem PySem.Spec PyProof.Rows L2
def fnScopeC (N ps : List Str) (sc : Scope) : Bool :=
  (match sc.kind with | .function => true | _ => false) && (!sc.isCoroutine && (!sc.isGenerator && (decide N.Nodup && (decide (N.take ps.length = ps) && ((ps.all fun x => decide (sc.names.lookup x = some .local) || decide (sc.names.lookup x = some .cell)) && sc.names.all fun y => decide (y.2 ≠ .free))))))
theorem fnScopeC_ok {N ps : List Str} {sc : Scope} (h : fnScopeC N ps sc = true) : FnScope N ps sc := by
  unfold fnScopeC at h
  simp only [Bool.and_eq_true, Bool.not_eq_true', decide_eq_true_eq] at h
  obtain ⟨h1, h2, h3, h4, h5, h6, h7⟩ := h
  refine ⟨?_, h2, h3, h4, h5, fun x hx => ?_, fun y hy => of_decide_eq_true (List.all_eq_true.mp h7 y hy)⟩
  · split at h1
    · assumption
    · cases h1
  · have z := List.all_eq_true.mp h6 x hx
    rw [Bool.or_eq_true, decide_eq_true_eq, decide_eq_true_eq] at z
    exact z
/-- a text's check in one -/
def wrC (R : Wr) : Bool :=
  decide ((R.L.map (·.key)).Nodup) && (decide ((R.L.map (·.d.at_)).Nodup) && (R.L.all fun df => (match df.d.at_.2 with
    | none => decide (df.key = df.d.at_.1) && decide (df.kd = 0)
    | some m => if m = ("__call__" : Str) then decide (df.info.modes = false :: R.call) else if m = ("__init__" : Str) then decide (df.kd = 0) else if df.kd = 0 then decide (R.G.meths.lookup m = some (df.info.modes.drop 1)) else true) && (fnScopeC df.N df.ps df.d.scope && (decide (df.ps.length = df.info.modes.length) && (df.info.modes.drop (df.info.modes.length - df.info.dflt.length)).all (!·)))))
theorem wrC_ok {R : Wr} {codes : List (Str × FnCode)} (hc : codes = R.L.map fun df => (df.key, df.code R.G R.n)) (h : wrC R = true) : WrOk R codes := by
  unfold wrC at h
  simp only [Bool.and_eq_true, decide_eq_true_eq] at h
  obtain ⟨h1, h2, h3⟩ := h
  refine ⟨hc, h1, fun df hdf e => ?_, fun df hdf e => ?_, fun df hdf e => ?_, fun df hdf m k0 e => ?_, fun df hdf => ?_, h2⟩
  · have z := List.all_eq_true.mp h3 df hdf
    rw [e] at z
    simp only [Bool.and_eq_true, decide_eq_true_eq] at z
    exact z.1.1
  · have z := List.all_eq_true.mp h3 df hdf
    rcases e with e | e
    · rw [e] at z
      simp only [Bool.and_eq_true, decide_eq_true_eq] at z
      exact z.1.2
    · rw [e] at z
      simp only [Bool.and_eq_true] at z
      have z1 := z.1
      rw [if_neg (by decide), if_pos (by trivial), decide_eq_true_eq] at z1
      exact z1
  · have z := List.all_eq_true.mp h3 df hdf
    rw [e] at z
    simp only [Bool.and_eq_true] at z
    have z1 := z.1
    rw [if_pos (by trivial), decide_eq_true_eq] at z1
    exact z1
  · by_cases m1 : m = "__call__"
    · exact .inr (.inl m1)
    by_cases m2 : m = "__init__"
    · exact .inl m2
    have z := List.all_eq_true.mp h3 df hdf
    rw [e] at z
    simp only [Bool.and_eq_true] at z
    have z1 := z.1
    rw [if_neg m1, if_neg m2, if_pos k0, decide_eq_true_eq] at z1
    exact .inr (.inr z1)
  · have z := List.all_eq_true.mp h3 df hdf
    simp only [Bool.and_eq_true, decide_eq_true_eq] at z
    exact ⟨fnScopeC_ok z.2.1, z.2.2.1, z.2.2.2⟩
/-- a def without defaults binds its values in a row -/
def BA (df : Df) : Prop := ∀ (kV doc pm : Value) (an : Option Addr) (cdv ct : Value) (us : List Value), us.length = df.ps.length → bindArgs (PySem.W.fnOf df.d.name df.d.qual df.d.params df.d.body df.d.scope .none kV doc pm an cdv ct) ⟨us, []⟩ = pure (df.ps.zip us)
theorem ba_ok {K : PySem.W.Frag} {mg : Str → Option Value} {df : Df} (hb : BA df) (h0 : df.d.dfl = []) (h1 : df.info.dflt = []) {fd : FuncData} (F : FunD K df.d.name df.d.qual df.d.params df.d.body df.d.scope (df.d.dvs K) (df.d.kws K) (df.ad K) fd) :
    (∀ F, RVs K mg F df.info.dflt (df.d.dvs K)) ∧ BindsAll K fd df.ps (df.d.dvs K) := by
  have e : df.d.dvs K = [] := by
    unfold He.DefD.dvs
    rw [h0]
    rfl
  rw [e] at F ⊢
  refine ⟨fun _ => by rw [h1]; exact .nil, fun j hj => ⟨[], by rw [List.drop_nil]; exact .nil, FunD.bindsN F hb⟩⟩
/-- one default, the rest written -/
def BA1 (df : Df) : Prop := (∀ (T : Addr) (kV doc pm : Value) (an : Option Addr) (cdv ct : Value) (us its : List Value), us.length + 1 = df.ps.length → its.length = 1 →
      ∃ k, bindArgs (PySem.W.fnOf df.d.name df.d.qual df.d.params df.d.body df.d.scope (.ref T) kV doc pm an cdv ct) ⟨us, []⟩ = seqItems? (.ref T) >>= k ∧ k (some its.toArray) = pure (df.ps.zip (us ++ its))) ∧
  (∀ (T : Addr) (kV doc pm : Value) (an : Option Addr) (cdv ct : Value) (us its : List Value), us.length = df.ps.length → its.length = 1 →
      ∃ k, bindArgs (PySem.W.fnOf df.d.name df.d.qual df.d.params df.d.body df.d.scope (.ref T) kV doc pm an cdv ct) ⟨us, []⟩ = seqItems? (.ref T) >>= k ∧ k (some its.toArray) = pure (df.ps.zip us))
theorem ba1_ok {K : PySem.W.Frag} {mg : Str → Option Value} {df : Df} (hb : BA1 df) {dv : He.Dv} {v : Val} (h0 : df.d.dfl = [dv]) (h1 : df.info.dflt = [v]) (hv : ∀ F, RV K mg F v (dv.v K)) (hp : 1 ≤ df.ps.length) {fd : FuncData} (F : FunD K df.d.name df.d.qual df.d.params df.d.body df.d.scope (df.d.dvs K) (df.d.kws K) (df.ad K) fd) :
    (∀ F, RVs K mg F df.info.dflt (df.d.dvs K)) ∧ BindsAll K fd df.ps (df.d.dvs K) := by
  have e : df.d.dvs K = [dv.v K] := by
    unfold He.DefD.dvs
    rw [h0]
    rfl
  rw [e] at F ⊢
  refine ⟨fun F => by rw [h1]; exact .cons (hv F) .nil, fun j hj => ?_⟩
  have hj : j ≤ 1 := hj
  rcases Nat.le_one_iff_eq_zero_or_eq_one.mp hj with rfl | rfl
  · exact FunD.binds1 F (df.ps.length - 1) 0 (List.cons_ne_nil _ _) (by show df.ps.length - 1 + (1 - 0) = _; omega) fun T kV doc pm an cdv ct us its h2 h3 => hb.1 T kV doc pm an cdv ct us its (by omega) h3
  · refine FunD.binds1 F df.ps.length 1 (List.cons_ne_nil _ _) rfl fun T kV doc pm an cdv ct us its h2 h3 => ?_
    obtain ⟨k, q1, q2⟩ := hb.2 T kV doc pm an cdv ct us its h2 h3
    refine ⟨k, q1, ?_⟩
    have : its.drop 1 = [] := List.drop_eq_nil_of_le (by rw [h3]; exact Nat.le_refl _)
    rw [this, List.append_nil]
    exact q2
/-- the law's promise at its script -/
theorem law_sp {K : PySem.W.Frag} {mg : Str → Option Value} {I : FnI} {run : List Val → CRes} (hm : I.modes = [false]) (hf : I.fresh = false) (hr : ∀ ns : List Int, ns.length ≤ 63 → run [.scr ns] = .ok (.bl true) []) (H : Hp) (a : Addr) (ns : List Int) (hl : ns.length ≤ 63) (hS : SqL K H a (ns.map V.int)) :
    spC K mg I run [.ref a] H (fun v _ => v = .bl true) fun _ _ _ => False := by
  refine ⟨H, [.scr ns], by rw [hm]; rfl, by rw [hm]; rfl, ?_, ?_⟩
  · rw [hm]
    refine ⟨Same.refl _, rfl, fun i v o e => ?_, fun i j v w b e1 m1 _ _ _ _ => ?_⟩
    · cases i with
      | zero =>
        have e : some (Val.scr ns, false) = some (v, o) := e
        cases e
        refine ⟨.ref a, rfl, ?_⟩
        unfold SlotR
        rw [Bool.false_and, if_neg Bool.false_ne_true]
        exact .scr hS (by rw [sizeLine_eq]; omega)
      | succ i =>
        have e : lookS [] i = some (v, o) := e
        unfold lookS at e
        simp at e
    · cases i with
      | zero =>
        have e1 : some (Val.scr ns, false) = some (v, true) := e1
        cases e1
      | succ i =>
        have e1 : lookS [] i = some (v, true) := e1
        unfold lookS at e1
        simp at e1
  · rw [hr ns hl]
    intro F' H' x _ _ _ ret
    unfold RetR at ret
    rw [hf, Bool.false_and, if_neg Bool.false_ne_true] at ret
    cases ret
    rfl
end Rv

/-! Rv: the head's run, looked at in three parts. -/
noncomputable section
namespace Rv
open PySem PySem.W PySem.Spec PyProof.Rows PySem.Calls L2 HandSHeadRun
abbrev endS (r : PySem.W.OpenRow) (M : Nat) (w : World) (os : OsState) : Option PySem.W.SharedT := endF (stepQ (denQ tabQ) r.prog w) M r.prog w os
def Run1 (r : PySem.W.OpenRow) (M : Nat) (w : World) : Prop := ∀ os : OsState, (endS r M w os).map (fun s => looksF r.prog (boot_heap w.params) s.abs) = some true
def Run2 (r : PySem.W.OpenRow) (q : Program) (M : Nat) (loose : List PySem.Str) (w : World) : Prop := ∀ os : OsState, (endS r M w os).map (fun s => seenQ q loose (importedModules r.prog.main.body) (fun s => PySem.W.xlAt q [] s && PySem.W.recOk r.toRowW.records s) s.abs) = some (PySem.W.openGood q loose)
def Run3 (r : PySem.W.OpenRow) (H : PySem.W.Hook) (ob : PySem.W.SharedT → H.α) (M : Nat) (w : World) : Prop := ∀ os : OsState, (endS r M w os).map ob = some (H.val w)
theorem runEq_of3 {r : PySem.W.OpenRow} {q : Program} {H : PySem.W.Hook} {ob : PySem.W.SharedT → H.α} {M : Nat} {loose : List PySem.Str} {w : World} (a : Run1 r M w) (b : Run2 r q M loose w) (c : Run3 r H ob M w) : RunEq r q H ob M loose w := by
  intro os
  have a := a os
  have b := b os
  have c := c os
  show (endS r M w os).map _ = _
  cases e : endS r M w os with
  | none => rw [e] at a; cases a
  | some s =>
    rw [e] at a b c
    have a : some (looksF r.prog (boot_heap w.params) s.abs) = some true := a
    have b : some (seenQ q loose (importedModules r.prog.main.body) (fun s => PySem.W.xlAt q [] s && PySem.W.recOk r.toRowW.records s) s.abs) = some (PySem.W.openGood q loose) := b
    have c : some (ob s) = some (H.val w) := c
    show some (looksF r.prog (boot_heap w.params) s.abs, seenQ q loose (importedModules r.prog.main.body) (fun s => PySem.W.xlAt q [] s && PySem.W.recOk r.toRowW.records s) s.abs, ob s) = _
    rw [Option.some.inj a, Option.some.inj b, Option.some.inj c]
end Rv
noncomputable section
namespace Rv
open PySem PySem.W PySem.Spec PyProof.Rows PySem.Calls L2 HandSHeadRun
/-- a Hook that looks at written addresses -/
def hookZ (as : List Addr) (chk : PySem.W.Frag → Bool) (fn : List He5.DefA) : PySem.W.Hook where
  α := AlR
  obs := fun s => obsR chk fn (He.frG s.heap.get? as)
  val := fun _ => valR fn
  says := fun _ h => ∃ K : PySem.W.Frag, K.In h ∧ SaysR chk fn K
  of := fun _ _ e => ⟨_, He.frG_in, e⟩
  keeps := fun _ _ _ ⟨K, hK, c⟩ k => ⟨K, PySem.W.Frag.In.keeps hK k, c⟩
def obZ (as : List Addr) (chk : PySem.W.Frag → Bool) (fn : List He5.DefA) (s : PySem.W.SharedT) : AlR := obsR chk fn (He.frG (getT s) as)
theorem obZ_eq {as : List Addr} {chk : PySem.W.Frag → Bool} {fn : List He5.DefA} (s : PySem.W.SharedT) : obZ as chk fn s = (hookZ as chk fn).obs s.abs := by
  have e : getT s = s.abs.heap.get? := funext (getT_eq s)
  show obsR chk fn (He.frG (getT s) as) = obsR chk fn (He.frG s.abs.heap.get? as)
  rw [e]
end Rv

/-! Rv, plain part 1: what the evaluator answers, by what is wanted of the answer. -/
namespace Rv
open PySem

/-- the answer is as wanted: Q of a value, E of an error -/
structure WP {α : Type} (x : Out α) (Q : α → Env → Prop) (E : Val → Env → Prop) : Prop where
  run : match x with
  | .ok a ρ => Q a ρ
  | .exc e ρ => E e ρ
  | .stuck => False
section
variable {α β : Type} {Q : α → Env → Prop} {E : Val → Env → Prop}
theorem WP.ok {a : α} {ρ : Env} (h : Q a ρ) : WP (.ok a ρ) Q E := ⟨h⟩
theorem WP.exc {e : Val} {ρ : Env} (h : E e ρ) : WP (.exc e ρ : Out α) Q E := ⟨h⟩
theorem WP.bind {x : Out β} {f : β → Env → Out α} (h : WP x (fun b ρ => WP (f b ρ) Q E) E) : WP (x.bind f) Q E := by
  cases x with
  | ok a ρ => exact h.run
  | exc e ρ => exact ⟨h.run⟩
  | stuck => exact h.run.elim
theorem WP.imp {Q' : α → Env → Prop} {E' : Val → Env → Prop} {x : Out α} (h : WP x Q E) (q : ∀ a ρ, Q a ρ → Q' a ρ) (e : ∀ a ρ, E a ρ → E' a ρ) : WP x Q' E' := by
  cases x with
  | ok a ρ => exact ⟨q a ρ h.run⟩
  | exc a ρ => exact ⟨e a ρ h.run⟩
  | stuck => exact h.run.elim
theorem WP.of_eq {x y : Out α} (e : x = y) (h : WP y Q E) : WP x Q E := e ▸ h
theorem WP.to_ok {x : Out α} (h : WP x Q fun _ _ => False) : ∃ a ρ, x = .ok a ρ ∧ Q a ρ := by
  cases x with
  | ok a ρ => exact ⟨a, ρ, rfl, h.run⟩
  | exc a ρ => exact h.run.elim
  | stuck => exact h.run.elim
end

/-! ### statements -/
/-- what follows in a block -/
def Nx (C : Ctx) (n : Nat) (ss : List Sx) (Q : Fl → Env → Prop) (E : Val → Env → Prop) : Fl → Env → Prop
  | .nx, ρ => WP (evSs C n ss ρ) Q E
  | g, ρ => Q g ρ
section
variable {C : Ctx} {n : Nat} {s : Sx} {ss a b : List Sx} {Q : Fl → Env → Prop} {E : Val → Env → Prop} {ρ : Env}
theorem Nx_nx : Nx C n ss Q E .nx ρ = WP (evSs C n ss ρ) Q E := rfl
theorem Nx_rt {r : R} : Nx C n ss Q E (.rt r) ρ = Q (.rt r) ρ := rfl
theorem Nx_bk : Nx C n ss Q E .bk ρ = Q .bk ρ := rfl
theorem Nx_ct : Nx C n ss Q E .ct ρ = Q .ct ρ := rfl
theorem wp_nil (h : Q .nx ρ) : WP (evSs C n [] ρ) Q E := ⟨h⟩
theorem wp_cons (h : WP (evS C n s ρ) (Nx C n ss Q E) E) : WP (evSs C n (s :: ss) ρ) Q E := by
  show WP ((evS C n s ρ).bind fun f ρ => match f with
    | .nx => evSs C n ss ρ
    | g => .ok g ρ) Q E
  refine WP.bind (h.imp (fun f ρ q => ?_) fun _ _ e => e)
  cases f <;> first | exact q | exact ⟨q⟩ | exact (q).run
theorem wp_ite {c : Ex} (h : WP (evT C c ρ) (fun k ρ => if k = true then WP (evSs C n a ρ) Q E else WP (evSs C n b ρ) Q E) E) : WP (evS C n (.ite c a b) ρ) Q E := by
  show WP ((evT C c ρ).bind fun k ρ => if k then evSs C n a ρ else evSs C n b ρ) Q E
  refine WP.bind (h.imp (fun k ρ q => ?_) fun _ _ e => e)
  cases k <;> exact q
/-- behind a turn of a loop -/
def AFT (P : Env → Prop) (Q : Fl → Env → Prop) : Fl → Env → Prop
  | .nx, ρ => P ρ
  | .ct, ρ => P ρ
  | .bk, ρ => Q .nx ρ
  | .rt r, ρ => Q (.rt r) ρ
theorem aft_nx {P : Env → Prop} (h : P ρ) : AFT P Q .nx ρ := h
theorem aft_ct {P : Env → Prop} (h : P ρ) : AFT P Q .ct ρ := h
theorem aft_bk {P : Env → Prop} (h : Q .nx ρ) : AFT P Q .bk ρ := h
theorem aft_rt {P : Env → Prop} {r : R} (h : Q (.rt r) ρ) : AFT P Q (.rt r) ρ := h
def ITE (b : Bool) (p q : Prop) : Prop := if b = true then p else q
/-- a loop over items: what holds ahead of each turn, by what is left -/
theorem wp_for {t : Tg} {it : Ex} {body : List Sx} (I : List Val → Env → Prop) {Q : Fl → Env → Prop}
    (h0 : WP (evI C it ρ) I E)
    (h1 : ∀ x xs ρ, I (x :: xs) ρ → ∃ ρ', asgT t x false ρ = some ρ' ∧ WP (evSs C n body ρ') (AFT (I xs) Q) E)
    (h2 : ∀ ρ, I [] ρ → Q .nx ρ) : WP (evS C n (.for t it body) ρ) Q E := by
  show WP ((evI C it ρ).bind fun xs ρ => forLoop (fun x ρ => match asgT t x false ρ with
      | some ρ => evSs C n body ρ
      | none => .stuck) xs ρ) Q E
  refine WP.bind (h0.imp (fun xs ρ q => ?_) fun _ _ e => e)
  clear h0
  induction xs generalizing ρ with
  | nil => first | exact h2 ρ q | exact ⟨h2 ρ q⟩ | exact (h2 ρ q).run
  | cons x xs ih =>
    obtain ⟨ρ', e, w⟩ := h1 x xs ρ q
    show WP (((match asgT t x false ρ with
      | some ρ => evSs C n body ρ
      | none => .stuck) : Out Fl).bind fun f ρ => match f with
        | .nx => forLoop _ xs ρ
        | .ct => forLoop _ xs ρ
        | .bk => .ok .nx ρ
        | .rt r => .ok (.rt r) ρ) Q E
    rw [e]
    refine WP.bind (w.imp (fun f ρ q => ?_) fun _ _ e => e)
    cases f with
    | nx => exact ih ρ q
    | ct => exact ih ρ q
    | bk => first | exact q | exact ⟨q⟩ | exact (q).run
    | rt r => first | exact q | exact ⟨q⟩ | exact (q).run
/-- a while loop: what holds ahead of each test, a number that falls -/
theorem wp_while {c : Ex} {body : List Sx} (I : Nat → Env → Prop) (k : Nat) (hk : k < n) {Q : Fl → Env → Prop} (h0 : I k ρ)
    (h1 : ∀ k ρ, I k ρ → WP (evT C c ρ) (fun b ρ => ITE b (WP (evSs C n body ρ) (AFT (fun ρ => ∃ j, j < k ∧ I j ρ) Q) E) (Q .nx ρ)) E) : WP (evS C n (.while c body) ρ) Q E := by
  show WP (whileLoop (evT C c) (evSs C n body) n ρ) Q E
  have go : ∀ m k ρ, k < m → I k ρ → WP (whileLoop (evT C c) (evSs C n body) m ρ) Q E := by
    intro m
    induction m with
    | zero => intro k ρ hk; exact absurd hk (Nat.not_lt_zero _)
    | succ m ih =>
      intro k ρ hk hI
      show WP ((evT C c ρ).bind fun b ρ => if b then (evSs C n body ρ).bind fun f ρ => match f with
        | .nx => whileLoop (evT C c) (evSs C n body) m ρ
        | .ct => whileLoop (evT C c) (evSs C n body) m ρ
        | .bk => .ok .nx ρ
        | .rt r => .ok (.rt r) ρ
        else .ok .nx ρ) Q E
      refine WP.bind ((h1 k ρ hI).imp (fun b ρ q => ?_) fun _ _ e => e)
      cases b with
      | false => first | exact q | exact ⟨q⟩ | exact (q).run
      | true =>
        refine WP.bind (WP.imp (show WP _ _ _ from q) (fun f ρ q => ?_) fun _ _ e => e)
        cases f with
        | nx => obtain ⟨j, hj, q⟩ := q; exact ih j ρ (by omega) q
        | ct => obtain ⟨j, hj, q⟩ := q; exact ih j ρ (by omega) q
        | bk => first | exact q | exact ⟨q⟩ | exact (q).run
        | rt r => first | exact q | exact ⟨q⟩ | exact (q).run
  exact go n k ρ hk h0
end

/-! ### comprehensions -/
theorem compLoop_ok {turn : List Val → Val → Env → Out (List Val)} (I : List Val → List Val → Env → Prop)
    (h1 : ∀ x xs acc ρ, I (x :: xs) acc ρ → ∃ acc' ρ', turn acc x ρ = .ok acc' ρ' ∧ I xs acc' ρ') :
    ∀ (xs acc : List Val) (ρ : Env), I xs acc ρ → ∃ acc' ρ', compLoop turn xs acc ρ = .ok acc' ρ' ∧ I [] acc' ρ'
  | [], acc, ρ, h => ⟨acc, ρ, rfl, h⟩
  | x :: xs, acc, ρ, h => by
    obtain ⟨acc', ρ', e, q⟩ := h1 x xs acc ρ h
    obtain ⟨a2, ρ2, e2, q2⟩ := compLoop_ok I h1 xs acc' ρ' q
    refine ⟨a2, ρ2, ?_, q2⟩
    show (turn acc x ρ).bind (fun acc ρ => compLoop turn xs acc ρ) = _
    rw [e]
    exact e2
/-- a comprehension that changes nothing -/
theorem compLoop_map {turn : List Val → Val → Env → Out (List Val)} {ρ : Env} (f : Val → Option Val)
    (h1 : ∀ x acc, acc.length < big → turn acc x ρ = match f x with
      | some v => .ok (acc ++ [v]) ρ
      | none => .ok acc ρ) : ∀ (xs acc : List Val), acc.length + xs.length ≤ big → compLoop turn xs acc ρ = .ok (acc ++ xs.filterMap f) ρ
  | [], acc, _ => by rw [List.filterMap_nil, List.append_nil]; rfl
  | x :: xs, acc, h => by
    show (turn acc x ρ).bind (fun acc ρ => compLoop turn xs acc ρ) = _
    rw [List.length_cons] at h
    rw [h1 x acc (by omega)]
    cases e : f x with
    | none =>
      show compLoop turn xs acc ρ = _
      rw [compLoop_map f h1 xs acc (by omega), List.filterMap_cons, e]
    | some v =>
      show compLoop turn xs (acc ++ [v]) ρ = _
      rw [compLoop_map f h1 xs (acc ++ [v]) (by rw [List.length_append]; simp only [List.length_cons, List.length_nil]; omega), List.filterMap_cons, e, List.append_assoc]
      rfl

/-! ### defs -/
theorem callN_eq {T : Tab} {n : Nat} {f : Str} {c : FnCode} {args : List Val} (h : T.code f = some c) (hl : args.length = c.info.modes.length) :
    callN T (n + 1) f args = outFn c.info (evSs (T.ctx (callN T n)) T.fuel c.body (start c.info.modes args c.nloc)) := by
  show (match T.code f with
    | some c => runFn (T.ctx (callN T n)) T.fuel c args
    | none => .stuck) = _
  rw [h]
  show (if args.length = c.info.modes.length then _ else _) = _
  rw [if_pos hl]
theorem call_of {T : Tab} {n : Nat} {f : Str} {c : FnCode} {args : List Val} (P : CRes → Prop) (h : T.code f = some c) (hl : args.length = c.info.modes.length)
    (w : WP (evSs (T.ctx (callN T n)) T.fuel c.body (start c.info.modes args c.nloc)) (fun a ρ => P (outFn c.info (.ok a ρ))) fun e ρ => P (outFn c.info (.exc e ρ))) : P (callN T (n + 1) f args) := by
  rw [callN_eq h hl]
  cases e : evSs (T.ctx (callN T n)) T.fuel c.body (start c.info.modes args c.nloc) with
  | ok a ρ => rw [e] at w; first | exact w | exact ⟨w⟩ | exact (w).run
  | exc a ρ => rw [e] at w; first | exact w | exact ⟨w⟩ | exact (w).run
  | stuck => rw [e] at w; exact w.run.elim

/-! ### names -/
theorem lookS_nil {i : Nat} : lookS [] i = none := by unfold lookS; simp
theorem lookS_zero {p : Option (Val × Bool)} {ρ : Env} : lookS (p :: ρ) 0 = p := by unfold lookS; simp
theorem lookS_succ {p : Option (Val × Bool)} {ρ : Env} {i : Nat} : lookS (p :: ρ) (i + 1) = lookS ρ i := rfl
theorem asgT_nm {i : Nat} {v : Val} {o : Bool} {ρ : Env} : asgT (.nm i) v o ρ = if i < ρ.length then some (ρ.set i (some (v, o))) else none := rfl
theorem asgT_tp {ts : List Tg} {xs : List Val} {o : Bool} {ρ : Env} : asgT (.tp ts) (.tup xs) o ρ = asgTs ts xs ρ := rfl
theorem asgTs_nil {ρ : Env} : asgTs [] [] ρ = some ρ := rfl
theorem asgTs_cons {t : Tg} {ts : List Tg} {x : Val} {xs : List Val} {ρ : Env} : asgTs (t :: ts) (x :: xs) ρ = match asgT t x false ρ with
    | some ρ' => asgTs ts xs ρ'
    | none => none := rfl
theorem ctx_fn {T : Tab} {r : Str → List Val → CRes} {f : Str} : (T.ctx r).fn f = (T.code f).map (·.info) := rfl
theorem ctx_run {T : Tab} {r : Str → List Val → CRes} : (T.ctx r).run = r := rfl
theorem ctx_con {T : Tab} {r : Str → List Val → CRes} : (T.ctx r).con = T.con := rfl
theorem ctx_meth {T : Tab} {r : Str → List Val → CRes} : (T.ctx r).meth = T.meth := rfl
theorem ctx_prop {T : Tab} {r : Str → List Val → CRes} : (T.ctx r).prop = T.prop := rfl
theorem ctx_errs {T : Tab} {r : Str → List Val → CRes} : (T.ctx r).errs = T.errs := rfl
theorem ctx_fld {T : Tab} {r : Str → List Val → CRes} : (T.ctx r).fld = T.fld := rfl
end Rv

/-! Rv, plain part 2: a rule for each construct. -/
namespace Rv
open PySem

class HasFn (T : Tab) (f : Str) (c : outParam FnCode) : Prop where
  eq : T.code f = some c
class HasCon (T : Tab) (x : Str) (v : outParam Val) : Prop where
  eq : T.con x = some v
class HasMeth (T : Tab) (c m : Str) (f : outParam Str) : Prop where
  eq : T.meth c m = some f
class HasFld (T : Tab) (c f : Str) : Prop where
  eq : T.fld c f = true

/-- no error is let out -/
abbrev NoE : Val → Env → Prop := fun _ _ => False

/-! ### what is asked of results -/
def BOP (o : Operator) (x y : R) (ρ : Env) (Q : R → Env → Prop) : Prop := ∃ v w u, rd ρ x = some v ∧ rd ρ y = some w ∧ biop o v w = some u ∧ Q (mk u) ρ
def CMP (o : CmpOp) (x y : R) (ρ : Env) (Q : Bool → Env → Prop) : Prop := ∃ v w b, rd ρ x = some v ∧ rd ρ y = some w ∧ cmpv o v w = some b ∧ Q b ρ
def SUB (x y : R) (ρ : Env) (Q : R → Env → Prop) : Prop := ∃ v w u, rd ρ x = some v ∧ rd ρ y = some w ∧ subv v w = some u ∧ Q ⟨u, .fz⟩ ρ
def BIV (C : Ctx) (f : Str) (rs : List R) (ρ : Env) (Q : R → Env → Prop) : Prop := ∃ vs u, rds ρ rs = some vs ∧ biv C f vs = some u ∧ Q (mk u) ρ
def TRU (r : R) (ρ : Env) (Q : Bool → Env → Prop) : Prop := ∃ v b, rd ρ r = some v ∧ truth v = some b ∧ Q b ρ
def FZ (r : R) (ρ : Env) (Q : Val → Env → Prop) : Prop := ∃ v ρ', fzR r ρ = .ok v ρ' ∧ Q v ρ'
theorem ITE_tt {p q : Prop} (h : p) : ITE true p q := h
theorem ITE_ff {p q : Prop} (h : q) : ITE false p q := h
theorem ITE_of {b : Bool} {p q : Prop} (h1 : b = true → p) (h2 : b = false → q) : ITE b p q := by cases b; exact h2 rfl; exact h1 rfl
theorem ITE_nt {p q : Prop} (h : q) : ITE (!true) p q := h
theorem ITE_nf {p q : Prop} (h : p) : ITE (!false) p q := h
/-- a side condition that a look decides -/
def OKB (b : Bool) (p : Prop) : Prop := b = true ∧ p
theorem OKB_mk {b : Bool} {p : Prop} (h1 : b = true) (h2 : p) : OKB b p := ⟨h1, h2⟩
theorem ITE_yes {b : Bool} {p q : Prop} (h : b = true) (h1 : p) : ITE b p q := by subst h; exact h1
theorem ITE_no {b : Bool} {p q : Prop} (h : b = false) (h1 : q) : ITE b p q := by subst h; exact h1
theorem FZ_fz {v : Val} {ρ : Env} {Q : Val → Env → Prop} (h : Q v ρ) : FZ ⟨v, .fz⟩ ρ Q := ⟨v, ρ, rfl, h⟩
theorem FZ_fr {v : Val} {ρ : Env} {Q : Val → Env → Prop} (h : Q v ρ) : FZ ⟨v, .fr⟩ ρ Q := ⟨v, ρ, rfl, h⟩
theorem FZ_var {v w : Val} {o : Bool} {i : Nat} {ρ : Env} {Q : Val → Env → Prop} (e : lookS ρ i = some (w, o)) (h : Q w (ρ.set i (some (w, false)))) : FZ ⟨v, .var i⟩ ρ Q := by
  refine ⟨w, ρ.set i (some (w, false)), ?_, h⟩
  show (match lookS ρ i with
    | some (v, _) => Out.ok v (ρ.set i (some (v, false)))
    | none => .stuck) = _
  rw [e]

section
variable {C : Ctx} {n : Nat} {ρ : Env} {a b c e it lo hi : Ex} {es : List Ex} {Q : R → Env → Prop} {E : Val → Env → Prop} {f : Str}
theorem w_con {v : Val} (h : Q ⟨v, .fz⟩ ρ) : WP (evE C (.con v) ρ) Q E := ⟨h⟩
theorem w_fz {i : Nat} {v : Val} (e : lookS ρ i = some (v, false)) (h : Q ⟨v, .fz⟩ ρ) : WP (evE C (.loc i) ρ) Q E := by
  show WP (match lookS ρ i with
    | some (v, o) => Out.ok (⟨v, if o && v.mut then .var i else .fz⟩ : R) ρ
    | none => .stuck) Q E
  rw [e]
  first | exact h | exact ⟨h⟩ | exact (h).run
theorem w_im {i : Nat} {v : Val} {o : Bool} (e : lookS ρ i = some (v, o)) (m : v.mut = false) (h : Q ⟨v, .fz⟩ ρ) : WP (evE C (.loc i) ρ) Q E := by
  show WP (match lookS ρ i with
    | some (v, o) => Out.ok (⟨v, if o && v.mut then .var i else .fz⟩ : R) ρ
    | none => .stuck) Q E
  rw [e]
  refine ⟨?_⟩
  show Q (⟨v, if (o && v.mut) = true then .var i else .fz⟩ : R) ρ
  rw [m, Bool.and_false]
  exact h
theorem w_own {i : Nat} {v : Val} (e : lookS ρ i = some (v, true)) (m : v.mut = true) (h : Q ⟨v, .var i⟩ ρ) : WP (evE C (.loc i) ρ) Q E := by
  show WP (match lookS ρ i with
    | some (v, o) => Out.ok (⟨v, if o && v.mut then .var i else .fz⟩ : R) ρ
    | none => .stuck) Q E
  rw [e]
  refine ⟨?_⟩
  show Q (⟨v, if (true && v.mut) = true then .var i else .fz⟩ : R) ρ
  rw [m]
  exact h
theorem w_glo' {x : Str} {v : Val} (hx : C.con x = some v) (h : Q ⟨v, .fz⟩ ρ) : WP (evE C (.glo x) ρ) Q E := by
  show WP (Out.opt ((C.con x).map fun v => (⟨v, .fz⟩ : R)) ρ) Q E
  rw [hx]
  first | exact h | exact ⟨h⟩ | exact (h).run
theorem w_glo {T : Tab} {r : Str → List Val → CRes} {x : Str} {v : Val} [hx : HasCon T x v] (h : Q ⟨v, .fz⟩ ρ) : WP (evE (T.ctx r) (.glo x) ρ) Q E := w_glo' hx.eq h
theorem w_typ {t : String} (h : Q ⟨.typ t, .fz⟩ ρ) : WP (evE C (.typ t) ρ) Q E := ⟨h⟩
theorem w_bop {o : Operator} (h : WP (evE C a ρ) (fun x ρ => WP (evE C b ρ) (fun y ρ => BOP o x y ρ Q) E) E) : WP (evE C (.bop o a b) ρ) Q E := by
  refine WP.bind (h.imp (fun x ρ q => WP.bind (q.imp (fun y ρ q => ?_) fun _ _ e => e)) fun _ _ e => e)
  obtain ⟨v, w, u, h1, h2, h3, h4⟩ := q
  show WP (match rd ρ x, rd ρ y with
    | some v, some w => new (biop o v w) ρ
    | _, _ => .stuck) Q E
  rw [h1, h2]
  show WP (Out.opt ((biop o v w).map mk) ρ) Q E
  rw [h3]
  first | exact h4 | exact ⟨h4⟩ | exact (h4).run
theorem w_neg (h : WP (evE C a ρ) (fun x ρ => ∃ i, rd ρ x = some (.int i) ∧ Q ⟨.int (-i), .fz⟩ ρ) E) : WP (evE C (.neg a) ρ) Q E := by
  refine WP.bind (h.imp (fun x ρ q => ?_) fun _ _ e => e)
  obtain ⟨i, h1, h2⟩ := q
  show WP (match rd ρ x with
    | some (.int i) => Out.ok (⟨.int (-i), .fz⟩ : R) ρ
    | _ => .stuck) Q E
  rw [h1]
  first | exact h2 | exact ⟨h2⟩ | exact (h2).run
theorem tru_ok {r : R} {Q : Bool → Env → Prop} (h : TRU r ρ Q) : WP (tru r ρ) Q E := by
  obtain ⟨v, b, h1, h2, h3⟩ := h
  unfold tru
  rw [h1]
  show WP (Out.opt (truth v) ρ) Q E
  rw [h2]
  first | exact h3 | exact ⟨h3⟩ | exact (h3).run
theorem fz_okP {r : R} {Q : Val → Env → Prop} (h : FZ r ρ Q) : WP (fzR r ρ) Q E := by
  obtain ⟨v, ρ', h1, h3⟩ := h
  rw [h1]
  first | exact h3 | exact ⟨h3⟩ | exact (h3).run
theorem w_not (h : WP (evE C a ρ) (fun x ρ => TRU x ρ fun b ρ => Q ⟨.bl (!b), .fz⟩ ρ) E) : WP (evE C (.not a) ρ) Q E :=
  WP.bind (WP.bind (h.imp (fun x ρ q => (tru_ok q).imp (fun b ρ q => ⟨q⟩) fun _ _ e => e) fun _ _ e => e))
theorem w_and (h : WP (evE C a ρ) (fun x ρ => TRU x ρ fun k ρ => ITE k (WP (evE C b ρ) Q E) (Q x ρ)) E) : WP (evE C (.and a b) ρ) Q E := by
  refine WP.bind (h.imp (fun x ρ q => ?_) fun _ _ e => e)
  refine WP.bind (tru_ok ?_)
  obtain ⟨v, k, h1, h2, h3⟩ := q
  refine ⟨v, k, h1, h2, ?_⟩
  cases k <;> first | exact h3 | exact ⟨h3⟩ | exact (h3).run
theorem w_or (h : WP (evE C a ρ) (fun x ρ => TRU x ρ fun k ρ => ITE k (Q x ρ) (WP (evE C b ρ) Q E)) E) : WP (evE C (.or a b) ρ) Q E := by
  refine WP.bind (h.imp (fun x ρ q => ?_) fun _ _ e => e)
  refine WP.bind (tru_ok ?_)
  obtain ⟨v, k, h1, h2, h3⟩ := q
  refine ⟨v, k, h1, h2, ?_⟩
  cases k <;> first | exact h3 | exact ⟨h3⟩ | exact (h3).run
theorem w_cmp {o : CmpOp} (h : WP (evE C a ρ) (fun x ρ => WP (evE C b ρ) (fun y ρ => CMP o x y ρ fun b ρ => Q ⟨.bl b, .fz⟩ ρ) E) E) : WP (evE C (.cmp o a b) ρ) Q E := by
  refine WP.bind (h.imp (fun x ρ q => WP.bind (q.imp (fun y ρ q => ?_) fun _ _ e => e)) fun _ _ e => e)
  obtain ⟨v, w, u, h1, h2, h3, h4⟩ := q
  show WP (match rd ρ x, rd ρ y with
    | some v, some w => Out.opt ((cmpv o v w).map fun b => (⟨.bl b, .fz⟩ : R)) ρ
    | _, _ => .stuck) Q E
  rw [h1, h2]
  show WP (Out.opt ((cmpv o v w).map fun b => (⟨.bl b, .fz⟩ : R)) ρ) Q E
  rw [h3]
  first | exact h4 | exact ⟨h4⟩ | exact (h4).run
theorem w_chn {o p : CmpOp} (h : WP (evE C a ρ) (fun x ρ => WP (evE C b ρ) (fun y ρ => CMP o x y ρ fun k ρ => ITE k (WP (evE C c ρ) (fun z ρ2 => CMP p y z ρ2 fun b ρ => Q ⟨.bl b, .fz⟩ ρ) E) (Q ⟨.bl false, .fz⟩ ρ)) E) E) : WP (evE C (.chn o p a b c) ρ) Q E := by
  refine WP.bind (h.imp (fun x ρ q => WP.bind (q.imp (fun y ρ q => ?_) fun _ _ e => e)) fun _ _ e => e)
  obtain ⟨v, w, k, h1, h2, h3, h4⟩ := q
  show WP (match rd ρ x, rd ρ y with
    | some v, some w => match cmpv o v w with
      | some true => (evE C c ρ).bind fun z ρ => match rd ρ y, rd ρ z with
        | some w, some u => Out.opt ((cmpv p w u).map fun b => (⟨.bl b, .fz⟩ : R)) ρ
        | _, _ => .stuck
      | some false => .ok ⟨.bl false, .fz⟩ ρ
      | none => .stuck
    | _, _ => .stuck) Q E
  rw [h1, h2]
  show WP (match cmpv o v w with
      | some true => (evE C c ρ).bind fun z ρ => match rd ρ y, rd ρ z with
        | some w, some u => Out.opt ((cmpv p w u).map fun b => (⟨.bl b, .fz⟩ : R)) ρ
        | _, _ => .stuck
      | some false => .ok ⟨.bl false, .fz⟩ ρ
      | none => .stuck) Q E
  rw [h3]
  cases k with
  | false => first | exact h4 | exact ⟨h4⟩ | exact (h4).run
  | true =>
    refine WP.bind (WP.imp h4 (fun z ρ q => ?_) fun _ _ e => e)
    obtain ⟨v2, w2, b, e1, e2, e3, e4⟩ := q
    rw [e1, e2]
    show WP (Out.opt ((cmpv p v2 w2).map fun b => (⟨.bl b, .fz⟩ : R)) ρ) Q E
    rw [e3]
    first | exact e4 | exact ⟨e4⟩ | exact (e4).run
theorem w_ite (h : WP (evE C c ρ) (fun x ρ => TRU x ρ fun k ρ => ITE k (WP (evE C a ρ) Q E) (WP (evE C b ρ) Q E)) E) : WP (evE C (.ite c a b) ρ) Q E := by
  refine WP.bind (WP.bind (h.imp (fun x ρ q => tru_ok ?_) fun _ _ e => e))
  obtain ⟨v, k, h1, h2, h3⟩ := q
  refine ⟨v, k, h1, h2, ?_⟩
  cases k <;> exact h3
theorem w_sub (h : WP (evE C a ρ) (fun x ρ => WP (evE C b ρ) (fun y ρ => SUB x y ρ Q) E) E) : WP (evE C (.sub a b) ρ) Q E := by
  refine WP.bind (h.imp (fun x ρ q => WP.bind (q.imp (fun y ρ q => ?_) fun _ _ e => e)) fun _ _ e => e)
  obtain ⟨v, w, u, h1, h2, h3, h4⟩ := q
  show WP (match rd ρ x, rd ρ y with
    | some v, some w => Out.opt ((subv v w).map fun u => (⟨u, .fz⟩ : R)) ρ
    | _, _ => .stuck) Q E
  rw [h1, h2]
  show WP (Out.opt ((subv v w).map fun u => (⟨u, .fz⟩ : R)) ρ) Q E
  rw [h3]
  first | exact h4 | exact ⟨h4⟩ | exact (h4).run
theorem w_slc {l h' : Bool} (h : WP (evE C a ρ) (fun x ρ => WP (evE C lo ρ) (fun y ρ => ∃ p, (rd ρ y).bind (part l) = some p ∧ WP (evE C hi ρ) (fun z ρ => ∃ q v u, (rd ρ z).bind (part h') = some q ∧ rd ρ x = some v ∧ slcv v p q = some u ∧ Q (mk u) ρ) E) E) E) : WP (evE C (.slc a l lo h' hi) ρ) Q E := by
  refine WP.bind (h.imp (fun x ρ q => WP.bind (q.imp (fun y ρ q => ?_) fun _ _ e => e)) fun _ _ e => e)
  obtain ⟨p, h1, h2⟩ := q
  show WP (match (rd ρ y).bind (part l) with
    | some p => (evE C hi ρ).bind fun z ρ => match (rd ρ z).bind (part h') with
      | some q => match rd ρ x with
        | some v => new (slcv v p q) ρ
        | none => .stuck
      | none => .stuck
    | none => .stuck) Q E
  rw [h1]
  refine WP.bind (WP.imp h2 (fun z ρ q => ?_) fun _ _ e => e)
  obtain ⟨q, v, u, e1, e2, e3, e4⟩ := q
  rw [e1]
  show WP (match rd ρ x with
        | some v => new (slcv v p q) ρ
        | none => .stuck) Q E
  rw [e2]
  show WP (Out.opt ((slcv v p q).map mk) ρ) Q E
  rw [e3]
  first | exact e4 | exact ⟨e4⟩ | exact (e4).run

/-! lists of expressions -/
theorem fzs_nil {Q : List Val → Env → Prop} (h : Q [] ρ) : WP (fzEs C [] ρ) Q E := ⟨h⟩
theorem fzs_cons {Q : List Val → Env → Prop} (h : WP (evE C e ρ) (fun r ρ => FZ r ρ fun v ρ => WP (fzEs C es ρ) (fun vs ρ => Q (v :: vs) ρ) E) E) : WP (fzEs C (e :: es) ρ) Q E := by
  refine WP.bind (h.imp (fun r ρ q => WP.bind ?_) fun _ _ e => e)
  refine (fz_okP q).imp (fun v ρ q => WP.bind ?_) fun _ _ e => e
  exact q.imp (fun _ _ q => ⟨q⟩) fun _ _ e => e
theorem evs_nil {Q : List R → Env → Prop} (h : Q [] ρ) : WP (evEs C [] ρ) Q E := ⟨h⟩
theorem evs_cons {Q : List R → Env → Prop} (h : WP (evE C e ρ) (fun r ρ => WP (evEs C es ρ) (fun rs ρ => Q (r :: rs) ρ) E) E) : WP (evEs C (e :: es) ρ) Q E :=
  WP.bind (h.imp (fun r ρ q => WP.bind (q.imp (fun _ _ q => ⟨q⟩) fun _ _ e => e)) fun _ _ e => e)
theorem evts_nil {Q : Bool → Env → Prop} (h : Q true ρ) : WP (evTs C [] ρ) Q E := ⟨h⟩
theorem evts_cons {Q : Bool → Env → Prop} (h : WP (evE C e ρ) (fun r ρ => TRU r ρ fun k ρ => ITE k (WP (evTs C es ρ) Q E) (Q false ρ)) E) : WP (evTs C (e :: es) ρ) Q E := by
  refine WP.bind (WP.bind (h.imp (fun x ρ q => tru_ok ?_) fun _ _ e => e))
  obtain ⟨v, k, h1, h2, h3⟩ := q
  refine ⟨v, k, h1, h2, ?_⟩
  cases k <;> first | exact h3 | exact ⟨h3⟩ | exact (h3).run
theorem args_nil {ms : List Bool} {Q : List Val × List Nat → Env → Prop} (h : Q ([], []) ρ) : WP (evArgs C ms [] ρ) Q E := by cases ms <;> first | exact h | exact ⟨h⟩ | exact (h).run
theorem args_fz {ms : List Bool} {Q : List Val × List Nat → Env → Prop} (h : WP (evE C e ρ) (fun r ρ => FZ r ρ fun v ρ => WP (evArgs C ms es ρ) (fun p ρ => Q (v :: p.1, p.2) ρ) E) E) : WP (evArgs C (false :: ms) (e :: es) ρ) Q E := by
  show WP ((evE C e ρ).bind fun r ρ => (fzR r ρ).bind fun v ρ => (evArgs C ms es ρ).bind fun p ρ => .ok (v :: p.1, p.2) ρ) Q E
  refine WP.bind (h.imp (fun r ρ q => WP.bind ?_) fun _ _ e => e)
  refine (fz_okP q).imp (fun v ρ q => WP.bind ?_) fun _ _ e => e
  exact q.imp (fun _ _ q => ⟨q⟩) fun _ _ e => e
def TAKE (i : Nat) (ρ : Env) (Q : Val → Env → Prop) : Prop := ∃ v, lookS ρ i = some (v, true) ∧ v.mut = true ∧ Q v (ρ.set i none)
theorem take_mk {i : Nat} {v : Val} {Q : Val → Env → Prop} (h1 : lookS ρ i = some (v, true)) (h2 : v.mut = true) (h : Q v (ρ.set i none)) : TAKE i ρ Q := ⟨v, h1, h2, h⟩
theorem args_own {ms : List Bool} {i : Nat} {v0 : Val × Bool} {Q : List Val × List Nat → Env → Prop} (e0 : lookS ρ i = some v0) (h : WP (evArgs C ms es ρ) (fun p ρ => TAKE i ρ fun v ρ => Q (v :: p.1, i :: p.2) ρ) E) : WP (evArgs C (true :: ms) (.loc i :: es) ρ) Q E := by
  show WP (match lookS ρ i with
        | some _ => (evArgs C ms es ρ).bind fun p ρ => (take ρ i).bind fun v ρ => .ok (v :: p.1, i :: p.2) ρ
        | none => .stuck) Q E
  rw [e0]
  refine WP.bind (h.imp (fun p ρ q => ?_) fun _ _ e => e)
  obtain ⟨v, h1, h2, h3⟩ := q
  refine WP.bind ?_
  unfold take
  rw [h1]
  show WP (if v.mut = true then Out.ok v (ρ.set i none) else .stuck) _ E
  rw [if_pos h2]
  refine ⟨⟨?_⟩⟩
  first | exact h3 | exact ⟨h3⟩ | exact (h3).run
theorem w_tup (h : WP (fzEs C es ρ) (fun vs ρ => OKB (decide (vs.length ≤ big)) (Q ⟨.tup vs, .fz⟩ ρ)) E) : WP (evE C (.tup es) ρ) Q E := by
  refine WP.bind (h.imp (fun vs ρ q => ?_) fun _ _ e => e)
  rw [if_pos (of_decide_eq_true q.1)]
  first | exact q.2 | exact ⟨q.2⟩ | exact (q.2).run
theorem w_lst (h : WP (fzEs C es ρ) (fun vs ρ => OKB (decide (vs.length ≤ big)) (Q ⟨.lst vs, .fr⟩ ρ)) E) : WP (evE C (.lst es) ρ) Q E := by
  refine WP.bind (h.imp (fun vs ρ q => ?_) fun _ _ e => e)
  rw [if_pos (of_decide_eq_true q.1)]
  first | exact q.2 | exact ⟨q.2⟩ | exact (q.2).run
theorem w_star2 (h : WP (evE C a ρ) (fun x ρ => ∃ v vs, rd ρ x = some v ∧ itemsV v = some vs ∧ WP (evE C b ρ) (fun y ρ => ∃ w ws, rd ρ y = some w ∧ itemsV w = some ws ∧ vs.length + ws.length ≤ big ∧ Q ⟨.tup (vs ++ ws), .fz⟩ ρ) E) E) : WP (evE C (.star2 a b) ρ) Q E := by
  refine WP.bind (h.imp (fun x ρ q => ?_) fun _ _ e => e)
  obtain ⟨v, vs, h1, h2, h3⟩ := q
  show WP (match (rd ρ x).bind itemsV with
    | some vs => (evE C b ρ).bind fun y ρ => match (rd ρ y).bind itemsV with
      | some ws => if vs.length + ws.length ≤ big then Out.ok (⟨.tup (vs ++ ws), .fz⟩ : R) ρ else .stuck
      | none => .stuck
    | none => .stuck) Q E
  rw [h1, Option.bind_some, h2]
  refine WP.bind (WP.imp h3 (fun y ρ q => ?_) fun _ _ e => e)
  obtain ⟨w, ws, e1, e2, e3, e4⟩ := q
  rw [e1, Option.bind_some, e2]
  show WP (if vs.length + ws.length ≤ big then Out.ok (⟨.tup (vs ++ ws), .fz⟩ : R) ρ else .stuck) Q E
  rw [if_pos e3]
  first | exact e4 | exact ⟨e4⟩ | exact (e4).run
theorem w_callB (h : WP (evEs C es ρ) (fun rs ρ => BIV C f rs ρ Q) E) : WP (evE C (.callB f es) ρ) Q E := by
  refine WP.bind (h.imp (fun rs ρ q => ?_) fun _ _ e => e)
  obtain ⟨vs, u, h1, h2, h3⟩ := q
  show WP (match rds ρ rs with
    | some vs => new (biv C f vs) ρ
    | none => .stuck) Q E
  rw [h1]
  show WP (Out.opt ((biv C f vs).map mk) ρ) Q E
  rw [h2]
  first | exact h3 | exact ⟨h3⟩ | exact (h3).run
/-- a call: its values are there -/
def CALL (C : Ctx) (f : Str) (I : FnI) (self : List Val) (p : List Val × List Nat) (ρ : Env) (Q : R → Env → Prop) (E : Val → Env → Prop) : Prop := WP (callV C I f self p ρ) Q E
theorem CALL_ok {I : FnI} {self : List Val} {p : List Val × List Nat} {args : List Val} {v : Val} {fins : List Val} {ρ' : Env} (ha : self ++ p.1 ++ I.dflt.drop (I.dflt.length + (self ++ p.1).length - I.modes.length) = args) (hl : args.length = I.modes.length) (hr : C.run f args = .ok v fins) (hg : giveBack ρ p.2 fins = some ρ')
    (h : Q ⟨v, if I.fresh && v.mut then .fr else .fz⟩ ρ') : CALL C f I self p ρ Q E := by
  unfold CALL callV
  rw [ha, if_pos hl, hr]
  show WP (match giveBack ρ p.2 fins with
    | some ρ' => Out.ok (⟨v, if I.fresh && v.mut then .fr else .fz⟩ : R) ρ'
    | none => .stuck) Q E
  rw [hg]
  first | exact h | exact ⟨h⟩ | exact (h).run
theorem CALL_exc {I : FnI} {self : List Val} {p : List Val × List Nat} {args : List Val} {v : Val} {fins : List Val} {ρ' : Env} (ha : self ++ p.1 ++ I.dflt.drop (I.dflt.length + (self ++ p.1).length - I.modes.length) = args) (hl : args.length = I.modes.length) (hr : C.run f args = .exc v fins) (hg : giveBack ρ p.2 fins = some ρ')
    (h : E v ρ') : CALL C f I self p ρ Q E := by
  unfold CALL callV
  rw [ha, if_pos hl, hr]
  show WP (match giveBack ρ p.2 fins with
    | some ρ' => Out.exc v ρ'
    | none => .stuck) Q E
  rw [hg]
  first | exact h | exact ⟨h⟩ | exact (h).run
theorem w_callF' {I : FnI} (hI : C.fn f = some I) (h : WP (evArgs C I.modes es ρ) (fun p ρ => CALL C f I [] p ρ Q E) E) : WP (evE C (.callF f es) ρ) Q E := by
  show WP (match C.fn f with
    | some I => (evArgs C I.modes es ρ).bind fun p ρ => callV C I f [] p ρ
    | none => .stuck) Q E
  rw [hI]
  exact WP.bind h
theorem w_callF {T : Tab} {r : Str → List Val → CRes} {f : Str} {c : FnCode} {ms : List Bool} [hf : HasFn T f c] (hm : c.info.modes = ms) (h : WP (evArgs (T.ctx r) ms es ρ) (fun p ρ => CALL (T.ctx r) f c.info [] p ρ Q E) E) : WP (evE (T.ctx r) (.callF f es) ρ) Q E := by
  subst hm
  exact w_callF' (by rw [ctx_fn, hf.eq]; rfl) h
theorem w_callC {T : Tab} {r : Str → List Val → CRes} {k f : Str} {c : FnCode} {ms : List Bool} [hm : HasMeth T k "__init__" f] [hf : HasFn T f c] (he : c.info.modes.drop 1 = ms) (h : WP (evArgs (T.ctx r) ms es ρ) (fun p ρ => WP (makeV (T.ctx r) c.info k f p ρ) Q E) E) : WP (evE (T.ctx r) (.callC k es) ρ) Q E := by
  subst he
  show WP (match T.meth k "__init__" with
    | some f => match (T.ctx r).fn f with
      | some I => (evArgs (T.ctx r) (I.modes.drop 1) es ρ).bind fun p ρ => makeV (T.ctx r) I k f p ρ
      | none => .stuck
    | none => .stuck) Q E
  rw [hm.eq]
  show WP (match (T.code f).map (·.info) with
      | some I => (evArgs (T.ctx r) (I.modes.drop 1) es ρ).bind fun p ρ => makeV (T.ctx r) I k f p ρ
      | none => .stuck) Q E
  rw [hf.eq]
  exact WP.bind h
theorem make_okP {I : FnI} {k : Str} {p : List Val × List Nat} {args : List Val} {v : Val} {fins : List Val} {ρ' : Env} (h1 : I.modes.head? = some true) (h2 : I.fresh = false) (ha : .ins k [] [] :: p.1 ++ I.dflt.drop (I.dflt.length + p.1.length + 1 - I.modes.length) = args) (hl : args.length = I.modes.length) (hr : C.run f args = .ok .non (v :: fins)) (hg : giveBack ρ p.2 fins = some ρ')
    (h : Q ⟨v, .fr⟩ ρ') : WP (makeV C I k f p ρ) Q E := by
  unfold makeV
  rw [ha, if_pos ⟨h1, h2, hl⟩, hr]
  show WP (match giveBack ρ p.2 fins with
    | some ρ' => Out.ok (⟨v, .fr⟩ : R) ρ'
    | none => .stuck) Q E
  rw [hg]
  first | exact h | exact ⟨h⟩ | exact (h).run
theorem make_exc {I : FnI} {k : Str} {p : List Val × List Nat} {args : List Val} {x v : Val} {fins : List Val} {ρ' : Env} (h1 : I.modes.head? = some true) (h2 : I.fresh = false) (ha : .ins k [] [] :: p.1 ++ I.dflt.drop (I.dflt.length + p.1.length + 1 - I.modes.length) = args) (hl : args.length = I.modes.length) (hr : C.run f args = .exc x (v :: fins)) (hg : giveBack ρ p.2 fins = some ρ')
    (h : E x ρ') : WP (makeV C I k f p ρ) Q E := by
  unfold makeV
  rw [ha, if_pos ⟨h1, h2, hl⟩, hr]
  show WP (match giveBack ρ p.2 fins with
    | some ρ' => Out.exc x ρ'
    | none => .stuck) Q E
  rw [hg]
  first | exact h | exact ⟨h⟩ | exact (h).run
theorem w_callO {T : Tab} {r : Str → List Val → CRes} {f : Str} {k : Str} (h : WP (evE (T.ctx r) a ρ) (fun x ρ => FZ x ρ fun v ρ => ∃ k ns vs f c, v = .ins k ns vs ∧ ns.contains "__call__" = false ∧ T.meth k "__call__" = some f ∧ T.code f = some c ∧ c.info.modes.head? = some false ∧ WP (evArgs (T.ctx r) (c.info.modes.drop 1) es ρ) (fun p ρ => CALL (T.ctx r) f c.info [v] p ρ Q E) E) E) : WP (evE (T.ctx r) (.callO a es) ρ) Q E := by
  refine WP.bind (WP.bind (h.imp (fun x ρ q => fz_okP ?_) fun _ _ e => e))
  obtain ⟨v, ρ1, h1, k, ns, vs, f, c, e, h2, h3, h4, h5, h6⟩ := q
  refine ⟨v, ρ1, h1, ?_⟩
  have hs : selfV (T.ctx r) "__call__" v = some (f, c.info) := by
    subst e
    simp only [selfV, h2, ctx_meth, h3, ctx_fn, h4, Option.map_some, h5, if_true, if_false, Bool.false_eq_true]
  dsimp only
  rw [hs]
  exact WP.bind h6
theorem w_meth {T : Tab} {r : Str → List Val → CRes} {m : Str} (h : WP (evE (T.ctx r) a ρ) (fun x ρ => FZ x ρ fun v ρ => ∃ k ns vs f c, v = .ins k ns vs ∧ ns.contains m = false ∧ T.meth k m = some f ∧ T.code f = some c ∧ c.info.modes.head? = some false ∧ WP (evArgs (T.ctx r) (c.info.modes.drop 1) es ρ) (fun p ρ => CALL (T.ctx r) f c.info [v] p ρ Q E) E) E) : WP (evE (T.ctx r) (.meth a m es) ρ) Q E := by
  refine WP.bind (WP.bind (h.imp (fun x ρ q => fz_okP ?_) fun _ _ e => e))
  obtain ⟨v, ρ1, h1, k, ns, vs, f, c, e, h2, h3, h4, h5, h6⟩ := q
  refine ⟨v, ρ1, h1, ?_⟩
  have hs : selfV (T.ctx r) m v = some (f, c.info) := by
    subst e
    simp only [selfV, h2, ctx_meth, h3, ctx_fn, h4, Option.map_some, h5, if_true, if_false, Bool.false_eq_true]
  dsimp only
  rw [hs]
  exact WP.bind h6
theorem w_lm {i : Nat} {m : Str} {xs0 : List Val} (e0 : lookS ρ i = some (.lst xs0, true)) (h : WP (fzEs C es ρ) (fun vs ρ => ∃ xs ys u, lookS ρ i = some (.lst xs, true) ∧ lmeth m xs vs = some (ys, u) ∧ Q ⟨u, .fz⟩ (ρ.set i (some (.lst ys, true)))) E) : WP (evE C (.lm i m es) ρ) Q E := by
  show WP (match lookS ρ i with
    | some (.lst _, true) => (fzEs C es ρ).bind fun vs ρ => lmV i m vs ρ
    | _ => .stuck) Q E
  rw [e0]
  refine WP.bind (h.imp (fun vs ρ q => ?_) fun _ _ e => e)
  obtain ⟨xs, ys, u, h1, h2, h3⟩ := q
  unfold lmV
  rw [h1]
  show WP (match lmeth m xs vs with
    | some (ys, u) => Out.ok (⟨u, .fz⟩ : R) (ρ.set i (some (.lst ys, true)))
    | none => .stuck) Q E
  rw [h2]
  first | exact h3 | exact ⟨h3⟩ | exact (h3).run
theorem w_attr {T : Tab} {r : Str → List Val → CRes} {f : Str} (h : WP (evE (T.ctx r) a ρ) (fun x ρ => ∃ k ns vs v, rd ρ x = some (.ins k ns vs) ∧ T.fld k f = true ∧ List.lookup f (ns.zip vs) = some v ∧ Q ⟨v, .fz⟩ ρ) E) : WP (evE (T.ctx r) (.attr a f) ρ) Q E := by
  refine WP.bind (h.imp (fun x ρ q => ?_) fun _ _ e => e)
  obtain ⟨k, ns, vs, v, h1, h2, h3, h4⟩ := q
  show WP (match rd ρ x with
    | some (.ins c ns vs) => if T.fld c f = true then Out.opt ((List.lookup f (ns.zip vs)).map fun v => (⟨v, .fz⟩ : R)) ρ else .stuck
    | _ => .stuck) Q E
  rw [h1]
  show WP (if T.fld k f = true then Out.opt ((List.lookup f (ns.zip vs)).map fun v => (⟨v, .fz⟩ : R)) ρ else .stuck) Q E
  rw [if_pos h2, h3]
  first | exact h4 | exact ⟨h4⟩ | exact (h4).run
/-- what is walked: its items -/
def ITEMS (r : R) (ρ : Env) (Q : List Val → Env → Prop) : Prop := FZ r ρ fun v ρ => ∃ xs, itemsV v = some xs ∧ Q xs ρ
theorem items_ok {r : R} {Q : List Val → Env → Prop} (h : ITEMS r ρ Q) : WP ((fzR r ρ).bind fun v ρ => Out.opt (itemsV v) ρ) Q E := by
  refine WP.bind ((fz_okP h).imp (fun v ρ q => ?_) fun _ _ e => e)
  obtain ⟨xs, h1, h2⟩ := q
  rw [h1]
  first | exact h2 | exact ⟨h2⟩ | exact (h2).run
theorem w_items {Q : List Val → Env → Prop} (h : WP (evE C e ρ) (fun r ρ => ITEMS r ρ Q) E) : WP (evI C e ρ) Q E := by
  unfold evI
  refine WP.bind ?_
  refine WP.bind (h.imp (fun r ρ q => ?_) fun _ _ e => e)
  obtain ⟨v, ρ1, h1, xs, h2, h3⟩ := q
  rw [h1]
  refine ⟨?_⟩
  show WP (Out.opt (itemsV v) ρ1) Q E
  rw [h2]
  exact ⟨h3⟩
theorem w_evT {Q : Bool → Env → Prop} (h : WP (evE C e ρ) (fun r ρ => TRU r ρ Q) E) : WP (evT C e ρ) Q E :=
  WP.bind (h.imp (fun r ρ q => tru_ok q) fun _ _ e => e)
/-- a comprehension: what holds ahead of each turn, by what is left and what there is so far -/
theorem w_comp {elt : Ex} {tg : Tg} {ifs : List Ex} {own : List Nat} (I : List Val → List Val → Env → Prop)
    (h0 : WP (evE C it ρ) (fun r ρ => ITEMS r ρ fun xs ρ => I xs [] ρ) E)
    (h1 : ∀ x xs acc ρ1, I (x :: xs) acc ρ1 → ∃ ρ2, asgT tg x false (wipeE ρ1 own) = some ρ2 ∧ WP (evTs C ifs ρ2) (fun k ρ3 => ITE k (WP (evE C elt ρ3) (fun r ρ4 => FZ r ρ4 fun v ρ5 => acc.length < big ∧ I xs (acc ++ [v]) (unwipe ρ1 ρ5 own)) NoE) (I xs acc (unwipe ρ1 ρ3 own))) NoE)
    (h2 : ∀ acc ρ, I [] acc ρ → Q ⟨.lst acc, .fr⟩ ρ) : WP (evE C (.comp elt tg it ifs own) ρ) Q E := by
  refine WP.bind (WP.bind ?_)
  refine WP.bind (h0.imp (fun r ρ q => ?_) fun _ _ e => e)
  obtain ⟨v, ρ1, e1, xs, e2, q⟩ := q
  rw [e1]
  refine ⟨?_⟩
  show WP (Out.opt (itemsV v) ρ1) _ E
  rw [e2]
  refine ⟨?_⟩
  show WP ((compLoop _ xs [] ρ1).shut.bind _) Q E
  refine (fun z => ?_ : _ → _) (compLoop_ok (turn := fun acc x ρ1 => match asgT tg x false (wipeE ρ1 own) with
        | some ρ2 => (evTs C ifs ρ2).bind fun k ρ3 => if k = true then (evE C elt ρ3).bind fun r ρ4 => (fzR r ρ4).bind fun v ρ5 => push acc v (unwipe ρ1 ρ5 own) else .ok acc (unwipe ρ1 ρ3 own)
        | none => .stuck) I (fun x xs acc ρ1 hI => ?_) xs [] ρ1 q)
  · obtain ⟨acc, ρ', e, q⟩ := z
    exact WP.of_eq (y := Out.ok (⟨.lst acc, .fr⟩ : R) ρ') (congrArg (fun z => (Out.shut z).bind fun vs ρ' => Out.ok (⟨.lst vs, .fr⟩ : R) ρ') e) ⟨h2 acc ρ' q⟩
  · obtain ⟨ρ2, e3, w⟩ := h1 x xs acc ρ1 hI
    rw [e3]
    show ∃ acc' ρ', ((evTs C ifs ρ2).bind fun k ρ3 => if k = true then (evE C elt ρ3).bind fun r ρ4 => (fzR r ρ4).bind fun v ρ5 => push acc v (unwipe ρ1 ρ5 own) else .ok acc (unwipe ρ1 ρ3 own)) = .ok acc' ρ' ∧ I xs acc' ρ'
    obtain ⟨k, ρ3, e4, w⟩ := w.to_ok
    rw [e4]
    show ∃ acc' ρ', (if k = true then (evE C elt ρ3).bind fun r ρ4 => (fzR r ρ4).bind fun v ρ5 => push acc v (unwipe ρ1 ρ5 own) else .ok acc (unwipe ρ1 ρ3 own)) = .ok acc' ρ' ∧ I xs acc' ρ'
    cases k with
    | false => exact ⟨acc, _, rfl, w⟩
    | true =>
      rw [if_pos rfl]
      obtain ⟨r, ρ4, e5, v, ρ5, e6, hb, w⟩ := (show WP _ _ NoE from w).to_ok
      rw [e5]
      show ∃ acc' ρ', ((fzR r ρ4).bind fun v ρ5 => push acc v (unwipe ρ1 ρ5 own)) = .ok acc' ρ' ∧ I xs acc' ρ'
      rw [e6]
      show ∃ acc' ρ', push acc v (unwipe ρ1 ρ5 own) = .ok acc' ρ' ∧ I xs acc' ρ'
      unfold push
      rw [if_pos hb]
      exact ⟨_, _, rfl, w⟩
/-- a comprehension that changes nothing, over typed items -/
theorem w_compP {α : Type} {elt : Ex} {tg : Tg} {ifs : List Ex} {own : List Nat} {as : List α} {g f : α → Val} {p : α → Bool} {ρ1 : Env}
    (h0 : WP (evE C it ρ) (fun r ρ => ITEMS r ρ fun xs ρ => xs = as.map g ∧ ρ = ρ1) E) (hb : as.length ≤ big)
    (h1 : ∀ a ∈ as, ∃ ρ2, asgT tg (g a) false (wipeE ρ1 own) = some ρ2 ∧ WP (evTs C ifs ρ2) (fun k ρ3 => k = p a ∧ ITE k (WP (evE C elt ρ3) (fun r ρ4 => FZ r ρ4 fun v ρ5 => v = f a ∧ unwipe ρ1 ρ5 own = ρ1) NoE) (unwipe ρ1 ρ3 own = ρ1)) NoE)
    (h2 : Q ⟨.lst ((as.filter p).map f), .fr⟩ ρ1) : WP (evE C (.comp elt tg it ifs own) ρ) Q E := by
  refine w_comp (fun xs acc ρ => ρ = ρ1 ∧ acc.length + xs.length ≤ big ∧ ∃ bs : List α, (∀ b ∈ bs, b ∈ as) ∧ xs = bs.map g ∧ acc ++ (bs.filter p).map f = (as.filter p).map f) ?_ ?_ ?_
  · refine h0.imp (fun r ρ q => ?_) fun _ _ e => e
    obtain ⟨v, ρ', e1, xs, e2, e3, e4⟩ := q
    exact ⟨v, ρ', e1, xs, e2, e4, by rw [e3, List.length_map, List.length_nil]; omega, as, fun _ h => h, e3, rfl⟩
  · intro x xs acc ρ' ⟨e, hl, bs, hs, e1, e2⟩
    subst e
    cases bs with
    | nil => cases e1
    | cons b bs =>
      cases e1
      obtain ⟨ρ2, e3, w⟩ := h1 b (hs b List.mem_cons_self)
      refine ⟨ρ2, e3, w.imp (fun k ρ3 q => ?_) fun _ _ e => e⟩
      obtain ⟨e4, q⟩ := q
      rw [List.length_cons] at hl
      cases k with
      | true =>
        refine WP.imp (show WP _ _ NoE from q) (fun r ρ4 q => ?_) fun _ _ e => e
        obtain ⟨v, ρ5, e5, e6, e7⟩ := q
        refine ⟨v, ρ5, e5, by omega, e7, by rw [List.length_append, List.length_singleton]; omega, bs, fun z hz => hs z (List.mem_cons_of_mem _ hz), rfl, ?_⟩
        rw [← e2, List.filter_cons, ← e4, if_pos rfl, List.map_cons, List.append_assoc, e6]
        rfl
      | false =>
        refine ⟨q, by omega, bs, fun z hz => hs z (List.mem_cons_of_mem _ hz), rfl, ?_⟩
        rw [← e2, List.filter_cons, ← e4, if_neg Bool.false_ne_true]
  · intro acc ρ' ⟨e, _, bs, _, e1, e2⟩
    subst e
    cases bs with
    | cons b bs => cases e1
    | nil =>
      have e2 : acc ++ [] = _ := e2
      rw [List.append_nil] at e2
      rw [e2]
      exact h2
/-- .. without a test -/
theorem w_compM {α : Type} {elt : Ex} {tg : Tg} {own : List Nat} {as : List α} {g f : α → Val} {ρ1 : Env}
    (h0 : WP (evE C it ρ) (fun r ρ => ITEMS r ρ fun xs ρ => xs = as.map g ∧ ρ = ρ1) E) (hb : as.length ≤ big)
    (h1 : ∀ a ∈ as, ∃ ρ2, asgT tg (g a) false (wipeE ρ1 own) = some ρ2 ∧ WP (evE C elt ρ2) (fun r ρ4 => FZ r ρ4 fun v ρ5 => v = f a ∧ unwipe ρ1 ρ5 own = ρ1) NoE)
    (h2 : Q ⟨.lst (as.map f), .fr⟩ ρ1) : WP (evE C (.comp elt tg it [] own) ρ) Q E := by
  refine w_compP (p := fun _ => true) h0 hb (fun a ha => ?_) (by rw [List.filter_eq_self.mpr fun _ _ => rfl]; exact h2)
  obtain ⟨ρ2, e, w⟩ := h1 a ha
  exact ⟨ρ2, e, evts_nil ⟨rfl, ITE_tt w⟩⟩
theorem w_rng1 (h : WP (evE C a ρ) (fun x ρ => ∃ v xs, rd ρ x = some v ∧ rangeV (.int 0) v = some xs ∧ Q ⟨.lst xs, .fz⟩ ρ) E) : WP (evE C (.rng1 a) ρ) Q E := by
  refine WP.bind (h.imp (fun x ρ q => ?_) fun _ _ e => e)
  obtain ⟨v, xs, h1, h2, h3⟩ := q
  rw [h1]
  show WP (Out.opt ((rangeV (.int 0) v).map fun xs => (⟨.lst xs, .fz⟩ : R)) ρ) Q E
  rw [h2]
  first | exact h3 | exact ⟨h3⟩ | exact (h3).run
theorem w_rng2 (h : WP (evE C a ρ) (fun x ρ => WP (evE C b ρ) (fun y ρ => ∃ v w xs, rd ρ x = some v ∧ rd ρ y = some w ∧ rangeV v w = some xs ∧ Q ⟨.lst xs, .fz⟩ ρ) E) E) : WP (evE C (.rng2 a b) ρ) Q E := by
  refine WP.bind (h.imp (fun x ρ q => WP.bind (q.imp (fun y ρ q => ?_) fun _ _ e => e)) fun _ _ e => e)
  obtain ⟨v, w, xs, h1, h2, h3, h4⟩ := q
  rw [h1, h2]
  show WP (Out.opt ((rangeV v w).map fun xs => (⟨.lst xs, .fz⟩ : R)) ρ) Q E
  rw [h3]
  first | exact h4 | exact ⟨h4⟩ | exact (h4).run
theorem w_lrg1 (h : WP (evE C a ρ) (fun x ρ => ∃ v xs, rd ρ x = some v ∧ rangeL (.int 0) v = some xs ∧ Q ⟨.lst xs, .fr⟩ ρ) E) : WP (evE C (.lrg1 a) ρ) Q E := by
  refine WP.bind (h.imp (fun x ρ q => ?_) fun _ _ e => e)
  obtain ⟨v, xs, h1, h2, h3⟩ := q
  rw [h1]
  show WP (Out.opt ((rangeL (.int 0) v).map fun xs => (⟨.lst xs, .fr⟩ : R)) ρ) Q E
  rw [h2]
  first | exact h3 | exact ⟨h3⟩ | exact (h3).run
theorem w_lrg2 (h : WP (evE C a ρ) (fun x ρ => WP (evE C b ρ) (fun y ρ => ∃ v w xs, rd ρ x = some v ∧ rd ρ y = some w ∧ rangeL v w = some xs ∧ Q ⟨.lst xs, .fr⟩ ρ) E) E) : WP (evE C (.lrg2 a b) ρ) Q E := by
  refine WP.bind (h.imp (fun x ρ q => WP.bind (q.imp (fun y ρ q => ?_) fun _ _ e => e)) fun _ _ e => e)
  obtain ⟨v, w, xs, h1, h2, h3, h4⟩ := q
  rw [h1, h2]
  show WP (Out.opt ((rangeL v w).map fun xs => (⟨.lst xs, .fr⟩ : R)) ρ) Q E
  rw [h3]
  first | exact h4 | exact ⟨h4⟩ | exact (h4).run
theorem w_zip2 (h : WP (evE C a ρ) (fun x ρ => FZ x ρ fun v ρ => WP (evE C b ρ) (fun y ρ => FZ y ρ fun w ρ => ∃ xs, zipW v w = some xs ∧ Q ⟨.lst xs, .fz⟩ ρ) E) E) : WP (evE C (.zip2 a b) ρ) Q E := by
  refine WP.bind (h.imp (fun x ρ q => WP.bind ((fz_okP q).imp (fun v ρ q => WP.bind (q.imp (fun y ρ q => WP.bind ((fz_okP q).imp (fun w ρ q => ?_) fun _ _ e => e)) fun _ _ e => e)) fun _ _ e => e)) fun _ _ e => e)
  obtain ⟨xs, h1, h2⟩ := q
  rw [h1]
  first | exact h2 | exact ⟨h2⟩ | exact (h2).run
theorem w_enm (h : WP (evE C a ρ) (fun x ρ => FZ x ρ fun v ρ => ∃ xs, seqV v = some xs ∧ Q ⟨.lst (enumV 0 xs), .fz⟩ ρ) E) : WP (evE C (.enm a) ρ) Q E := by
  refine WP.bind (h.imp (fun x ρ q => WP.bind ((fz_okP q).imp (fun v ρ q => ?_) fun _ _ e => e)) fun _ _ e => e)
  obtain ⟨xs, h1, h2⟩ := q
  rw [h1]
  first | exact h2 | exact ⟨h2⟩ | exact (h2).run
end

/-! ### statements -/
/-- what a name's store does with a result -/
def KEEP (r : R) (ρ : Env) (Q : Val × Bool → Env → Prop) : Prop := ∃ p ρ', keep r ρ = .ok p ρ' ∧ Q p ρ'
theorem KEEP_fz {v : Val} {ρ : Env} {Q : Val × Bool → Env → Prop} (h : Q (v, false) ρ) : KEEP ⟨v, .fz⟩ ρ Q := ⟨(v, false), ρ, rfl, h⟩
theorem KEEP_fr {v : Val} {ρ : Env} {Q : Val × Bool → Env → Prop} (h : Q (v, v.mut) ρ) : KEEP ⟨v, .fr⟩ ρ Q := ⟨(v, v.mut), ρ, rfl, h⟩
theorem KEEP_var {v w : Val} {o : Bool} {i : Nat} {ρ : Env} {Q : Val × Bool → Env → Prop} (e : lookS ρ i = some (w, o)) (h : Q (w, false) (ρ.set i (some (w, false)))) : KEEP ⟨v, .var i⟩ ρ Q := by
  refine ⟨(w, false), ρ.set i (some (w, false)), ?_, h⟩
  show (match lookS ρ i with
    | some (v, _) => Out.ok v (ρ.set i (some (v, false)))
    | none => .stuck).bind _ = _
  rw [e]
  rfl
section
variable {C : Ctx} {n : Nat} {ρ : Env} {a b c e it : Ex} {es : List Ex} {Q : Fl → Env → Prop} {E : Val → Env → Prop} {f : Str} {ss : List Sx}
theorem keep_okP {r : R} {Q : Val × Bool → Env → Prop} (h : KEEP r ρ Q) : WP (keep r ρ) Q E := by
  obtain ⟨p, ρ', h1, h2⟩ := h
  rw [h1]
  first | exact h2 | exact ⟨h2⟩ | exact (h2).run
theorem nx_nx {Q : Fl → Env → Prop} (h : WP (evSs C n ss ρ) Q E) : Nx C n ss Q E .nx ρ := h
theorem nx_rt {r : R} (h : Q (.rt r) ρ) : Nx C n ss Q E (.rt r) ρ := h
theorem nx_bk (h : Q .bk ρ) : Nx C n ss Q E .bk ρ := h
theorem nx_ct (h : Q .ct ρ) : Nx C n ss Q E .ct ρ := h
theorem ws_expr (h : WP (evE C e ρ) (fun _ ρ => Q .nx ρ) E) : WP (evS C n (.expr e) ρ) Q E := WP.bind (h.imp (fun _ _ q => ⟨q⟩) fun _ _ e => e)
theorem ws_asg {i : Nat} (h : WP (evE C e ρ) (fun r ρ => KEEP r ρ fun p ρ => OKB (decide (i < ρ.length)) (Q .nx (ρ.set i (some p)))) E) : WP (evS C n (.asg (.nm i) e) ρ) Q E := by
  refine WP.bind (h.imp (fun r ρ q => WP.bind ((keep_okP q).imp (fun p ρ q => ?_) fun _ _ e => e)) fun _ _ e => e)
  unfold setS
  rw [if_pos (of_decide_eq_true q.1)]
  first | exact q.2 | exact ⟨q.2⟩ | exact (q.2).run
theorem ws_asgT {ts : List Tg} (h : WP (evE C e ρ) (fun r ρ => FZ r ρ fun v ρ => ∃ ρ', asgT (.tp ts) v false ρ = some ρ' ∧ Q .nx ρ') E) : WP (evS C n (.asg (.tp ts) e) ρ) Q E := by
  refine WP.bind (h.imp (fun r ρ q => WP.bind ((fz_okP q).imp (fun v ρ q => ?_) fun _ _ e => e)) fun _ _ e => e)
  obtain ⟨ρ', h1, h2⟩ := q
  rw [h1]
  first | exact h2 | exact ⟨h2⟩ | exact (h2).run
theorem ws_par {i j : Nat} (h : WP (evE C a ρ) (fun x ρ => WP (evE C b ρ) (fun y ρ => KEEP x ρ fun p ρ => KEEP y ρ fun q ρ => OKB (decide (i < ρ.length ∧ j < ρ.length)) (Q .nx ((ρ.set i (some p)).set j (some q)))) E) E) : WP (evS C n (.par i j a b) ρ) Q E := by
  refine WP.bind (h.imp (fun x ρ q => WP.bind (q.imp (fun y ρ q => WP.bind ((keep_okP q).imp (fun p ρ q => WP.bind ((keep_okP q).imp (fun r ρ q => ?_) fun _ _ e => e)) fun _ _ e => e)) fun _ _ e => e)) fun _ _ e => e)
  rw [if_pos (of_decide_eq_true q.1)]
  first | exact q.2 | exact ⟨q.2⟩ | exact (q.2).run
theorem ws_par3 {i j l : Nat} (h : WP (evE C a ρ) (fun x ρ => WP (evE C b ρ) (fun y ρ => WP (evE C c ρ) (fun z ρ => KEEP x ρ fun p ρ => KEEP y ρ fun q ρ => KEEP z ρ fun r ρ => OKB (decide (i < ρ.length ∧ j < ρ.length ∧ l < ρ.length)) (Q .nx (((ρ.set i (some p)).set j (some q)).set l (some r)))) E) E) E) : WP (evS C n (.par3 i j l a b c) ρ) Q E := by
  refine WP.bind (h.imp (fun x ρ q => WP.bind (q.imp (fun y ρ q => WP.bind (q.imp (fun z ρ q => WP.bind ((keep_okP q).imp (fun p ρ q => WP.bind ((keep_okP q).imp (fun r ρ q => WP.bind ((keep_okP q).imp (fun s ρ q => ?_) fun _ _ e => e)) fun _ _ e => e)) fun _ _ e => e)) fun _ _ e => e)) fun _ _ e => e)) fun _ _ e => e)
  rw [if_pos (of_decide_eq_true q.1)]
  first | exact q.2 | exact ⟨q.2⟩ | exact (q.2).run
def SETS (i : Nat) (m : Int) (v : Val) (ρ : Env) (Q : Fl → Env → Prop) : Prop := ∃ xs j, lookS ρ i = some (.lst xs, true) ∧ L2.ixN xs.length m = some j ∧ Q .nx (ρ.set i (some (.lst (xs.set j v), true)))
theorem sets_mk {i : Nat} {m : Int} {v : Val} {ρ : Env} {Q : Fl → Env → Prop} {xs : List Val} {j : Nat} (h1 : lookS ρ i = some (.lst xs, true)) (h2 : L2.ixN xs.length m = some j) (h : Q .nx (ρ.set i (some (.lst (xs.set j v), true)))) : SETS i m v ρ Q := ⟨xs, j, h1, h2, h⟩
/-- a place that is written -/
theorem ws_setSubL {i : Nat} {m : Int} (h : WP (evE C e ρ) (fun r ρ => FZ r ρ fun v ρ => SETS i m v ρ Q) E) : WP (evS C n (.setSub i (.con (.int m)) e) ρ) Q E := by
  show WP ((evE C e ρ).bind fun r ρ => (fzR r ρ).bind fun v ρ => match lookS ρ i with
    | some _ => (evE C (.con (.int m)) ρ).bind fun y ρ => match rd ρ y with
      | some w => setSubV i w v ρ
      | none => .stuck
    | none => .stuck) Q E
  refine WP.bind (h.imp (fun r ρ q => WP.bind ((fz_okP q).imp (fun v ρ q => ?_) fun _ _ e => e)) fun _ _ e => e)
  obtain ⟨xs, j, h2, h3, h4⟩ := q
  rw [h2]
  show WP (setSubV i (.int m) v ρ) Q E
  unfold setSubV
  rw [h2]
  show WP (match L2.ixN xs.length m with
      | some j => Out.ok Fl.nx (ρ.set i (some (.lst (xs.set j v), true)))
      | none => .stuck) Q E
  rw [h3]
  first | exact h4 | exact ⟨h4⟩ | exact (h4).run
theorem ws_setAttr {T : Tab} {r : Str → List Val → CRes} {i : Nat} {f : Str} (h : WP (evE (T.ctx r) e ρ) (fun x ρ => FZ x ρ fun v ρ => ∃ k ns vs p, lookS ρ i = some (.ins k ns vs, true) ∧ putF f v ns vs = some p ∧ T.fld k f = true ∧ ns.length < 1000 ∧ Q .nx (ρ.set i (some (.ins k p.1 p.2, true)))) E) : WP (evS (T.ctx r) n (.setAttr i f e) ρ) Q E := by
  refine WP.bind (h.imp (fun x ρ q => WP.bind ((fz_okP q).imp (fun v ρ q => ?_) fun _ _ e => e)) fun _ _ e => e)
  obtain ⟨k, ns, vs, p, h1, h2, h3, h4, h5⟩ := q
  unfold setAttrV
  rw [h1]
  show WP (match putF f v ns vs with
    | some p => if (T.fld k f && decide (ns.length < 1000)) = true then Out.ok Fl.nx (ρ.set i (some (.ins k p.1 p.2, true))) else .stuck
    | none => .stuck) Q E
  rw [h2]
  show WP (if (T.fld k f && decide (ns.length < 1000)) = true then Out.ok Fl.nx (ρ.set i (some (.ins k p.1 p.2, true))) else .stuck) Q E
  rw [if_pos (by rw [h3, Bool.true_and]; exact decide_eq_true h4)]
  first | exact h5 | exact ⟨h5⟩ | exact (h5).run
def AUG (i : Nat) (o : Operator) (y : R) (ρ : Env) (Q : Fl → Env → Prop) : Prop := ∃ v b w u, lookS ρ i = some (v, b) ∧ rd ρ y = some w ∧ augv o v w = some u ∧ Q .nx (ρ.set i (some (u, false)))
theorem ws_aug {i : Nat} {o : Operator} {p0 : Val × Bool} (e0 : lookS ρ i = some p0) (h : WP (evE C e ρ) (fun y ρ => AUG i o y ρ Q) E) : WP (evS C n (.aug i o e) ρ) Q E := by
  show WP (match lookS ρ i with
    | some _ => (evE C e ρ).bind fun y ρ => match rd ρ y with
      | some w => augS i o w ρ
      | none => .stuck
    | none => .stuck) Q E
  rw [e0]
  refine WP.bind (h.imp (fun y ρ q => ?_) fun _ _ e => e)
  obtain ⟨v, b, w, u, h1, h2, h3, h5⟩ := q
  rw [h2]
  show WP (augS i o w ρ) Q E
  unfold augS
  rw [h1]
  show WP (match augv o v w with
    | some u => setS ρ i (u, false)
    | none => .stuck) Q E
  rw [h3]
  show WP (setS ρ i (u, false)) Q E
  unfold setS
  have h4 : i < ρ.length := by
    unfold lookS at h1
    cases q : ρ[i]? with
    | none => rw [q] at h1; cases h1
    | some u => exact (List.getElem?_eq_some_iff.mp q).1
  rw [if_pos h4]
  first | exact h5 | exact ⟨h5⟩ | exact (h5).run
section
variable {i : Nat} {v b : Int} {k : Bool}
theorem aug_add (h : lookS ρ i = some (.int v, k)) (q : Q .nx (ρ.set i (some (.int (v + b), false)))) : AUG i .Add ⟨.int b, .fz⟩ ρ Q := ⟨.int v, k, .int b, _, h, rfl, rfl, q⟩
theorem aug_sub (h : lookS ρ i = some (.int v, k)) (q : Q .nx (ρ.set i (some (.int (v - b), false)))) : AUG i .Sub ⟨.int b, .fz⟩ ρ Q := ⟨.int v, k, .int b, _, h, rfl, rfl, q⟩
theorem aug_mul (h : lookS ρ i = some (.int v, k)) (m : mulOk v b = true) (q : Q .nx (ρ.set i (some (.int (v * b), false)))) : AUG i .Mult ⟨.int b, .fz⟩ ρ Q := ⟨.int v, k, .int b, .int (v * b), h, rfl, if_pos m, q⟩
theorem aug_div (h : lookS ρ i = some (.int v, k)) (m : divOk b = true) (q : Q .nx (ρ.set i (some (.int (v / b), false)))) : AUG i .FloorDiv ⟨.int b, .fz⟩ ρ Q := ⟨.int v, k, .int b, .int (v / b), h, rfl, if_pos m, q⟩
end
theorem ws_ret (h : WP (evE C e ρ) (fun r ρ => Q (.rt r) ρ) E) : WP (evS C n (.ret e) ρ) Q E := WP.bind (h.imp (fun _ _ q => ⟨q⟩) fun _ _ e => e)
theorem ws_ite {x y : List Sx} (h : WP (evE C c ρ) (fun r ρ => TRU r ρ fun k ρ => ITE k (WP (evSs C n x ρ) Q E) (WP (evSs C n y ρ) Q E)) E) : WP (evS C n (.ite c x y) ρ) Q E := by
  refine wp_ite (w_evT (h.imp (fun r ρ q => ?_) fun _ _ e => e))
  obtain ⟨v, k, h1, h2, h3⟩ := q
  exact ⟨v, k, h1, h2, h3⟩
theorem ws_brk (h : Q .bk ρ) : WP (evS C n .brk ρ) Q E := ⟨h⟩
theorem ws_cont (h : Q .ct ρ) : WP (evS C n .cont ρ) Q E := ⟨h⟩
theorem ws_pass (h : Q .nx ρ) : WP (evS C n .pass ρ) Q E := ⟨h⟩
theorem ws_raise {T : Tab} {r : Str → List Val → CRes} {k : Str} {fs : List Str} (he : T.errs k = some fs) (h : WP (fzEs (T.ctx r) es ρ) (fun vs ρ => fs.length = vs.length ∧ E (.ins k ("tag" :: fs) (.str k :: vs)) ρ) E) : WP (evS (T.ctx r) n (.raise k es) ρ) Q E := by
  show WP (match T.errs k with
    | some fs => (fzEs (T.ctx r) es ρ).bind fun vs ρ => if fs.length = vs.length then .exc (.ins k ("tag" :: fs) (.str k :: vs)) ρ else .stuck
    | none => .stuck) Q E
  rw [he]
  refine WP.bind (h.imp (fun vs ρ q => ?_) fun _ _ e => e)
  rw [if_pos q.1]
  first | exact q.2 | exact ⟨q.2⟩ | exact (q.2).run
end

/-! ### the end of a def -/
theorem out_fz {I : FnI} {v : Val} {ρ : Env} {fins : List Val} (h1 : I.fresh = false) (h2 : finsOf ρ 0 I.modes = some fins) : outFn I (.ok (.rt ⟨v, .fz⟩) ρ) = .ok v fins := by
  show retFn I ⟨v, .fz⟩ ρ = _
  unfold retFn
  rw [h1, if_neg Bool.false_ne_true]
  show (match finsOf ρ 0 I.modes with
      | some fins => CRes.ok v fins
      | none => .stuck) = _
  rw [h2]
theorem out_fr {I : FnI} {v : Val} {ρ : Env} {fins : List Val} (h1 : I.fresh = false) (h2 : finsOf ρ 0 I.modes = some fins) : outFn I (.ok (.rt ⟨v, .fr⟩) ρ) = .ok v fins := by
  show retFn I ⟨v, .fr⟩ ρ = _
  unfold retFn
  rw [h1, if_neg Bool.false_ne_true]
  show (match finsOf ρ 0 I.modes with
      | some fins => CRes.ok v fins
      | none => .stuck) = _
  rw [h2]
theorem out_nx {I : FnI} {ρ : Env} {fins : List Val} (h2 : finsOf ρ 0 I.modes = some fins) : outFn I (.ok .nx ρ) = .ok .non fins := by
  show (match finsOf ρ 0 I.modes with
      | some fins => CRes.ok .non fins
      | none => .stuck) = _
  rw [h2]
theorem out_exc {I : FnI} {x : Val} {ρ : Env} {fins : List Val} (h2 : finsOf ρ 0 I.modes = some fins) : outFn I (.exc x ρ) = .exc x fins := by
  show (match finsOf ρ 0 I.modes with
      | some fins => CRes.exc x fins
      | none => .stuck) = _
  rw [h2]
end Rv

/-! Rv, plain part 3: typed rules. -/
namespace Rv
open PySem

section
variable {C : Ctx} {n : Nat} {ρ : Env} {Q : R → Env → Prop} {B : Bool → Env → Prop} {i j : Int} {x y : R} {v w u : Val} {s t : Src}
theorem mk_int : mk (.int i) = ⟨.int i, .fz⟩ := rfl
theorem mk_bl {b : Bool} : mk (.bl b) = ⟨.bl b, .fz⟩ := rfl
theorem mk_tup {xs : List Val} : mk (.tup xs) = ⟨.tup xs, .fz⟩ := rfl
theorem mk_lst {xs : List Val} : mk (.lst xs) = ⟨.lst xs, .fr⟩ := rfl
theorem mk_str {z : Str} : mk (.str z) = ⟨.str z, .fz⟩ := rfl
theorem bop_add (h : Q ⟨.int (i + j), .fz⟩ ρ) : BOP .Add ⟨.int i, .fz⟩ ⟨.int j, .fz⟩ ρ Q := ⟨_, _, _, rfl, rfl, rfl, h⟩
theorem bop_sub (h : Q ⟨.int (i - j), .fz⟩ ρ) : BOP .Sub ⟨.int i, .fz⟩ ⟨.int j, .fz⟩ ρ Q := ⟨_, _, _, rfl, rfl, rfl, h⟩
theorem bop_mul (hm : mulOk i j = true) (h : Q ⟨.int (i * j), .fz⟩ ρ) : BOP .Mult ⟨.int i, .fz⟩ ⟨.int j, .fz⟩ ρ Q := ⟨_, _, .int (i * j), rfl, rfl, if_pos hm, h⟩
theorem bop_div (hm : divOk j = true) (h : Q ⟨.int (i / j), .fz⟩ ρ) : BOP .FloorDiv ⟨.int i, .fz⟩ ⟨.int j, .fz⟩ ρ Q := ⟨_, _, .int (i / j), rfl, rfl, if_pos hm, h⟩
theorem bop_mod (hm : 0 < j) (h : Q ⟨.int (i % j), .fz⟩ ρ) : BOP .Mod ⟨.int i, .fz⟩ ⟨.int j, .fz⟩ ρ Q := ⟨_, _, .int (i % j), rfl, rfl, if_pos hm, h⟩
theorem bop_pow (hm : 0 ≤ j ∧ j ≤ 1000000 ∧ i.natAbs < 2 ^ 64) (h : Q ⟨.int (i ^ j.toNat), .fz⟩ ρ) : BOP .Pow ⟨.int i, .fz⟩ ⟨.int j, .fz⟩ ρ Q := ⟨_, _, .int (i ^ j.toNat), rfl, rfl, if_pos hm, h⟩
theorem bop_tup {xs ys : List Val} (hm : xs.length + ys.length ≤ big) (h : Q ⟨.tup (xs ++ ys), .fz⟩ ρ) : BOP .Add ⟨.tup xs, .fz⟩ ⟨.tup ys, .fz⟩ ρ Q := ⟨_, _, .tup (xs ++ ys), rfl, rfl, if_pos hm, h⟩
theorem bop_of {o : Operator} (h1 : rd ρ x = some v) (h2 : rd ρ y = some w) (h3 : biop o v w = some u) (h : Q (mk u) ρ) : BOP o x y ρ Q := ⟨v, w, u, h1, h2, h3, h⟩
theorem eqv_int : eqv (.int i) (.int j) = some (decide (i = j)) := by
  show (if ((PyData.int i).canLay0 && (PyData.int j).canLay0 && decide (min (PyData.int i).depth (PyData.int j).depth ≤ 64)) = true then some (PyData.eqv (.int i) (.int j)) else none) = _
  rw [if_pos (by simp [PyData.canLay0, PyData.depth])]
  simp only [PyData.eqv]
  by_cases h : i = j <;> simp [h]
theorem cmp_eq (h : B (decide (i = j)) ρ) : CMP .Eq ⟨.int i, .fz⟩ ⟨.int j, .fz⟩ ρ B := ⟨_, _, _, rfl, rfl, eqv_int, h⟩
theorem cmp_ne (h : B (!decide (i = j)) ρ) : CMP .NotEq ⟨.int i, .fz⟩ ⟨.int j, .fz⟩ ρ B := ⟨_, _, !decide (i = j), rfl, rfl, by show (eqv (.int i) (.int j)).map not = _; rw [eqv_int]; rfl, h⟩
theorem cmp_lt (h : B (decide (i < j)) ρ) : CMP .Lt ⟨.int i, .fz⟩ ⟨.int j, .fz⟩ ρ B := ⟨_, _, _, rfl, rfl, rfl, h⟩
theorem cmp_le (h : B (decide (i ≤ j)) ρ) : CMP .LtE ⟨.int i, .fz⟩ ⟨.int j, .fz⟩ ρ B := ⟨_, _, _, rfl, rfl, rfl, h⟩
theorem cmp_gt (h : B (decide (j < i)) ρ) : CMP .Gt ⟨.int i, .fz⟩ ⟨.int j, .fz⟩ ρ B := ⟨_, _, _, rfl, rfl, rfl, h⟩
theorem cmp_ge (h : B (decide (j ≤ i)) ρ) : CMP .GtE ⟨.int i, .fz⟩ ⟨.int j, .fz⟩ ρ B := ⟨_, _, _, rfl, rfl, rfl, h⟩
theorem cmp_of {o : CmpOp} {b : Bool} (h1 : rd ρ x = some v) (h2 : rd ρ y = some w) (h3 : cmpv o v w = some b) (h : B b ρ) : CMP o x y ρ B := ⟨v, w, b, h1, h2, h3, h⟩
theorem sub_of (h1 : rd ρ x = some v) (h2 : rd ρ y = some w) (h3 : subv v w = some u) (h : Q ⟨u, .fz⟩ ρ) : SUB x y ρ Q := ⟨v, w, u, h1, h2, h3, h⟩
theorem atI_nat {xs : List Val} {k : Nat} (h : xs[k]? = some v) : atI xs (k : Int) = some v := by
  have hk : k < xs.length := (List.getElem?_eq_some_iff.mp h).1
  unfold atI L2.ixN
  rw [if_pos (Int.natCast_nonneg k), if_pos (by omega)]
  exact h
theorem atI_int {xs : List Val} (h0 : 0 ≤ i) (h : xs[i.toNat]? = some v) : atI xs i = some v := by
  have := atI_nat h
  rwa [Int.toNat_of_nonneg h0] at this
theorem tru_bl {b : Bool} (h : B b ρ) : TRU ⟨.bl b, .fz⟩ ρ B := ⟨_, _, rfl, rfl, h⟩
theorem tru_of {b : Bool} (h1 : rd ρ x = some v) (h2 : truth v = some b) (h : B b ρ) : TRU x ρ B := ⟨v, b, h1, h2, h⟩
theorem items_fz {xs : List Val} {Q : List Val → Env → Prop} (hi : itemsV v = some xs) (h : Q xs ρ) : ITEMS ⟨v, .fz⟩ ρ Q := ⟨v, ρ, rfl, xs, hi, h⟩
theorem items_fr {xs : List Val} {Q : List Val → Env → Prop} (hi : itemsV v = some xs) (h : Q xs ρ) : ITEMS ⟨v, .fr⟩ ρ Q := ⟨v, ρ, rfl, xs, hi, h⟩
theorem items_var {k : Nat} {o : Bool} {xs : List Val} {Q : List Val → Env → Prop} (e : lookS ρ k = some (w, o)) (hi : itemsV w = some xs) (h : Q xs (ρ.set k (some (w, false)))) : ITEMS ⟨v, .var k⟩ ρ Q := FZ_var e ⟨xs, hi, h⟩
/-! built-ins -/
theorem biv_of {f : Str} {g : List Val → Option Val} {rs : List R} {vs : List Val} (hf : biv C f = g) (h1 : rds ρ rs = some vs) (h2 : g vs = some u) (h : Q (mk u) ρ) : BIV C f rs ρ Q := ⟨vs, u, h1, by rw [hf]; exact h2, h⟩
theorem biv_Bl {f : Str} {g : List Val → Option Val} {rs : List R} {vs : List Val} {b : Bool} (hf : biv C f = g) (h1 : rds ρ rs = some vs) (h2 : g vs = some (.bl b)) (h : Q ⟨.bl b, .fz⟩ ρ) : BIV C f rs ρ Q := biv_of hf h1 h2 h
theorem biv_In {f : Str} {g : List Val → Option Val} {rs : List R} {vs : List Val} {b : Int} (hf : biv C f = g) (h1 : rds ρ rs = some vs) (h2 : g vs = some (.int b)) (h : Q ⟨.int b, .fz⟩ ρ) : BIV C f rs ρ Q := biv_of hf h1 h2 h
theorem biv_Tu {f : Str} {g : List Val → Option Val} {rs : List R} {vs : List Val} {b : List Val} (hf : biv C f = g) (h1 : rds ρ rs = some vs) (h2 : g vs = some (.tup b)) (h : Q ⟨.tup b, .fz⟩ ρ) : BIV C f rs ρ Q := biv_of hf h1 h2 h
theorem biv_Ls {f : Str} {g : List Val → Option Val} {rs : List R} {vs : List Val} {b : List Val} (hf : biv C f = g) (h1 : rds ρ rs = some vs) (h2 : g vs = some (.lst b)) (h : Q ⟨.lst b, .fr⟩ ρ) : BIV C f rs ρ Q := biv_of hf h1 h2 h
theorem biv_len : biv C "len" = lenV := by unfold biv; rw [if_pos rfl]
theorem biv_isi : biv C "isinstance" = isiW C := by unfold biv; rw [if_neg (by decide +kernel), if_pos rfl]
theorem biv_all : biv C "all" = allV := by unfold biv; rw [if_neg (by decide +kernel), if_neg (by decide +kernel), if_pos rfl]
theorem biv_any : biv C "any" = anyV := by unfold biv; iterate 3 rw [if_neg (by decide +kernel)]
                                           rw [if_pos rfl]
theorem biv_sum : biv C "sum" = sumV := by unfold biv; iterate 4 rw [if_neg (by decide +kernel)]
                                           rw [if_pos rfl]
theorem biv_sorted : biv C "sorted" = sortV := by unfold biv; iterate 5 rw [if_neg (by decide +kernel)]
                                                  rw [if_pos rfl]
theorem biv_tuple : biv C "tuple" = tupV := by unfold biv; iterate 6 rw [if_neg (by decide +kernel)]
                                               rw [if_pos rfl]
theorem biv_list : biv C "list" = lstV := by unfold biv; iterate 7 rw [if_neg (by decide +kernel)]
                                             rw [if_pos rfl]
theorem biv_int : biv C "int" = intV := by unfold biv; iterate 8 rw [if_neg (by decide +kernel)]
                                           rw [if_pos rfl]
theorem biv_abs : biv C "abs" = absV := by unfold biv; iterate 9 rw [if_neg (by decide +kernel)]
                                           rw [if_pos rfl]
theorem biv_min : biv C "min" = minV := by unfold biv; iterate 10 rw [if_neg (by decide +kernel)]
                                           rw [if_pos rfl]
theorem biv_max : biv C "max" = maxV := by unfold biv; iterate 11 rw [if_neg (by decide +kernel)]
                                           rw [if_pos rfl]
theorem intsOf_map : ∀ ns : List Int, intsOf (ns.map .int) = some ns
  | [] => rfl
  | n :: ns => by show (intsOf (ns.map .int)).map (n :: ·) = _; rw [intsOf_map ns]; rfl
theorem allBl_map : ∀ bs : List Bool, allBl (bs.map .bl) = some bs
  | [] => rfl
  | n :: ns => by show (allBl (ns.map .bl)).map (n :: ·) = _; rw [allBl_map ns]; rfl
theorem allBl_map' {α : Type} (f : α → Bool) (as : List α) : allBl (as.map fun a => .bl (f a)) = some (as.map f) := by
  have := allBl_map (as.map f)
  rwa [List.map_map] at this
theorem intsOf_map' {α : Type} (f : α → Int) (as : List α) : intsOf (as.map fun a => .int (f a)) = some (as.map f) := by
  have := intsOf_map (as.map f)
  rwa [List.map_map] at this
theorem allV_map {α : Type} (f : α → Bool) (as : List α) : allV [.lst (as.map fun a => .bl (f a))] = some (.bl (as.all f)) := by
  show (allBl (as.map fun a => .bl (f a))).map _ = _
  rw [allBl_map']
  show some (Val.bl ((as.map f).all id)) = _
  rw [List.all_map]
  rfl
theorem anyV_map {α : Type} (f : α → Bool) (as : List α) : anyV [.lst (as.map fun a => .bl (f a))] = some (.bl (as.any f)) := by
  show (allBl (as.map fun a => .bl (f a))).map _ = _
  rw [allBl_map']
  show some (Val.bl ((as.map f).any id)) = _
  rw [List.any_map]
  rfl
theorem sumV_map {α : Type} (f : α → Int) (as : List α) : sumV [.lst (as.map fun a => .int (f a))] = some (.int (as.map f).sum) := by
  show (intsOf (as.map fun a => .int (f a))).map _ = _
  rw [intsOf_map']
  rfl
end
theorem numI_eq : ∀ (n i : Nat) (lo : Int), numI i n lo = (List.range n).map fun k : Nat => Val.int (lo + ((i + k : Nat) : Int))
  | 0, _, _ => rfl
  | n + 1, i, lo => by
    show Val.int (lo + i) :: numI (i + 1) n lo = _
    rw [numI_eq n (i + 1) lo, List.range_succ_eq_map, List.map_cons, List.map_map]
    refine congr (congrArg List.cons (by rw [Nat.add_zero])) ?_
    refine List.map_congr_left fun k _ => ?_
    show Val.int _ = Val.int _
    congr 3
    simp only [Nat.succ_eq_add_one]
    omega
/-- range(n) -/
theorem range_nat {n : Nat} (h : n ≤ 1000000) : rangeV (.int 0) (.int n) = some ((List.range n).map fun k : Nat => .int k) := by
  show (if inI62 0 && inI62 n then some (numI 0 ((n : Int) - 0).toNat 0) else none) = _
  rw [if_pos (by unfold inI62; simp only [Bool.and_eq_true, decide_eq_true_eq]; omega), numI_eq]
  congr 1
  rw [show ((n : Int) - 0).toNat = n by omega]
  refine List.map_congr_left fun k _ => ?_
  show Val.int _ = Val.int _
  congr 1
  omega
theorem rangeL_nat {n : Nat} (h : n ≤ 1000000) : rangeL (.int 0) (.int n) = some ((List.range n).map fun k : Nat => .int k) := by
  have h1 := range_nat h
  unfold rangeV at h1
  unfold rangeL
  dsimp only at h1 ⊢
  split at h1
  · rename_i hc
    rw [hc, Bool.true_and, if_pos (by rw [decide_eq_true_eq]; show ((n : Int) - 0).toNat ≤ 16777216; omega)]
    exact h1
  · cases h1
theorem enumV_eq : ∀ (xs : List Val) (n : Nat), enumV n xs = (xs.zipIdx n).map fun p : Val × Nat => .tup [.int p.2, p.1]
  | [], _ => rfl
  | x :: xs, n => by
    show Val.tup [.int n, x] :: enumV (n + 1) xs = _
    rw [enumV_eq xs (n + 1), List.zipIdx_cons]
    rfl
theorem zipV_map {α β : Type} (f : α → Val) (g : β → Val) : ∀ (xs : List α) (ys : List β), zipV (xs.map f) (ys.map g) = (xs.zip ys).map fun p => .tup [f p.1, g p.2]
  | [], _ => rfl
  | _ :: _, [] => rfl
  | x :: xs, y :: ys => by show _ :: zipV _ _ = _; rw [zipV_map f g xs ys]; rfl
/-! sizes -/
theorem log2_lt {k n : Nat} (h : k < 2 ^ n) (hn : 0 < n) : k.log2 < n := by
  by_cases h0 : k = 0
  · subst h0; simpa using hn
  · exact (Nat.log2_lt h0).mpr h
theorem mulOk_of {i j : Int} (hi : i.natAbs < 2 ^ 400000) (hj : j.natAbs < 2 ^ 400000) : mulOk i j = true := by
  unfold mulOk
  have h1 := log2_lt hi (by decide)
  have h2 := log2_lt hj (by decide)
  exact decide_eq_true (by omega)
theorem divOk_of {j : Int} (h : 0 < j) (hj : j.natAbs < 2 ^ 8000) : divOk j = true := by
  unfold divOk
  have h2 := log2_lt hj (by decide)
  rw [decide_eq_true h, Bool.true_and]
  exact decide_eq_true (by omega)

section
variable {Q : R → Env → Prop} {E : Val → Env → Prop}
/-- a call of a def without defaults, without arguments of its own: its value -/
theorem call_v {T : Tab} {r : Str → List Val → CRes} {f : Str} {I : FnI} {args : List Val} {v : Val} {ρ : Env} (hr : r f args = .ok v []) (hl : args.length = I.modes.length) (hd : I.dflt = []) (hf : I.fresh = false) (h : Q ⟨v, .fz⟩ ρ) : CALL (T.ctx r) f I [] (args, []) ρ Q E := by
  refine CALL_ok (args := args) (ρ' := ρ) ?_ hl hr rfl ?_
  · rw [hd, List.nil_append, List.drop_nil, List.append_nil]
  · rw [hf]
    exact h
/-- .. of a method: self ahead -/
theorem call_m {T : Tab} {r : Str → List Val → CRes} {f : Str} {I : FnI} {self : Val} {args : List Val} {v : Val} {ρ : Env} (hr : r f (self :: args) = .ok v []) (hl : (self :: args).length = I.modes.length) (hd : I.dflt = []) (hf : I.fresh = false) (h : Q ⟨v, .fz⟩ ρ) : CALL (T.ctx r) f I [self] (args, []) ρ Q E := by
  refine CALL_ok (args := self :: args) (ρ' := ρ) ?_ hl hr rfl ?_
  · rw [hd, List.drop_nil, List.append_nil]
    rfl
  · rw [hf]
    exact h
/-- .. with one argument that it changes -/
theorem call_b {T : Tab} {r : Str → List Val → CRes} {f : Str} {I : FnI} {args : List Val} {v w : Val} {i : Nat} {ρ : Env} (hr : r f args = .ok v [w]) (hl : args.length = I.modes.length) (hd : I.dflt = []) (hf : I.fresh = false) (h : Q ⟨v, .fz⟩ (ρ.set i (some (w, true)))) : CALL (T.ctx r) f I [] (args, [i]) ρ Q E := by
  refine CALL_ok (args := args) (ρ' := ρ.set i (some (w, true))) ?_ hl hr rfl ?_
  · rw [hd, List.nil_append, List.drop_nil, List.append_nil]
  · rw [hf]
    exact h
/-- .. whose list is new -/
theorem call_l {T : Tab} {r : Str → List Val → CRes} {f : Str} {I : FnI} {args : List Val} {v : Val} {ρ : Env} (hr : r f args = .ok v []) (hl : args.length = I.modes.length) (hd : I.dflt = []) (hf : I.fresh = true) (hm : v.mut = true) (h : Q ⟨v, .fr⟩ ρ) : CALL (T.ctx r) f I [] (args, []) ρ Q E := by
  refine CALL_ok (args := args) (ρ' := ρ) ?_ hl hr rfl ?_
  · rw [hd, List.nil_append, List.drop_nil, List.append_nil]
  · rw [hf, hm]
    exact h
end
end Rv

/-! Rv, plain part 3b: more rules. -/
namespace Rv
open PySem
theorem out_var {I : FnI} {v w : Val} {o : Bool} {i : Nat} {ρ : Env} {fins : List Val} (h1 : I.fresh = false) (e : lookS ρ i = some (w, o)) (h2 : finsOf (ρ.set i (some (w, false))) 0 I.modes = some fins) : outFn I (.ok (.rt ⟨v, .var i⟩) ρ) = .ok w fins := by
  show retFn I ⟨v, .var i⟩ ρ = _
  unfold retFn
  rw [h1, if_neg Bool.false_ne_true]
  have : fzR ⟨v, .var i⟩ ρ = .ok w (ρ.set i (some (w, false))) := by
    show (match lookS ρ i with
    | some (v, _) => Out.ok v (ρ.set i (some (v, false)))
    | none => .stuck) = _
    rw [e]
  rw [this]
  show (match finsOf (ρ.set i (some (w, false))) 0 I.modes with
      | some fins => CRes.ok w fins
      | none => .stuck) = _
  rw [h2]
theorem out_new {I : FnI} {v : Val} {ρ : Env} {fins : List Val} (h1 : I.fresh = true) (h2 : finsOf ρ 0 I.modes = some fins) : outFn I (.ok (.rt ⟨v, .fr⟩) ρ) = .ok v fins := by
  show retFn I ⟨v, .fr⟩ ρ = _
  unfold retFn
  rw [h1, if_pos rfl]
  show (if okFresh ρ I.modes ⟨v, .fr⟩ v = true then match finsOf ρ 0 I.modes with
      | some fins => CRes.ok v fins
      | none => .stuck else .stuck) = _
  rw [if_pos (by unfold okFresh; simp), h2]
section
variable {C : Ctx} {n : Nat} {ρ : Env} {e it : Ex} {es : List Ex} {Q : R → Env → Prop} {E : Val → Env → Prop}
def LM (i : Nat) (m : Str) (vs : List Val) (ρ : Env) (Q : R → Env → Prop) : Prop := ∃ xs ys u, lookS ρ i = some (.lst xs, true) ∧ lmeth m xs vs = some (ys, u) ∧ Q ⟨u, .fz⟩ (ρ.set i (some (.lst ys, true)))
theorem w_lmX {i : Nat} {m : Str} {xs0 : List Val} (e0 : lookS ρ i = some (.lst xs0, true)) (h : WP (fzEs C es ρ) (fun vs ρ => LM i m vs ρ Q) E) : WP (evE C (.lm i m es) ρ) Q E := w_lm e0 h
theorem lm_append {i : Nat} {xs : List Val} {v : Val} (e : lookS ρ i = some (.lst xs, true)) (hl : xs.length < big) (h : Q ⟨.non, .fz⟩ (ρ.set i (some (.lst (xs ++ [v]), true)))) : LM i "append" [v] ρ Q :=
  ⟨xs, xs ++ [v], .non, e, by unfold lmeth; rw [if_pos rfl]; exact if_pos hl, h⟩
theorem lm_insert {i : Nat} {xs : List Val} {v : Val} {k : Int} (e : lookS ρ i = some (.lst xs, true)) (hl : xs.length < big) (h0 : 0 ≤ k) (h1 : k < 2 ^ 63) (h : Q ⟨.non, .fz⟩ (ρ.set i (some (.lst (xs.take k.toNat ++ [v] ++ xs.drop k.toNat), true)))) : LM i "insert" [.int k, v] ρ Q :=
  ⟨xs, xs.take k.toNat ++ [v] ++ xs.drop k.toNat, .non, e, by unfold lmeth; rw [if_neg (by decide +kernel), if_pos rfl]; exact if_pos ⟨hl, h0, h1⟩, h⟩
theorem lm_extend {i : Nat} {xs ys : List Val} (e : lookS ρ i = some (.lst xs, true)) (hl : xs.length + ys.length ≤ big) (h : Q ⟨.non, .fz⟩ (ρ.set i (some (.lst (xs ++ ys), true)))) : LM i "extend" [.tup ys] ρ Q :=
  ⟨xs, xs ++ ys, .non, e, by unfold lmeth; rw [if_neg (by decide +kernel), if_neg (by decide +kernel), if_pos rfl]; exact if_pos hl, h⟩
theorem lm_extendL {i : Nat} {xs ys : List Val} (e : lookS ρ i = some (.lst xs, true)) (hl : xs.length + ys.length ≤ big) (h : Q ⟨.non, .fz⟩ (ρ.set i (some (.lst (xs ++ ys), true)))) : LM i "extend" [.lst ys] ρ Q :=
  ⟨xs, xs ++ ys, .non, e, by unfold lmeth; rw [if_neg (by decide +kernel), if_neg (by decide +kernel), if_pos rfl]; exact if_pos hl, h⟩
inductive All2 {α β : Type} (P : α → β → Prop) : List α → List β → Prop where
  | nil : All2 P [] []
  | cons {a : α} {b : β} {as : List α} {bs : List β} : P a b → All2 P as bs → All2 P (a :: as) (b :: bs)
theorem All2.snoc {α β : Type} {P : α → β → Prop} : ∀ {as : List α} {bs : List β} {a : α} {b : β}, All2 P as bs → P a b → All2 P (as ++ [a]) (bs ++ [b])
  | _, _, _, _, .nil, p => .cons p .nil
  | _, _, _, _, .cons q h, p => .cons q (h.snoc p)
theorem All2.length {α β : Type} {P : α → β → Prop} : ∀ {as : List α} {bs : List β}, All2 P as bs → as.length = bs.length
  | _, _, .nil => rfl
  | _, _, .cons _ h => by rw [List.length_cons, List.length_cons, h.length]
theorem All2.imp {α β : Type} {P P' : α → β → Prop} (i : ∀ a b, P a b → P' a b) : ∀ {as : List α} {bs : List β}, All2 P as bs → All2 P' as bs
  | _, _, .nil => .nil
  | _, _, .cons q h => .cons (i _ _ q) (h.imp i)
/-- items drawn by values that stand for typed ones -/
theorem All2.pick {α β γ : Type} {P : α → γ → Prop} {f : γ → β} : ∀ {as : List α} {bs : List β}, All2 (fun a b => ∃ c, b = f c ∧ P a c) as bs → ∃ cs, bs = cs.map f ∧ All2 P as cs
  | _, _, .nil => ⟨[], rfl, .nil⟩
  | _, _, .cons ⟨c, e, p⟩ h => by
    obtain ⟨cs, e2, p2⟩ := h.pick
    exact ⟨c :: cs, by rw [e, e2]; rfl, .cons p p2⟩
theorem All2.all {α β : Type} {P : β → Prop} : ∀ {as : List α} {bs : List β}, All2 (fun _ b => P b) as bs → ∀ b ∈ bs, P b
  | _, _, .nil, _, h => nomatch h
  | _, _, .cons p q, b, h => by
    rcases List.mem_cons.mp h with rfl | h
    · exact p
    · exact q.all b h
/-- a comprehension that carries a state -/
theorem w_compD {α S : Type} {elt : Ex} {tg : Tg} {own : List Nat} {as : List α} {g : α → Val} {P : α → Val → Prop} (env : S → Env) (G : S → Prop) {s0 : S} (hs0 : G s0)
    (h0 : WP (evE C it ρ) (fun r ρ => ITEMS r ρ fun xs ρ => xs = as.map g ∧ ρ = env s0) E) (hb : as.length ≤ big)
    (h1 : ∀ a ∈ as, ∀ s, G s → ∃ ρ2, asgT tg (g a) false (wipeE (env s) own) = some ρ2 ∧ WP (evE C elt ρ2) (fun r ρ4 => FZ r ρ4 fun v ρ5 => P a v ∧ ∃ s', G s' ∧ unwipe (env s) ρ5 own = env s') NoE)
    (h2 : ∀ vs s, G s → All2 P as vs → Q ⟨.lst vs, .fr⟩ (env s)) : WP (evE C (.comp elt tg it [] own) ρ) Q E := by
  refine w_comp (fun xs acc ρ => ∃ pre suf s, as = pre ++ suf ∧ xs = suf.map g ∧ G s ∧ ρ = env s ∧ All2 P pre acc) ?_ ?_ ?_
  · refine h0.imp (fun r ρ q => ?_) fun _ _ e => e
    obtain ⟨v, ρ', e1, xs, e2, e3, e4⟩ := q
    exact ⟨v, ρ', e1, xs, e2, [], as, s0, rfl, e3, hs0, e4, .nil⟩
  · rintro x xs acc ρ' ⟨pre, suf, s, e1, e2, hs, rfl, ha⟩
    cases suf with
    | nil => cases e2
    | cons a suf =>
      cases e2
      obtain ⟨ρ2, e3, w⟩ := h1 a (by rw [e1]; exact List.mem_append_right _ List.mem_cons_self) s hs
      refine ⟨ρ2, e3, ?_⟩
      refine evts_nil ?_
      refine ITE_tt ?_
      refine w.imp (fun r ρ4 q => ?_) fun _ _ e => e
      obtain ⟨v, ρ5, e5, hp, s', hs', e6⟩ := q
      refine ⟨v, ρ5, e5, ?_, pre ++ [a], suf, s', by rw [e1, List.append_assoc]; rfl, rfl, hs', e6, ha.snoc hp⟩
      rw [← ha.length]
      rw [e1, List.length_append, List.length_cons] at hb
      omega
  · rintro acc ρ' ⟨pre, suf, s, e1, e2, hs, rfl, ha⟩
    cases suf with
    | cons b bs => cases e2
    | nil =>
      rw [List.append_nil] at e1
      subst e1
      exact h2 acc s hs ha
def turnI (C : Ctx) (elt : Ex) (tg2 : Tg) (own2 : List Nat) (acc : List Val) (y : Val) (ρ5 : Env) : Out (List Val) := match asgT tg2 y false (wipeE ρ5 own2) with
  | some ρ6 => (evTs C [] ρ6).bind fun k ρ7 => if k = true then (evE C elt ρ7).bind fun r ρ8 => (fzR r ρ8).bind fun v ρ9 => push acc v (unwipe ρ5 ρ9 own2) else .ok acc (unwipe ρ5 ρ7 own2)
  | none => .stuck
def turnO (C : Ctx) (elt : Ex) (tg tg2 : Tg) (it2 : Ex) (own own2 : List Nat) (acc : List Val) (x : Val) (ρ1 : Env) : Out (List Val) := match asgT tg x false (wipeE ρ1 own) with
  | some ρ2 => (evTs C [] ρ2).bind fun k ρ3 => if k = true then (((evE C it2 ρ3).bind fzR).bind fun v ρ => Out.opt (itemsV v) ρ).bind fun ys ρ4 =>
      (compLoop (turnI C elt tg2 own2) ys acc ρ4).bind fun acc ρ9 => .ok acc (unwipe ρ1 ρ9 own)
    else .ok acc (unwipe ρ1 ρ3 own)
  | none => .stuck
/-- two loops in a comprehension that change nothing -/
theorem w_comp2 {elt : Ex} {tg tg2 : Tg} {it2 : Ex} {own own2 : List Nat} {α β : Type} {as : List α} {g : α → Val} {bs : α → List β} {g2 f : β → Val} {ρ1 : Env}
    (h0 : WP (evE C it ρ) (fun r ρ => ITEMS r ρ fun xs ρ => xs = as.map g ∧ ρ = ρ1) E) (hb : (as.flatMap bs).length ≤ big)
    (h1 : ∀ a ∈ as, ∃ ρ2, asgT tg (g a) false (wipeE ρ1 own) = some ρ2 ∧ WP (evE C it2 ρ2) (fun r ρ => ITEMS r ρ fun ys ρ3 => ys = (bs a).map g2 ∧ ρ3 = ρ2) NoE ∧ (∀ b ∈ bs a, ∃ ρ6, asgT tg2 (g2 b) false (wipeE ρ2 own2) = some ρ6 ∧ WP (evE C elt ρ6) (fun r ρ8 => FZ r ρ8 fun v ρ9 => v = f b ∧ unwipe ρ2 ρ9 own2 = ρ2) NoE) ∧ unwipe ρ1 ρ2 own = ρ1)
    (h2 : Q ⟨.lst ((as.flatMap bs).map f), .fr⟩ ρ1) : WP (evE C (.comp2 elt tg it [] tg2 it2 [] own own2) ρ) Q E := by
  refine WP.bind (WP.bind ?_)
  refine WP.bind (h0.imp (fun r ρ q => ?_) fun _ _ e => e)
  obtain ⟨v, ρ', e1, xs, e2, e3, e4⟩ := q
  subst e3 e4
  rw [e1]
  refine ⟨?_⟩
  show WP (Out.opt (itemsV v) ρ') _ E
  rw [e2]
  refine ⟨?_⟩
  have inner : ∀ (ρ2 : Env) (ys : List β) (acc : List Val), (∀ b ∈ ys, ∃ ρ6, asgT tg2 (g2 b) false (wipeE ρ2 own2) = some ρ6 ∧ WP (evE C elt ρ6) (fun r ρ8 => FZ r ρ8 fun v ρ9 => v = f b ∧ unwipe ρ2 ρ9 own2 = ρ2) NoE) → acc.length + ys.length ≤ big →
      compLoop (turnI C elt tg2 own2) (ys.map g2) acc ρ2 = .ok (acc ++ ys.map f) ρ2 := by
    intro ρ2 ys
    induction ys with
    | nil => intro acc _ _; rw [List.map_nil, List.map_nil, List.append_nil]; rfl
    | cons y ys ih =>
      intro acc hy hl
      obtain ⟨ρ6, q1, w⟩ := hy y List.mem_cons_self
      obtain ⟨r, ρ8, q2, v, ρ9, q3, rfl, q4⟩ := w.to_ok
      rw [List.length_cons] at hl
      have ht : turnI C elt tg2 own2 acc (g2 y) ρ2 = .ok (acc ++ [f y]) ρ2 := by
        unfold turnI
        rw [q1]
        show ((evE C elt ρ6).bind fun r ρ8 => (fzR r ρ8).bind fun v ρ9 => push acc v (unwipe ρ2 ρ9 own2)) = _
        rw [q2]
        show ((fzR r ρ8).bind fun v ρ9 => push acc v (unwipe ρ2 ρ9 own2)) = _
        rw [q3]
        show push acc (f y) (unwipe ρ2 ρ9 own2) = _
        unfold push
        rw [if_pos (by omega), q4]
      show (turnI C elt tg2 own2 acc (g2 y) ρ2).bind (fun acc ρ => compLoop (turnI C elt tg2 own2) (ys.map g2) acc ρ) = _
      rw [ht, Out.bind_ok, ih (acc ++ [f y]) (fun b hb => hy b (List.mem_cons_of_mem _ hb)) (by rw [List.length_append, List.length_singleton]; omega), List.append_assoc]
      rfl
  have outer : ∀ (xs : List α) (acc : List Val), (∀ a ∈ xs, a ∈ as) → acc.length + (xs.flatMap bs).length ≤ big →
      compLoop (turnO C elt tg tg2 it2 own own2) (xs.map g) acc ρ' = .ok (acc ++ (xs.flatMap bs).map f) ρ' := by
    intro xs
    induction xs with
    | nil => intro acc _ _; rw [List.map_nil, List.flatMap_nil, List.map_nil, List.append_nil]; rfl
    | cons x xs ih =>
      intro acc hm hl
      obtain ⟨ρ2, q1, w, q2, q3⟩ := h1 x (hm x List.mem_cons_self)
      obtain ⟨r, ρ4, q4, v, ρ5, q5, ys, q6, rfl, rfl⟩ := w.to_ok
      rw [List.flatMap_cons, List.length_append] at hl
      have ht : turnO C elt tg tg2 it2 own own2 acc (g x) ρ' = .ok (acc ++ (bs x).map f) ρ' := by
        unfold turnO
        rw [q1]
        show ((((evE C it2 ρ5).bind fzR).bind fun v ρ => Out.opt (itemsV v) ρ).bind fun ys ρ4 =>
          (compLoop (turnI C elt tg2 own2) ys acc ρ4).bind fun acc ρ9 => .ok acc (unwipe ρ' ρ9 own)) = _
        rw [q4, Out.bind_ok, q5, Out.bind_ok, q6, Out.opt_some, Out.bind_ok, inner ρ5 (bs x) acc q2 (by omega), Out.bind_ok, q3]
      show (turnO C elt tg tg2 it2 own own2 acc (g x) ρ').bind (fun acc ρ => compLoop (turnO C elt tg tg2 it2 own own2) (xs.map g) acc ρ) = _
      rw [ht, Out.bind_ok, ih (acc ++ (bs x).map f) (fun a ha => hm a (List.mem_cons_of_mem _ ha)) (by rw [List.length_append, List.length_map]; omega), List.flatMap_cons, List.map_append, List.append_assoc]
  have e5 : compLoop (turnO C elt tg tg2 it2 own own2) (as.map g) [] ρ' = .ok ((as.flatMap bs).map f) ρ' := outer as [] (fun _ h => h) (by rw [List.length_nil]; omega)
  have e6 : ((compLoop (turnO C elt tg tg2 it2 own own2) (as.map g) [] ρ').shut.bind fun vs ρ' => Out.ok (⟨.lst vs, .fr⟩ : R) ρ') = .ok ⟨.lst ((as.flatMap bs).map f), .fr⟩ ρ' := by rw [e5]; rfl
  exact (show WP ((compLoop (turnO C elt tg tg2 it2 own own2) (as.map g) [] ρ').shut.bind fun vs ρ' => Out.ok (⟨.lst vs, .fr⟩ : R) ρ') Q E from WP.of_eq e6 ⟨h2⟩)
end
end Rv

/-! Rv, plain part 5: the later constructs. -/
namespace Rv
open PySem
class HasProp (T : Tab) (c m : Str) (f : outParam Str) : Prop where
  eq : T.prop c m = some f
class HasCls (T : Tab) (c m : Str) (f : outParam Str) : Prop where
  eq : T.clsm c m = some f
section
variable {T : Tab} {r : Str → List Val → CRes} {C : Ctx} {ρ : Env} {a b c : Ex} {es : List Ex} {Q : R → Env → Prop} {E : Val → Env → Prop} {f m k : Str}
theorem w_prp (h : WP (evE (T.ctx r) a ρ) (fun x ρ => FZ x ρ fun v ρ => ∃ k ns vs g c w, v = .ins k ns vs ∧ T.prop k f = some g ∧ T.code g = some c ∧ c.info.modes = [false] ∧ c.info.fresh = false ∧ r g [v] = .ok w [] ∧ Q ⟨w, .fz⟩ ρ) E) : WP (evE (T.ctx r) (.prp a f) ρ) Q E := by
  refine WP.bind (WP.bind (h.imp (fun x ρ q => fz_okP ?_) fun _ _ e => e))
  obtain ⟨v, ρ1, h1, k, ns, vs, g, c, w, e, h2, h3, h4, h5, h6, h7⟩ := q
  refine ⟨v, ρ1, h1, ?_⟩
  have hp : propV (T.ctx r) f v = some (g, c.info) := by
    subst e
    simp only [propV, ctx_prop, h2, ctx_fn, h3, Option.map_some, h4, if_true]
  dsimp only
  rw [hp]
  have hc : callV (T.ctx r) c.info g [v] ([], []) ρ1 = .ok ⟨w, .fz⟩ ρ1 := by
    unfold callV
    have e0 : c.info.dflt.drop (c.info.dflt.length + ([v] ++ ([] : List Val)).length - c.info.modes.length) = [] := List.drop_eq_nil_of_le (by rw [h4]; show c.info.dflt.length ≤ c.info.dflt.length + 1 - 1; omega)
    rw [e0]
    have e1 : ([v] ++ ([] : List Val) ++ ([] : List Val)) = [v] := rfl
    rw [e1, if_pos (by rw [h4]; rfl)]
    show CRes.out (r g [v]) c.info.fresh [] ρ1 = _
    rw [h6, h5]
    rfl
  show WP (callV (T.ctx r) c.info g [v] ([], []) ρ1).shut Q E
  rw [hc]
  exact ⟨h7⟩
theorem w_clsm {ms : List Bool} {fc : FnCode} [hm : HasCls T k m f] [hf : HasFn T f fc] (hh : fc.info.modes = false :: ms) (h : WP (evArgs (T.ctx r) ms es ρ) (fun p ρ => CALL (T.ctx r) f fc.info [.glb k] p ρ Q E) E) : WP (evE (T.ctx r) (.clsm k m es) ρ) Q E := by
  have e : evE (T.ctx r) (.clsm k m es) ρ = (evArgs (T.ctx r) ms es ρ).bind fun p ρ => callV (T.ctx r) fc.info f [.glb k] p ρ := by
    show (match T.clsm k m with
      | some f => match (T.ctx r).fn f with
        | some I => if I.modes.head? = some false then (evArgs (T.ctx r) (I.modes.drop 1) es ρ).bind fun p ρ => callV (T.ctx r) I f [.glb k] p ρ else .stuck
        | none => .stuck
      | none => .stuck) = _
    rw [hm.eq]
    show (match (T.ctx r).fn f with
        | some I => if I.modes.head? = some false then (evArgs (T.ctx r) (I.modes.drop 1) es ρ).bind fun p ρ => callV (T.ctx r) I f [.glb k] p ρ else .stuck
        | none => .stuck) = _
    rw [ctx_fn, hf.eq]
    show (if fc.info.modes.head? = some false then (evArgs (T.ctx r) (fc.info.modes.drop 1) es ρ).bind fun p ρ => callV (T.ctx r) fc.info f [.glb k] p ρ else .stuck) = _
    rw [hh]
    rfl
  rw [e]
  exact WP.bind h
theorem w_callK {i : Nat} {o : Bool} (e : lookS ρ i = some (.glb k, o)) (h : WP (evE (T.ctx r) (.callC k es) ρ) Q E) : WP (evE (T.ctx r) (.callK i k es) ρ) Q E := by
  have z : evE (T.ctx r) (.callK i k es) ρ = evE (T.ctx r) (.callC k es) ρ := by
    show (match lookS ρ i with
      | some (.glb d, _) => if d = k then evE (T.ctx r) (.callC k es) ρ else .stuck
      | _ => .stuck) = _
    rw [e]
    show (if k = k then evE (T.ctx r) (.callC k es) ρ else .stuck) = _
    rw [if_pos rfl]
  rw [z]
  exact h
theorem w_callP {fc : FnCode} [hf : HasFn T f fc] (h : WP (evEs (T.ctx r) es ρ) (fun rs ρ => ∃ vs v fins, rds ρ rs = some vs ∧ fc.info.modes.all (!·) = true ∧ vs.length = fc.info.modes.length ∧ r f vs = .ok v fins ∧ isFlat v = true ∧ Q ⟨v, .fz⟩ ρ) E) : WP (evE (T.ctx r) (.callP f es) ρ) Q E := by
  have e : evE (T.ctx r) (.callP f es) ρ = (evEs (T.ctx r) es ρ).bind fun rs ρ => match rds ρ rs with
      | some vs => peekV (T.ctx r) fc.info f vs ρ
      | none => .stuck := by
    show (match (T.ctx r).fn f with
      | some I => (evEs (T.ctx r) es ρ).bind fun rs ρ => match rds ρ rs with
        | some vs => peekV (T.ctx r) I f vs ρ
        | none => .stuck
      | none => .stuck) = _
    rw [ctx_fn, hf.eq]
    rfl
  rw [e]
  refine WP.bind (h.imp (fun rs ρ q => ?_) fun _ _ e => e)
  obtain ⟨vs, v, fins, h1, h2, h3, h4, h5, h6⟩ := q
  rw [h1]
  show WP (peekV (T.ctx r) fc.info f vs ρ) Q E
  unfold peekV
  rw [if_pos ⟨h2, h3⟩]
  show WP (match r f vs with
    | .ok v _ => if isFlat v = true then .ok ⟨v, .fz⟩ ρ else .stuck
    | _ => .stuck) Q E
  rw [h4]
  show WP (if isFlat v = true then .ok ⟨v, .fz⟩ ρ else .stuck) Q E
  rw [if_pos h5]
  exact ⟨h6⟩
theorem w_join {z : Str} (h : WP (fzEs C es ρ) (fun vs ρ => ∃ u, joinV z vs = some u ∧ Q ⟨u, .fz⟩ ρ) E) : WP (evE C (.join z es) ρ) Q E := by
  refine WP.bind (h.imp (fun vs ρ q => ?_) fun _ _ e => e)
  obtain ⟨u, h1, h2⟩ := q
  rw [h1]
  exact ⟨h2⟩
theorem w_lix (h : WP (evE C a ρ) (fun x ρ => FZ x ρ fun v ρ => ∃ ys, v = .lst ys ∧ WP (fzEs C es ρ) (fun ws ρ => ∃ u, lixV ys ws = some u ∧ Q ⟨u, .fz⟩ ρ) E) E) : WP (evE C (.lix a es) ρ) Q E := by
  refine WP.bind (h.imp (fun x ρ q => WP.bind ((fz_okP q).imp (fun v ρ q => ?_) fun _ _ e => e)) fun _ _ e => e)
  obtain ⟨ys, rfl, h1⟩ := q
  refine WP.bind (h1.imp (fun ws ρ q => ?_) fun _ _ e => e)
  obtain ⟨u, h2, h3⟩ := q
  rw [h2]
  exact ⟨h3⟩
theorem w_rev (h : WP (evE C a ρ) (fun x ρ => ∃ v u, rd ρ x = some v ∧ revV v = some u ∧ Q (mk u) ρ) E) : WP (evE C (.rev a) ρ) Q E := by
  refine WP.bind (h.imp (fun x ρ q => ?_) fun _ _ e => e)
  obtain ⟨v, u, h1, h2, h3⟩ := q
  rw [h1]
  show WP (new (revV v) ρ) Q E
  rw [h2]
  exact ⟨h3⟩
theorem w_zip3 (h : WP (evE C a ρ) (fun x ρ => FZ x ρ fun v ρ => WP (evE C b ρ) (fun y ρ => FZ y ρ fun w ρ => WP (evE C c ρ) (fun z ρ => FZ z ρ fun u ρ => ∃ xs, zipW3 v w u = some xs ∧ Q ⟨.lst xs, .fz⟩ ρ) E) E) E) : WP (evE C (.zip3 a b c) ρ) Q E := by
  refine WP.bind (h.imp (fun x ρ q => WP.bind ((fz_okP q).imp (fun v ρ q => WP.bind (q.imp (fun y ρ q => WP.bind ((fz_okP q).imp (fun w ρ q => WP.bind (q.imp (fun z ρ q => WP.bind ((fz_okP q).imp (fun u ρ q => ?_) fun _ _ e => e)) fun _ _ e => e)) fun _ _ e => e)) fun _ _ e => e)) fun _ _ e => e)) fun _ _ e => e)
  obtain ⟨xs, h1, h2⟩ := q
  rw [h1]
  exact ⟨h2⟩
end
end Rv

/-! Rv: codes of defs (printed by a program). -/
namespace Rv
open PySem
def c_is_number : List Sx := [
  .ret (.and (.callB "isinstance" [(.loc 0), (.typ "int")]) (.not (.callB "isinstance" [(.loc 0), (.typ "bool")])))]
def c_are_numbers : List Sx := [
  .ret (.and (.callB "isinstance" [(.loc 0), (.typ "tuple")]) (.and (.cmp .Eq (.callB "len" [(.loc 0)]) (.loc 1)) (.callB "all" [(.comp (.callF "is_number" [(.loc 2)]) (.nm 2) (.loc 0) [] [2])])))]
def c_times : List Sx := [
  .ret (.callB "sum" [(.comp (.bop .Mult (.loc 2) (.loc 3)) (.tp [(.nm 2), (.nm 3)]) (.zip2 (.loc 0) (.loc 1)) [] [2, 3])])]
def c_need_place : List Sx := [
  .ite (.not (.callF "are_numbers" [(.loc 0), (.loc 1)])) [
    .never] [
]]
def c_cell_count : List Sx := [
  .asg (.nm 1) (.con (.int (1))),
  .for (.nm 2) (.loc 0) [
    .aug 1 .Mult (.loc 2)],
  .ret (.loc 1)]
def c_class_count : List Sx := [
  .ite (.or (.not (.callB "isinstance" [(.loc 0), (.typ "tuple")])) (.not (.chn .LtE .LtE (.con (.int (1))) (.callB "len" [(.loc 0)]) (.glo "MAX_DIRECTIONS")))) [
    .never] [
],
  .ite (.not (.callB "all" [(.comp (.and (.callF "is_number" [(.loc 2)]) (.cmp .Gt (.loc 2) (.con (.int (0))))) (.nm 2) (.loc 0) [] [2])])) [
    .never] [
],
  .asg (.nm 1) (.callF "cell_count" [(.loc 0)]),
  .ite (.cmp .Gt (.loc 1) (.glo "MAX_CLASSES")) [
    .never] [
],
  .ret (.loc 1)]
def c_class_at : List Sx := [
  .asg (.nm 2) (.con (.int (0))),
  .for (.tp [(.nm 3), (.nm 4)]) (.zip2 (.loc 1) (.loc 0)) [
    .asg (.nm 2) (.bop .Add (.bop .Mult (.loc 2) (.loc 4)) (.bop .Mod (.loc 3) (.loc 4)))],
  .ret (.loc 2)]
def c_is_parting : List Sx := [
  .ite (.or (.not (.callB "isinstance" [(.loc 0), (.typ "tuple")])) (.cmp .Eq (.loc 0) (.tup []))) [
    .ret (.con (.bl false))] [
],
  .asg (.nm 2) (.lst []),
  .for (.nm 3) (.loc 0) [
    .ite (.or (.not (.callB "isinstance" [(.loc 3), (.typ "tuple")])) (.or (.cmp .NotEq (.callB "len" [(.loc 3)]) (.con (.int (2)))) (.or (.not (.callB "isinstance" [(.sub (.loc 3) (.con (.int (0)))), (.typ "tuple")])) (.cmp .Eq (.sub (.loc 3) (.con (.int (0)))) (.tup []))))) [
      .ret (.con (.bl false))] [
],
    .ite (.or (.not (.callB "all" [(.comp (.callF "is_number" [(.loc 4)]) (.nm 4) (.sub (.loc 3) (.con (.int (0)))) [] [4])])) (.cmp .NotEq (.callB "list" [(.sub (.loc 3) (.con (.int (0))))]) (.callB "sorted" [(.sub (.loc 3) (.con (.int (0))))]))) [
      .ret (.con (.bl false))] [
],
    .expr (.lm 2 "extend" [(.sub (.loc 3) (.con (.int (0))))])],
  .ret (.cmp .Eq (.callB "sorted" [(.loc 2)]) (.lrg1 (.loc 1)))]
def c_is_node : List Sx := [
  .ite (.or (.not (.callB "isinstance" [(.loc 0), (.typ "tuple")])) (.cmp .Eq (.loc 0) (.tup []))) [
    .ret (.con (.bl false))] [
],
  .ite (.cmp .Eq (.sub (.loc 0) (.con (.int (0)))) (.con (.str "key"))) [
    .ret (.and (.cmp .Eq (.callB "len" [(.loc 0)]) (.con (.int (4)))) (.and (.callF "are_numbers" [(.sub (.loc 0) (.con (.int (1)))), (.loc 1)]) (.callF "are_numbers" [(.sub (.loc 0) (.con (.int (2)))), (.loc 2)])))] [
],
  .ite (.cmp .Eq (.sub (.loc 0) (.con (.int (0)))) (.con (.str "fork"))) [
    .ret (.and (.cmp .Eq (.callB "len" [(.loc 0)]) (.con (.int (2)))) (.callF "is_parting" [(.sub (.loc 0) (.con (.int (1)))), (.loc 2)]))] [
],
  .ret (.cmp .Eq (.loc 0) (.glo "LEAF"))]
def c_below : List Sx := [
  .ite (.cmp .Eq (.sub (.loc 0) (.con (.int (0)))) (.con (.str "key"))) [
    .ret (.lst [(.sub (.loc 0) (.con (.int (3))))])] [
],
  .ret (.ite (.cmp .Eq (.sub (.loc 0) (.con (.int (0)))) (.con (.str "fork"))) (.comp (.sub (.loc 1) (.con (.int (1)))) (.nm 1) (.sub (.loc 0) (.con (.int (1)))) [] [1]) (.lst []))]
def c_is_tree : List Sx := [
  .par 3 4 (.lst [(.loc 0)]) (.con (.int (0))),
  .for (.nm 5) (.rng1 (.glo "MAX_DEPTH")) [
    .ite (.not (.callB "all" [(.comp (.callF "is_node" [(.loc 6), (.loc 1), (.loc 2)]) (.nm 6) (.loc 3) [] [6])])) [
      .ret (.con (.bl false))] [
],
    .aug 4 .Add (.callB "len" [(.loc 3)]),
    .asg (.nm 3) (.comp2 (.loc 7) (.nm 6) (.loc 3) [] (.nm 7) (.callF "below" [(.loc 6)]) [] [6, 7] [6, 7]),
    .ite (.cmp .Gt (.loc 4) (.glo "MAX_NODES")) [
      .ret (.con (.bl false))] [
],
    .ite (.cmp .Eq (.loc 3) (.lst [])) [
      .ret (.con (.bl true))] [
]],
  .ret (.con (.bl false))]
def c_node_count : List Sx := [
  .ret (.bop .Add (.con (.int (1))) (.callB "sum" [(.comp (.callF "node_count" [(.loc 1)]) (.nm 1) (.callF "below" [(.loc 0)]) [] [1])]))]
def c_group_at : List Sx := [
  .ret (.sub (.comp (.loc 2) (.tp [(.nm 2), (.nm 3)]) (.enm (.loc 0)) [(.cmp .In (.loc 1) (.sub (.loc 3) (.con (.int (0)))))] [2, 3]) (.con (.int (0))))]
def c_sign_of : List Sx := [
  .par 4 5 (.callF "class_at" [(.loc 1), (.loc 2)]) (.callF "class_at" [(.loc 1), (.loc 3)]),
  .while (.cmp .NotEq (.loc 0) (.glo "LEAF")) [
    .ite (.cmp .Eq (.sub (.loc 0) (.con (.int (0)))) (.con (.str "key"))) [
      .asg (.nm 6) (.bop .Add (.callF "times" [(.sub (.loc 0) (.con (.int (1)))), (.loc 2)]) (.sub (.sub (.loc 0) (.con (.int (2)))) (.loc 4))),
      .asg (.nm 7) (.bop .Add (.callF "times" [(.sub (.loc 0) (.con (.int (1)))), (.loc 3)]) (.sub (.sub (.loc 0) (.con (.int (2)))) (.loc 5))),
      .asg (.nm 0) (.sub (.loc 0) (.con (.int (3))))] [
      .par 6 7 (.callF "group_at" [(.sub (.loc 0) (.con (.int (1)))), (.loc 4)]) (.callF "group_at" [(.sub (.loc 0) (.con (.int (1)))), (.loc 5)]),
      .asg (.nm 0) (.sub (.sub (.sub (.loc 0) (.con (.int (1)))) (.loc 6)) (.con (.int (1))))],
    .ite (.cmp .NotEq (.loc 6) (.loc 7)) [
      .ret (.ite (.cmp .Lt (.loc 6) (.loc 7)) (.neg (.con (.int (1)))) (.con (.int (1))))] [
]],
  .ret (.ite (.cmp .Eq (.loc 2) (.loc 3)) (.con (.int (0))) (.ite (.cmp .Lt (.loc 2) (.loc 3)) (.neg (.con (.int (1)))) (.con (.int (1)))))]
def c_Scan___init__ : List Sx := [
  .asg (.nm 3) (.callF "class_count" [(.loc 1)]),
  .ite (.not (.callF "is_tree" [(.loc 2), (.callB "len" [(.loc 1)]), (.loc 3)])) [
    .never] [
],
  .setAttr 0 "held_divisors" (.loc 1),
  .setAttr 0 "held_tree" (.loc 2),
  .setAttr 0 "class_total" (.loc 3),
  .setAttr 0 "node_total" (.callF "node_count" [(.loc 2)])]
def c_Scan___call__ : List Sx := [
  .expr (.callF "need_place" [(.loc 1), (.callB "len" [(.attr (.loc 0) "held_divisors")])]),
  .expr (.callF "need_place" [(.loc 2), (.callB "len" [(.attr (.loc 0) "held_divisors")])]),
  .ret (.cmp .Lt (.callF "sign_of" [(.attr (.loc 0) "held_tree"), (.attr (.loc 0) "held_divisors"), (.loc 1), (.loc 2)]) (.con (.int (0))))]
def c__law_bag : List Sx := [
  .asg (.nm 1) (.con (.int (3823))),
  .for (.nm 2) (.slc (.loc 0) false (.con .non) true (.con (.int (63)))) [
    .asg (.nm 1) (.bop .Mod (.callB "int" [(.bop .Add (.bop .Add (.bop .Mult (.loc 1) (.con (.int (44021)))) (.bop .Mod (.callB "int" [(.loc 2)]) (.con (.int (2147483579))))) (.con (.int (19))))]) (.con (.int (2147483647))))],
  .ret (.lst [(.callB "list" [(.slc (.loc 0) false (.con .non) true (.con (.int (63))))]), (.con (.int (0))), (.con (.int (0))), (.loc 1)])]
def c__law_pull : List Sx := [
  .ite (.and (.cmp .Eq (.sub (.loc 0) (.con (.int (2)))) (.con (.int (0)))) (.cmp .Lt (.sub (.loc 0) (.con (.int (1)))) (.callB "len" [(.sub (.loc 0) (.con (.int (0))))]))) [
    .asg (.nm 2) (.sub (.sub (.loc 0) (.con (.int (0)))) (.sub (.loc 0) (.con (.int (1))))),
    .setSub 0 (.con (.int (1))) (.bop .Add (.sub (.loc 0) (.con (.int (1)))) (.con (.int (1)))),
    .ite (.cmp .GtE (.loc 2) (.bop .Pow (.con (.int (10))) (.con (.int (18))))) [
      .setSub 0 (.con (.int (2))) (.loc 2)] [
      .setSub 0 (.con (.int (3))) (.bop .Mod (.callB "int" [(.bop .Add (.bop .Add (.bop .Mult (.sub (.loc 0) (.con (.int (3)))) (.con (.int (40692)))) (.bop .Mult (.bop .Mod (.callB "int" [(.loc 2)]) (.con (.int (2147483579)))) (.con (.int (69621))))) (.con (.int (11))))]) (.con (.int (2147483647))))]] [
],
  .ite (.cmp .Gt (.sub (.loc 0) (.con (.int (2)))) (.con (.int (0)))) [
    .asg (.nm 3) (.bop .Mod (.callB "int" [(.sub (.loc 0) (.con (.int (2))))]) (.loc 1)),
    .setSub 0 (.con (.int (2))) (.bop .FloorDiv (.sub (.loc 0) (.con (.int (2)))) (.loc 1)),
    .ret (.loc 3)] [
],
  .asg (.nm 4) (.sub (.loc 0) (.con (.int (3)))),
  .setSub 0 (.con (.int (3))) (.bop .Mod (.callB "int" [(.bop .Add (.bop .Add (.bop .Mult (.loc 4) (.loc 4)) (.bop .Mult (.loc 4) (.con (.int (48271))))) (.con (.int (1013904223))))]) (.con (.int (2147483647)))),
  .ret (.bop .Mod (.callB "int" [(.bop .Add (.bop .FloorDiv (.sub (.loc 0) (.con (.int (3)))) (.con (.int (97)))) (.bop .Mult (.bop .Mod (.callB "int" [(.sub (.loc 0) (.con (.int (3))))]) (.con (.int (8191)))) (.con (.int (67)))))]) (.loc 1))]
def c__law_of : List Sx := [
  .ret (.sub (.loc 1) (.callF "_law_pull" [(.loc 0), (.callB "len" [(.loc 1)])]))]
def c__law_mixed : List Sx := [
  .asg (.nm 2) (.lst []),
  .for (.nm 3) (.loc 1) [
    .expr (.lm 2 "insert" [(.callF "_law_pull" [(.loc 0), (.bop .Add (.callB "len" [(.loc 2)]) (.con (.int (1))))]), (.loc 3)])],
  .ret (.loc 2)]
def c__law_count : List Sx := [
  .asg (.nm 1) (.con (.int (1))),
  .for (.nm 2) (.loc 0) [
    .asg (.nm 1) (.bop .Mult (.loc 1) (.loc 2))],
  .ret (.loc 1)]
def c__law_plus : List Sx := [
  .ret (.callB "tuple" [(.comp (.bop .Add (.loc 2) (.loc 3)) (.tp [(.nm 2), (.nm 3)]) (.zip2 (.loc 0) (.loc 1)) [] [2, 3])])]
def c__law_divisors : List Sx := [
  .par 2 3 (.lst []) (.con (.int (12))),
  .for (.nm 4) (.rng1 (.loc 1)) [
    .asg (.nm 5) (.bop .Add (.con (.int (1))) (.callF "_law_pull" [(.loc 0), (.callB "min" [(.loc 3), (.sub (.lst [(.con (.int (4))), (.con (.int (4))), (.con (.int (12)))]) (.callF "_law_pull" [(.loc 0), (.con (.int (3)))]))])])),
    .expr (.lm 2 "append" [(.loc 5)]),
    .asg (.nm 3) (.bop .FloorDiv (.loc 3) (.loc 5))],
  .ret (.callB "tuple" [(.callF "_law_mixed" [(.loc 0), (.loc 2)])])]
def c__law_place : List Sx := [
  .ret (.callB "tuple" [(.comp (.bop .Sub (.callF "_law_pull" [(.loc 0), (.bop .Add (.bop .Mult (.con (.int (2))) (.loc 2)) (.con (.int (1))))]) (.loc 2)) (.nm 3) (.rng1 (.loc 1)) [] [3])])]
def c__law_parts : List Sx := [
  .asg (.nm 3) (.comp (.callF "_law_pull" [(.loc 0), (.loc 2)]) (.nm 5) (.rng1 (.loc 1)) [] [5]),
  .asg (.nm 4) (.comp (.callB "tuple" [(.comp (.loc 5) (.nm 5) (.rng1 (.loc 1)) [(.cmp .Eq (.sub (.loc 3) (.loc 5)) (.loc 6))] [5])]) (.nm 6) (.lst [(.con (.int (1))), (.con (.int (4))), (.con (.int (0))), (.con (.int (3))), (.con (.int (2)))]) [] [6]),
  .ret (.comp (.loc 7) (.nm 7) (.loc 4) [(.cmp .NotEq (.loc 7) (.tup []))] [7])]
def c__law_tree : List Sx := [
  .par 3 4 (.callF "_law_count" [(.loc 1)]) (.callF "_law_pull" [(.loc 0), (.con (.int (4)))]),
  .ite (.or (.cmp .Eq (.loc 2) (.con (.int (0)))) (.cmp .Eq (.loc 4) (.con (.int (0))))) [
    .ret (.tup [(.con (.str "places"))])] [
],
  .ite (.cmp .Eq (.loc 4) (.con (.int (3)))) [
    .asg (.nm 5) (.callF "_law_parts" [(.loc 0), (.loc 3), (.ite (.cmp .Eq (.loc 2) (.con (.int (1)))) (.con (.int (5))) (.con (.int (3))))]),
    .ret (.tup [(.con (.str "fork")), (.callB "tuple" [(.comp (.tup [(.loc 9), (.callF "_law_tree" [(.loc 0), (.loc 1), (.bop .Sub (.loc 2) (.con (.int (1))))])]) (.nm 9) (.loc 5) [] [9])])])] [
],
  .asg (.nm 6) (.callF "_law_of" [(.loc 0), (.lst [(.con (.int (3))), (.con (.int (3))), (.con (.int (9))), (.bop .Pow (.con (.int (10))) (.con (.int (9))))])]),
  .asg (.nm 7) (.callB "tuple" [(.comp (.bop .Sub (.callF "_law_pull" [(.loc 0), (.bop .Add (.bop .Mult (.con (.int (2))) (.loc 6)) (.con (.int (1))))]) (.loc 6)) (.nm 10) (.loc 1) [] [10])]),
  .asg (.nm 8) (.callB "tuple" [(.comp (.ite (.cmp .Lt (.loc 6) (.con (.int (9)))) (.bop .Sub (.callF "_law_pull" [(.loc 0), (.con (.int (9)))]) (.con (.int (4)))) (.bop .Sub (.callF "_law_pull" [(.loc 0), (.bop .Mult (.con (.int (4))) (.loc 6))]) (.bop .Mult (.con (.int (2))) (.loc 6)))) (.nm 11) (.rng1 (.loc 3)) [] [11])]),
  .ret (.tup [(.con (.str "key")), (.loc 7), (.loc 8), (.callF "_law_tree" [(.loc 0), (.loc 1), (.bop .Sub (.loc 2) (.con (.int (1))))])])]
def c__law_scan : List Sx := [
  .asg (.nm 2) (.callF "_law_divisors" [(.loc 0), (.loc 1)]),
  .ret (.tup [(.loc 2), (.callF "_law_tree" [(.loc 0), (.loc 2), (.con (.int (3)))])])]
def c_law : List Sx := [
  .asg (.nm 1) (.callF "_law_bag" [(.loc 0)]),
  .for (.nm 2) (.rng1 (.con (.int (5)))) [
    .asg (.nm 3) (.bop .Add (.con (.int (1))) (.callF "_law_pull" [(.loc 1), (.con (.int (3)))])),
    .asg (.tp [(.nm 4), (.nm 5)]) (.callF "_law_scan" [(.loc 1), (.loc 3)]),
    .asg (.nm 6) (.callC "Scan" [(.loc 4), (.loc 5)]),
    .for (.nm 7) (.rng1 (.con (.int (10)))) [
      .par 8 9 (.callF "_law_place" [(.loc 1), (.loc 3), (.con (.int (9)))]) (.callF "_law_place" [(.loc 1), (.loc 3), (.con (.int (12)))]),
      .asg (.nm 10) (.callB "tuple" [(.comp (.bop .Mult (.bop .Sub (.callF "_law_pull" [(.loc 1), (.bop .Mult (.con (.int (2))) (.bop .Pow (.con (.int (10))) (.con (.int (28)))))]) (.bop .Pow (.con (.int (10))) (.con (.int (28))))) (.loc 14)) (.nm 14) (.loc 4) [] [14])]),
      .par 11 12 (.callF "_law_plus" [(.loc 8), (.loc 9)]) (.callF "_law_place" [(.loc 1), (.loc 3), (.con (.int (9)))]),
      .asg (.nm 13) (.callF "_law_plus" [(.loc 8), (.loc 10)]),
      .ite (.cmp .NotEq (.callO (.loc 6) [(.loc 8), (.loc 11)]) (.callO (.loc 6) [(.loc 13), (.callF "_law_plus" [(.loc 11), (.loc 10)])])) [
        .ret (.con (.bl false))] [
],
      .ite (.and (.callO (.loc 6) [(.loc 8), (.loc 11)]) (.and (.callO (.loc 6) [(.loc 11), (.loc 12)]) (.not (.callO (.loc 6) [(.loc 8), (.loc 12)])))) [
        .ret (.con (.bl false))] [
],
      .ite (.or (.and (.callO (.loc 6) [(.loc 8), (.loc 11)]) (.callO (.loc 6) [(.loc 11), (.loc 8)])) (.and (.cmp .NotEq (.loc 8) (.loc 11)) (.and (.not (.callO (.loc 6) [(.loc 8), (.loc 11)])) (.not (.callO (.loc 6) [(.loc 11), (.loc 8)]))))) [
        .ret (.con (.bl false))] [
]]],
  .ret (.con (.bl true))]
abbrev k_is_number : FnCode := ⟨⟨[false], false, [], []⟩, 1, c_is_number⟩
abbrev k_are_numbers : FnCode := ⟨⟨[false, false], false, [], []⟩, 3, c_are_numbers⟩
abbrev k_times : FnCode := ⟨⟨[false, false], false, [], []⟩, 4, c_times⟩
abbrev k_need_place : FnCode := ⟨⟨[false, false], false, [], []⟩, 2, c_need_place⟩
abbrev k_cell_count : FnCode := ⟨⟨[false], false, [], []⟩, 3, c_cell_count⟩
abbrev k_class_count : FnCode := ⟨⟨[false], false, [], []⟩, 3, c_class_count⟩
abbrev k_class_at : FnCode := ⟨⟨[false, false], false, [], []⟩, 5, c_class_at⟩
abbrev k_is_parting : FnCode := ⟨⟨[false, false], false, [], []⟩, 5, c_is_parting⟩
abbrev k_is_node : FnCode := ⟨⟨[false, false, false], false, [], []⟩, 3, c_is_node⟩
abbrev k_below : FnCode := ⟨⟨[false], false, [], []⟩, 2, c_below⟩
abbrev k_is_tree : FnCode := ⟨⟨[false, false, false], false, [], []⟩, 8, c_is_tree⟩
abbrev k_node_count : FnCode := ⟨⟨[false], false, [], []⟩, 2, c_node_count⟩
abbrev k_group_at : FnCode := ⟨⟨[false, false], false, [], []⟩, 4, c_group_at⟩
abbrev k_sign_of : FnCode := ⟨⟨[false, false, false, false], false, [], []⟩, 8, c_sign_of⟩
abbrev k_Scan___init__ : FnCode := ⟨⟨[true, false, false], false, [.tup [.str "places"]], []⟩, 4, c_Scan___init__⟩
abbrev k_Scan___call__ : FnCode := ⟨⟨[false, false, false], false, [], []⟩, 3, c_Scan___call__⟩
abbrev k__law_bag : FnCode := ⟨⟨[false], true, [], []⟩, 3, c__law_bag⟩
abbrev k__law_pull : FnCode := ⟨⟨[true, false], false, [], []⟩, 5, c__law_pull⟩
abbrev k__law_of : FnCode := ⟨⟨[true, false], false, [], []⟩, 2, c__law_of⟩
abbrev k__law_mixed : FnCode := ⟨⟨[true, false], false, [], []⟩, 4, c__law_mixed⟩
abbrev k__law_count : FnCode := ⟨⟨[false], false, [], []⟩, 3, c__law_count⟩
abbrev k__law_plus : FnCode := ⟨⟨[false, false], false, [], []⟩, 4, c__law_plus⟩
abbrev k__law_divisors : FnCode := ⟨⟨[true, false], false, [], []⟩, 6, c__law_divisors⟩
abbrev k__law_place : FnCode := ⟨⟨[true, false, false], false, [], []⟩, 4, c__law_place⟩
abbrev k__law_parts : FnCode := ⟨⟨[true, false, false], false, [], []⟩, 8, c__law_parts⟩
abbrev k__law_tree : FnCode := ⟨⟨[true, false, false], false, [], []⟩, 12, c__law_tree⟩
abbrev k__law_scan : FnCode := ⟨⟨[true, false], false, [], []⟩, 3, c__law_scan⟩
abbrev k_law : FnCode := ⟨⟨[false], false, [], []⟩, 15, c_law⟩
end Rv

/-! Rv: more codes of defs (printed by a program). -/
namespace Rv
open PySem
def c_plus : List Sx := [
  .ret (.callB "tuple" [(.comp (.bop .Add (.loc 2) (.loc 3)) (.tp [(.nm 2), (.nm 3)]) (.zip2 (.loc 0) (.loc 1)) [] [2, 3])])]
abbrev k_plus : FnCode := ⟨⟨[false, false], false, [], []⟩, 4, c_plus⟩
def c_is_look : List Sx := [
  .ite (.or (.not (.callF "are_numbers" [(.loc 0), (.loc 1)])) (.cmp .Eq (.loc 0) (.bop .Mult (.tup [(.con (.int (0)))]) (.loc 1)))) [
    .ret (.con (.bl false))] [
],
  .ret (.callB "all" [(.comp (.cmp .LtE (.callB "abs" [(.loc 2)]) (.glo "MAX_REACH")) (.nm 2) (.loc 0) [] [2])])]
abbrev k_is_look : FnCode := ⟨⟨[false, false], false, [], []⟩, 3, c_is_look⟩
def c_need_looks : List Sx := [
  .for (.tp [(.nm 2), (.nm 3)]) (.enm (.loc 0)) [
    .ite (.or (.not (.callF "is_look" [(.loc 3), (.loc 1)])) (.cmp .In (.loc 3) (.slc (.loc 0) false (.con .non) true (.loc 2)))) [
      .never] [
]],
  .ite (.not (.chn .LtE .LtE (.con (.int (1))) (.callB "len" [(.loc 0)]) (.glo "MAX_LOOKS"))) [
    .never] [
]]
abbrev k_need_looks : FnCode := ⟨⟨[false, false], false, [], []⟩, 4, c_need_looks⟩
def c_opposite : List Sx := [
  .ret (.callB "tuple" [(.comp (.neg (.loc 1)) (.nm 1) (.loc 0) [] [1])])]
abbrev k_opposite : FnCode := ⟨⟨[false], false, [], []⟩, 2, c_opposite⟩
def c_rests_at : List Sx := [
  .asg (.nm 2) (.lst []),
  .for (.nm 3) (.rev (.loc 0)) [
    .expr (.lm 2 "insert" [(.con (.int (0))), (.bop .Mod (.loc 1) (.loc 3))]),
    .aug 1 .FloorDiv (.loc 3)],
  .ret (.callB "tuple" [(.loc 2)])]
abbrev k_rests_at : FnCode := ⟨⟨[false, false], false, [], []⟩, 4, c_rests_at⟩
def c_Scan_divisors : List Sx := [
  .ret (.attr (.loc 0) "held_divisors")]
abbrev k_Scan_divisors : FnCode := ⟨⟨[false], false, [], []⟩, 1, c_Scan_divisors⟩
def c_Scan_directions : List Sx := [
  .ret (.callB "len" [(.attr (.loc 0) "held_divisors")])]
abbrev k_Scan_directions : FnCode := ⟨⟨[false], false, [], []⟩, 1, c_Scan_directions⟩
def c_is_word : List Sx := [
  .ret (.and (.callB "isinstance" [(.loc 0), (.typ "str")]) (.and (.cmp .Eq (.callB "len" [(.loc 0)]) (.loc 1)) (.callB "all" [(.comp (.cmp .In (.loc 2) (.con (.str "fu"))) (.nm 2) (.loc 0) [] [2])])))]
abbrev k_is_word : FnCode := ⟨⟨[false, false], false, [], []⟩, 3, c_is_word⟩
def c_word_of : List Sx := [
  .ret (.join "" [(.comp (.ite (.callO (.loc 0) [(.callF "plus" [(.loc 2), (.loc 3)]), (.loc 2)]) (.con (.str "f")) (.con (.str "u"))) (.nm 3) (.loc 1) [] [3])])]
abbrev k_word_of : FnCode := ⟨⟨[false, false, false], false, [], []⟩, 4, c_word_of⟩
def c_Table___init__ : List Sx := [
  .asg (.nm 4) (.callF "class_count" [(.loc 1)]),
  .expr (.callF "need_looks" [(.loc 2), (.callB "len" [(.loc 1)])]),
  .for (.tp [(.nm 5), (.nm 6)]) (.enm (.slc (.loc 3) false (.con .non) true (.loc 4))) [
    .ite (.not (.callF "is_word" [(.loc 6), (.callB "len" [(.loc 2)])])) [
      .never] [
]],
  .ite (.cmp .NotEq (.callB "len" [(.loc 3)]) (.loc 4)) [
    .never] [
],
  .setAttr 0 "held_divisors" (.loc 1),
  .setAttr 0 "held_looks" (.callB "list" [(.loc 2)]),
  .setAttr 0 "held_words" (.callB "list" [(.loc 3)])]
abbrev k_Table___init__ : FnCode := ⟨⟨[true, false, false, false], false, [], []⟩, 7, c_Table___init__⟩
def c_Table_of : List Sx := [
  .expr (.callF "need_looks" [(.loc 2), (.prp (.loc 1) "directions")]),
  .asg (.nm 3) (.comp (.callF "rests_at" [(.prp (.loc 1) "divisors"), (.loc 4)]) (.nm 4) (.rng1 (.callF "cell_count" [(.prp (.loc 1) "divisors")])) [] [4]),
  .ret (.callK 0 "Table" [(.prp (.loc 1) "divisors"), (.loc 2), (.comp (.callF "word_of" [(.loc 1), (.loc 2), (.loc 5)]) (.nm 5) (.loc 3) [] [5])])]
abbrev k_Table_of : FnCode := ⟨⟨[false, false, false], false, [], []⟩, 6, c_Table_of⟩
def c_Table_divisors : List Sx := [
  .ret (.attr (.loc 0) "held_divisors")]
abbrev k_Table_divisors : FnCode := ⟨⟨[false], false, [], []⟩, 1, c_Table_divisors⟩
def c_Table_sees : List Sx := [
  .expr (.callF "need_place" [(.loc 1), (.callB "len" [(.attr (.loc 0) "held_divisors")])]),
  .ite (.or (.not (.callF "is_look" [(.loc 2), (.callB "len" [(.attr (.loc 0) "held_divisors")])])) (.cmp .NotIn (.loc 2) (.attr (.loc 0) "held_looks"))) [
    .never] [
],
  .ret (.cmp .Eq (.sub (.sub (.attr (.loc 0) "held_words") (.callF "class_at" [(.attr (.loc 0) "held_divisors"), (.loc 1)])) (.lix (.attr (.loc 0) "held_looks") [(.loc 2)])) (.con (.str "f")))]
abbrev k_Table_sees : FnCode := ⟨⟨[false, false, false], false, [], []⟩, 3, c_Table_sees⟩
def c_Table_clashes : List Sx := [
  .asg (.nm 1) (.lst []),
  .for (.tp [(.nm 2), (.nm 3)]) (.enm (.attr (.loc 0) "held_words")) [
    .asg (.nm 4) (.callF "rests_at" [(.attr (.loc 0) "held_divisors"), (.loc 2)]),
    .for (.tp [(.nm 5), (.nm 6)]) (.zip2 (.attr (.loc 0) "held_looks") (.loc 3)) [
      .asg (.nm 7) (.callF "opposite" [(.loc 5)]),
      .ite (.and (.cmp .In (.loc 7) (.attr (.loc 0) "held_looks")) (.cmp .Eq (.meth (.loc 0) "sees" [(.callF "plus" [(.loc 4), (.loc 5)]), (.loc 7)]) (.cmp .Eq (.loc 6) (.con (.str "f"))))) [
        .expr (.lm 1 "append" [(.tup [(.loc 4), (.loc 5)])])] [
]]],
  .ret (.loc 1)]
abbrev k_Table_clashes : FnCode := ⟨⟨[false], true, [], []⟩, 8, c_Table_clashes⟩
def c__law_same : List Sx := [
  .ite (.or (.callB "isinstance" [(.loc 1), (.typ "list")]) (.callB "isinstance" [(.loc 1), (.typ "tuple")])) [
    .ite (.or (.cmp .NotEq (.callB "isinstance" [(.loc 0), (.typ "list")]) (.callB "isinstance" [(.loc 1), (.typ "list")])) (.cmp .NotEq (.callB "isinstance" [(.loc 0), (.typ "tuple")]) (.callB "isinstance" [(.loc 1), (.typ "tuple")]))) [
      .ret (.con (.bl false))] [
],
    .ret (.and (.cmp .Eq (.callB "len" [(.loc 0)]) (.callB "len" [(.loc 1)])) (.callB "all" [(.comp (.callP "_law_same" [(.loc 2), (.loc 3)]) (.tp [(.nm 2), (.nm 3)]) (.zip2 (.loc 0) (.loc 1)) [] [2, 3])]))] [
],
  .ite (.callB "isinstance" [(.loc 1), (.typ "dict")]) [
    .ret (.and (.callB "isinstance" [(.loc 0), (.typ "dict")]) (.and (.callP "_law_same" [(.callB "sorted" [(.callB "list" [(.loc 0)])]), (.callB "sorted" [(.callB "list" [(.loc 1)])])]) (.callB "all" [(.comp (.callP "_law_same" [(.sub (.loc 0) (.loc 4)), (.sub (.loc 1) (.loc 4))]) (.nm 4) (.callB "list" [(.loc 1)]) [] [4])])))] [
],
  .ite (.or (.cmp .Is (.loc 1) (.con .non)) (.cmp .Is (.loc 0) (.con .non))) [
    .ret (.and (.cmp .Is (.loc 1) (.con .non)) (.cmp .Is (.loc 0) (.con .non)))] [
],
  .ite (.or (.cmp .NotEq (.callB "isinstance" [(.loc 0), (.typ "bool")]) (.callB "isinstance" [(.loc 1), (.typ "bool")])) (.cmp .NotEq (.callB "isinstance" [(.loc 0), (.typ "int")]) (.callB "isinstance" [(.loc 1), (.typ "int")]))) [
    .ret (.con (.bl false))] [
],
  .ret (.and (.cmp .Eq (.callB "isinstance" [(.loc 0), (.typ "str")]) (.callB "isinstance" [(.loc 1), (.typ "str")])) (.cmp .Eq (.loc 0) (.loc 1)))]
abbrev k__law_same : FnCode := ⟨⟨[false, false], false, [], []⟩, 5, c__law_same⟩
def c__law_class : List Sx := [
  .asg (.nm 2) (.con (.int (0))),
  .for (.nm 3) (.rng1 (.callB "len" [(.loc 0)])) [
    .asg (.nm 2) (.bop .Add (.bop .Mult (.loc 2) (.sub (.loc 0) (.loc 3))) (.bop .Mod (.callB "int" [(.sub (.loc 1) (.loc 3))]) (.sub (.loc 0) (.loc 3))))],
  .ret (.loc 2)]
abbrev k__law_class : FnCode := ⟨⟨[false, false], false, [], []⟩, 4, c__law_class⟩
def c__law_cells : List Sx := [
  .asg (.nm 1) (.lst [(.tup [])]),
  .for (.nm 2) (.loc 0) [
    .asg (.nm 3) (.lst []),
    .for (.nm 4) (.loc 1) [
      .asg (.nm 3) (.bop .Add (.loc 3) (.comp (.bop .Add (.loc 4) (.tup [(.loc 5)])) (.nm 5) (.rng1 (.loc 2)) [] [5]))],
    .asg (.nm 1) (.loc 3)],
  .ret (.loc 1)]
abbrev k__law_cells : FnCode := ⟨⟨[false], false, [], []⟩, 6, c__law_cells⟩
def c__law_looks : List Sx := [
  .par 2 3 (.lst []) (.callF "_law_of" [(.loc 0), (.lst [(.con (.int (2))), (.con (.int (2))), (.con (.int (2))), (.con (.int (2))), (.con (.int (8)))])]),
  .for (.nm 4) (.rng1 (.bop .Add (.con (.int (1))) (.callF "_law_pull" [(.loc 0), (.con (.int (4)))]))) [
    .asg (.nm 5) (.callB "tuple" [(.comp (.bop .Sub (.callF "_law_pull" [(.loc 0), (.bop .Add (.bop .Mult (.con (.int (2))) (.loc 3)) (.con (.int (1))))]) (.loc 3)) (.nm 6) (.rng1 (.loc 1)) [] [6])]),
    .ite (.and (.cmp .NotEq (.loc 5) (.bop .Mult (.tup [(.con (.int (0)))]) (.loc 1))) (.cmp .NotIn (.loc 5) (.loc 2))) [
      .expr (.lm 2 "append" [(.loc 5)])] [
]],
  .ret (.ite (.cmp .NotEq (.loc 2) (.lst [])) (.loc 2) (.lst [(.bop .Add (.tup [(.con (.int (1)))]) (.bop .Mult (.tup [(.con (.int (0)))]) (.bop .Sub (.loc 1) (.con (.int (1))))))]))]
abbrev k__law_looks : FnCode := ⟨⟨[true, false], false, [], []⟩, 7, c__law_looks⟩
def c__law_words : List Sx := [
  .asg (.nm 3) (.lst []),
  .for (.nm 4) (.rng1 (.loc 1)) [
    .expr (.lm 3 "append" [(.join "" [(.comp (.sub (.lst [(.con (.str "f")), (.con (.str "u"))]) (.callF "_law_pull" [(.loc 0), (.con (.int (2)))])) (.nm 5) (.loc 2) [] [5])])])],
  .ret (.loc 3)]
abbrev k__law_words : FnCode := ⟨⟨[true, false, false], false, [], []⟩, 6, c__law_words⟩
def c_law_k20 : List Sx := [
  .asg (.nm 1) (.callF "_law_bag" [(.loc 0)]),
  .for (.nm 2) (.rng1 (.con (.int (6)))) [
    .asg (.nm 3) (.bop .Add (.con (.int (1))) (.callF "_law_pull" [(.loc 1), (.con (.int (3)))])),
    .par 4 5 (.callF "_law_divisors" [(.loc 1), (.loc 3)]) (.callF "_law_looks" [(.loc 1), (.loc 3)]),
    .asg (.nm 5) (.slc (.loc 5) false (.con .non) true (.con (.int (2)))),
    .for (.nm 6) (.callB "list" [(.loc 5)]) [
      .asg (.nm 7) (.callB "tuple" [(.comp (.neg (.loc 17)) (.nm 17) (.loc 6) [] [17])]),
      .ite (.and (.cmp .NotIn (.loc 7) (.loc 5)) (.cmp .Gt (.callF "_law_pull" [(.loc 1), (.con (.int (3)))]) (.con (.int (0))))) [
        .expr (.lm 5 "append" [(.loc 7)])] [
]],
    .asg (.nm 8) (.callF "_law_count" [(.loc 4)]),
    .asg (.nm 9) (.callF "_law_words" [(.loc 1), (.loc 8), (.loc 5)]),
    .asg (.nm 10) (.lst []),
    .for (.nm 11) (.callF "_law_cells" [(.loc 4)]) [
      .for (.nm 12) (.rng1 (.callB "len" [(.loc 5)])) [
        .asg (.nm 7) (.callB "tuple" [(.comp (.neg (.loc 17)) (.nm 17) (.sub (.loc 5) (.loc 12)) [] [17])]),
        .asg (.nm 13) (.callF "_law_class" [(.loc 4), (.callF "_law_plus" [(.loc 11), (.sub (.loc 5) (.loc 12))])]),
        .ite (.and (.cmp .In (.loc 7) (.loc 5)) (.cmp .Eq (.sub (.sub (.loc 9) (.loc 13)) (.lix (.loc 5) [(.loc 7)])) (.sub (.sub (.loc 9) (.callF "_law_class" [(.loc 4), (.loc 11)])) (.loc 12)))) [
          .expr (.lm 10 "append" [(.tup [(.loc 11), (.sub (.loc 5) (.loc 12))])])] [
]]],
    .asg (.nm 14) (.callC "Table" [(.loc 4), (.loc 5), (.loc 9)]),
    .asg (.nm 15) (.meth (.loc 14) "clashes" []),
    .ite (.not (.callP "_law_same" [(.loc 15), (.loc 10)])) [
      .ret (.con (.bl false))] [
],
    .expr (.lm 15 "append" [(.con .non)]),
    .asg (.nm 16) (.tup [(.loc 4), (.callF "_law_tree" [(.loc 1), (.loc 4), (.con (.int (3)))])]),
    .ite (.not (.callP "_law_same" [(.lst [(.meth (.loc 14) "clashes" []), (.meth (.clsm "Table" "of" [(.callC "Scan" [(.sub (.loc 16) (.con (.int (0)))), (.sub (.loc 16) (.con (.int (1))))]), (.loc 5)]) "clashes" [])]), (.lst [(.loc 10), (.lst [])])])) [
      .ret (.con (.bl false))] [
]],
  .ret (.cmp .Eq (.meth (.callC "Table" [(.tup [(.con (.int (1)))]), (.lst [(.tup [(.con (.int (1)))]), (.tup [(.neg (.con (.int (1))))])]), (.lst [(.con (.str "ff"))])]) "clashes" []) (.lst [(.tup [(.tup [(.con (.int (0)))]), (.tup [(.con (.int (1)))])]), (.tup [(.tup [(.con (.int (0)))]), (.tup [(.neg (.con (.int (1))))])])]))]
abbrev k_law_k20 : FnCode := ⟨⟨[false], false, [], []⟩, 18, c_law_k20⟩
end Rv

open Rv in
local macro_rules | `(tactic| walk_at "e") => `(tactic| with_reducible first
  | refine' wp_cons ?_
  | refine' aft_nx ?_
  | refine' aft_rt ?_
  | refine' aft_ct ?_
  | refine' aft_bk ?_
  | (refine' take_mk ?e ?m ?_; (case e => k_dflt exact rfl); (case m => k_dflt exact rfl))
  | (refine' w_lmX ?e ?_; (case e => k_dflt exact rfl))
  | refine' w_rng1 ?_
  | refine' w_lrg1 ?_
  | refine' w_enm ?_
  | refine' ws_setSubL ?_
  | (refine' sets_mk ?e ?f ?_; (case e => k_dflt exact rfl); (case f => k_dflt exact rfl))
  | (refine' ws_aug ?e ?_; (case e => k_dflt exact rfl))
  | (refine' aug_add ?e ?_; (case e => k_dflt exact rfl))
  | (refine' aug_sub ?e ?_; (case e => k_dflt exact rfl))
  | refine' wp_nil ?_
  | (refine' OKB_mk ?h ?_; (case h => k_dflt exact rfl))
  | refine ITE_nt ?_
  | refine ITE_nf ?_
  | refine ws_ret ?_
  | refine ws_ite ?_
  | refine ws_asg ?_
  | refine ws_expr ?_
  | refine ws_par ?_
  | refine ws_asgT ?_
  | refine' w_con ?_
  | (refine' w_fz ?e ?_; (case e => k_dflt exact rfl))
  | (refine' w_im ?e ?m ?_; (case e => k_dflt exact rfl); (case m => k_dflt exact rfl))
  | (refine' w_own ?e ?m ?_; (case e => k_dflt exact rfl); (case m => k_dflt exact rfl))
  | refine' w_glo ?_
  | refine' w_typ ?_
  | refine' w_bop ?_
  | refine' w_and ?_
  | refine' w_or ?_
  | refine' w_not ?_
  | refine' w_cmp ?_
  | refine' w_chn ?_
  | refine' w_ite ?_
  | refine' w_sub ?_
  | refine' w_slc ?_
  | refine' w_tup ?_
  | refine' w_lst ?_
  | refine' w_callB ?_
  | (refine' w_callF ?m ?_; (case m => k_dflt exact rfl))
  | refine fzs_nil ?_
  | refine fzs_cons ?_
  | refine evs_nil ?_
  | refine evs_cons ?_
  | refine evts_nil ?_
  | refine evts_cons ?_
  | refine args_nil ?_
  | refine args_fz ?_
  | (refine' args_own ?e ?_; (case e => k_dflt exact rfl))
  | refine FZ_fz ?_
  | refine FZ_fr ?_
  | (refine' FZ_var ?e ?_; (case e => k_dflt exact rfl))
  | refine KEEP_fz ?_
  | refine KEEP_fr ?_
  | (refine' KEEP_var ?e ?_; (case e => k_dflt exact rfl))
  | refine ITE_tt ?_
  | refine ITE_ff ?_
  | refine nx_nx ?_
  | refine nx_rt ?_
  | refine tru_bl ?_
  | refine' w_neg ?_
  | refine' w_attr ?_
  | refine bop_add ?_
  | refine bop_sub ?_
  | refine cmp_eq ?_
  | refine cmp_ne ?_
  | refine cmp_lt ?_
  | refine cmp_le ?_
  | refine cmp_gt ?_
  | refine cmp_ge ?_
  | refine' w_items ?_
  | refine' w_zip2 ?_
  | (refine' biv_Bl biv_isi ?a ?b ?_; (case a => k_dflt exact rfl); (case b => k_dflt exact rfl))
  | (refine' biv_In biv_len ?a ?b ?_; (case a => k_dflt exact rfl); (case b => k_dflt exact rfl))
  | (refine' biv_In biv_int ?a ?b ?_; (case a => k_dflt exact rfl); (case b => k_dflt exact rfl))
  | (refine' biv_In biv_abs ?a ?b ?_; (case a => k_dflt exact rfl); (case b => k_dflt exact rfl))
  | (refine' biv_In biv_min ?a ?b ?_; (case a => k_dflt exact rfl); (case b => k_dflt exact rfl))
  | (refine' biv_In biv_max ?a ?b ?_; (case a => k_dflt exact rfl); (case b => k_dflt exact rfl))
  | (refine' biv_Tu biv_tuple ?a ?b ?_; (case a => k_dflt exact rfl); (case b => k_dflt exact rfl))
  | (refine' biv_Ls biv_list ?a ?b ?_; (case a => k_dflt exact rfl); (case b => k_dflt exact rfl))
  | (refine' biv_Bl biv_all ?a (allV_map _ _) ?_; (case a => k_dflt exact rfl))
  | (refine' biv_Bl biv_any ?a (anyV_map _ _) ?_; (case a => k_dflt exact rfl))
  | (refine' biv_In biv_sum ?a (sumV_map _ _) ?_; (case a => k_dflt exact rfl))
  | (refine' ITE_no ?h ?_; (case h => k_dflt exact rfl))
  | (refine' ITE_yes ?h ?_; (case h => k_dflt exact rfl)))

/-! Rv, plain part 4: numbers, places. -/
namespace Rv
open PySem
def tupI (xs : List Int) : Val := .tup (xs.map .int)
/-- a number that may be multiplied -/
def Sm (x : Int) : Prop := x.natAbs < 2 ^ 400000
def Sms (xs : List Int) : Prop := ∀ x ∈ xs, Sm x
theorem Sm.mul {x y : Int} (hx : Sm x) (hy : Sm y) : mulOk x y = true := mulOk_of hx hy
theorem sm_of {x : Int} (b : Nat) (h : x.natAbs < 2 ^ b) (hb : b ≤ 400000) : Sm x := Nat.lt_of_lt_of_le h (Nat.pow_le_pow_right (by decide) hb)
theorem sm_big : (2 : Nat) ^ 64 ≤ 2 ^ 400000 := Nat.pow_le_pow_right (by decide) (by decide)
theorem sm_small {x : Int} (h : x.natAbs < 18446744073709551616) : Sm x := Nat.lt_of_lt_of_le h sm_big
def dot (xs ys : List Int) : Int := ((xs.zip ys).map fun p => p.1 * p.2).sum
def prod (xs : List Int) : Int := xs.foldl (· * ·) 1
def clsAt (D p : List Int) : Int := (p.zip D).foldl (fun f q => f * q.2 + q.1 % q.2) 0
/-- divisors -/
structure Dok (D : List Int) : Prop where
  l1 : 1 ≤ D.length
  l3 : D.length ≤ 3
  pos : ∀ d ∈ D, 0 < d
  sm : prod D < 2 ^ 1000
theorem foldl_mul : ∀ (xs : List Int) (a : Int), xs.foldl (· * ·) a = a * prod xs
  | [], a => (Int.mul_one a).symm
  | x :: xs, a => by
    show xs.foldl (· * ·) (a * x) = a * xs.foldl (· * ·) (1 * x)
    rw [foldl_mul xs (a * x), foldl_mul xs (1 * x), Int.one_mul, Int.mul_assoc]
theorem prod_cons {x : Int} {xs : List Int} : prod (x :: xs) = x * prod xs := by
  show xs.foldl (· * ·) (1 * x) = _
  rw [foldl_mul, Int.one_mul]
theorem prod_nil : prod [] = 1 := rfl
theorem prod_pos : ∀ {xs : List Int}, (∀ x ∈ xs, 0 < x) → 0 < prod xs
  | [], _ => by decide
  | x :: xs, h => by
    rw [prod_cons]
    exact Int.mul_pos (h x List.mem_cons_self) (prod_pos fun y hy => h y (List.mem_cons_of_mem _ hy))
theorem le_prod : ∀ {xs : List Int}, (∀ x ∈ xs, 0 < x) → ∀ x ∈ xs, x ≤ prod xs
  | y :: xs, h, x, hx => by
    rw [prod_cons]
    have h0 := h y List.mem_cons_self
    have h1 := prod_pos fun z hz => h z (List.mem_cons_of_mem _ hz)
    rcases List.mem_cons.mp hx with rfl | hx
    · have := Int.mul_le_mul_of_nonneg_left (show 1 ≤ prod xs by omega) (show 0 ≤ x by omega)
      omega
    · have h2 := le_prod (fun z hz => h z (List.mem_cons_of_mem _ hz)) x hx
      have := Int.mul_le_mul_of_nonneg_right (show 1 ≤ y by omega) (show 0 ≤ prod xs by omega)
      omega
theorem prod_le_append {xs ys : List Int} (h : ∀ x ∈ ys, 0 < x) (hx : ∀ x ∈ xs, 0 < x) : prod xs ≤ prod (xs ++ ys) := by
  have e : prod (xs ++ ys) = prod xs * prod ys := by
    unfold prod
    rw [List.foldl_append, foldl_mul]
    rfl
  rw [e]
  have h1 := prod_pos h
  have h2 := prod_pos hx
  have := Int.mul_le_mul_of_nonneg_left (show 1 ≤ prod ys by omega) (show 0 ≤ prod xs by omega)
  omega
theorem sm_le {x : Int} (h0 : 0 ≤ x) (h : x < 2 ^ 1000) : Sm x := sm_of 1000 (by omega) (by decide)
theorem clsAt_lt : ∀ (D p : List Int) (a b : Int), (∀ d ∈ D, 0 < d) → p.length = D.length → 0 ≤ a → a < b → 0 ≤ (p.zip D).foldl (fun f q => f * q.2 + q.1 % q.2) a ∧ (p.zip D).foldl (fun f q => f * q.2 + q.1 % q.2) a < b * prod D
  | [], p, a, b, _, _, h0, h1 => by
    rw [List.zip_nil_right, prod_nil, Int.mul_one]
    exact ⟨h0, h1⟩
  | d :: D, [], a, b, _, hl, _, _ => nomatch hl
  | d :: D, x :: p, a, b, hd, hl, h0, h1 => by
    have d0 := hd d List.mem_cons_self
    have m1 := Int.emod_nonneg x (show d ≠ 0 by omega)
    have m2 := Int.emod_lt_of_pos x d0
    have z1 : 0 ≤ a * d := Int.mul_nonneg h0 (by omega)
    have z2 : (a + 1) * d ≤ b * d := Int.mul_le_mul_of_nonneg_right (by omega) (by omega)
    rw [Int.add_mul, Int.one_mul] at z2
    have := clsAt_lt D p (a * d + x % d) (b * d) (fun z hz => hd z (List.mem_cons_of_mem _ hz)) (Nat.succ.inj hl) (by omega) (by omega)
    rw [prod_cons, ← Int.mul_assoc]
    exact this
theorem clsAt_bd {D p : List Int} (hD : Dok D) (hl : p.length = D.length) : 0 ≤ clsAt D p ∧ clsAt D p < prod D := by
  have := clsAt_lt D p 0 1 hD.pos hl (by decide) (by decide)
  rw [Int.one_mul] at this
  exact this

section
variable {T : Tab}
theorem is_number_int [HasFn T "is_number" k_is_number] {n : Nat} {i : Int} : callN T (n + 1) "is_number" [.int i] = .ok (.bl true) [] := by
  refine call_of (fun c => c = _) HasFn.eq (by rfl) ?_
  show WP (evSs _ _ c_is_number [some (.int i, false)]) _ _
  unfold c_is_number
  repeat walk_at "e"
  exact out_fz rfl rfl
theorem are_numbers_int [HasFn T "is_number" k_is_number] [HasFn T "are_numbers" k_are_numbers] {n : Nat} {xs : List Int} {k : Int} (hk : (xs.length : Int) = k) (hb : xs.length ≤ big) : callN T (n + 2) "are_numbers" [tupI xs, .int k] = .ok (.bl true) [] := by
  refine call_of (fun c => c = _) HasFn.eq (by rfl) ?_
  show WP (evSs _ _ c_are_numbers [some (tupI xs, false), some (.int k, false), none]) _ _
  unfold c_are_numbers tupI
  repeat walk_at "e"
  refine ITE_yes (by rw [List.length_map, hk]; simp) ?_
  repeat walk_at "e"
  refine w_compM (as := xs) (g := .int) (f := fun _ => .bl true) (ρ1 := [some (.tup (xs.map .int), false), some (.int k, false), none]) ?_ hb ?_ ?_
  · repeat walk_at "e"
    exact items_fz rfl ⟨rfl, rfl⟩
  · intro a ha
    refine ⟨[some (.tup (xs.map .int), false), some (.int k, false), some (.int a, false)], rfl, ?_⟩
    repeat walk_at "e"
    refine call_v is_number_int rfl rfl rfl ?_
    repeat walk_at "e"
    exact ⟨rfl, rfl⟩
  · repeat walk_at "e"
    refine (out_fz rfl rfl).trans ?_
    simp
theorem times_ok [HasFn T "times" k_times] {n : Nat} {xs ys : List Int} (hb : xs.length ≤ big) (hx : Sms xs) (hy : Sms ys) : callN T (n + 1) "times" [tupI xs, tupI ys] = .ok (.int (dot xs ys)) [] := by
  refine call_of (fun c => c = _) HasFn.eq (by rfl) ?_
  show WP (evSs _ _ c_times [some (tupI xs, false), some (tupI ys, false), none, none]) _ _
  unfold c_times tupI
  repeat walk_at "e"
  refine w_compM (as := xs.zip ys) (g := fun p => .tup [.int p.1, .int p.2]) (f := fun p => .int (p.1 * p.2)) (ρ1 := [some (.tup (xs.map .int), false), some (.tup (ys.map .int), false), none, none]) ?_ ?_ ?_ ?_
  · repeat walk_at "e"
    refine ⟨zipV (xs.map .int) (ys.map .int), rfl, items_fz rfl ⟨zipV_map _ _ _ _, rfl⟩⟩
  · rw [List.length_zip]; omega
  · intro a ha
    refine ⟨[some (.tup (xs.map .int), false), some (.tup (ys.map .int), false), some (.int a.1, false), some (.int a.2, false)], rfl, ?_⟩
    repeat walk_at "e"
    refine bop_mul (Sm.mul (hx _ (List.of_mem_zip ha).1) (hy _ (List.of_mem_zip ha).2)) ?_
    repeat walk_at "e"
    exact ⟨rfl, rfl⟩
  · repeat walk_at "e"
    exact out_fz rfl rfl
theorem need_place_ok [HasFn T "is_number" k_is_number] [HasFn T "are_numbers" k_are_numbers] [HasFn T "need_place" k_need_place] {n : Nat} {xs : List Int} {k : Int} (hk : (xs.length : Int) = k) (hb : xs.length ≤ big) : callN T (n + 3) "need_place" [tupI xs, .int k] = .ok .non [] := by
  refine call_of (fun c => c = _) HasFn.eq (by rfl) ?_
  show WP (evSs _ _ c_need_place [some (tupI xs, false), some (.int k, false)]) _ _
  unfold c_need_place
  repeat walk_at "e"
  refine call_v (are_numbers_int hk hb) rfl rfl rfl ?_
  repeat walk_at "e"
  exact out_nx rfl
theorem cell_count_ok [HasFn T "cell_count" k_cell_count] {n : Nat} {D : List Int} (hD : ∀ d ∈ D, 0 < d) (hs : prod D < 2 ^ 1000) : callN T (n + 1) "cell_count" [tupI D] = .ok (.int (prod D)) [] := by
  refine call_of (fun c => c = _) HasFn.eq (by rfl) ?_
  show WP (evSs _ _ c_cell_count [some (tupI D, false), none, none]) _ _
  unfold c_cell_count tupI
  repeat walk_at "e"
  refine wp_for (fun rest ρ => ∃ pre suf lv, D = pre ++ suf ∧ rest = suf.map .int ∧ ρ = [some (.tup (D.map .int), false), some (.int (prod pre), false), lv]) ?_ ?_ ?_
  · repeat walk_at "e"
    exact items_fz rfl ⟨[], D, none, rfl, rfl, rfl⟩
  · rintro x xs ρ ⟨pre, suf, lv, h1, h2, rfl⟩
    cases suf with
    | nil => cases h2
    | cons d suf =>
      cases h2
      refine ⟨_, rfl, ?_⟩
      have hp : ∀ d ∈ pre, 0 < d := fun z hz => hD z (by rw [h1]; exact List.mem_append_left _ hz)
      have hd : 0 < d := hD d (by rw [h1]; exact List.mem_append_right _ List.mem_cons_self)
      have h3 : prod pre < 2 ^ 1000 := Int.lt_of_le_of_lt (by rw [h1]; exact prod_le_append (fun z hz => hD z (by rw [h1]; exact List.mem_append_right _ hz)) hp) hs
      have h4 : d < 2 ^ 1000 := Int.lt_of_le_of_lt (le_prod hD d (by rw [h1]; exact List.mem_append_right _ List.mem_cons_self)) hs
      have h5 := prod_pos hp
      repeat walk_at "e"
      refine aug_mul rfl (Sm.mul (sm_le (by omega) h3) (sm_le (by omega) h4)) ?_
      repeat walk_at "e"
      refine ⟨pre ++ [d], suf, some (.int d, false), by rw [h1, List.append_assoc]; rfl, rfl, ?_⟩
      rw [show prod (pre ++ [d]) = prod pre * d by unfold prod; rw [List.foldl_append]; rfl]
      rfl
  · rintro ρ ⟨pre, suf, lv, h1, h2, rfl⟩
    cases suf with
    | cons d suf => cases h2
    | nil =>
      rw [List.append_nil] at h1
      subst h1
      repeat walk_at "e"
      exact out_fz rfl rfl
theorem class_count_ok [HasFn T "is_number" k_is_number] [HasFn T "cell_count" k_cell_count] [HasFn T "class_count" k_class_count] [HasCon T "MAX_DIRECTIONS" (.int 3)] [HasCon T "MAX_CLASSES" (.int 12)] {n : Nat} {D : List Int} (hD : Dok D) (h12 : prod D ≤ 12) : callN T (n + 2) "class_count" [tupI D] = .ok (.int (prod D)) [] := by
  refine call_of (fun c => c = _) HasFn.eq (by rfl) ?_
  show WP (evSs _ _ c_class_count [some (tupI D, false), none, none]) _ _
  have l1 := hD.l1
  have l3 := hD.l3
  unfold c_class_count tupI
  repeat walk_at "e"
  refine ITE_yes (by rw [List.length_map]; exact decide_eq_true (by omega)) ?_
  repeat walk_at "e"
  refine ITE_no (by rw [List.length_map, decide_eq_true (by omega)]; rfl) ?_
  repeat walk_at "e"
  refine w_compM (as := D) (g := .int) (f := fun _ => .bl true) (ρ1 := [some (.tup (D.map .int), false), none, none]) ?_ (by show _ ≤ 16777216; omega) ?_ ?_
  · repeat walk_at "e"
    exact items_fz rfl ⟨rfl, rfl⟩
  · intro a ha
    refine ⟨[some (.tup (D.map .int), false), none, some (.int a, false)], rfl, ?_⟩
    repeat walk_at "e"
    refine call_v is_number_int rfl rfl rfl ?_
    repeat walk_at "e"
    exact ⟨by rw [decide_eq_true (hD.pos a ha)], rfl⟩
  · repeat walk_at "e"
    refine ITE_no (by simp) ?_
    repeat walk_at "e"
    refine call_v (cell_count_ok hD.pos hD.sm) rfl rfl rfl ?_
    repeat walk_at "e"
    refine ITE_no (by simp; omega) ?_
    repeat walk_at "e"
    exact out_fz rfl rfl
theorem class_at_ok [HasFn T "class_at" k_class_at] {n : Nat} {D p : List Int} (hD : Dok D) (hl : p.length = D.length) : callN T (n + 1) "class_at" [tupI D, tupI p] = .ok (.int (clsAt D p)) [] := by
  refine call_of (fun c => c = _) HasFn.eq (by rfl) ?_
  show WP (evSs _ _ c_class_at [some (tupI D, false), some (tupI p, false), none, none, none]) _ _
  unfold c_class_at tupI
  repeat walk_at "e"
  refine wp_for (fun rest ρ => ∃ pre suf lv lw, p.zip D = pre ++ suf ∧ rest = suf.map (fun q => .tup [.int q.1, .int q.2]) ∧ ρ = [some (.tup (D.map .int), false), some (.tup (p.map .int), false), some (.int (pre.foldl (fun f q => f * q.2 + q.1 % q.2) 0), false), lv, lw] ∧ 0 ≤ pre.foldl (fun f q => f * q.2 + q.1 % q.2) 0 ∧ pre.foldl (fun f q => f * q.2 + q.1 % q.2) 0 < prod D) ?_ ?_ ?_
  · repeat walk_at "e"
    refine ⟨zipV (p.map .int) (D.map .int), rfl, items_fz rfl ⟨[], p.zip D, none, none, rfl, zipV_map _ _ _ _, rfl, by decide, prod_pos hD.pos⟩⟩
  · rintro x xs ρ ⟨pre, suf, lv, lw, h1, h2, rfl, h3, h4⟩
    cases suf with
    | nil => cases h2
    | cons q suf =>
      cases h2
      refine ⟨_, rfl, ?_⟩
      have hq : q ∈ p.zip D := by rw [h1]; exact List.mem_append_right _ List.mem_cons_self
      have hd : 0 < q.2 := hD.pos _ (List.of_mem_zip hq).2
      have h5 : q.2 ≤ prod D := le_prod hD.pos _ (List.of_mem_zip hq).2
      have hs := hD.sm
      repeat walk_at "e"
      refine bop_mul (Sm.mul (sm_le h3 (by omega)) (sm_le (by omega) (by omega))) ?_
      repeat walk_at "e"
      refine bop_mod hd ?_
      repeat walk_at "e"
      refine ⟨pre ++ [q], suf, some (.int q.1, false), some (.int q.2, false), by rw [h1, List.append_assoc]; rfl, rfl, by rw [List.foldl_append]; rfl, ?_⟩
      -- the bound
      have hp : (pre ++ [q]) = (p.take (pre.length + 1)).zip (D.take (pre.length + 1)) := by
        have : (p.zip D).take (pre.length + 1) = pre ++ [q] := by
          rw [h1, List.take_append, List.take_of_length_le (by omega), show pre.length + 1 - pre.length = 1 by omega]
          rfl
        rw [← this, List.zip, List.take_zipWith]
      rw [hp]
      have hb := clsAt_lt (D.take (pre.length + 1)) (p.take (pre.length + 1)) 0 1 (fun d hd => hD.pos d (List.mem_of_mem_take hd)) (by rw [List.length_take, List.length_take, hl]) (by decide) (by decide)
      refine ⟨hb.1, Int.lt_of_lt_of_le hb.2 ?_⟩
      rw [Int.one_mul]
      have := prod_le_append (xs := D.take (pre.length + 1)) (ys := D.drop (pre.length + 1)) (fun d hd => hD.pos d (List.mem_of_mem_drop hd)) (fun d hd => hD.pos d (List.mem_of_mem_take hd))
      rwa [List.take_append_drop] at this
  · rintro ρ ⟨pre, suf, lv, lw, h1, h2, rfl, h3, h4⟩
    cases suf with
    | cons d suf => cases h2
    | nil =>
      rw [List.append_nil] at h1
      repeat walk_at "e"
      rw [← h1]
      exact out_fz rfl rfl
end
end Rv

/-! Rv, plain part 5: the law's bag. -/
namespace Rv
open PySem
/-- a law's bag: cells, the place, the great number, the salt -/
structure Bag where
  cells : List Int
  pos : Nat
  grt : Int
  salt : Int
def Bag.v (b : Bag) : Val := .lst [.lst (b.cells.map .int), .int b.pos, .int b.grt, .int b.salt]
structure Bag.Ok (b : Bag) : Prop where
  g0 : 0 ≤ b.grt
  s0 : 0 ≤ b.salt
  s1 : b.salt < 2147483647
  len : b.cells.length ≤ 63
theorem bag_mut (b : Bag) : b.v.mut = true := rfl
theorem mod_lt' (x : Int) {m : Int} (h : 0 < m) : 0 ≤ x % m ∧ x % m < m := ⟨Int.emod_nonneg x (by omega), Int.emod_lt_of_pos x h⟩
section
variable {T : Tab}
theorem pull_ok [HasFn T "_law_pull" k__law_pull] {n : Nat} {b : Bag} (hb : b.Ok) {amt : Int} (ha : 0 < amt) (hm : amt < 2 ^ 1000) :
    ∃ (r : Int) (b' : Bag), 0 ≤ r ∧ r < amt ∧ b'.Ok ∧ callN T (n + 1) "_law_pull" [b.v, .int amt] = .ok (.int r) [b'.v] := by
  have s0 := hb.s0
  have s1 := hb.s1
  have sal : ∀ x : Int, (⟨b.cells, b.pos + 1, b.grt, x % 2147483647⟩ : Bag).Ok := fun x => ⟨hb.g0, (mod_lt' x (by decide)).1, (mod_lt' x (by decide)).2, hb.len⟩
  -- the end: what is drawn of the bag as it then is
  have fin : ∀ (b : Bag), b.Ok → ∀ lv, ∃ (r : Int) (b' : Bag), 0 ≤ r ∧ r < amt ∧ b'.Ok ∧ WP (evSs (T.ctx (callN T n)) T.fuel [
  .ite (.cmp .Gt (.sub (.loc 0) (.con (.int (2)))) (.con (.int (0)))) [
    .asg (.nm 3) (.bop .Mod (.callB "int" [(.sub (.loc 0) (.con (.int (2))))]) (.loc 1)),
    .setSub 0 (.con (.int (2))) (.bop .FloorDiv (.sub (.loc 0) (.con (.int (2)))) (.loc 1)),
    .ret (.loc 3)] [
],
  .asg (.nm 4) (.sub (.loc 0) (.con (.int (3)))),
  .setSub 0 (.con (.int (3))) (.bop .Mod (.callB "int" [(.bop .Add (.bop .Add (.bop .Mult (.loc 4) (.loc 4)) (.bop .Mult (.loc 4) (.con (.int (48271))))) (.con (.int (1013904223))))]) (.con (.int (2147483647)))),
  .ret (.bop .Mod (.callB "int" [(.bop .Add (.bop .FloorDiv (.sub (.loc 0) (.con (.int (3)))) (.con (.int (97)))) (.bop .Mult (.bop .Mod (.callB "int" [(.sub (.loc 0) (.con (.int (3))))]) (.con (.int (8191)))) (.con (.int (67)))))]) (.loc 1))] [some (b.v, true), some (.int amt, false), lv, none, none]) (fun a ρ => outFn k__law_pull.info (.ok a ρ) = .ok (.int r) [b'.v]) (fun a ρ => outFn k__law_pull.info (.exc a ρ) = .ok (.int r) [b'.v]) := by
    intro b hb lv
    have s0 := hb.s0
    have s1 := hb.s1
    have g0 := hb.g0
    by_cases hg : 0 < b.grt
    · refine ⟨b.grt % amt, ⟨b.cells, b.pos, b.grt / amt, b.salt⟩, (mod_lt' _ ha).1, (mod_lt' _ ha).2, ⟨Int.ediv_nonneg g0 (by omega), s0, s1, hb.len⟩, ?_⟩
      unfold Bag.v
      repeat walk_at "e"
      refine sub_of rfl rfl rfl ?_
      repeat walk_at "e"
      refine ITE_yes (decide_eq_true hg) ?_
      repeat walk_at "e"
      refine sub_of rfl rfl rfl ?_
      repeat walk_at "e"
      refine bop_mod ha ?_
      repeat walk_at "e"
      repeat walk_at "e"
      refine sub_of rfl rfl rfl ?_
      repeat walk_at "e"
      refine bop_div (divOk_of ha (Nat.lt_of_lt_of_le (show amt.natAbs < 2 ^ 1000 by omega) (Nat.pow_le_pow_right (by decide) (by decide)))) ?_
      repeat walk_at "e"
      exact out_fz rfl rfl
    · refine ⟨((b.salt * b.salt + b.salt * 48271 + 1013904223) % 2147483647 / 97 + (b.salt * b.salt + b.salt * 48271 + 1013904223) % 2147483647 % 8191 * 67) % amt, ⟨b.cells, b.pos, b.grt, (b.salt * b.salt + b.salt * 48271 + 1013904223) % 2147483647⟩, (mod_lt' _ ha).1, (mod_lt' _ ha).2, ⟨hb.g0, (mod_lt' _ (by decide)).1, (mod_lt' _ (by decide)).2, hb.len⟩, ?_⟩
      unfold Bag.v
      repeat walk_at "e"
      refine sub_of rfl rfl rfl ?_
      repeat walk_at "e"
      refine ITE_no (decide_eq_false hg) ?_
      repeat walk_at "e"
      refine sub_of rfl rfl rfl ?_
      repeat walk_at "e"
      repeat walk_at "e"
      refine bop_mul (Sm.mul (sm_small (by omega)) (sm_small (by omega))) ?_
      repeat walk_at "e"
      refine bop_mul (Sm.mul (sm_small (by omega)) (sm_small (by omega))) ?_
      repeat walk_at "e"
      refine bop_mod (by decide) ?_
      repeat walk_at "e"
      refine sub_of rfl rfl rfl ?_
      repeat walk_at "e"
      refine bop_div (divOk_of (by decide) (Nat.lt_of_lt_of_le (show (97 : Int).natAbs < 2 ^ 64 by decide) (Nat.pow_le_pow_right (by decide) (by decide)))) ?_
      repeat walk_at "e"
      refine sub_of rfl rfl rfl ?_
      repeat walk_at "e"
      refine bop_mod (by decide) ?_
      repeat walk_at "e"
      refine bop_mul (Sm.mul (sm_small (by have := mod_lt' ((b.salt * b.salt + b.salt * 48271 + 1013904223) % 2147483647) (show (0 : Int) < 8191 by decide); omega)) (sm_small (by decide))) ?_
      repeat walk_at "e"
      refine bop_mod ha ?_
      repeat walk_at "e"
      exact out_fz rfl rfl
  by_cases hc : b.grt = 0 ∧ (b.pos : Int) < b.cells.length
  · -- the next cell
    obtain ⟨hg, hp⟩ := hc
    obtain ⟨x, hx⟩ : ∃ x, b.cells[b.pos]? = some x := ⟨_, List.getElem?_eq_getElem (by omega)⟩
    by_cases hbig : (10 : Int) ^ 18 ≤ x
    · obtain ⟨r, b', r0, r1, ok', w⟩ := fin ⟨b.cells, b.pos + 1, x, b.salt⟩ ⟨Int.le_trans (by decide) hbig, s0, s1, hb.len⟩ (some (.int x, false))
      refine ⟨r, b', r0, r1, ok', ?_⟩
      refine call_of (fun c => c = _) HasFn.eq (by rfl) ?_
      show WP (evSs _ _ c__law_pull [some (b.v, true), some (.int amt, false), none, none, none]) _ _
      unfold c__law_pull
      refine wp_cons ?_
      refine WP.imp (Q := fun f ρ => f = .nx ∧ ρ = [some ((⟨b.cells, b.pos + 1, x, b.salt⟩ : Bag).v, true), some (.int amt, false), some (.int x, false), none, none]) (E := fun _ _ => False) ?_ (fun f ρ q => by obtain ⟨rfl, rfl⟩ := q; exact w) (fun _ _ z => z.elim)
      unfold Bag.v
      repeat walk_at "e"
      refine sub_of rfl rfl rfl ?_
      repeat walk_at "e"
      refine ITE_yes (decide_eq_true hg) ?_
      repeat walk_at "e"
      refine sub_of rfl rfl rfl ?_
      repeat walk_at "e"
      refine sub_of rfl rfl rfl ?_
      repeat walk_at "e"
      refine ITE_yes (decide_eq_true (by rw [List.length_map]; exact hp)) ?_
      repeat walk_at "e"
      refine sub_of rfl rfl rfl ?_
      repeat walk_at "e"
      refine sub_of rfl rfl rfl ?_
      refine sub_of (u := .int x) rfl rfl (atI_nat (by rw [List.getElem?_map, hx]; rfl)) ?_
      repeat walk_at "e"
      repeat walk_at "e"
      refine sub_of rfl rfl rfl ?_
      repeat walk_at "e"
      refine bop_pow (by decide) ?_
      repeat walk_at "e"
      refine ITE_yes (decide_eq_true hbig) ?_
      repeat walk_at "e"
      repeat walk_at "e"
      exact ⟨rfl, rfl⟩
    · obtain ⟨r, b', r0, r1, ok', w⟩ := fin ⟨b.cells, b.pos + 1, b.grt, (b.salt * 40692 + x % 2147483579 * 69621 + 11) % 2147483647⟩ (sal _) (some (.int x, false))
      refine ⟨r, b', r0, r1, ok', ?_⟩
      have hxm := mod_lt' x (show (0 : Int) < 2147483579 by decide)
      refine call_of (fun c => c = _) HasFn.eq (by rfl) ?_
      show WP (evSs _ _ c__law_pull [some (b.v, true), some (.int amt, false), none, none, none]) _ _
      unfold c__law_pull
      refine wp_cons ?_
      refine WP.imp (Q := fun f ρ => f = .nx ∧ ρ = [some ((⟨b.cells, b.pos + 1, b.grt, (b.salt * 40692 + x % 2147483579 * 69621 + 11) % 2147483647⟩ : Bag).v, true), some (.int amt, false), some (.int x, false), none, none]) (E := fun _ _ => False) ?_ (fun f ρ q => by obtain ⟨rfl, rfl⟩ := q; exact w) (fun _ _ z => z.elim)
      unfold Bag.v
      repeat walk_at "e"
      refine sub_of rfl rfl rfl ?_
      repeat walk_at "e"
      refine ITE_yes (decide_eq_true hg) ?_
      repeat walk_at "e"
      refine sub_of rfl rfl rfl ?_
      repeat walk_at "e"
      refine sub_of rfl rfl rfl ?_
      repeat walk_at "e"
      refine ITE_yes (decide_eq_true (by rw [List.length_map]; exact hp)) ?_
      repeat walk_at "e"
      refine sub_of rfl rfl rfl ?_
      repeat walk_at "e"
      refine sub_of rfl rfl rfl ?_
      refine sub_of (u := .int x) rfl rfl (atI_nat (by rw [List.getElem?_map, hx]; rfl)) ?_
      repeat walk_at "e"
      repeat walk_at "e"
      refine sub_of rfl rfl rfl ?_
      repeat walk_at "e"
      refine bop_pow (by decide) ?_
      repeat walk_at "e"
      refine ITE_no (decide_eq_false hbig) ?_
      repeat walk_at "e"
      repeat walk_at "e"
      refine sub_of rfl rfl rfl ?_
      repeat walk_at "e"
      refine bop_mul (Sm.mul (sm_small (by omega)) (sm_small (by decide))) ?_
      repeat walk_at "e"
      refine bop_mod (by decide) ?_
      repeat walk_at "e"
      refine bop_mul (Sm.mul (sm_small (by omega)) (sm_small (by decide))) ?_
      repeat walk_at "e"
      refine bop_mod (by decide) ?_
      repeat walk_at "e"
      exact ⟨rfl, rfl⟩
  · obtain ⟨r, b', r0, r1, ok', w⟩ := fin b hb none
    refine ⟨r, b', r0, r1, ok', ?_⟩
    refine call_of (fun c => c = _) HasFn.eq (by rfl) ?_
    show WP (evSs _ _ c__law_pull [some (b.v, true), some (.int amt, false), none, none, none]) _ _
    unfold c__law_pull
    walk_at "e"
    walk_at "e"
    refine WP.imp (Q := fun x ρ => x = ⟨.bl false, .fz⟩ ∧ ρ = [some (b.v, true), some (.int amt, false), none, none, none]) (E := fun _ _ => False) ?_ (fun x ρ q => ?_) fun _ _ z => z.elim
    · unfold Bag.v
      repeat walk_at "e"
      refine sub_of rfl rfl rfl ?_
      repeat walk_at "e"
      refine ITE_of (fun h => ?_) fun h => ⟨by rw [h], rfl⟩
      have h := of_decide_eq_true h
      repeat walk_at "e"
      refine sub_of rfl rfl rfl ?_
      repeat walk_at "e"
      refine sub_of rfl rfl rfl ?_
      repeat walk_at "e"
      refine ⟨?_, rfl⟩
      rw [decide_eq_false (by rw [List.length_map]; exact fun z => hc ⟨h, z⟩)]
    · obtain ⟨rfl, rfl⟩ := q
      walk_at "e"
      walk_at "e"
      walk_at "e"
      walk_at "e"
      exact w
end
end Rv

/-! Rv, plain part 6: drawn divisors, places, parts. -/
namespace Rv
open PySem
section
variable {T : Tab}
theorem bag_ok [HasFn T "_law_bag" k__law_bag] {n : Nat} {ns : List Int} : ∃ b : Bag, b.Ok ∧ callN T (n + 1) "_law_bag" [.scr ns] = .ok b.v [] := by
  have key : ∃ s : Int, 0 ≤ s ∧ s < 2147483647 ∧ callN T (n + 1) "_law_bag" [.scr ns] = .ok (Bag.v ⟨ns.take 63, 0, 0, s⟩) [] := by
    refine call_of (fun c => ∃ s : Int, 0 ≤ s ∧ s < 2147483647 ∧ c = .ok (Bag.v ⟨ns.take 63, 0, 0, s⟩) []) HasFn.eq (by rfl) ?_
    show WP (evSs _ _ c__law_bag [some (.scr ns, false), none, none]) _ _
    have hcut : cut ns none (some 63) = ns.take 63 := by
      unfold cut HT.sIx
      by_cases h : (63 : Int) ≤ ns.length
      · simp
      · simp
    unfold c__law_bag
    repeat walk_at "e"
    refine wp_for (fun rest ρ => ∃ (s : Int) (lv : Option (Val × Bool)) (ms : List Int), 0 ≤ s ∧ s < 2147483647 ∧ rest = ms.map .int ∧ ρ = [some (.scr ns, false), some (.int s, false), lv]) ?_ ?_ ?_
    · repeat walk_at "e"
      refine ⟨none, rfl, ?_⟩
      repeat walk_at "e"
      refine ⟨some 63, .scr ns, _, rfl, rfl, rfl, ?_⟩
      exact items_fr rfl ⟨3823, none, _, by decide, by decide, rfl, rfl⟩
    · rintro x xs ρ ⟨s, lv, ms, h0, h1, h2, rfl⟩
      cases ms with
      | nil => cases h2
      | cons m ms =>
        cases h2
        refine ⟨_, rfl, ?_⟩
        repeat walk_at "e"
        refine bop_mul (Sm.mul (sm_small (by omega)) (sm_small (by decide))) ?_
        repeat walk_at "e"
        refine bop_mod (by decide) ?_
        repeat walk_at "e"
        refine bop_mod (by decide) ?_
        repeat walk_at "e"
        exact ⟨_, some (.int m, false), ms, (mod_lt' _ (by decide)).1, (mod_lt' _ (by decide)).2, rfl, rfl⟩
    · rintro ρ ⟨s, lv, ms, h0, h1, h2, rfl⟩
      repeat walk_at "e"
      refine ⟨none, rfl, ?_⟩
      repeat walk_at "e"
      refine ⟨some 63, .scr ns, _, rfl, rfl, rfl, ?_⟩
      refine evs_nil ?_
      refine biv_Ls biv_list rfl rfl ?_
      repeat walk_at "e"
      refine ⟨s, h0, h1, (out_new rfl rfl).trans ?_⟩
      rw [hcut]
      rfl
  obtain ⟨s, h0, h1, h⟩ := key
  exact ⟨_, ⟨Int.le_refl 0, h0, h1, by rw [List.length_take]; omega⟩, h⟩
theorem of_ok [HasFn T "_law_pull" k__law_pull] [HasFn T "_law_of" k__law_of] {n : Nat} {b : Bag} (hb : b.Ok) {xs : List Val} (h0 : 0 < xs.length) (h1 : xs.length ≤ 1000000) : ∃ (v : Val) (b' : Bag), v ∈ xs ∧ b'.Ok ∧ callN T (n + 2) "_law_of" [b.v, .lst xs] = .ok v [b'.v] := by
  obtain ⟨r, b', r0, r1, hb', hp⟩ := pull_ok (T := T) (n := n) hb (amt := xs.length) (by omega) (by omega)
  refine ⟨xs[r.toNat]'(by omega), b', List.getElem_mem _, hb', ?_⟩
  refine call_of (fun c => c = _) HasFn.eq (by rfl) ?_
  show WP (evSs _ _ c__law_of [some (b.v, true), some (.lst xs, false)]) _ _
  unfold c__law_of
  repeat walk_at "e"
  refine call_b hp rfl rfl rfl ?_
  refine sub_of rfl rfl (atI_int (v := xs[r.toNat]'(by omega)) r0 (List.getElem?_eq_getElem (by omega))) ?_
  repeat walk_at "e"
  exact out_fz rfl rfl
theorem take_drop_perm {α : Type} (xs : List α) (k : Nat) (v : α) : (xs.take k ++ [v] ++ xs.drop k).Perm (xs ++ [v]) := by
  have h : (xs.take k ++ ([v] ++ xs.drop k)).Perm (xs.take k ++ (xs.drop k ++ [v])) := List.Perm.append_left _ List.perm_append_comm
  rw [List.append_assoc]
  refine h.trans ?_
  rw [← List.append_assoc, List.take_append_drop]
theorem mixed_ok [HasFn T "_law_pull" k__law_pull] [HasFn T "_law_mixed" k__law_mixed] {n : Nat} {b : Bag} (hb : b.Ok) {α : Type} {f : α → Val} {xs : List α} (h1 : xs.length ≤ 1000000) : ∃ (ys : List α) (b' : Bag), ys.Perm xs ∧ b'.Ok ∧ callN T (n + 2) "_law_mixed" [b.v, .lst (xs.map f)] = .ok (.lst (ys.map f)) [b'.v] := by
  refine call_of (fun c => ∃ (ys : List α) (b' : Bag), ys.Perm xs ∧ b'.Ok ∧ c = .ok (.lst (ys.map f)) [b'.v]) HasFn.eq (by rfl) ?_
  show WP (evSs _ _ c__law_mixed [some (b.v, true), some (.lst (xs.map f), false), none, none]) _ _
  unfold c__law_mixed
  repeat walk_at "e"
  refine wp_for (fun rest ρ => ∃ (pre suf ys : List α) (b' : Bag) (lv : Option (Val × Bool)), xs = pre ++ suf ∧ rest = suf.map f ∧ ys.Perm pre ∧ b'.Ok ∧ ρ = [some (b'.v, true), some (.lst (xs.map f), false), some (.lst (ys.map f), true), lv]) ?_ ?_ ?_
  · repeat walk_at "e"
    exact items_fz rfl ⟨[], xs, [], b, none, rfl, rfl, .refl _, hb, rfl⟩
  · rintro x rest ρ ⟨pre, suf, ys, b', lv, e1, e2, hp, hb', rfl⟩
    cases suf with
    | nil => cases e2
    | cons a suf =>
      cases e2
      refine ⟨_, rfl, ?_⟩
      have hl := hp.length_eq
      have hx : xs.length = pre.length + (suf.length + 1) := by rw [e1, List.length_append, List.length_cons]
      obtain ⟨r, b2, r0, r1, hb2, hpl⟩ := pull_ok (T := T) (n := n) hb' (amt := (ys.length : Int) + 1) (by omega) (by omega)
      repeat walk_at "e"
      refine call_b (v := .int r) (w := b2.v) (by rw [List.length_map]; exact hpl) rfl rfl rfl ?_
      repeat walk_at "e"
      refine lm_insert rfl (by rw [List.length_map]; show _ < 16777216; omega) r0 (by omega) ?_
      repeat walk_at "e"
      refine ⟨pre ++ [a], suf, ys.take r.toNat ++ [a] ++ ys.drop r.toNat, b2, some (f a, false), by rw [e1, List.append_assoc]; rfl, rfl, (take_drop_perm ys _ a).trans (hp.append_right _), hb2, ?_⟩
      rw [List.map_append, List.map_append, List.map_take, List.map_drop]
      rfl
  · rintro ρ ⟨pre, suf, ys, b', lv, e1, e2, hp, hb', rfl⟩
    cases suf with
    | cons d suf => cases e2
    | nil =>
      rw [List.append_nil] at e1
      subst e1
      repeat walk_at "e"
      exact ⟨ys, b', hp, hb', out_var rfl rfl rfl⟩
end
section
variable {T : Tab}
theorem count_ok [HasFn T "_law_count" k__law_count] {n : Nat} {D : List Int} (hD : ∀ d ∈ D, 0 < d) (hs : prod D < 2 ^ 1000) : callN T (n + 1) "_law_count" [tupI D] = .ok (.int (prod D)) [] := by
  refine call_of (fun c => c = _) HasFn.eq (by rfl) ?_
  show WP (evSs _ _ c__law_count [some (tupI D, false), none, none]) _ _
  unfold c__law_count tupI
  repeat walk_at "e"
  refine wp_for (fun rest ρ => ∃ pre suf lv, D = pre ++ suf ∧ rest = suf.map .int ∧ ρ = [some (.tup (D.map .int), false), some (.int (prod pre), false), lv]) ?_ ?_ ?_
  · repeat walk_at "e"
    exact items_fz rfl ⟨[], D, none, rfl, rfl, rfl⟩
  · rintro x xs ρ ⟨pre, suf, lv, h1, h2, rfl⟩
    cases suf with
    | nil => cases h2
    | cons d suf =>
      cases h2
      refine ⟨_, rfl, ?_⟩
      have hp : ∀ d ∈ pre, 0 < d := fun z hz => hD z (by rw [h1]; exact List.mem_append_left _ hz)
      have hd : 0 < d := hD d (by rw [h1]; exact List.mem_append_right _ List.mem_cons_self)
      have h3 : prod pre < 2 ^ 1000 := Int.lt_of_le_of_lt (by rw [h1]; exact prod_le_append (fun z hz => hD z (by rw [h1]; exact List.mem_append_right _ hz)) hp) hs
      have h4 : d < 2 ^ 1000 := Int.lt_of_le_of_lt (le_prod hD d (by rw [h1]; exact List.mem_append_right _ List.mem_cons_self)) hs
      have h5 := prod_pos hp
      repeat walk_at "e"
      refine bop_mul (Sm.mul (sm_le (by omega) h3) (sm_le (by omega) h4)) ?_
      repeat walk_at "e"
      refine ⟨pre ++ [d], suf, some (.int d, false), by rw [h1, List.append_assoc]; rfl, rfl, ?_⟩
      rw [show prod (pre ++ [d]) = prod pre * d by unfold prod; rw [List.foldl_append]; rfl]
      rfl
  · rintro ρ ⟨pre, suf, lv, h1, h2, rfl⟩
    cases suf with
    | cons d suf => cases h2
    | nil =>
      rw [List.append_nil] at h1
      subst h1
      repeat walk_at "e"
      exact out_fz rfl rfl
def add2 (a b : List Int) : List Int := (a.zip b).map fun p => p.1 + p.2
theorem plus_ok [HasFn T "_law_plus" k__law_plus] {n : Nat} {xs ys : List Int} (hb : xs.length ≤ big) : callN T (n + 1) "_law_plus" [tupI xs, tupI ys] = .ok (tupI (add2 xs ys)) [] := by
  refine call_of (fun c => c = _) HasFn.eq (by rfl) ?_
  show WP (evSs _ _ c__law_plus [some (tupI xs, false), some (tupI ys, false), none, none]) _ _
  unfold c__law_plus tupI
  repeat walk_at "e"
  refine w_compM (as := xs.zip ys) (g := fun p => .tup [.int p.1, .int p.2]) (f := fun p => .int (p.1 + p.2)) (ρ1 := [some (.tup (xs.map .int), false), some (.tup (ys.map .int), false), none, none]) ?_ ?_ ?_ ?_
  · repeat walk_at "e"
    refine ⟨zipV (xs.map .int) (ys.map .int), rfl, items_fz rfl ⟨zipV_map _ _ _ _, rfl⟩⟩
  · rw [List.length_zip]; omega
  · intro a ha
    refine ⟨[some (.tup (xs.map .int), false), some (.tup (ys.map .int), false), some (.int a.1, false), some (.int a.2, false)], rfl, ?_⟩
    repeat walk_at "e"
    exact ⟨rfl, rfl⟩
  · repeat walk_at "e"
    refine (out_fz rfl rfl).trans ?_
    unfold add2
    rw [List.map_map]
    rfl
/-- a place of numbers at most so great -/
def Near (s : Int) (p : List Int) : Prop := ∀ x ∈ p, -s ≤ x ∧ x ≤ s
theorem range_int {k : Int} (h0 : 0 ≤ k) (h : k ≤ 1000000) : rangeV (.int 0) (.int k) = some ((List.range k.toNat).map fun k : Nat => .int k) := by
  have := range_nat (n := k.toNat) (by omega)
  rwa [Int.toNat_of_nonneg h0] at this
theorem place_ok [HasFn T "_law_pull" k__law_pull] [HasFn T "_law_place" k__law_place] {n : Nat} {b : Bag} (hb : b.Ok) {k s : Int} (k0 : 0 ≤ k) (k1 : k ≤ 1000000) (s0 : 0 ≤ s) (s1 : s < 2 ^ 998) : ∃ (p : List Int) (b' : Bag), (p.length : Int) = k ∧ Near s p ∧ b'.Ok ∧ callN T (n + 2) "_law_place" [b.v, .int k, .int s] = .ok (tupI p) [b'.v] := by
  refine call_of (fun c => ∃ (p : List Int) (b' : Bag), (p.length : Int) = k ∧ Near s p ∧ b'.Ok ∧ c = .ok (tupI p) [b'.v]) HasFn.eq (by rfl) ?_
  show WP (evSs _ _ c__law_place [some (b.v, true), some (.int k, false), some (.int s, false), none]) _ _
  unfold c__law_place
  repeat walk_at "e"
  refine w_compD (as := List.range k.toNat) (g := fun k : Nat => .int k) (P := fun _ v => ∃ x, v = .int x ∧ -s ≤ x ∧ x ≤ s) (fun b : Bag => [some (b.v, true), some (.int k, false), some (.int s, false), none]) Bag.Ok hb ?_ ?_ ?_ ?_
  · repeat walk_at "e"
    refine ⟨_, _, rfl, range_int k0 k1, items_fz rfl ⟨rfl, rfl⟩⟩
  · rw [List.length_range]; show _ ≤ 16777216; omega
  · intro a _ b hb
    refine ⟨_, rfl, ?_⟩
    obtain ⟨r, b2, r0, r1, hb2, hp⟩ := pull_ok (T := T) (n := n) hb (amt := 2 * s + 1) (by omega) (by omega)
    repeat walk_at "e"
    refine bop_mul (Sm.mul (sm_small (x := 2) (by decide)) (sm_le s0 (by omega))) ?_
    repeat walk_at "e"
    refine call_b hp rfl rfl rfl ?_
    repeat walk_at "e"
    exact ⟨⟨r - s, rfl, by omega, by omega⟩, b2, hb2, rfl⟩
  · intro vs b hb ha
    obtain ⟨xs, rfl, ha2⟩ := ha.pick
    repeat walk_at "e"
    refine ⟨xs, b, by rw [← ha2.length, List.length_range]; omega, fun x hx => ha2.all x hx, hb, out_fz rfl rfl⟩
/-- drawn divisors -/
structure Div (k : Int) (D : List Int) : Prop where
  len : (D.length : Int) = k
  pos : ∀ d ∈ D, 0 < d
  le : prod D ≤ 12
theorem prod_perm {xs ys : List Int} (h : xs.Perm ys) : prod xs = prod ys := by
  induction h with
  | nil => rfl
  | cons x _ ih => rw [prod_cons, prod_cons, ih]
  | swap x y l => rw [prod_cons, prod_cons, prod_cons, prod_cons, ← Int.mul_assoc, ← Int.mul_assoc, Int.mul_comm y x]
  | trans _ _ h1 h2 => rw [h1, h2]
theorem divisors_ok [HasFn T "_law_pull" k__law_pull] [HasFn T "_law_mixed" k__law_mixed] [HasFn T "_law_divisors" k__law_divisors] {n : Nat} {b : Bag} (hb : b.Ok) {k : Int} (k0 : 0 ≤ k) (k1 : k ≤ 1000) : ∃ (D : List Int) (b' : Bag), Div k D ∧ b'.Ok ∧ callN T (n + 3) "_law_divisors" [b.v, .int k] = .ok (tupI D) [b'.v] := by
  refine call_of (fun c => ∃ (D : List Int) (b' : Bag), Div k D ∧ b'.Ok ∧ c = .ok (tupI D) [b'.v]) HasFn.eq (by rfl) ?_
  show WP (evSs _ _ c__law_divisors [some (b.v, true), some (.int k, false), none, none, none, none]) _ _
  unfold c__law_divisors
  repeat walk_at "e"
  refine wp_for (fun rest ρ => ∃ (D : List Int) (left : Int) (m : Nat) (b' : Bag) (lv lw : Option (Val × Bool)) (ks : List Nat), rest = ks.map (fun k : Nat => .int k) ∧ D.length + ks.length = k.toNat ∧ (∀ d ∈ D, 0 < d) ∧ 1 ≤ left ∧ prod D * left ≤ 12 ∧ b'.Ok ∧ ρ = [some (b'.v, true), some (.int k, false), some (.lst (D.map .int), true), some (.int left, false), lv, lw]) ?_ ?_ ?_
  · repeat walk_at "e"
    refine ⟨_, _, rfl, range_int k0 (by omega), items_fz rfl ⟨[], 12, 0, b, none, none, List.range k.toNat, rfl, by simp, by simp, by decide, by decide, hb, rfl⟩⟩
  · rintro x rest ρ ⟨D, left, m, b', lv, lw, ks, e1, e2, hD, hl, hp, hb', rfl⟩
    cases ks with
    | nil => cases e1
    | cons a ks =>
      cases e1
      refine ⟨_, rfl, ?_⟩
      rw [List.length_cons] at e2
      have hpp := prod_pos hD
      have hl12 : left ≤ 12 := by
        have := Int.mul_le_mul_of_nonneg_right (show 1 ≤ prod D by omega) (show 0 ≤ left by omega)
        omega
      obtain ⟨r, b2, r0, r1, hb2, hp2⟩ := pull_ok (T := T) (n := n + 1) hb' (amt := 3) (by decide) (by decide)
      obtain ⟨c, c1, c2, hc⟩ : ∃ c : Int, 1 ≤ c ∧ c ≤ 12 ∧ atI [.int 4, .int 4, .int 12] r = some (.int c) := by
        rcases (show r = 0 ∨ r = 1 ∨ r = 2 by omega) with rfl | rfl | rfl
        · exact ⟨4, by decide, by decide, rfl⟩
        · exact ⟨4, by decide, by decide, rfl⟩
        · exact ⟨12, by decide, by decide, rfl⟩
      obtain ⟨q, b3, q0, q1, hb3, hp3⟩ := pull_ok (T := T) (n := n + 1) hb2 (amt := if c < left then c else left) (by split <;> omega) (by split <;> omega)
      have q2 : q < left := by split at q1 <;> omega
      repeat walk_at "e"
      refine call_b hp2 rfl rfl rfl ?_
      refine sub_of rfl rfl hc ?_
      repeat walk_at "e"
      refine call_b hp3 rfl rfl rfl ?_
      repeat walk_at "e"
      refine lm_append rfl (by rw [List.length_map]; show _ < 16777216; omega) ?_
      repeat walk_at "e"
      refine bop_div (divOk_of (by omega) (Nat.lt_of_lt_of_le (show (1 + q).natAbs < 2 ^ 64 by omega) (Nat.pow_le_pow_right (by decide) (by decide)))) ?_
      repeat walk_at "e"
      have hdm := Int.mul_ediv_self_le (x := left) (k := 1 + q) (by omega)
      have hq : 1 ≤ left / (1 + q) := (Int.le_ediv_iff_mul_le (by omega)).mpr (by omega)
      refine ⟨D ++ [1 + q], left / (1 + q), 0, b3, some (.int a, false), some (.int (1 + q), false), ks, rfl, by rw [List.length_append, List.length_singleton]; omega, ?_, hq, ?_, hb3, ?_⟩
      · intro d hd
        rcases List.mem_append.mp hd with hd | hd
        · exact hD d hd
        · rw [List.mem_singleton.mp hd]; omega
      · rw [show prod (D ++ [1 + q]) = prod D * (1 + q) by unfold prod; rw [List.foldl_append]; rfl, Int.mul_assoc]
        exact Int.le_trans (Int.mul_le_mul_of_nonneg_left hdm (by omega)) hp
      · rw [List.map_append]
        rfl
  · rintro ρ ⟨D, left, m, b', lv, lw, ks, e1, e2, hD, hl, hp, hb', rfl⟩
    cases ks with
    | cons d suf => cases e1
    | nil =>
      rw [List.length_nil] at e2
      obtain ⟨D2, b2, hpm, hb2, hm⟩ := mixed_ok (T := T) (n := n) hb' (f := Val.int) (xs := D) (by omega)
      have hpp := prod_pos hD
      repeat walk_at "e"
      refine call_b hm rfl rfl rfl ?_
      repeat walk_at "e"
      refine ⟨D2, b2, ⟨by rw [hpm.length_eq]; omega, fun d hd => hD d (hpm.mem_iff.mp hd), ?_⟩, hb2, out_fz rfl rfl⟩
      rw [prod_perm hpm]
      have := Int.mul_le_mul_of_nonneg_left hl (show 0 ≤ prod D by omega)
      omega
end
end Rv

/-! Rv, plain part 7: data without truth values; sorted numbers; trees. -/
namespace Rv
open PySem
/-! ### data without truth values: equal where they are the same -/
mutual
def Val.good : Val → Bool
  | .non => true
  | .int _ => true
  | .str x => PyData.strOk x
  | .tup xs => Val.goods xs
  | .lst xs => Val.goods xs
  | _ => false
def Val.goods : List Val → Bool
  | [] => true
  | x :: xs => Val.good x && Val.goods xs
end
mutual
def Val.dep : Val → Nat
  | .tup xs => Val.deps xs + 1
  | .lst xs => Val.deps xs + 1
  | _ => 0
def Val.deps : List Val → Nat
  | [] => 0
  | x :: xs => max (Val.dep x) (Val.deps xs)
end
mutual
theorem good_py : ∀ v : Val, v.good = true → ∃ d, v.py = some d ∧ d.canLay0 = true ∧ d.depth = v.dep
  | .non, _ => ⟨.none, rfl, by simp [PyData.canLay0], by simp [PyData.depth, Val.dep]⟩
  | .int i, _ => ⟨.int i, rfl, by simp [PyData.canLay0], by simp [PyData.depth, Val.dep]⟩
  | .str x, h => ⟨.str x, rfl, by simp only [PyData.canLay0]; exact h, by simp [PyData.depth, Val.dep]⟩
  | .tup xs, h => by
    obtain ⟨ds, e, c, z⟩ := goods_py xs h
    refine ⟨.tuple ds, ?_, by simp only [PyData.canLay0]; exact c, by simp only [PyData.depth, Val.dep, z]⟩
    show (Val.pys xs).map PyData.tuple = _
    rw [e]; rfl
  | .lst xs, h => by
    obtain ⟨ds, e, c, z⟩ := goods_py xs h
    refine ⟨.list ds, ?_, by simp only [PyData.canLay0]; exact c, by simp only [PyData.depth, Val.dep, z]⟩
    show (Val.pys xs).map PyData.list = _
    rw [e]; rfl
  | .bl _, h => nomatch h
  | .scr _, h => nomatch h
  | .ins _ _ _, h => nomatch h
  | .glb _, h => nomatch h
  | .typ _, h => nomatch h
theorem goods_py : ∀ vs : List Val, Val.goods vs = true → ∃ ds, Val.pys vs = some ds ∧ PyData.canLayAll0 ds = true ∧ PyData.depthAll ds = Val.deps vs
  | [], _ => ⟨[], rfl, by simp [PyData.canLayAll0], by simp [PyData.depthAll, Val.deps]⟩
  | v :: vs, h => by
    have h : (Val.good v && Val.goods vs) = true := h
    rw [Bool.and_eq_true] at h
    obtain ⟨d, e, c, z⟩ := good_py v h.1
    obtain ⟨ds, e2, c2, z2⟩ := goods_py vs h.2
    refine ⟨d :: ds, ?_, by simp only [PyData.canLayAll0, c, c2, Bool.and_self], by simp only [PyData.depthAll, Val.deps, z, z2]⟩
    show (match Val.py v, Val.pys vs with
    | some d, some ds => some (d :: ds)
    | _, _ => none) = _
    rw [e, e2]
end
mutual
theorem eqv_iff : ∀ (v w : Val) (d e : PyData), v.good = true → w.good = true → v.py = some d → w.py = some e → (PyData.eqv d e = true ↔ v = w)
  | .non, w, d, e, _, hw, e1, e2 => by
    cases e1
    cases w with
    | non => cases e2; simp [PyData.eqv]
    | int j => cases e2; simp [PyData.eqv]
    | str y => cases e2; simp [PyData.eqv]
    | tup ys => obtain ⟨ds, q, _⟩ := goods_py ys hw; have e2 : (Val.pys ys).map PyData.tuple = some e := e2; rw [q] at e2; cases e2; simp [PyData.eqv]
    | lst ys => obtain ⟨ds, q, _⟩ := goods_py ys hw; have e2 : (Val.pys ys).map PyData.list = some e := e2; rw [q] at e2; cases e2; simp [PyData.eqv]
    | _ => cases hw
  | .int i, w, d, e, _, hw, e1, e2 => by
    cases e1
    cases w with
    | non => cases e2; simp [PyData.eqv]
    | int j => cases e2; simp [PyData.eqv]
    | str y => cases e2; simp [PyData.eqv]
    | tup ys => obtain ⟨ds, q, _⟩ := goods_py ys hw; have e2 : (Val.pys ys).map PyData.tuple = some e := e2; rw [q] at e2; cases e2; simp [PyData.eqv]
    | lst ys => obtain ⟨ds, q, _⟩ := goods_py ys hw; have e2 : (Val.pys ys).map PyData.list = some e := e2; rw [q] at e2; cases e2; simp [PyData.eqv]
    | _ => cases hw
  | .str x, w, d, e, _, hw, e1, e2 => by
    cases e1
    cases w with
    | non => cases e2; simp [PyData.eqv]
    | int j => cases e2; simp [PyData.eqv]
    | str y => cases e2; simp [PyData.eqv]
    | tup ys => obtain ⟨ds, q, _⟩ := goods_py ys hw; have e2 : (Val.pys ys).map PyData.tuple = some e := e2; rw [q] at e2; cases e2; simp [PyData.eqv]
    | lst ys => obtain ⟨ds, q, _⟩ := goods_py ys hw; have e2 : (Val.pys ys).map PyData.list = some e := e2; rw [q] at e2; cases e2; simp [PyData.eqv]
    | _ => cases hw
  | .tup xs, w, d, e, hv, hw, e1, e2 => by
    obtain ⟨d1, q1, _⟩ := goods_py xs hv
    have e1 : (Val.pys xs).map PyData.tuple = some d := e1
    rw [q1] at e1; cases e1
    cases w with
    | non => cases e2; simp [PyData.eqv]
    | int j => cases e2; simp [PyData.eqv]
    | str y => cases e2; simp [PyData.eqv]
    | tup ys =>
      obtain ⟨ds, q, _⟩ := goods_py ys hw
      have e2 : (Val.pys ys).map PyData.tuple = some e := e2
      rw [q] at e2; cases e2
      simp only [PyData.eqv, Val.tup.injEq]
      exact eqvs_iff xs ys d1 ds hv hw q1 q
    | lst ys => obtain ⟨ds, q, _⟩ := goods_py ys hw; have e2 : (Val.pys ys).map PyData.list = some e := e2; rw [q] at e2; cases e2; simp [PyData.eqv]
    | _ => cases hw
  | .lst xs, w, d, e, hv, hw, e1, e2 => by
    obtain ⟨d1, q1, _⟩ := goods_py xs hv
    have e1 : (Val.pys xs).map PyData.list = some d := e1
    rw [q1] at e1; cases e1
    cases w with
    | non => cases e2; simp [PyData.eqv]
    | int j => cases e2; simp [PyData.eqv]
    | str y => cases e2; simp [PyData.eqv]
    | tup ys => obtain ⟨ds, q, _⟩ := goods_py ys hw; have e2 : (Val.pys ys).map PyData.tuple = some e := e2; rw [q] at e2; cases e2; simp [PyData.eqv]
    | lst ys =>
      obtain ⟨ds, q, _⟩ := goods_py ys hw
      have e2 : (Val.pys ys).map PyData.list = some e := e2
      rw [q] at e2; cases e2
      simp only [PyData.eqv, Val.lst.injEq]
      exact eqvs_iff xs ys d1 ds hv hw q1 q
    | _ => cases hw
  | .bl _, _, _, _, hv, _, _, _ => nomatch hv
  | .scr _, _, _, _, hv, _, _, _ => nomatch hv
  | .ins _ _ _, _, _, _, hv, _, _, _ => nomatch hv
  | .glb _, _, _, _, hv, _, _, _ => nomatch hv
  | .typ _, _, _, _, hv, _, _, _ => nomatch hv
theorem eqvs_iff : ∀ (vs ws : List Val) (ds es : List PyData), Val.goods vs = true → Val.goods ws = true → Val.pys vs = some ds → Val.pys ws = some es → (PyData.eqvAll ds es = true ↔ vs = ws)
  | [], [], ds, es, _, _, e1, e2 => by cases e1; cases e2; simp [PyData.eqvAll]
  | [], w :: ws, ds, es, _, hw, e1, e2 => by
    obtain ⟨e, q, _⟩ := goods_py (w :: ws) hw
    cases e1
    have hw : (Val.good w && Val.goods ws) = true := hw
    rw [Bool.and_eq_true] at hw
    obtain ⟨a, q1, _⟩ := good_py w hw.1
    obtain ⟨b, q2, _⟩ := goods_py ws hw.2
    have e2 : (match Val.py w, Val.pys ws with
    | some d, some ds => some (d :: ds)
    | _, _ => none) = some es := e2
    rw [q1, q2] at e2
    cases e2
    simp [PyData.eqvAll]
  | v :: vs, [], ds, es, hv, _, e1, e2 => by
    cases e2
    have hv : (Val.good v && Val.goods vs) = true := hv
    rw [Bool.and_eq_true] at hv
    obtain ⟨a, q1, _⟩ := good_py v hv.1
    obtain ⟨b, q2, _⟩ := goods_py vs hv.2
    have e1 : (match Val.py v, Val.pys vs with
    | some d, some ds => some (d :: ds)
    | _, _ => none) = some ds := e1
    rw [q1, q2] at e1
    cases e1
    simp [PyData.eqvAll]
  | v :: vs, w :: ws, ds, es, hv, hw, e1, e2 => by
    have hv : (Val.good v && Val.goods vs) = true := hv
    rw [Bool.and_eq_true] at hv
    obtain ⟨a, q1, _⟩ := good_py v hv.1
    obtain ⟨b, q2, _⟩ := goods_py vs hv.2
    have e1 : (match Val.py v, Val.pys vs with
    | some d, some ds => some (d :: ds)
    | _, _ => none) = some ds := e1
    rw [q1, q2] at e1
    cases e1
    have hw : (Val.good w && Val.goods ws) = true := hw
    rw [Bool.and_eq_true] at hw
    obtain ⟨a', q3, _⟩ := good_py w hw.1
    obtain ⟨b', q4, _⟩ := goods_py ws hw.2
    have e2 : (match Val.py w, Val.pys ws with
    | some d, some ds => some (d :: ds)
    | _, _ => none) = some es := e2
    rw [q3, q4] at e2
    cases e2
    simp only [PyData.eqvAll, Bool.and_eq_true, List.cons.injEq]
    rw [eqv_iff v w a a' hv.1 hw.1 q1 q3, eqvs_iff vs ws b b' hv.2 hw.2 q2 q4]
end
theorem eqv_good {v w : Val} (hv : v.good = true) (hw : w.good = true) (hd : min v.dep w.dep ≤ 64) : ∃ b, eqv v w = some b ∧ (b = true ↔ v = w) := by
  obtain ⟨d, e1, c1, z1⟩ := good_py v hv
  obtain ⟨e, e2, c2, z2⟩ := good_py w hw
  refine ⟨PyData.eqv d e, ?_, eqv_iff v w d e hv hw e1 e2⟩
  unfold eqv
  rw [e1, e2]
  show (if (d.canLay0 && e.canLay0 && decide (min d.depth e.depth ≤ 64)) = true then some (PyData.eqv d e) else none) = _
  rw [c1, c2, z1, z2, if_pos (by rw [Bool.and_self, Bool.true_and]; exact decide_eq_true hd)]
theorem goods_map {α : Type} {f : α → Val} {xs : List α} (h : ∀ x ∈ xs, (f x).good = true) : Val.goods (xs.map f) = true := by
  induction xs with
  | nil => rfl
  | cons x xs ih =>
    show (Val.good (f x) && Val.goods (xs.map f)) = true
    rw [h x List.mem_cons_self, ih fun y hy => h y (List.mem_cons_of_mem _ hy)]
    rfl
theorem deps_map {α : Type} {f : α → Val} {xs : List α} {k : Nat} (h : ∀ x ∈ xs, (f x).dep ≤ k) : Val.deps (xs.map f) ≤ k := by
  induction xs with
  | nil => exact Nat.zero_le _
  | cons x xs ih =>
    show max (Val.dep (f x)) (Val.deps (xs.map f)) ≤ k
    have := h x List.mem_cons_self
    have := ih fun y hy => h y (List.mem_cons_of_mem _ hy)
    omega
theorem good_tupI (xs : List Int) : (tupI xs).good = true := goods_map fun _ _ => rfl
theorem dep_tupI (xs : List Int) : (tupI xs).dep ≤ 1 := Nat.succ_le_succ (deps_map fun _ _ => Nat.le_refl 0)
theorem map_int_inj : ∀ {xs ys : List Int}, xs.map Val.int = ys.map Val.int → xs = ys
  | [], [], _ => rfl
  | [], _ :: _, h => nomatch h
  | _ :: _, [], h => nomatch h
  | x :: xs, y :: ys, h => by
    rw [List.map_cons, List.map_cons] at h
    injection h with h1 h2
    injection h1 with h1
    rw [h1, map_int_inj h2]
theorem tupI_inj {xs ys : List Int} (h : tupI xs = tupI ys) : xs = ys := map_int_inj (Val.tup.inj h)
section
variable {ρ : Env} {B : Bool → Env → Prop} {v w : Val}
theorem cmp_eqG (hv : v.good = true) (hw : w.good = true) (hd : min v.dep w.dep ≤ 64) (h : ∀ b, (b = true ↔ v = w) → B b ρ) : CMP .Eq ⟨v, .fz⟩ ⟨w, .fz⟩ ρ B := by
  obtain ⟨b, e, i⟩ := eqv_good hv hw hd
  exact ⟨v, w, b, rfl, rfl, e, h b i⟩
theorem cmp_neG (hv : v.good = true) (hw : w.good = true) (hd : min v.dep w.dep ≤ 64) (h : ∀ b, (b = true ↔ v ≠ w) → B b ρ) : CMP .NotEq ⟨v, .fz⟩ ⟨w, .fz⟩ ρ B := by
  obtain ⟨b, e, i⟩ := eqv_good hv hw hd
  refine ⟨v, w, !b, rfl, rfl, by show (eqv v w).map not = _; rw [e]; rfl, h (!b) ?_⟩
  cases b with
  | false => simp at i ⊢; exact i
  | true => simp at i ⊢; exact i
end
/-! ### sorted numbers -/
def sortI (xs : List Int) : List Int := xs.mergeSort fun a b => decide (a ≤ b)
theorem pys_ints : ∀ xs : List Int, Val.pys (xs.map .int) = some (xs.map .int)
  | [] => rfl
  | x :: xs => by
    show (match Val.py (.int x), Val.pys (xs.map .int) with
    | some d, some ds => some (d :: ds)
    | _, _ => none) = _
    rw [pys_ints xs]
    rfl
theorem zip_map_self {α β γ : Type} (f : α → β) (g : α → γ) : ∀ xs : List α, (xs.map f).zip (xs.map g) = xs.map fun x => (f x, g x)
  | [] => rfl
  | x :: xs => by rw [List.map_cons, List.map_cons, List.zip_cons_cons, zip_map_self f g xs]; rfl
theorem sortL_ints (xs : List Int) : sortL (xs.map .int) = some ((sortI xs).map .int) := by
  unfold sortL
  rw [pys_ints]
  show (if sortOk (xs.map PyData.int) = true then some ((((xs.map Val.int).zip (xs.map PyData.int)).mergeSort (PySem.W.dataLe false Prod.snd)).map Prod.fst) else none) = _
  rw [if_pos ?_]
  · rw [zip_map_self]
    have h := List.map_mergeSort (r := fun a b : Int => decide (a ≤ b)) (s := PySem.W.dataLe false (Prod.snd : Val × PyData → PyData)) (f := fun x : Int => (Val.int x, PyData.int x)) (l := xs) fun a _ b _ => by
      have := congrFun (congrFun (PySem.W.dataLe_int (fun b : Int => b)) a) b
      exact this.symm
    rw [← h, List.map_map]
    rfl
  · unfold sortOk
    simp only [Bool.and_eq_true, List.all_eq_true, Bool.or_eq_true, List.mem_map]
    refine ⟨⟨?_, .inr ?_⟩, ?_⟩
    · rintro _ ⟨a, _, rfl⟩ _ ⟨b, _, rfl⟩
      simp [PySem.W.alike]
    · rintro _ ⟨a, _, rfl⟩
      rfl
    · rintro _ ⟨a, _, rfl⟩
      simp [PyData.depth]
theorem sortI_of {xs ys : List Int} (hp : xs.Perm ys) (hs : ys.Pairwise (· ≤ ·)) : sortI xs = ys := by
  unfold sortI
  have h1 : (xs.mergeSort fun a b => decide (a ≤ b)).Perm ys := (List.mergeSort_perm _ _).trans hp
  have h2 : (xs.mergeSort fun a b => decide (a ≤ b)).Pairwise fun a b => decide (a ≤ b) = true := List.pairwise_mergeSort (fun a b c h1 h2 => by simp at *; omega) (fun a b => by simp; omega) _
  refine h1.eq_of_pairwise ?_ h2 (hs.imp fun h => decide_eq_true h)
  intro a b _ _ h3 h4
  simp at h3 h4
  omega
theorem sorted_lst (xs : List Int) : sortV [.lst (xs.map .int)] = some (.lst ((sortI xs).map .int)) := by
  show (sortL (xs.map .int)).map Val.lst = _
  rw [sortL_ints]; rfl
theorem sorted_tup (xs : List Int) : sortV [.tup (xs.map .int)] = some (.lst ((sortI xs).map .int)) := by
  show (sortL (xs.map .int)).map Val.lst = _
  rw [sortL_ints]; rfl
/-! ### in -/
theorem depthAll_ints (xs : List Int) : PyData.depthAll (xs.map .int) = 0 := by
  induction xs with
  | nil => simp [PyData.depthAll]
  | cons x xs ih => simp only [List.map_cons, PyData.depthAll, ih, PyData.depth]; rfl
theorem canLay_ints (xs : List Int) : PyData.canLayAll0 (xs.map .int) = true := by
  induction xs with
  | nil => simp [PyData.canLayAll0]
  | cons x xs ih => simp only [List.map_cons, PyData.canLayAll0, ih, PyData.canLay0]; rfl
theorem inV_ints (c : Int) (xs : List Int) : inV (.int c) (.tup (xs.map .int)) = some (decide (c ∈ xs)) := by
  show inL (.int c) (xs.map .int) = _
  unfold inL
  rw [pys_ints]
  show (if ((PyData.int c).canLay0 && PyData.canLayAll0 (xs.map .int) && decide (min (PyData.depthAll (xs.map .int)) (PyData.int c).depth ≤ 64)) = true then some ((xs.map PyData.int).any fun y => PyData.eqv y (.int c)) else none) = _
  rw [canLay_ints, depthAll_ints, if_pos (by simp [PyData.canLay0])]
  congr 1
  induction xs with
  | nil => rfl
  | cons x xs ih =>
    rw [List.map_cons, List.any_cons, ih, Bool.eq_iff_iff]
    simp only [PyData.eqv, Bool.or_eq_true, beq_iff_eq, decide_eq_true_eq, List.mem_cons]
    exact or_congr_left ⟨Eq.symm, Eq.symm⟩
end Rv

/-! Rv, plain part 8: trees. -/
namespace Rv
open PySem
mutual
inductive Tree where
  | leaf
  | key (row hs : List Int) (t : Tree)
  | fork (gs : Grps)
inductive Grps where
  | nil
  | cons (g : List Nat) (t : Tree) (r : Grps)
end
def natI (g : List Nat) : List Int := g.map fun k : Nat => (k : Int)
def tupN (g : List Nat) : Val := tupI (natI g)
mutual
def Tree.v : Tree → Val
  | .leaf => .tup [.str "places"]
  | .key row hs t => .tup [.str "key", tupI row, tupI hs, Tree.v t]
  | .fork gs => .tup [.str "fork", .tup (Grps.vs gs)]
def Grps.vs : Grps → List Val
  | .nil => []
  | .cons g t r => .tup [tupN g, Tree.v t] :: Grps.vs r
end
def Grps.list : Grps → List (List Nat × Tree)
  | .nil => []
  | .cons g t r => (g, t) :: r.list
def grpV (p : List Nat × Tree) : Val := .tup [tupN p.1, p.2.v]
theorem Grps.vs_eq : ∀ gs : Grps, gs.vs = gs.list.map grpV
  | .nil => rfl
  | .cons g t r => by
    show Val.tup [tupN g, t.v] :: r.vs = _
    rw [Grps.vs_eq r]
    rfl
mutual
def Tree.dep : Tree → Nat
  | .leaf => 1
  | .key _ _ t => Tree.dep t + 1
  | .fork gs => Grps.dep gs + 1
def Grps.dep : Grps → Nat
  | .nil => 0
  | .cons _ t r => max (Tree.dep t) (Grps.dep r)
end
mutual
def Tree.cnt : Tree → Nat
  | .leaf => 1
  | .key _ _ t => 1 + Tree.cnt t
  | .fork gs => 1 + Grps.cnt gs
def Grps.cnt : Grps → Nat
  | .nil => 0
  | .cons _ t r => Tree.cnt t + Grps.cnt r
end
def Tree.kids : Tree → List Tree
  | .leaf => []
  | .key _ _ t => [t]
  | .fork gs => gs.list.map (·.2)
theorem Tree.dep_pos : ∀ t : Tree, 1 ≤ t.dep
  | .leaf => Nat.le_refl 1
  | .key _ _ _ => Nat.succ_le_succ (Nat.zero_le _)
  | .fork _ => Nat.succ_le_succ (Nat.zero_le _)
theorem Tree.cnt_pos : ∀ t : Tree, 1 ≤ t.cnt
  | .leaf => Nat.le_refl 1
  | .key _ _ t => by show 1 ≤ 1 + _; omega
  | .fork gs => by show 1 ≤ 1 + _; omega
theorem Grps.dep_mem : ∀ {gs : Grps} {p : List Nat × Tree}, p ∈ gs.list → p.2.dep ≤ gs.dep
  | .cons g t r, p, h => by
    show _ ≤ max t.dep r.dep
    rcases List.mem_cons.mp h with rfl | h
    · exact Nat.le_max_left _ _
    · exact Nat.le_trans (Grps.dep_mem h) (Nat.le_max_right _ _)
theorem Tree.dep_kid {t s : Tree} (h : s ∈ t.kids) : s.dep + 1 ≤ t.dep := by
  cases t with
  | leaf => cases h
  | key row hs t => rw [List.mem_singleton.mp h]; exact Nat.le_refl _
  | fork gs =>
    obtain ⟨p, hp, rfl⟩ := List.mem_map.mp h
    exact Nat.succ_le_succ (Grps.dep_mem hp)
theorem Grps.cnt_list : ∀ gs : Grps, (gs.list.map fun p => p.2.cnt).sum = gs.cnt
  | .nil => rfl
  | .cons g t r => by
    show t.cnt + (r.list.map fun p => p.2.cnt).sum = t.cnt + r.cnt
    rw [Grps.cnt_list r]
theorem Tree.cnt_kids (t : Tree) : t.cnt = 1 + (t.kids.map Tree.cnt).sum := by
  cases t with
  | leaf => rfl
  | key row hs t => rfl
  | fork gs =>
    show 1 + gs.cnt = 1 + ((gs.list.map (·.2)).map Tree.cnt).sum
    rw [List.map_map, ← Grps.cnt_list]
    rfl
/-- the classes are parted into the groups -/
structure Grps.Part (m : Nat) (gs : Grps) : Prop where
  ne : gs.list ≠ []
  each : ∀ p ∈ gs.list, p.1 ≠ [] ∧ p.1.Pairwise (· < ·)
  all : (gs.list.flatMap (·.1)).Perm (List.range m)
mutual
def Tree.Wf (k m : Nat) : Tree → Prop
  | .leaf => True
  | .key row hs t => row.length = k ∧ hs.length = m ∧ Sms row ∧ Tree.Wf k m t
  | .fork gs => Grps.Part m gs ∧ Grps.Wf k m gs
def Grps.Wf (k m : Nat) : Grps → Prop
  | .nil => True
  | .cons _ t r => Tree.Wf k m t ∧ Grps.Wf k m r
end
theorem Grps.wf_mem {k m : Nat} : ∀ {gs : Grps}, gs.Wf k m → ∀ {p : List Nat × Tree}, p ∈ gs.list → p.2.Wf k m
  | .cons g t r, h, p, hp => by
    have h : t.Wf k m ∧ r.Wf k m := h
    rcases List.mem_cons.mp hp with rfl | hp
    · exact h.1
    · exact Grps.wf_mem h.2 hp
theorem Tree.wf_kid {k m : Nat} {t s : Tree} (w : t.Wf k m) (h : s ∈ t.kids) : s.Wf k m := by
  cases t with
  | leaf => cases h
  | key row hs t => rw [List.mem_singleton.mp h]; exact w.2.2.2
  | fork gs =>
    obtain ⟨p, hp, rfl⟩ := List.mem_map.mp h
    exact Grps.wf_mem w.2 hp
/-! ### values of trees -/
mutual
theorem Tree.good : ∀ t : Tree, t.v.good = true
  | .leaf => by show (PyData.strOk "places" && true) = true; decide +kernel
  | .key row hs t => by
    show (PyData.strOk "key" && ((tupI row).good && ((tupI hs).good && (t.v.good && true)))) = true
    rw [good_tupI, good_tupI, Tree.good t]
    decide +kernel
  | .fork gs => by
    show (PyData.strOk "fork" && (Val.goods gs.vs && true)) = true
    rw [Grps.good gs]
    decide +kernel
theorem Grps.good : ∀ gs : Grps, Val.goods gs.vs = true
  | .nil => rfl
  | .cons g t r => by
    show (((tupN g).good && (t.v.good && true)) && Val.goods r.vs) = true
    rw [show (tupN g).good = true from good_tupI _, Tree.good t, Grps.good r]
    rfl
end
theorem leaf_dep : Tree.leaf.v.dep = 1 := rfl
theorem Tree.v_leaf {t : Tree} : t.v = Tree.leaf.v ↔ t = .leaf := by
  constructor
  · intro h
    cases t with
    | leaf => rfl
    | key row hs t =>
      have h : Val.tup [.str "key", tupI row, tupI hs, t.v] = Val.tup [.str "places"] := h
      injection h with h
      injection h with _ h
      cases h
    | fork gs =>
      have h : Val.tup [.str "fork", .tup gs.vs] = Val.tup [.str "places"] := h
      injection h with h
      injection h with _ h
      cases h
  · intro h
    rw [h]
theorem eqv_str {x y : Str} (hx : PyData.strOk x = true) (hy : PyData.strOk y = true) : eqv (.str x) (.str y) = some (decide (x = y)) := by
  obtain ⟨b, e, i⟩ := eqv_good (v := .str x) (w := .str y) hx hy (by simp [Val.dep])
  rw [e]
  congr 1
  rw [Bool.eq_iff_iff, i, decide_eq_true_eq]
  exact ⟨fun h => Val.str.inj h, fun h => congrArg Val.str h⟩
theorem cmp_str {ρ : Env} {B : Bool → Env → Prop} {x y : Str} (hx : PyData.strOk x = true) (hy : PyData.strOk y = true) (h : B (decide (x = y)) ρ) : CMP .Eq ⟨.str x, .fz⟩ ⟨.str y, .fz⟩ ρ B := ⟨_, _, _, rfl, rfl, eqv_str hx hy, h⟩
theorem ok_key : PyData.strOk "key" = true := by decide +kernel
theorem ok_fork : PyData.strOk "fork" = true := by decide +kernel
theorem ok_places : PyData.strOk "places" = true := by decide +kernel
theorem key_key : decide (("key" : Str) = "key") = true := by decide +kernel
theorem fork_key : decide (("fork" : Str) = "key") = false := by decide +kernel
theorem places_key : decide (("places" : Str) = "key") = false := by decide +kernel
theorem fork_fork : decide (("fork" : Str) = "fork") = true := by decide +kernel
theorem places_fork : decide (("places" : Str) = "fork") = false := by decide +kernel
/-! ### which group -/
def Grps.at_ (c : Nat) : Nat → Grps → Nat
  | i, .nil => i
  | i, .cons g _ r => if c ∈ g then i else r.at_ c (i + 1)
def Grps.sub (c : Nat) : Grps → Tree
  | .nil => .leaf
  | .cons g t r => if c ∈ g then t else r.sub c
def Grps.Has (c : Nat) (gs : Grps) : Prop := ∃ p ∈ gs.list, c ∈ p.1
theorem Grps.Part.has {m c : Nat} {gs : Grps} (h : gs.Part m) (hc : c < m) : gs.Has c := by
  have : c ∈ gs.list.flatMap (·.1) := h.all.mem_iff.mpr (List.mem_range.mpr hc)
  obtain ⟨p, hp, h⟩ := List.mem_flatMap.mp this
  exact ⟨p, hp, h⟩
theorem Grps.at_spec {c : Nat} : ∀ {gs : Grps}, gs.Has c → ∀ i : Nat, ∃ j g, gs.at_ c i = i + j ∧ gs.list[j]? = some (g, gs.sub c) ∧ c ∈ g
  | .nil, ⟨p, hp, _⟩, i => nomatch hp
  | .cons g t r, ⟨p, hp, h⟩, i => by
    by_cases hg : c ∈ g
    · refine ⟨0, g, ?_, ?_, hg⟩
      · show (if c ∈ g then i else r.at_ c (i + 1)) = _
        rw [if_pos hg]; rfl
      · show some (g, t) = some (g, if c ∈ g then t else r.sub c)
        rw [if_pos hg]
    · have hr : r.Has c := by
        rcases List.mem_cons.mp hp with rfl | hp
        · exact absurd h hg
        · exact ⟨p, hp, h⟩
      obtain ⟨j, g', e1, e2, e3⟩ := Grps.at_spec hr (i + 1)
      refine ⟨j + 1, g', ?_, ?_, e3⟩
      · show (if c ∈ g then i else r.at_ c (i + 1)) = _
        rw [if_neg hg, e1]; omega
      · show r.list[j]? = some (g', if c ∈ g then t else r.sub c)
        rw [if_neg hg]; exact e2
theorem Grps.at_filter {c : Nat} : ∀ (gs : Grps) (i : Nat), ((gs.list.zipIdx i).filter fun q => decide (c ∈ q.1.1)).head?.map (·.2) = if gs.list.any (fun p => decide (c ∈ p.1)) then some (gs.at_ c i) else none
  | .nil, i => rfl
  | .cons g t r, i => by
    show ((((g, t) :: r.list).zipIdx i).filter fun q => decide (c ∈ q.1.1)).head?.map (·.2) = if (((g, t) :: r.list).any fun p => decide (c ∈ p.1)) then some (if c ∈ g then i else r.at_ c (i + 1)) else none
    rw [List.zipIdx_cons, List.filter_cons, List.any_cons]
    by_cases hg : c ∈ g
    · rw [if_pos (by simpa using hg), if_pos (by simp [hg]), if_pos hg]
      rfl
    · rw [if_neg (by simpa using hg), if_neg hg]
      simp only [hg, decide_false, Bool.false_or]
      exact Grps.at_filter r (i + 1)
/-! ### what a tree compares -/
mutual
def Tree.path (p : List Int) (c : Nat) : Tree → List Int
  | .leaf => p
  | .key row hs t => (dot row p + hs.getD c 0) :: Tree.path p c t
  | .fork gs => Grps.path p c 0 gs
def Grps.path (p : List Int) (c : Nat) : Nat → Grps → List Int
  | _, .nil => []
  | i, .cons g t r => if c ∈ g then (i : Int) :: Tree.path p c t else Grps.path p c (i + 1) r
end
theorem Grps.path_eq {p : List Int} {c : Nat} : ∀ {gs : Grps}, gs.Has c → ∀ i : Nat, gs.path p c i = (gs.at_ c i : Int) :: (gs.sub c).path p c
  | .nil, ⟨_, hp, _⟩, i => nomatch hp
  | .cons g t r, ⟨q, hp, h⟩, i => by
    show (if c ∈ g then (i : Int) :: t.path p c else r.path p c (i + 1)) = (((if c ∈ g then i else r.at_ c (i + 1) : Nat)) : Int) :: (if c ∈ g then t else r.sub c).path p c
    by_cases hg : c ∈ g
    · rw [if_pos hg, if_pos hg, if_pos hg]
    · have hr : r.Has c := by
        rcases List.mem_cons.mp hp with rfl | hp
        · exact absurd h hg
        · exact ⟨q, hp, h⟩
      rw [if_neg hg, if_neg hg, if_neg hg, Grps.path_eq hr (i + 1)]
/-- the sign of two rows -/
def sgn (a b : List Int) : Int := if lexLt a b = true then -1 else if a = b then 0 else 1
theorem sgn_cons_eq {x : Int} {a b : List Int} : sgn (x :: a) (x :: b) = sgn a b := by
  unfold sgn lexLt
  rw [HT.lexLt_cons, if_pos rfl]
  simp
theorem sgn_cons_ne {x y : Int} {a b : List Int} (h : x ≠ y) : sgn (x :: a) (y :: b) = if x < y then -1 else 1 := by
  unfold sgn lexLt
  rw [HT.lexLt_cons, if_neg h]
  by_cases hl : x < y
  · simp [hl]
  · simp [hl, h]
end Rv

open Rv in
local macro_rules | `(tactic| walk_at "f") => `(tactic| with_reducible first
  | refine' wp_cons ?_
  | refine' aft_nx ?_
  | refine' aft_rt ?_
  | refine' aft_ct ?_
  | refine' aft_bk ?_
  | (refine' cmp_str ?a ?b ?_; (case a => k_dflt first | exact ok_key | exact ok_fork | exact ok_places | decide +kernel); (case b => k_dflt first | exact ok_key | exact ok_fork | exact ok_places | decide +kernel))
  | refine' ITE_yes key_key ?_
  | refine' ITE_no fork_key ?_
  | refine' ITE_no places_key ?_
  | refine' ITE_yes fork_fork ?_
  | refine' ITE_no places_fork ?_
  | (refine' take_mk ?e ?m ?_; (case e => k_dflt exact rfl); (case m => k_dflt exact rfl))
  | (refine' w_lmX ?e ?_; (case e => k_dflt exact rfl))
  | refine' w_rng1 ?_
  | refine' w_lrg1 ?_
  | refine' w_enm ?_
  | refine' ws_setSubL ?_
  | (refine' sets_mk ?e ?f ?_; (case e => k_dflt exact rfl); (case f => k_dflt exact rfl))
  | (refine' ws_aug ?e ?_; (case e => k_dflt exact rfl))
  | (refine' aug_add ?e ?_; (case e => k_dflt exact rfl))
  | (refine' aug_sub ?e ?_; (case e => k_dflt exact rfl))
  | refine' wp_nil ?_
  | (refine' OKB_mk ?h ?_; (case h => k_dflt exact rfl))
  | refine ITE_nt ?_
  | refine ITE_nf ?_
  | refine ws_ret ?_
  | refine ws_ite ?_
  | refine ws_asg ?_
  | refine ws_expr ?_
  | refine ws_par ?_
  | refine ws_asgT ?_
  | refine' w_con ?_
  | (refine' w_fz ?e ?_; (case e => k_dflt exact rfl))
  | (refine' w_im ?e ?m ?_; (case e => k_dflt exact rfl); (case m => k_dflt exact rfl))
  | (refine' w_own ?e ?m ?_; (case e => k_dflt exact rfl); (case m => k_dflt exact rfl))
  | refine' w_glo ?_
  | refine' w_typ ?_
  | refine' w_bop ?_
  | refine' w_and ?_
  | refine' w_or ?_
  | refine' w_not ?_
  | refine' w_cmp ?_
  | refine' w_chn ?_
  | refine' w_ite ?_
  | refine' w_sub ?_
  | refine' w_slc ?_
  | refine' w_tup ?_
  | refine' w_lst ?_
  | refine' w_callB ?_
  | (refine' w_callF ?m ?_; (case m => k_dflt exact rfl))
  | refine fzs_nil ?_
  | refine fzs_cons ?_
  | refine evs_nil ?_
  | refine evs_cons ?_
  | refine evts_nil ?_
  | refine evts_cons ?_
  | refine args_nil ?_
  | refine args_fz ?_
  | (refine' args_own ?e ?_; (case e => k_dflt exact rfl))
  | refine FZ_fz ?_
  | refine FZ_fr ?_
  | (refine' FZ_var ?e ?_; (case e => k_dflt exact rfl))
  | refine KEEP_fz ?_
  | refine KEEP_fr ?_
  | (refine' KEEP_var ?e ?_; (case e => k_dflt exact rfl))
  | refine ITE_tt ?_
  | refine ITE_ff ?_
  | refine nx_nx ?_
  | refine nx_rt ?_
  | refine tru_bl ?_
  | refine' w_neg ?_
  | refine' w_attr ?_
  | refine bop_add ?_
  | refine bop_sub ?_
  | refine cmp_eq ?_
  | refine cmp_ne ?_
  | refine cmp_lt ?_
  | refine cmp_le ?_
  | refine cmp_gt ?_
  | refine cmp_ge ?_
  | refine' w_items ?_
  | refine' w_zip2 ?_
  | (refine' biv_Bl biv_isi ?a ?b ?_; (case a => k_dflt exact rfl); (case b => k_dflt exact rfl))
  | (refine' biv_In biv_len ?a ?b ?_; (case a => k_dflt exact rfl); (case b => k_dflt exact rfl))
  | (refine' biv_In biv_int ?a ?b ?_; (case a => k_dflt exact rfl); (case b => k_dflt exact rfl))
  | (refine' biv_In biv_abs ?a ?b ?_; (case a => k_dflt exact rfl); (case b => k_dflt exact rfl))
  | (refine' biv_In biv_min ?a ?b ?_; (case a => k_dflt exact rfl); (case b => k_dflt exact rfl))
  | (refine' biv_In biv_max ?a ?b ?_; (case a => k_dflt exact rfl); (case b => k_dflt exact rfl))
  | (refine' biv_Tu biv_tuple ?a ?b ?_; (case a => k_dflt exact rfl); (case b => k_dflt exact rfl))
  | (refine' biv_Ls biv_list ?a ?b ?_; (case a => k_dflt exact rfl); (case b => k_dflt exact rfl))
  | (refine' biv_Bl biv_all ?a (allV_map _ _) ?_; (case a => k_dflt exact rfl))
  | (refine' biv_Bl biv_any ?a (anyV_map _ _) ?_; (case a => k_dflt exact rfl))
  | (refine' biv_In biv_sum ?a (sumV_map _ _) ?_; (case a => k_dflt exact rfl))
  | (refine' ITE_no ?h ?_; (case h => k_dflt exact rfl))
  | (refine' ITE_yes ?h ?_; (case h => k_dflt exact rfl)))

/-! Rv, plain part 9: the defs about trees. -/
namespace Rv
open PySem
section
variable {T : Tab}
theorem below_ok [HasFn T "below" k_below] {n : Nat} {t : Tree} (hb : t.kids.length ≤ big) : callN T (n + 1) "below" [t.v] = .ok (.lst (t.kids.map Tree.v)) [] := by
  refine call_of (fun c => c = _) HasFn.eq (by rfl) ?_
  show WP (evSs _ _ c_below [some (t.v, false), none]) _ _
  unfold c_below
  cases t with
  | leaf =>
    unfold Tree.v
    repeat walk_at "f"
    refine sub_of rfl rfl rfl ?_
    repeat walk_at "f"
    refine sub_of rfl rfl rfl ?_
    repeat walk_at "f"
    exact out_fr rfl rfl
  | key row hs t =>
    unfold Tree.v
    repeat walk_at "f"
    refine sub_of rfl rfl rfl ?_
    repeat walk_at "f"
    refine sub_of rfl rfl rfl ?_
    repeat walk_at "f"
    exact out_fr rfl rfl
  | fork gs =>
    unfold Tree.v
    have hb : (gs.list.map (·.2)).length ≤ big := hb
    rw [List.length_map] at hb
    repeat walk_at "f"
    refine sub_of rfl rfl rfl ?_
    repeat walk_at "f"
    refine sub_of rfl rfl rfl ?_
    repeat walk_at "f"
    refine w_compM (as := gs.list) (g := grpV) (f := fun p => p.2.v) (ρ1 := [some (.tup [.str "fork", .tup gs.vs], false), none]) ?_ hb ?_ ?_
    · repeat walk_at "f"
      refine sub_of rfl rfl rfl ?_
      exact items_fz rfl ⟨Grps.vs_eq gs, rfl⟩
    · intro a ha
      refine ⟨_, rfl, ?_⟩
      repeat walk_at "f"
      refine sub_of rfl rfl rfl ?_
      repeat walk_at "f"
      exact ⟨rfl, rfl⟩
    · repeat walk_at "f"
      refine (out_fr rfl rfl).trans ?_
      show CRes.ok (.lst (gs.list.map fun p => p.2.v)) [] = .ok (.lst ((gs.list.map (·.2)).map Tree.v)) []
      rw [List.map_map]
      rfl
theorem natI_len (g : List Nat) : (natI g).length = g.length := List.length_map _
theorem pairwise_natI {g : List Nat} (h : g.Pairwise (· < ·)) : (natI g).Pairwise (· ≤ ·) := by
  unfold natI
  rw [List.pairwise_map]
  exact h.imp fun h => by omega
theorem natI_flat (gs : List (List Nat × Tree)) : gs.flatMap (fun p => natI p.1) = natI (gs.flatMap (·.1)) := by
  induction gs with
  | nil => rfl
  | cons g gs ih =>
    rw [List.flatMap_cons, List.flatMap_cons, ih]
    unfold natI
    rw [List.map_append]
theorem natI_range_sorted (m : Nat) : (natI (List.range m)).Pairwise (· ≤ ·) := by
  unfold natI
  rw [List.pairwise_map]
  exact List.pairwise_lt_range.imp fun h => by omega
theorem len_le_flat {α β : Type} {f : α → List β} : ∀ {l : List α} {p : α}, p ∈ l → (f p).length ≤ (l.flatMap f).length
  | x :: l, p, h => by
    rw [List.flatMap_cons, List.length_append]
    rcases List.mem_cons.mp h with rfl | h
    · omega
    · have := len_le_flat (f := f) h
      omega
theorem is_parting_ok [HasFn T "is_number" k_is_number] [HasFn T "is_parting" k_is_parting] {n m : Nat} {gs : Grps} (h : gs.Part m) (hm : m ≤ 1000000) (hl : gs.list.length ≤ 1000000) : callN T (n + 2) "is_parting" [.tup gs.vs, .int m] = .ok (.bl true) [] := by
  have hall : (gs.list.flatMap (·.1)).length = m := by rw [h.all.length_eq, List.length_range]
  have hg : ∀ p ∈ gs.list, p.1.length ≤ m := fun p hp => by
    rw [← hall]
    exact len_le_flat hp
  refine call_of (fun c => c = _) HasFn.eq (by rfl) ?_
  show WP (evSs _ _ c_is_parting [some (.tup gs.vs, false), some (.int m, false), none, none, none]) _ _
  unfold c_is_parting
  repeat walk_at "f"
  refine cmp_eqG (show Val.goods gs.vs = true from Grps.good gs) rfl (by show min _ 1 ≤ 64; omega) fun b i => ?_
  have hb : b = false := by
    cases b with
    | false => rfl
    | true =>
      exfalso
      have := Val.tup.inj (i.mp rfl)
      rw [Grps.vs_eq] at this
      exact h.ne (List.map_eq_nil_iff.mp this)
  subst hb
  repeat walk_at "f"
  refine wp_for (fun rest ρ => ∃ (pre suf : List (List Nat × Tree)) (lv : Option (Val × Bool)), gs.list = pre ++ suf ∧ rest = suf.map grpV ∧ ρ = [some (.tup gs.vs, false), some (.int m, false), some (.lst ((natI (pre.flatMap (·.1))).map .int), true), lv, none]) ?_ ?_ ?_
  · repeat walk_at "f"
    exact items_fz rfl ⟨[], gs.list, none, rfl, Grps.vs_eq gs, rfl⟩
  · rintro x rest ρ ⟨pre, suf, lv, e1, e2, rfl⟩
    cases suf with
    | nil => cases e2
    | cons p suf =>
      cases e2
      obtain ⟨g, t⟩ := p
      have hp : (g, t) ∈ gs.list := by rw [e1]; exact List.mem_append_right _ List.mem_cons_self
      obtain ⟨ne, asc⟩ := h.each _ hp
      have hgl : g.length ≤ m := hg _ hp
      refine ⟨_, rfl, ?_⟩
      unfold grpV
      repeat walk_at "f"
      refine sub_of rfl rfl rfl ?_
      unfold tupN tupI
      repeat walk_at "f"
      refine sub_of rfl rfl rfl ?_
      repeat walk_at "f"
      refine cmp_eqG (good_tupI _) rfl (by show min _ 1 ≤ 64; omega) fun b i => ?_
      have hb : b = false := by
        cases b with
        | false => rfl
        | true =>
          exfalso
          have := Val.tup.inj (i.mp rfl)
          exact ne (by unfold natI at this; rw [List.map_map] at this; exact List.map_eq_nil_iff.mp this)
      subst hb
      repeat walk_at "f"
      refine w_compM (as := natI g) (g := .int) (f := fun _ => .bl true) (ρ1 := [some (.tup gs.vs, false), some (.int m, false), some (.lst ((natI (pre.flatMap (·.1))).map .int), true), some (.tup [.tup ((natI g).map .int), t.v], false), none]) ?_ (by rw [natI_len]; show _ ≤ 16777216; omega) ?_ ?_
      · repeat walk_at "f"
        refine sub_of rfl rfl rfl ?_
        exact items_fz rfl ⟨rfl, rfl⟩
      · intro a ha
        refine ⟨_, rfl, ?_⟩
        repeat walk_at "f"
        refine call_v is_number_int rfl rfl rfl ?_
        repeat walk_at "f"
        exact ⟨rfl, rfl⟩
      · repeat walk_at "f"
        refine ITE_no (by simp) ?_
        repeat walk_at "f"
        refine sub_of rfl rfl rfl ?_
        repeat walk_at "f"
        refine sub_of rfl rfl rfl ?_
        repeat walk_at "f"
        refine biv_Ls biv_sorted rfl (sorted_tup _) ?_
        rw [sortI_of (.refl _) (pairwise_natI asc)]
        obtain ⟨b, e, i⟩ := eqv_good (v := .lst ((natI g).map .int)) (w := .lst ((natI g).map .int)) (goods_map fun _ _ => rfl) (goods_map fun _ _ => rfl) (by
          have := deps_map (f := Val.int) (xs := natI g) (k := 0) fun _ _ => Nat.le_refl 0
          show min (_ + 1) (_ + 1) ≤ 64
          omega)
        have hb : b = true := i.mpr rfl
        subst hb
        refine cmp_of (b := false) rfl rfl (by show (eqv _ _).map not = _; rw [e]; rfl) ?_
        repeat walk_at "f"
        refine sub_of rfl rfl rfl ?_
        repeat walk_at "f"
        have hlen : (natI (pre.flatMap (·.1))).length + (natI g).length ≤ m := by
          rw [natI_len, natI_len, ← hall, e1, List.flatMap_append, List.length_append, List.flatMap_cons, List.length_append]
          show (pre.flatMap (·.1)).length + g.length ≤ (pre.flatMap (·.1)).length + (g.length + _)
          omega
        refine lm_extend rfl (by rw [List.length_map, List.length_map]; show _ ≤ 16777216; omega) ?_
        repeat walk_at "f"
        refine ⟨pre ++ [(g, t)], suf, some (.tup [.tup ((natI g).map .int), t.v], false), by rw [e1, List.append_assoc]; rfl, rfl, ?_⟩
        rw [show natI ((pre ++ [(g, t)]).flatMap (·.1)) = natI (pre.flatMap (·.1)) ++ natI g by
          unfold natI
          rw [List.flatMap_append, List.map_append]
          simp, List.map_append]
        rfl
  · rintro ρ ⟨pre, suf, lv, e1, e2, rfl⟩
    cases suf with
    | cons d suf => cases e2
    | nil =>
      rw [List.append_nil] at e1
      subst e1
      repeat walk_at "f"
      refine biv_Ls biv_sorted rfl (sorted_lst _) ?_
      repeat walk_at "f"
      refine ⟨_, _, rfl, rangeL_nat hm, ?_⟩
      have hs : sortI (natI (gs.list.flatMap (·.1))) = natI (List.range m) := sortI_of (h.all.map _) (natI_range_sorted m)
      rw [hs]
      have hr : (List.range m).map (fun k : Nat => Val.int k) = (natI (List.range m)).map .int := by unfold natI; rw [List.map_map]; rfl
      rw [hr]
      obtain ⟨b, e, i⟩ := eqv_good (v := .lst ((natI (List.range m)).map .int)) (w := .lst ((natI (List.range m)).map .int)) (goods_map fun _ _ => rfl) (goods_map fun _ _ => rfl) (by
          have := deps_map (f := Val.int) (xs := natI (List.range m)) (k := 0) fun _ _ => Nat.le_refl 0
          show min (_ + 1) (_ + 1) ≤ 64
          omega)
      have hb : b = true := i.mpr rfl
      subst hb
      refine cmp_of (b := true) rfl rfl e ?_
      repeat walk_at "f"
      exact out_fz rfl rfl
end
end Rv

/-! Rv, plain part 10: the defs about trees, on. -/
namespace Rv
open PySem
section
variable {T : Tab}
/-- sizes of a tree -/
theorem Grps.list_le_cnt : ∀ gs : Grps, gs.list.length ≤ gs.cnt
  | .nil => Nat.le_refl 0
  | .cons g t r => by
    show r.list.length + 1 ≤ t.cnt + r.cnt
    have := Grps.list_le_cnt r
    have := t.cnt_pos
    omega
theorem Tree.kids_le (t : Tree) : t.kids.length + 1 ≤ t.cnt := by
  cases t with
  | leaf => exact Nat.le_refl 1
  | key row hs t => show 2 ≤ 1 + t.cnt; have := t.cnt_pos; omega
  | fork gs => show (gs.list.map (·.2)).length + 1 ≤ 1 + gs.cnt; rw [List.length_map]; have := gs.list_le_cnt; omega
theorem is_node_ok [HasFn T "is_number" k_is_number] [HasFn T "are_numbers" k_are_numbers] [HasFn T "is_parting" k_is_parting] [HasFn T "is_node" k_is_node] [HasCon T "LEAF" (.tup [.str "places"])] {n k m : Nat} {t : Tree} (w : t.Wf k m) (hk : k ≤ 1000000) (hm : m ≤ 1000000) (hc : t.cnt ≤ 1000000) : callN T (n + 3) "is_node" [t.v, .int k, .int m] = .ok (.bl true) [] := by
  refine call_of (fun c => c = _) HasFn.eq (by rfl) ?_
  show WP (evSs _ _ c_is_node [some (t.v, false), some (.int k, false), some (.int m, false)]) _ _
  unfold c_is_node
  cases t with
  | leaf =>
    unfold Tree.v
    repeat walk_at "f"
    refine cmp_eqG Tree.leaf.good rfl (by decide) fun b i => ?_
    have hb : b = false := by
      cases b with
      | false => rfl
      | true => have := Val.tup.inj (i.mp rfl); cases this
    subst hb
    repeat walk_at "f"
    refine sub_of rfl rfl rfl ?_
    repeat walk_at "f"
    refine sub_of rfl rfl rfl ?_
    repeat walk_at "f"
    refine cmp_eqG Tree.leaf.good Tree.leaf.good (by decide) fun b i => ?_
    have hb : b = true := i.mpr rfl
    subst hb
    repeat walk_at "f"
    exact out_fz rfl rfl
  | key row hs t =>
    obtain ⟨w1, w2, w3, w4⟩ := w
    have hv : (Val.tup [.str "key", tupI row, tupI hs, t.v]).good = true := Tree.good (.key row hs t)
    unfold Tree.v
    repeat walk_at "f"
    refine cmp_eqG hv rfl (by show min _ 1 ≤ 64; omega) fun b i => ?_
    have hb : b = false := by
      cases b with
      | false => rfl
      | true => have := Val.tup.inj (i.mp rfl); cases this
    subst hb
    repeat walk_at "f"
    refine sub_of rfl rfl rfl ?_
    repeat walk_at "f"
    refine sub_of rfl rfl rfl ?_
    repeat walk_at "f"
    refine call_v (are_numbers_int (by rw [w1]) (by rw [w1]; show _ ≤ 16777216; omega)) rfl rfl rfl ?_
    repeat walk_at "f"
    refine sub_of rfl rfl rfl ?_
    repeat walk_at "f"
    refine call_v (are_numbers_int (by rw [w2]) (by rw [w2]; show _ ≤ 16777216; omega)) rfl rfl rfl ?_
    repeat walk_at "f"
    exact out_fz rfl rfl
  | fork gs =>
    have hv : (Val.tup [.str "fork", .tup gs.vs]).good = true := Tree.good (.fork gs)
    have hl := gs.list_le_cnt
    have hc : 1 + gs.cnt ≤ 1000000 := hc
    unfold Tree.v
    repeat walk_at "f"
    refine cmp_eqG hv rfl (by show min _ 1 ≤ 64; omega) fun b i => ?_
    have hb : b = false := by
      cases b with
      | false => rfl
      | true => have := Val.tup.inj (i.mp rfl); cases this
    subst hb
    repeat walk_at "f"
    refine sub_of rfl rfl rfl ?_
    repeat walk_at "f"
    refine sub_of rfl rfl rfl ?_
    repeat walk_at "f"
    refine sub_of rfl rfl rfl ?_
    repeat walk_at "f"
    refine call_v (is_parting_ok w.1 hm (by omega)) rfl rfl rfl ?_
    repeat walk_at "f"
    exact out_fz rfl rfl
theorem cnt_flat (ts : List Tree) : (ts.map Tree.cnt).sum = ts.length + ((ts.flatMap Tree.kids).map Tree.cnt).sum := by
  induction ts with
  | nil => rfl
  | cons t ts ih =>
    rw [List.map_cons, List.sum_cons, ih, List.flatMap_cons, List.map_append, List.sum_append, List.length_cons, t.cnt_kids]
    omega
theorem len_le_cnts (ts : List Tree) : ts.length ≤ (ts.map Tree.cnt).sum := by
  rw [cnt_flat]; omega
theorem cnt_mem {ts : List Tree} {t : Tree} (h : t ∈ ts) : t.cnt ≤ (ts.map Tree.cnt).sum := by
  induction ts with
  | nil => cases h
  | cons s ts ih =>
    rw [List.map_cons, List.sum_cons]
    rcases List.mem_cons.mp h with rfl | h
    · omega
    · have := ih h; omega
theorem is_tree_ok [HasFn T "is_number" k_is_number] [HasFn T "are_numbers" k_are_numbers] [HasFn T "is_parting" k_is_parting] [HasFn T "is_node" k_is_node] [HasFn T "below" k_below] [HasFn T "is_tree" k_is_tree] [HasCon T "LEAF" (.tup [.str "places"])] [HasCon T "MAX_DEPTH" (.int 20)] [HasCon T "MAX_NODES" (.int 200)]
    {n k m : Nat} {t : Tree} (w : t.Wf k m) (hk : k ≤ 1000000) (hm : m ≤ 1000000) (hd : t.dep ≤ 20) (hc : t.cnt ≤ 200) : callN T (n + 4) "is_tree" [t.v, .int k, .int m] = .ok (.bl true) [] := by
  refine call_of (fun c => c = _) HasFn.eq (by rfl) ?_
  show WP (evSs _ _ c_is_tree [some (t.v, false), some (.int k, false), some (.int m, false), none, none, none, none, none]) _ _
  unfold c_is_tree
  repeat walk_at "f"
  refine wp_for (fun rest ρ => ∃ (ks : List Nat) (ts : List Tree) (o : Bool) (c : Nat) (lv : Option (Val × Bool)), rest = ks.map (fun k : Nat => .int k) ∧ ρ = [some (t.v, false), some (.int k, false), some (.int m, false), some (.lst (ts.map Tree.v), true), some (.int c, false), lv, none, none] ∧ ts ≠ [] ∧ (∀ s ∈ ts, s.Wf k m ∧ s.dep ≤ ks.length) ∧ c + (ts.map Tree.cnt).sum = t.cnt) ?_ ?_ ?_
  · repeat walk_at "f"
    refine ⟨_, _, rfl, range_nat (n := 20) (by decide), items_fz rfl ⟨List.range 20, [t], true, 0, none, rfl, rfl, by simp, ?_, by simp⟩⟩
    intro s hs
    rw [List.mem_singleton.mp hs]
    exact ⟨w, hd⟩
  · rintro x rest ρ ⟨ks, ts, o, c, lv, e1, rfl, ne, hw, hs⟩
    cases ks with
    | nil => cases e1
    | cons a ks =>
      cases e1
      refine ⟨_, rfl, ?_⟩
      have hlen := len_le_cnts ts
      have hfl := cnt_flat ts
      have hlen2 := len_le_cnts (ts.flatMap Tree.kids)
      repeat walk_at "f"
      refine w_compM (as := ts) (g := Tree.v) (f := fun _ => .bl true) (ρ1 := [some (t.v, false), some (.int k, false), some (.int m, false), some (.lst (ts.map Tree.v), false), some (.int c, false), some (.int a, false), none, none]) ?_ (by show _ ≤ 16777216; omega) ?_ ?_
      · repeat walk_at "f"
        exact items_var rfl rfl ⟨rfl, rfl⟩
      · intro s hs2
        refine ⟨_, rfl, ?_⟩
        repeat walk_at "f"
        refine call_v (is_node_ok (hw s hs2).1 hk hm (by have := cnt_mem hs2; omega)) rfl rfl rfl ?_
        repeat walk_at "f"
        exact ⟨rfl, rfl⟩
      · repeat walk_at "f"
        refine ITE_no (by simp) ?_
        repeat walk_at "f"
        refine w_comp2 (as := ts) (g := Tree.v) (bs := Tree.kids) (g2 := Tree.v) (f := Tree.v) (ρ1 := [some (t.v, false), some (.int k, false), some (.int m, false), some (.lst (ts.map Tree.v), false), some (.int (c + ts.length), false), some (.int a, false), none, none]) ?_ (by show _ ≤ 16777216; omega) ?_ ?_
        · repeat walk_at "f"
          exact items_fz rfl ⟨rfl, by rw [List.length_map]; rfl⟩
        · intro s hs2
          refine ⟨_, rfl, ?_, ?_, rfl⟩
          · repeat walk_at "f"
            refine call_v (below_ok (by have := cnt_mem hs2; have := s.kids_le; show _ ≤ 16777216; omega)) rfl rfl rfl ?_
            exact items_fz rfl ⟨rfl, rfl⟩
          · intro b hb
            refine ⟨_, rfl, ?_⟩
            repeat walk_at "f"
            exact ⟨rfl, rfl⟩
        · repeat walk_at "f"
          refine ITE_no (decide_eq_false (by omega)) ?_
          repeat walk_at "f"
          obtain ⟨b, e, i⟩ := eqv_good (v := .lst ((ts.flatMap Tree.kids).map Tree.v)) (w := .lst []) (goods_map fun s _ => Tree.good s) rfl (by show min _ 1 ≤ 64; omega)
          refine cmp_of (b := b) rfl rfl e ?_
          repeat walk_at "f"
          cases b with
          | true =>
            repeat walk_at "f"
            exact out_fz rfl rfl
          | false =>
            repeat walk_at "f"
            refine ⟨ks, ts.flatMap Tree.kids, true, c + ts.length, some (.int a, false), rfl, ?_, ?_, ?_, ?_⟩
            · rw [show ((c + ts.length : Nat) : Int) = (c : Int) + ts.length from Int.natCast_add _ _]
              rfl
            · intro z
              have := i.mpr (by rw [z]; rfl)
              cases this
            · intro s hs2
              obtain ⟨u, hu, h2⟩ := List.mem_flatMap.mp hs2
              have h3 := (hw u hu).2
              rw [List.length_cons] at h3
              have h4 := Tree.dep_kid h2
              exact ⟨Tree.wf_kid (hw u hu).1 h2, by omega⟩
            · omega
  · rintro ρ ⟨ks, ts, o, c, lv, e1, rfl, ne, hw, hs⟩
    cases ks with
    | cons a ks => cases e1
    | nil =>
      exfalso
      cases ts with
      | nil => exact ne rfl
      | cons s ts =>
        have := (hw s List.mem_cons_self).2
        have := s.dep_pos
        rw [List.length_nil] at *
        omega
theorem sum_map_int (l : List Nat) : (l.map fun k : Nat => (k : Int)).sum = (l.sum : Nat) := by
  induction l with
  | nil => rfl
  | cons x l ih => rw [List.map_cons, List.sum_cons, List.sum_cons, ih]; omega
theorem node_count_ok [HasFn T "below" k_below] [HasFn T "node_count" k_node_count] {n : Nat} : ∀ (d : Nat) {t : Tree}, t.dep ≤ d → t.cnt ≤ 1000000 → callN T (n + d + 1) "node_count" [t.v] = .ok (.int t.cnt) []
  | 0, t, hd, hc => by have := t.dep_pos; omega
  | d + 1, t, hd, hc => by
    refine call_of (fun c => c = _) HasFn.eq (by rfl) ?_
    show WP (evSs _ _ c_node_count [some (t.v, false), none]) _ _
    have hk := t.kids_le
    unfold c_node_count
    repeat walk_at "f"
    refine w_compM (as := t.kids) (g := Tree.v) (f := fun s => .int s.cnt) (ρ1 := [some (t.v, false), none]) ?_ (by show _ ≤ 16777216; omega) ?_ ?_
    · repeat walk_at "f"
      refine call_v (below_ok (n := n + d) (by show _ ≤ 16777216; omega)) rfl rfl rfl ?_
      exact items_fz rfl ⟨rfl, rfl⟩
    · intro s hs
      refine ⟨_, rfl, ?_⟩
      repeat walk_at "f"
      have hs2 : s.cnt ≤ t.cnt := by rw [t.cnt_kids]; have := cnt_mem hs; omega
      refine call_v (node_count_ok d (t := s) (by have := Tree.dep_kid hs; omega) (by omega)) rfl rfl rfl ?_
      repeat walk_at "f"
      exact ⟨rfl, rfl⟩
    · repeat walk_at "f"
      refine (out_fz rfl rfl).trans ?_
      congr 2
      have := sum_map_int (t.kids.map Tree.cnt)
      rw [List.map_map] at this
      rw [show (t.kids.map fun s => (s.cnt : Int)).sum = _ from this, t.cnt_kids]
      omega
theorem group_at_ok [HasFn T "group_at" k_group_at] {n c : Nat} {gs : Grps} (h : gs.Has c) (hl : gs.list.length ≤ 1000000) : callN T (n + 1) "group_at" [.tup gs.vs, .int c] = .ok (.int (gs.at_ c 0)) [] := by
  refine call_of (fun c => c = _) HasFn.eq (by rfl) ?_
  show WP (evSs _ _ c_group_at [some (.tup gs.vs, false), some (.int c, false), none, none]) _ _
  unfold c_group_at
  repeat walk_at "f"
  refine w_compP (as := gs.list.zipIdx 0) (g := fun q => .tup [.int q.2, grpV q.1]) (f := fun q => .int q.2) (p := fun q => decide (c ∈ q.1.1)) (ρ1 := [some (.tup gs.vs, false), some (.int c, false), none, none]) ?_ ?_ ?_ ?_
  · repeat walk_at "f"
    refine ⟨gs.vs, rfl, items_fz rfl ⟨?_, rfl⟩⟩
    rw [enumV_eq, Grps.vs_eq, List.zipIdx_map, List.map_map]
    rfl
  · rw [List.length_zipIdx]; show _ ≤ 16777216; omega
  · intro a ha
    refine ⟨_, rfl, ?_⟩
    unfold grpV tupN tupI
    repeat walk_at "f"
    refine sub_of rfl rfl rfl ?_
    refine cmp_of rfl rfl (inV_ints _ _) ?_
    repeat walk_at "f"
    have hm : decide ((c : Int) ∈ natI a.1.1) = decide (c ∈ a.1.1) := by
      rw [decide_eq_decide]
      unfold natI
      constructor
      · intro hx
        obtain ⟨z, hz, e⟩ := List.mem_map.mp hx
        rwa [show c = z by omega]
      · exact fun hx => List.mem_map_of_mem hx
    rw [hm]
    by_cases hx : c ∈ a.1.1
    · rw [decide_eq_true hx]
      repeat walk_at "f"
      refine ⟨rfl, ?_⟩
      repeat walk_at "f"
      exact ⟨rfl, rfl⟩
    · rw [decide_eq_false hx]
      repeat walk_at "f"
      exact ⟨rfl, rfl⟩
  · repeat walk_at "f"
    have hf := Grps.at_filter (c := c) gs 0
    rw [if_pos (by obtain ⟨p, hp, hc⟩ := h; exact List.any_eq_true.mpr ⟨p, hp, decide_eq_true hc⟩)] at hf
    refine sub_of (u := .int (gs.at_ c 0)) rfl rfl ?_ ?_
    · show atI _ ((0 : Nat) : Int) = _
      refine atI_nat ?_
      rw [← List.head?_eq_getElem?, List.head?_map]
      cases hq : ((gs.list.zipIdx 0).filter fun q => decide (c ∈ q.1.1)).head? with
      | none => rw [hq] at hf; cases hf
      | some q =>
        rw [hq] at hf
        have hf : some q.2 = some (gs.at_ c 0) := hf
        injection hf with hf
        show some (Val.int q.2) = _
        rw [hf]
    · repeat walk_at "f"
      exact out_fz rfl rfl
end
end Rv

/-! Rv, plain part 11: the order of a tree; scans. -/
namespace Rv
open PySem
theorem cmp_ltT {ρ : Env} {B : Bool → Env → Prop} {a b : List Int} (h : B (lexLt a b) ρ) : CMP .Lt ⟨tupI a, .fz⟩ ⟨tupI b, .fz⟩ ρ B := by
  refine ⟨_, _, lexLt a b, rfl, rfl, ?_, h⟩
  show (match intsOf (a.map .int), intsOf (b.map .int) with
    | some ns, some ms => some (lexLt ns ms)
    | _, _ => none) = _
  rw [intsOf_map, intsOf_map]
theorem lexLt_irrefl : ∀ a : List Int, lexLt a a = false
  | [] => rfl
  | x :: xs => by unfold lexLt; rw [HT.lexLt_cons, if_pos rfl]; exact lexLt_irrefl xs
theorem at_ints {xs : List Int} {i : Int} (h0 : 0 ≤ i) (h1 : i.toNat < xs.length) : atI (xs.map .int) i = some (.int (xs.getD i.toNat 0)) :=
  atI_int h0 (by rw [List.getElem?_map, List.getElem?_eq_getElem h1, List.getD_eq_getElem?_getD, List.getElem?_eq_getElem h1]; rfl)
theorem Grps.Part.toNat {m : Nat} {c : Int} {gs : Grps} (h : gs.Part m) (h0 : 0 ≤ c) (h1 : c < m) : gs.Has c.toNat := h.has (by omega)
def Tree.pathAt (D : List Int) (t : Tree) (p : List Int) : List Int := t.path p (clsAt D p).toNat
def Tree.sign (D : List Int) (t : Tree) (a b : List Int) : Int := sgn (t.pathAt D a) (t.pathAt D b)
section
variable {T : Tab}
theorem sign_of_ok [HasFn T "class_at" k_class_at] [HasFn T "times" k_times] [HasFn T "group_at" k_group_at] [HasFn T "sign_of" k_sign_of] [HasCon T "LEAF" (.tup [.str "places"])] {n m : Nat} {D one other : List Int} {t : Tree} (hD : Dok D) (w : t.Wf D.length m) (hm : (m : Int) = prod D) (l1 : one.length = D.length) (l2 : other.length = D.length) (s1 : Sms one) (s2 : Sms other) (hc : t.cnt ≤ 1000000) (hf : t.dep < T.fuel) :
    callN T (n + 2) "sign_of" [t.v, tupI D, tupI one, tupI other] = .ok (.int (t.sign D one other)) [] := by
  have b1 := clsAt_bd hD l1
  have b2 := clsAt_bd hD l2
  have d3 := hD.l3
  refine call_of (fun c => c = _) HasFn.eq (by rfl) ?_
  show WP (evSs _ _ c_sign_of [some (t.v, false), some (tupI D, false), some (tupI one, false), some (tupI other, false), none, none, none, none]) _ _
  unfold c_sign_of
  repeat walk_at "f"
  refine call_v (class_at_ok hD l1) rfl rfl rfl ?_
  repeat walk_at "f"
  refine call_v (class_at_ok hD l2) rfl rfl rfl ?_
  repeat walk_at "f"
  refine wp_while (fun k ρ => ∃ (s : Tree) (lv lw : Option (Val × Bool)), ρ = [some (s.v, false), some (tupI D, false), some (tupI one, false), some (tupI other, false), some (.int (clsAt D one), false), some (.int (clsAt D other), false), lv, lw] ∧ s.Wf D.length m ∧ s.dep = k ∧ s.cnt ≤ 1000000 ∧ s.sign D one other = t.sign D one other) t.dep hf ⟨t, none, none, rfl, w, rfl, hc, rfl⟩ ?_
  rintro k ρ ⟨s, lv, lw, rfl, w, hk, hc, hs⟩
  refine w_evT ?_
  repeat walk_at "f"
  refine cmp_neG s.good Tree.leaf.good (by have := leaf_dep; show min _ (Tree.leaf.v.dep) ≤ 64; omega) fun b i => ?_
  cases s with
  | leaf =>
    have hb : b = false := by
      cases b with
      | false => rfl
      | true => exact absurd rfl (i.mp rfl)
    subst hb
    rw [show Tree.leaf.v = Val.tup [.str "places"] from rfl]
    repeat walk_at "f"
    refine cmp_eqG (good_tupI _) (good_tupI _) (by have := dep_tupI one; omega) fun b i => ?_
    have hs : sgn one other = t.sign D one other := hs
    rw [← hs]
    unfold sgn
    cases b with
    | true =>
      have e := tupI_inj (i.mp rfl)
      repeat walk_at "f"
      refine (out_fz rfl rfl).trans ?_
      rw [e]
      rw [lexLt_irrefl other]
      simp
    | false =>
      have e : one ≠ other := fun z => by have := i.mpr (by rw [z]); cases this
      repeat walk_at "f"
      refine cmp_ltT ?_
      repeat walk_at "f"
      cases hl : lexLt one other with
      | true =>
        repeat walk_at "f"
        refine ⟨1, rfl, ?_⟩
        repeat walk_at "f"
        exact (out_fz rfl rfl).trans (by simp)
      | false =>
        repeat walk_at "f"
        exact (out_fz rfl rfl).trans (by simp [e])
  | key row hs' s =>
    have hb : b = true := i.mpr fun z => by cases Tree.v_leaf.mp z
    subst hb
    obtain ⟨w1, w2, w3, w4⟩ := w
    have hs : sgn ((dot row one + hs'.getD (clsAt D one).toNat 0) :: s.pathAt D one) ((dot row other + hs'.getD (clsAt D other).toNat 0) :: s.pathAt D other) = t.sign D one other := hs
    have hk : s.dep + 1 = k := hk
    have hc : 1 + s.cnt ≤ 1000000 := hc
    rw [show (Tree.key row hs' s).v = Val.tup [.str "key", tupI row, tupI hs', s.v] from rfl]
    repeat walk_at "f"
    refine sub_of rfl rfl rfl ?_
    repeat walk_at "f"
    refine sub_of rfl rfl rfl ?_
    repeat walk_at "f"
    refine call_v (times_ok (by rw [w1]; show _ ≤ 16777216; omega) w3 s1) rfl rfl rfl ?_
    repeat walk_at "f"
    refine sub_of rfl rfl rfl ?_
    repeat walk_at "f"
    refine sub_of rfl rfl (at_ints b1.1 (by omega)) ?_
    repeat walk_at "f"
    refine sub_of rfl rfl rfl ?_
    repeat walk_at "f"
    refine call_v (times_ok (by rw [w1]; show _ ≤ 16777216; omega) w3 s2) rfl rfl rfl ?_
    repeat walk_at "f"
    refine sub_of rfl rfl rfl ?_
    repeat walk_at "f"
    refine sub_of rfl rfl (at_ints b2.1 (by omega)) ?_
    repeat walk_at "f"
    refine sub_of rfl rfl rfl ?_
    repeat walk_at "f"
    by_cases e : dot row one + hs'.getD (clsAt D one).toNat 0 = dot row other + hs'.getD (clsAt D other).toNat 0
    · refine ITE_no (by rw [decide_eq_true e]; rfl) ?_
      repeat walk_at "f"
      refine ⟨s.dep, by omega, s, _, _, rfl, w4, rfl, by omega, ?_⟩
      rw [← hs, e, sgn_cons_eq]
      rfl
    · refine ITE_yes (by rw [decide_eq_false e]; rfl) ?_
      rw [sgn_cons_ne e] at hs
      repeat walk_at "f"
      by_cases hl : dot row one + hs'.getD (clsAt D one).toNat 0 < dot row other + hs'.getD (clsAt D other).toNat 0
      · refine ITE_yes (decide_eq_true hl) ?_
        repeat walk_at "f"
        refine ⟨1, rfl, ?_⟩
        rw [if_pos hl] at hs
        rw [← hs]
        exact out_fz rfl rfl
      · refine ITE_no (decide_eq_false hl) ?_
        repeat walk_at "f"
        rw [if_neg hl] at hs
        rw [← hs]
        exact out_fz rfl rfl
  | fork gs =>
    have hb : b = true := i.mpr fun z => by cases Tree.v_leaf.mp z
    subst hb
    obtain ⟨wp, wg⟩ := w
    have g1 : gs.Has (clsAt D one).toNat := wp.has (by omega)
    have g2 : gs.Has (clsAt D other).toNat := wp.has (by omega)
    have hs : sgn (gs.path one (clsAt D one).toNat 0) (gs.path other (clsAt D other).toNat 0) = t.sign D one other := hs
    rw [Grps.path_eq g1 0, Grps.path_eq g2 0] at hs
    have hk : gs.dep + 1 = k := hk
    have hc : 1 + gs.cnt ≤ 1000000 := hc
    have hl := gs.list_le_cnt
    obtain ⟨j1, q1, a1, a2, a3⟩ := Grps.at_spec g1 0
    obtain ⟨j2, q2, c1, c2, c3⟩ := Grps.at_spec g2 0
    have mem1 : (q1, gs.sub (clsAt D one).toNat) ∈ gs.list := List.mem_of_getElem? a2
    rw [show (Tree.fork gs).v = Val.tup [.str "fork", .tup gs.vs] from rfl]
    repeat walk_at "f"
    refine sub_of rfl rfl rfl ?_
    repeat walk_at "f"
    refine sub_of rfl rfl rfl ?_
    repeat walk_at "f"
    refine call_v (v := .int (gs.at_ (clsAt D one).toNat 0)) (by
      have := group_at_ok (T := T) (n := n) g1 (by omega)
      rwa [Int.toNat_of_nonneg b1.1] at this) rfl rfl rfl ?_
    repeat walk_at "f"
    refine sub_of rfl rfl rfl ?_
    repeat walk_at "f"
    refine call_v (v := .int (gs.at_ (clsAt D other).toNat 0)) (by
      have := group_at_ok (T := T) (n := n) g2 (by omega)
      rwa [Int.toNat_of_nonneg b2.1] at this) rfl rfl rfl ?_
    repeat walk_at "f"
    refine sub_of rfl rfl rfl ?_
    repeat walk_at "f"
    refine sub_of (u := grpV (q1, gs.sub (clsAt D one).toNat)) rfl rfl (atI_nat (by rw [Grps.vs_eq, List.getElem?_map, a1, Nat.zero_add, a2]; rfl)) ?_
    repeat walk_at "f"
    refine sub_of rfl rfl rfl ?_
    repeat walk_at "f"
    by_cases e : (gs.at_ (clsAt D one).toNat 0 : Int) = gs.at_ (clsAt D other).toNat 0
    · refine ITE_no (by rw [decide_eq_true e]; rfl) ?_
      repeat walk_at "f"
      have hsub : gs.sub (clsAt D one).toNat = gs.sub (clsAt D other).toNat := by
        have ej : j1 = j2 := by omega
        rw [ej, c2] at a2
        injection a2 with a2
        injection a2 with _ a2
        exact a2.symm
      have hdep := Grps.dep_mem mem1
      have hcnt : (gs.sub (clsAt D one).toNat).cnt ≤ gs.cnt := by
        have := cnt_mem (List.mem_map_of_mem (f := fun p : List Nat × Tree => p.2) mem1)
        rw [List.map_map, show (gs.list.map (Tree.cnt ∘ fun p : List Nat × Tree => p.2)) = gs.list.map (fun p => p.2.cnt) from rfl, Grps.cnt_list] at this
        exact this
      refine ⟨_, ?_, gs.sub (clsAt D one).toNat, _, _, rfl, Grps.wf_mem wg mem1, rfl, by omega, ?_⟩
      · have hdep : (gs.sub (clsAt D one).toNat).dep ≤ gs.dep := hdep
        omega
      · rw [← hs, e, sgn_cons_eq]
        unfold Tree.sign Tree.pathAt
        rw [hsub]
    · refine ITE_yes (by rw [decide_eq_false e]; rfl) ?_
      rw [sgn_cons_ne e] at hs
      repeat walk_at "f"
      by_cases hl : (gs.at_ (clsAt D one).toNat 0 : Int) < gs.at_ (clsAt D other).toNat 0
      · refine ITE_yes (decide_eq_true hl) ?_
        repeat walk_at "f"
        refine ⟨1, rfl, ?_⟩
        rw [if_pos hl] at hs
        rw [← hs]
        exact out_fz rfl rfl
      · refine ITE_no (decide_eq_false hl) ?_
        repeat walk_at "f"
        rw [if_neg hl] at hs
        rw [← hs]
        exact out_fz rfl rfl
end
end Rv

/-! Rv, plain part 12: scans; drawn trees. -/
namespace Rv
open PySem
def scanV (D : List Int) (t : Tree) : Val := .ins "Scan" ["held_divisors", "held_tree", "class_total", "node_total"] [tupI D, t.v, .int (prod D), .int t.cnt]
/-- a scan that may be made -/
structure ScanOk (D : List Int) (t : Tree) : Prop where
  dok : Dok D
  le : prod D ≤ 12
  wf : t.Wf D.length (prod D).toNat
  dep : t.dep ≤ 20
  cnt : t.cnt ≤ 200
class ScanFld (T : Tab) : Prop where
  a : T.fld "Scan" "held_divisors" = true
  b : T.fld "Scan" "held_tree" = true
  c : T.fld "Scan" "class_total" = true
  d : T.fld "Scan" "node_total" = true
section
variable {T : Tab}
theorem scan_init_ok [HasFn T "is_number" k_is_number] [HasFn T "are_numbers" k_are_numbers] [HasFn T "cell_count" k_cell_count] [HasFn T "class_count" k_class_count] [HasFn T "is_parting" k_is_parting] [HasFn T "is_node" k_is_node] [HasFn T "below" k_below] [HasFn T "is_tree" k_is_tree] [HasFn T "node_count" k_node_count] [HasFn T "Scan.__init__" k_Scan___init__]
    [HasCon T "MAX_DIRECTIONS" (.int 3)] [HasCon T "MAX_CLASSES" (.int 12)] [HasCon T "LEAF" (.tup [.str "places"])] [HasCon T "MAX_DEPTH" (.int 20)] [HasCon T "MAX_NODES" (.int 200)] [F : ScanFld T]
    {n d : Nat} {D : List Int} {t : Tree} (h : ScanOk D t) (hd : t.dep ≤ d) : callN T (n + d + 6) "Scan.__init__" [.ins "Scan" [] [], tupI D, t.v] = .ok .non [scanV D t] := by
  have hp := prod_pos h.dok.pos
  have l3 := h.dok.l3
  have hle := h.le
  have hwf := h.wf
  refine call_of (fun c => c = _) HasFn.eq (by rfl) ?_
  show WP (evSs _ _ c_Scan___init__ [some (.ins "Scan" [] [], true), some (tupI D, false), some (t.v, false), none]) _ _
  unfold c_Scan___init__
  repeat walk_at "f"
  refine call_v (class_count_ok h.dok h.le) rfl rfl rfl ?_
  unfold tupI
  repeat walk_at "f"
  refine call_v (v := .bl true) (by
    have := is_tree_ok (T := T) (n := n + d + 1) (t := t) (k := D.length) (m := (prod D).toNat) hwf (by omega) (by omega) h.dep h.cnt
    rw [Int.toNat_of_nonneg (by omega)] at this
    rw [List.length_map]
    exact this) rfl rfl rfl ?_
  repeat walk_at "f"
  refine ws_setAttr ?_
  repeat walk_at "f"
  refine ⟨"Scan", [], [], _, rfl, rfl, F.a, of_decide_eq_true rfl, ?_⟩
  repeat walk_at "f"
  refine ws_setAttr ?_
  repeat walk_at "f"
  refine ⟨"Scan", _, _, _, rfl, rfl, F.b, of_decide_eq_true rfl, ?_⟩
  repeat walk_at "f"
  refine ws_setAttr ?_
  repeat walk_at "f"
  refine ⟨"Scan", _, _, _, rfl, rfl, F.c, of_decide_eq_true rfl, ?_⟩
  repeat walk_at "f"
  refine ws_setAttr ?_
  repeat walk_at "f"
  refine call_v (v := .int t.cnt) (by
    have := node_count_ok (T := T) (n := n + 4) d hd (by have := h.cnt; omega)
    rw [show n + 4 + d + 1 = n + d + 5 by omega] at this
    exact this) rfl rfl rfl ?_
  repeat walk_at "f"
  refine ⟨"Scan", _, _, _, rfl, rfl, F.d, of_decide_eq_true rfl, ?_⟩
  repeat walk_at "f"
  exact out_nx rfl
theorem scan_call_ok [HasFn T "is_number" k_is_number] [HasFn T "are_numbers" k_are_numbers] [HasFn T "need_place" k_need_place] [HasFn T "class_at" k_class_at] [HasFn T "times" k_times] [HasFn T "group_at" k_group_at] [HasFn T "sign_of" k_sign_of] [HasFn T "Scan.__call__" k_Scan___call__] [HasCon T "LEAF" (.tup [.str "places"])] [F : ScanFld T]
    {n : Nat} {D one other : List Int} {t : Tree} (h : ScanOk D t) (l1 : one.length = D.length) (l2 : other.length = D.length) (s1 : Sms one) (s2 : Sms other) (hf : 1000 < T.fuel) : callN T (n + 4) "Scan.__call__" [scanV D t, tupI one, tupI other] = .ok (.bl (decide (t.sign D one other < 0))) [] := by
  have l3 := h.dok.l3
  have hp := prod_pos h.dok.pos
  refine call_of (fun c => c = _) HasFn.eq (by rfl) ?_
  show WP (evSs _ _ c_Scan___call__ [some (scanV D t, false), some (tupI one, false), some (tupI other, false)]) _ _
  unfold c_Scan___call__ scanV
  repeat walk_at "f"
  refine ⟨"Scan", _, _, tupI D, rfl, F.a, rfl, ?_⟩
  unfold tupI
  repeat walk_at "f"
  refine call_v (need_place_ok (by rw [l1, List.length_map]) (by rw [l1]; show _ ≤ 16777216; omega)) rfl rfl rfl ?_
  repeat walk_at "f"
  refine ⟨"Scan", _, _, tupI D, rfl, F.a, rfl, ?_⟩
  unfold tupI
  repeat walk_at "f"
  refine call_v (need_place_ok (by rw [l2, List.length_map]) (by rw [l2]; show _ ≤ 16777216; omega)) rfl rfl rfl ?_
  repeat walk_at "f"
  refine ⟨"Scan", _, _, t.v, rfl, F.b, rfl, ?_⟩
  repeat walk_at "f"
  refine ⟨"Scan", _, _, tupI D, rfl, F.a, rfl, ?_⟩
  repeat walk_at "f"
  refine call_v (sign_of_ok (m := (prod D).toNat) h.dok h.wf (by rw [Int.toNat_of_nonneg (by omega)]) l1 l2 s1 s2 (by have := h.cnt; omega) (by have := h.dep; omega)) rfl rfl rfl ?_
  repeat walk_at "f"
  exact out_fz rfl rfl
/-! ### drawn parts of the classes -/
def Grps.ofL : List (List Nat × Tree) → Grps
  | [] => .nil
  | (g, t) :: r => .cons g t (Grps.ofL r)
theorem Grps.ofL_list : ∀ l : List (List Nat × Tree), (Grps.ofL l).list = l
  | [] => rfl
  | (g, t) :: r => by
    show (g, t) :: (Grps.ofL r).list = _
    rw [Grps.ofL_list r]
/-- the classes with a mark -/
def marked (ms : List Int) (many : Nat) (k : Int) : List Nat := (List.range many).filter fun i => decide (ms.getD i 0 = k)
def partsOf (ms : List Int) (many : Nat) : List (List Nat) := (([1, 4, 0, 3, 2] : List Int).map (marked ms many)).filter fun g => decide (g ≠ [])
theorem flatMap_ne {α : Type} (gs : List (List α)) [DecidableEq α] : (gs.filter fun g => decide (g ≠ [])).flatten = gs.flatten := by
  induction gs with
  | nil => rfl
  | cons g gs ih =>
    rw [List.filter_cons]
    by_cases h : g = []
    · rw [if_neg (by simp [h]), ih, h]; rfl
    · rw [if_pos (by simp [h]), List.flatten_cons, List.flatten_cons, ih]
theorem count_filter_sum {α : Type} (xs : List α) (f : α → Int) (a : α) [DecidableEq α] : ∀ ks : List Int, ks.Nodup → (ks.map fun k => ((xs.filter fun i => decide (f i = k)).count a)).sum = if f a ∈ ks then xs.count a else 0
  | [], _ => rfl
  | k :: ks, h => by
    rw [List.nodup_cons] at h
    rw [List.map_cons, List.sum_cons, count_filter_sum xs f a ks h.2]
    by_cases hk : f a = k
    · rw [List.count_filter (by simp [hk]), if_neg (by rw [hk]; exact h.1), if_pos (by rw [hk]; exact List.mem_cons_self)]
      rfl
    · have : (xs.filter fun i => decide (f i = k)).count a = 0 := List.count_eq_zero.mpr fun z => hk (of_decide_eq_true (List.mem_filter.mp z).2)
      rw [this, Nat.zero_add]
      by_cases hm : f a ∈ ks
      · rw [if_pos hm, if_pos (List.mem_cons_of_mem _ hm)]
      · rw [if_neg hm, if_neg (by intro z; rcases List.mem_cons.mp z with z | z; exact hk z; exact hm z)]
theorem parts_perm {ms : List Int} {many : Nat} (hl : ms.length = many) (h : ∀ x ∈ ms, 0 ≤ x ∧ x < 5) : (partsOf ms many).flatten.Perm (List.range many) := by
  unfold partsOf
  rw [flatMap_ne, List.perm_iff_count]
  intro a
  rw [List.count_flatten, List.map_map]
  have := count_filter_sum (List.range many) (fun i => ms.getD i 0) a [1, 4, 0, 3, 2] (by decide)
  refine this.trans ?_
  by_cases ha : a < many
  · rw [if_pos ?_]
    have hx := h (ms.getD a 0) (by rw [List.getD_eq_getElem?_getD, List.getElem?_eq_getElem (by omega)]; exact List.getElem_mem _)
    simp only [List.mem_cons, List.not_mem_nil, or_false]
    omega
  · have : (List.range many).count a = 0 := List.count_eq_zero.mpr fun z => ha (List.mem_range.mp z)
    rw [this]
    split <;> rfl
theorem parts_each {ms : List Int} {many : Nat} : ∀ g ∈ partsOf ms many, g ≠ [] ∧ g.Pairwise (· < ·) := by
  intro g hg
  obtain ⟨h1, h2⟩ := List.mem_filter.mp hg
  obtain ⟨k, _, rfl⟩ := List.mem_map.mp h1
  exact ⟨of_decide_eq_true h2, List.Pairwise.filter _ List.pairwise_lt_range⟩
theorem parts_len {ms : List Int} {many : Nat} : (partsOf ms many).length ≤ 5 := Nat.le_trans (List.length_filter_le _ _) (by simp)
/-- marks below three make at most three parts -/
theorem parts_len3 {ms : List Int} {many : Nat} (hl : ms.length = many) (h : ∀ x ∈ ms, 0 ≤ x ∧ x < 3) : (partsOf ms many).length ≤ 3 := by
  have e : ∀ k : Int, 3 ≤ k → marked ms many k = [] := fun k hk => List.filter_eq_nil_iff.mpr fun a ha z => by
    have ha := List.mem_range.mp ha
    have z := of_decide_eq_true z
    have hx := h (ms.getD a 0) (by rw [List.getD_eq_getElem?_getD, List.getElem?_eq_getElem (by omega)]; exact List.getElem_mem _)
    omega
  unfold partsOf
  rw [List.map_cons, List.map_cons, List.map_cons, List.map_cons, List.map_cons, List.map_nil, e 4 (by decide), e 3 (by decide)]
  generalize marked ms many 1 = A
  generalize marked ms many 0 = B
  generalize marked ms many 2 = C
  by_cases h1 : A = [] <;> by_cases h2 : B = [] <;> by_cases h3 : C = [] <;> simp [h1, h2, h3]
theorem law_parts_ok [HasFn T "_law_pull" k__law_pull] [HasFn T "_law_parts" k__law_parts] {n : Nat} {b : Bag} (hb : b.Ok) {many : Nat} {most : Int} (hm : many ≤ 1000) (h0 : 0 < most) (h5 : most ≤ 5) :
    ∃ (ms : List Int) (b' : Bag), ms.length = many ∧ (∀ x ∈ ms, 0 ≤ x ∧ x < most) ∧ b'.Ok ∧ callN T (n + 2) "_law_parts" [b.v, .int many, .int most] = .ok (.lst ((partsOf ms many).map tupN)) [b'.v] := by
  refine call_of (fun c => ∃ (ms : List Int) (b' : Bag), ms.length = many ∧ (∀ x ∈ ms, 0 ≤ x ∧ x < most) ∧ b'.Ok ∧ c = .ok (.lst ((partsOf ms many).map tupN)) [b'.v]) HasFn.eq (by rfl) ?_
  show WP (evSs _ _ c__law_parts [some (b.v, true), some (.int many, false), some (.int most, false), none, none, none, none, none]) _ _
  unfold c__law_parts
  repeat walk_at "f"
  refine w_compD (as := List.range many) (g := fun k : Nat => .int k) (P := fun _ v => ∃ x, v = .int x ∧ 0 ≤ x ∧ x < most) (fun b : Bag => [some (b.v, true), some (.int many, false), some (.int most, false), none, none, none, none, none]) Bag.Ok hb ?_ ?_ ?_ ?_
  · repeat walk_at "f"
    exact ⟨_, _, rfl, range_nat (by omega), items_fz rfl ⟨rfl, rfl⟩⟩
  · rw [List.length_range]; show _ ≤ 16777216; omega
  · intro a _ b hb
    obtain ⟨r, b2, r0, r1, hb2, hp⟩ := pull_ok (T := T) (n := n) hb (amt := most) h0 (by omega)
    refine ⟨_, rfl, ?_⟩
    repeat walk_at "f"
    refine call_b hp rfl rfl rfl ?_
    repeat walk_at "f"
    exact ⟨⟨r, rfl, r0, r1⟩, b2, hb2, rfl⟩
  · intro vs b hb ha
    obtain ⟨ms, rfl, ha2⟩ := ha.pick
    have hlen : ms.length = many := by rw [← ha2.length, List.length_range]
    repeat walk_at "f"
    refine w_compM (as := ([1, 4, 0, 3, 2] : List Int)) (g := .int) (f := fun k => tupN (marked ms many k)) (ρ1 := [some (b.v, true), some (.int many, false), some (.int most, false), some (.lst (ms.map .int), true), none, none, none, none]) ?_ (by decide) ?_ ?_
    · repeat walk_at "f"
      exact items_fr rfl ⟨rfl, rfl⟩
    · intro k hk
      refine ⟨_, rfl, ?_⟩
      repeat walk_at "f"
      refine w_compP (as := List.range many) (g := fun k : Nat => .int k) (f := fun k : Nat => .int k) (p := fun i => decide (ms.getD i 0 = k)) (ρ1 := [some (b.v, true), some (.int many, false), some (.int most, false), some (.lst (ms.map .int), true), none, none, some (.int k, false), none]) ?_ (by rw [List.length_range]; show _ ≤ 16777216; omega) ?_ ?_
      · repeat walk_at "f"
        exact ⟨_, _, rfl, range_nat (by omega), items_fz rfl ⟨rfl, rfl⟩⟩
      · intro i hi
        have hi := List.mem_range.mp hi
        refine ⟨_, rfl, ?_⟩
        repeat walk_at "f"
        refine sub_of rfl rfl (at_ints (by omega) (by omega)) ?_
        rw [show ((i : Nat) : Int).toNat = i by omega]
        repeat walk_at "f"
        by_cases hx : ms.getD i 0 = k
        · rw [decide_eq_true hx]
          repeat walk_at "f"
          refine ⟨rfl, ?_⟩
          repeat walk_at "f"
          exact ⟨rfl, rfl⟩
        · rw [decide_eq_false hx]
          repeat walk_at "f"
          exact ⟨rfl, rfl⟩
      · repeat walk_at "f"
        refine ⟨?_, rfl⟩
        unfold tupN tupI natI marked
        rw [List.map_map]
        rfl
    · repeat walk_at "f"
      refine w_compP (as := ([1, 4, 0, 3, 2] : List Int).map (marked ms many)) (g := tupN) (f := tupN) (p := fun g => decide (g ≠ [])) (ρ1 := [some (b.v, true), some (.int many, false), some (.int most, false), some (.lst (ms.map .int), true), some (.lst ((([1, 4, 0, 3, 2] : List Int).map (marked ms many)).map tupN), false), none, none, none]) ?_ (by rw [List.length_map]; decide) ?_ ?_
      · repeat walk_at "f"
        exact items_var rfl rfl ⟨by rw [List.map_map]; rfl, by rw [List.map_map]; rfl⟩
      · intro g hg
        refine ⟨_, rfl, ?_⟩
        unfold tupN tupI
        repeat walk_at "f"
        refine cmp_neG (good_tupI _) rfl (by show min _ 1 ≤ 64; omega) fun b i => ?_
        have hb : b = decide (g ≠ []) := by
          rw [Bool.eq_iff_iff, i, decide_eq_true_eq]
          constructor
          · intro z e; apply z; rw [e]; rfl
          · intro z e
            have e := Val.tup.inj e
            exact z (by unfold natI at e; rw [List.map_map] at e; exact List.map_eq_nil_iff.mp e)
        subst hb
        repeat walk_at "f"
        by_cases hx : g ≠ []
        · rw [decide_eq_true hx]
          repeat walk_at "f"
          refine ⟨rfl, ?_⟩
          repeat walk_at "f"
          exact ⟨rfl, rfl⟩
        · rw [decide_eq_false hx]
          repeat walk_at "f"
          exact ⟨rfl, rfl⟩
      · repeat walk_at "f"
        exact ⟨ms, b, hlen, fun x hx => ha2.all x hx, hb, out_fr rfl rfl⟩
end
end Rv

/-! Rv, plain part 13: drawn trees and scans. -/
namespace Rv
open PySem
def cntB : Nat → Nat
  | 0 => 1
  | 1 => 6
  | d + 2 => 1 + 3 * cntB (d + 1)
theorem cntB_pos : ∀ d, 1 ≤ cntB d
  | 0 => Nat.le_refl 1
  | 1 => by decide
  | d + 2 => by show 1 ≤ 1 + _; omega
theorem cntB_le : ∀ d, 1 + cntB d ≤ cntB (d + 1)
  | 0 => by decide
  | d + 1 => by show _ ≤ 1 + 3 * cntB (d + 1); have := cntB_pos (d + 1); omega
/-- a drawn tree -/
structure Drawn (D : List Int) (d : Nat) (t : Tree) : Prop where
  wf : t.Wf D.length (prod D).toNat
  dep : t.dep ≤ d + 1
  cnt : t.cnt ≤ cntB d
theorem Grps.wf_of {k m : Nat} : ∀ {l : List (List Nat × Tree)}, (∀ c ∈ l, c.2.Wf k m) → (Grps.ofL l).Wf k m
  | [], _ => trivial
  | (g, t) :: r, h => ⟨h _ List.mem_cons_self, Grps.wf_of fun c hc => h c (List.mem_cons_of_mem _ hc)⟩
theorem Grps.dep_of {k : Nat} : ∀ {l : List (List Nat × Tree)}, (∀ c ∈ l, c.2.dep ≤ k) → (Grps.ofL l).dep ≤ k
  | [], _ => Nat.zero_le _
  | (g, t) :: r, h => by
    show max t.dep (Grps.ofL r).dep ≤ k
    have h1 := h _ List.mem_cons_self
    have h1 : t.dep ≤ k := h1
    have h2 := Grps.dep_of (l := r) fun c hc => h c (List.mem_cons_of_mem _ hc)
    omega
theorem Grps.cnt_of {k : Nat} : ∀ {l : List (List Nat × Tree)}, (∀ c ∈ l, c.2.cnt ≤ k) → (Grps.ofL l).cnt ≤ l.length * k
  | [], _ => Nat.zero_le _
  | (g, t) :: r, h => by
    show t.cnt + (Grps.ofL r).cnt ≤ (r.length + 1) * k
    have h1 := h _ List.mem_cons_self
    have h1 : t.cnt ≤ k := h1
    have h2 := Grps.cnt_of (l := r) fun c hc => h c (List.mem_cons_of_mem _ hc)
    rw [Nat.succ_mul]
    omega
theorem all2_fst {D : List Int} {d : Nat} : ∀ {ps : List (List Nat)} {cs : List (List Nat × Tree)}, All2 (fun g c => c.1 = g ∧ Drawn D d c.2) ps cs → cs.map (·.1) = ps
  | _, _, .nil => rfl
  | _, _, .cons p h => by rw [List.map_cons, all2_fst h, p.1]
theorem ite_con {C : Ctx} {b : Bool} {x y : Int} {ρ : Env} {Q : R → Env → Prop} {E : Val → Env → Prop} (h : Q ⟨.int (if b = true then x else y), .fz⟩ ρ) : ITE b (WP (evE C (.con (.int x)) ρ) Q E) (WP (evE C (.con (.int y)) ρ) Q E) := by
  cases b with
  | true => exact ITE_tt (w_con h)
  | false => exact ITE_ff (w_con h)
section
variable {T : Tab}
theorem law_tree_ok [HasFn T "_law_pull" k__law_pull] [HasFn T "_law_parts" k__law_parts] [HasFn T "_law_of" k__law_of] [HasFn T "_law_count" k__law_count] [HasFn T "_law_tree" k__law_tree] {D : List Int} (hD : Dok D) (h12 : prod D ≤ 12) {n : Nat} : ∀ (d : Nat), d ≤ 1000 → ∀ {b : Bag}, b.Ok →
    ∃ (t : Tree) (b' : Bag), Drawn D d t ∧ b'.Ok ∧ callN T (n + d + 3) "_law_tree" [b.v, tupI D, .int d] = .ok t.v [b'.v] := by
  intro d
  induction d with
  | zero =>
    intro _ b hb
    obtain ⟨r, b2, r0, r1, hb2, hp⟩ := pull_ok (T := T) (n := n + 1) hb (amt := 4) (by decide) (by decide)
    refine ⟨.leaf, b2, ⟨trivial, Nat.le_refl 1, Nat.le_refl 1⟩, hb2, ?_⟩
    refine call_of (fun c => c = _) HasFn.eq (by rfl) ?_
    show WP (evSs _ _ c__law_tree [some (b.v, true), some (tupI D, false), some (.int 0, false), none, none, none, none, none, none, none, none, none]) _ _
    unfold c__law_tree
    repeat walk_at "f"
    refine call_v (count_ok hD.pos hD.sm) rfl rfl rfl ?_
    repeat walk_at "f"
    refine call_b hp rfl rfl rfl ?_
    repeat walk_at "f"
    exact out_fz rfl rfl
  | succ d ih =>
    intro hd b hb
    have hpos := prod_pos hD.pos
    have l3 := hD.l3
    obtain ⟨r, b2, r0, r1, hb2, hp⟩ := pull_ok (T := T) (n := n + d + 2) hb (amt := 4) (by decide) (by decide)
    have ih : ∀ {b : Bag}, b.Ok → ∃ (t : Tree) (b' : Bag), Drawn D d t ∧ b'.Ok ∧ callN T (n + (d + 1) + 2) "_law_tree" [b.v, tupI D, .int (((d + 1 : Nat) : Int) - 1)] = .ok t.v [b'.v] := fun {b} hb => by
      obtain ⟨t, b', h1, h2, h3⟩ := ih (by omega) hb
      refine ⟨t, b', h1, h2, ?_⟩
      rw [show n + (d + 1) + 2 = n + d + 3 by omega, show ((d + 1 : Nat) : Int) - 1 = d by omega]
      exact h3
    have first : ∀ P : CRes → Prop, WP (evSs (T.ctx (callN T (n + (d + 1) + 2))) T.fuel (c__law_tree.drop 1) [some (b2.v, true), some (tupI D, false), some (.int ((d + 1 : Nat) : Int), false), some (.int (prod D), false), some (.int r, false), none, none, none, none, none, none, none]) (fun a ρ => P (outFn k__law_tree.info (.ok a ρ))) (fun e ρ => P (outFn k__law_tree.info (.exc e ρ))) → P (callN T (n + (d + 1) + 3) "_law_tree" [b.v, tupI D, .int ((d + 1 : Nat) : Int)]) := by
      intro P h
      refine call_of P HasFn.eq (by rfl) ?_
      show WP (evSs _ _ c__law_tree [some (b.v, true), some (tupI D, false), some (.int ((d + 1 : Nat) : Int), false), none, none, none, none, none, none, none, none, none]) _ _
      unfold c__law_tree at h ⊢
      refine wp_cons ?_
      refine WP.imp (Q := fun f ρ => f = .nx ∧ ρ = [some (b2.v, true), some (tupI D, false), some (.int ((d + 1 : Nat) : Int), false), some (.int (prod D), false), some (.int r, false), none, none, none, none, none, none, none]) (E := NoE) ?_ (fun f ρ q => by obtain ⟨rfl, rfl⟩ := q; exact h) (fun _ _ z => z.elim)
      repeat walk_at "f"
      refine call_v (count_ok hD.pos hD.sm) rfl rfl rfl ?_
      repeat walk_at "f"
      refine call_b hp rfl rfl rfl ?_
      repeat walk_at "f"
      exact ⟨rfl, rfl⟩
    by_cases h0 : r = 0
    · refine ⟨.leaf, b2, ⟨trivial, by show 1 ≤ _; omega, cntB_pos _⟩, hb2, ?_⟩
      refine first (fun c => c = _) ?_
      unfold c__law_tree
      rw [List.drop_succ_cons, List.drop_zero]
      subst h0
      repeat walk_at "f"
      exact out_fz rfl rfl
    · by_cases h3 : r = 3
      · -- a fork
        have hmost : ∀ most : Int, most = (if d = 0 then 5 else 3) → ∃ (ms : List Int) (b3 : Bag), ms.length = (prod D).toNat ∧ (∀ x ∈ ms, 0 ≤ x ∧ x < most) ∧ b3.Ok ∧ callN T (n + (d + 1) + 2) "_law_parts" [b2.v, .int (prod D), .int most] = .ok (.lst ((partsOf ms (prod D).toNat).map tupN)) [b3.v] := by
          intro most hm
          have := law_parts_ok (T := T) (n := n + (d + 1)) hb2 (many := (prod D).toNat) (most := most) (by omega) (by split at hm <;> omega) (by split at hm <;> omega)
          rwa [Int.toNat_of_nonneg (by omega)] at this
        obtain ⟨ms, b3, hms, hmb, hb3, hpt⟩ := hmost _ rfl
        have hm5 : ∀ x ∈ ms, 0 ≤ x ∧ x < 5 := fun x hx => by have := hmb x hx; split at this <;> omega
        have hperm := parts_perm hms hm5
        have hlen : (partsOf ms (prod D).toNat).length ≤ (if d = 0 then 5 else 3) := by
          by_cases h : d = 0
          · rw [if_pos h]; exact parts_len
          · rw [if_neg h]
            refine parts_len3 hms fun x hx => ?_
            have := hmb x hx
            rw [if_neg h] at this
            exact this
        refine first (fun c => ∃ (t : Tree) (b' : Bag), Drawn D (d + 1) t ∧ b'.Ok ∧ c = .ok t.v [b'.v]) ?_
        unfold c__law_tree
        rw [List.drop_succ_cons, List.drop_zero]
        subst h3
        repeat walk_at "f"
        refine ite_con ?_
        repeat walk_at "f"
        refine call_b (v := .lst ((partsOf ms (prod D).toNat).map tupN)) (w := b3.v) (by
          rw [show (if decide (((d + 1 : Nat) : Int) = 1) = true then (5 : Int) else 3) = if d = 0 then 5 else 3 by
            by_cases hd0 : d = 0
            · rw [if_pos hd0, if_pos (decide_eq_true (by omega))]
            · rw [if_neg hd0, if_neg (by rw [decide_eq_true_eq]; omega)]]
          exact hpt) rfl rfl rfl ?_
        repeat walk_at "f"
        refine w_compD (as := partsOf ms (prod D).toNat) (g := tupN) (P := fun g v => ∃ c : List Nat × Tree, v = grpV c ∧ c.1 = g ∧ Drawn D d c.2) (fun b : Bag => [some (b.v, true), some (tupI D, false), some (.int ((d + 1 : Nat) : Int), false), some (.int (prod D), false), some (.int 3, false), some (.lst ((partsOf ms (prod D).toNat).map tupN), false), none, none, none, none, none, none]) Bag.Ok hb3 ?_ ?_ ?_ ?_
        · repeat walk_at "f"
          exact items_fz rfl ⟨rfl, rfl⟩
        · show _ ≤ 16777216; split at hlen <;> omega
        · intro g hg b hb
          obtain ⟨t, b4, ht, hb4, hc⟩ := ih hb
          refine ⟨_, rfl, ?_⟩
          repeat walk_at "f"
          refine call_b hc rfl rfl rfl ?_
          repeat walk_at "f"
          exact ⟨⟨(g, t), rfl, rfl, ht⟩, b4, hb4, rfl⟩
        · intro vs b hb ha
          obtain ⟨cs, rfl, ha2⟩ := ha.pick
          have hfst : cs.map (·.1) = partsOf ms (prod D).toNat := by
            exact all2_fst ha2
          have hall : ∀ c ∈ cs, Drawn D d c.2 := fun c hc => (ha2.imp fun _ _ p => p.2).all c hc
          have hlc : cs.length = (partsOf ms (prod D).toNat).length := by rw [← hfst, List.length_map]
          have hflat : cs.flatMap (·.1) = (partsOf ms (prod D).toNat).flatten := by rw [← hfst, List.flatMap_def]
          repeat walk_at "f"
          refine ⟨.fork (Grps.ofL cs), b, ⟨⟨⟨?_, ?_, ?_⟩, Grps.wf_of fun c hc => (hall c hc).wf⟩, Nat.succ_le_succ (Grps.dep_of fun c hc => (hall c hc).dep), ?_⟩, hb, (out_fz rfl rfl).trans ?_⟩
          · rw [Grps.ofL_list]
            intro z
            rw [z] at hflat
            have := hperm.length_eq
            rw [← hflat, List.length_range] at this
            have : 0 = (prod D).toNat := this
            omega
          · rw [Grps.ofL_list]
            intro c hc
            exact parts_each c.1 (by rw [← hfst]; exact List.mem_map_of_mem hc)
          · rw [Grps.ofL_list, hflat]
            exact hperm
          · have h1 := Grps.cnt_of (l := cs) (k := cntB d) fun c hc => (hall c hc).cnt
            have h2 : 1 + (Grps.ofL cs).cnt ≤ 1 + cs.length * cntB d := by omega
            refine Nat.le_trans h2 ?_
            rw [hlc]
            by_cases hd0 : d = 0
            · rw [if_pos hd0] at hlen
              subst hd0
              show 1 + _ * 1 ≤ 6
              omega
            · rw [if_neg hd0] at hlen
              obtain ⟨e, rfl⟩ : ∃ e, d = e + 1 := ⟨d - 1, by omega⟩
              show _ ≤ 1 + 3 * cntB (e + 1)
              have := Nat.mul_le_mul_right (cntB (e + 1)) hlen
              omega
          · show CRes.ok (.tup [.str "fork", .tup (cs.map grpV)]) [b.v] = .ok (.tup [.str "fork", .tup (Grps.ofL cs).vs]) [b.v]
            rw [Grps.vs_eq, Grps.ofL_list]
      · -- a key
        obtain ⟨v, b3, hv, hb3, ho⟩ := of_ok (T := T) (n := n + (d + 1)) hb2 (xs := [.int 3, .int 3, .int 9, .int (10 ^ 9)]) (by decide) (by decide)
        obtain ⟨s, rfl, s0, s1⟩ : ∃ s : Int, v = .int s ∧ 3 ≤ s ∧ s ≤ 10 ^ 9 := by
          simp only [List.mem_cons, List.not_mem_nil, or_false] at hv
          rcases hv with rfl | rfl | rfl | rfl
          · exact ⟨3, rfl, by decide, by decide⟩
          · exact ⟨3, rfl, by decide, by decide⟩
          · exact ⟨9, rfl, by decide, by decide⟩
          · exact ⟨10 ^ 9, rfl, by decide, by decide⟩
        refine first (fun c => ∃ (t : Tree) (b' : Bag), Drawn D (d + 1) t ∧ b'.Ok ∧ c = .ok t.v [b'.v]) ?_
        unfold c__law_tree
        rw [List.drop_succ_cons, List.drop_zero]
        repeat walk_at "f"
        refine ITE_no (decide_eq_false h0) ?_
        repeat walk_at "f"
        refine ITE_no (decide_eq_false h3) ?_
        repeat walk_at "f"
        refine bop_pow (by decide) ?_
        repeat walk_at "f"
        refine call_b ho rfl rfl rfl ?_
        repeat walk_at "f"
        refine w_compD (as := D) (g := .int) (P := fun _ v => ∃ x, v = .int x ∧ -s ≤ x ∧ x ≤ s) (fun b : Bag => [some (b.v, true), some (tupI D, false), some (.int ((d + 1 : Nat) : Int), false), some (.int (prod D), false), some (.int r, false), none, some (.int s, false), none, none, none, none, none]) Bag.Ok hb3 ?_ ?_ ?_ ?_
        · repeat walk_at "f"
          exact items_fz rfl ⟨rfl, rfl⟩
        · show _ ≤ 16777216; omega
        · intro x hx b hb
          obtain ⟨q, b4, q0, q1, hb4, hc⟩ := pull_ok (T := T) (n := n + (d + 1) + 1) hb (amt := 2 * s + 1) (by omega) (by omega)
          refine ⟨_, rfl, ?_⟩
          repeat walk_at "f"
          refine bop_mul (Sm.mul (sm_small (x := 2) (by decide)) (sm_small (by omega))) ?_
          repeat walk_at "f"
          refine call_b hc rfl rfl rfl ?_
          repeat walk_at "f"
          exact ⟨⟨q - s, rfl, by omega, by omega⟩, b4, hb4, rfl⟩
        · intro vs b hb ha
          obtain ⟨row, rfl, ha2⟩ := ha.pick
          have hrow : ∀ x ∈ row, -s ≤ x ∧ x ≤ s := fun x hx => ha2.all x hx
          repeat walk_at "f"
          refine w_compD (as := List.range (prod D).toNat) (g := fun k : Nat => .int k) (P := fun _ v => ∃ x : Int, v = .int x ∧ True) (fun b : Bag => [some (b.v, true), some (tupI D, false), some (.int ((d + 1 : Nat) : Int), false), some (.int (prod D), false), some (.int r, false), none, some (.int s, false), some (.tup (row.map .int), false), none, none, none, none]) Bag.Ok hb ?_ ?_ ?_ ?_
          · repeat walk_at "f"
            exact ⟨_, _, rfl, range_int (by omega) (by omega), items_fz rfl ⟨rfl, rfl⟩⟩
          · rw [List.length_range]; show _ ≤ 16777216; omega
          · intro x hx b hb
            refine ⟨_, rfl, ?_⟩
            repeat walk_at "f"
            by_cases h9 : s < 9
            · obtain ⟨q, b4, q0, q1, hb4, hc⟩ := pull_ok (T := T) (n := n + (d + 1) + 1) hb (amt := 9) (by omega) (by omega)
              refine ITE_yes (decide_eq_true h9) ?_
              repeat walk_at "f"
              refine call_b hc rfl rfl rfl ?_
              repeat walk_at "f"
              exact ⟨⟨q - 4, rfl, trivial⟩, b4, hb4, rfl⟩
            · obtain ⟨q, b4, q0, q1, hb4, hc⟩ := pull_ok (T := T) (n := n + (d + 1) + 1) hb (amt := 4 * s) (by omega) (by omega)
              refine ITE_no (decide_eq_false h9) ?_
              repeat walk_at "f"
              refine bop_mul (Sm.mul (sm_small (x := 4) (by decide)) (sm_small (by omega))) ?_
              repeat walk_at "f"
              refine call_b hc rfl rfl rfl ?_
              repeat walk_at "f"
              refine bop_mul (Sm.mul (sm_small (x := 2) (by decide)) (sm_small (by omega))) ?_
              repeat walk_at "f"
              exact ⟨⟨q - 2 * s, rfl, trivial⟩, b4, hb4, rfl⟩
          · intro vs b hb ha
            obtain ⟨hs, rfl, ha3⟩ := ha.pick
            obtain ⟨t, b4, ht, hb4, hc⟩ := ih hb
            repeat walk_at "f"
            refine call_b hc rfl rfl rfl ?_
            repeat walk_at "f"
            refine ⟨.key row hs t, b4, ⟨⟨?_, ?_, ?_, ht.wf⟩, Nat.succ_le_succ ht.dep, ?_⟩, hb4, out_fz rfl rfl⟩
            · exact ha2.length.symm
            · rw [← ha3.length, List.length_range]
            · intro x hx
              have := hrow x hx
              exact sm_small (by omega)
            · have := cntB_le d
              have := ht.cnt
              show 1 + t.cnt ≤ _
              omega
end
end Rv

/-! Rv, plain part 14: the order of places. -/
namespace Rv
open PySem
theorem lexLt_cons (x y : Int) (a b : List Int) : lexLt (x :: a) (y :: b) = if x = y then lexLt a b else decide (x < y) := rfl
theorem lexLt_trans : ∀ {a b c : List Int}, lexLt a b = true → lexLt b c = true → lexLt a c = true
  | [], [], _, h, _ => nomatch h
  | [], _ :: _, [], _, h => nomatch h
  | [], _ :: _, _ :: _, _, _ => rfl
  | _ :: _, [], _, h, _ => nomatch h
  | _ :: _, _ :: _, [], _, h => nomatch h
  | x :: a, y :: b, z :: c, h1, h2 => by
    rw [lexLt_cons] at h1 h2 ⊢
    by_cases e1 : x = y
    · rw [if_pos e1] at h1
      subst e1
      by_cases e2 : x = z
      · rw [if_pos e2] at h2 ⊢
        exact lexLt_trans h1 h2
      · rw [if_neg e2] at h2 ⊢
        exact h2
    · rw [if_neg e1] at h1
      have h1 := of_decide_eq_true h1
      by_cases e2 : y = z
      · rw [if_pos e2] at h2
        subst e2
        rw [if_neg e1]
        exact decide_eq_true h1
      · rw [if_neg e2] at h2
        have h2 := of_decide_eq_true h2
        rw [if_neg (by omega)]
        exact decide_eq_true (by omega)
theorem lexLt_asymm {a b : List Int} (h1 : lexLt a b = true) (h2 : lexLt b a = true) : False := by
  have := lexLt_trans h1 h2
  rw [lexLt_irrefl] at this
  cases this
theorem lexLt_total : ∀ {a b : List Int}, lexLt a b = false → lexLt b a = false → a = b
  | [], [], _, _ => rfl
  | [], _ :: _, h, _ => nomatch h
  | _ :: _, [], _, h => nomatch h
  | x :: a, y :: b, h1, h2 => by
    rw [lexLt_cons] at h1 h2
    by_cases e : x = y
    · rw [if_pos e] at h1
      rw [if_pos e.symm] at h2
      rw [e, lexLt_total h1 h2]
    · rw [if_neg e] at h1
      rw [if_neg (fun z => e z.symm)] at h2
      have h1 := of_decide_eq_false h1
      have h2 := of_decide_eq_false h2
      omega
theorem sgn_neg {a b : List Int} : sgn a b < 0 ↔ lexLt a b = true := by
  unfold sgn
  cases h : lexLt a b with
  | true => simp
  | false =>
    simp only [Bool.false_eq_true, if_false, iff_false]
    split <;> decide
def Tree.before (D : List Int) (t : Tree) (a b : List Int) : Bool := lexLt (t.pathAt D a) (t.pathAt D b)
theorem sign_neg {D a b : List Int} {t : Tree} : decide (t.sign D a b < 0) = t.before D a b := by
  rw [Bool.eq_iff_iff, decide_eq_true_eq]
  exact sgn_neg
/-! ### moved places -/
theorem add2_len {a b : List Int} (h : a.length = b.length) : (add2 a b).length = a.length := by
  unfold add2
  rw [List.length_map, List.length_zip, h, Nat.min_self]
theorem add2_cons {x y : Int} {a b : List Int} : add2 (x :: a) (y :: b) = (x + y) :: add2 a b := rfl
theorem lexLt_add2 : ∀ {a b f : List Int}, a.length = f.length → b.length = f.length → lexLt (add2 a f) (add2 b f) = lexLt a b
  | [], [], _, _, _ => rfl
  | [], _ :: _, _, h1, h2 => by rw [← h1] at h2; cases h2
  | _ :: _, [], _, h1, h2 => by rw [← h1] at h2; cases h2
  | x :: a, y :: b, [], h1, _ => nomatch h1
  | x :: a, y :: b, f :: fs, h1, h2 => by
    rw [add2_cons, add2_cons, lexLt_cons, lexLt_cons, lexLt_add2 (Nat.succ.inj h1) (Nat.succ.inj h2)]
    by_cases e : x = y
    · rw [if_pos e, if_pos (by omega)]
    · rw [if_neg e, if_neg (by omega), decide_eq_decide]
      omega
theorem dot_cons {x y : Int} {a b : List Int} : dot (x :: a) (y :: b) = x * y + dot a b := by
  unfold dot
  rw [List.zip_cons_cons, List.map_cons, List.sum_cons]
theorem dot_add2 : ∀ {r a f : List Int}, a.length = f.length → r.length = a.length → dot r (add2 a f) = dot r a + dot r f
  | [], [], [], _, _ => rfl
  | [], _ :: _, _, _, h => nomatch h
  | _ :: _, [], _, _, h => nomatch h
  | r :: rs, x :: a, [], h, _ => nomatch h
  | r :: rs, x :: a, f :: fs, h1, h2 => by
    rw [add2_cons, dot_cons, dot_cons, dot_cons, dot_add2 (Nat.succ.inj h1) (Nat.succ.inj h2), Int.mul_add]
    omega
  | [], [], _ :: _, h, _ => nomatch h
/-- multiples of the divisors -/
def Mult (D f : List Int) : Prop := ∃ q : List Int, q.length = D.length ∧ f = (q.zip D).map fun p => p.1 * p.2
theorem mult_len {D f : List Int} (h : Mult D f) : f.length = D.length := by
  obtain ⟨q, hq, rfl⟩ := h
  rw [List.length_map, List.length_zip, hq, Nat.min_self]
theorem clsAt_move_aux : ∀ (D a q : List Int) (x : Int), a.length = D.length → q.length = D.length → ((add2 a ((q.zip D).map fun p => p.1 * p.2)).zip D).foldl (fun f q => f * q.2 + q.1 % q.2) x = (a.zip D).foldl (fun f q => f * q.2 + q.1 % q.2) x
  | [], a, q, x, h1, h2 => by rw [List.zip_nil_right, List.zip_nil_right]
  | d :: D, [], q, x, h1, _ => nomatch h1
  | d :: D, y :: a, [], x, _, h2 => nomatch h2
  | d :: D, y :: a, k :: q, x, h1, h2 => by
    rw [List.zip_cons_cons, List.map_cons, add2_cons, List.zip_cons_cons, List.foldl_cons, List.zip_cons_cons, List.foldl_cons]
    show List.foldl _ (x * d + (y + k * d) % d) _ = List.foldl _ (x * d + y % d) _
    rw [Int.add_mul_emod_self_right]
    exact clsAt_move_aux D a q _ (Nat.succ.inj h1) (Nat.succ.inj h2)
theorem clsAt_move {D a f : List Int} (h : Mult D f) (ha : a.length = D.length) : clsAt D (add2 a f) = clsAt D a := by
  obtain ⟨q, hq, rfl⟩ := h
  exact clsAt_move_aux D a q 0 ha hq
theorem sub_same {gs : Grps} {c1 c2 : Nat} (h1 : gs.Has c1) (h2 : gs.Has c2) (e : gs.at_ c1 0 = gs.at_ c2 0) : gs.sub c1 = gs.sub c2 ∧ ∃ g, (g, gs.sub c1) ∈ gs.list := by
  obtain ⟨j1, q1, a1, a2, _⟩ := Grps.at_spec h1 0
  obtain ⟨j2, q2, b1, b2, _⟩ := Grps.at_spec h2 0
  have ej : j1 = j2 := by omega
  refine ⟨?_, q1, List.mem_of_getElem? a2⟩
  rw [ej, b2] at a2
  injection a2 with a2
  injection a2 with _ a2
  exact a2.symm
theorem path_move {k m : Nat} {a b f : List Int} (ha : a.length = k) (hb : b.length = k) (hf : f.length = k) : ∀ (d : Nat) (t : Tree), t.dep ≤ d → t.Wf k m → ∀ (c1 c2 : Nat), c1 < m → c2 < m → lexLt (t.path (add2 a f) c1) (t.path (add2 b f) c2) = lexLt (t.path a c1) (t.path b c2)
  | 0, t, h, _ => by have := t.dep_pos; omega
  | d + 1, .leaf, h, w => fun c1 c2 h1 h2 => lexLt_add2 (by rw [ha, hf]) (by rw [hb, hf])
  | d + 1, .key row hs t, h, w => fun c1 c2 h1 h2 => by
    obtain ⟨w1, w2, w3, w4⟩ := w
    show lexLt ((dot row (add2 a f) + hs.getD c1 0) :: t.path (add2 a f) c1) ((dot row (add2 b f) + hs.getD c2 0) :: t.path (add2 b f) c2) = lexLt ((dot row a + hs.getD c1 0) :: t.path a c1) ((dot row b + hs.getD c2 0) :: t.path b c2)
    rw [lexLt_cons, lexLt_cons, dot_add2 (by rw [ha, hf]) (by rw [w1, ha]), dot_add2 (by rw [hb, hf]) (by rw [w1, hb]), path_move ha hb hf d t (Nat.le_of_succ_le_succ h) w4 c1 c2 h1 h2]
    by_cases e : dot row a + hs.getD c1 0 = dot row b + hs.getD c2 0
    · rw [if_pos e, if_pos (by omega)]
    · rw [if_neg e, if_neg (by omega), decide_eq_decide]
      omega
  | d + 1, .fork gs, h, w => fun c1 c2 h1 h2 => by
    obtain ⟨wp, wg⟩ := w
    have g1 := wp.has h1
    have g2 := wp.has h2
    show lexLt (gs.path (add2 a f) c1 0) (gs.path (add2 b f) c2 0) = lexLt (gs.path a c1 0) (gs.path b c2 0)
    rw [Grps.path_eq g1, Grps.path_eq g2, Grps.path_eq g1, Grps.path_eq g2, lexLt_cons, lexLt_cons]
    by_cases e : (gs.at_ c1 0 : Int) = gs.at_ c2 0
    · rw [if_pos e, if_pos e]
      obtain ⟨es, g, hm⟩ := sub_same g1 g2 (by omega)
      rw [← es]
      exact path_move ha hb hf d (gs.sub c1) (Nat.le_trans (Grps.dep_mem hm) (Nat.le_of_succ_le_succ h)) (Grps.wf_mem wg hm) c1 c2 h1 h2
    · rw [if_neg e, if_neg e]
theorem path_inj {k m : Nat} {a b : List Int} : ∀ (d : Nat) (t : Tree), t.dep ≤ d → t.Wf k m → ∀ (c1 c2 : Nat), c1 < m → c2 < m → t.path a c1 = t.path b c2 → a = b
  | 0, t, h, _ => by have := t.dep_pos; omega
  | d + 1, .leaf, h, w => fun c1 c2 h1 h2 e => e
  | d + 1, .key row hs t, h, w => fun c1 c2 h1 h2 e => by
    have e : (dot row a + hs.getD c1 0) :: t.path a c1 = (dot row b + hs.getD c2 0) :: t.path b c2 := e
    injection e with _ e
    exact path_inj d t (Nat.le_of_succ_le_succ h) w.2.2.2 c1 c2 h1 h2 e
  | d + 1, .fork gs, h, w => fun c1 c2 h1 h2 e => by
    obtain ⟨wp, wg⟩ := w
    have g1 := wp.has h1
    have g2 := wp.has h2
    have e : gs.path a c1 0 = gs.path b c2 0 := e
    rw [Grps.path_eq g1, Grps.path_eq g2] at e
    injection e with e1 e2
    obtain ⟨es, g, hm⟩ := sub_same g1 g2 (by omega)
    rw [← es] at e2
    exact path_inj d (gs.sub c1) (Nat.le_trans (Grps.dep_mem hm) (Nat.le_of_succ_le_succ h)) (Grps.wf_mem wg hm) c1 c2 h1 h2 e2
section
variable {D a b c : List Int} {t : Tree}
theorem cls_nat (hD : Dok D) (ha : a.length = D.length) : (clsAt D a).toNat < (prod D).toNat := by
  have := clsAt_bd hD ha
  omega
theorem before_move {f : List Int} (hD : Dok D) (w : t.Wf D.length (prod D).toNat) (ha : a.length = D.length) (hb : b.length = D.length) (hf : Mult D f) : t.before D (add2 a f) (add2 b f) = t.before D a b := by
  unfold Tree.before Tree.pathAt
  rw [clsAt_move hf ha, clsAt_move hf hb]
  exact path_move ha hb (mult_len hf) t.dep t (Nat.le_refl _) w _ _ (cls_nat hD ha) (cls_nat hD hb)
theorem before_trans (h1 : t.before D a b = true) (h2 : t.before D b c = true) : t.before D a c = true := lexLt_trans h1 h2
theorem before_asymm (h1 : t.before D a b = true) (h2 : t.before D b a = true) : False := lexLt_asymm h1 h2
theorem before_total (hD : Dok D) (w : t.Wf D.length (prod D).toNat) (ha : a.length = D.length) (hb : b.length = D.length) (h1 : t.before D a b = false) (h2 : t.before D b a = false) : a = b :=
  path_inj t.dep t (Nat.le_refl _) w _ _ (cls_nat hD ha) (cls_nat hD hb) (lexLt_total h1 h2)
end
theorem Drawn.scan {k : Int} {D : List Int} {t : Tree} {d : Nat} (hd : Div k D) (k1 : 1 ≤ k) (k3 : k ≤ 3) (h : Drawn D d t) (hd4 : d ≤ 4) : ScanOk D t where
  dok := ⟨by have := hd.len; omega, by have := hd.len; omega, hd.pos, by have := hd.le; omega⟩
  le := hd.le
  wf := h.wf
  dep := by have := h.dep; omega
  cnt := by
    have h1 := h.cnt
    have h2 : cntB d ≤ 175 := by
      rcases (show d = 0 ∨ d = 1 ∨ d = 2 ∨ d = 3 ∨ d = 4 by omega) with rfl | rfl | rfl | rfl | rfl <;> decide
    omega
section
variable {T : Tab}
theorem law_scan_ok [HasFn T "_law_pull" k__law_pull] [HasFn T "_law_mixed" k__law_mixed] [HasFn T "_law_divisors" k__law_divisors] [HasFn T "_law_parts" k__law_parts] [HasFn T "_law_of" k__law_of] [HasFn T "_law_count" k__law_count] [HasFn T "_law_tree" k__law_tree] [HasFn T "_law_scan" k__law_scan] {n : Nat} {b : Bag} (hb : b.Ok) {k : Int} (k1 : 1 ≤ k) (k3 : k ≤ 3) :
    ∃ (D : List Int) (t : Tree) (b' : Bag), Div k D ∧ Drawn D 3 t ∧ b'.Ok ∧ callN T (n + 7) "_law_scan" [b.v, .int k] = .ok (.tup [tupI D, t.v]) [b'.v] := by
  obtain ⟨D, b2, hD, hb2, h2⟩ := divisors_ok (T := T) (n := n + 3) hb (k := k) (by omega) (by omega)
  have dok : Dok D := ⟨by have := hD.len; omega, by have := hD.len; omega, hD.pos, by have := hD.le; omega⟩
  obtain ⟨t, b3, ht, hb3, h3⟩ := law_tree_ok (T := T) dok hD.le (n := n) 3 (by decide) hb2
  refine ⟨D, t, b3, hD, ht, hb3, ?_⟩
  refine call_of (fun c => c = _) HasFn.eq (by rfl) ?_
  show WP (evSs _ _ c__law_scan [some (b.v, true), some (.int k, false), none]) _ _
  unfold c__law_scan
  repeat walk_at "f"
  refine call_b h2 rfl rfl rfl ?_
  repeat walk_at "f"
  refine call_b h3 rfl rfl rfl ?_
  repeat walk_at "f"
  exact out_fz rfl rfl
/-- a scan in a name's slot is called -/
theorem w_scanO [HasFn T "is_number" k_is_number] [HasFn T "are_numbers" k_are_numbers] [HasFn T "need_place" k_need_place] [HasFn T "class_at" k_class_at] [HasFn T "times" k_times] [HasFn T "group_at" k_group_at] [HasFn T "sign_of" k_sign_of] [HasFn T "Scan.__call__" k_Scan___call__] [HasCon T "LEAF" (.tup [.str "places"])] [F : ScanFld T] [M : HasMeth T "Scan" "__call__" "Scan.__call__"]
    {n i : Nat} {D one other : List Int} {t : Tree} {o : Bool} {ρ : Env} {ea eb : Ex} {Q : R → Env → Prop} {E : Val → Env → Prop} (h : ScanOk D t) (hf : 1000 < T.fuel) (e : lookS ρ i = some (scanV D t, o))
    (w : WP (evE (T.ctx (callN T (n + 4))) ea (ρ.set i (some (scanV D t, false)))) (fun x ρ => x = ⟨tupI one, .fz⟩ ∧ WP (evE (T.ctx (callN T (n + 4))) eb ρ) (fun y ρ => y = ⟨tupI other, .fz⟩ ∧ (one.length = D.length ∧ other.length = D.length ∧ Sms one ∧ Sms other) ∧ Q ⟨.bl (t.before D one other), .fz⟩ ρ) E) E) :
    WP (evE (T.ctx (callN T (n + 4))) (.callO (.loc i) [ea, eb]) ρ) Q E := by
  have hset : o = false → ρ.set i (some (scanV D t, false)) = ρ := fun ho => by
    subst ho
    unfold lookS at e
    cases hq : ρ[i]? with
    | none => rw [hq] at e; cases e
    | some p =>
      rw [hq] at e
      have e : p = some (scanV D t, false) := e
      subst e
      exact List.ext_getElem? fun j => by
        rw [List.getElem?_set]
        by_cases hj : i = j
        · subst hj
          rw [hq]
          simp [(List.getElem?_eq_some_iff.mp hq).1]
        · simp [hj]
  have key : WP (evE (T.ctx (callN T (n + 4))) (.loc i) ρ) (fun x ρ' => FZ x ρ' fun v ρ' => v = scanV D t ∧ ρ' = ρ.set i (some (scanV D t, false))) E := by
    cases o with
    | true => exact w_own e rfl (FZ_var e ⟨rfl, rfl⟩)
    | false => exact w_fz e (FZ_fz ⟨rfl, (hset rfl).symm⟩)
  refine w_callO (f := "") (k := "") (key.imp (fun x ρ' q => ?_) fun _ _ e => e)
  obtain ⟨v, ρ2, h1, rfl, rfl⟩ := q
  refine ⟨_, _, h1, "Scan", _, _, "Scan.__call__", k_Scan___call__, rfl, by decide +kernel, M.eq, HasFn.eq, rfl, ?_⟩
  refine args_fz (w.imp (fun x ρ q => ?_) fun _ _ e => e)
  obtain ⟨rfl, w⟩ := q
  refine FZ_fz (args_fz (w.imp (fun y ρ q => ?_) fun _ _ e => e))
  obtain ⟨rfl, ⟨l1, l2, s1, s2⟩, q⟩ := q
  refine FZ_fz (args_nil ?_)
  refine call_m (scan_call_ok h l1 l2 s1 s2 hf) rfl rfl rfl ?_
  rw [sign_neg]
  exact q
end
end Rv

/-! Rv, plain part: sums of places, opposites, rests, looks. -/
namespace Rv
open PySem
section
variable {T : Tab}
theorem pplus_ok [HasFn T "plus" k_plus] {n : Nat} {xs ys : List Int} (hb : xs.length ≤ big) : callN T (n + 1) "plus" [tupI xs, tupI ys] = .ok (tupI (add2 xs ys)) [] := by
  refine call_of (fun c => c = _) HasFn.eq (by rfl) ?_
  show WP (evSs _ _ c_plus [some (tupI xs, false), some (tupI ys, false), none, none]) _ _
  unfold c_plus tupI
  repeat walk_at "e"
  refine w_compM (as := xs.zip ys) (g := fun p => .tup [.int p.1, .int p.2]) (f := fun p => .int (p.1 + p.2)) (ρ1 := [some (.tup (xs.map .int), false), some (.tup (ys.map .int), false), none, none]) ?_ ?_ ?_ ?_
  · repeat walk_at "e"
    refine ⟨zipV (xs.map .int) (ys.map .int), rfl, items_fz rfl ⟨zipV_map _ _ _ _, rfl⟩⟩
  · rw [List.length_zip]; omega
  · intro a ha
    refine ⟨[some (.tup (xs.map .int), false), some (.tup (ys.map .int), false), some (.int a.1, false), some (.int a.2, false)], rfl, ?_⟩
    repeat walk_at "e"
    exact ⟨rfl, rfl⟩
  · repeat walk_at "e"
    refine (out_fz rfl rfl).trans ?_
    unfold add2
    rw [List.map_map]
    rfl
/-- the opposite look -/
def neg1 (xs : List Int) : List Int := xs.map fun x => -x
theorem opposite_ok [HasFn T "opposite" k_opposite] {n : Nat} {xs : List Int} (hb : xs.length ≤ big) : callN T (n + 1) "opposite" [tupI xs] = .ok (tupI (neg1 xs)) [] := by
  refine call_of (fun c => c = _) HasFn.eq (by rfl) ?_
  show WP (evSs _ _ c_opposite [some (tupI xs, false), none]) _ _
  unfold c_opposite tupI
  repeat walk_at "e"
  refine w_compM (as := xs) (g := .int) (f := fun x => .int (-x)) (ρ1 := [some (.tup (xs.map .int), false), none]) ?_ hb ?_ ?_
  · repeat walk_at "e"
    exact items_fz rfl ⟨rfl, rfl⟩
  · intro a ha
    refine ⟨[some (.tup (xs.map .int), false), some (.int a, false)], rfl, ?_⟩
    repeat walk_at "e"
    refine ⟨a, rfl, ?_⟩
    repeat walk_at "e"
    exact ⟨rfl, rfl⟩
  · repeat walk_at "e"
    refine (out_fz rfl rfl).trans ?_
    unfold neg1
    rw [List.map_map]
    rfl
/-- the rests of a class, told from its number -/
def restR : List Int → Int → List Int → List Int
  | [], _, acc => acc
  | d :: ds, k, acc => restR ds (k / d) (k % d :: acc)
def restsI (D : List Int) (k : Int) : List Int := restR D.reverse k []
theorem rests_at_ok [HasFn T "rests_at" k_rests_at] {n : Nat} {D : List Int} {k : Int} (hD : Dok D) : callN T (n + 1) "rests_at" [tupI D, .int k] = .ok (tupI (restsI D k)) [] := by
  refine call_of (fun c => c = _) HasFn.eq (by rfl) ?_
  show WP (evSs _ _ c_rests_at [some (tupI D, false), some (.int k, false), none, none]) _ _
  unfold c_rests_at tupI
  repeat walk_at "e"
  refine wp_for (fun rest ρ => ∃ (suf acc : List Int) (k1 : Int) (a3 : Option (Val × Bool)), rest = suf.map .int ∧ (∀ d ∈ suf, 0 < d) ∧ (∀ d ∈ suf, d < 2 ^ 1000) ∧ suf.length + acc.length = D.length ∧ restR suf k1 acc = restsI D k ∧ ρ = [some (.tup (D.map .int), false), some (.int k1, false), some (.lst (acc.map .int), true), a3]) ?_ ?_ ?_
  · refine w_items ?_
    refine w_rev ?_
    repeat walk_at "e"
    refine ⟨_, _, rfl, rfl, ?_⟩
    refine items_fz rfl ⟨D.reverse, [], k, none, by rw [List.map_reverse], fun d hd => hD.pos d (List.mem_reverse.mp hd), fun d hd => Int.lt_of_le_of_lt (le_prod hD.pos d (List.mem_reverse.mp hd)) hD.sm, by rw [List.length_reverse]; rfl, rfl, rfl⟩
  · rintro x rest ρ ⟨suf, acc, k1, a3, e1, hp, hs, hl, hr, rfl⟩
    cases suf with
    | nil => cases e1
    | cons d suf =>
      cases e1
      refine ⟨_, rfl, ?_⟩
      have hd := hp d List.mem_cons_self
      repeat walk_at "e"
      refine bop_mod hd ?_
      repeat walk_at "e"
      have h3 := hD.l3
      have hl' : suf.length + 1 + acc.length = D.length := hl
      refine lm_insert rfl (by rw [List.length_map]; show _ < 16777216; omega) (by decide) (by decide) ?_
      repeat walk_at "e"
      refine aug_div rfl (divOk_of hd (by
        have h1 := hs d List.mem_cons_self
        have h2 : (2 : Int) ^ 1000 = ((2 ^ 1000 : Nat) : Int) := by norm_cast
        have h4 : (2 : Nat) ^ 1000 ≤ 2 ^ 8000 := Nat.pow_le_pow_right (by decide) (by decide)
        omega)) ?_
      repeat walk_at "e"
      exact ⟨suf, k1 % d :: acc, k1 / d, _, rfl, fun e he => hp e (List.mem_cons_of_mem _ he), fun e he => hs e (List.mem_cons_of_mem _ he), by rw [List.length_cons]; omega, hr, rfl⟩
  · rintro ρ ⟨suf, acc, k1, a3, e1, hp, hs, hl, hr, rfl⟩
    cases suf with
    | cons d suf => cases e1
    | nil =>
      repeat walk_at "e"
      refine (out_fz rfl rfl).trans ?_
      rw [← hr]
      rfl
end
end Rv

/-! Rv, plain part: data in lists; looks. -/
namespace Rv
open PySem
theorem goods_mem : ∀ {ws : List Val} {w : Val}, Val.goods ws = true → w ∈ ws → w.good = true
  | x :: ws, w, h, m => by
    have h : (Val.good x && Val.goods ws) = true := h
    rw [Bool.and_eq_true] at h
    rcases List.mem_cons.mp m with rfl | m
    · exact h.1
    · exact goods_mem h.2 m
theorem pys_get : ∀ {ws : List Val} {ds : List PyData}, Val.pys ws = some ds → ws.length = ds.length ∧ ∀ (i : Nat) (w : Val), ws[i]? = some w → ∃ d, ds[i]? = some d ∧ w.py = some d
  | [], ds, e => by
    cases e
    exact ⟨rfl, fun i w h => by simp at h⟩
  | x :: ws, ds, e => by
    have e : (match Val.py x, Val.pys ws with
      | some d, some ds => some (d :: ds)
      | _, _ => none) = some ds := e
    cases e1 : Val.py x with
    | none => rw [e1] at e; cases e
    | some d =>
      cases e2 : Val.pys ws with
      | none => rw [e1, e2] at e; cases e
      | some ds' =>
        rw [e1, e2] at e
        cases e
        obtain ⟨l, k⟩ := pys_get e2
        refine ⟨by rw [List.length_cons, List.length_cons, l], fun i w h => ?_⟩
        cases i with
        | zero =>
          have h : some x = some w := h
          cases h
          exact ⟨d, rfl, e1⟩
        | succ i => exact k i w h
theorem any_eqv {v : Val} {d : PyData} (hv : v.good = true) (ed : v.py = some d) : ∀ {ws : List Val} {ds : List PyData}, Val.goods ws = true → Val.pys ws = some ds → ((ds.any fun y => PyData.eqv y d) = true ↔ v ∈ ws)
  | [], ds, _, e => by
    cases e
    simp
  | x :: ws, ds, h, e => by
    have h : (Val.good x && Val.goods ws) = true := h
    rw [Bool.and_eq_true] at h
    have e : (match Val.py x, Val.pys ws with
      | some d, some ds => some (d :: ds)
      | _, _ => none) = some ds := e
    cases e1 : Val.py x with
    | none => rw [e1] at e; cases e
    | some d1 =>
      cases e2 : Val.pys ws with
      | none => rw [e1, e2] at e; cases e
      | some ds' =>
        rw [e1, e2] at e
        cases e
        rw [List.any_cons, Bool.or_eq_true, any_eqv hv ed h.2 e2, eqv_iff x v d1 d h.1 hv e1 ed, List.mem_cons]
        exact or_congr_left ⟨Eq.symm, Eq.symm⟩
theorem inL_good {v : Val} {ws : List Val} (hv : v.good = true) (hw : Val.goods ws = true) (hd : v.dep ≤ 64) : ∃ b, inL v ws = some b ∧ (b = true ↔ v ∈ ws) := by
  obtain ⟨d, e1, c1, z1⟩ := good_py v hv
  obtain ⟨ds, e2, c2, z2⟩ := goods_py ws hw
  refine ⟨ds.any fun y => PyData.eqv y d, ?_, any_eqv hv e1 hw e2⟩
  unfold inL
  rw [e1, e2]
  show (if (d.canLay0 && PyData.canLayAll0 ds && decide (min (PyData.depthAll ds) d.depth ≤ 64)) = true then some (ds.any fun y => PyData.eqv y d) else none) = _
  rw [c1, c2, if_pos (by rw [Bool.and_self, Bool.true_and, z1, z2]; exact decide_eq_true (by omega))]
/-- a place of places: where it stands first -/
theorem lix_good {v : Val} {ws : List Val} {j : Nat} (hv : v.good = true) (hw : Val.goods ws = true) (hd : v.dep ≤ 63) (hds : Val.deps ws ≤ 63) (hj : ws[j]? = some v) (hn : ∀ i, i < j → ws[i]? ≠ some v) : lixV ws [v] = some (.int j) := by
  obtain ⟨d, e1, c1, z1⟩ := good_py v hv
  obtain ⟨ds, e2, c2, z2⟩ := goods_py ws hw
  obtain ⟨l, k⟩ := pys_get e2
  have sh1 : SeqAt.shaped (.list ds) = true := by
    unfold SeqAt.shaped
    rw [Bool.and_eq_true]
    refine ⟨by simp only [PyData.canLay0]; exact c2, decide_eq_true ?_⟩
    simp only [PyData.depth, z2]
    omega
  have sh2 : SeqAt.shaped d = true := by
    unfold SeqAt.shaped
    rw [Bool.and_eq_true]
    exact ⟨c1, decide_eq_true (by omega)⟩
  have hf : (ds.findIdx? fun y => PyData.eqv y d) = some j := by
    rw [List.findIdx?_eq_some_iff_getElem]
    obtain ⟨y, hy, py⟩ := k j v hj
    have hjl : j < ds.length := (List.getElem?_eq_some_iff.mp hy).1
    refine ⟨hjl, ?_, fun i hi => ?_⟩
    · have ey : ds[j] = y := (List.getElem?_eq_some_iff.mp hy).2
      rw [ey]
      exact (eqv_iff v v y d hv hv py e1).mpr rfl
    · have hil : i < ws.length := by omega
      obtain ⟨y, hy, py⟩ := k i ws[i] (List.getElem?_eq_getElem hil)
      have ey : ds[i]'(by omega) = y := (List.getElem?_eq_some_iff.mp hy).2
      rw [ey]
      intro z
      have := (eqv_iff ws[i] v y d (goods_mem hw (List.getElem_mem hil)) hv py e1).mp z
      exact hn i hi (by rw [List.getElem?_eq_getElem hil, this])
  show (match v.py, Val.pys ws with
    | some d, some ds => if (SeqAt.shaped (.list ds) && SeqAt.shaped d) = true then (ds.findIdx? fun y => PyData.eqv y d).map fun (j : Nat) => Val.int j else none
    | _, _ => none) = _
  rw [e1, e2]
  show (if (SeqAt.shaped (.list ds) && SeqAt.shaped d) = true then (ds.findIdx? fun y => PyData.eqv y d).map fun (j : Nat) => Val.int j else none) = _
  rw [sh1, sh2, if_pos (by rfl), hf]
  rfl
/-- looks of a table -/
structure Looks (k : Nat) (L : List (List Int)) : Prop where
  len : ∀ l ∈ L, l.length = k
  bd : ∀ l ∈ L, ∀ x ∈ l, -9 ≤ x ∧ x ≤ 9
  nz : ∀ l ∈ L, l ≠ List.replicate k 0
  nd : L.Nodup
  l1 : 1 ≤ L.length
  l4 : L.length ≤ 4
def lsV (L : List (List Int)) : Val := .lst (L.map tupI)
theorem mul_zero_tup {k : Nat} (h1 : k ≤ 3) : mulV (.tup [.int 0]) (.int k) = some (tupI (List.replicate k 0)) := by
  match k, h1 with
  | 0, _ => rfl
  | 1, _ => rfl
  | 2, _ => rfl
  | 3, _ => rfl
theorem cut_take {α : Type} (xs : List α) (n : Nat) : cut xs none (some (n : Int)) = xs.take n := by
  unfold cut HT.sIx
  simp only [List.drop_zero, Nat.sub_zero]
  by_cases h : n ≤ xs.length
  · congr 1
    split <;> omega
  · rw [List.take_of_length_le (show xs.length ≤ n by omega), List.take_of_length_le]
    split <;> omega
theorem lsV_mem {L : List (List Int)} {l : List Int} : tupI l ∈ L.map tupI ↔ l ∈ L := by
  rw [List.mem_map]
  exact ⟨fun ⟨x, h, e⟩ => tupI_inj e ▸ h, fun h => ⟨l, h, rfl⟩⟩
theorem good_ls (L : List (List Int)) : Val.goods (L.map tupI) = true := goods_map fun x _ => good_tupI x
section
variable {T : Tab}
theorem is_look_ok [HasFn T "is_number" k_is_number] [HasFn T "are_numbers" k_are_numbers] [HasFn T "is_look" k_is_look] [HasCon T "MAX_REACH" (.int 9)] {n : Nat} {l : List Int} {k : Nat} (hl : l.length = k) (hk : k ≤ 3) (hb : ∀ x ∈ l, -9 ≤ x ∧ x ≤ 9) (hz : l ≠ List.replicate k 0) :
    callN T (n + 3) "is_look" [tupI l, .int k] = .ok (.bl true) [] := by
  refine call_of (fun c => c = _) HasFn.eq (by rfl) ?_
  show WP (evSs _ _ c_is_look [some (tupI l, false), some (.int k, false), none]) _ _
  unfold c_is_look
  repeat walk_at "e"
  refine call_v (are_numbers_int (n := n) (xs := l) (k := k) (by rw [hl]) (by show _ ≤ 16777216; omega)) rfl rfl rfl ?_
  repeat walk_at "e"
  refine ⟨_, _, _, rfl, rfl, mul_zero_tup hk, ?_⟩
  refine cmp_eqG (good_tupI _) (good_tupI _) (by have := dep_tupI l; omega) fun b hbb => ?_
  cases b with
  | true => exact absurd (tupI_inj (hbb.mp rfl)) hz
  | false =>
    repeat walk_at "e"
    unfold tupI
    refine w_compM (as := l) (g := .int) (f := fun _ => .bl true) (ρ1 := [some (.tup (l.map .int), false), some (.int k, false), none]) ?_ (by show _ ≤ 16777216; omega) ?_ ?_
    · repeat walk_at "e"
      exact items_fz rfl ⟨rfl, rfl⟩
    · intro x hx
      have := hb x hx
      refine ⟨[some (.tup (l.map .int), false), some (.int k, false), some (.int x, false)], rfl, ?_⟩
      repeat walk_at "e"
      refine ⟨?_, rfl⟩
      congr 1
      refine decide_eq_true ?_
      split <;> omega
    · repeat walk_at "e"
      refine (out_fz rfl rfl).trans ?_
      simp
theorem need_looks_ok [HasFn T "is_number" k_is_number] [HasFn T "are_numbers" k_are_numbers] [HasFn T "is_look" k_is_look] [HasFn T "need_looks" k_need_looks] [HasCon T "MAX_REACH" (.int 9)] [HasCon T "MAX_LOOKS" (.int 4)] {n : Nat} {L : List (List Int)} {k : Nat} (hk : k ≤ 3) (h : Looks k L) :
    callN T (n + 4) "need_looks" [lsV L, .int k] = .ok .non [] := by
  refine call_of (fun c => c = _) HasFn.eq (by rfl) ?_
  show WP (evSs _ _ c_need_looks [some (lsV L, false), some (.int k, false), none, none]) _ _
  unfold c_need_looks lsV
  repeat walk_at "e"
  refine wp_for (fun rest ρ => ∃ (pre suf : List (List Int)) (a2 a3 : Option (Val × Bool)), L = pre ++ suf ∧ rest = enumV pre.length (suf.map tupI) ∧ ρ = [some (.lst (L.map tupI), false), some (.int k, false), a2, a3]) ?_ ?_ ?_
  · repeat walk_at "e"
    exact ⟨_, rfl, items_fz rfl ⟨[], L, none, none, rfl, rfl, rfl⟩⟩
  · rintro x rest ρ ⟨pre, suf, a2, a3, e1, e2, rfl⟩
    cases suf with
    | nil => cases e2
    | cons l suf =>
      cases e2
      refine ⟨_, rfl, ?_⟩
      have hm : l ∈ L := by rw [e1]; exact List.mem_append_right _ List.mem_cons_self
      repeat walk_at "e"
      refine call_v (is_look_ok (n := n) (h.len l hm) hk (h.bd l hm) (h.nz l hm)) rfl rfl rfl ?_
      repeat walk_at "e"
      refine ⟨none, rfl, ?_⟩
      repeat walk_at "e"
      refine ⟨some (pre.length : Int), _, .lst (pre.map tupI), rfl, rfl, ?_, ?_⟩
      · show some (Val.lst (cut (L.map tupI) none (some (pre.length : Int)))) = _
        rw [cut_take, e1, List.map_append, List.take_left' (by rw [List.length_map])]
      · obtain ⟨b, hb, hi⟩ := inL_good (v := tupI l) (ws := pre.map tupI) (good_tupI l) (good_ls pre) (by have := dep_tupI l; omega)
        refine cmp_of (v := tupI l) (w := .lst (pre.map tupI)) rfl rfl (b := b) hb ?_
        have hb0 : b = false := by
          cases b with
          | false => rfl
          | true =>
            have := lsV_mem.mp (hi.mp rfl)
            have nd := h.nd
            rw [e1, List.nodup_append] at nd
            exact absurd rfl (nd.2.2 l this l List.mem_cons_self)
        subst hb0
        repeat walk_at "e"
        exact ⟨pre ++ [l], suf, _, _, by rw [e1, List.append_assoc]; rfl, by rw [List.length_append]; rfl, rfl⟩
  · rintro ρ ⟨pre, suf, a2, a3, e1, e2, rfl⟩
    have h1 := h.l1
    have h4 := h.l4
    repeat walk_at "e"
    refine ITE_yes (decide_eq_true (by rw [List.length_map]; omega)) ?_
    repeat walk_at "e"
    refine ITE_no (by rw [Bool.not_eq_false', decide_eq_true_eq, List.length_map]; omega) ?_
    repeat walk_at "e"
    rfl
end
end Rv

/-! Rv, plain part: words of looks. -/
namespace Rv
open PySem
def cOf (b : Bool) : Nat := if b then 102 else 117
def fu (b : Bool) : Str := if b then "f" else "u"
/-- the word of what is seen -/
def wS (bs : List Bool) : Str := ⟨(bs.map cOf).toArray⟩
theorem fu_eq (b : Bool) : fu b = ⟨#[cOf b]⟩ := by cases b <;> decide
theorem wS_len (bs : List Bool) : (wS bs).length = bs.length := by
  show (bs.map cOf).toArray.size = _
  rw [List.size_toArray, List.length_map]
theorem wS_chars (bs : List Bool) : (wS bs).cps.toList.map (fun c => Val.str ⟨#[c]⟩) = bs.map fun b => .str (fu b) := by
  show ((bs.map cOf).toArray.toList).map _ = _
  rw [List.toList_toArray, List.map_map]
  exact List.map_congr_left fun b _ => by rw [fu_eq]; rfl
theorem strs_fu (bs : List Bool) : strsOf (bs.map fun b => .str (fu b)) = some (bs.map fu) := by
  induction bs with
  | nil => rfl
  | cons b bs ih =>
    show (strsOf (bs.map fun b => .str (fu b))).map (fu b :: ·) = _
    rw [ih]
    rfl
theorem join_fu (bs : List Bool) (h : bs.length ≤ 1000) : joinV "" [.lst (bs.map fun b => .str (fu b))] = some (.str (wS bs)) := by
  show (match strsOf (bs.map fun b => .str (fu b)) with
    | some ys => if (ys.map Str.length).sum + ys.length * ("" : Str).length ≤ big then some (Val.str (PySem.Txt.join "" ys)) else none
    | none => none) = _
  rw [strs_fu]
  show (if ((bs.map fu).map Str.length).sum + (bs.map fu).length * ("" : Str).length ≤ big then some (Val.str (PySem.Txt.join "" (bs.map fu))) else none) = _
  have h1 : ((bs.map fu).map Str.length).sum = bs.length := by
    clear h
    induction bs with
    | nil => rfl
    | cons b bs ih =>
      rw [List.map_cons, List.map_cons, List.sum_cons, ih, List.length_cons]
      have : (fu b).length = 1 := by cases b <;> decide
      omega
  have h0 : ("" : Str).length = 0 := by decide
  rw [h1, h0, Nat.mul_zero, Nat.add_zero, if_pos (by show _ ≤ 16777216; omega)]
  have e1 : bs.map fu = (bs.map fun b => [cOf b]).map SX.S := by
    rw [List.map_map]
    exact List.map_congr_left fun b _ => fu_eq b
  have e2 : ("" : Str) = SX.S [] := by decide
  have e3 : ∀ bs : List Bool, TL.joinL [] (bs.map fun b => [cOf b]) = bs.map cOf := by
    intro bs
    induction bs with
    | nil => rfl
    | cons b bs ih =>
      cases bs with
      | nil => rfl
      | cons b2 bs =>
        show [cOf b] ++ ([] ++ TL.joinL [] ((b2 :: bs).map fun b => [cOf b])) = _
        rw [ih]
        rfl
  rw [e1, e2, SX.join_S, e3]
  rfl
section
variable {T : Tab}
theorem is_word_ok [HasFn T "is_word" k_is_word] {n : Nat} {bs : List Bool} (h : bs.length ≤ 1000) : callN T (n + 1) "is_word" [.str (wS bs), .int bs.length] = .ok (.bl true) [] := by
  refine call_of (fun c => c = _) HasFn.eq (by rfl) ?_
  show WP (evSs _ _ c_is_word [some (.str (wS bs), false), some (.int bs.length, false), none]) _ _
  unfold c_is_word
  repeat walk_at "e"
  refine biv_In biv_len (b := bs.length) rfl ?_ ?_
  · show (if (wS bs).length ≤ big then some (Val.int ((wS bs).length : Nat)) else none) = _
    rw [wS_len, if_pos (by show _ ≤ 16777216; omega)]
  repeat walk_at "e"
  refine ITE_yes (decide_eq_true rfl) ?_
  repeat walk_at "e"
  refine w_compM (as := bs) (g := fun b => .str (fu b)) (f := fun _ => .bl true) (ρ1 := [some (.str (wS bs), false), some (.int bs.length, false), none]) ?_ (by show _ ≤ 16777216; omega) ?_ ?_
  · repeat walk_at "e"
    refine items_fz (xs := (wS bs).cps.toList.map fun c => Val.str ⟨#[c]⟩) rfl ⟨wS_chars bs, rfl⟩
  · intro b hb
    refine ⟨[some (.str (wS bs), false), some (.int bs.length, false), some (.str (fu b), false)], rfl, ?_⟩
    repeat walk_at "e"
    refine cmp_of (v := .str (fu b)) (w := .str "fu") (b := true) rfl rfl ?_ ?_
    · cases b <;> decide +kernel
    · repeat walk_at "e"
      exact ⟨rfl, rfl⟩
  · repeat walk_at "e"
    refine (out_fz rfl rfl).trans ?_
    simp
/-- a table's fields -/
class TabFld (T : Tab) : Prop where
  a : T.fld "Table" "held_divisors" = true
  b : T.fld "Table" "held_looks" = true
  c : T.fld "Table" "held_words" = true
/-- a table -/
def tabV (D : List Int) (L : List (List Int)) (ws : List (List Bool)) : Val := .ins "Table" ["held_divisors", "held_looks", "held_words"] [tupI D, lsV L, .lst (ws.map fun w => .str (wS w))]
theorem table_init_ok [HasFn T "cell_count" k_cell_count] [HasFn T "class_count" k_class_count] [HasCon T "MAX_DIRECTIONS" (.int 3)] [HasCon T "MAX_CLASSES" (.int 12)] [HasFn T "is_number" k_is_number] [HasFn T "are_numbers" k_are_numbers] [HasFn T "is_look" k_is_look] [HasFn T "need_looks" k_need_looks] [HasCon T "MAX_REACH" (.int 9)] [HasCon T "MAX_LOOKS" (.int 4)] [HasFn T "is_word" k_is_word] [HasFn T "Table.__init__" k_Table___init__] [F : TabFld T]
    {n : Nat} {D : List Int} {L : List (List Int)} {ws : List (List Bool)} (hD : Dok D) (h12 : prod D ≤ 12) (hL : Looks D.length L) (hw : (ws.length : Int) = prod D) (hl : ∀ w ∈ ws, w.length = L.length) :
    callN T (n + 5) "Table.__init__" [.ins "Table" [] [], tupI D, lsV L, .lst (ws.map fun w => .str (wS w))] = .ok .non [tabV D L ws] := by
  refine call_of (fun c => c = _) HasFn.eq (by rfl) ?_
  show WP (evSs _ _ c_Table___init__ [some (.ins "Table" [] [], true), some (tupI D, false), some (lsV L, false), some (.lst (ws.map fun w => .str (wS w)), false), none, none, none]) _ _
  unfold c_Table___init__
  repeat walk_at "e"
  have l3 := hD.l3
  refine call_v (class_count_ok (n := n + 2) hD h12) rfl rfl rfl ?_
  unfold tupI
  repeat walk_at "e"
  refine call_v (v := .non) (by
    have := need_looks_ok (T := T) (n := n) hD.l3 hL
    rw [List.length_map]
    exact this) rfl rfl rfl ?_
  repeat walk_at "e"
  refine wp_for (fun rest ρ => ∃ (pre suf : List (List Bool)) (a5 a6 : Option (Val × Bool)), ws = pre ++ suf ∧ rest = enumV pre.length (suf.map fun w => .str (wS w)) ∧ ρ = [some (.ins "Table" [] [], true), some (.tup (D.map .int), false), some (lsV L, false), some (.lst (ws.map fun w => .str (wS w)), false), some (.int (prod D), false), a5, a6]) ?_ ?_ ?_
  · repeat walk_at "e"
    refine ⟨none, rfl, ?_⟩
    repeat walk_at "e"
    refine ⟨some (prod D), _, .lst (ws.map fun w => .str (wS w)), rfl, rfl, ?_, ?_⟩
    · show some (Val.lst (cut (ws.map fun w => Val.str (wS w)) none (some (prod D)))) = _
      rw [← hw, cut_take, List.take_of_length_le (by rw [List.length_map]; exact Nat.le_refl _)]
    · refine FZ_fr ⟨_, rfl, ?_⟩
      exact items_fz rfl ⟨[], ws, none, none, rfl, rfl, rfl⟩
  · rintro x rest ρ ⟨pre, suf, a5, a6, e1, e2, rfl⟩
    cases suf with
    | nil => cases e2
    | cons w suf =>
      cases e2
      refine ⟨_, rfl, ?_⟩
      have hm : w ∈ ws := by rw [e1]; exact List.mem_append_right _ List.mem_cons_self
      have h4 := hL.l4
      repeat walk_at "e"
      refine call_v (v := .bl true) (by
        have := is_word_ok (T := T) (n := n + 3) (bs := w) (by rw [hl w hm]; omega)
        rw [hl w hm] at this
        rw [List.length_map]
        exact this) rfl rfl rfl ?_
      repeat walk_at "e"
      exact ⟨pre ++ [w], suf, _, _, by rw [e1, List.append_assoc]; rfl, by rw [List.length_append]; rfl, rfl⟩
  · rintro ρ ⟨pre, suf, a5, a6, e1, e2, rfl⟩
    repeat walk_at "e"
    refine ITE_no (by rw [List.length_map, decide_eq_true hw]; rfl) ?_
    repeat walk_at "e"
    refine ws_setAttr ?_
    repeat walk_at "e"
    refine ⟨"Table", [], [], _, rfl, rfl, F.a, of_decide_eq_true rfl, ?_⟩
    repeat walk_at "e"
    refine ws_setAttr ?_
    repeat walk_at "e"
    refine ⟨"Table", _, _, _, rfl, rfl, F.b, of_decide_eq_true rfl, ?_⟩
    repeat walk_at "e"
    refine ws_setAttr ?_
    repeat walk_at "e"
    refine ⟨"Table", _, _, _, rfl, rfl, F.c, of_decide_eq_true rfl, ?_⟩
    repeat walk_at "e"
    exact out_nx rfl
end
end Rv

/-! Rv, plain part: what a table sees. -/
namespace Rv
open PySem
theorem sub_wS {w : List Bool} {j : Nat} {b : Bool} (hb : w[j]? = some b) (hl : w.length ≤ 1000) : subv (.str (wS w)) (.int j) = some (.str (fu b)) := by
  have hj : j < w.length := (List.getElem?_eq_some_iff.mp hb).1
  show (if (wS w).length ≤ big then (L2.atI (wS w).cps.toList j).map fun c => Val.str ⟨#[c]⟩ else none) = _
  rw [wS_len, if_pos (by show _ ≤ 16777216; omega)]
  have e : L2.atI (wS w).cps.toList (j : Int) = some (cOf b) := by
    show (L2.ixN (w.map cOf).toArray.toList.length j).bind (fun i => (w.map cOf).toArray.toList[i]?) = _
    rw [List.toList_toArray, List.length_map]
    unfold L2.ixN
    rw [if_pos (by omega), if_pos (by omega)]
    show (w.map cOf)[(j : Int).toNat]? = _
    rw [Int.toNat_natCast, List.getElem?_map, hb]
    rfl
  rw [e, fu_eq]
  rfl
section
variable {T : Tab}
theorem sees_ok [HasFn T "is_number" k_is_number] [HasFn T "are_numbers" k_are_numbers] [HasFn T "need_place" k_need_place] [HasFn T "class_at" k_class_at] [HasFn T "is_look" k_is_look] [HasCon T "MAX_REACH" (.int 9)] [HasFn T "Table.sees" k_Table_sees] [F : TabFld T]
    {n : Nat} {D p l : List Int} {L : List (List Int)} {ws : List (List Bool)} {w : List Bool} {j : Nat} {b : Bool} (hD : Dok D) (hL : Looks D.length L) (hp : p.length = D.length) (hj : L[j]? = some l) (hw : ws[(clsAt D p).toNat]? = some w) (hb : w[j]? = some b) (hl : w.length = L.length) :
    callN T (n + 4) "Table.sees" [tabV D L ws, tupI p, tupI l] = .ok (.bl b) [] := by
  have l3 := hD.l3
  have hm : l ∈ L := List.mem_of_getElem? hj
  refine call_of (fun c => c = _) HasFn.eq (by rfl) ?_
  show WP (evSs _ _ c_Table_sees [some (tabV D L ws, false), some (tupI p, false), some (tupI l, false)]) _ _
  unfold c_Table_sees tabV
  repeat walk_at "e"
  refine ⟨"Table", _, _, tupI D, rfl, F.a, rfl, ?_⟩
  unfold tupI
  repeat walk_at "e"
  refine call_v (v := .non) (by
    have := need_place_ok (T := T) (n := n) (xs := p) (k := D.length) (by rw [hp]) (by show _ ≤ 16777216; omega)
    rw [List.length_map]
    exact this) rfl rfl rfl ?_
  repeat walk_at "e"
  refine ⟨"Table", _, _, tupI D, rfl, F.a, rfl, ?_⟩
  unfold tupI
  repeat walk_at "e"
  refine call_v (v := .bl true) (by
    have := is_look_ok (T := T) (n := n) (hL.len l hm) l3 (hL.bd l hm) (hL.nz l hm)
    rw [List.length_map]
    exact this) rfl rfl rfl ?_
  repeat walk_at "e"
  refine ⟨"Table", _, _, lsV L, rfl, F.b, rfl, ?_⟩
  obtain ⟨b0, hb0, hi⟩ := inL_good (v := tupI l) (ws := L.map tupI) (good_tupI l) (good_ls L) (by have := dep_tupI l; omega)
  have e0 : b0 = true := hi.mpr (lsV_mem.mpr hm)
  subst e0
  refine cmp_of (v := tupI l) (w := lsV L) (b := false) rfl rfl (by show (inL (tupI l) (L.map tupI)).map not = _; rw [hb0]; rfl) ?_
  repeat walk_at "e"
  refine ⟨"Table", _, _, .lst (ws.map fun w => .str (wS w)), rfl, F.c, rfl, ?_⟩
  repeat walk_at "e"
  refine ⟨"Table", _, _, tupI D, rfl, F.a, rfl, ?_⟩
  repeat walk_at "e"
  refine call_v (class_at_ok (n := n + 2) hD hp) rfl rfl rfl ?_
  refine sub_of rfl rfl (atI_int (v := .str (wS w)) (clsAt_bd hD hp).1 (by rw [List.getElem?_map, hw]; rfl)) ?_
  refine w_lix ?_
  repeat walk_at "e"
  refine ⟨"Table", _, _, lsV L, rfl, F.b, rfl, ?_⟩
  repeat walk_at "e"
  refine ⟨L.map tupI, rfl, ?_⟩
  repeat walk_at "e"
  refine ⟨.int j, lix_good (v := tupI l) (good_tupI l) (good_ls L) (by have := dep_tupI l; omega) (Nat.le_trans (deps_map (k := 1) fun x _ => dep_tupI x) (by decide)) (by rw [List.getElem?_map, hj]; rfl) (fun i hi z => ?_), ?_⟩
  · rw [List.getElem?_map] at z
    obtain ⟨x, hx, e⟩ := Option.map_eq_some_iff.mp z
    have := tupI_inj e
    subst this
    have := (List.getElem?_inj (List.getElem?_eq_some_iff.mp hx).1 hL.nd).mp (hx.trans hj.symm)
    omega
  refine sub_of rfl rfl (sub_wS hb (by have := hL.l4; omega)) ?_
  repeat walk_at "e"
  refine cmp_str (by cases b <;> decide +kernel) (by decide +kernel) ?_
  repeat walk_at "e"
  refine (out_fz rfl rfl).trans ?_
  have : decide (fu b = "f") = b := by cases b <;> decide +kernel
  rw [this]
end
end Rv

/-! Rv, plain part: fields and methods of named instances. -/
namespace Rv
open PySem
section
variable {T : Tab} {r : Str → List Val → CRes} {ρ : Env} {es : List Ex} {Q : R → Env → Prop} {E : Val → Env → Prop} {f m k : Str}
theorem lookS_of {ρ : Env} {i : Nat} {p : Val × Bool} (h : lookS ρ i = some p) : ρ[i]? = some (some p) := by
  unfold lookS at h
  cases q : ρ[i]? with
  | none => rw [q] at h; cases h
  | some u => rw [q] at h; have h : u = some p := h; rw [h]
theorem set_same' {ρ : Env} {i : Nat} {p : Val × Bool} (h : lookS ρ i = some p) : ρ.set i (some p) = ρ := by
  have hq := lookS_of h
  exact List.ext_getElem? fun j => by
    rw [List.getElem?_set]
    by_cases hj : i = j
    · subst hj
      rw [hq]
      simp [(List.getElem?_eq_some_iff.mp hq).1]
    · simp [hj]
/-- a name's own object told: it stands for ever afterwards -/
theorem w_locFZ {C : Ctx} {i : Nat} {v : Val} {o : Bool} {Q : Val → Env → Prop} (e : lookS ρ i = some (v, o)) (hm : v.mut = true) (h : Q v (ρ.set i (some (v, false)))) : WP (evE C (.loc i) ρ) (fun x ρ => FZ x ρ Q) E := by
  cases o with
  | false =>
    refine w_fz e (FZ_fz ?_)
    rwa [set_same' e] at h
  | true => exact w_own e hm (FZ_var e h)
/-- a method's call whose list is new -/
theorem call_mf {I : FnI} {self : Val} {args : List Val} {v : Val} (hr : r f (self :: args) = .ok v []) (hl : (self :: args).length = I.modes.length) (hd : I.dflt = []) (hf : I.fresh = true) (hm : v.mut = true) (h : Q ⟨v, .fr⟩ ρ) : CALL (T.ctx r) f I [self] (args, []) ρ Q E := by
  refine CALL_ok (args := self :: args) (ρ' := ρ) ?_ hl hr rfl ?_
  · rw [hd, List.drop_nil, List.append_nil]
    rfl
  · rw [hf, hm]
    exact h
instance [F : ScanFld T] : HasFld T "Scan" "held_divisors" := ⟨F.a⟩
instance [F : ScanFld T] : HasFld T "Scan" "held_tree" := ⟨F.b⟩
instance [F : ScanFld T] : HasFld T "Scan" "class_total" := ⟨F.c⟩
instance [F : ScanFld T] : HasFld T "Scan" "node_total" := ⟨F.d⟩
instance [F : TabFld T] : HasFld T "Table" "held_divisors" := ⟨F.a⟩
instance [F : TabFld T] : HasFld T "Table" "held_looks" := ⟨F.b⟩
instance [F : TabFld T] : HasFld T "Table" "held_words" := ⟨F.c⟩
/-- a field of a named instance -/
theorem w_attrL {i : Nat} {ns : List Str} {vs : List Val} {o : Bool} {v : Val} (e : lookS ρ i = some (.ins k ns vs, o)) (F : T.fld k f = true) (hv : List.lookup f (ns.zip vs) = some v) (h : Q ⟨v, .fz⟩ ρ) : WP (evE (T.ctx r) (.attr (.loc i) f) ρ) Q E := by
  refine w_attr ?_
  cases o with
  | false => exact w_fz e ⟨k, ns, vs, v, rfl, F, hv, h⟩
  | true => exact w_own e rfl ⟨k, ns, vs, v, by show (lookS ρ i).map (·.1) = _; rw [e]; rfl, F, hv, h⟩
/-- a method of a named instance -/
theorem w_methL {i : Nat} {ns : List Str} {vs : List Val} {o : Bool} {g : Str} {c : FnCode} {ms : List Bool} (e : lookS ρ i = some (.ins k ns vs, o)) (M : T.meth k m = some g) (G : T.code g = some c) (hc : ns.contains m = false) (hm : c.info.modes = false :: ms)
    (h : WP (evArgs (T.ctx r) ms es (ρ.set i (some (.ins k ns vs, false)))) (fun p ρ => CALL (T.ctx r) g c.info [.ins k ns vs] p ρ Q E) E) : WP (evE (T.ctx r) (.meth (.loc i) m es) ρ) Q E := by
  refine w_meth (w_locFZ e rfl ?_)
  refine ⟨k, ns, vs, g, c, rfl, hc, M, G, by rw [hm]; rfl, ?_⟩
  rw [hm]
  exact h
end

/-- a name's own list handed out as new -/
theorem out_newV {I : FnI} {v w : Val} {i : Nat} {ρ : Env} {fins : List Val} (h1 : I.fresh = true) (e : lookS ρ i = some (w, true)) (hm : I.modes.getD i false = false) (h2 : finsOf ρ 0 I.modes = some fins) : outFn I (.ok (.rt ⟨v, .var i⟩) ρ) = .ok w fins := by
  show retFn I ⟨v, .var i⟩ ρ = _
  unfold retFn
  rw [h1, if_pos rfl]
  have hr : rd ρ ⟨v, .var i⟩ = some w := by
    show (lookS ρ i).map (·.1) = _
    rw [e]; rfl
  rw [hr]
  have hk : okFresh ρ I.modes ⟨v, .var i⟩ w = true := by
    unfold okFresh
    dsimp only
    rw [e, hm]
    simp
  show (if okFresh ρ I.modes ⟨v, .var i⟩ w = true then match finsOf ρ 0 I.modes with
      | some fins => CRes.ok w fins
      | none => .stuck else .stuck) = _
  rw [if_pos hk, h2]

theorem cmp_eqB {ρ : Env} {B : Bool → Env → Prop} {a b : Bool} (h : B (a == b) ρ) : CMP .Eq ⟨.bl a, .fz⟩ ⟨.bl b, .fz⟩ ρ B := by
  refine cmp_of rfl rfl (b := (a == b)) ?_ h
  cases a <;> cases b <;> decide +kernel
end Rv

/-! Rv, plain part: the law's own classes and cells. -/
namespace Rv
open PySem
theorem clsAt_snoc {D p : List Int} {i : Nat} {d x : Int} (hd : D[i]? = some d) (hx : p[i]? = some x) : clsAt (D.take (i + 1)) (p.take (i + 1)) = clsAt (D.take i) (p.take i) * d + x % d := by
  have h1 : i < D.length := (List.getElem?_eq_some_iff.mp hd).1
  have h2 : i < p.length := (List.getElem?_eq_some_iff.mp hx).1
  unfold clsAt
  rw [List.take_add_one, List.take_add_one, hd, hx, List.zip_append (by rw [List.length_take, List.length_take]; omega), List.foldl_append]
  rfl
theorem prod_take {D : List Int} (hp : ∀ d ∈ D, 0 < d) (i : Nat) : 0 < prod (D.take i) ∧ prod (D.take i) ≤ prod D := by
  have e : prod D = prod (D.take i) * prod (D.drop i) := by
    conv => lhs; rw [← List.take_append_drop i D]
    unfold prod
    rw [List.foldl_append, foldl_mul]
    rfl
  have h1 : 0 < prod (D.take i) := prod_pos fun d h => hp d (List.mem_of_mem_take h)
  have h2 : 0 < prod (D.drop i) := prod_pos fun d h => hp d (List.mem_of_mem_drop h)
  refine ⟨h1, ?_⟩
  rw [e]
  have := Int.mul_le_mul_of_nonneg_left (show 1 ≤ prod (D.drop i) by omega) (Int.le_of_lt h1)
  rwa [Int.mul_one] at this
section
variable {T : Tab}
theorem law_class_ok [HasFn T "_law_class" k__law_class] {n : Nat} {D p : List Int} (hD : Dok D) (hl : p.length = D.length) : callN T (n + 1) "_law_class" [tupI D, tupI p] = .ok (.int (clsAt D p)) [] := by
  have l3 := hD.l3
  have hs := hD.sm
  refine call_of (fun c => c = _) HasFn.eq (by rfl) ?_
  show WP (evSs _ _ c__law_class [some (tupI D, false), some (tupI p, false), none, none]) _ _
  unfold c__law_class tupI
  repeat walk_at "e"
  refine wp_for (fun rest ρ => ∃ (i : Nat) (a3 : Option (Val × Bool)), i ≤ D.length ∧ rest = (List.range' i (D.length - i)).map (fun k : Nat => .int k) ∧ ρ = [some (.tup (D.map .int), false), some (.tup (p.map .int), false), some (.int (clsAt (D.take i) (p.take i)), false), a3]) ?_ ?_ ?_
  · repeat walk_at "e"
    refine ⟨_, _, rfl, range_nat (n := (D.map Val.int).length) (by rw [List.length_map]; omega), items_fz rfl ⟨0, none, Nat.zero_le _, by rw [Nat.sub_zero, List.range_eq_range', List.length_map], rfl⟩⟩
  · rintro x rest ρ ⟨i, a3, hi, e1, rfl⟩
    obtain ⟨m, hm⟩ : ∃ m, D.length - i = m + 1 := by
      cases z : D.length - i with
      | zero => rw [z] at e1; cases e1
      | succ m => exact ⟨m, rfl⟩
    rw [hm, List.range'_succ] at e1
    cases e1
    refine ⟨_, rfl, ?_⟩
    have h1 : i < D.length := by omega
    have h2 : i < p.length := by omega
    have gd : D[i]? = some D[i] := List.getElem?_eq_getElem h1
    have gp : p[i]? = some p[i] := List.getElem?_eq_getElem h2
    have dpos := hD.pos D[i] (List.getElem_mem h1)
    have b1 := clsAt_lt (D.take i) (p.take i) 0 1 (fun d hd => hD.pos d (List.mem_of_mem_take hd)) (by rw [List.length_take, List.length_take]; omega) (by decide) (by decide)
    rw [Int.one_mul] at b1
    have b2 := (prod_take hD.pos i).2
    have b3 := le_prod hD.pos D[i] (List.getElem_mem h1)
    have c1 : 0 ≤ clsAt (D.take i) (p.take i) := b1.1
    have c2 : clsAt (D.take i) (p.take i) < prod (D.take i) := b1.2
    repeat walk_at "e"
    refine sub_of rfl rfl (atI_nat (v := .int D[i]) (by rw [List.getElem?_map, gd]; rfl)) ?_
    refine bop_mul (Sm.mul (sm_le c1 (by omega)) (sm_le (by omega) (by omega))) ?_
    repeat walk_at "e"
    refine sub_of rfl rfl (atI_nat (v := .int p[i]) (by rw [List.getElem?_map, gp]; rfl)) ?_
    repeat walk_at "e"
    refine sub_of rfl rfl (atI_nat (v := .int D[i]) (by rw [List.getElem?_map, gd]; rfl)) ?_
    refine bop_mod dpos ?_
    repeat walk_at "e"
    refine ⟨i + 1, some (.int i, false), h1, by rw [show D.length - (i + 1) = m by omega], ?_⟩
    rw [clsAt_snoc gd gp]
    rfl
  · rintro ρ ⟨i, a3, hi, e1, rfl⟩
    have : i = D.length := by
      cases z : D.length - i with
      | zero => omega
      | succ m => rw [z] at e1; cases e1
    subst this
    repeat walk_at "e"
    refine (out_fz rfl rfl).trans ?_
    rw [List.take_length, List.take_of_length_le (by omega)]
end
end Rv

/-! Rv, plain part: the law's own cells. -/
namespace Rv
open PySem
/-- the cells with one direction more -/
def moreC (cs : List (List Int)) (s : Int) : List (List Int) := cs.flatMap fun c => (List.range s.toNat).map fun k : Nat => c ++ [(k : Int)]
def cellsI (D : List Int) : List (List Int) := D.foldl moreC [[]]
theorem cellsI_snoc (pre : List Int) (d : Int) : cellsI (pre ++ [d]) = moreC (cellsI pre) d := by
  unfold cellsI
  rw [List.foldl_append]
  rfl
theorem moreC_len (cs : List (List Int)) (s : Int) : (moreC cs s).length = cs.length * s.toNat := by
  unfold moreC
  induction cs with
  | nil => simp
  | cons c cs ih => rw [List.flatMap_cons, List.length_append, ih, List.length_map, List.length_range, List.length_cons, Nat.add_mul, Nat.one_mul, Nat.add_comm]
theorem cellsI_len : ∀ {D : List Int}, (∀ d ∈ D, 0 < d) → ((cellsI D).length : Int) = prod D := by
  have go : ∀ (D : List Int) (cs : List (List Int)), (∀ d ∈ D, 0 < d) → ((D.foldl moreC cs).length : Int) = cs.length * prod D := by
    intro D
    induction D with
    | nil =>
      intro cs _
      show (cs.length : Int) = cs.length * prod []
      rw [prod_nil, Int.mul_one]
    | cons d D ih =>
      intro cs h
      rw [List.foldl_cons, ih _ (fun x hx => h x (List.mem_cons_of_mem _ hx)), moreC_len, prod_cons, Int.natCast_mul, Int.toNat_of_nonneg (by have := h d List.mem_cons_self; omega), Int.mul_assoc]
  intro D h
  have := go D [[]] h
  rwa [List.length_singleton, Int.natCast_one, Int.one_mul] at this
theorem cells_mem : ∀ {D : List Int} {c : List Int}, c ∈ cellsI D → c.length = D.length := by
  have go : ∀ (D : List Int) (cs : List (List Int)) (m : Nat), (∀ c ∈ cs, c.length = m) → ∀ c ∈ D.foldl moreC cs, c.length = m + D.length := by
    intro D
    induction D with
    | nil => intro cs m h c hc; exact h c hc
    | cons d D ih =>
      intro cs m h c hc
      rw [List.foldl_cons] at hc
      rw [ih (moreC cs d) (m + 1) (fun x hx => ?_) c hc, List.length_cons]
      · omega
      · unfold moreC at hx
        obtain ⟨y, hy, hx⟩ := List.mem_flatMap.mp hx
        obtain ⟨k, _, rfl⟩ := List.mem_map.mp hx
        rw [List.length_append, h y hy]
        rfl
  intro D c hc
  have := go D [[]] 0 (fun c hc => by rw [List.mem_singleton.mp hc]; rfl) c hc
  omega
section
variable {T : Tab}
theorem cells_ok [HasFn T "_law_cells" k__law_cells] {n : Nat} {D : List Int} (hD : Dok D) (hle : prod D ≤ 1000) : callN T (n + 1) "_law_cells" [tupI D] = .ok (.lst ((cellsI D).map tupI)) [] := by
  refine call_of (fun c => c = _) HasFn.eq (by rfl) ?_
  show WP (evSs _ _ c__law_cells [some (tupI D, false), none, none, none, none, none]) _ _
  unfold c__law_cells tupI
  repeat walk_at "e"
  refine wp_for (fun rest ρ => ∃ (pre suf : List Int) (o : Bool) (a2 a3 a4 : Option (Val × Bool)), D = pre ++ suf ∧ rest = suf.map .int ∧ ρ = [some (.tup (D.map .int), false), some (.lst ((cellsI pre).map tupI), o), a2, a3, a4, none]) ?_ ?_ ?_
  · repeat walk_at "e"
    exact items_fz rfl ⟨[], D, true, none, none, none, rfl, rfl, rfl⟩
  · rintro x rest ρ ⟨pre, suf, o, a2, a3, a4, e1, e2, rfl⟩
    cases suf with
    | nil => cases e2
    | cons d suf =>
      cases e2
      refine ⟨_, rfl, ?_⟩
      have hd := hD.pos d (by rw [e1]; exact List.mem_append_right _ List.mem_cons_self)
      have hlen := cellsI_len hD.pos
      have inner : ∀ o2 : Bool, WP (evS (T.ctx (callN T n)) T.fuel (Sx.for (Tg.nm 4) (Ex.loc 1) [Sx.asg (Tg.nm 3) (Ex.bop Operator.Add (Ex.loc 3) ((Ex.bop Operator.Add (Ex.loc 4) (Ex.tup [Ex.loc 5])).comp (Tg.nm 5) (Ex.loc 2).rng1 [] [5]))])
          [some (.tup (D.map .int), false), some (.lst ((cellsI pre).map tupI), o2), some (.int d, false), some (.lst [], true), a4, none])
          (fun f ρ => f = .nx ∧ ∃ b4, ρ = [some (.tup (D.map .int), false), some (.lst ((cellsI pre).map tupI), false), some (.int d, false), some (.lst ((moreC (cellsI pre) d).map tupI), true), b4, none]) fun _ _ => False := by
        intro o2
        refine wp_for (fun rest ρ => ∃ (p2 s2 : List (List Int)) (b4 : Option (Val × Bool)), cellsI pre = p2 ++ s2 ∧ rest = s2.map tupI ∧ ρ = [some (.tup (D.map .int), false), some (.lst ((cellsI pre).map tupI), false), some (.int d, false), some (.lst ((moreC p2 d).map tupI), true), b4, none]) ?_ ?_ ?_
        · cases o2
          · repeat walk_at "e"
            exact items_fz rfl ⟨[], cellsI pre, a4, rfl, rfl, rfl⟩
          · repeat walk_at "e"
            exact items_var rfl rfl ⟨[], cellsI pre, a4, rfl, rfl, rfl⟩
        · rintro x rest ρ ⟨p2, s2, b4, g1, g2, rfl⟩
          cases s2 with
          | nil => cases g2
          | cons c s2 =>
            cases g2
            refine ⟨_, rfl, ?_⟩
            have l3 := hD.l3
            have cl : c.length = pre.length := cells_mem (by rw [g1]; exact List.mem_append_right _ List.mem_cons_self)
            have pl0 : pre.length ≤ 3 := by rw [e1, List.length_append] at l3; omega
            have d1 : d ≤ prod D := le_prod hD.pos d (by rw [e1]; exact List.mem_append_right _ List.mem_cons_self)
            have dl : d.toNat ≤ 1000 := by omega
            have pl : p2.length ≤ 1000 := by
              have a1 := cellsI_len (D := pre) fun x hx => hD.pos x (by rw [e1]; exact List.mem_append_left _ hx)
              have a2 : prod pre ≤ prod D := by
                have := (prod_take hD.pos pre.length).2
                rwa [show D.take pre.length = pre by rw [e1]; exact List.take_left' rfl] at this
              have a3 : (cellsI pre).length = p2.length + (c :: s2).length := by rw [g1, List.length_append]
              omega
            repeat walk_at "e"
            refine w_compM (as := List.range d.toNat) (g := fun k : Nat => .int k) (f := fun k : Nat => tupI (c ++ [(k : Int)])) (ρ1 := [some (.tup (D.map .int), false), some (.lst ((cellsI pre).map tupI), false), some (.int d, false), some (.lst ((moreC p2 d).map tupI), true), some (tupI c, false), none]) ?_ ?_ ?_ ?_
            · repeat walk_at "e"
              exact ⟨_, _, rfl, range_int (Int.le_of_lt hd) (by omega), items_fz rfl ⟨rfl, rfl⟩⟩
            · rw [List.length_range]
              show _ ≤ 16777216
              omega
            · intro k hk
              refine ⟨[some (.tup (D.map .int), false), some (.lst ((cellsI pre).map tupI), false), some (.int d, false), some (.lst ((moreC p2 d).map tupI), true), some (tupI c, false), some (.int k, false)], rfl, ?_⟩
              unfold tupI
              repeat walk_at "e"
              refine ⟨_, _, .tup (c.map .int ++ [.int k]), rfl, rfl, ?_, ?_⟩
              · show (if (c.map Val.int).length + 1 ≤ big then some (Val.tup (c.map Val.int ++ [.int k])) else none) = _
                rw [if_pos (by rw [List.length_map, cl]; show _ ≤ 16777216; omega)]
              · refine FZ_fz ⟨?_, rfl⟩
                rw [List.map_append]
                rfl
            · refine ⟨_, _, .lst ((moreC p2 d).map tupI ++ (List.range d.toNat).map fun k : Nat => tupI (c ++ [(k : Int)])), rfl, rfl, ?_, ?_⟩
              · show (if ((moreC p2 d).map tupI).length + ((List.range d.toNat).map fun k : Nat => tupI (c ++ [(k : Int)])).length ≤ big then some (Val.lst ((moreC p2 d).map tupI ++ (List.range d.toNat).map fun k : Nat => tupI (c ++ [(k : Int)]))) else none) = _
                rw [if_pos (by rw [List.length_map, List.length_map, List.length_range, moreC_len]; show _ ≤ 16777216; have := Nat.mul_le_mul pl dl; omega)]
              · refine KEEP_fr ?_
                repeat walk_at "e"
                refine ⟨p2 ++ [c], s2, some (tupI c, false), by rw [g1, List.append_assoc]; rfl, rfl, ?_⟩
                have em : moreC (p2 ++ [c]) d = moreC p2 d ++ (List.range d.toNat).map fun k : Nat => c ++ [(k : Int)] := by
                  unfold moreC
                  rw [List.flatMap_append, List.flatMap_singleton]
                rw [em, List.map_append, List.map_map]
                rfl
        · rintro ρ ⟨p2, s2, b4, g1, g2, rfl⟩
          cases s2 with
          | cons c s2 => cases g2
          | nil =>
            rw [List.append_nil] at g1
            subst g1
            exact ⟨rfl, b4, rfl⟩
      repeat walk_at "e"
      refine (inner o).imp (fun f ρ q => ?_) fun _ _ e => e.elim
      obtain ⟨rfl, b4, rfl⟩ := q
      repeat walk_at "e"
      exact ⟨pre ++ [d], suf, false, some (.int d, false), some (.lst ((moreC (cellsI pre) d).map tupI), false), b4, by rw [e1, List.append_assoc]; rfl, rfl, by rw [cellsI_snoc]; rfl⟩
  · rintro ρ ⟨pre, suf, o, a2, a3, a4, e1, e2, rfl⟩
    cases suf with
    | cons d suf => cases e2
    | nil =>
      rw [List.append_nil] at e1
      subst e1
      cases o
      · repeat walk_at "e"
        exact out_fz rfl rfl
      · repeat walk_at "e"
        exact out_var rfl rfl rfl
end
end Rv

/-! Rv, plain part: cells and rests by number. -/
namespace Rv
open PySem
theorem restR_acc : ∀ (l : List Int) (k : Int) (acc : List Int), restR l k acc = restR l k [] ++ acc
  | [], _, _ => rfl
  | d :: l, k, acc => by
    show restR l (k / d) (k % d :: acc) = restR l (k / d) [k % d] ++ acc
    rw [restR_acc l (k / d) (k % d :: acc), restR_acc l (k / d) [k % d], List.append_assoc]
    rfl
theorem restsI_snoc (pre : List Int) (d k : Int) : restsI (pre ++ [d]) k = restsI pre (k / d) ++ [k % d] := by
  unfold restsI
  rw [List.reverse_append]
  show restR (d :: pre.reverse) k [] = _
  show restR pre.reverse (k / d) [k % d] = _
  exact restR_acc _ _ _
theorem snoc_ind {P : List Int → Prop} (h0 : P []) (h1 : ∀ pre d, P pre → P (pre ++ [d])) : ∀ l, P l := by
  intro l
  have : ∀ r : List Int, P r.reverse := by
    intro r
    induction r with
    | nil => exact h0
    | cons d r ih => rw [List.reverse_cons]; exact h1 _ _ ih
  have h := this l.reverse
  rwa [List.reverse_reverse] at h
theorem restsI_len (D : List Int) : ∀ k, (restsI D k).length = D.length := by
  refine snoc_ind (P := fun D => ∀ k, (restsI D k).length = D.length) (fun _ => rfl) (fun pre d ih k => ?_) D
  rw [restsI_snoc, List.length_append, List.length_append, ih]
  rfl
theorem prod_snoc (pre : List Int) (d : Int) : prod (pre ++ [d]) = prod pre * d := by
  unfold prod
  rw [List.foldl_append]
  rfl
theorem clsAt_snoc' {pre p : List Int} {d x : Int} (hl : p.length = pre.length) : clsAt (pre ++ [d]) (p ++ [x]) = clsAt pre p * d + x % d := by
  unfold clsAt
  rw [List.zip_append hl, List.foldl_append]
  rfl
theorem cls_rests (D : List Int) (hp : ∀ d ∈ D, 0 < d) : ∀ k, 0 ≤ k → k < prod D → clsAt D (restsI D k) = k := by
  refine snoc_ind (P := fun D => (∀ d ∈ D, 0 < d) → ∀ k, 0 ≤ k → k < prod D → clsAt D (restsI D k) = k) (fun _ k h0 h1 => ?_) (fun pre d ih hp k h0 h1 => ?_) D hp
  · rw [prod_nil] at h1
    show (0 : Int) = k
    omega
  · have hd : 0 < d := hp d (List.mem_append_right _ List.mem_cons_self)
    rw [prod_snoc] at h1
    rw [restsI_snoc, clsAt_snoc' (restsI_len _ _), ih (fun x hx => hp x (List.mem_append_left _ hx)) (k / d) (Int.ediv_nonneg h0 (by omega)) ?_]
    · rw [Int.emod_emod_of_dvd k (Int.dvd_refl d)]
      rw [Int.mul_comm]
      exact Int.mul_ediv_add_emod k d
    · exact Int.ediv_lt_of_lt_mul hd h1
/-- every number of the rests is a rest -/
theorem rests_bd (D : List Int) (hp : ∀ d ∈ D, 0 < d) : ∀ k, ∀ x ∈ restsI D k, 0 ≤ x ∧ x ≤ prod D := by
  refine snoc_ind (P := fun D => (∀ d ∈ D, 0 < d) → ∀ k, ∀ x ∈ restsI D k, 0 ≤ x ∧ x ≤ prod D) (fun _ k x hx => ?_) (fun pre d ih hp k x hx => ?_) D hp
  · cases hx
  · have hd : 0 < d := hp d (List.mem_append_right _ List.mem_cons_self)
    have hpre : ∀ y ∈ pre, 0 < y := fun y hy => hp y (List.mem_append_left _ hy)
    have hpp := prod_pos hpre
    rw [restsI_snoc] at hx
    rw [prod_snoc]
    rcases List.mem_append.mp hx with hx | hx
    · have := ih hpre _ x hx
      refine ⟨this.1, Int.le_trans this.2 ?_⟩
      have := Int.mul_le_mul_of_nonneg_left (show 1 ≤ d by omega) (Int.le_of_lt hpp)
      rwa [Int.mul_one] at this
    · rw [List.mem_singleton.mp hx]
      have h1 := Int.emod_nonneg k (show d ≠ 0 by omega)
      have h2 := Int.emod_lt_of_pos k hd
      refine ⟨h1, ?_⟩
      have := Int.mul_le_mul_of_nonneg_right (show 1 ≤ prod pre by omega) (Int.le_of_lt hd)
      omega
theorem moreC_get {s : Int} (hs : 0 < s) : ∀ (cs : List (List Int)) (k : Nat), (moreC cs s)[k]? = (cs[k / s.toNat]?).map fun c => c ++ [((k : Int) % s)]
  | [], k => by
    show ([] : List (List Int))[k]? = _
    simp
  | c :: cs, k => by
    have e : moreC (c :: cs) s = ((List.range s.toNat).map fun k : Nat => c ++ [(k : Int)]) ++ moreC cs s := by
      unfold moreC
      rw [List.flatMap_cons]
    have hn : 0 < s.toNat := by omega
    rw [e]
    by_cases hk : k < s.toNat
    · rw [List.getElem?_append_left (by rw [List.length_map, List.length_range]; exact hk), List.getElem?_map, List.getElem?_range hk, Nat.div_eq_of_lt hk]
      show some (c ++ [(k : Int)]) = some (c ++ [(k : Int) % s])
      rw [Int.emod_eq_of_lt (by omega) (by omega)]
    · rw [List.getElem?_append_right (by rw [List.length_map, List.length_range]; omega), List.length_map, List.length_range, moreC_get hs cs]
      have h1 : k / s.toNat = (k - s.toNat) / s.toNat + 1 := by
        have : k = (k - s.toNat) + s.toNat := by omega
        conv => lhs; rw [this, Nat.add_div_right _ hn]
      rw [h1, List.getElem?_cons_succ]
      have h2 : ((k - s.toNat : Nat) : Int) % s = (k : Int) % s := by
        rw [show ((k - s.toNat : Nat) : Int) = (k : Int) - s by omega, Int.sub_emod_right]
      rw [h2]
/-- the k-th cell -/
theorem cells_get (D : List Int) (hp : ∀ d ∈ D, 0 < d) : ∀ k : Nat, (k : Int) < prod D → (cellsI D)[k]? = some (restsI D k) := by
  refine snoc_ind (P := fun D => (∀ d ∈ D, 0 < d) → ∀ k : Nat, (k : Int) < prod D → (cellsI D)[k]? = some (restsI D k)) (fun _ k h => ?_) (fun pre d ih hp k h => ?_) D hp
  · rw [prod_nil] at h
    have : k = 0 := by omega
    subst this
    rfl
  · have hd : 0 < d := hp d (List.mem_append_right _ List.mem_cons_self)
    rw [prod_snoc] at h
    rw [cellsI_snoc, moreC_get hd, restsI_snoc]
    have e : ((k / d.toNat : Nat) : Int) = (k : Int) / d := by
      rw [Int.natCast_ediv, Int.toNat_of_nonneg (by omega)]
    rw [ih (fun x hx => hp x (List.mem_append_left _ hx)) (k / d.toNat) (by rw [e]; exact Int.ediv_lt_of_lt_mul hd h), e]
    rfl
theorem cells_eq {D : List Int} (hp : ∀ d ∈ D, 0 < d) : cellsI D = (List.range (prod D).toNat).map fun k : Nat => restsI D k := by
  have hpp := prod_pos hp
  have hl := cellsI_len hp
  refine List.ext_getElem? fun k => ?_
  by_cases hk : k < (prod D).toNat
  · rw [cells_get D hp k (by omega), List.getElem?_map, List.getElem?_range hk]
    rfl
  · rw [List.getElem?_eq_none (by omega), List.getElem?_eq_none (by rw [List.length_map, List.length_range]; omega)]
/-! ### a place and the rests of its class -/
/-- the rests of a place are a move by multiples away -/
theorem rests_move (D : List Int) (hp : ∀ d ∈ D, 0 < d) : ∀ p : List Int, p.length = D.length → ∃ f, Mult D f ∧ restsI D (clsAt D p) = add2 p f := by
  refine snoc_ind (P := fun D => (∀ d ∈ D, 0 < d) → ∀ p : List Int, p.length = D.length → ∃ f, Mult D f ∧ restsI D (clsAt D p) = add2 p f) (fun _ p h => ?_) (fun pre d ih hp p h => ?_) D hp
  · cases p with
    | nil => exact ⟨[], ⟨[], rfl, rfl⟩, rfl⟩
    | cons x p => cases h
  · have hd : 0 < d := hp d (List.mem_append_right _ List.mem_cons_self)
    obtain ⟨q, x, rfl⟩ : ∃ q x, p = q ++ [x] := by
      rcases List.eq_nil_or_concat p with rfl | ⟨q, x, rfl⟩
      · rw [List.length_append] at h; cases h
      · exact ⟨q, x, List.concat_eq_append⟩
    rw [List.length_append, List.length_append] at h
    have hq : q.length = pre.length := by
      have : q.length + 1 = pre.length + 1 := h
      omega
    obtain ⟨f, ⟨g, g1, rfl⟩, e⟩ := ih (fun y hy => hp y (List.mem_append_left _ hy)) q hq
    have hx0 := Int.emod_nonneg x (show d ≠ 0 by omega)
    have hx1 := Int.emod_lt_of_pos x hd
    refine ⟨((g ++ [-(x / d)]).zip (pre ++ [d])).map (fun p => p.1 * p.2), ⟨g ++ [-(x / d)], by rw [List.length_append, List.length_append, g1]; rfl, rfl⟩, ?_⟩
    rw [clsAt_snoc' hq, restsI_snoc]
    have e1 : (clsAt pre q * d + x % d) / d = clsAt pre q := by
      rw [Int.add_comm, Int.add_mul_ediv_right _ _ (by omega), Int.ediv_eq_zero_of_lt hx0 hx1, Int.zero_add]
    have e2 : (clsAt pre q * d + x % d) % d = x % d := by
      rw [Int.add_comm, Int.add_mul_emod_self_right, Int.emod_emod_of_dvd x (Int.dvd_refl d)]
    rw [e1, e2, e, List.zip_append g1, List.map_append]
    unfold add2
    have hl2 : q.length = ((g.zip pre).map fun p : Int × Int => p.1 * p.2).length := by
      rw [List.length_map, List.length_zip, g1, hq, Nat.min_self]
    rw [List.zip_append hl2, List.map_append]
    congr 1
    show [x % d] = [x + -(x / d) * d]
    have := Int.mul_ediv_add_emod x d
    have e3 : d * (x / d) = x / d * d := Int.mul_comm _ _
    rw [Int.neg_mul]
    congr 1
    omega
end Rv

/-! Rv, plain part: fields and methods of named instances; a table's clashes. -/
open Rv in
local macro_rules | `(tactic| walk_at "g") => `(tactic| with_reducible first
  | (refine' w_attrL ?e ?f ?v ?_; (case e => k_dflt exact rfl); (case f => k_dflt exact HasFld.eq); (case v => k_dflt exact rfl))
  | (refine' w_methL ?e ?f ?g ?c ?m ?_; (case e => k_dflt exact rfl); (case f => k_dflt exact HasMeth.eq); (case g => k_dflt exact HasFn.eq); (case c => k_dflt first | rfl | decide +kernel); (case m => k_dflt exact rfl))
  | refine' w_join ?_
  | refine' w_rev ?_
  | refine' w_zip3 ?_
  | (refine' sub_of ?a ?b ?c ?_; (case a => k_dflt exact rfl); (case b => k_dflt exact rfl); (case c => k_dflt exact rfl))
  | refine' wp_cons ?_
  | refine' aft_nx ?_
  | refine' aft_rt ?_
  | refine' aft_ct ?_
  | refine' aft_bk ?_
  | (refine' cmp_str ?a ?b ?_; (case a => k_dflt first | exact ok_key | exact ok_fork | exact ok_places | decide +kernel); (case b => k_dflt first | exact ok_key | exact ok_fork | exact ok_places | decide +kernel))
  | refine' ITE_yes key_key ?_
  | refine' ITE_no fork_key ?_
  | refine' ITE_no places_key ?_
  | refine' ITE_yes fork_fork ?_
  | refine' ITE_no places_fork ?_
  | (refine' take_mk ?e ?m ?_; (case e => k_dflt exact rfl); (case m => k_dflt exact rfl))
  | (refine' w_lmX ?e ?_; (case e => k_dflt exact rfl))
  | refine' w_rng1 ?_
  | refine' w_lrg1 ?_
  | refine' w_enm ?_
  | refine' ws_setSubL ?_
  | (refine' sets_mk ?e ?f ?_; (case e => k_dflt exact rfl); (case f => k_dflt exact rfl))
  | (refine' ws_aug ?e ?_; (case e => k_dflt exact rfl))
  | (refine' aug_add ?e ?_; (case e => k_dflt exact rfl))
  | (refine' aug_sub ?e ?_; (case e => k_dflt exact rfl))
  | refine' wp_nil ?_
  | (refine' OKB_mk ?h ?_; (case h => k_dflt exact rfl))
  | refine ITE_nt ?_
  | refine ITE_nf ?_
  | refine ws_ret ?_
  | refine ws_ite ?_
  | refine ws_asg ?_
  | refine ws_expr ?_
  | refine ws_par ?_
  | refine ws_asgT ?_
  | refine' w_con ?_
  | (refine' w_fz ?e ?_; (case e => k_dflt exact rfl))
  | (refine' w_im ?e ?m ?_; (case e => k_dflt exact rfl); (case m => k_dflt exact rfl))
  | (refine' w_own ?e ?m ?_; (case e => k_dflt exact rfl); (case m => k_dflt exact rfl))
  | refine' w_glo ?_
  | refine' w_typ ?_
  | refine' w_bop ?_
  | refine' w_and ?_
  | refine' w_or ?_
  | refine' w_not ?_
  | refine' w_cmp ?_
  | refine' w_chn ?_
  | refine' w_ite ?_
  | refine' w_sub ?_
  | refine' w_slc ?_
  | refine' w_tup ?_
  | refine' w_lst ?_
  | refine' w_callB ?_
  | (refine' w_callF ?m ?_; (case m => k_dflt exact rfl))
  | refine fzs_nil ?_
  | refine fzs_cons ?_
  | refine evs_nil ?_
  | refine evs_cons ?_
  | refine evts_nil ?_
  | refine evts_cons ?_
  | refine args_nil ?_
  | refine args_fz ?_
  | (refine' args_own ?e ?_; (case e => k_dflt exact rfl))
  | refine FZ_fz ?_
  | refine FZ_fr ?_
  | (refine' FZ_var ?e ?_; (case e => k_dflt exact rfl))
  | refine KEEP_fz ?_
  | refine KEEP_fr ?_
  | (refine' KEEP_var ?e ?_; (case e => k_dflt exact rfl))
  | refine ITE_tt ?_
  | refine ITE_ff ?_
  | refine nx_nx ?_
  | refine nx_rt ?_
  | refine tru_bl ?_
  | refine' w_neg ?_
  | refine' w_attr ?_
  | refine bop_add ?_
  | refine bop_sub ?_
  | refine cmp_eq ?_
  | refine cmp_ne ?_
  | refine cmp_lt ?_
  | refine cmp_le ?_
  | refine cmp_gt ?_
  | refine cmp_ge ?_
  | refine' w_items ?_
  | refine' w_zip2 ?_
  | (refine' biv_Bl biv_isi ?a ?b ?_; (case a => k_dflt exact rfl); (case b => k_dflt exact rfl))
  | (refine' biv_In biv_len ?a ?b ?_; (case a => k_dflt exact rfl); (case b => k_dflt exact rfl))
  | (refine' biv_In biv_int ?a ?b ?_; (case a => k_dflt exact rfl); (case b => k_dflt exact rfl))
  | (refine' biv_In biv_abs ?a ?b ?_; (case a => k_dflt exact rfl); (case b => k_dflt exact rfl))
  | (refine' biv_In biv_min ?a ?b ?_; (case a => k_dflt exact rfl); (case b => k_dflt exact rfl))
  | (refine' biv_In biv_max ?a ?b ?_; (case a => k_dflt exact rfl); (case b => k_dflt exact rfl))
  | (refine' biv_Tu biv_tuple ?a ?b ?_; (case a => k_dflt exact rfl); (case b => k_dflt exact rfl))
  | (refine' biv_Ls biv_list ?a ?b ?_; (case a => k_dflt exact rfl); (case b => k_dflt exact rfl))
  | (refine' biv_Bl biv_all ?a (allV_map _ _) ?_; (case a => k_dflt exact rfl))
  | (refine' biv_Bl biv_any ?a (anyV_map _ _) ?_; (case a => k_dflt exact rfl))
  | (refine' biv_In biv_sum ?a (sumV_map _ _) ?_; (case a => k_dflt exact rfl))
  | (refine' ITE_no ?h ?_; (case h => k_dflt exact rfl))
  | (refine' ITE_yes ?h ?_; (case h => k_dflt exact rfl)))

namespace Rv
open PySem
theorem ok_fu (s : Bool) : PyData.strOk (fu s) = true := by cases s <;> decide +kernel
theorem fu_f (s : Bool) : decide (fu s = "f") = s := by cases s <;> decide +kernel
def pairV (p : List Int × List Int) : Val := .tup [tupI p.1, tupI p.2]
def ixOf : List (List Int) → List Int → Nat
  | [], _ => 0
  | x :: xs, l => if x = l then 0 else ixOf xs l + 1
theorem ixOf_get : ∀ {L : List (List Int)} {l : List Int}, l ∈ L → L[ixOf L l]? = some l
  | [], _, h => nomatch h
  | x :: xs, l, h => by
    unfold ixOf
    by_cases e : x = l
    · rw [if_pos e, e]; rfl
    · rw [if_neg e, List.getElem?_cons_succ]
      exact ixOf_get ((List.mem_cons.mp h).resolve_left fun z => e z.symm)
/-- what a table says of a place and a look -/
def seesB (D : List Int) (L : List (List Int)) (ws : List (List Bool)) (p l : List Int) : Bool := ((ws.getD (clsAt D p).toNat []).getD (ixOf L l) false)
def clashB (D : List Int) (L : List (List Int)) (ws : List (List Bool)) (p l : List Int) (s : Bool) : Bool := decide (neg1 l ∈ L) && (seesB D L ws (add2 p l) (neg1 l) == s)
def clashK (D : List Int) (L : List (List Int)) (ws : List (List Bool)) (p : List Int) (qs : List (List Int × Bool)) : List (List Int × List Int) := qs.filterMap fun q => if clashB D L ws p q.1 q.2 then some (p, q.1) else none
def clashes (D : List Int) (L : List (List Int)) (ws : List (List Bool)) (vs : List (List Bool)) (k : Nat) : List (List Int × List Int) := match vs with
  | [] => []
  | w :: vs => clashK D L ws (restsI D k) (L.zip w) ++ clashes D L ws vs (k + 1)
theorem clashK_snoc (D : List Int) (L : List (List Int)) (ws : List (List Bool)) (p : List Int) (qs : List (List Int × Bool)) (q : List Int × Bool) : clashK D L ws p (qs ++ [q]) = clashK D L ws p qs ++ (if clashB D L ws p q.1 q.2 then [(p, q.1)] else []) := by
  unfold clashK
  rw [List.filterMap_append]
  congr 1
  simp only [List.filterMap_cons, List.filterMap_nil]
  split <;> simp_all
theorem neg1_len (l : List Int) : (neg1 l).length = l.length := List.length_map _
theorem zip_words (L : List (List Int)) (w : List Bool) : zipW (lsV L) (.str (wS w)) = some ((L.zip w).map fun q => .tup [tupI q.1, .str (fu q.2)]) := by
  show some (zipV (L.map tupI) ((wS w).cps.toList.map fun c => Val.str ⟨#[c]⟩)) = _
  rw [wS_chars, zipV_map]
/-- tables that may be made -/
structure TabOk (D : List Int) (L : List (List Int)) (ws : List (List Bool)) : Prop where
  dok : Dok D
  le : prod D ≤ 12
  looks : Looks D.length L
  wl : (ws.length : Int) = prod D
  ww : ∀ w ∈ ws, w.length = L.length
theorem TabOk.sees {D : List Int} {L : List (List Int)} {ws : List (List Bool)} {p l : List Int} (h : TabOk D L ws) (hp : p.length = D.length) (hl : l ∈ L) : ∃ w b, ws[(clsAt D p).toNat]? = some w ∧ w[ixOf L l]? = some b ∧ w.length = L.length ∧ b = seesB D L ws p l := by
  have hb := clsAt_bd h.dok hp
  have h1 : (clsAt D p).toNat < ws.length := by have := h.wl; omega
  have hw : ws[(clsAt D p).toNat]? = some ws[(clsAt D p).toNat] := List.getElem?_eq_getElem h1
  have hwl := h.ww _ (List.getElem_mem h1)
  have h2 : ixOf L l < L.length := (List.getElem?_eq_some_iff.mp (ixOf_get hl)).1
  refine ⟨_, ws[(clsAt D p).toNat][ixOf L l]'(by omega), hw, List.getElem?_eq_getElem _, hwl, ?_⟩
  unfold seesB
  rw [List.getD_eq_getElem?_getD, List.getD_eq_getElem?_getD, hw, Option.getD_some, List.getElem?_eq_getElem (by omega), Option.getD_some]
section
variable {T : Tab}
theorem sees_okB [HasFn T "is_number" k_is_number] [HasFn T "are_numbers" k_are_numbers] [HasFn T "need_place" k_need_place] [HasFn T "class_at" k_class_at] [HasFn T "is_look" k_is_look] [HasFn T "Table.sees" k_Table_sees] [HasCon T "MAX_REACH" (.int 9)] [TabFld T] {n : Nat} {D p l : List Int} {L : List (List Int)} {ws : List (List Bool)} (h : TabOk D L ws) (hp : p.length = D.length) (hl : l ∈ L) :
    callN T (n + 4) "Table.sees" [tabV D L ws, tupI p, tupI l] = .ok (.bl (seesB D L ws p l)) [] := by
  obtain ⟨w, b, h1, h2, h3, rfl⟩ := h.sees hp hl
  exact sees_ok h.dok h.looks hp (ixOf_get hl) h1 h2 h3
theorem clashes_ok [HasFn T "is_number" k_is_number] [HasFn T "are_numbers" k_are_numbers] [HasFn T "need_place" k_need_place] [HasFn T "class_at" k_class_at] [HasFn T "plus" k_plus] [HasFn T "is_look" k_is_look] [HasFn T "opposite" k_opposite] [HasFn T "rests_at" k_rests_at] [HasFn T "Table.sees" k_Table_sees] [HasFn T "Table.clashes" k_Table_clashes] [HasCon T "MAX_REACH" (.int 9)] [HasMeth T "Table" "sees" "Table.sees"] [TabFld T] {n : Nat} {D : List Int} {L : List (List Int)} {ws : List (List Bool)} (h : TabOk D L ws) : callN T (n + 5) "Table.clashes" [tabV D L ws] = .ok (.lst ((clashes D L ws ws 0).map pairV)) [] := by
  have hD := h.dok
  have hL := h.looks
  have l3 := hD.l3
  have l4 := hL.l4
  refine call_of (fun c => c = _) HasFn.eq (by rfl) ?_
  show WP (evSs _ _ c_Table_clashes [some (tabV D L ws, false), none, none, none, none, none, none, none]) _ _
  unfold c_Table_clashes
  repeat walk_at "g"
  refine wp_for (fun rest ρ => ∃ (pre suf : List (List Bool)) (acc : List (List Int × List Int)) (a2 a3 a4 a5 a6 a7 : Option (Val × Bool)), ws = pre ++ suf ∧ rest = enumV pre.length (suf.map fun w => .str (wS w)) ∧ acc.length ≤ 4 * pre.length ∧ acc ++ clashes D L ws suf pre.length = clashes D L ws ws 0 ∧ ρ = [some (tabV D L ws, false), some (.lst (acc.map pairV), true), a2, a3, a4, a5, a6, a7]) ?_ ?_ ?_
  · repeat walk_at "g"
    refine ⟨_, rfl, ?_⟩
    exact items_fz rfl ⟨[], ws, [], none, none, none, none, none, none, rfl, rfl, Nat.le_refl _, rfl, rfl⟩
  · rintro x rest ρ ⟨pre, suf, acc, a2, a3, a4, a5, a6, a7, e1, e2, hc, he, rfl⟩
    cases suf with
    | nil => cases e2
    | cons w suf =>
      cases e2
      refine ⟨_, rfl, ?_⟩
      have hpl : pre.length ≤ 12 := by
        have h1 := h.wl
        have h2 := h.le
        rw [e1, List.length_append] at h1
        omega
      have hwl : w.length = L.length := h.ww w (by rw [e1]; exact List.mem_append_right _ List.mem_cons_self)
      repeat walk_at "g"
      refine call_v (rests_at_ok (n := n + 3) (k := pre.length) hD) rfl rfl rfl ?_
      repeat walk_at "g"
      refine wp_for (fun rest ρ => ∃ (qp qs : List (List Int × Bool)) (a5 a6 a7 : Option (Val × Bool)), L.zip w = qp ++ qs ∧ rest = qs.map (fun q => .tup [tupI q.1, .str (fu q.2)]) ∧ ρ = [some (tabV D L ws, false), some (.lst ((acc ++ clashK D L ws (restsI D pre.length) qp).map pairV), true), some (.int pre.length, false), some (.str (wS w), false), some (tupI (restsI D pre.length), false), a5, a6, a7]) ?_ ?_ ?_
      · repeat walk_at "g"
        refine ⟨_, zip_words L w, ?_⟩
        exact items_fz rfl ⟨[], L.zip w, a5, a6, a7, rfl, rfl, by rw [show clashK D L ws (restsI D pre.length) [] = [] from rfl, List.append_nil]; rfl⟩
      · rintro x rest ρ ⟨qp, qs, a5, a6, a7, g1, g2, rfl⟩
        cases qs with
        | nil => cases g2
        | cons q qs =>
          cases g2
          obtain ⟨l, s⟩ := q
          refine ⟨_, rfl, ?_⟩
          have hqm : (l, s) ∈ L.zip w := by rw [g1]; exact List.mem_append_right _ List.mem_cons_self
          have hlm : l ∈ L := (List.of_mem_zip hqm).1
          have hll := hL.len l hlm
          have hql : qp.length ≤ 4 := by
            have := congrArg List.length g1
            rw [List.length_zip, List.length_append] at this
            omega
          have hal : (acc ++ clashK D L ws (restsI D pre.length) qp).length ≤ 1000 := by
            rw [List.length_append]
            have : (clashK D L ws (restsI D pre.length) qp).length ≤ qp.length := List.length_filterMap_le _ _
            omega
          repeat walk_at "g"
          refine call_v (opposite_ok (n := n + 3) (xs := l) (by rw [hll]; show _ ≤ 16777216; omega)) rfl rfl rfl ?_
          repeat walk_at "g"
          obtain ⟨b0, hb0, hi⟩ := inL_good (v := tupI (neg1 l)) (ws := L.map tupI) (good_tupI _) (good_ls L) (by have := dep_tupI (neg1 l); omega)
          refine cmp_of (v := tupI (neg1 l)) (w := lsV L) (b := b0) rfl rfl hb0 ?_
          repeat walk_at "g"
          have hbd : b0 = decide (neg1 l ∈ L) := by
            rw [Bool.eq_iff_iff, hi, lsV_mem, decide_eq_true_iff]
          refine ITE_of (fun hb => ?_) (fun hb => ?_)
          · have hnm : neg1 l ∈ L := by rw [hbd] at hb; exact of_decide_eq_true hb
            repeat walk_at "g"
            refine call_v (pplus_ok (n := n + 3) (xs := restsI D pre.length) (ys := l) (by rw [restsI_len]; show _ ≤ 16777216; omega)) rfl rfl rfl ?_
            repeat walk_at "g"
            refine call_m (sees_okB (n := n) h (by rw [add2_len (by rw [restsI_len, hll]), restsI_len]) hnm) rfl rfl rfl ?_
            repeat walk_at "g"
            refine cmp_str (ok_fu s) (by decide +kernel) ?_
            rw [fu_f]
            refine cmp_eqB ?_
            repeat walk_at "g"
            refine ITE_of (fun hs => ?_) (fun hs => ?_)
            · repeat walk_at "g"
              refine lm_append rfl (by rw [List.length_map]; show _ < 16777216; omega) ?_
              repeat walk_at "g"
              refine ⟨qp ++ [(l, s)], qs, some (tupI l, false), some (.str (fu s), false), some (tupI (neg1 l), false), by rw [g1, List.append_assoc]; rfl, rfl, ?_⟩
              rw [clashK_snoc, show clashB D L ws (restsI D pre.length) l s = true by unfold clashB; rw [decide_eq_true hnm, hs]; rfl, if_pos rfl, ← List.append_assoc, List.map_append (l₂ := [(restsI D pre.length, l)])]
              rfl
            · repeat walk_at "g"
              refine ⟨qp ++ [(l, s)], qs, some (tupI l, false), some (.str (fu s), false), some (tupI (neg1 l), false), by rw [g1, List.append_assoc]; rfl, rfl, ?_⟩
              rw [clashK_snoc, show clashB D L ws (restsI D pre.length) l s = false by unfold clashB; rw [hs, Bool.and_false], if_neg Bool.false_ne_true, List.append_nil]
              rfl
          · repeat walk_at "g"
            rw [hb]
            repeat walk_at "g"
            refine ⟨qp ++ [(l, s)], qs, some (tupI l, false), some (.str (fu s), false), some (tupI (neg1 l), false), by rw [g1, List.append_assoc]; rfl, rfl, ?_⟩
            have hnm : decide (neg1 l ∈ L) = false := by rw [← hbd, hb]
            rw [clashK_snoc, show clashB D L ws (restsI D pre.length) l s = false by unfold clashB; rw [hnm, Bool.false_and], if_neg Bool.false_ne_true, List.append_nil]
            rfl
      · rintro ρ ⟨qp, qs, a5, a6, a7, g1, g2, rfl⟩
        cases qs with
        | cons q qs => cases g2
        | nil =>
          rw [List.append_nil] at g1
          repeat walk_at "g"
          refine ⟨pre ++ [w], suf, acc ++ clashK D L ws (restsI D pre.length) qp, _, _, _, _, _, _, by rw [e1, List.append_assoc]; rfl, by rw [List.length_append]; rfl, ?_, ?_, rfl⟩
          · rw [List.length_append, List.length_append, List.length_singleton]
            have : (clashK D L ws (restsI D pre.length) qp).length ≤ qp.length := List.length_filterMap_le _ _
            have h2 := congrArg List.length g1
            rw [List.length_zip] at h2
            omega
          · rw [← he, ← g1, List.append_assoc, List.length_append]
            rfl
  · rintro ρ ⟨pre, suf, acc, a2, a3, a4, a5, a6, a7, e1, e2, hc, he, rfl⟩
    cases suf with
    | cons w suf => cases e2
    | nil =>
      repeat walk_at "g"
      have he : acc ++ [] = _ := he
      rw [List.append_nil] at he
      rw [← he]
      exact out_newV rfl rfl rfl rfl
end
end Rv

/-! Rv, plain part: looks and words drawn; the same. -/
namespace Rv
open PySem
section
variable {T : Tab}
theorem cmp_neBB {ρ : Env} {B : Bool → Env → Prop} {a b : Bool} (h : B (a != b) ρ) : CMP .NotEq ⟨.bl a, .fz⟩ ⟨.bl b, .fz⟩ ρ B := by
  refine cmp_of rfl rfl (b := (a != b)) ?_ h
  cases a <;> cases b <;> decide +kernel
theorem cmp_eqR {ρ : Env} {B : Bool → Env → Prop} {x y : R} {v w : Val} (h1 : rd ρ x = some v) (h2 : rd ρ y = some w) (hv : v.good = true) (hw : w.good = true) (hd : min v.dep w.dep ≤ 64) (h : ∀ b, (b = true ↔ v = w) → B b ρ) : CMP .Eq x y ρ B := by
  obtain ⟨b, e, hb⟩ := eqv_good hv hw hd
  exact cmp_of h1 h2 e (h b hb)
theorem cmp_neR {ρ : Env} {B : Bool → Env → Prop} {x y : R} {v w : Val} (h1 : rd ρ x = some v) (h2 : rd ρ y = some w) (hv : v.good = true) (hw : w.good = true) (hd : min v.dep w.dep ≤ 64) (h : ∀ b, (b = true ↔ v ≠ w) → B b ρ) : CMP .NotEq x y ρ B := by
  obtain ⟨b, e, hb⟩ := eqv_good hv hw hd
  refine cmp_of h1 h2 (b := !b) (by show (eqv v w).map not = _; rw [e]; rfl) (h _ ?_)
  cases b with
  | true => exact Iff.intro (fun z => absurd z (by decide)) (fun z => absurd (hb.mp rfl) z)
  | false => exact Iff.intro (fun _ z => by have := hb.mpr z; cases this) (fun _ => rfl)
theorem nodup_one {α : Type} (x : α) : [x].Nodup := by simp
theorem law_looks_ok [HasFn T "_law_pull" k__law_pull] [HasFn T "_law_of" k__law_of] [HasFn T "_law_looks" k__law_looks] {n : Nat} {b : Bag} (hb : b.Ok) {k : Nat} (k1 : 1 ≤ k) (k3 : k ≤ 3) : ∃ (L : List (List Int)) (b' : Bag), Looks k L ∧ b'.Ok ∧ callN T (n + 3) "_law_looks" [b.v, .int k] = .ok (lsV L) [b'.v] := by
  refine call_of (fun c => ∃ (L : List (List Int)) (b' : Bag), Looks k L ∧ b'.Ok ∧ c = .ok (lsV L) [b'.v]) HasFn.eq (by rfl) ?_
  show WP (evSs _ _ c__law_looks [some (b.v, true), some (.int k, false), none, none, none, none, none]) _ _
  unfold c__law_looks
  obtain ⟨v, b1, hv, hb1, h1⟩ := of_ok (T := T) (n := n) hb (xs := [.int 2, .int 2, .int 2, .int 2, .int 8]) (by decide) (by decide)
  obtain ⟨s, rfl, s0, s8⟩ : ∃ s : Int, v = .int s ∧ 0 ≤ s ∧ s ≤ 8 := by
    simp only [List.mem_cons, List.not_mem_nil, or_false] at hv
    rcases hv with rfl | rfl | rfl | rfl | rfl
    · exact ⟨2, rfl, by decide, by decide⟩
    · exact ⟨2, rfl, by decide, by decide⟩
    · exact ⟨2, rfl, by decide, by decide⟩
    · exact ⟨2, rfl, by decide, by decide⟩
    · exact ⟨8, rfl, by decide, by decide⟩
  repeat walk_at "g"
  refine call_b h1 rfl rfl rfl ?_
  repeat walk_at "g"
  obtain ⟨r, b2, r0, r1, hb2, h2⟩ := pull_ok (T := T) (n := n + 1) hb1 (amt := 4) (by decide) (by decide)
  refine wp_for (fun rest ρ => ∃ (js : List Nat) (L : List (List Int)) (b : Bag) (a4 a5 : Option (Val × Bool)), rest = js.map (fun k : Nat => .int k) ∧ b.Ok ∧ L.length + js.length ≤ 4 ∧ (∀ l ∈ L, l.length = k ∧ (∀ x ∈ l, -9 ≤ x ∧ x ≤ 9) ∧ l ≠ List.replicate k 0) ∧ L.Nodup ∧ ρ = [some (b.v, true), some (.int k, false), some (lsV L, true), some (.int s, false), a4, a5, none]) ?_ ?_ ?_
  · repeat walk_at "g"
    refine call_b h2 rfl rfl rfl ?_
    repeat walk_at "g"
    exact ⟨_, _, rfl, range_int (k := 1 + r) (by omega) (by omega), items_fz rfl ⟨_, [], b2, none, none, rfl, hb2, by rw [List.length_range]; show 0 + _ ≤ 4; omega, (fun l h => by cases h), List.nodup_nil, rfl⟩⟩
  · rintro x rest ρ ⟨js, L, b, a4, a5, e1, hb, hl, hL, hn, rfl⟩
    cases js with
    | nil => cases e1
    | cons j js =>
      cases e1
      refine ⟨_, rfl, ?_⟩
      rw [List.length_cons] at hl
      repeat walk_at "g"
      refine w_compD (as := List.range k) (g := fun k : Nat => .int k) (P := fun _ v => ∃ x : Int, v = .int x ∧ -s ≤ x ∧ x ≤ s) (fun b : Bag => [some (b.v, true), some (.int k, false), some (lsV L, true), some (.int s, false), some (.int j, false), a5, none]) Bag.Ok hb ?_ ?_ ?_ ?_
      · repeat walk_at "g"
        exact ⟨_, _, rfl, range_nat (n := k) (by omega), items_fz rfl ⟨rfl, rfl⟩⟩
      · rw [List.length_range]; show _ ≤ 16777216; omega
      · intro i hi b hb
        obtain ⟨q, b6, q0, q1, hb6, hc⟩ := pull_ok (T := T) (n := n + 1) hb (amt := 2 * s + 1) (by omega) (by omega)
        refine ⟨_, rfl, ?_⟩
        repeat walk_at "g"
        refine bop_mul (Sm.mul (sm_small (by decide)) (sm_small (by omega))) ?_
        repeat walk_at "g"
        refine call_b hc rfl rfl rfl ?_
        repeat walk_at "g"
        exact ⟨⟨q - s, rfl, by omega, by omega⟩, b6, hb6, rfl⟩
      · intro vs b hb ha
        obtain ⟨l, rfl, ha2⟩ := ha.pick
        have hll : l.length = k := by rw [← ha2.length, List.length_range]
        have hlb : ∀ x ∈ l, -s ≤ x ∧ x ≤ s := ha2.all
        repeat walk_at "g"
        refine ⟨_, _, _, rfl, rfl, mul_zero_tup k3, ?_⟩
        refine cmp_neG (v := tupI l) (good_tupI l) (good_tupI _) (by have := dep_tupI l; omega) fun c hc => ?_
        repeat walk_at "g"
        have skip : ∀ o : Bool, ∃ (js' : List Nat) (L' : List (List Int)) (b' : Bag) (a4 a5' : Option (Val × Bool)), List.map (fun k : Nat => Val.int k) js = js'.map (fun k : Nat => .int k) ∧ b'.Ok ∧ L'.length + js'.length ≤ 4 ∧ (∀ l ∈ L', l.length = k ∧ (∀ x ∈ l, -9 ≤ x ∧ x ≤ 9) ∧ l ≠ List.replicate k 0) ∧ L'.Nodup ∧ [some (b.v, true), some (.int k, false), some (lsV L, true), some (.int s, false), some (.int j, false), some (tupI l, false), none] = [some (b'.v, true), some (.int k, false), some (lsV L', true), some (.int s, false), a4, a5', none] :=
          fun _ => ⟨js, L, b, _, _, rfl, hb, by omega, hL, hn, rfl⟩
        refine ITE_of (fun hc1 => ?_) (fun hc1 => ?_)
        · obtain ⟨b0, hb0, hi⟩ := inL_good (v := tupI l) (ws := L.map tupI) (good_tupI l) (good_ls L) (by have := dep_tupI l; omega)
          repeat walk_at "g"
          refine cmp_of (v := tupI l) (w := lsV L) (b := !b0) rfl rfl (by show (inL (tupI l) (L.map tupI)).map not = _; rw [hb0]; rfl) ?_
          repeat walk_at "g"
          cases b0 with
          | true =>
            repeat walk_at "g"
            exact skip true
          | false =>
            have hnm : l ∉ L := fun z => by have := hi.mpr (lsV_mem.mpr z); cases this
            repeat walk_at "g"
            refine lm_append rfl (by rw [List.length_map]; show _ < 16777216; omega) ?_
            repeat walk_at "g"
            refine ⟨js, L ++ [l], b, some (.int j, false), some (tupI l, false), rfl, hb, by rw [List.length_append, List.length_singleton]; omega, fun l' h' => ?_, ?_, by show _ = [_, _, some (Val.lst ((L ++ [l]).map tupI), true), _, _, _, _]; rw [List.map_append]; rfl⟩
            · rcases List.mem_append.mp h' with h' | h'
              · exact hL l' h'
              · rw [List.mem_singleton.mp h']
                exact ⟨hll, fun x hx => by have := hlb x hx; omega, fun z => hc.mp hc1 (congrArg tupI z)⟩
            · rw [List.nodup_append]
              exact ⟨hn, nodup_one _, fun a ha b hb' z => hnm (by rw [← List.mem_singleton.mp hb', ← z]; exact ha)⟩
        · subst hc1
          repeat walk_at "g"
          exact skip true
  · rintro ρ ⟨js, L, b, a4, a5, e1, hb, hl, hL, hn, rfl⟩
    repeat walk_at "g"
    cases L with
    | nil =>
      refine cmp_of (v := lsV []) (w := .lst []) (b := false) rfl rfl (by decide +kernel) ?_
      repeat walk_at "g"
      refine ⟨_, _, _, rfl, rfl, (by rw [show ((k : Int) - 1) = ((k - 1 : Nat) : Int) by omega]; exact mul_zero_tup (k := k - 1) (by omega)), ?_⟩
      refine ⟨_, _, .tup (.int 1 :: (List.replicate (k - 1) 0).map .int), rfl, rfl, ?_, ?_⟩
      · show (if ([Val.int 1].length + ((List.replicate (k - 1) (0 : Int)).map Val.int).length) ≤ big then some (Val.tup ([Val.int 1] ++ (List.replicate (k - 1) (0 : Int)).map Val.int)) else none) = _
        rw [if_pos (by rw [List.length_map, List.length_replicate]; show 1 + _ ≤ 16777216; omega)]
        rfl
      · refine FZ_fz ?_
        repeat walk_at "g"
        refine ⟨[1 :: List.replicate (k - 1) 0], b, ?_, hb, out_fr rfl rfl⟩
        refine ⟨fun l h => ?_, fun l h x hx => ?_, fun l h z => ?_, nodup_one _, Nat.le_refl 1, by show 1 ≤ 4; omega⟩
        · rw [List.mem_singleton.mp h, List.length_cons, List.length_replicate]; omega
        · rw [List.mem_singleton.mp h] at hx
          rcases List.mem_cons.mp hx with rfl | hx
          · omega
          · rw [(List.mem_replicate.mp hx).2]; omega
        · rw [List.mem_singleton.mp h] at z
          rw [show k = (k - 1) + 1 by omega, List.replicate_succ] at z
          injection z with z1 z2
          omega
    | cons l0 L =>
      refine cmp_neR (v := lsV (l0 :: L)) (w := .lst []) rfl rfl (good_ls _) rfl (by show min _ 1 ≤ 64; omega) fun c hc => ?_
      have : c = true := hc.mpr (fun z => by cases z)
      subst this
      repeat walk_at "g"
      have hln : (l0 :: L).length ≤ 4 := by omega
      exact ⟨l0 :: L, b, ⟨fun l h => (hL l h).1, fun l h => (hL l h).2.1, fun l h => (hL l h).2.2, hn, by rw [List.length_cons]; omega, hln⟩, hb, out_var rfl rfl rfl⟩
theorem law_words_ok [HasFn T "_law_pull" k__law_pull] [HasFn T "_law_words" k__law_words] {n : Nat} {b : Bag} (hb : b.Ok) {m : Nat} (hm : m ≤ 1000) {L : List (List Int)} (hL : L.length ≤ 100) : ∃ (ws : List (List Bool)) (b' : Bag), ws.length = m ∧ (∀ w ∈ ws, w.length = L.length) ∧ b'.Ok ∧ callN T (n + 2) "_law_words" [b.v, .int m, lsV L] = .ok (.lst (ws.map fun w => .str (wS w))) [b'.v] := by
  refine call_of (fun c => ∃ (ws : List (List Bool)) (b' : Bag), ws.length = m ∧ (∀ w ∈ ws, w.length = L.length) ∧ b'.Ok ∧ c = .ok (.lst (ws.map fun w => .str (wS w))) [b'.v]) HasFn.eq (by rfl) ?_
  show WP (evSs _ _ c__law_words [some (b.v, true), some (.int m, false), some (lsV L, false), none, none, none]) _ _
  unfold c__law_words
  repeat walk_at "g"
  refine wp_for (fun rest ρ => ∃ (js : List Nat) (ws : List (List Bool)) (b : Bag) (a4 : Option (Val × Bool)), rest = js.map (fun k : Nat => .int k) ∧ b.Ok ∧ ws.length + js.length = m ∧ (∀ w ∈ ws, w.length = L.length) ∧ ρ = [some (b.v, true), some (.int m, false), some (lsV L, false), some (.lst (ws.map fun w => .str (wS w)), true), a4, none]) ?_ ?_ ?_
  · repeat walk_at "g"
    exact ⟨_, _, rfl, range_nat (n := m) (by omega), items_fz rfl ⟨_, [], b, none, rfl, hb, by rw [List.length_range]; exact Nat.zero_add _, (fun _ h => by cases h), rfl⟩⟩
  · rintro x rest ρ ⟨js, ws, b, a4, e1, hb, hl, hw, rfl⟩
    cases js with
    | nil => cases e1
    | cons j js =>
      cases e1
      refine ⟨_, rfl, ?_⟩
      rw [List.length_cons] at hl
      repeat walk_at "g"
      refine w_compD (as := L) (g := tupI) (P := fun _ v => ∃ s : Bool, v = .str (fu s) ∧ True) (fun b : Bag => [some (b.v, true), some (.int m, false), some (lsV L, false), some (.lst (ws.map fun w => .str (wS w)), true), some (.int j, false), none]) Bag.Ok hb ?_ ?_ ?_ ?_
      · repeat walk_at "g"
        exact items_fz rfl ⟨rfl, rfl⟩
      · show _ ≤ 16777216; omega
      · intro i hi b hb
        obtain ⟨q, b6, q0, q1, hb6, hc⟩ := pull_ok (T := T) (n := n) hb (amt := 2) (by decide) (by decide)
        refine ⟨_, rfl, ?_⟩
        repeat walk_at "g"
        refine call_b hc rfl rfl rfl ?_
        refine sub_of (u := .str (fu (decide (q = 0)))) rfl rfl ?_ ?_
        · rcases (show q = 0 ∨ q = 1 by omega) with rfl | rfl
          · rfl
          · rfl
        repeat walk_at "g"
        exact ⟨⟨_, rfl, trivial⟩, b6, hb6, rfl⟩
      · intro vs b hb ha
        obtain ⟨w, rfl, ha2⟩ := ha.pick
        have hwl : w.length = L.length := ha2.length.symm
        repeat walk_at "g"
        refine ⟨.str (wS w), join_fu w (by omega), ?_⟩
        repeat walk_at "g"
        refine lm_append rfl (by rw [List.length_map]; show _ < 16777216; omega) ?_
        repeat walk_at "g"
        refine ⟨js, ws ++ [w], b, some (.int j, false), rfl, hb, by rw [List.length_append, List.length_singleton]; omega, fun w' h' => ?_, by rw [List.map_append]; rfl⟩
        rcases List.mem_append.mp h' with h' | h'
        · exact hw w' h'
        · rw [List.mem_singleton.mp h']; exact hwl
  · rintro ρ ⟨js, ws, b, a4, e1, hb, hl, hw, rfl⟩
    cases js with
    | cons j js => cases e1
    | nil =>
      repeat walk_at "g"
      exact ⟨ws, b, hl, hw, hb, out_var rfl rfl rfl⟩
end
end Rv

/-! Rv, plain part: a value is the same as itself. -/
namespace Rv
open PySem
mutual
/-- plain data -/
def Val.sm : Val → Bool
  | .non => true
  | .bl _ => true
  | .int _ => true
  | .str x => PyData.strOk x
  | .tup xs => Val.sms xs && decide (xs.length ≤ 1000000)
  | .lst xs => Val.sms xs && decide (xs.length ≤ 1000000)
  | _ => false
def Val.sms : List Val → Bool
  | [] => true
  | x :: xs => Val.sm x && Val.sms xs
end
theorem sms_mem : ∀ {xs : List Val} {x : Val}, Val.sms xs = true → x ∈ xs → x.sm = true
  | [], _, _, h => nomatch h
  | y :: ys, x, e, h => by
    have e : (Val.sm y && Val.sms ys) = true := e
    rw [Bool.and_eq_true] at e
    rcases List.mem_cons.mp h with rfl | h
    · exact e.1
    · exact sms_mem e.2 h
theorem deps_mem : ∀ {xs : List Val} {x : Val} {d : Nat}, Val.deps xs ≤ d → x ∈ xs → x.dep ≤ d
  | [], _, _, _, h => nomatch h
  | y :: ys, x, d, e, h => by
    have e : max (Val.dep y) (Val.deps ys) ≤ d := e
    rcases List.mem_cons.mp h with rfl | h
    · omega
    · exact deps_mem (by omega) h
theorem sms_map {α : Type} {f : α → Val} : ∀ {xs : List α}, (∀ x ∈ xs, (f x).sm = true) → Val.sms (xs.map f) = true
  | [], _ => rfl
  | x :: xs, h => by
    show (Val.sm (f x) && Val.sms (xs.map f)) = true
    rw [h x List.mem_cons_self, sms_map fun y hy => h y (List.mem_cons_of_mem _ hy)]
    rfl
theorem zipV_self (xs : List Val) : zipV xs xs = xs.map fun x => .tup [x, x] := by
  induction xs with
  | nil => rfl
  | cons x xs ih => show _ :: zipV xs xs = _; rw [ih]; rfl
theorem zip_self (xs : List Val) : zipV xs xs = xs.map fun x => .tup [x, x] := by
  induction xs with
  | nil => rfl
  | cons x xs ih => show _ :: zipV xs xs = _; rw [ih]; rfl
theorem eqv_atom {v : Val} (h : v.sm = true) (hd : v.dep = 0) (h1 : ∀ xs, v ≠ .tup xs) (h2 : ∀ xs, v ≠ .lst xs) : eqv v v = some true := by
  cases v with
  | non => decide +kernel
  | bl b => cases b <;> decide +kernel
  | int i => rw [eqv_int, decide_eq_true rfl]
  | str x => rw [eqv_str h h, decide_eq_true rfl]
  | tup xs => exact absurd rfl (h1 xs)
  | lst xs => exact absurd rfl (h2 xs)
  | _ => cases h
section
variable {T : Tab}
theorem same_atom [HasFn T "_law_same" k__law_same] {n : Nat} {v : Val} (hv : v.sm = true) (h0 : v.dep = 0) : callN T (n + 1) "_law_same" [v, v] = .ok (.bl true) [] := by
  refine call_of (fun c => c = _) HasFn.eq (by rfl) ?_
  show WP (evSs _ _ c__law_same [some (v, false), some (v, false), none, none, none]) _ _
  unfold c__law_same
  cases v with
  | non =>
    repeat walk_at "g"
    refine cmp_of (v := .non) (w := .non) (b := true) rfl rfl rfl ?_
    repeat walk_at "g"
    refine cmp_of (v := .non) (w := .non) (b := true) rfl rfl rfl ?_
    repeat walk_at "g"
    refine cmp_of (v := .non) (w := .non) (b := true) rfl rfl rfl ?_
    repeat walk_at "g"
    exact out_fz rfl rfl
  | bl b =>
    repeat walk_at "g"
    refine cmp_of (v := .bl b) (w := .non) (b := false) rfl rfl rfl ?_
    repeat walk_at "g"
    refine cmp_of (v := .bl b) (w := .non) (b := false) rfl rfl rfl ?_
    repeat walk_at "g"
    refine cmp_neBB ?_
    repeat walk_at "g"
    refine cmp_neBB ?_
    repeat walk_at "g"
    refine cmp_eqB ?_
    repeat walk_at "g"
    refine cmp_of (v := .bl b) (w := .bl b) (b := true) rfl rfl (eqv_atom (v := .bl b) rfl rfl (fun _ z => nomatch z) fun _ z => nomatch z) ?_
    exact out_fz rfl rfl
  | int b =>
    repeat walk_at "g"
    refine cmp_of (v := .int b) (w := .non) (b := false) rfl rfl rfl ?_
    repeat walk_at "g"
    refine cmp_of (v := .int b) (w := .non) (b := false) rfl rfl rfl ?_
    repeat walk_at "g"
    refine cmp_neBB ?_
    repeat walk_at "g"
    refine cmp_neBB ?_
    repeat walk_at "g"
    refine cmp_eqB ?_
    repeat walk_at "g"
    rw [decide_eq_true rfl]
    exact out_fz rfl rfl
  | str b =>
    repeat walk_at "g"
    refine cmp_of (v := .str b) (w := .non) (b := false) rfl rfl rfl ?_
    repeat walk_at "g"
    refine cmp_of (v := .str b) (w := .non) (b := false) rfl rfl rfl ?_
    repeat walk_at "g"
    refine cmp_neBB ?_
    repeat walk_at "g"
    refine cmp_neBB ?_
    repeat walk_at "g"
    refine cmp_eqB ?_
    repeat walk_at "g"
    refine cmp_of (v := .str b) (w := .str b) (b := true) rfl rfl (eqv_atom (v := .str b) hv rfl (fun _ z => nomatch z) fun _ z => nomatch z) ?_
    exact out_fz rfl rfl
  | tup xs => exact absurd (show Val.deps xs + 1 = 0 from h0) (by omega)
  | lst xs => exact absurd (show Val.deps xs + 1 = 0 from h0) (by omega)
  | _ => cases hv
theorem same_ok [HasFn T "_law_same" k__law_same] {n : Nat} : ∀ (d : Nat) {v : Val}, v.sm = true → v.dep ≤ d → callN T (n + d + 1) "_law_same" [v, v] = .ok (.bl true) [] := by
  intro d
  induction d with
  | zero =>
    intro v hv hd
    exact same_atom hv (by omega)
  | succ d ih =>
    intro v hv hd
    have atom : v.dep = 0 → callN T (n + (d + 1) + 1) "_law_same" [v, v] = .ok (.bl true) [] := fun h0 => same_atom (n := n + (d + 1)) hv h0
    cases v with
    | tup xs =>
      have hv : (Val.sms xs && decide (xs.length ≤ 1000000)) = true := hv
      rw [Bool.and_eq_true] at hv
      have hl : xs.length ≤ 1000000 := of_decide_eq_true hv.2
      have hd : Val.deps xs + 1 ≤ d + 1 := hd
      refine call_of (fun c => c = _) HasFn.eq (by rfl) ?_
      show WP (evSs _ _ c__law_same [some (.tup xs, false), some (.tup xs, false), none, none, none]) _ _
      unfold c__law_same
      repeat walk_at "g"
      refine cmp_neBB ?_
      repeat walk_at "g"
      refine cmp_neBB ?_
      repeat walk_at "g"
      rw [decide_eq_true rfl]
      repeat walk_at "g"
      refine w_compM (as := xs) (g := fun x => .tup [x, x]) (f := fun _ => .bl true) (ρ1 := [some (.tup xs, false), some (.tup xs, false), none, none, none]) ?_ (by show _ ≤ 16777216; omega) ?_ ?_
      · repeat walk_at "g"
        exact ⟨_, rfl, items_fz rfl ⟨zip_self xs, rfl⟩⟩
      · intro x hx
        refine ⟨_, rfl, ?_⟩
        refine w_callP ?_
        refine evs_cons (w_fz rfl (evs_cons (w_fz rfl (evs_nil ?_))))
        exact ⟨_, .bl true, [], rfl, rfl, rfl, ih (sms_mem hv.1 hx) (deps_mem (by omega) hx), rfl, FZ_fz ⟨rfl, rfl⟩⟩
      · repeat walk_at "g"
        refine (out_fz rfl rfl).trans ?_
        simp
    | lst xs =>
      have hv : (Val.sms xs && decide (xs.length ≤ 1000000)) = true := hv
      rw [Bool.and_eq_true] at hv
      have hl : xs.length ≤ 1000000 := of_decide_eq_true hv.2
      have hd : Val.deps xs + 1 ≤ d + 1 := hd
      refine call_of (fun c => c = _) HasFn.eq (by rfl) ?_
      show WP (evSs _ _ c__law_same [some (.lst xs, false), some (.lst xs, false), none, none, none]) _ _
      unfold c__law_same
      repeat walk_at "g"
      refine cmp_neBB ?_
      repeat walk_at "g"
      refine cmp_neBB ?_
      repeat walk_at "g"
      rw [decide_eq_true rfl]
      repeat walk_at "g"
      refine w_compM (as := xs) (g := fun x => .tup [x, x]) (f := fun _ => .bl true) (ρ1 := [some (.lst xs, false), some (.lst xs, false), none, none, none]) ?_ (by show _ ≤ 16777216; omega) ?_ ?_
      · repeat walk_at "g"
        exact ⟨_, rfl, items_fz rfl ⟨zip_self xs, rfl⟩⟩
      · intro x hx
        refine ⟨_, rfl, ?_⟩
        refine w_callP ?_
        refine evs_cons (w_fz rfl (evs_cons (w_fz rfl (evs_nil ?_))))
        exact ⟨_, .bl true, [], rfl, rfl, rfl, ih (sms_mem hv.1 hx) (deps_mem (by omega) hx), rfl, FZ_fz ⟨rfl, rfl⟩⟩
      · repeat walk_at "g"
        refine (out_fz rfl rfl).trans ?_
        simp
    | non => exact atom rfl
    | bl b => exact atom rfl
    | int b => exact atom rfl
    | str b => exact atom rfl
    | _ => cases hv
end
end Rv

/-! Rv, plain part: tables of scans. -/
namespace Rv
open PySem
theorem near_sms2 {p : List Int} {s : Int} (h : ∀ x ∈ p, -s ≤ x ∧ x ≤ s) (hs : s < 2 ^ 1000) : Sms p := fun x hx => sm_of 1000 (by have := h x hx; omega) (by decide)
theorem sms_add2 {p q : List Int} (hp : ∀ x ∈ p, x.natAbs < 2 ^ 1000) (hq : ∀ x ∈ q, x.natAbs < 2 ^ 1000) : Sms (add2 p q) := fun x hx => by
  unfold add2 at hx
  obtain ⟨⟨a, b⟩, hm, rfl⟩ := List.mem_map.mp hx
  have h1 := hp a (List.of_mem_zip hm).1
  have h2 := hq b (List.of_mem_zip hm).2
  exact sm_of 1001 (by show (a + b).natAbs < _; omega) (by decide)
def wordB (D : List Int) (t : Tree) (L : List (List Int)) (p : List Int) : List Bool := L.map fun l => t.before D (add2 p l) p
def scanWords (D : List Int) (t : Tree) (L : List (List Int)) : List (List Bool) := (List.range (prod D).toNat).map fun k : Nat => wordB D t L (restsI D k)
section
variable {T : Tab} {r : Str → List Val → CRes} {ρ : Env} {es : List Ex} {Q : R → Env → Prop} {E : Val → Env → Prop} {f m k : Str}
theorem ite_fu {C : Ctx} {b : Bool} (h : Q ⟨.str (fu b), .fz⟩ ρ) : ITE b (WP (evE C (.con (.str "f")) ρ) Q E) (WP (evE C (.con (.str "u")) ρ) Q E) := by
  cases b
  · exact w_con h
  · exact w_con h
/-- a property of a named instance -/
theorem w_prpL {i : Nat} {ns : List Str} {vs : List Val} {o : Bool} {g : Str} {c : FnCode} {w : Val} (e : lookS ρ i = some (.ins k ns vs, o)) (P : T.prop k f = some g) (G : T.code g = some c) (hm : c.info.modes = [false]) (hf : c.info.fresh = false) (hr : r g [.ins k ns vs] = .ok w []) (h : Q ⟨w, .fz⟩ (ρ.set i (some (.ins k ns vs, false)))) : WP (evE (T.ctx r) (.prp (.loc i) f) ρ) Q E := by
  refine w_prp (w_locFZ e rfl ?_)
  exact ⟨k, ns, vs, g, c, w, rfl, P, G, hm, hf, hr, h⟩
theorem scan_divisors_ok [HasFn T "Scan.divisors" k_Scan_divisors] [HasProp T "Scan" "divisors" "Scan.divisors"] [ScanFld T] {n : Nat} {D : List Int} {t : Tree} : callN T (n + 1) "Scan.divisors" [scanV D t] = .ok (tupI D) [] := by
  refine call_of (fun c => c = _) HasFn.eq (by rfl) ?_
  show WP (evSs _ _ c_Scan_divisors [some (scanV D t, false)]) _ _
  unfold c_Scan_divisors
  repeat walk_at "g"
  exact out_fz rfl rfl
theorem scan_directions_ok [HasFn T "Scan.directions" k_Scan_directions] [HasProp T "Scan" "directions" "Scan.directions"] [ScanFld T] {n : Nat} {D : List Int} {t : Tree} : callN T (n + 1) "Scan.directions" [scanV D t] = .ok (.int D.length) [] := by
  refine call_of (fun c => c = _) HasFn.eq (by rfl) ?_
  show WP (evSs _ _ c_Scan_directions [some (scanV D t, false)]) _ _
  unfold c_Scan_directions
  repeat walk_at "g"
  refine (out_fz rfl rfl).trans ?_
  rw [List.length_map]
theorem word_of_ok [HasFn T "is_number" k_is_number] [HasFn T "are_numbers" k_are_numbers] [HasFn T "times" k_times] [HasFn T "need_place" k_need_place] [HasFn T "class_at" k_class_at] [HasFn T "group_at" k_group_at] [HasFn T "sign_of" k_sign_of] [HasFn T "Scan.__call__" k_Scan___call__] [HasFn T "plus" k_plus] [HasFn T "word_of" k_word_of] [HasCon T "LEAF" (.tup [.str "places"])] [HasMeth T "Scan" "__call__" "Scan.__call__"] [ScanFld T] {n : Nat} {D p : List Int} {t : Tree} {L : List (List Int)} (h : ScanOk D t) (hf : 1000 < T.fuel) (hL : ∀ l ∈ L, l.length = D.length ∧ ∀ x ∈ l, x.natAbs < 2 ^ 1000) (hl : L.length ≤ 1000) (hp : p.length = D.length) (hs : ∀ x ∈ p, x.natAbs < 2 ^ 1000) :
    callN T (n + 5) "word_of" [scanV D t, lsV L, tupI p] = .ok (.str (wS (wordB D t L p))) [] := by
  have l3 := h.dok.l3
  refine call_of (fun c => c = _) HasFn.eq (by rfl) ?_
  show WP (evSs _ _ c_word_of [some (scanV D t, false), some (lsV L, false), some (tupI p, false), none]) _ _
  unfold c_word_of
  repeat walk_at "g"
  refine w_compM (as := L) (g := tupI) (f := fun l => .str (fu (t.before D (add2 p l) p))) (ρ1 := [some (scanV D t, false), some (lsV L, false), some (tupI p, false), none]) ?_ (by show _ ≤ 16777216; omega) ?_ ?_
  · repeat walk_at "g"
    exact items_fz rfl ⟨rfl, rfl⟩
  · intro l hlm
    obtain ⟨h1, h2⟩ := hL l hlm
    refine ⟨_, rfl, ?_⟩
    repeat walk_at "g"
    refine w_scanO (n := n) (o := false) (one := add2 p l) (other := p) h hf rfl ?_
    repeat walk_at "g"
    refine call_v (pplus_ok (n := n + 3) (xs := p) (ys := l) (by rw [hp]; show _ ≤ 16777216; omega)) rfl rfl rfl ?_
    refine ⟨rfl, ?_⟩
    repeat walk_at "g"
    refine ⟨rfl, ⟨by rw [add2_len (by omega), hp], hp, sms_add2 hs h2, fun x hx => sm_of 1000 (hs x hx) (by decide)⟩, ?_⟩
    repeat walk_at "g"
    refine ite_fu ?_
    repeat walk_at "g"
    exact ⟨rfl, rfl⟩
  · repeat walk_at "g"
    refine ⟨.str (wS (wordB D t L p)), ?_, ?_⟩
    · have := join_fu (wordB D t L p) (by unfold wordB; rw [List.length_map]; exact hl)
      unfold wordB at this
      rw [List.map_map] at this
      exact this
    · repeat walk_at "g"
      exact out_fz rfl rfl
theorem rests_sm {D : List Int} (hD : Dok D) (h12 : prod D ≤ 12) (k : Int) : ∀ x ∈ restsI D k, x.natAbs < 2 ^ 1000 := fun x hx => by
  have := rests_bd D hD.pos k x hx
  have : x.natAbs ≤ 12 := by omega
  exact Nat.lt_of_le_of_lt this (by decide)
theorem looks_sm {k : Nat} {L : List (List Int)} (hL : Looks k L) : ∀ l ∈ L, l.length = k ∧ ∀ x ∈ l, x.natAbs < 2 ^ 1000 := fun l hl => ⟨hL.len l hl, fun x hx => by
  have := hL.bd l hl x hx
  have : x.natAbs ≤ 9 := by omega
  exact Nat.lt_of_le_of_lt this (by decide)⟩
theorem scanTab_ok {D : List Int} {t : Tree} {L : List (List Int)} (h : ScanOk D t) (hL : Looks D.length L) : TabOk D L (scanWords D t L) where
  dok := h.dok
  le := h.le
  looks := hL
  wl := by
    have := prod_pos h.dok.pos
    unfold scanWords
    rw [List.length_map, List.length_range]; omega
  ww := fun w hw => by
    unfold scanWords at hw
    obtain ⟨k, _, rfl⟩ := List.mem_map.mp hw
    exact List.length_map _
theorem table_of_ok [HasFn T "is_number" k_is_number] [HasFn T "are_numbers" k_are_numbers] [HasFn T "times" k_times] [HasFn T "need_place" k_need_place] [HasFn T "cell_count" k_cell_count] [HasFn T "class_count" k_class_count] [HasFn T "class_at" k_class_at] [HasFn T "group_at" k_group_at] [HasFn T "sign_of" k_sign_of] [HasFn T "Scan.__call__" k_Scan___call__] [HasFn T "plus" k_plus] [HasFn T "is_look" k_is_look] [HasFn T "need_looks" k_need_looks] [HasFn T "rests_at" k_rests_at] [HasFn T "Scan.divisors" k_Scan_divisors] [HasFn T "Scan.directions" k_Scan_directions] [HasFn T "is_word" k_is_word] [HasFn T "word_of" k_word_of] [HasFn T "Table.__init__" k_Table___init__] [HasFn T "Table.of" k_Table_of] [HasFn T "Table.divisors" k_Table_divisors] [HasCon T "MAX_DIRECTIONS" (.int 3)] [HasCon T "MAX_CLASSES" (.int 12)] [HasCon T "LEAF" (.tup [.str "places"])] [HasCon T "MAX_LOOKS" (.int 4)] [HasCon T "MAX_REACH" (.int 9)] [HasMeth T "Scan" "__call__" "Scan.__call__"] [HasProp T "Scan" "divisors" "Scan.divisors"] [HasProp T "Scan" "directions" "Scan.directions"] [HasMeth T "Table" "__init__" "Table.__init__"] [HasProp T "Table" "divisors" "Table.divisors"] [ScanFld T] [TabFld T] {n : Nat} {D : List Int} {t : Tree} {L : List (List Int)} (h : ScanOk D t) (hf : 1000 < T.fuel) (hL : Looks D.length L) :
    callN T (n + 6) "Table.of" [.glb "Table", scanV D t, lsV L] = .ok (tabV D L (scanWords D t L)) [] := by
  have hD := h.dok
  have l3 := hD.l3
  have h12 := h.le
  have hpp := prod_pos hD.pos
  have htb := scanTab_ok h hL
  refine call_of (fun c => c = _) HasFn.eq (by rfl) ?_
  show WP (evSs _ _ c_Table_of [some (.glb "Table", false), some (scanV D t, false), some (lsV L, false), none, none, none]) _ _
  unfold c_Table_of
  repeat walk_at "g"
  refine w_prpL rfl HasProp.eq HasFn.eq rfl rfl (scan_directions_ok (n := n + 4)) ?_
  repeat walk_at "g"
  refine call_v (v := .non) (need_looks_ok (T := T) (n := n + 1) l3 hL) rfl rfl rfl ?_
  repeat walk_at "g"
  refine w_compM (as := List.range (prod D).toNat) (g := fun k : Nat => .int k) (f := fun k : Nat => tupI (restsI D k)) (ρ1 := [some (.glb "Table", false), some (scanV D t, false), some (lsV L, false), none, none, none]) ?_ (by rw [List.length_range]; show _ ≤ 16777216; omega) ?_ ?_
  · repeat walk_at "g"
    refine w_prpL rfl HasProp.eq HasFn.eq rfl rfl (scan_divisors_ok (n := n + 4)) ?_
    repeat walk_at "g"
    refine call_v (cell_count_ok (n := n + 4) hD.pos (by omega)) rfl rfl rfl ?_
    exact ⟨_, _, rfl, range_int (by omega) (by omega), items_fz rfl ⟨rfl, rfl⟩⟩
  · intro j hj
    refine ⟨_, rfl, ?_⟩
    repeat walk_at "g"
    refine w_prpL rfl HasProp.eq HasFn.eq rfl rfl (scan_divisors_ok (n := n + 4)) ?_
    repeat walk_at "g"
    refine call_v (rests_at_ok (n := n + 4) hD) rfl rfl rfl ?_
    repeat walk_at "g"
    exact ⟨rfl, rfl⟩
  · repeat walk_at "g"
    refine w_callK rfl ?_
    refine w_callC (ms := [false, false, false]) rfl ?_
    repeat walk_at "g"
    refine w_prpL rfl HasProp.eq HasFn.eq rfl rfl (scan_divisors_ok (n := n + 4)) ?_
    repeat walk_at "g"
    refine w_compM (as := List.range (prod D).toNat) (g := fun k : Nat => tupI (restsI D k)) (f := fun k : Nat => .str (wS (wordB D t L (restsI D k)))) (ρ1 := [some (.glb "Table", false), some (scanV D t, false), some (lsV L, false), some (.lst ((List.range (prod D).toNat).map fun k : Nat => tupI (restsI D k)), false), none, none]) ?_ (by rw [List.length_range]; show _ ≤ 16777216; omega) ?_ ?_
    · repeat walk_at "g"
      exact items_var rfl rfl ⟨rfl, rfl⟩
    · intro j hj
      refine ⟨_, rfl, ?_⟩
      repeat walk_at "g"
      refine call_v (word_of_ok (n := n) h hf (looks_sm hL) (by have := hL.l4; omega) (restsI_len D _) (rests_sm hD h12 _)) rfl rfl rfl ?_
      repeat walk_at "g"
      exact ⟨rfl, rfl⟩
    · repeat walk_at "g"
      have e : (List.range (prod D).toNat).map (fun k : Nat => Val.str (wS (wordB D t L (restsI D k)))) = (scanWords D t L).map fun w => .str (wS w) := by
        unfold scanWords
        rw [List.map_map]
        rfl
      rw [e]
      refine make_okP rfl rfl rfl rfl (table_init_ok (n := n) hD h12 hL htb.wl htb.ww) rfl ?_
      exact out_fr rfl rfl
end
/-! ### what a scan's table says -/
theorem add2_comm : ∀ {a b : List Int}, add2 a b = add2 b a
  | [], b => by cases b <;> rfl
  | a :: as, [] => rfl
  | x :: a, y :: b => by rw [add2_cons, add2_cons, add2_comm (a := a), Int.add_comm]
theorem add2_assoc' : ∀ {a b c : List Int}, add2 (add2 a b) c = add2 a (add2 b c)
  | [], b, c => rfl
  | x :: a, [], c => by cases c <;> rfl
  | x :: a, y :: b, [] => rfl
  | x :: a, y :: b, z :: c => by rw [add2_cons, add2_cons, add2_cons, add2_cons, add2_assoc', Int.add_assoc]
theorem add2_neg : ∀ {a l : List Int}, a.length = l.length → add2 (add2 a l) (neg1 l) = a
  | [], [], _ => rfl
  | x :: a, y :: l, h => by
    show add2 (add2 (x :: a) (y :: l)) (-y :: neg1 l) = _
    rw [add2_cons, add2_cons, add2_neg (by simpa using h)]
    congr 1
    omega
theorem add2_fix : ∀ {a l : List Int}, a.length = l.length → a = add2 a l → l = List.replicate l.length 0
  | [], [], _, _ => rfl
  | x :: a, y :: l, h, e => by
    rw [add2_cons] at e
    injection e with e1 e2
    have := add2_fix (a := a) (l := l) (by simpa using h) e2
    rw [List.length_cons, List.replicate_succ, ← this]
    congr 1
    omega
theorem sees_scan {D q l : List Int} {t : Tree} {L : List (List Int)} (h : ScanOk D t) (hL : Looks D.length L) (hq : q.length = D.length) (hl : l ∈ L) : seesB D L (scanWords D t L) q l = t.before D (add2 q l) q := by
  have hD := h.dok
  have hb := clsAt_bd hD hq
  have hll := hL.len l hl
  obtain ⟨f, hf, e⟩ := rests_move D hD.pos q hq
  unfold seesB
  have h1 : (scanWords D t L)[(clsAt D q).toNat]? = some (wordB D t L (restsI D (clsAt D q))) := by
    unfold scanWords
    rw [List.getElem?_map, List.getElem?_range (by omega)]
    show some (wordB D t L (restsI D ((clsAt D q).toNat : Int))) = _
    rw [Int.toNat_of_nonneg hb.1]
  rw [List.getD_eq_getElem?_getD, List.getD_eq_getElem?_getD, h1, Option.getD_some]
  unfold wordB
  rw [List.getElem?_map, ixOf_get hl]
  show t.before D (add2 (restsI D (clsAt D q)) l) (restsI D (clsAt D q)) = _
  rw [e]
  have e2 : add2 (add2 q f) l = add2 (add2 q l) f := by rw [add2_assoc', add2_comm (a := f), ← add2_assoc']
  rw [e2]
  exact before_move hD h.wf (by rw [add2_len (by omega), hq]) hq hf
theorem scan_noclash {D : List Int} {t : Tree} {L : List (List Int)} (h : ScanOk D t) (hL : Looks D.length L) : ∀ (vs : List (List Bool)) (k : Nat), (∀ i w, vs[i]? = some w → w = wordB D t L (restsI D ((k + i : Nat) : Int))) → clashes D L (scanWords D t L) vs k = []
  | [], _, _ => rfl
  | w :: vs, k, hv => by
    show clashK D L (scanWords D t L) (restsI D k) (L.zip w) ++ clashes D L (scanWords D t L) vs (k + 1) = []
    rw [scan_noclash h hL vs (k + 1) fun i w' hw => by rw [hv (i + 1) w' hw]; congr 2; omega, List.append_nil]
    unfold clashK
    rw [List.filterMap_eq_nil_iff]
    rintro ⟨l, s⟩ hm
    have hw := hv 0 w rfl
    subst hw
    have hl : l ∈ L := (List.of_mem_zip hm).1
    have hll := hL.len l hl
    have hr := restsI_len D (k : Int)
    have hs : s = t.before D (add2 (restsI D (k : Int)) l) (restsI D (k : Int)) := by
      unfold wordB at hm
      have hz : ∀ {f : List Int → Bool} {L : List (List Int)}, (l, s) ∈ L.zip (L.map f) → s = f l := by
        intro f L
        induction L with
        | nil => intro h; cases h
        | cons x L ih =>
          intro h
          rw [List.map_cons, List.zip_cons_cons] at h
          rcases List.mem_cons.mp h with h | h
          · injection h with h1 h2
            rw [h2, h1]
          · exact ih h
      exact hz hm
    have hc : clashB D L (scanWords D t L) (restsI D (k : Int)) l s = false := by
      unfold clashB
      by_cases hn : neg1 l ∈ L
      · rw [decide_eq_true hn, Bool.true_and]
        have hpl : (add2 (restsI D (k : Int)) l).length = D.length := by rw [add2_len (by omega), hr]
        rw [sees_scan h hL hpl hn, add2_neg (by omega), hs]
        cases h1 : t.before D (restsI D (k : Int)) (add2 (restsI D (k : Int)) l) with
        | true =>
          cases h2 : t.before D (add2 (restsI D (k : Int)) l) (restsI D (k : Int)) with
          | true => exact (before_asymm h1 h2).elim
          | false => rfl
        | false =>
          cases h2 : t.before D (add2 (restsI D (k : Int)) l) (restsI D (k : Int)) with
          | true => rfl
          | false =>
            have := before_total h.dok h.wf hr hpl h1 h2
            have := add2_fix (by omega) this
            rw [hll] at this
            exact absurd this (hL.nz l hl)
      · rw [decide_eq_false hn, Bool.false_and]
    show (if clashB D L (scanWords D t L) (restsI D (k : Int)) l s = true then some (restsI D (k : Int), l) else none) = none
    rw [hc]
    rfl
theorem scan_clashes {D : List Int} {t : Tree} {L : List (List Int)} (h : ScanOk D t) (hL : Looks D.length L) : clashes D L (scanWords D t L) (scanWords D t L) 0 = [] := by
  refine scan_noclash h hL _ 0 fun i w hw => ?_
  unfold scanWords at hw
  obtain ⟨j, hj, e⟩ := Option.map_eq_some_iff.mp (by rw [List.getElem?_map] at hw; exact hw)
  have : j = i := by
    have h1 := (List.getElem?_eq_some_iff.mp hj)
    obtain ⟨h2, h3⟩ := h1
    rw [List.getElem_range] at h3
    exact h3.symm
  subst this
  rw [Nat.zero_add]
  exact e.symm
end Rv

/-! k20: the plain law. -/
namespace Rv
open PySem
theorem sm_tupI {xs : List Int} (h : xs.length ≤ 1000000) : (tupI xs).sm = true := by
  show (Val.sms (xs.map .int) && decide ((xs.map Val.int).length ≤ 1000000)) = true
  rw [sms_map fun _ _ => rfl, List.length_map, decide_eq_true h]
  rfl
theorem dep_pairV (p : List Int × List Int) : (pairV p).dep ≤ 2 := by
  have h1 := dep_tupI p.1
  have h2 := dep_tupI p.2
  show max (tupI p.1).dep (max (tupI p.2).dep 0) + 1 ≤ 2
  omega
theorem sm_pairs {ps : List (List Int × List Int)} (hl : ps.length ≤ 1000000) (h : ∀ p ∈ ps, p.1.length ≤ 1000000 ∧ p.2.length ≤ 1000000) : (Val.lst (ps.map pairV)).sm = true := by
  show (Val.sms (ps.map pairV) && decide ((ps.map pairV).length ≤ 1000000)) = true
  rw [List.length_map, decide_eq_true hl, sms_map fun p hp => ?_]
  · rfl
  · have := h p hp
    show ((tupI p.1).sm && ((tupI p.2).sm && true) && true) = true
    rw [sm_tupI this.1, sm_tupI this.2]
    rfl
theorem dep_pairs (ps : List (List Int × List Int)) : (Val.lst (ps.map pairV)).dep ≤ 3 := Nat.succ_le_succ (deps_map fun p _ => dep_pairV p)
theorem clashes_len (D : List Int) (L : List (List Int)) (ws : List (List Bool)) : ∀ (vs : List (List Bool)) (k : Nat), (clashes D L ws vs k).length ≤ L.length * vs.length
  | [], _ => Nat.le_refl _
  | w :: vs, k => by
    show (clashK D L ws (restsI D k) (L.zip w) ++ clashes D L ws vs (k + 1)).length ≤ _
    rw [List.length_append, List.length_cons, Nat.mul_add, Nat.mul_one]
    have h1 := clashes_len D L ws vs (k + 1)
    have h2 : (clashK D L ws (restsI D k) (L.zip w)).length ≤ (L.zip w).length := List.length_filterMap_le _ _
    rw [List.length_zip] at h2
    omega
theorem clashes_mem (D : List Int) (L : List (List Int)) (ws : List (List Bool)) : ∀ (vs : List (List Bool)) (k : Nat), ∀ p ∈ clashes D L ws vs k, p.1.length = D.length ∧ p.2 ∈ L
  | [], _, p, h => by cases h
  | w :: vs, k, p, h => by
    have h : p ∈ clashK D L ws (restsI D k) (L.zip w) ++ clashes D L ws vs (k + 1) := h
    rcases List.mem_append.mp h with h | h
    · unfold clashK at h
      obtain ⟨⟨l, s⟩, hm, e⟩ := List.mem_filterMap.mp h
      split at e
      · cases e
        exact ⟨restsI_len D _, (List.of_mem_zip hm).1⟩
      · cases e
    · exact clashes_mem D L ws vs (k + 1) p h
theorem fu_fu (a b : Bool) : decide (fu a = fu b) = (a == b) := by cases a <;> cases b <;> decide +kernel
theorem wS_ff : (.str "ff" : Val) = .str (wS [true, true]) := congrArg Val.str (by decide +kernel)
theorem tab_one : TabOk [1] [[1], [-1]] [[true, true]] where
  dok := ⟨by decide, by decide, by decide, by decide +kernel⟩
  le := by decide
  looks := ⟨by decide, by decide, by decide, by decide, by decide, by decide⟩
  wl := by decide
  ww := by decide
theorem clash_one : clashes [1] [[1], [-1]] [[true, true]] [[true, true]] 0 = [([0], [1]), ([0], [-1])] := by decide +kernel
section
variable {T : Tab}
theorem law20_ok [HasFn T "is_number" k_is_number] [HasFn T "are_numbers" k_are_numbers] [HasFn T "times" k_times] [HasFn T "need_place" k_need_place] [HasFn T "cell_count" k_cell_count] [HasFn T "class_count" k_class_count] [HasFn T "class_at" k_class_at] [HasFn T "is_parting" k_is_parting] [HasFn T "is_node" k_is_node] [HasFn T "below" k_below] [HasFn T "is_tree" k_is_tree] [HasFn T "node_count" k_node_count] [HasFn T "group_at" k_group_at] [HasFn T "sign_of" k_sign_of] [HasFn T "Scan.__init__" k_Scan___init__] [HasFn T "Scan.__call__" k_Scan___call__] [HasFn T "_law_bag" k__law_bag] [HasFn T "_law_pull" k__law_pull] [HasFn T "_law_of" k__law_of] [HasFn T "_law_mixed" k__law_mixed] [HasFn T "_law_count" k__law_count] [HasFn T "_law_plus" k__law_plus] [HasFn T "_law_divisors" k__law_divisors] [HasFn T "_law_parts" k__law_parts] [HasFn T "_law_tree" k__law_tree] [HasFn T "plus" k_plus] [HasFn T "is_look" k_is_look] [HasFn T "need_looks" k_need_looks] [HasFn T "opposite" k_opposite] [HasFn T "rests_at" k_rests_at] [HasFn T "Scan.divisors" k_Scan_divisors] [HasFn T "Scan.directions" k_Scan_directions] [HasFn T "is_word" k_is_word] [HasFn T "word_of" k_word_of] [HasFn T "Table.__init__" k_Table___init__] [HasFn T "Table.of" k_Table_of] [HasFn T "Table.divisors" k_Table_divisors] [HasFn T "Table.sees" k_Table_sees] [HasFn T "Table.clashes" k_Table_clashes] [HasFn T "_law_same" k__law_same] [HasFn T "_law_class" k__law_class] [HasFn T "_law_cells" k__law_cells] [HasFn T "_law_looks" k__law_looks] [HasFn T "_law_words" k__law_words] [HasFn T "law" k_law_k20] [HasCon T "MAX_DIRECTIONS" (.int 3)] [HasCon T "MAX_CLASSES" (.int 12)] [HasCon T "LEAF" (.tup [.str "places"])] [HasCon T "MAX_DEPTH" (.int 20)] [HasCon T "MAX_NODES" (.int 200)] [HasCon T "MAX_LOOKS" (.int 4)] [HasCon T "MAX_REACH" (.int 9)] [HasMeth T "Scan" "__init__" "Scan.__init__"] [HasMeth T "Scan" "__call__" "Scan.__call__"] [HasProp T "Scan" "divisors" "Scan.divisors"] [HasProp T "Scan" "directions" "Scan.directions"] [HasMeth T "Table" "__init__" "Table.__init__"] [HasCls T "Table" "of" "Table.of"] [HasProp T "Table" "divisors" "Table.divisors"] [HasMeth T "Table" "sees" "Table.sees"] [HasMeth T "Table" "clashes" "Table.clashes"] [ScanFld T] [TabFld T] (hf : 1000 < T.fuel) {ns : List Int} : callN T 14 "law" [.scr ns] = .ok (.bl true) [] := by
  refine call_of (fun c => c = _) HasFn.eq (by rfl) ?_
  show WP (evSs _ _ c_law_k20 [some (.scr ns, false), none, none, none, none, none, none, none, none, none, none, none, none, none, none, none, none, none]) _ _
  unfold c_law_k20
  obtain ⟨b0, hb0, h0⟩ := bag_ok (T := T) (n := 12) (ns := ns)
  repeat walk_at "g"
  refine call_l h0 rfl rfl rfl rfl ?_
  repeat walk_at "g"
  refine wp_for (fun rest ρ => ∃ (ks : List Nat) (b : Bag) (a2 a3 a4 a5 a6 a7 a8 a9 a10 a11 a12 a13 a14 a15 a16 : Option (Val × Bool)), rest = ks.map (fun k : Nat => .int k) ∧ b.Ok ∧ ρ = [some (.scr ns, false), some (b.v, true), a2, a3, a4, a5, a6, a7, a8, a9, a10, a11, a12, a13, a14, a15, a16, none]) ?_ ?_ ?_
  · repeat walk_at "g"
    exact ⟨_, _, rfl, range_nat (n := 6) (by decide), items_fz rfl ⟨_, b0, none, none, none, none, none, none, none, none, none, none, none, none, none, none, none, rfl, hb0, rfl⟩⟩
  · rintro x rest ρ ⟨ks, b, a2, a3, a4, a5, a6, a7, a8, a9, a10, a11, a12, a13, a14, a15, a16, e1, hb, rfl⟩
    cases ks with
    | nil => cases e1
    | cons j ks =>
      cases e1
      refine ⟨_, rfl, ?_⟩
      obtain ⟨r, b2, r0, r1, hb2, hp⟩ := pull_ok (T := T) (n := 12) hb (amt := 3) (by decide) (by decide)
      obtain ⟨D, b3, hDv, hb3, h3⟩ := divisors_ok (T := T) (n := 10) hb2 (k := 1 + r) (by omega) (by omega)
      have hlen := hDv.len
      have hD : Dok D := ⟨by omega, by omega, hDv.pos, by have := hDv.le; omega⟩
      have l3 := hD.l3
      have h12 := hDv.le
      have hpp := prod_pos hD.pos
      obtain ⟨L0, b4, hL0, hb4, h4⟩ := law_looks_ok (T := T) (n := 10) hb3 (k := D.length) (by omega) l3
      rw [hlen] at h4
      repeat walk_at "g"
      refine call_b hp rfl rfl rfl ?_
      repeat walk_at "g"
      refine call_b h3 rfl rfl rfl ?_
      repeat walk_at "g"
      refine call_b h4 rfl rfl rfl ?_
      repeat walk_at "g"
      refine ⟨none, rfl, ?_⟩
      repeat walk_at "g"
      refine ⟨some 2, _, .lst ((L0.take 2).map tupI), rfl, rfl, ?_, ?_⟩
      · show some (Val.lst (cut (L0.map tupI) none (some ((2 : Nat) : Int)))) = _
        rw [cut_take, List.map_take]
      refine KEEP_fr ?_
      repeat walk_at "g"
      have hT0 : (L0.take 2).length ≤ 2 := by rw [List.length_take]; omega
      have hT1 : 1 ≤ (L0.take 2).length := by rw [List.length_take]; have := hL0.l1; omega
      refine wp_for (fun rest ρ => ∃ (suf L : List (List Int)) (b : Bag) (a6 a7 : Option (Val × Bool)), rest = suf.map tupI ∧ b.Ok ∧ 1 ≤ L.length ∧ L.length + suf.length ≤ 4 ∧ (∀ l ∈ suf, l ∈ L) ∧ (∀ l ∈ L, l.length = D.length ∧ (∀ x ∈ l, -9 ≤ x ∧ x ≤ 9) ∧ l ≠ List.replicate D.length 0) ∧ L.Nodup ∧ ρ = [some (.scr ns, false), some (b.v, true), some (.int j, false), some (.int (1 + r), false), some (tupI D, false), some (lsV L, true), a6, a7, a8, a9, a10, a11, a12, a13, a14, a15, a16, none]) ?_ ?_ ?_
      · repeat walk_at "g"
        refine items_fr rfl ⟨L0.take 2, L0.take 2, b4, a6, a7, rfl, hb4, hT1, by omega, fun _ h => h, fun l h => ?_, hL0.nd.sublist (List.take_sublist _ _), rfl⟩
        have hm := List.mem_of_mem_take h
        exact ⟨hL0.len l hm, hL0.bd l hm, hL0.nz l hm⟩
      · rintro x rest ρ ⟨suf, L, b, a6, a7, e1, hb, hl1, hl, hs, hL, hn, rfl⟩
        cases suf with
        | nil => cases e1
        | cons l suf =>
          cases e1
          obtain ⟨hll, hlb, hlz⟩ := hL l (hs l List.mem_cons_self)
          rw [List.length_cons] at hl
          refine ⟨_, rfl, ?_⟩
          repeat walk_at "g"
          unfold tupI
          refine w_compM (as := l) (g := .int) (f := fun x => .int (-x)) (ρ1 := [some (.scr ns, false), some (b.v, true), some (.int j, false), some (.int (1 + r), false), some (tupI D, false), some (lsV L, true), some (tupI l, false), a7, a8, a9, a10, a11, a12, a13, a14, a15, a16, none]) ?_ (by show _ ≤ 16777216; omega) ?_ ?_
          · repeat walk_at "g"
            exact items_fz rfl ⟨rfl, rfl⟩
          · intro a ha
            refine ⟨_, rfl, ?_⟩
            repeat walk_at "g"
            refine ⟨a, rfl, ?_⟩
            repeat walk_at "g"
            exact ⟨rfl, rfl⟩
          · have en : Val.tup (l.map fun x => Val.int (-x)) = tupI (neg1 l) := by
              unfold tupI neg1
              rw [List.map_map]
              rfl
            repeat walk_at "g"
            rw [en]
            obtain ⟨c0, hc0, hi⟩ := inL_good (v := tupI (neg1 l)) (ws := L.map tupI) (good_tupI _) (good_ls L) (by have := dep_tupI (neg1 l); omega)
            refine cmp_of (v := tupI (neg1 l)) (w := lsV L) (b := !c0) rfl rfl (by show (inL (tupI (neg1 l)) (L.map tupI)).map not = _; rw [hc0]; rfl) ?_
            repeat walk_at "g"
            cases c0 with
            | true =>
              repeat walk_at "g"
              exact ⟨suf, L, b, some (tupI l, false), some (tupI (neg1 l), false), rfl, hb, hl1, by omega, fun x hx => hs x (List.mem_cons_of_mem _ hx), hL, hn, rfl⟩
            | false =>
              have hnm : neg1 l ∉ L := fun z => by have := hi.mpr (lsV_mem.mpr z); cases this
              obtain ⟨q, b6, q0, q1, hb6, hc⟩ := pull_ok (T := T) (n := 12) hb (amt := 3) (by decide) (by decide)
              repeat walk_at "g"
              refine call_b hc rfl rfl rfl ?_
              repeat walk_at "g"
              refine ITE_of (fun hq => ?_) (fun hq => ?_)
              · repeat walk_at "g"
                refine lm_append rfl (by rw [List.length_map]; show _ < 16777216; omega) ?_
                repeat walk_at "g"
                refine ⟨suf, L ++ [neg1 l], b6, some (tupI l, false), some (tupI (neg1 l), false), rfl, hb6, by rw [List.length_append]; omega, by rw [List.length_append, List.length_singleton]; omega, fun x hx => List.mem_append_left _ (hs x (List.mem_cons_of_mem _ hx)), fun l' h' => ?_, ?_, ?_⟩
                · rcases List.mem_append.mp h' with h' | h'
                  · exact hL l' h'
                  · rw [List.mem_singleton.mp h']
                    refine ⟨by rw [neg1_len, hll], fun x hx => ?_, fun z => hlz ?_⟩
                    · unfold neg1 at hx
                      obtain ⟨y, hy, rfl⟩ := List.mem_map.mp hx
                      have := hlb y hy
                      omega
                    · have : neg1 (neg1 l) = neg1 (List.replicate D.length 0) := congrArg neg1 z
                      unfold neg1 at this
                      rw [List.map_map, List.map_replicate] at this
                      rw [show ((fun x : Int => -x) ∘ fun x => -x) = id by funext x; simp, List.map_id] at this
                      exact this
                · rw [List.nodup_append]
                  exact ⟨hn, nodup_one _, fun a ha b hb' z => hnm (by rw [← List.mem_singleton.mp hb', ← z]; exact ha)⟩
                · show _ = [_, _, _, _, _, some (Val.lst ((L ++ [neg1 l]).map tupI), true), _, _, _, _, _, _, _, _, _, _, _, _]
                  rw [List.map_append]
                  rfl
              · repeat walk_at "g"
                exact ⟨suf, L, b6, some (tupI l, false), some (tupI (neg1 l), false), rfl, hb6, hl1, by omega, fun x hx => hs x (List.mem_cons_of_mem _ hx), hL, hn, rfl⟩
      · rintro ρ ⟨suf, L, b, a6, a7, e1, hb, hl1, hl, hs, hL, hn, rfl⟩
        have hLk : Looks D.length L := ⟨fun l h => (hL l h).1, fun l h => (hL l h).2.1, fun l h => (hL l h).2.2, hn, hl1, by omega⟩
        have hl4 := hLk.l4
        obtain ⟨m, hm⟩ : ∃ m : Nat, prod D = m := ⟨(prod D).toNat, by omega⟩
        obtain ⟨ws, b7, hw1, hw2, hb7, h7⟩ := law_words_ok (T := T) (n := 11) hb (m := m) (by omega) (L := L) (by omega)
        have hT : TabOk D L ws := ⟨hD, h12, hLk, by rw [hw1, hm], hw2⟩
        obtain ⟨t, b8, ht, hb8, h8⟩ := law_tree_ok (T := T) hD h12 (n := 7) 3 (by decide) hb7
        have hsc := ht.scan hDv (by omega) (by omega) (by decide)
        repeat walk_at "g"
        refine call_v (count_ok (n := 12) hD.pos (by omega)) rfl rfl rfl ?_
        rw [hm]
        repeat walk_at "g"
        refine call_b h7 rfl rfl rfl ?_
        repeat walk_at "g"
        refine wp_for (fun rest ρ => ∃ (pre suf : List (List Bool)) (acc : List (List Int × List Int)) (a7 a11 a12 a13 : Option (Val × Bool)), ws = pre ++ suf ∧ rest = (List.range' pre.length suf.length).map (fun k : Nat => tupI (restsI D k)) ∧ acc.length ≤ 4 * pre.length ∧ acc ++ clashes D L ws suf pre.length = clashes D L ws ws 0 ∧ ρ = [some (.scr ns, false), some (b7.v, true), some (.int j, false), some (.int (1 + r), false), some (tupI D, false), some (lsV L, false), a6, a7, some (.int m, false), some (.lst (ws.map fun w => .str (wS w)), false), some (.lst (acc.map pairV), true), a11, a12, a13, a14, a15, a16, none]) ?_ ?_ ?_
        · repeat walk_at "g"
          refine call_v (cells_ok (n := 12) hD (by omega)) rfl rfl rfl ?_
          refine items_fz rfl ⟨[], ws, [], a7, a11, a12, a13, rfl, ?_, Nat.zero_le _, rfl, rfl⟩
          rw [cells_eq hD.pos, List.map_map, hm, hw1]
          show _ = (List.range' 0 m).map _
          rw [← List.range_eq_range', Int.toNat_natCast]
          rfl
        · rintro x rest ρ ⟨pre, suf, acc, a7, a11, a12, a13, g1, g2, hc, he, rfl⟩
          cases suf with
          | nil => cases g2
          | cons w suf =>
            rw [List.length_cons, List.range'_succ] at g2
            cases g2
            refine ⟨_, rfl, ?_⟩
            have hpm : pre.length < m := by
              have := congrArg List.length g1
              rw [List.length_append, List.length_cons] at this
              omega
            have hwl : w.length = L.length := hw2 w (by rw [g1]; exact List.mem_append_right _ List.mem_cons_self)
            have hwk : ws[pre.length]? = some w := by rw [g1, List.getElem?_append_right (Nat.le_refl _), Nat.sub_self]; rfl
            have hrl := restsI_len D (pre.length : Int)
            repeat walk_at "g"
            refine wp_for (fun rest ρ => ∃ (qp qs : List (List Int × Bool)) (a7 a12 a13 : Option (Val × Bool)), L.zip w = qp ++ qs ∧ rest = (List.range' qp.length qs.length).map (fun k : Nat => .int k) ∧ ρ = [some (.scr ns, false), some (b7.v, true), some (.int j, false), some (.int (1 + r), false), some (tupI D, false), some (lsV L, false), a6, a7, some (.int m, false), some (.lst (ws.map fun w => .str (wS w)), false), some (.lst ((acc ++ clashK D L ws (restsI D pre.length) qp).map pairV), true), some (tupI (restsI D pre.length), false), a12, a13, a14, a15, a16, none]) ?_ ?_ ?_
            · repeat walk_at "g"
              refine ⟨_, _, rfl, range_nat (n := (L.map tupI).length) (by rw [List.length_map]; omega), items_fz rfl ⟨[], L.zip w, a7, a12, a13, rfl, ?_, ?_⟩⟩
              · rw [List.length_zip, hwl, Nat.min_self, List.length_map, List.range_eq_range']
                rfl
              · rw [show clashK D L ws (restsI D pre.length) [] = [] from rfl, List.append_nil]
                rfl
            · rintro x rest ρ ⟨qp, qs, a7, a12, a13, k1, k2, rfl⟩
              cases qs with
              | nil => cases k2
              | cons q qs =>
                rw [List.length_cons, List.range'_succ] at k2
                cases k2
                obtain ⟨l, s⟩ := q
                refine ⟨_, rfl, ?_⟩
                have hqm : (l, s) ∈ L.zip w := by rw [k1]; exact List.mem_append_right _ List.mem_cons_self
                have hq : (L.zip w)[qp.length]? = some (l, s) := by rw [k1, List.getElem?_append_right (Nat.le_refl _), Nat.sub_self]; rfl
                obtain ⟨hq1, hq2⟩ : L[qp.length]? = some l ∧ w[qp.length]? = some s := by
                  rw [List.getElem?_zip_eq_some] at hq
                  exact hq
                have hlm : l ∈ L := (List.of_mem_zip hqm).1
                have hll := hLk.len l hlm
                have hql : qp.length ≤ 4 := by
                  have := (List.getElem?_eq_some_iff.mp hq1).1
                  omega
                have hal : (acc ++ clashK D L ws (restsI D pre.length) qp).length ≤ 1000 := by
                  rw [List.length_append]
                  have : (clashK D L ws (restsI D pre.length) qp).length ≤ qp.length := List.length_filterMap_le _ _
                  omega
                have hpl : (add2 (restsI D pre.length) l).length = D.length := by rw [add2_len (by omega), hrl]
                have hS : subv (lsV L) (.int qp.length) = some (tupI l) := atI_nat (v := tupI l) (by rw [List.getElem?_map, hq1]; rfl)
                repeat walk_at "g"
                refine w_compM (as := l) (g := .int) (f := fun x => .int (-x)) (ρ1 := [some (.scr ns, false), some (b7.v, true), some (.int j, false), some (.int (1 + r), false), some (tupI D, false), some (lsV L, false), a6, a7, some (.int m, false), some (.lst (ws.map fun w => .str (wS w)), false), some (.lst ((acc ++ clashK D L ws (restsI D pre.length) qp).map pairV), true), some (tupI (restsI D pre.length), false), some (.int qp.length, false), a13, a14, a15, a16, none]) ?_ (by show _ ≤ 16777216; omega) ?_ ?_
                · repeat walk_at "g"
                  refine sub_of rfl rfl hS ?_
                  repeat walk_at "g"
                  exact items_fz rfl ⟨rfl, rfl⟩
                · intro a ha
                  refine ⟨_, rfl, ?_⟩
                  repeat walk_at "g"
                  refine ⟨a, rfl, ?_⟩
                  repeat walk_at "g"
                  exact ⟨rfl, rfl⟩
                · have en : Val.tup (l.map fun x => Val.int (-x)) = tupI (neg1 l) := by
                    unfold tupI neg1
                    rw [List.map_map]
                    rfl
                  repeat walk_at "g"
                  rw [en]
                  refine sub_of rfl rfl hS ?_
                  repeat walk_at "g"
                  refine call_v (plus_ok (n := 12) (xs := restsI D pre.length) (ys := l) (by rw [hrl]; show _ ≤ 16777216; omega)) rfl rfl rfl ?_
                  repeat walk_at "g"
                  refine call_v (law_class_ok (n := 12) hD hpl) rfl rfl rfl ?_
                  repeat walk_at "g"
                  obtain ⟨c0, hc0, hi⟩ := inL_good (v := tupI (neg1 l)) (ws := L.map tupI) (good_tupI _) (good_ls L) (by have := dep_tupI (neg1 l); omega)
                  refine cmp_of (v := tupI (neg1 l)) (w := lsV L) (b := c0) rfl rfl hc0 ?_
                  repeat walk_at "g"
                  have hbd : c0 = decide (neg1 l ∈ L) := by rw [Bool.eq_iff_iff, hi, lsV_mem, decide_eq_true_iff]
                  refine ITE_of (fun hb => ?_) (fun hb => ?_)
                  · have hnm : neg1 l ∈ L := by rw [hbd] at hb; exact of_decide_eq_true hb
                    obtain ⟨w2, s2, y1, y2, y3, y4⟩ := hT.sees hpl hnm
                    have hcb := clsAt_bd hD hpl
                    repeat walk_at "g"
                    refine sub_of rfl rfl (atI_int (v := .str (wS w2)) hcb.1 (by rw [List.getElem?_map, y1]; rfl)) ?_
                    refine w_lix ?_
                    repeat walk_at "g"
                    refine ⟨L.map tupI, rfl, ?_⟩
                    repeat walk_at "g"
                    refine ⟨.int (ixOf L (neg1 l)), lix_good (v := tupI (neg1 l)) (good_tupI _) (good_ls L) (by have := dep_tupI (neg1 l); omega) (Nat.le_trans (deps_map (k := 1) fun x _ => dep_tupI x) (by decide)) (by rw [List.getElem?_map, ixOf_get hnm]; rfl) (fun i hi z => ?_), ?_⟩
                    · rw [List.getElem?_map] at z
                      obtain ⟨x, hx, e⟩ := Option.map_eq_some_iff.mp z
                      have := tupI_inj e
                      subst this
                      have := (List.getElem?_inj (List.getElem?_eq_some_iff.mp hx).1 hLk.nd).mp (hx.trans (ixOf_get hnm).symm)
                      omega
                    refine sub_of rfl rfl (sub_wS y2 (by omega)) ?_
                    repeat walk_at "g"
                    refine call_v (law_class_ok (n := 12) hD hrl) rfl rfl rfl ?_
                    rw [cls_rests D hD.pos _ (by omega) (by omega)]
                    refine sub_of rfl rfl (atI_nat (v := .str (wS w)) (by rw [List.getElem?_map, hwk]; rfl)) ?_
                    repeat walk_at "g"
                    refine sub_of rfl rfl (sub_wS hq2 (by omega)) ?_
                    refine cmp_str (ok_fu _) (ok_fu _) ?_
                    rw [fu_fu, y4]
                    repeat walk_at "g"
                    refine ITE_of (fun hs => ?_) (fun hs => ?_)
                    · repeat walk_at "g"
                      refine sub_of rfl rfl hS ?_
                      repeat walk_at "g"
                      refine lm_append rfl (by rw [List.length_map]; show _ < 16777216; omega) ?_
                      repeat walk_at "g"
                      refine ⟨qp ++ [(l, s)], qs, some (tupI (neg1 l), false), some (.int qp.length, false), some (.int (clsAt D (add2 (restsI D pre.length) l)), false), by rw [k1, List.append_assoc]; rfl, by rw [List.length_append]; rfl, ?_⟩
                      rw [clashK_snoc, show clashB D L ws (restsI D pre.length) l s = true by unfold clashB; rw [decide_eq_true hnm, hs]; rfl, if_pos rfl, ← List.append_assoc, List.map_append (l₂ := [(restsI D pre.length, l)])]
                      rfl
                    · repeat walk_at "g"
                      refine ⟨qp ++ [(l, s)], qs, some (tupI (neg1 l), false), some (.int qp.length, false), some (.int (clsAt D (add2 (restsI D pre.length) l)), false), by rw [k1, List.append_assoc]; rfl, by rw [List.length_append]; rfl, ?_⟩
                      rw [clashK_snoc, show clashB D L ws (restsI D pre.length) l s = false by unfold clashB; rw [hs, Bool.and_false], if_neg Bool.false_ne_true, List.append_nil]
                      rfl
                  · rw [hb]
                    repeat walk_at "g"
                    refine ⟨qp ++ [(l, s)], qs, some (tupI (neg1 l), false), some (.int qp.length, false), some (.int (clsAt D (add2 (restsI D pre.length) l)), false), by rw [k1, List.append_assoc]; rfl, by rw [List.length_append]; rfl, ?_⟩
                    have hnm : decide (neg1 l ∈ L) = false := by rw [← hbd, hb]
                    rw [clashK_snoc, show clashB D L ws (restsI D pre.length) l s = false by unfold clashB; rw [hnm, Bool.false_and], if_neg Bool.false_ne_true, List.append_nil]
                    rfl
            · rintro ρ ⟨qp, qs, a7, a12, a13, k1, k2, rfl⟩
              cases qs with
              | cons q qs => cases k2
              | nil =>
                rw [List.append_nil] at k1
                repeat walk_at "g"
                refine ⟨pre ++ [w], suf, acc ++ clashK D L ws (restsI D pre.length) qp, a7, some (tupI (restsI D pre.length), false), a12, a13, by rw [g1, List.append_assoc]; rfl, by rw [List.length_append]; rfl, ?_, ?_, rfl⟩
                · rw [List.length_append, List.length_append, List.length_singleton]
                  have : (clashK D L ws (restsI D pre.length) qp).length ≤ qp.length := List.length_filterMap_le _ _
                  have h2 := congrArg List.length k1
                  rw [List.length_zip] at h2
                  omega
                · rw [← he, ← k1, List.append_assoc, List.length_append]
                  rfl
        · rintro ρ ⟨pre, suf, acc, a7, a11, a12, a13, g1, g2, hc, he, rfl⟩
          cases suf with
          | cons w suf => cases g2
          | nil =>
            have he : acc ++ [] = _ := he
            rw [List.append_nil] at he
            subst he
            have hcl := clashes_len D L ws ws 0
            have hcm : L.length * ws.length ≤ 4 * 12 := Nat.mul_le_mul hl4 (by omega)
            have hsm : (Val.lst ((clashes D L ws ws 0).map pairV)).sm = true := sm_pairs (by omega) fun p hp => by
              obtain ⟨h1, h2⟩ := clashes_mem D L ws ws 0 p hp
              have := hLk.len _ h2
              omega
            repeat walk_at "g"
            refine w_callC (ms := [false, false, false]) rfl ?_
            repeat walk_at "g"
            refine make_okP rfl rfl rfl rfl (table_init_ok (n := 8) hD h12 hLk hT.wl hT.ww) rfl ?_
            repeat walk_at "g"
            refine call_mf (clashes_ok (n := 8) hT) rfl rfl rfl rfl ?_
            repeat walk_at "g"
            refine w_callP ?_
            repeat walk_at "g"
            refine ⟨_, .bl true, [], rfl, rfl, rfl, same_ok (T := T) (n := 9) 3 hsm (dep_pairs _), rfl, ?_⟩
            repeat walk_at "g"
            refine lm_append rfl (by rw [List.length_map]; show _ < 16777216; omega) ?_
            repeat walk_at "g"
            refine call_b h8 rfl rfl rfl ?_
            repeat walk_at "g"
            refine w_callP ?_
            repeat walk_at "g"
            refine call_mf (clashes_ok (n := 8) hT) rfl rfl rfl rfl ?_
            repeat walk_at "g"
            refine w_meth ?_
            refine w_clsm (fc := k_Table_of) (ms := [false, false]) rfl ?_
            repeat walk_at "g"
            refine w_callC (ms := [false, false]) rfl ?_
            repeat walk_at "g"
            refine make_okP rfl rfl rfl rfl (scan_init_ok (n := 3) (d := 4) hsc ht.dep) rfl ?_
            repeat walk_at "g"
            refine call_m (table_of_ok (n := 7) hsc hf hLk) rfl rfl rfl ?_
            refine FZ_fz ?_
            refine ⟨"Table", _, _, "Table.clashes", k_Table_clashes, rfl, by decide +kernel, HasMeth.eq, HasFn.eq, rfl, ?_⟩
            repeat walk_at "g"
            refine call_mf (clashes_ok (n := 8) (scanTab_ok hsc hLk)) rfl rfl rfl rfl ?_
            rw [scan_clashes hsc hLk]
            repeat walk_at "g"
            have hsm2 : (Val.lst [.lst ((clashes D L ws ws 0).map pairV), .lst []]).sm = true := by
              show ((Val.lst ((clashes D L ws ws 0).map pairV)).sm && ((Val.lst []).sm && true) && true) = true
              rw [hsm]
              rfl
            have hdp2 : (Val.lst [.lst ((clashes D L ws ws 0).map pairV), .lst []]).dep ≤ 4 := by
              have := dep_pairs (clashes D L ws ws 0)
              show max (Val.lst ((clashes D L ws ws 0).map pairV)).dep (max 1 0) + 1 ≤ 4
              omega
            refine ⟨_, .bl true, [], rfl, rfl, rfl, same_ok (T := T) (n := 8) 4 hsm2 hdp2, rfl, ?_⟩
            repeat walk_at "g"
            exact ⟨ks, b8, _, _, _, _, _, _, _, _, _, _, _, _, _, _, _, rfl, hb8, rfl⟩
  · rintro ρ ⟨ks, b, a2, a3, a4, a5, a6, a7, a8, a9, a10, a11, a12, a13, a14, a15, a16, e1, hb, rfl⟩
    repeat walk_at "g"
    refine w_meth ?_
    refine w_callC (ms := [false, false, false]) rfl ?_
    repeat walk_at "g"
    refine ⟨1, rfl, ?_⟩
    repeat walk_at "g"
    refine make_okP rfl rfl rfl rfl (v := tabV [1] [[1], [-1]] [[true, true]]) (fins := []) (by
      have := table_init_ok (T := T) (n := 8) tab_one.dok tab_one.le tab_one.looks tab_one.wl tab_one.ww
      show callN T 13 "Table.__init__" [.ins "Table" [] [], tupI [1], lsV [[1], [-1]], .lst [.str "ff"]] = _
      rw [wS_ff]
      exact this) rfl ?_
    refine FZ_fr ?_
    refine ⟨"Table", _, _, "Table.clashes", k_Table_clashes, rfl, by decide +kernel, HasMeth.eq, HasFn.eq, rfl, ?_⟩
    repeat walk_at "g"
    refine call_mf (clashes_ok (n := 8) tab_one) rfl rfl rfl rfl ?_
    rw [clash_one]
    repeat walk_at "g"
    refine ⟨1, rfl, ?_⟩
    repeat walk_at "g"
    refine cmp_of (v := .lst [pairV ([0], [1]), pairV ([0], [-1])]) (w := .lst [pairV ([0], [1]), pairV ([0], [-1])]) (b := true) rfl rfl (by decide +kernel) ?_
    repeat walk_at "g"
    exact out_fz rfl rfl
end
end Rv

/-! k20: the text, its code. -/
namespace K20
open PySem PySem.Spec PyProof.Rows L2 Rv
abbrev prog : Program := PySem.Challenge.pw_lookscan_k20_clashes_of_tables
def top (i : Nat) : Stmt := prog.main.body.getD i (.Pass ⟨0, 0, 0, 0⟩)
def mtd (i j : Nat) : Stmt := match top i with
  | .ClassDef _ _ _ b _ _ _ _ _ _ _ => b.getD j (.Pass ⟨0, 0, 0, 0⟩)
  | _ => .Pass ⟨0, 0, 0, 0⟩
def d_is_number : Df := ⟨"is_number", ⟨("is_number", none), "is_number", "is_number", defArgs (top 12), defBody (top 12), defScope (top 12), [], []⟩, ["value"], ["value"], ⟨[false], false, [], []⟩, 0⟩
def d_are_numbers : Df := ⟨"are_numbers", ⟨("are_numbers", none), "are_numbers", "are_numbers", defArgs (top 13), defBody (top 13), defScope (top 13), [], []⟩, ["value", "many", "one"], ["value", "many"], ⟨[false, false], false, [], []⟩, 0⟩
def d_plus : Df := ⟨"plus", ⟨("plus", none), "plus", "plus", defArgs (top 14), defBody (top 14), defScope (top 14), [], []⟩, ["one", "other", "a", "b"], ["one", "other"], ⟨[false, false], false, [], []⟩, 0⟩
def d_times : Df := ⟨"times", ⟨("times", none), "times", "times", defArgs (top 15), defBody (top 15), defScope (top 15), [], []⟩, ["one", "other", "a", "b"], ["one", "other"], ⟨[false, false], false, [], []⟩, 0⟩
def d_is_look : Df := ⟨"is_look", ⟨("is_look", none), "is_look", "is_look", defArgs (top 19), defBody (top 19), defScope (top 19), [], []⟩, ["value", "directions", "one"], ["value", "directions"], ⟨[false, false], false, [], []⟩, 0⟩
def d_need_looks : Df := ⟨"need_looks", ⟨("need_looks", none), "need_looks", "need_looks", defArgs (top 20), defBody (top 20), defScope (top 20), [], []⟩, ["looks", "directions", "index", "look"], ["looks", "directions"], ⟨[false, false], false, [], []⟩, 0⟩
def d_opposite : Df := ⟨"opposite", ⟨("opposite", none), "opposite", "opposite", defArgs (top 21), defBody (top 21), defScope (top 21), [], []⟩, ["look", "one"], ["look"], ⟨[false], false, [], []⟩, 0⟩
def d_need_place : Df := ⟨"need_place", ⟨("need_place", none), "need_place", "need_place", defArgs (top 26), defBody (top 26), defScope (top 26), [], []⟩, ["value", "many"], ["value", "many"], ⟨[false, false], false, [], []⟩, 0⟩
def d_cell_count : Df := ⟨"cell_count", ⟨("cell_count", none), "cell_count", "cell_count", defArgs (top 28), defBody (top 28), defScope (top 28), [], []⟩, ["box", "found", "side"], ["box"], ⟨[false], false, [], []⟩, 0⟩
def d_class_count : Df := ⟨"class_count", ⟨("class_count", none), "class_count", "class_count", defArgs (top 31), defBody (top 31), defScope (top 31), [], []⟩, ["divisors", "found", "one"], ["divisors"], ⟨[false], false, [], []⟩, 0⟩
def d_class_at : Df := ⟨"class_at", ⟨("class_at", none), "class_at", "class_at", defArgs (top 32), defBody (top 32), defScope (top 32), [], []⟩, ["divisors", "place", "found", "one", "divisor"], ["divisors", "place"], ⟨[false, false], false, [], []⟩, 0⟩
def d_rests_at : Df := ⟨"rests_at", ⟨("rests_at", none), "rests_at", "rests_at", defArgs (top 33), defBody (top 33), defScope (top 33), [], []⟩, ["divisors", "number", "found", "divisor"], ["divisors", "number"], ⟨[false, false], false, [], []⟩, 0⟩
def d_is_parting : Df := ⟨"is_parting", ⟨("is_parting", none), "is_parting", "is_parting", defArgs (top 38), defBody (top 38), defScope (top 38), [], []⟩, ["groups", "many", "seen", "group", "one"], ["groups", "many"], ⟨[false, false], false, [], []⟩, 0⟩
def d_is_node : Df := ⟨"is_node", ⟨("is_node", none), "is_node", "is_node", defArgs (top 39), defBody (top 39), defScope (top 39), [], []⟩, ["value", "directions", "many"], ["value", "directions", "many"], ⟨[false, false, false], false, [], []⟩, 0⟩
def d_below : Df := ⟨"below", ⟨("below", none), "below", "below", defArgs (top 40), defBody (top 40), defScope (top 40), [], []⟩, ["node", "group"], ["node"], ⟨[false], false, [], []⟩, 0⟩
def d_is_tree : Df := ⟨"is_tree", ⟨("is_tree", none), "is_tree", "is_tree", defArgs (top 41), defBody (top 41), defScope (top 41), [], []⟩, ["value", "directions", "many", "level", "nodes", "depth", "node", "tree"], ["value", "directions", "many"], ⟨[false, false, false], false, [], []⟩, 0⟩
def d_node_count : Df := ⟨"node_count", ⟨("node_count", none), "node_count", "node_count", defArgs (top 42), defBody (top 42), defScope (top 42), [], []⟩, ["tree", "one"], ["tree"], ⟨[false], false, [], []⟩, 0⟩
def d_group_at : Df := ⟨"group_at", ⟨("group_at", none), "group_at", "group_at", defArgs (top 43), defBody (top 43), defScope (top 43), [], []⟩, ["groups", "number", "at", "group"], ["groups", "number"], ⟨[false, false], false, [], []⟩, 0⟩
def d_sign_of : Df := ⟨"sign_of", ⟨("sign_of", none), "sign_of", "sign_of", defArgs (top 44), defBody (top 44), defScope (top 44), [], []⟩, ["tree", "divisors", "one", "other", "left", "right", "first", "last"], ["tree", "divisors", "one", "other"], ⟨[false, false, false, false], false, [], []⟩, 0⟩
def d_Scan___init__ : Df := ⟨"Scan.__init__", ⟨("Scan", some "__init__"), "__init__", "Scan.__init__", defArgs (mtd 47 2), defBody (mtd 47 2), defScope (mtd 47 2), [.glo "LEAF"], []⟩, ["self", "divisors", "tree", "many"], ["self", "divisors", "tree"], ⟨[true, false, false], false, [(.tup [(.str "places")])], []⟩, 0⟩
def d_Scan_divisors : Df := ⟨"Scan.divisors", ⟨("Scan", some "divisors"), "divisors", "Scan.divisors", defArgs (mtd 47 3), defBody (mtd 47 3), defScope (mtd 47 3), [], []⟩, ["self"], ["self"], ⟨[false], false, [], []⟩, 1⟩
def d_Scan_directions : Df := ⟨"Scan.directions", ⟨("Scan", some "directions"), "directions", "Scan.directions", defArgs (mtd 47 6), defBody (mtd 47 6), defScope (mtd 47 6), [], []⟩, ["self"], ["self"], ⟨[false], false, [], []⟩, 1⟩
def d_Scan___call__ : Df := ⟨"Scan.__call__", ⟨("Scan", some "__call__"), "__call__", "Scan.__call__", defArgs (mtd 47 7), defBody (mtd 47 7), defScope (mtd 47 7), [], []⟩, ["self", "one", "other"], ["self", "one", "other"], ⟨[false, false, false], false, [], []⟩, 0⟩
def d_is_word : Df := ⟨"is_word", ⟨("is_word", none), "is_word", "is_word", defArgs (top 49), defBody (top 49), defScope (top 49), [], []⟩, ["value", "many", "sign"], ["value", "many"], ⟨[false, false], false, [], []⟩, 0⟩
def d_word_of : Df := ⟨"word_of", ⟨("word_of", none), "word_of", "word_of", defArgs (top 50), defBody (top 50), defScope (top 50), [], []⟩, ["scan", "looks", "place", "look"], ["scan", "looks", "place"], ⟨[false, false, false], false, [], []⟩, 0⟩
def d_Table___init__ : Df := ⟨"Table.__init__", ⟨("Table", some "__init__"), "__init__", "Table.__init__", defArgs (mtd 51 0), defBody (mtd 51 0), defScope (mtd 51 0), [], []⟩, ["self", "divisors", "looks", "words", "many", "index", "word"], ["self", "divisors", "looks", "words"], ⟨[true, false, false, false], false, [], []⟩, 0⟩
def d_Table_of : Df := ⟨"Table.of", ⟨("Table", some "of"), "of", "Table.of", defArgs (mtd 51 1), defBody (mtd 51 1), defScope (mtd 51 1), [], []⟩, ["cls", "scan", "looks", "places", "number", "place"], ["cls", "scan", "looks"], ⟨[false, false, false], false, [], []⟩, 2⟩
def d_Table_divisors : Df := ⟨"Table.divisors", ⟨("Table", some "divisors"), "divisors", "Table.divisors", defArgs (mtd 51 2), defBody (mtd 51 2), defScope (mtd 51 2), [], []⟩, ["self"], ["self"], ⟨[false], false, [], []⟩, 1⟩
def d_Table_sees : Df := ⟨"Table.sees", ⟨("Table", some "sees"), "sees", "Table.sees", defArgs (mtd 51 5), defBody (mtd 51 5), defScope (mtd 51 5), [], []⟩, ["self", "place", "look"], ["self", "place", "look"], ⟨[false, false, false], false, [], []⟩, 0⟩
def d_Table_clashes : Df := ⟨"Table.clashes", ⟨("Table", some "clashes"), "clashes", "Table.clashes", defArgs (mtd 51 8), defBody (mtd 51 8), defScope (mtd 51 8), [], []⟩, ["self", "found", "number", "word", "place", "look", "sign", "back"], ["self"], ⟨[false], true, [], []⟩, 0⟩
def d__law_bag : Df := ⟨"_law_bag", ⟨("_law_bag", none), "_law_bag", "_law_bag", defArgs (top 53), defBody (top 53), defScope (top 53), [], []⟩, ["_law_script", "_law_salt", "_law_cell"], ["_law_script"], ⟨[false], true, [], []⟩, 0⟩
def d__law_pull : Df := ⟨"_law_pull", ⟨("_law_pull", none), "_law_pull", "_law_pull", defArgs (top 54), defBody (top 54), defScope (top 54), [], []⟩, ["_law_bag_here", "_law_amount", "_law_cell", "_law_got", "_law_seed"], ["_law_bag_here", "_law_amount"], ⟨[true, false], false, [], []⟩, 0⟩
def d__law_of : Df := ⟨"_law_of", ⟨("_law_of", none), "_law_of", "_law_of", defArgs (top 55), defBody (top 55), defScope (top 55), [], []⟩, ["_law_bag_here", "_law_things"], ["_law_bag_here", "_law_things"], ⟨[true, false], false, [], []⟩, 0⟩
def d__law_mixed : Df := ⟨"_law_mixed", ⟨("_law_mixed", none), "_law_mixed", "_law_mixed", defArgs (top 56), defBody (top 56), defScope (top 56), [], []⟩, ["_law_bag_here", "_law_things", "_law_found", "_law_thing"], ["_law_bag_here", "_law_things"], ⟨[true, false], false, [], []⟩, 0⟩
def d__law_same : Df := ⟨"_law_same", ⟨("_law_same", none), "_law_same", "_law_same", defArgs (top 57), defBody (top 57), defScope (top 57), [], []⟩, ["_law_found", "_law_due", "_law_one", "_law_other", "_law_key"], ["_law_found", "_law_due"], ⟨[false, false], false, [], []⟩, 0⟩
def d__law_count : Df := ⟨"_law_count", ⟨("_law_count", none), "_law_count", "_law_count", defArgs (top 58), defBody (top 58), defScope (top 58), [], []⟩, ["_law_divisors_here", "_law_found", "_law_one"], ["_law_divisors_here"], ⟨[false], false, [], []⟩, 0⟩
def d__law_class : Df := ⟨"_law_class", ⟨("_law_class", none), "_law_class", "_law_class", defArgs (top 59), defBody (top 59), defScope (top 59), [], []⟩, ["_law_divisors_here", "_law_place", "_law_found", "_law_at"], ["_law_divisors_here", "_law_place"], ⟨[false, false], false, [], []⟩, 0⟩
def d__law_cells : Df := ⟨"_law_cells", ⟨("_law_cells", none), "_law_cells", "_law_cells", defArgs (top 60), defBody (top 60), defScope (top 60), [], []⟩, ["_law_box", "_law_found", "_law_side", "_law_rows", "_law_cell", "_law_at"], ["_law_box"], ⟨[false], false, [], []⟩, 0⟩
def d__law_plus : Df := ⟨"_law_plus", ⟨("_law_plus", none), "_law_plus", "_law_plus", defArgs (top 61), defBody (top 61), defScope (top 61), [], []⟩, ["_law_one", "_law_other", "_law_a", "_law_b"], ["_law_one", "_law_other"], ⟨[false, false], false, [], []⟩, 0⟩
def d__law_divisors : Df := ⟨"_law_divisors", ⟨("_law_divisors", none), "_law_divisors", "_law_divisors", defArgs (top 62), defBody (top 62), defScope (top 62), [], []⟩, ["_law_bag_here", "_law_directions", "_law_found", "_law_left", "_law_at", "_law_one"], ["_law_bag_here", "_law_directions"], ⟨[true, false], false, [], []⟩, 0⟩
def d__law_parts : Df := ⟨"_law_parts", ⟨("_law_parts", none), "_law_parts", "_law_parts", defArgs (top 63), defBody (top 63), defScope (top 63), [], []⟩, ["_law_bag_here", "_law_many", "_law_most", "_law_marks", "_law_found", "_law_number", "_law_mark", "_law_part"], ["_law_bag_here", "_law_many", "_law_most"], ⟨[true, false, false], false, [], []⟩, 0⟩
def d__law_tree : Df := ⟨"_law_tree", ⟨("_law_tree", none), "_law_tree", "_law_tree", defArgs (top 64), defBody (top 64), defScope (top 64), [], []⟩, ["_law_bag_here", "_law_divisors_here", "_law_depth", "_law_many", "_law_pick", "_law_parts_here", "_law_size", "_law_row", "_law_heights", "_law_part", "_law_one", "_law_number"], ["_law_bag_here", "_law_divisors_here", "_law_depth"], ⟨[true, false, false], false, [], []⟩, 0⟩
def d__law_looks : Df := ⟨"_law_looks", ⟨("_law_looks", none), "_law_looks", "_law_looks", defArgs (top 65), defBody (top 65), defScope (top 65), [], []⟩, ["_law_bag_here", "_law_directions", "_law_found", "_law_size", "_law_k", "_law_look", "_law_at"], ["_law_bag_here", "_law_directions"], ⟨[true, false], false, [], []⟩, 0⟩
def d__law_words : Df := ⟨"_law_words", ⟨("_law_words", none), "_law_words", "_law_words", defArgs (top 66), defBody (top 66), defScope (top 66), [], []⟩, ["_law_bag_here", "_law_many", "_law_looks_here", "_law_rows", "_law_k", "_law_look"], ["_law_bag_here", "_law_many", "_law_looks_here"], ⟨[true, false, false], false, [], []⟩, 0⟩
def d_law : Df := ⟨"law", ⟨("law", none), "law", "law", defArgs (top 67), defBody (top 67), defScope (top 67), [], []⟩, ["_law_script", "_law_bag_here", "_law_turn", "_law_directions", "_law_divisors_here", "_law_looks_here", "_law_look", "_law_back", "_law_many", "_law_words_here", "_law_due", "_law_rests", "_law_at", "_law_there", "_law_table", "_law_told", "_law_pair", "_law_one"], ["_law_script"], ⟨[false], false, [], []⟩, 0⟩
def L : List Df := d_is_number :: d_are_numbers :: d_plus :: d_times :: d_is_look :: d_need_looks :: d_opposite :: d_need_place :: d_cell_count :: d_class_count :: d_class_at :: d_rests_at :: d_is_parting :: d_is_node :: d_below :: d_is_tree :: d_node_count :: d_group_at :: d_sign_of :: d_Scan___init__ :: d_Scan_divisors :: d_Scan_directions :: d_Scan___call__ :: d_is_word :: d_word_of :: d_Table___init__ :: d_Table_of :: d_Table_divisors :: d_Table_sees :: d_Table_clashes :: d__law_bag :: d__law_pull :: d__law_of :: d__law_mixed :: d__law_same :: d__law_count :: d__law_class :: d__law_cells :: d__law_plus :: d__law_divisors :: d__law_parts :: d__law_tree :: d__law_looks :: d__law_words :: d_law :: []
def c_is_number : List Sx := [
  .ret (.and (.callB "isinstance" [(.loc 0), (.typ "int")]) (.not (.callB "isinstance" [(.loc 0), (.typ "bool")])))]
def c_are_numbers : List Sx := [
  .ret (.and (.callB "isinstance" [(.loc 0), (.typ "tuple")]) (.and (.cmp .Eq (.callB "len" [(.loc 0)]) (.loc 1)) (.callB "all" [(.comp (.callF "is_number" [(.loc 2)]) (.nm 2) (.loc 0) [] [2])])))]
def c_plus : List Sx := [
  .ret (.callB "tuple" [(.comp (.bop .Add (.loc 2) (.loc 3)) (.tp [(.nm 2), (.nm 3)]) (.zip2 (.loc 0) (.loc 1)) [] [2, 3])])]
def c_times : List Sx := [
  .ret (.callB "sum" [(.comp (.bop .Mult (.loc 2) (.loc 3)) (.tp [(.nm 2), (.nm 3)]) (.zip2 (.loc 0) (.loc 1)) [] [2, 3])])]
def c_is_look : List Sx := [
  .ite (.or (.not (.callF "are_numbers" [(.loc 0), (.loc 1)])) (.cmp .Eq (.loc 0) (.bop .Mult (.tup [(.con (.int (0)))]) (.loc 1)))) [
    .ret (.con (.bl false))] [
],
  .ret (.callB "all" [(.comp (.cmp .LtE (.callB "abs" [(.loc 2)]) (.glo "MAX_REACH")) (.nm 2) (.loc 0) [] [2])])]
def c_need_looks : List Sx := [
  .for (.tp [(.nm 2), (.nm 3)]) (.enm (.loc 0)) [
    .ite (.or (.not (.callF "is_look" [(.loc 3), (.loc 1)])) (.cmp .In (.loc 3) (.slc (.loc 0) false (.con .non) true (.loc 2)))) [
      .never] [
]],
  .ite (.not (.chn .LtE .LtE (.con (.int (1))) (.callB "len" [(.loc 0)]) (.glo "MAX_LOOKS"))) [
    .never] [
]]
def c_opposite : List Sx := [
  .ret (.callB "tuple" [(.comp (.neg (.loc 1)) (.nm 1) (.loc 0) [] [1])])]
def c_need_place : List Sx := [
  .ite (.not (.callF "are_numbers" [(.loc 0), (.loc 1)])) [
    .never] [
]]
def c_cell_count : List Sx := [
  .asg (.nm 1) (.con (.int (1))),
  .for (.nm 2) (.loc 0) [
    .aug 1 .Mult (.loc 2)],
  .ret (.loc 1)]
def c_class_count : List Sx := [
  .ite (.or (.not (.callB "isinstance" [(.loc 0), (.typ "tuple")])) (.not (.chn .LtE .LtE (.con (.int (1))) (.callB "len" [(.loc 0)]) (.glo "MAX_DIRECTIONS")))) [
    .never] [
],
  .ite (.not (.callB "all" [(.comp (.and (.callF "is_number" [(.loc 2)]) (.cmp .Gt (.loc 2) (.con (.int (0))))) (.nm 2) (.loc 0) [] [2])])) [
    .never] [
],
  .asg (.nm 1) (.callF "cell_count" [(.loc 0)]),
  .ite (.cmp .Gt (.loc 1) (.glo "MAX_CLASSES")) [
    .never] [
],
  .ret (.loc 1)]
def c_class_at : List Sx := [
  .asg (.nm 2) (.con (.int (0))),
  .for (.tp [(.nm 3), (.nm 4)]) (.zip2 (.loc 1) (.loc 0)) [
    .asg (.nm 2) (.bop .Add (.bop .Mult (.loc 2) (.loc 4)) (.bop .Mod (.loc 3) (.loc 4)))],
  .ret (.loc 2)]
def c_rests_at : List Sx := [
  .asg (.nm 2) (.lst []),
  .for (.nm 3) (.rev (.loc 0)) [
    .expr (.lm 2 "insert" [(.con (.int (0))), (.bop .Mod (.loc 1) (.loc 3))]),
    .aug 1 .FloorDiv (.loc 3)],
  .ret (.callB "tuple" [(.loc 2)])]
def c_is_parting : List Sx := [
  .ite (.or (.not (.callB "isinstance" [(.loc 0), (.typ "tuple")])) (.cmp .Eq (.loc 0) (.tup []))) [
    .ret (.con (.bl false))] [
],
  .asg (.nm 2) (.lst []),
  .for (.nm 3) (.loc 0) [
    .ite (.or (.not (.callB "isinstance" [(.loc 3), (.typ "tuple")])) (.or (.cmp .NotEq (.callB "len" [(.loc 3)]) (.con (.int (2)))) (.or (.not (.callB "isinstance" [(.sub (.loc 3) (.con (.int (0)))), (.typ "tuple")])) (.cmp .Eq (.sub (.loc 3) (.con (.int (0)))) (.tup []))))) [
      .ret (.con (.bl false))] [
],
    .ite (.or (.not (.callB "all" [(.comp (.callF "is_number" [(.loc 4)]) (.nm 4) (.sub (.loc 3) (.con (.int (0)))) [] [4])])) (.cmp .NotEq (.callB "list" [(.sub (.loc 3) (.con (.int (0))))]) (.callB "sorted" [(.sub (.loc 3) (.con (.int (0))))]))) [
      .ret (.con (.bl false))] [
],
    .expr (.lm 2 "extend" [(.sub (.loc 3) (.con (.int (0))))])],
  .ret (.cmp .Eq (.callB "sorted" [(.loc 2)]) (.lrg1 (.loc 1)))]
def c_is_node : List Sx := [
  .ite (.or (.not (.callB "isinstance" [(.loc 0), (.typ "tuple")])) (.cmp .Eq (.loc 0) (.tup []))) [
    .ret (.con (.bl false))] [
],
  .ite (.cmp .Eq (.sub (.loc 0) (.con (.int (0)))) (.con (.str "key"))) [
    .ret (.and (.cmp .Eq (.callB "len" [(.loc 0)]) (.con (.int (4)))) (.and (.callF "are_numbers" [(.sub (.loc 0) (.con (.int (1)))), (.loc 1)]) (.callF "are_numbers" [(.sub (.loc 0) (.con (.int (2)))), (.loc 2)])))] [
],
  .ite (.cmp .Eq (.sub (.loc 0) (.con (.int (0)))) (.con (.str "fork"))) [
    .ret (.and (.cmp .Eq (.callB "len" [(.loc 0)]) (.con (.int (2)))) (.callF "is_parting" [(.sub (.loc 0) (.con (.int (1)))), (.loc 2)]))] [
],
  .ret (.cmp .Eq (.loc 0) (.glo "LEAF"))]
def c_below : List Sx := [
  .ite (.cmp .Eq (.sub (.loc 0) (.con (.int (0)))) (.con (.str "key"))) [
    .ret (.lst [(.sub (.loc 0) (.con (.int (3))))])] [
],
  .ret (.ite (.cmp .Eq (.sub (.loc 0) (.con (.int (0)))) (.con (.str "fork"))) (.comp (.sub (.loc 1) (.con (.int (1)))) (.nm 1) (.sub (.loc 0) (.con (.int (1)))) [] [1]) (.lst []))]
def c_is_tree : List Sx := [
  .par 3 4 (.lst [(.loc 0)]) (.con (.int (0))),
  .for (.nm 5) (.rng1 (.glo "MAX_DEPTH")) [
    .ite (.not (.callB "all" [(.comp (.callF "is_node" [(.loc 6), (.loc 1), (.loc 2)]) (.nm 6) (.loc 3) [] [6])])) [
      .ret (.con (.bl false))] [
],
    .aug 4 .Add (.callB "len" [(.loc 3)]),
    .asg (.nm 3) (.comp2 (.loc 7) (.nm 6) (.loc 3) [] (.nm 7) (.callF "below" [(.loc 6)]) [] [6, 7] [6, 7]),
    .ite (.cmp .Gt (.loc 4) (.glo "MAX_NODES")) [
      .ret (.con (.bl false))] [
],
    .ite (.cmp .Eq (.loc 3) (.lst [])) [
      .ret (.con (.bl true))] [
]],
  .ret (.con (.bl false))]
def c_node_count : List Sx := [
  .ret (.bop .Add (.con (.int (1))) (.callB "sum" [(.comp (.callF "node_count" [(.loc 1)]) (.nm 1) (.callF "below" [(.loc 0)]) [] [1])]))]
def c_group_at : List Sx := [
  .ret (.sub (.comp (.loc 2) (.tp [(.nm 2), (.nm 3)]) (.enm (.loc 0)) [(.cmp .In (.loc 1) (.sub (.loc 3) (.con (.int (0)))))] [2, 3]) (.con (.int (0))))]
def c_sign_of : List Sx := [
  .par 4 5 (.callF "class_at" [(.loc 1), (.loc 2)]) (.callF "class_at" [(.loc 1), (.loc 3)]),
  .while (.cmp .NotEq (.loc 0) (.glo "LEAF")) [
    .ite (.cmp .Eq (.sub (.loc 0) (.con (.int (0)))) (.con (.str "key"))) [
      .asg (.nm 6) (.bop .Add (.callF "times" [(.sub (.loc 0) (.con (.int (1)))), (.loc 2)]) (.sub (.sub (.loc 0) (.con (.int (2)))) (.loc 4))),
      .asg (.nm 7) (.bop .Add (.callF "times" [(.sub (.loc 0) (.con (.int (1)))), (.loc 3)]) (.sub (.sub (.loc 0) (.con (.int (2)))) (.loc 5))),
      .asg (.nm 0) (.sub (.loc 0) (.con (.int (3))))] [
      .par 6 7 (.callF "group_at" [(.sub (.loc 0) (.con (.int (1)))), (.loc 4)]) (.callF "group_at" [(.sub (.loc 0) (.con (.int (1)))), (.loc 5)]),
      .asg (.nm 0) (.sub (.sub (.sub (.loc 0) (.con (.int (1)))) (.loc 6)) (.con (.int (1))))],
    .ite (.cmp .NotEq (.loc 6) (.loc 7)) [
      .ret (.ite (.cmp .Lt (.loc 6) (.loc 7)) (.neg (.con (.int (1)))) (.con (.int (1))))] [
]],
  .ret (.ite (.cmp .Eq (.loc 2) (.loc 3)) (.con (.int (0))) (.ite (.cmp .Lt (.loc 2) (.loc 3)) (.neg (.con (.int (1)))) (.con (.int (1)))))]
def c_Scan___init__ : List Sx := [
  .asg (.nm 3) (.callF "class_count" [(.loc 1)]),
  .ite (.not (.callF "is_tree" [(.loc 2), (.callB "len" [(.loc 1)]), (.loc 3)])) [
    .never] [
],
  .setAttr 0 "held_divisors" (.loc 1),
  .setAttr 0 "held_tree" (.loc 2),
  .setAttr 0 "class_total" (.loc 3),
  .setAttr 0 "node_total" (.callF "node_count" [(.loc 2)])]
def c_Scan_divisors : List Sx := [
  .ret (.attr (.loc 0) "held_divisors")]
def c_Scan_directions : List Sx := [
  .ret (.callB "len" [(.attr (.loc 0) "held_divisors")])]
def c_Scan___call__ : List Sx := [
  .expr (.callF "need_place" [(.loc 1), (.callB "len" [(.attr (.loc 0) "held_divisors")])]),
  .expr (.callF "need_place" [(.loc 2), (.callB "len" [(.attr (.loc 0) "held_divisors")])]),
  .ret (.cmp .Lt (.callF "sign_of" [(.attr (.loc 0) "held_tree"), (.attr (.loc 0) "held_divisors"), (.loc 1), (.loc 2)]) (.con (.int (0))))]
def c_is_word : List Sx := [
  .ret (.and (.callB "isinstance" [(.loc 0), (.typ "str")]) (.and (.cmp .Eq (.callB "len" [(.loc 0)]) (.loc 1)) (.callB "all" [(.comp (.cmp .In (.loc 2) (.con (.str "fu"))) (.nm 2) (.loc 0) [] [2])])))]
def c_word_of : List Sx := [
  .ret (.join "" [(.comp (.ite (.callO (.loc 0) [(.callF "plus" [(.loc 2), (.loc 3)]), (.loc 2)]) (.con (.str "f")) (.con (.str "u"))) (.nm 3) (.loc 1) [] [3])])]
def c_Table___init__ : List Sx := [
  .asg (.nm 4) (.callF "class_count" [(.loc 1)]),
  .expr (.callF "need_looks" [(.loc 2), (.callB "len" [(.loc 1)])]),
  .for (.tp [(.nm 5), (.nm 6)]) (.enm (.slc (.loc 3) false (.con .non) true (.loc 4))) [
    .ite (.not (.callF "is_word" [(.loc 6), (.callB "len" [(.loc 2)])])) [
      .never] [
]],
  .ite (.cmp .NotEq (.callB "len" [(.loc 3)]) (.loc 4)) [
    .never] [
],
  .setAttr 0 "held_divisors" (.loc 1),
  .setAttr 0 "held_looks" (.callB "list" [(.loc 2)]),
  .setAttr 0 "held_words" (.callB "list" [(.loc 3)])]
def c_Table_of : List Sx := [
  .expr (.callF "need_looks" [(.loc 2), (.prp (.loc 1) "directions")]),
  .asg (.nm 3) (.comp (.callF "rests_at" [(.prp (.loc 1) "divisors"), (.loc 4)]) (.nm 4) (.rng1 (.callF "cell_count" [(.prp (.loc 1) "divisors")])) [] [4]),
  .ret (.callK 0 "Table" [(.prp (.loc 1) "divisors"), (.loc 2), (.comp (.callF "word_of" [(.loc 1), (.loc 2), (.loc 5)]) (.nm 5) (.loc 3) [] [5])])]
def c_Table_divisors : List Sx := [
  .ret (.attr (.loc 0) "held_divisors")]
def c_Table_sees : List Sx := [
  .expr (.callF "need_place" [(.loc 1), (.callB "len" [(.attr (.loc 0) "held_divisors")])]),
  .ite (.or (.not (.callF "is_look" [(.loc 2), (.callB "len" [(.attr (.loc 0) "held_divisors")])])) (.cmp .NotIn (.loc 2) (.attr (.loc 0) "held_looks"))) [
    .never] [
],
  .ret (.cmp .Eq (.sub (.sub (.attr (.loc 0) "held_words") (.callF "class_at" [(.attr (.loc 0) "held_divisors"), (.loc 1)])) (.lix (.attr (.loc 0) "held_looks") [(.loc 2)])) (.con (.str "f")))]
def c_Table_clashes : List Sx := [
  .asg (.nm 1) (.lst []),
  .for (.tp [(.nm 2), (.nm 3)]) (.enm (.attr (.loc 0) "held_words")) [
    .asg (.nm 4) (.callF "rests_at" [(.attr (.loc 0) "held_divisors"), (.loc 2)]),
    .for (.tp [(.nm 5), (.nm 6)]) (.zip2 (.attr (.loc 0) "held_looks") (.loc 3)) [
      .asg (.nm 7) (.callF "opposite" [(.loc 5)]),
      .ite (.and (.cmp .In (.loc 7) (.attr (.loc 0) "held_looks")) (.cmp .Eq (.meth (.loc 0) "sees" [(.callF "plus" [(.loc 4), (.loc 5)]), (.loc 7)]) (.cmp .Eq (.loc 6) (.con (.str "f"))))) [
        .expr (.lm 1 "append" [(.tup [(.loc 4), (.loc 5)])])] [
]]],
  .ret (.loc 1)]
def c__law_bag : List Sx := [
  .asg (.nm 1) (.con (.int (3823))),
  .for (.nm 2) (.slc (.loc 0) false (.con .non) true (.con (.int (63)))) [
    .asg (.nm 1) (.bop .Mod (.callB "int" [(.bop .Add (.bop .Add (.bop .Mult (.loc 1) (.con (.int (44021)))) (.bop .Mod (.callB "int" [(.loc 2)]) (.con (.int (2147483579))))) (.con (.int (19))))]) (.con (.int (2147483647))))],
  .ret (.lst [(.callB "list" [(.slc (.loc 0) false (.con .non) true (.con (.int (63))))]), (.con (.int (0))), (.con (.int (0))), (.loc 1)])]
def c__law_pull : List Sx := [
  .ite (.and (.cmp .Eq (.sub (.loc 0) (.con (.int (2)))) (.con (.int (0)))) (.cmp .Lt (.sub (.loc 0) (.con (.int (1)))) (.callB "len" [(.sub (.loc 0) (.con (.int (0))))]))) [
    .asg (.nm 2) (.sub (.sub (.loc 0) (.con (.int (0)))) (.sub (.loc 0) (.con (.int (1))))),
    .setSub 0 (.con (.int (1))) (.bop .Add (.sub (.loc 0) (.con (.int (1)))) (.con (.int (1)))),
    .ite (.cmp .GtE (.loc 2) (.bop .Pow (.con (.int (10))) (.con (.int (18))))) [
      .setSub 0 (.con (.int (2))) (.loc 2)] [
      .setSub 0 (.con (.int (3))) (.bop .Mod (.callB "int" [(.bop .Add (.bop .Add (.bop .Mult (.sub (.loc 0) (.con (.int (3)))) (.con (.int (40692)))) (.bop .Mult (.bop .Mod (.callB "int" [(.loc 2)]) (.con (.int (2147483579)))) (.con (.int (69621))))) (.con (.int (11))))]) (.con (.int (2147483647))))]] [
],
  .ite (.cmp .Gt (.sub (.loc 0) (.con (.int (2)))) (.con (.int (0)))) [
    .asg (.nm 3) (.bop .Mod (.callB "int" [(.sub (.loc 0) (.con (.int (2))))]) (.loc 1)),
    .setSub 0 (.con (.int (2))) (.bop .FloorDiv (.sub (.loc 0) (.con (.int (2)))) (.loc 1)),
    .ret (.loc 3)] [
],
  .asg (.nm 4) (.sub (.loc 0) (.con (.int (3)))),
  .setSub 0 (.con (.int (3))) (.bop .Mod (.callB "int" [(.bop .Add (.bop .Add (.bop .Mult (.loc 4) (.loc 4)) (.bop .Mult (.loc 4) (.con (.int (48271))))) (.con (.int (1013904223))))]) (.con (.int (2147483647)))),
  .ret (.bop .Mod (.callB "int" [(.bop .Add (.bop .FloorDiv (.sub (.loc 0) (.con (.int (3)))) (.con (.int (97)))) (.bop .Mult (.bop .Mod (.callB "int" [(.sub (.loc 0) (.con (.int (3))))]) (.con (.int (8191)))) (.con (.int (67)))))]) (.loc 1))]
def c__law_of : List Sx := [
  .ret (.sub (.loc 1) (.callF "_law_pull" [(.loc 0), (.callB "len" [(.loc 1)])]))]
def c__law_mixed : List Sx := [
  .asg (.nm 2) (.lst []),
  .for (.nm 3) (.loc 1) [
    .expr (.lm 2 "insert" [(.callF "_law_pull" [(.loc 0), (.bop .Add (.callB "len" [(.loc 2)]) (.con (.int (1))))]), (.loc 3)])],
  .ret (.loc 2)]
def c__law_same : List Sx := [
  .ite (.or (.callB "isinstance" [(.loc 1), (.typ "list")]) (.callB "isinstance" [(.loc 1), (.typ "tuple")])) [
    .ite (.or (.cmp .NotEq (.callB "isinstance" [(.loc 0), (.typ "list")]) (.callB "isinstance" [(.loc 1), (.typ "list")])) (.cmp .NotEq (.callB "isinstance" [(.loc 0), (.typ "tuple")]) (.callB "isinstance" [(.loc 1), (.typ "tuple")]))) [
      .ret (.con (.bl false))] [
],
    .ret (.and (.cmp .Eq (.callB "len" [(.loc 0)]) (.callB "len" [(.loc 1)])) (.callB "all" [(.comp (.callP "_law_same" [(.loc 2), (.loc 3)]) (.tp [(.nm 2), (.nm 3)]) (.zip2 (.loc 0) (.loc 1)) [] [2, 3])]))] [
],
  .ite (.callB "isinstance" [(.loc 1), (.typ "dict")]) [
    .ret (.and (.callB "isinstance" [(.loc 0), (.typ "dict")]) (.and (.callP "_law_same" [(.callB "sorted" [(.callB "list" [(.loc 0)])]), (.callB "sorted" [(.callB "list" [(.loc 1)])])]) (.callB "all" [(.comp (.callP "_law_same" [(.sub (.loc 0) (.loc 4)), (.sub (.loc 1) (.loc 4))]) (.nm 4) (.callB "list" [(.loc 1)]) [] [4])])))] [
],
  .ite (.or (.cmp .Is (.loc 1) (.con .non)) (.cmp .Is (.loc 0) (.con .non))) [
    .ret (.and (.cmp .Is (.loc 1) (.con .non)) (.cmp .Is (.loc 0) (.con .non)))] [
],
  .ite (.or (.cmp .NotEq (.callB "isinstance" [(.loc 0), (.typ "bool")]) (.callB "isinstance" [(.loc 1), (.typ "bool")])) (.cmp .NotEq (.callB "isinstance" [(.loc 0), (.typ "int")]) (.callB "isinstance" [(.loc 1), (.typ "int")]))) [
    .ret (.con (.bl false))] [
],
  .ret (.and (.cmp .Eq (.callB "isinstance" [(.loc 0), (.typ "str")]) (.callB "isinstance" [(.loc 1), (.typ "str")])) (.cmp .Eq (.loc 0) (.loc 1)))]
def c__law_count : List Sx := [
  .asg (.nm 1) (.con (.int (1))),
  .for (.nm 2) (.loc 0) [
    .asg (.nm 1) (.bop .Mult (.loc 1) (.loc 2))],
  .ret (.loc 1)]
def c__law_class : List Sx := [
  .asg (.nm 2) (.con (.int (0))),
  .for (.nm 3) (.rng1 (.callB "len" [(.loc 0)])) [
    .asg (.nm 2) (.bop .Add (.bop .Mult (.loc 2) (.sub (.loc 0) (.loc 3))) (.bop .Mod (.callB "int" [(.sub (.loc 1) (.loc 3))]) (.sub (.loc 0) (.loc 3))))],
  .ret (.loc 2)]
def c__law_cells : List Sx := [
  .asg (.nm 1) (.lst [(.tup [])]),
  .for (.nm 2) (.loc 0) [
    .asg (.nm 3) (.lst []),
    .for (.nm 4) (.loc 1) [
      .asg (.nm 3) (.bop .Add (.loc 3) (.comp (.bop .Add (.loc 4) (.tup [(.loc 5)])) (.nm 5) (.rng1 (.loc 2)) [] [5]))],
    .asg (.nm 1) (.loc 3)],
  .ret (.loc 1)]
def c__law_plus : List Sx := [
  .ret (.callB "tuple" [(.comp (.bop .Add (.loc 2) (.loc 3)) (.tp [(.nm 2), (.nm 3)]) (.zip2 (.loc 0) (.loc 1)) [] [2, 3])])]
def c__law_divisors : List Sx := [
  .par 2 3 (.lst []) (.con (.int (12))),
  .for (.nm 4) (.rng1 (.loc 1)) [
    .asg (.nm 5) (.bop .Add (.con (.int (1))) (.callF "_law_pull" [(.loc 0), (.callB "min" [(.loc 3), (.sub (.lst [(.con (.int (4))), (.con (.int (4))), (.con (.int (12)))]) (.callF "_law_pull" [(.loc 0), (.con (.int (3)))]))])])),
    .expr (.lm 2 "append" [(.loc 5)]),
    .asg (.nm 3) (.bop .FloorDiv (.loc 3) (.loc 5))],
  .ret (.callB "tuple" [(.callF "_law_mixed" [(.loc 0), (.loc 2)])])]
def c__law_parts : List Sx := [
  .asg (.nm 3) (.comp (.callF "_law_pull" [(.loc 0), (.loc 2)]) (.nm 5) (.rng1 (.loc 1)) [] [5]),
  .asg (.nm 4) (.comp (.callB "tuple" [(.comp (.loc 5) (.nm 5) (.rng1 (.loc 1)) [(.cmp .Eq (.sub (.loc 3) (.loc 5)) (.loc 6))] [5])]) (.nm 6) (.lst [(.con (.int (1))), (.con (.int (4))), (.con (.int (0))), (.con (.int (3))), (.con (.int (2)))]) [] [6]),
  .ret (.comp (.loc 7) (.nm 7) (.loc 4) [(.cmp .NotEq (.loc 7) (.tup []))] [7])]
def c__law_tree : List Sx := [
  .par 3 4 (.callF "_law_count" [(.loc 1)]) (.callF "_law_pull" [(.loc 0), (.con (.int (4)))]),
  .ite (.or (.cmp .Eq (.loc 2) (.con (.int (0)))) (.cmp .Eq (.loc 4) (.con (.int (0))))) [
    .ret (.tup [(.con (.str "places"))])] [
],
  .ite (.cmp .Eq (.loc 4) (.con (.int (3)))) [
    .asg (.nm 5) (.callF "_law_parts" [(.loc 0), (.loc 3), (.ite (.cmp .Eq (.loc 2) (.con (.int (1)))) (.con (.int (5))) (.con (.int (3))))]),
    .ret (.tup [(.con (.str "fork")), (.callB "tuple" [(.comp (.tup [(.loc 9), (.callF "_law_tree" [(.loc 0), (.loc 1), (.bop .Sub (.loc 2) (.con (.int (1))))])]) (.nm 9) (.loc 5) [] [9])])])] [
],
  .asg (.nm 6) (.callF "_law_of" [(.loc 0), (.lst [(.con (.int (3))), (.con (.int (3))), (.con (.int (9))), (.bop .Pow (.con (.int (10))) (.con (.int (9))))])]),
  .asg (.nm 7) (.callB "tuple" [(.comp (.bop .Sub (.callF "_law_pull" [(.loc 0), (.bop .Add (.bop .Mult (.con (.int (2))) (.loc 6)) (.con (.int (1))))]) (.loc 6)) (.nm 10) (.loc 1) [] [10])]),
  .asg (.nm 8) (.callB "tuple" [(.comp (.ite (.cmp .Lt (.loc 6) (.con (.int (9)))) (.bop .Sub (.callF "_law_pull" [(.loc 0), (.con (.int (9)))]) (.con (.int (4)))) (.bop .Sub (.callF "_law_pull" [(.loc 0), (.bop .Mult (.con (.int (4))) (.loc 6))]) (.bop .Mult (.con (.int (2))) (.loc 6)))) (.nm 11) (.rng1 (.loc 3)) [] [11])]),
  .ret (.tup [(.con (.str "key")), (.loc 7), (.loc 8), (.callF "_law_tree" [(.loc 0), (.loc 1), (.bop .Sub (.loc 2) (.con (.int (1))))])])]
def c__law_looks : List Sx := [
  .par 2 3 (.lst []) (.callF "_law_of" [(.loc 0), (.lst [(.con (.int (2))), (.con (.int (2))), (.con (.int (2))), (.con (.int (2))), (.con (.int (8)))])]),
  .for (.nm 4) (.rng1 (.bop .Add (.con (.int (1))) (.callF "_law_pull" [(.loc 0), (.con (.int (4)))]))) [
    .asg (.nm 5) (.callB "tuple" [(.comp (.bop .Sub (.callF "_law_pull" [(.loc 0), (.bop .Add (.bop .Mult (.con (.int (2))) (.loc 3)) (.con (.int (1))))]) (.loc 3)) (.nm 6) (.rng1 (.loc 1)) [] [6])]),
    .ite (.and (.cmp .NotEq (.loc 5) (.bop .Mult (.tup [(.con (.int (0)))]) (.loc 1))) (.cmp .NotIn (.loc 5) (.loc 2))) [
      .expr (.lm 2 "append" [(.loc 5)])] [
]],
  .ret (.ite (.cmp .NotEq (.loc 2) (.lst [])) (.loc 2) (.lst [(.bop .Add (.tup [(.con (.int (1)))]) (.bop .Mult (.tup [(.con (.int (0)))]) (.bop .Sub (.loc 1) (.con (.int (1))))))]))]
def c__law_words : List Sx := [
  .asg (.nm 3) (.lst []),
  .for (.nm 4) (.rng1 (.loc 1)) [
    .expr (.lm 3 "append" [(.join "" [(.comp (.sub (.lst [(.con (.str "f")), (.con (.str "u"))]) (.callF "_law_pull" [(.loc 0), (.con (.int (2)))])) (.nm 5) (.loc 2) [] [5])])])],
  .ret (.loc 3)]
def c_law : List Sx := [
  .asg (.nm 1) (.callF "_law_bag" [(.loc 0)]),
  .for (.nm 2) (.rng1 (.con (.int (6)))) [
    .asg (.nm 3) (.bop .Add (.con (.int (1))) (.callF "_law_pull" [(.loc 1), (.con (.int (3)))])),
    .par 4 5 (.callF "_law_divisors" [(.loc 1), (.loc 3)]) (.callF "_law_looks" [(.loc 1), (.loc 3)]),
    .asg (.nm 5) (.slc (.loc 5) false (.con .non) true (.con (.int (2)))),
    .for (.nm 6) (.callB "list" [(.loc 5)]) [
      .asg (.nm 7) (.callB "tuple" [(.comp (.neg (.loc 17)) (.nm 17) (.loc 6) [] [17])]),
      .ite (.and (.cmp .NotIn (.loc 7) (.loc 5)) (.cmp .Gt (.callF "_law_pull" [(.loc 1), (.con (.int (3)))]) (.con (.int (0))))) [
        .expr (.lm 5 "append" [(.loc 7)])] [
]],
    .asg (.nm 8) (.callF "_law_count" [(.loc 4)]),
    .asg (.nm 9) (.callF "_law_words" [(.loc 1), (.loc 8), (.loc 5)]),
    .asg (.nm 10) (.lst []),
    .for (.nm 11) (.callF "_law_cells" [(.loc 4)]) [
      .for (.nm 12) (.rng1 (.callB "len" [(.loc 5)])) [
        .asg (.nm 7) (.callB "tuple" [(.comp (.neg (.loc 17)) (.nm 17) (.sub (.loc 5) (.loc 12)) [] [17])]),
        .asg (.nm 13) (.callF "_law_class" [(.loc 4), (.callF "_law_plus" [(.loc 11), (.sub (.loc 5) (.loc 12))])]),
        .ite (.and (.cmp .In (.loc 7) (.loc 5)) (.cmp .Eq (.sub (.sub (.loc 9) (.loc 13)) (.lix (.loc 5) [(.loc 7)])) (.sub (.sub (.loc 9) (.callF "_law_class" [(.loc 4), (.loc 11)])) (.loc 12)))) [
          .expr (.lm 10 "append" [(.tup [(.loc 11), (.sub (.loc 5) (.loc 12))])])] [
]]],
    .asg (.nm 14) (.callC "Table" [(.loc 4), (.loc 5), (.loc 9)]),
    .asg (.nm 15) (.meth (.loc 14) "clashes" []),
    .ite (.not (.callP "_law_same" [(.loc 15), (.loc 10)])) [
      .ret (.con (.bl false))] [
],
    .expr (.lm 15 "append" [(.con .non)]),
    .asg (.nm 16) (.tup [(.loc 4), (.callF "_law_tree" [(.loc 1), (.loc 4), (.con (.int (3)))])]),
    .ite (.not (.callP "_law_same" [(.lst [(.meth (.loc 14) "clashes" []), (.meth (.clsm "Table" "of" [(.callC "Scan" [(.sub (.loc 16) (.con (.int (0)))), (.sub (.loc 16) (.con (.int (1))))]), (.loc 5)]) "clashes" [])]), (.lst [(.loc 10), (.lst [])])])) [
      .ret (.con (.bl false))] [
]],
  .ret (.cmp .Eq (.meth (.callC "Table" [(.tup [(.con (.int (1)))]), (.lst [(.tup [(.con (.int (1)))]), (.tup [(.neg (.con (.int (1))))])]), (.lst [(.con (.str "ff"))])]) "clashes" []) (.lst [(.tup [(.tup [(.con (.int (0)))]), (.tup [(.con (.int (1)))])]), (.tup [(.tup [(.con (.int (0)))]), (.tup [(.neg (.con (.int (1))))])])]))]
def codes : List (Str × FnCode) := ("is_number", ⟨⟨[false], false, [], []⟩, 1, c_is_number⟩) ::
  ("are_numbers", ⟨⟨[false, false], false, [], []⟩, 3, c_are_numbers⟩) ::
  ("plus", ⟨⟨[false, false], false, [], []⟩, 4, c_plus⟩) ::
  ("times", ⟨⟨[false, false], false, [], []⟩, 4, c_times⟩) ::
  ("is_look", ⟨⟨[false, false], false, [], []⟩, 3, c_is_look⟩) ::
  ("need_looks", ⟨⟨[false, false], false, [], []⟩, 4, c_need_looks⟩) ::
  ("opposite", ⟨⟨[false], false, [], []⟩, 2, c_opposite⟩) ::
  ("need_place", ⟨⟨[false, false], false, [], []⟩, 2, c_need_place⟩) ::
  ("cell_count", ⟨⟨[false], false, [], []⟩, 3, c_cell_count⟩) ::
  ("class_count", ⟨⟨[false], false, [], []⟩, 3, c_class_count⟩) ::
  ("class_at", ⟨⟨[false, false], false, [], []⟩, 5, c_class_at⟩) ::
  ("rests_at", ⟨⟨[false, false], false, [], []⟩, 4, c_rests_at⟩) ::
  ("is_parting", ⟨⟨[false, false], false, [], []⟩, 5, c_is_parting⟩) ::
  ("is_node", ⟨⟨[false, false, false], false, [], []⟩, 3, c_is_node⟩) ::
  ("below", ⟨⟨[false], false, [], []⟩, 2, c_below⟩) ::
  ("is_tree", ⟨⟨[false, false, false], false, [], []⟩, 8, c_is_tree⟩) ::
  ("node_count", ⟨⟨[false], false, [], []⟩, 2, c_node_count⟩) ::
  ("group_at", ⟨⟨[false, false], false, [], []⟩, 4, c_group_at⟩) ::
  ("sign_of", ⟨⟨[false, false, false, false], false, [], []⟩, 8, c_sign_of⟩) ::
  ("Scan.__init__", ⟨⟨[true, false, false], false, [(.tup [(.str "places")])], []⟩, 4, c_Scan___init__⟩) ::
  ("Scan.divisors", ⟨⟨[false], false, [], []⟩, 1, c_Scan_divisors⟩) ::
  ("Scan.directions", ⟨⟨[false], false, [], []⟩, 1, c_Scan_directions⟩) ::
  ("Scan.__call__", ⟨⟨[false, false, false], false, [], []⟩, 3, c_Scan___call__⟩) ::
  ("is_word", ⟨⟨[false, false], false, [], []⟩, 3, c_is_word⟩) ::
  ("word_of", ⟨⟨[false, false, false], false, [], []⟩, 4, c_word_of⟩) ::
  ("Table.__init__", ⟨⟨[true, false, false, false], false, [], []⟩, 7, c_Table___init__⟩) ::
  ("Table.of", ⟨⟨[false, false, false], false, [], []⟩, 6, c_Table_of⟩) ::
  ("Table.divisors", ⟨⟨[false], false, [], []⟩, 1, c_Table_divisors⟩) ::
  ("Table.sees", ⟨⟨[false, false, false], false, [], []⟩, 3, c_Table_sees⟩) ::
  ("Table.clashes", ⟨⟨[false], true, [], []⟩, 8, c_Table_clashes⟩) ::
  ("_law_bag", ⟨⟨[false], true, [], []⟩, 3, c__law_bag⟩) ::
  ("_law_pull", ⟨⟨[true, false], false, [], []⟩, 5, c__law_pull⟩) ::
  ("_law_of", ⟨⟨[true, false], false, [], []⟩, 2, c__law_of⟩) ::
  ("_law_mixed", ⟨⟨[true, false], false, [], []⟩, 4, c__law_mixed⟩) ::
  ("_law_same", ⟨⟨[false, false], false, [], []⟩, 5, c__law_same⟩) ::
  ("_law_count", ⟨⟨[false], false, [], []⟩, 3, c__law_count⟩) ::
  ("_law_class", ⟨⟨[false, false], false, [], []⟩, 4, c__law_class⟩) ::
  ("_law_cells", ⟨⟨[false], false, [], []⟩, 6, c__law_cells⟩) ::
  ("_law_plus", ⟨⟨[false, false], false, [], []⟩, 4, c__law_plus⟩) ::
  ("_law_divisors", ⟨⟨[true, false], false, [], []⟩, 6, c__law_divisors⟩) ::
  ("_law_parts", ⟨⟨[true, false, false], false, [], []⟩, 8, c__law_parts⟩) ::
  ("_law_tree", ⟨⟨[true, false, false], false, [], []⟩, 12, c__law_tree⟩) ::
  ("_law_looks", ⟨⟨[true, false], false, [], []⟩, 7, c__law_looks⟩) ::
  ("_law_words", ⟨⟨[true, false, false], false, [], []⟩, 6, c__law_words⟩) ::
  ("law", ⟨⟨[false], false, [], []⟩, 18, c_law⟩) :: []
def R : Wr := ⟨L, [("MAX_LOOKS", (.int (4))), ("MAX_REACH", (.int (9))), ("MAX_DIRECTIONS", (.int (3))), ("MAX_CLASSES", (.int (12))), ("MAX_DEPTH", (.int (20))), ("MAX_NODES", (.int (200))), ("LEAF", (.tup [(.str "places")]))], [("Scan", "held_divisors"), ("Scan", "held_tree"), ("Scan", "class_total"), ("Scan", "node_total"), ("Table", "held_divisors"), ("Table", "held_looks"), ("Table", "held_words")], ["int", "bool", "str", "tuple", "list", "dict", "len", "isinstance", "all", "any", "sum", "sorted", "min", "max", "abs", "range", "zip", "enumerate"], [("_law_same", 2)], [false, false], 100000, 60⟩
theorem codes_eq : codes = R.L.map fun df => (df.key, df.code R.G R.n) := by kernel_rfl
theorem wr_ok : WrOk R codes := wrC_ok codes_eq (by decide +kernel)
theorem b_is_number : BA d_is_number := fun _ _ _ _ _ _ us hl => match us, hl with | [_], _ => rfl
theorem b_are_numbers : BA d_are_numbers := fun _ _ _ _ _ _ us hl => match us, hl with | [_, _], _ => rfl
theorem b_plus : BA d_plus := fun _ _ _ _ _ _ us hl => match us, hl with | [_, _], _ => rfl
theorem b_times : BA d_times := fun _ _ _ _ _ _ us hl => match us, hl with | [_, _], _ => rfl
theorem b_is_look : BA d_is_look := fun _ _ _ _ _ _ us hl => match us, hl with | [_, _], _ => rfl
theorem b_need_looks : BA d_need_looks := fun _ _ _ _ _ _ us hl => match us, hl with | [_, _], _ => rfl
theorem b_opposite : BA d_opposite := fun _ _ _ _ _ _ us hl => match us, hl with | [_], _ => rfl
theorem b_need_place : BA d_need_place := fun _ _ _ _ _ _ us hl => match us, hl with | [_, _], _ => rfl
theorem b_cell_count : BA d_cell_count := fun _ _ _ _ _ _ us hl => match us, hl with | [_], _ => rfl
theorem b_class_count : BA d_class_count := fun _ _ _ _ _ _ us hl => match us, hl with | [_], _ => rfl
theorem b_class_at : BA d_class_at := fun _ _ _ _ _ _ us hl => match us, hl with | [_, _], _ => rfl
theorem b_rests_at : BA d_rests_at := fun _ _ _ _ _ _ us hl => match us, hl with | [_, _], _ => rfl
theorem b_is_parting : BA d_is_parting := fun _ _ _ _ _ _ us hl => match us, hl with | [_, _], _ => rfl
theorem b_is_node : BA d_is_node := fun _ _ _ _ _ _ us hl => match us, hl with | [_, _, _], _ => rfl
theorem b_below : BA d_below := fun _ _ _ _ _ _ us hl => match us, hl with | [_], _ => rfl
theorem b_is_tree : BA d_is_tree := fun _ _ _ _ _ _ us hl => match us, hl with | [_, _, _], _ => rfl
theorem b_node_count : BA d_node_count := fun _ _ _ _ _ _ us hl => match us, hl with | [_], _ => rfl
theorem b_group_at : BA d_group_at := fun _ _ _ _ _ _ us hl => match us, hl with | [_, _], _ => rfl
theorem b_sign_of : BA d_sign_of := fun _ _ _ _ _ _ us hl => match us, hl with | [_, _, _, _], _ => rfl
theorem b_Scan___init__ : BA1 d_Scan___init__ := ⟨fun _ _ _ _ _ _ _ us its h1 h2 => match us, its, h1, h2 with | [_, _], [_], _, _ => ⟨_, rfl, rfl⟩, fun _ _ _ _ _ _ _ us its h1 h2 => match us, its, h1, h2 with | [_, _, _], [_], _, _ => ⟨_, rfl, rfl⟩⟩
theorem b_Scan_divisors : BA d_Scan_divisors := fun _ _ _ _ _ _ us hl => match us, hl with | [_], _ => rfl
theorem b_Scan_directions : BA d_Scan_directions := fun _ _ _ _ _ _ us hl => match us, hl with | [_], _ => rfl
theorem b_Scan___call__ : BA d_Scan___call__ := fun _ _ _ _ _ _ us hl => match us, hl with | [_, _, _], _ => rfl
theorem b_is_word : BA d_is_word := fun _ _ _ _ _ _ us hl => match us, hl with | [_, _], _ => rfl
theorem b_word_of : BA d_word_of := fun _ _ _ _ _ _ us hl => match us, hl with | [_, _, _], _ => rfl
theorem b_Table___init__ : BA d_Table___init__ := fun _ _ _ _ _ _ us hl => match us, hl with | [_, _, _, _], _ => rfl
theorem b_Table_of : BA d_Table_of := fun _ _ _ _ _ _ us hl => match us, hl with | [_, _, _], _ => rfl
theorem b_Table_divisors : BA d_Table_divisors := fun _ _ _ _ _ _ us hl => match us, hl with | [_], _ => rfl
theorem b_Table_sees : BA d_Table_sees := fun _ _ _ _ _ _ us hl => match us, hl with | [_, _, _], _ => rfl
theorem b_Table_clashes : BA d_Table_clashes := fun _ _ _ _ _ _ us hl => match us, hl with | [_], _ => rfl
theorem b__law_bag : BA d__law_bag := fun _ _ _ _ _ _ us hl => match us, hl with | [_], _ => rfl
theorem b__law_pull : BA d__law_pull := fun _ _ _ _ _ _ us hl => match us, hl with | [_, _], _ => rfl
theorem b__law_of : BA d__law_of := fun _ _ _ _ _ _ us hl => match us, hl with | [_, _], _ => rfl
theorem b__law_mixed : BA d__law_mixed := fun _ _ _ _ _ _ us hl => match us, hl with | [_, _], _ => rfl
theorem b__law_same : BA d__law_same := fun _ _ _ _ _ _ us hl => match us, hl with | [_, _], _ => rfl
theorem b__law_count : BA d__law_count := fun _ _ _ _ _ _ us hl => match us, hl with | [_], _ => rfl
theorem b__law_class : BA d__law_class := fun _ _ _ _ _ _ us hl => match us, hl with | [_, _], _ => rfl
theorem b__law_cells : BA d__law_cells := fun _ _ _ _ _ _ us hl => match us, hl with | [_], _ => rfl
theorem b__law_plus : BA d__law_plus := fun _ _ _ _ _ _ us hl => match us, hl with | [_, _], _ => rfl
theorem b__law_divisors : BA d__law_divisors := fun _ _ _ _ _ _ us hl => match us, hl with | [_, _], _ => rfl
theorem b__law_parts : BA d__law_parts := fun _ _ _ _ _ _ us hl => match us, hl with | [_, _, _], _ => rfl
theorem b__law_tree : BA d__law_tree := fun _ _ _ _ _ _ us hl => match us, hl with | [_, _, _], _ => rfl
theorem b__law_looks : BA d__law_looks := fun _ _ _ _ _ _ us hl => match us, hl with | [_, _], _ => rfl
theorem b__law_words : BA d__law_words := fun _ _ _ _ _ _ us hl => match us, hl with | [_, _, _], _ => rfl
theorem b_law : BA d_law := fun _ _ _ _ _ _ us hl => match us, hl with | [_], _ => rfl
end K20

/-! k20: the head. -/
namespace K20
open PySem PySem.Spec PyProof.Rows L2 Rv
abbrev Ro : PySem.W.OpenRow := PySem.W.OpenLaw.row PySem.Challenge.rw_lookscan_k20_clashes_of_tables
def loose0 : List Str := ["_wall", "ScanError", "InvalidPlace", "InvalidBox", "InvalidDivisors", "TooManyClasses", "InvalidLooks", "InvalidTree", "InvalidWords", "TooManyCells", "is_number", "are_numbers"]
def loose1 : List Str := ["plus", "times", "MAX_LOOKS", "MAX_REACH", "is_look", "need_looks", "opposite", "MAX_DIRECTIONS", "MAX_CLASSES", "MAX_CELLS", "need_place", "need_box"]
def loose2 : List Str := ["cell_count", "need_cells", "cells", "class_count", "class_at", "rests_at", "MAX_DEPTH", "MAX_NODES", "LEAF", "is_parting", "is_node", "below"]
def loose3 : List Str := ["is_tree", "node_count", "group_at", "sign_of", "path_of", "Scan", "is_word", "word_of", "Table", "_law_bag", "_law_pull", "_law_of"]
def loose4 : List Str := ["_law_mixed", "_law_same", "_law_count", "_law_class", "_law_cells", "_law_plus", "_law_divisors", "_law_parts", "_law_tree", "_law_looks", "_law_words"]
def loose : List Str := loose0 ++ loose1 ++ loose2 ++ loose3 ++ loose4
def adrs : List Addr := [3, 6, 4, 21, 31, 53, 74, 95, 116, 137, 158, 179, 200, 209, 214, 219, 224, 229, 236, 241, 248, 253, 260, 267, 274, 279, 286, 293, 294, 299, 306, 311, 316, 321, 326, 333, 340, 479, 488, 493, 589, 600, 607, 614, 621, 626, 633, 640, 645, 650, 657, 662, 667, 672, 677, 682, 0, 20, 30, 52, 73, 94, 115, 136, 157, 178, 199, 208, 213, 218, 223, 228, 235, 240, 247, 252, 259, 266, 273, 278, 285, 292, 298, 305, 310, 315, 320, 325, 332, 339, 478, 487, 492, 588, 599, 606, 613, 620, 625, 632, 639, 644, 649, 656, 661, 666, 671, 676, 681, 15, 16, 17, 18, 19, 29, 32, 50, 51, 71, 72, 92, 93, 113, 114, 134, 135, 155, 156, 176, 177, 197, 198, 203, 204, 205, 206, 207, 210, 211, 212, 215, 216, 217, 220, 221, 222, 225, 226, 227, 230, 231, 232, 233, 234, 237, 238, 239, 242, 243, 244, 245, 246, 249, 250, 251, 254, 255, 256, 257, 258, 261, 262, 263, 264, 265, 268, 269, 270, 271, 272, 275, 276, 277, 280, 281, 282, 283, 284, 287, 288, 289, 290, 291, 295, 296, 297, 300, 301, 302, 303, 304, 307, 308, 309, 312, 313, 314, 317, 318, 319, 322, 323, 324, 327, 328, 329, 330, 331, 334, 335, 336, 337, 338, 355, 363, 371, 379, 387, 394, 401, 408, 413, 420, 427, 434, 441, 448, 455, 462, 469, 476, 477, 480, 481, 484, 485, 486, 489, 490, 491, 507, 514, 523, 530, 537, 544, 551, 558, 565, 572, 579, 586, 587, 590, 591, 594, 595, 596, 597, 598, 601, 602, 603, 604, 605, 608, 609, 610, 611, 612, 615, 616, 617, 618, 619, 622, 623, 624, 627, 628, 629, 630, 631, 634, 635, 636, 637, 638, 641, 642, 643, 646, 647, 648, 651, 652, 653, 654, 655, 658, 659, 660, 663, 664, 665, 668, 669, 670, 673, 674, 675, 678, 679, 680, 49, 38, 70, 59, 91, 80, 112, 101, 133, 122, 154, 143, 175, 164, 196, 185, 354, 348, 362, 370, 378, 386, 393, 400, 407, 412, 419, 426, 433, 440, 447, 454, 461, 468, 475, 506, 512, 513, 522, 529, 536, 543, 550, 557, 564, 571, 578, 585, 44, 45, 46, 47, 48, 65, 66, 67, 68, 69, 86, 87, 88, 89, 90, 107, 108, 109, 110, 111, 128, 129, 130, 131, 132, 149, 150, 151, 152, 153, 170, 171, 172, 173, 174, 191, 192, 193, 194, 195, 349, 350, 351, 352, 353, 361, 369, 377, 385, 388, 389, 390, 391, 392, 395, 396, 397, 398, 399, 402, 403, 404, 405, 406, 409, 410, 411, 414, 415, 416, 417, 418, 421, 422, 423, 424, 425, 428, 429, 430, 431, 432, 435, 436, 437, 438, 439, 442, 443, 444, 445, 446, 449, 450, 451, 452, 453, 456, 457, 458, 459, 460, 463, 464, 465, 466, 467, 470, 471, 472, 473, 474, 501, 502, 503, 504, 505, 511, 515, 521, 524, 525, 526, 527, 528, 531, 532, 533, 534, 535, 538, 539, 540, 541, 542, 545, 546, 547, 548, 549, 552, 553, 554, 555, 556, 559, 560, 561, 562, 563, 566, 567, 568, 569, 570, 573, 574, 575, 576, 577, 580, 581, 582, 583, 584, 356, 357, 358, 359, 360, 364, 365, 366, 367, 368, 372, 373, 374, 375, 376, 380, 381, 382, 383, 384, 508, 509, 510, 516, 517, 518, 519, 520, 2]
abbrev hk : PySem.W.Hook := hookZ adrs R.chk (R.L.map (·.da))
def ob (s : PySem.W.SharedT) : AlR := obZ adrs R.chk (R.L.map (·.da)) s
theorem ob_eq (s : PySem.W.SharedT) : ob s = hk.obs s.abs := obZ_eq s
theorem run1 (w : World) : Run1 Ro 60000 w := by
  intro os
  kernel_rfl
theorem run2 (w : World) : Run2 Ro (PySem.W.view Ro.prog [67]) 60000 loose w := by
  intro os
  kernel_rfl
theorem run3 (w : World) : Run3 Ro hk ob 60000 w := by
  intro os
  kernel_rfl
theorem run (w : World) : HandSHeadRun.RunEq Ro (PySem.W.view Ro.prog [67]) hk ob 60000 loose w := runEq_of3 (run1 w) (run2 w) (run3 w)
end K20

/-! k20: the end, from the evaluator's answer. -/
namespace K20
open PySem PySem.Spec PyProof.Rows L2 Rv
abbrev T : Tab := R.T codes
theorem conTup {K : PySem.W.Frag} {mg : Str → Option Value} {x : Str} {vs : List Val} (c : conOk K (x, .tup vs) = true) (F : Hp) : RV K mg F (.tup vs) (.ref (He.ga K x)) := by
  replace c : ((He.Fa.glo x).ok K && (He.tupB K x (vs.map dvOf) && (vs.all flatV && decide (vs.length ≤ 1000)))) = true := c
  simp only [Bool.and_eq_true, decide_eq_true_eq] at c
  obtain ⟨c1, c2, c3, c4⟩ := c
  refine .tup (He.tupB_ok c2 F) ?_ (flats_rv c3)
  rw [List.length_map, List.length_map, sizeLine_eq]
  omega
theorem binds {K : PySem.W.Frag} {mg : Str → Option Value} {h : Heap} (X : K.In h) (Gh : h.Ns mainGlobals mg) (c : SaysR R.chk (R.L.map (·.da)) K) :
    ∀ df ∈ R.L, ∀ fd, FunD K df.d.name df.d.qual df.d.params df.d.body df.d.scope (df.d.dvs K) (df.d.kws K) (df.ad K) fd → (∀ F, RVs K mg F df.info.dflt (df.d.dvs K)) ∧ BindsAll K fd df.ps (df.d.dvs K) := by
  have lf : ∀ F, RV K mg F (.tup [.str "places"]) (.ref (He.ga K "LEAF")) := fun F => by
    have chk := c.chk
    unfold Wr.chk at chk
    simp only [Bool.and_eq_true] at chk
    have z := List.all_eq_true.mp chk.2.2.1 ("LEAF", .tup [.str "places"]) (by unfold R; repeat (first | exact List.mem_cons_self | apply List.mem_cons_of_mem))
    exact conTup z F
  have go : ∀ df ∈ L, (BA df ∧ df.d.dfl = [] ∧ df.info.dflt = []) ∨ df = d_Scan___init__ := by
    exact List.forall_mem_cons.mpr ⟨.inl ⟨b_is_number, rfl, rfl⟩, List.forall_mem_cons.mpr ⟨.inl ⟨b_are_numbers, rfl, rfl⟩, List.forall_mem_cons.mpr ⟨.inl ⟨b_plus, rfl, rfl⟩, List.forall_mem_cons.mpr ⟨.inl ⟨b_times, rfl, rfl⟩, List.forall_mem_cons.mpr ⟨.inl ⟨b_is_look, rfl, rfl⟩, List.forall_mem_cons.mpr ⟨.inl ⟨b_need_looks, rfl, rfl⟩, List.forall_mem_cons.mpr ⟨.inl ⟨b_opposite, rfl, rfl⟩, List.forall_mem_cons.mpr ⟨.inl ⟨b_need_place, rfl, rfl⟩, List.forall_mem_cons.mpr ⟨.inl ⟨b_cell_count, rfl, rfl⟩, List.forall_mem_cons.mpr ⟨.inl ⟨b_class_count, rfl, rfl⟩, List.forall_mem_cons.mpr ⟨.inl ⟨b_class_at, rfl, rfl⟩, List.forall_mem_cons.mpr ⟨.inl ⟨b_rests_at, rfl, rfl⟩, List.forall_mem_cons.mpr ⟨.inl ⟨b_is_parting, rfl, rfl⟩, List.forall_mem_cons.mpr ⟨.inl ⟨b_is_node, rfl, rfl⟩, List.forall_mem_cons.mpr ⟨.inl ⟨b_below, rfl, rfl⟩, List.forall_mem_cons.mpr ⟨.inl ⟨b_is_tree, rfl, rfl⟩, List.forall_mem_cons.mpr ⟨.inl ⟨b_node_count, rfl, rfl⟩, List.forall_mem_cons.mpr ⟨.inl ⟨b_group_at, rfl, rfl⟩, List.forall_mem_cons.mpr ⟨.inl ⟨b_sign_of, rfl, rfl⟩, List.forall_mem_cons.mpr ⟨.inr rfl, List.forall_mem_cons.mpr ⟨.inl ⟨b_Scan_divisors, rfl, rfl⟩, List.forall_mem_cons.mpr ⟨.inl ⟨b_Scan_directions, rfl, rfl⟩, List.forall_mem_cons.mpr ⟨.inl ⟨b_Scan___call__, rfl, rfl⟩, List.forall_mem_cons.mpr ⟨.inl ⟨b_is_word, rfl, rfl⟩, List.forall_mem_cons.mpr ⟨.inl ⟨b_word_of, rfl, rfl⟩, List.forall_mem_cons.mpr ⟨.inl ⟨b_Table___init__, rfl, rfl⟩, List.forall_mem_cons.mpr ⟨.inl ⟨b_Table_of, rfl, rfl⟩, List.forall_mem_cons.mpr ⟨.inl ⟨b_Table_divisors, rfl, rfl⟩, List.forall_mem_cons.mpr ⟨.inl ⟨b_Table_sees, rfl, rfl⟩, List.forall_mem_cons.mpr ⟨.inl ⟨b_Table_clashes, rfl, rfl⟩, List.forall_mem_cons.mpr ⟨.inl ⟨b__law_bag, rfl, rfl⟩, List.forall_mem_cons.mpr ⟨.inl ⟨b__law_pull, rfl, rfl⟩, List.forall_mem_cons.mpr ⟨.inl ⟨b__law_of, rfl, rfl⟩, List.forall_mem_cons.mpr ⟨.inl ⟨b__law_mixed, rfl, rfl⟩, List.forall_mem_cons.mpr ⟨.inl ⟨b__law_same, rfl, rfl⟩, List.forall_mem_cons.mpr ⟨.inl ⟨b__law_count, rfl, rfl⟩, List.forall_mem_cons.mpr ⟨.inl ⟨b__law_class, rfl, rfl⟩, List.forall_mem_cons.mpr ⟨.inl ⟨b__law_cells, rfl, rfl⟩, List.forall_mem_cons.mpr ⟨.inl ⟨b__law_plus, rfl, rfl⟩, List.forall_mem_cons.mpr ⟨.inl ⟨b__law_divisors, rfl, rfl⟩, List.forall_mem_cons.mpr ⟨.inl ⟨b__law_parts, rfl, rfl⟩, List.forall_mem_cons.mpr ⟨.inl ⟨b__law_tree, rfl, rfl⟩, List.forall_mem_cons.mpr ⟨.inl ⟨b__law_looks, rfl, rfl⟩, List.forall_mem_cons.mpr ⟨.inl ⟨b__law_words, rfl, rfl⟩, List.forall_mem_cons.mpr ⟨.inl ⟨b_law, rfl, rfl⟩, fun _ h => nomatch h⟩⟩⟩⟩⟩⟩⟩⟩⟩⟩⟩⟩⟩⟩⟩⟩⟩⟩⟩⟩⟩⟩⟩⟩⟩⟩⟩⟩⟩⟩⟩⟩⟩⟩⟩⟩⟩⟩⟩⟩⟩⟩⟩⟩⟩
  intro df hdf fd F
  rcases go df hdf with ⟨h1, h2, h3⟩ | rfl
  · exact ba_ok h1 h2 h3 F
  · exact ba1_ok b_Scan___init__ (dv := .glo "LEAF") (v := .tup [.str "places"]) rfl rfl lf (by decide) F
theorem law_in : d_law ∈ R.L := by
  show d_law ∈ L
  unfold L; repeat (first | exact List.mem_cons_self | apply List.mem_cons_of_mem)
end K20

namespace Rv
open PySem PySem.Spec PyProof.Rows L2
theorem walk_ofEW {l : PySem.W.OpenLaw} {n k : Nat} {q : Program} {loose : List Str} {XP : (Str → Option Value) → Heap → Prop} {YP : World → Heap → Prop} {d : DefRec} {CX : World → CXT} {x : Str}
    (hn : l.most = some n) (hn2 : n ≤ sizeLine) (hdf : d.params.defaults = []) (hr : Room k callerA)
    (F : ∀ (w : World) (mg : Str → Option Value) (fa : Addr) (h : Heap), YP w h → h.Ns mainGlobals mg → mg d.name = some (.ref fa) →
      ∃ (K : PySem.W.Frag) (fd : FuncData) (sp : Sp), K.In h ∧ (∀ (s : Shared) (u : Value), BindsTo s fd ⟨[u], []⟩ [(x, u)]) ∧
        (∀ (H : Hp) (a : Addr) (ns : List Int), ns.length ≤ n → Only H → SqL K H a (ns.map V.int) → sp [.ref a] H (fun v _ => v = .bl true) fun _ _ _ => False) ∧
        ∀ base : Heap, K.In base → base.Ns mainGlobals mg → FnOk l.prog w K mg base (CX w) k fa fd [x] sp)
    (hCX : ∀ (w : World) (H : Hp) (s : Shared) (e : Value) (s' : Shared), CX w [] H s (fun _ _ _ => False) e s' → False) :
    PySem.W.WalkO q loose XP YP l.row.toRowW d [] (fun f vs => PySem.call f vs) := by
  refine Att.attach_call hn hdf fun w s₀ s₁ mg mb fa o pm cd doc a vs ns G Y ho hd hcd hmg hobj hints hlen hg => ?_
  obtain ⟨K, fd, sp, KX, hb, hsp, hF⟩ := F w mg fa _ Y G.T.g hmg
  exact law_call KX G.T.g G.T.b G.T.builtins G.T.nolimit hg hobj hints (Nat.le_trans hlen hn2) hr hF hb (fun H hO hS => hsp H a ns hlen hO hS) fun H e s' => hCX w H s₁ e s'
theorem cx_no {P : Program} (w : World) (H : Hp) (s : Shared) (e : Value) (s' : Shared) (x : L2.CX P w [] H s (fun _ _ _ => False) e s') : False := by
  obtain ⟨_, _, _, _, _, _, _, _, _, _, _, _, z⟩ := x
  exact z
end Rv
open PySem PySem.W PySem.Calls PyProof.Rows
theorem k20_of (hrun : ∀ ns : List Int, ns.length ≤ 63 → Rv.callN K20.T 14 "law" [.scr ns] = .ok (.bl true) []) : PySem.Challenge.rw_lookscan_k20_clashes_of_tables.Holds := by
  w_on; o_law
  refine HandSHeadRun.head_any (r := OpenLaw.row PySem.Challenge.rw_lookscan_k20_clashes_of_tables) (q := view (OpenLaw.row PySem.Challenge.rw_lookscan_k20_clashes_of_tables).prog [67]) (H := K20.hk) (ob := K20.ob) (M := 60000) (loose := K20.loose) (d := HandSHeadRun.topDef (OpenLaw.row PySem.Challenge.rw_lookscan_k20_clashes_of_tables).prog 67) (kwd := []) K20.ob_eq
    (by kernel_rfl) (fun s => by kernel_rfl) K20.run (by kernel_rfl) (by kernel_rfl) (by kernel_rfl) (by rfl) (by first | assumption | decide +kernel) (by decide +kernel) ⟨rfl, rfl, rfl, rfl, rfl, by decide +kernel⟩ ?hw ?hc
  case hw => w_witness2
  case hc =>
    refine Rv.walk_ofEW (l := PySem.Challenge.rw_lookscan_k20_clashes_of_tables) (n := 63) (k := 28) (x := "_law_script") (CX := fun w => L2.CX (PySem.Challenge.rw_lookscan_k20_clashes_of_tables).prog w) rfl (by decide) (by kernel_rfl) ⟨rfl, by decide, by decide⟩ ?F Rv.cx_no
    intro w mg fa h Y Gh hmg0
    obtain ⟨K, KX, c⟩ := Y
    have hmg : mg ("law" : PySem.Str) = some (.ref fa) := by
      have e : (HandSHeadRun.topDef (OpenLaw.row PySem.Challenge.rw_lookscan_k20_clashes_of_tables).prog 67).name = ("law" : PySem.Str) := by kernel_rfl
      rw [← e]
      exact hmg0
    have O := Rv.nok_of KX Gh c K20.wr_ok (K20.binds KX Gh c)
    have efa : K20.d_law.ad K = fa := by
      obtain ⟨df, hdf, hk, _, g⟩ := O.fns "law" [false] (by kernel_rfl)
      have e1 : K20.d_law.ad K = He.ga K "law" := rfl
      have chk := c.chk
      unfold Rv.Wr.chk at chk
      simp only [Bool.and_eq_true] at chk
      have z := List.all_eq_true.mp chk.1 K20.d_law K20.law_in
      have g2 := He.glo_ok KX Gh (show (He.Fa.glo "law").ok K = true from z)
      rw [hmg] at g2
      cases g2
      rfl
    obtain ⟨fd, F⟩ := c.def_ (d := K20.d_law.da) (List.mem_map_of_mem K20.law_in)
    have hb := fun (s : PySem.Shared) (u : PySem.Value) => L2.FunD.bindsA (ps := ["_law_script"]) F K20.b_law s [u] rfl
    refine ⟨K, fd, _, KX, hb, fun H a ns hl _ hS => Rv.law_sp (mg := mg) (I := K20.d_law.info) rfl rfl hrun H a ns hl hS, fun base hKb hNb => ?_⟩
    obtain ⟨fd', F', dvs, kws, f1, _⟩ := Rv.all_ok (P := (PySem.Challenge.rw_lookscan_k20_clashes_of_tables).prog) (w := w) (base := base) O 14 K20.d_law K20.law_in
    rw [efa] at F' f1
    obtain ⟨oc, od, dV, kV, doc, pm, an, cdv, ct, osl, e1, lk, _⟩ := F.ex
    obtain ⟨oc', od', dV', kV', doc', pm', an', cdv', ct', osl', e1', lk', _⟩ := f1.ex
    rw [show K20.d_law.da.at_ K = fa from efa] at lk
    rw [lk] at lk'
    cases lk'
    exact F'

namespace K20
open PySem Rv
instance : HasFn K20.T "is_number" k_is_number := ⟨by kernel_rfl⟩
instance : HasFn K20.T "are_numbers" k_are_numbers := ⟨by kernel_rfl⟩
instance : HasFn K20.T "times" k_times := ⟨by kernel_rfl⟩
instance : HasFn K20.T "need_place" k_need_place := ⟨by kernel_rfl⟩
instance : HasFn K20.T "cell_count" k_cell_count := ⟨by kernel_rfl⟩
instance : HasFn K20.T "class_count" k_class_count := ⟨by kernel_rfl⟩
instance : HasFn K20.T "class_at" k_class_at := ⟨by kernel_rfl⟩
instance : HasFn K20.T "is_parting" k_is_parting := ⟨by kernel_rfl⟩
instance : HasFn K20.T "is_node" k_is_node := ⟨by kernel_rfl⟩
instance : HasFn K20.T "below" k_below := ⟨by kernel_rfl⟩
instance : HasFn K20.T "is_tree" k_is_tree := ⟨by kernel_rfl⟩
instance : HasFn K20.T "node_count" k_node_count := ⟨by kernel_rfl⟩
instance : HasFn K20.T "group_at" k_group_at := ⟨by kernel_rfl⟩
instance : HasFn K20.T "sign_of" k_sign_of := ⟨by kernel_rfl⟩
instance : HasFn K20.T "Scan.__init__" k_Scan___init__ := ⟨by kernel_rfl⟩
instance : HasFn K20.T "Scan.__call__" k_Scan___call__ := ⟨by kernel_rfl⟩
instance : HasFn K20.T "_law_bag" k__law_bag := ⟨by kernel_rfl⟩
instance : HasFn K20.T "_law_pull" k__law_pull := ⟨by kernel_rfl⟩
instance : HasFn K20.T "_law_of" k__law_of := ⟨by kernel_rfl⟩
instance : HasFn K20.T "_law_mixed" k__law_mixed := ⟨by kernel_rfl⟩
instance : HasFn K20.T "_law_count" k__law_count := ⟨by kernel_rfl⟩
instance : HasFn K20.T "_law_plus" k__law_plus := ⟨by kernel_rfl⟩
instance : HasFn K20.T "_law_divisors" k__law_divisors := ⟨by kernel_rfl⟩
instance : HasFn K20.T "_law_parts" k__law_parts := ⟨by kernel_rfl⟩
instance : HasFn K20.T "_law_tree" k__law_tree := ⟨by kernel_rfl⟩
instance : HasFn K20.T "plus" k_plus := ⟨by kernel_rfl⟩
instance : HasFn K20.T "is_look" k_is_look := ⟨by kernel_rfl⟩
instance : HasFn K20.T "need_looks" k_need_looks := ⟨by kernel_rfl⟩
instance : HasFn K20.T "opposite" k_opposite := ⟨by kernel_rfl⟩
instance : HasFn K20.T "rests_at" k_rests_at := ⟨by kernel_rfl⟩
instance : HasFn K20.T "Scan.divisors" k_Scan_divisors := ⟨by kernel_rfl⟩
instance : HasFn K20.T "Scan.directions" k_Scan_directions := ⟨by kernel_rfl⟩
instance : HasFn K20.T "is_word" k_is_word := ⟨by kernel_rfl⟩
instance : HasFn K20.T "word_of" k_word_of := ⟨by kernel_rfl⟩
instance : HasFn K20.T "Table.__init__" k_Table___init__ := ⟨by kernel_rfl⟩
instance : HasFn K20.T "Table.of" k_Table_of := ⟨by kernel_rfl⟩
instance : HasFn K20.T "Table.divisors" k_Table_divisors := ⟨by kernel_rfl⟩
instance : HasFn K20.T "Table.sees" k_Table_sees := ⟨by kernel_rfl⟩
instance : HasFn K20.T "Table.clashes" k_Table_clashes := ⟨by kernel_rfl⟩
instance : HasFn K20.T "_law_same" k__law_same := ⟨by kernel_rfl⟩
instance : HasFn K20.T "_law_class" k__law_class := ⟨by kernel_rfl⟩
instance : HasFn K20.T "_law_cells" k__law_cells := ⟨by kernel_rfl⟩
instance : HasFn K20.T "_law_looks" k__law_looks := ⟨by kernel_rfl⟩
instance : HasFn K20.T "_law_words" k__law_words := ⟨by kernel_rfl⟩
instance : HasFn K20.T "law" k_law_k20 := ⟨by kernel_rfl⟩
instance : HasCon K20.T "MAX_DIRECTIONS" (.int 3) := ⟨by kernel_rfl⟩
instance : HasCon K20.T "MAX_CLASSES" (.int 12) := ⟨by kernel_rfl⟩
instance : HasCon K20.T "LEAF" (.tup [.str "places"]) := ⟨by kernel_rfl⟩
instance : HasCon K20.T "MAX_DEPTH" (.int 20) := ⟨by kernel_rfl⟩
instance : HasCon K20.T "MAX_NODES" (.int 200) := ⟨by kernel_rfl⟩
instance : HasCon K20.T "MAX_LOOKS" (.int 4) := ⟨by kernel_rfl⟩
instance : HasCon K20.T "MAX_REACH" (.int 9) := ⟨by kernel_rfl⟩
instance : HasMeth K20.T "Scan" "__init__" "Scan.__init__" := ⟨by kernel_rfl⟩
instance : HasMeth K20.T "Scan" "__call__" "Scan.__call__" := ⟨by kernel_rfl⟩
instance : HasProp K20.T "Scan" "divisors" "Scan.divisors" := ⟨by kernel_rfl⟩
instance : HasProp K20.T "Scan" "directions" "Scan.directions" := ⟨by kernel_rfl⟩
instance : HasMeth K20.T "Table" "__init__" "Table.__init__" := ⟨by kernel_rfl⟩
instance : HasCls K20.T "Table" "of" "Table.of" := ⟨by kernel_rfl⟩
instance : HasProp K20.T "Table" "divisors" "Table.divisors" := ⟨by kernel_rfl⟩
instance : HasMeth K20.T "Table" "sees" "Table.sees" := ⟨by kernel_rfl⟩
instance : HasMeth K20.T "Table" "clashes" "Table.clashes" := ⟨by kernel_rfl⟩
instance : ScanFld K20.T := ⟨by kernel_rfl, by kernel_rfl, by kernel_rfl, by kernel_rfl⟩
instance : TabFld K20.T := ⟨by kernel_rfl, by kernel_rfl, by kernel_rfl⟩
end K20
theorem PySem.Challenge.cw_lookscan_k20_clashes_of_tables_holds : PySem.Challenge.rw_lookscan_k20_clashes_of_tables.Holds :=
  k20_of fun ns _ => Rv.law20_ok (T := K20.T) (by decide)
