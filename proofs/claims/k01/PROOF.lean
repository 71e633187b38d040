import PyProof.Rows.All
import HandS.Base
import HandS.Call
import HandS.List
import HandS.Comp
import HandS.Exc
import HandS.ExcCtx
import HandS.Hot
import HandS.TryOnly
import HandS.ExcOwn
import HandS.ExcIs
import HandS.HotCalls
import HandS.Lambda
import HandS.Nested
import HandS.Iter
import HandS.Zip
import HandS.Walk
import HandS.Conv
import HandS.TupAny
import HandS.TupMul
import HandS.IsInst
import HandS.Wide
import HandS.Flow
import HandS.Style
import HandS.Defaults
import HandS.Text
import HandS.HeadHook4
import HandS.EndTab
import HandS.HeadWalk
import HandS.Ends
import KE.GoesMore
import KE.KRevSl
import HandS.Strs
import HandS.SetFor
import HandS.More
import HandS.Words
import HandS.WordsExc
import HandS.Head0
import HandS.Head1
import HandS.Head2
import HandS.HeadEnd
import HandS.HeadHook1
import HandS.HeadHook2
import HandS.HeadHook3
import PySem.Challenge.RW_leanmarks_k01_what_can_be_handed_in
set_option Elab.async false
set_option linter.all false
set_option maxRecDepth 100000
set_option maxHeartbeats 0
section
/-! A small pure interpreter for an IR of Python: values as trees. -/
namespace PL
open PySem

inductive Val where
  | non | bl (b : Bool) | int (i : Int) | str (x : Str)
  | tup (l : List Val) | lst (l : List Val)
  | fn (i : Nat) | cell (i : Nat)
  | scr (ns : List Int)
  deriving Inhabited
/-- what is handed on of lambdas: a lambda with what it captured, a list of such -/
inductive Ex where
  | one (k : Nat) (caps : List Val) | many (l : List (Nat × List Val))
inductive Ar where
  | v (u : Val) | x (y : Ex)

inductive Cell where
  | lst (l : List Val)
  | obj (c : Nat) (fs : List (Nat × Val))
abbrev Ks := List Cell

inductive R (α : Type) where
  | ok (a : α) | exc (c : Nat) (p : Val) (k : Ks) | bad

namespace R
def bind {α β : Type} (r : R α) (f : α → R β) : R β := match r with
  | .ok a => f a
  | .exc c p k => .exc c p k
  | .bad => .bad
@[simp] theorem bind_ok {α β : Type} (a : α) (f : α → R β) : (R.ok a).bind f = f a := rfl
@[simp] theorem bind_exc {α β : Type} (c p k) (f : α → R β) : (R.exc c p k).bind f = .exc c p k := rfl
@[simp] theorem bind_bad {α β : Type} (f : α → R β) : (R.bad : R α).bind f = .bad := rfl
def ofO {α : Type} : Option α → R α
  | some a => .ok a
  | none => .bad
@[simp] theorem ofO_some {α : Type} (a : α) : ofO (some a) = .ok a := rfl
@[simp] theorem ofO_none {α : Type} : ofO (none : Option α) = .bad := rfl
end R

inductive Slot where
  | val (v : Val) | own (l : List Val) | cls (l : List (Nat × List Nat)) | ext (x : Ex) | pin
abbrev Rho := List (Option Slot)

/-! ### values -/
mutual
def toData : Val → Option PyData
  | .non => some .none
  | .bl b => some (.bool b)
  | .int i => some (.int i)
  | .str x => some (.str x)
  | .tup l => (toDatas l).map .tuple
  | .lst l => (toDatas l).map .list
  | _ => none
def toDatas : List Val → Option (List PyData)
  | [] => some []
  | v :: vs => match toData v, toDatas vs with
    | some d, some ds => some (d :: ds)
    | _, _ => none
end
/-- == of data -/
def eqD (a b : Val) : Option Bool := match toData a, toData b with
  | some d, some e => if SeqAt.shaped d && SeqAt.shaped e then some (PyData.eqv d e) else none
  | _, _ => none

def isFlat : Val → Bool
  | .non => true | .bl _ => true | .int _ => true | .str _ => true
  | _ => false
def eqF : Val → Val → Bool
  | .non, .non => true
  | .bl a, .bl b => a == b
  | .bl a, .int b => (if a then 1 else 0) == b
  | .int a, .bl b => a == (if b then 1 else 0)
  | .int a, .int b => a == b
  | .str a, .str b => a == b
  | _, _ => false

/-- the bound of what is multiplied -/
@[irreducible] def BIG : Nat := 2 ^ 65536
theorem BIG_eq : BIG = 2 ^ 65536 := by unfold BIG; rfl
def mulOk (i j : Int) : Bool := (decide (i.natAbs < 2 ^ 64) || decide (j.natAbs < 2 ^ 64)) || (decide (i.natAbs < BIG) && decide (j.natAbs < BIG))
def divOk (j : Int) : Bool := decide (0 < j) && decide (j.natAbs < 2 ^ 9000)

inductive Op where
  | add | sub | mul | fdiv | mod | pow
  deriving DecidableEq
inductive Cm where
  | eq | ne | lt | le | gt | ge | is_ | isnot | in_ | notin
  deriving DecidableEq

abbrev LINE : Nat := 16777216

def opV : Op → Val → Val → Option Val
  | .add, .int i, .int j => some (.int (i + j))
  | .add, .str x, .str y => if x.length + y.length ≤ LINE then some (.str (x ++ y)) else none
  | .add, .tup x, .tup y => if x.length + y.length ≤ LINE then some (.tup (x ++ y)) else none
  | .add, .lst x, .lst y => if x.length + y.length ≤ LINE then some (.lst (x ++ y)) else none
  | .sub, .int i, .int j => some (.int (i - j))
  | .mul, .int i, .int j => if mulOk i j then some (.int (i * j)) else none
  | .mul, .lst x, .int j => if decide (j < 1000) && decide (-1000 < j) && decide (x.length ≤ 1000) then some (.lst (List.replicate j.toNat x).flatten) else none
  | .mul, .tup x, .int j => if decide (1 < j) && decide (j < 1000) && decide (0 < x.length) && decide (x.length ≤ 1000) then some (.tup (List.replicate j.toNat x).flatten) else none
  | .fdiv, .int i, .int j => if divOk j then some (.int (i / j)) else none
  | .mod, .int i, .int j => if decide (0 < j) then some (.int (i % j)) else none
  | .pow, .int i, .int j => if decide (0 ≤ j) && decide (j ≤ 1000) && decide (i.natAbs < 2 ^ 64) then some (.int (i ^ j.toNat)) else none
  | _, _, _ => none

/-- lists put together, or repeated -/
def addL : Val → Val → Option Val
  | .lst x, .lst y => if x.length + y.length ≤ LINE then some (.lst (x ++ y)) else none
  | _, _ => none
def mulL : Val → Val → Option Val
  | .lst x, .int j => if decide (j < 1000) && decide (-1000 < j) && decide (x.length ≤ 1000) then some (.lst (List.replicate j.toNat x).flatten) else none
  | _, _ => none
def isNonV : Val → Bool
  | .non => true
  | _ => false
def cmV : Cm → Val → Val → Option Bool
  | .eq, a, b => eqD a b
  | .ne, a, b => (eqD a b).map (!·)
  | .lt, .int i, .int j => some (decide (i < j))
  | .le, .int i, .int j => some (decide (i ≤ j))
  | .gt, .int i, .int j => some (decide (j < i))
  | .ge, .int i, .int j => some (decide (j ≤ i))
  | .is_, a, .non => some (isNonV a)
  | .isnot, a, .non => some (!isNonV a)
  | .is_, .bl a, .bl b => some (a == b)
  | .isnot, .bl a, .bl b => some (a != b)
  | .in_, a, .lst l => if isFlat a && l.all isFlat then some (l.any fun y => eqF y a) else none
  | .in_, a, .tup l => if isFlat a && l.all isFlat then some (l.any fun y => eqF y a) else none
  | .notin, a, .lst l => if isFlat a && l.all isFlat then some (!l.any fun y => eqF y a) else none
  | .notin, a, .tup l => if isFlat a && l.all isFlat then some (!l.any fun y => eqF y a) else none
  | _, _, _ => none

/-- a value's truth -/
def truV : Val → Option Bool
  | .non => some false
  | .bl b => some b
  | .int i => some (i != 0)
  | .str x => if x.length ≤ LINE then some ((x.length : Int) != 0) else none
  | .tup l => some (!l.isEmpty)
  | .lst l => some (!l.isEmpty)
  | _ => none

/-- xs[i] -/
def ixV (κ : Ks) : Val → Val → Option Val
  | .tup l, .int i => L2.atI l i
  | .lst l, .int i => L2.atI l i
  | .str z, .int i => if z.length ≤ LINE then (L2.atI z.cps.toList i).map fun c => .str ⟨#[c]⟩ else none
  | .cell k, .int i => match κ[k]? with
    | some (.lst l) => L2.atI l i
    | _ => none
  | .scr ns, .int i => (L2.atI ns i).map .int
  | _, _ => none

/-- xs[a:b] -/
def cutL (xs : List Val) (lo hi : Option Int) : List Val := (xs.drop (HT.sIx xs.length 0 lo)).take (HT.sIx xs.length xs.length hi - HT.sIx xs.length 0 lo)
def slV (v : Val) (lo hi : Option Int) : Option Val := match v with
  | .tup l => some (.tup (cutL l lo hi))
  | .lst l => some (.lst (cutL l lo hi))
  | _ => none

inductive Ty where
  | int | bool | str | tuple | list
  deriving DecidableEq
def isiV : Ty → Val → Option Bool
  | t, .non => some false
  | t, .bl _ => some (t == .int || t == .bool)
  | t, .int _ => some (t == .int)
  | t, .str _ => some (t == .str)
  | t, .tup _ => some (t == .tuple)
  | t, .lst _ => some (t == .list)
  | _, _ => none

inductive Bi where
  | len | abs | min2 | max2 | int | bool | str | tuple | list | all | any
  deriving DecidableEq

def blsOf : List Val → Option (List Bool)
  | [] => some []
  | .bl b :: l => (blsOf l).map (b :: ·)
  | _ => none
def intsOf : List Val → Option (List Int)
  | [] => some []
  | .int b :: l => (intsOf l).map (b :: ·)
  | _ => none

def biV : Bi → List Val → Option Val
  | .len, [.tup l] => some (.int l.length)
  | .len, [.lst l] => some (.int l.length)
  | .len, [.scr l] => some (.int l.length)
  | .len, [.str z] => if z.length ≤ LINE then some (.int z.length) else none
  | .abs, [.int i] => some (.int (if i < 0 then -i else i))
  | .min2, [.int i, .int j] => some (.int (if j < i then j else i))
  | .max2, [.int i, .int j] => some (.int (if j > i then j else i))
  | .int, [.int i] => some (.int i)
  | .int, [.bl b] => some (.int (if b then 1 else 0))
  | .tuple, [.tup l] => some (.tup l)
  | .tuple, [.lst l] => some (.tup l)
  | .list, [.tup l] => some (.lst l)
  | .list, [.lst l] => some (.lst l)
  | .all, [.lst l] => (blsOf l).map fun bs => .bl (bs.all id)
  | .any, [.lst l] => (blsOf l).map fun bs => .bl (bs.any id)
  | .str, [.int i] => if i.natAbs < 2 ^ 64 then some (.str (toString i)) else none
  | _, _ => none

/-- what is walked -/
def itemsV : Val → Option (List Val)
  | .tup l => some l
  | .lst l => some l
  | _ => none
def enumL (l : List Val) : List Val := (List.range l.length).zip l |>.map fun p => .tup [.int (p.1 : Nat), p.2]
def zipL (l m : List Val) : List Val := (l.zip m).map fun p => .tup [p.1, p.2]
def rngL (a b : Int) : List Val := (List.range (b - a).toNat).map fun i => .int (a + (i : Nat))
def rngOk (a b : Int) : Bool := decide (-1000000 ≤ a) && decide (a ≤ 1000000) && decide (-1000000 ≤ b) && decide (b ≤ 1000000)
def zipV : Val → Val → Option (List Val)
  | .lst l, .lst m => some (zipL l m)
  | .tup l, .tup m => some (zipL l m)
  | _, _ => none
def rngV1 : List Val → Option (List Val)
  | [.int j] => if rngOk 0 j then some (rngL 0 j) else none
  | _ => none
def rngV2 : List Val → Option (List Val)
  | [.int i, .int j] => if rngOk i j then some (rngL i j) else none
  | _ => none
def rngV3 : List Val → Option (List Val)
  | [.int i, .int j, .int (-1)] => if rngOk i j then some ((List.range (i - j).toNat).map fun (n : Nat) => .int (i + (n : Nat) * (-1))) else none
  | _ => none

/-! ### the IR -/
mutual
inductive Tg where
  | nm (i : Nat) | tp (l : Tgs)
inductive Tgs where
  | nil | cons (t : Tg) (l : Tgs)
end
/-- a list of lambdas: a display, a name, a sum -/
inductive Cl where
  | lams (l : List (Nat × List Nat))
  | var (i : Nat)
  | add (a b : Cl)
inductive Sm where
  | join | split | partition | index | count
  deriving DecidableEq
mutual
inductive E where
  | con (v : Val) | glob (k : Nat) (v : Val) | var (i : Nat) | bor (i : Nat) | fnv (f : Nat)
  | op (o : Op) (a b : E) | addL (a b : E) | mulL (a b : E) | cm (o : Cm) (a b : E) | chain (o o' : Cm) (a b c : E) | neg (a : E)
  | and (a b : E) | or (a b : E) | not (a : E) | ite (t : T) (a b : E)
  | tup (es : Es) | lst (es : Es)
  | ix (a b : E) | sl (a : E) (lo hi : Oe) | rev (a : E) | sset (a : E)
  | call (f : Nat) (es : As) | bi (b : Bi) (es : Es) | isi (t : Ty) (a : E)
  | comp (elt : E) (tg : Tg) (it : It) (cond : Ot) (own : List Nat)
  | callv (i : Nat) | filt (tg src : Nat) (cond : T)
  | sm (m : Sm) (a b : E)
inductive Es where
  | nil | cons (e : E) (es : Es)
inductive As where
  | nil | cons (e : E) (es : As) | ext (i : Nat) (es : As) | clos (c : Cl) (es : As) | clo1 (k : Nat) (js : List Nat) (es : As)
inductive Oe where
  | no | yes (e : E)
inductive T where
  | val (e : E) | cm (o : Cm) (a b : E) | chain (o o' : Cm) (a b c : E) | and (a b : T) | or (a b : T) | not (a : T)
inductive Ot where
  | no | yes (t : T)
inductive It where
  | seq (e : E) | rng1 (l : Es) | rng2 (l : Es) | rng3 (l : Es) | enum (e : E) | zip (a b : E)
end
mutual
inductive S where
  | set (i : Nat) (e : E) | own (i : Nat) (e : E) | cel (i : Nat) (e : E) | asg (tg : Tg) (e : E) | setC (i : Nat) (c : Cl)
  | par (l : List (Nat × Bool)) (es : Es)
  | expr (e : E) | append (i : Nat) (e : E) | pop (i : Nat) | seti (i : Nat) (a e : E) | augi (i : Nat) (a : E) (o : Op) (e : E) | cseti (o a e : E)
  | ite (t : T) (a b : Ss) | loop (tg : Tg) (it : It) (b : Ss) | while (t : T) (b : Ss)
  | ret (e : E) | raise (c : Nat) | came (i : Nat) | dg (i : Nat) | never
inductive Ss where
  | nil | cons (s : S) (l : Ss)
end

/-! ### what the pieces do -/
structure CB where
  cf : Nat → List Ar → Ks → R (Val × Ks)
  cl : Nat → List Val → Ks → R (Val × Ks)
  /-- the names of an error's classes -/
  kin : Nat → Str

def rdV (ρ : Rho) (i : Nat) : Option Val := match ρ[i]? with
  | some (some (.val v)) => some v
  | _ => none
def rdB (ρ : Rho) (i : Nat) : Option Val := match ρ[i]? with
  | some (some (.val v)) => some v
  | some (some (.own l)) => some (.lst l)
  | _ => none
def rdO (ρ : Rho) (i : Nat) : Option (List Val) := match ρ[i]? with
  | some (some (.own l)) => some l
  | _ => none
def wipeR (ρ : Rho) : List Nat → Rho
  | [] => ρ
  | v :: vs => (wipeR ρ vs).set v none
mutual
def setTg : Tg → Val → Rho → Option Rho
  | .nm i, v, ρ => if i < ρ.length then some (ρ.set i (some (.val v))) else none
  | .tp l, .tup vs, ρ => setTgs l vs ρ
  | .tp l, .lst vs, ρ => setTgs l vs ρ
  | .tp _, _, _ => none
def setTgs : Tgs → List Val → Rho → Option Rho
  | .nil, [], ρ => some ρ
  | .cons t l, v :: vs, ρ => match setTg t v ρ with
    | some ρ' => setTgs l vs ρ'
    | none => none
  | _, _, _ => none
end
def capsOf (ρ : Rho) : List Nat → Option (List Val)
  | [] => some []
  | j :: js => match rdV ρ j, capsOf ρ js with
    | some v, some vs => some (v :: vs)
    | _, _ => none

def clsOf (ρ : Rho) : Cl → Option (List (Nat × List Nat))
  | .lams l => if l.length ≤ LINE then some l else none
  | .var i => match ρ[i]? with
    | some (some (.cls l)) => some l
    | _ => none
  | .add a b => match clsOf ρ a, clsOf ρ b with
    | some x, some y => if x.length + y.length ≤ LINE then some (x ++ y) else none
    | _, _ => none
def eclosOf (ρ : Rho) : List (Nat × List Nat) → Option (List (Nat × List Val))
  | [] => some []
  | p :: l => match capsOf ρ p.2, eclosOf ρ l with
    | some v, some vs => some ((p.1, v) :: vs)
    | _, _ => none
def rdX (ρ : Rho) (i : Nat) : Option Ex := match ρ[i]? with
  | some (some (.ext x)) => some x
  | _ => none

/-- in a comprehension nothing is raised -/
def noExc {α : Type} : R α → R α
  | .exc _ _ _ => .bad
  | r => r
def compL : List Val → (Val → Ks → R (Option Val × Ks)) → Ks → R (List Val × Ks)
  | [], _, κ => .ok ([], κ)
  | v :: vs, f, κ => (f v κ).bind fun p => (compL vs f p.2).bind fun q => .ok (p.1.elim q.1 (· :: q.1), q.2)

/-- no lambda of a list passes the test -/
def filtL : List (Nat × List Val) → (Nat → List Val → Ks → R (Bool × Ks)) → Ks → R Ks
  | [], _, κ => .ok κ
  | p :: l, f, κ => (f p.1 p.2 κ).bind fun b => if b.1 = true then .bad else filtL l f b.2

inductive O where
  | nx (ρ : Rho) (κ : Ks) | ret (v : Val) (κ : Ks) | exc (c : Nat) (p : Val) (κ : Ks) | bad
def R.toO {α : Type} (r : R α) (f : α → O) : O := match r with
  | .ok a => f a
  | .exc c p k => .exc c p k
  | .bad => .bad
@[simp] theorem R.toO_ok {α : Type} (a : α) (f : α → O) : (R.ok a).toO f = f a := rfl
@[simp] theorem R.toO_exc {α : Type} (c p k) (f : α → O) : (R.exc c p k).toO f = .exc c p k := rfl
@[simp] theorem R.toO_bad {α : Type} (f : α → O) : (R.bad : R α).toO f = .bad := rfl
def O.then (o : O) (f : Rho → Ks → O) : O := match o with
  | .nx ρ κ => f ρ κ
  | o => o
@[simp] theorem O.then_nx (ρ κ) (f : Rho → Ks → O) : (O.nx ρ κ).then f = f ρ κ := rfl
@[simp] theorem O.then_ret (v κ) (f : Rho → Ks → O) : (O.ret v κ).then f = .ret v κ := rfl
@[simp] theorem O.then_exc (c p κ) (f : Rho → Ks → O) : (O.exc c p κ).then f = .exc c p κ := rfl
@[simp] theorem O.then_bad (f : Rho → Ks → O) : O.bad.then f = .bad := rfl
def O.fin : O → R (Val × Ks)
  | .nx _ κ => .ok (.non, κ)
  | .ret v κ => .ok (v, κ)
  | .exc c p κ => .exc c p κ
  | .bad => .bad
@[simp] theorem O.fin_nx (ρ κ) : (O.nx ρ κ).fin = .ok (.non, κ) := rfl
@[simp] theorem O.fin_ret (v κ) : (O.ret v κ).fin = .ok (v, κ) := rfl
@[simp] theorem O.fin_exc (c p κ) : (O.exc c p κ).fin = .exc c p κ := rfl
@[simp] theorem O.fin_bad : O.bad.fin = .bad := rfl

def loopL : List Val → (Val → Rho → Ks → O) → Rho → Ks → O
  | [], _, ρ, κ => .nx ρ κ
  | v :: vs, f, ρ, κ => (f v ρ κ).then fun ρ' κ' => loopL vs f ρ' κ'
def whileL : Nat → (Rho → Ks → R (Bool × Ks)) → (Rho → Ks → O) → Rho → Ks → O
  | 0, _, _, _, _ => .bad
  | n + 1, t, b, ρ, κ => (t ρ κ).toO fun p => if p.1 = true then (b ρ p.2).then fun ρ' κ' => whileL n t b ρ' κ' else .nx ρ p.2

/-- a borrowed operand -/
def bw (e : E) (ρ : Rho) (κ : Ks) (r : R (Val × Ks)) : R (Val × Ks) := match e with
  | .bor i => R.ofO ((rdB ρ i).map fun v => (v, κ))
  | _ => r
def strsOf : List Val → Option (List Str)
  | [] => some []
  | .str x :: l => (strsOf l).map (x :: ·)
  | _ => none
def strV : Val → Option Str
  | .str x => some x
  | _ => none
def smV : Sm → Str → Val → Option Val
  | .split, a, .str b => if (b.length == 0) = false ∧ a.length + 2 ≤ LINE then some (.lst ((Txt.split a b).map .str)) else none
  | .join, a, .lst l => match strsOf l with
    | some ys => if (ys.map (·.length)).sum + ys.length * a.length ≤ LINE then some (.str (Txt.join a ys)) else none
    | none => none
  | _, _, _ => none
def ntV : Val → Option Val
  | .bl b => some (.bl (!b))
  | _ => none
def blV : Val → Option Bool
  | .bl b => some b
  | _ => none
def intV : Val → Option Int
  | .int i => some i
  | _ => none
def ngV : Val → Option Val
  | .int i => some (.int (-i))
  | _ => none
def rvV : Val → Option Val
  | .lst l => some (.lst l.reverse)
  | .tup l => some (.tup l.reverse)
  | _ => none

/-- ascending, each once -/
def insD (x : Int) : List Int → List Int
  | [] => [x]
  | y :: l => if x < y then x :: y :: l else if x = y then y :: l else y :: insD x l
def sdd : List Int → List Int
  | [] => []
  | x :: l => insD x (sdd l)
/-- sorted(set(t)) -/
def ssV : Val → Option Val
  | .tup l => match intsOf l with
    | some ns => if ns.length ≤ 60 then some (.lst ((sdd ns).map .int)) else none
    | none => none
  | _ => none

mutual
def evE (c : CB) : E → Rho → Ks → R (Val × Ks)
  | .con v, _, κ => .ok (v, κ)
  | .glob _ v, _, κ => .ok (v, κ)
  | .var i, ρ, κ => R.ofO ((rdV ρ i).map fun v => (v, κ))
  | .bor _, _, _ => .bad
  | .fnv f, _, κ => .ok (.fn f, κ)
  | .op o a b, ρ, κ => (bw a ρ κ (evE c a ρ κ)).bind fun p => (bw b ρ p.2 (evE c b ρ p.2)).bind fun q => R.ofO ((opV o p.1 q.1).map fun v => (v, q.2))
  | .addL a b, ρ, κ => (bw a ρ κ (evE c a ρ κ)).bind fun p => (bw b ρ p.2 (evE c b ρ p.2)).bind fun q => R.ofO ((addL p.1 q.1).map fun v => (v, q.2))
  | .mulL a b, ρ, κ => (bw a ρ κ (evE c a ρ κ)).bind fun p => (bw b ρ p.2 (evE c b ρ p.2)).bind fun q => R.ofO ((mulL p.1 q.1).map fun v => (v, q.2))
  | .cm o a b, ρ, κ => (bw a ρ κ (evE c a ρ κ)).bind fun p => (bw b ρ p.2 (evE c b ρ p.2)).bind fun q => R.ofO ((cmV o p.1 q.1).map fun v => (.bl v, q.2))
  | .chain o o' a b d, ρ, κ => (evE c a ρ κ).bind fun p => (evE c b ρ p.2).bind fun q => (R.ofO (cmV o p.1 q.1)).bind fun k =>
      if k = true then (evE c d ρ q.2).bind fun r => R.ofO ((cmV o' q.1 r.1).map fun v => (.bl v, r.2)) else .ok (.bl false, q.2)
  | .neg a, ρ, κ => (evE c a ρ κ).bind fun p => R.ofO ((ngV p.1).map fun v => (v, p.2))
  | .and a b, ρ, κ => (evE c a ρ κ).bind fun p => (R.ofO (blV p.1)).bind fun k => if k = true then evE c b ρ p.2 else .ok (.bl false, p.2)
  | .or a b, ρ, κ => (evE c a ρ κ).bind fun p => (R.ofO (blV p.1)).bind fun k => if k = true then .ok (.bl true, p.2) else evE c b ρ p.2
  | .not a, ρ, κ => (evE c a ρ κ).bind fun p => R.ofO ((ntV p.1).map fun v => (v, p.2))
  | .ite t a b, ρ, κ => (evT c t ρ κ).bind fun p => if p.1 = true then evE c a ρ p.2 else evE c b ρ p.2
  | .tup es, ρ, κ => (evEs c es ρ κ).bind fun p => if p.1.length ≤ LINE then .ok (.tup p.1, p.2) else .bad
  | .lst es, ρ, κ => (evEs c es ρ κ).bind fun p => if p.1.length ≤ LINE then .ok (.lst p.1, p.2) else .bad
  | .ix a b, ρ, κ => (bw a ρ κ (evE c a ρ κ)).bind fun p => (evE c b ρ p.2).bind fun q => R.ofO ((ixV q.2 p.1 q.1).map fun v => (v, q.2))
  | .sl a lo hi, ρ, κ => (bw a ρ κ (evE c a ρ κ)).bind fun p => (evO c lo ρ p.2).bind fun q => (evO c hi ρ q.2).bind fun r => R.ofO ((slV p.1 q.1 r.1).map fun v => (v, r.2))
  | .rev a, ρ, κ => (bw a ρ κ (evE c a ρ κ)).bind fun p => R.ofO ((rvV p.1).map fun v => (v, p.2))
  | .sset a, ρ, κ => (bw a ρ κ (evE c a ρ κ)).bind fun p => R.ofO ((ssV p.1).map fun v => (v, p.2))
  | .call f es, ρ, κ => (evA c es ρ κ).bind fun p => c.cf f p.1 p.2
  | .bi b es, ρ, κ => (evBs c es ρ κ).bind fun p => R.ofO ((biV b p.1).map fun v => (v, p.2))
  | .isi t a, ρ, κ => (bw a ρ κ (evE c a ρ κ)).bind fun p => R.ofO ((isiV t p.1).map fun v => (.bl v, p.2))
  | .comp elt tg it cond own, ρ, κ => (evI c it ρ κ).bind fun p => (compL p.1 (fun v κ' => noExc ((R.ofO (setTg tg v (wipeR ρ own))).bind fun ρ2 => (evOt c cond ρ2 κ').bind fun b =>
      if b.1 = true then (evE c elt ρ2 b.2).bind fun x => .ok (some x.1, x.2) else .ok (none, b.2))) p.2).bind fun q => if q.1.length < LINE then .ok (.lst q.1, q.2) else .bad
  | .callv i, ρ, κ => match rdX ρ i with
    | some (.one k caps) => c.cl k caps κ
    | _ => .bad
  | .filt tg src cond, ρ, κ => match rdX ρ src with
    | some (.many l) => (filtL l (fun k caps κ' => noExc (evT c cond (ρ.set tg (some (.ext (.one k caps)))) κ')) κ).bind fun κ' => .ok (.lst [], κ')
    | _ => .bad
  | .sm m a b, ρ, κ => (evE c a ρ κ).bind fun p => (R.ofO (strV p.1)).bind fun u => (evE c b ρ p.2).bind fun q => R.ofO ((smV m u q.1).map fun v => (v, q.2))
def evEs (c : CB) : Es → Rho → Ks → R (List Val × Ks)
  | .nil, _, κ => .ok ([], κ)
  | .cons e es, ρ, κ => (evE c e ρ κ).bind fun p => (evEs c es ρ p.2).bind fun q => .ok (p.1 :: q.1, q.2)
def evA (c : CB) : As → Rho → Ks → R (List Ar × Ks)
  | .nil, _, κ => .ok ([], κ)
  | .cons e es, ρ, κ => (evE c e ρ κ).bind fun p => (evA c es ρ p.2).bind fun q => .ok (.v p.1 :: q.1, q.2)
  | .ext i es, ρ, κ => (R.ofO ((rdX ρ i).map .x)).bind fun a => (evA c es ρ κ).bind fun q => .ok (a :: q.1, q.2)
  | .clos d es, ρ, κ => (R.ofO (((clsOf ρ d).bind (eclosOf ρ)).map fun l => .x (.many l))).bind fun a => (evA c es ρ κ).bind fun q => .ok (a :: q.1, q.2)
  | .clo1 k js es, ρ, κ => (R.ofO ((capsOf ρ js).map fun l => .x (.one k l))).bind fun a => (evA c es ρ κ).bind fun q => .ok (a :: q.1, q.2)
def evBs (c : CB) : Es → Rho → Ks → R (List Val × Ks)
  | .nil, _, κ => .ok ([], κ)
  | .cons e es, ρ, κ => (bw e ρ κ (evE c e ρ κ)).bind fun p => (evBs c es ρ p.2).bind fun q => .ok (p.1 :: q.1, q.2)
def evO (c : CB) : Oe → Rho → Ks → R (Option Int × Ks)
  | .no, _, κ => .ok (none, κ)
  | .yes e, ρ, κ => (evE c e ρ κ).bind fun p => R.ofO ((intV p.1).map fun i => (some i, p.2))
def evT (c : CB) : T → Rho → Ks → R (Bool × Ks)
  | .val e, ρ, κ => (evE c e ρ κ).bind fun p => R.ofO ((truV p.1).map fun b => (b, p.2))
  | .cm o a b, ρ, κ => (bw a ρ κ (evE c a ρ κ)).bind fun p => (bw b ρ p.2 (evE c b ρ p.2)).bind fun q => R.ofO ((cmV o p.1 q.1).map fun v => (v, q.2))
  | .chain o o' a b d, ρ, κ => (evE c a ρ κ).bind fun p => (evE c b ρ p.2).bind fun q => (R.ofO (cmV o p.1 q.1)).bind fun k =>
      if k = true then (evE c d ρ q.2).bind fun r => R.ofO ((cmV o' q.1 r.1).map fun v => (v, r.2)) else .ok (false, q.2)
  | .and a b, ρ, κ => (evT c a ρ κ).bind fun p => if p.1 = true then evT c b ρ p.2 else .ok (false, p.2)
  | .or a b, ρ, κ => (evT c a ρ κ).bind fun p => if p.1 = true then .ok (true, p.2) else evT c b ρ p.2
  | .not a, ρ, κ => (evT c a ρ κ).bind fun p => .ok (!p.1, p.2)
def evOt (c : CB) : Ot → Rho → Ks → R (Bool × Ks)
  | .no, _, κ => .ok (true, κ)
  | .yes t, ρ, κ => evT c t ρ κ
def evI (c : CB) : It → Rho → Ks → R (List Val × Ks)
  | .seq e, ρ, κ => (bw e ρ κ (evE c e ρ κ)).bind fun p => R.ofO ((itemsV p.1).map fun l => (l, p.2))
  | .rng1 l, ρ, κ => (evEs c l ρ κ).bind fun p => R.ofO ((rngV1 p.1).map fun l => (l, p.2))
  | .rng2 l, ρ, κ => (evEs c l ρ κ).bind fun p => R.ofO ((rngV2 p.1).map fun l => (l, p.2))
  | .rng3 l, ρ, κ => (evEs c l ρ κ).bind fun p => R.ofO ((rngV3 p.1).map fun l => (l, p.2))
  | .enum e, ρ, κ => (bw e ρ κ (evE c e ρ κ)).bind fun p => R.ofO ((itemsV p.1).map fun l => (enumL l, p.2))
  | .zip a b, ρ, κ => (bw a ρ κ (evE c a ρ κ)).bind fun p => (bw b ρ p.2 (evE c b ρ p.2)).bind fun q => R.ofO ((zipV p.1 q.1).map fun l => (l, q.2))
end

/-- targets of a tuple of names: which are owned -/
def parR : List (Nat × Bool) → List Val → Rho → Option Rho
  | [], [], ρ => some ρ
  | (i, false) :: l, v :: vs, ρ => parR l vs (ρ.set i (some (.val v)))
  | (i, true) :: l, .lst x :: vs, ρ => parR l vs (ρ.set i (some (.own x)))
  | _, _, _ => none

/-- what came of the lambda at i -/
def cameO (cl : Nat → List Val → Ks → R (Val × Ks)) (kin : Nat → Str) (i : Nat) (ρ : Rho) (κ : Ks) : O := match rdX ρ i with
  | some (.one k caps) => match cl k caps κ with
    | .ok p => .ret (.tup [p.1, .str ⟨#[]⟩]) p.2
    | .exc c .non κ' => .ret (.tup [.non, .str (kin c)]) κ'
    | _ => .bad
  | _ => .bad
mutual
def exS (c : CB) : S → Rho → Ks → O
  | .set i e, ρ, κ => (evE c e ρ κ).toO fun p => .nx (ρ.set i (some (.val p.1))) p.2
  | .own i e, ρ, κ => (evE c e ρ κ).toO fun p => match p.1 with
    | .lst l => .nx (ρ.set i (some (.own l))) p.2
    | _ => .bad
  | .cel i e, ρ, κ => (evE c e ρ κ).toO fun p => match p.1 with
    | .lst l => .nx (ρ.set i (some (.val (.cell p.2.length)))) (p.2 ++ [.lst l])
    | _ => .bad
  | .asg tg e, ρ, κ => (evE c e ρ κ).toO fun p => match setTg tg p.1 ρ with
    | some ρ' => .nx ρ' p.2
    | none => .bad
  | .setC i d, ρ, κ => match clsOf ρ d with
    | some l => .nx (ρ.set i (some (.cls l))) κ
    | none => .bad
  | .par l es, ρ, κ => (evEs c es ρ κ).toO fun p => match parR l p.1 ρ with
    | some ρ' => .nx ρ' p.2
    | none => .bad
  | .expr e, ρ, κ => (evE c e ρ κ).toO fun p => .nx ρ p.2
  | .append i e, ρ, κ => match rdO ρ i with
    | some l => (evE c e ρ κ).toO fun p => if l.length < LINE then .nx (ρ.set i (some (.own (l ++ [p.1])))) p.2 else .bad
    | none => .bad
  | .pop i, ρ, κ => match rdO ρ i with
    | some l => if l.isEmpty then .bad else .nx (ρ.set i (some (.own l.dropLast))) κ
    | none => .bad
  | .seti i a e, ρ, κ => (evE c e ρ κ).toO fun p => match rdO ρ i with
    | some l => (evE c a ρ p.2).toO fun q => match q.1 with
      | .int n => match L2.ixN l.length n with
        | some j => .nx (ρ.set i (some (.own (l.set j p.1)))) q.2
        | none => .bad
      | _ => .bad
    | none => .bad
  | .augi i a o e, ρ, κ => match rdO ρ i with
    | some l => (evE c a ρ κ).toO fun q => match q.1 with
      | .int n => match L2.ixN l.length n with
        | some j => match l[j]? with
          | some (.int old) => (evE c e ρ q.2).toO fun p => match p.1 with
            | .int y => match o with
              | .add => .nx (ρ.set i (some (.own (l.set j (.int (old + y)))))) p.2
              | .sub => .nx (ρ.set i (some (.own (l.set j (.int (old - y)))))) p.2
              | _ => .bad
            | _ => .bad
          | _ => .bad
        | none => .bad
      | _ => .bad
    | none => .bad
  | .cseti o a e, ρ, κ => (evE c e ρ κ).toO fun p => (evE c o ρ p.2).toO fun b => (evE c a ρ b.2).toO fun q => match b.1, q.1 with
    | .cell k, .int n => match q.2[k]? with
      | some (.lst l) => match L2.ixN l.length n with
        | some j => .nx ρ (q.2.set k (.lst (l.set j p.1)))
        | none => .bad
      | _ => .bad
    | _, _ => .bad
  | .ite t a b, ρ, κ => (evT c t ρ κ).toO fun p => if p.1 = true then exSs c a ρ p.2 else exSs c b ρ p.2
  | .loop tg it b, ρ, κ => (evI c it ρ κ).toO fun p => loopL p.1 (fun v ρ' κ' => match setTg tg v ρ' with
    | some ρ2 => exSs c b ρ2 κ'
    | none => .bad) ρ p.2
  | .while t b, ρ, κ => whileL BIG (fun ρ' κ' => evT c t ρ' κ') (fun ρ' κ' => exSs c b ρ' κ') ρ κ
  | .ret e, ρ, κ => (evE c e ρ κ).toO fun p => .ret p.1 p.2
  | .raise k, _, κ => .exc k .non κ
  | .came i, ρ, κ => cameO c.cl c.kin i ρ κ
  | .dg i, ρ, κ => match rdO ρ i with
    | some l => .nx (ρ.set i (some (.val (.lst l)))) κ
    | none => .nx ρ κ
  | .never, _, _ => .bad
def exSs (c : CB) : Ss → Rho → Ks → O
  | .nil, ρ, κ => .nx ρ κ
  | .cons s l, ρ, κ => (exS c s ρ κ).then fun ρ' κ' => exSs c l ρ' κ'
end

def Ar.slot : Ar → Option Slot
  | .v u => some (.val u)
  | .x y => some (.ext y)
/-! ### the table of defs -/
structure DefI where
  np : Nat
  n : Nat
  body : Ss
structure Tab where
  defs : Nat → Option DefI
  lams : Nat → Option E
  kin : Nat → Str
def cb (t : Tab) : Nat → CB
  | 0 => ⟨fun _ _ _ => .bad, fun _ _ _ => .bad, t.kin⟩
  | d + 1 => ⟨fun f args κ => match t.defs f with
      | some D => if args.length = D.np then (exSs (cb t d) D.body (args.map Ar.slot ++ List.replicate (D.n - args.length) none) κ).fin else .bad
      | none => .bad,
    fun k caps κ => match t.lams k with
      | some e => evE (cb t d) e (caps.map fun v => some (.val v)) κ
      | none => .bad,
    t.kin⟩
end PL
end
section
set_option maxHeartbeats 1000000
/-! Values of the interpreter in the abstract heap. -/
namespace PL
open PySem PySem.Spec PyProof.Rows L2 LamX NdefX

/-- a lambda of the text -/
structure LamI where
  qual : Str
  params : Arguments
  body : Expr
  scope : Scope
  fr : List Str
/-- the object at f is the lambda -/
def LamO (f : Addr) (L : LamI) (cl : List (Str × Addr)) (c' : Addr) : HO :=
  .ext fun h => ∃ pm ctv : Value, h.get? f = some (PySem.W.kla_obj "<lambda>" L.qual L.params L.body L.scope cl pm c' ctv)

/-- what is fixed: where the defs stand, the lambdas, the code tables -/
structure Gx where
  K : PySem.W.Frag
  fnA : Nat → Option Addr
  lamI : Nat → Option LamI
  tabs : List NTab

/-- the script: a list that nothing writes -/
inductive ScrAt (K : PySem.W.Frag) (J : Addr → Prop) (H : Hp) (a : Addr) (ns : List Int) : Prop where
  | own (j : J a) (h : H a = some (.lst (ns.map V.int))) : ScrAt K J H a ns
  | frz {o : Obj} (h : H a = some (.frz o (.lst (ns.map V.int)))) : ScrAt K J H a ns
  | top (h : ∀ H', SqL K H' a (ns.map V.int)) : ScrAt K J H a ns
theorem ScrAt.sq {K : PySem.W.Frag} {J : Addr → Prop} {H : Hp} {a : Addr} {ns : List Int} (h : ScrAt K J H a ns) : SqL K H a (ns.map V.int) := by
  cases h with
  | own _ h => exact .of h
  | frz h => exact .inl (.inr ⟨_, h⟩)
  | top h => exact h H
mutual
inductive RV (g : Gx) (J : Addr → Prop) (μ : List Addr) (H : Hp) : Val → V → Prop where
  | non : RV g J μ H .non .non
  | bl (b : Bool) : RV g J μ H (.bl b) (.bl b)
  | int (i : Int) : RV g J μ H (.int i) (.int i)
  | str (x : Str) : RV g J μ H (.str x) (.str x)
  | tup {a : Addr} {xs : List V} {l : List Val} (h : SqT g.K H a xs) (r : RVs g J μ H l xs) : RV g J μ H (.tup l) (.ref a)
  | lst {a : Addr} {xs : List V} {l : List Val} (j : J a) (h : H a = some (.lst xs)) (r : RVs g J μ H l xs) : RV g J μ H (.lst l) (.ref a)
  | fn {i : Nat} {a : Addr} (h : g.fnA i = some a) : RV g J μ H (.fn i) (.ref a)
  | cell {i : Nat} {a : Addr} (h : μ[i]? = some a) : RV g J μ H (.cell i) (.ref a)
  | scr {ns : List Int} {a : Addr} (h : ScrAt g.K J H a ns) : RV g J μ H (.scr ns) (.ref a)
inductive RVs (g : Gx) (J : Addr → Prop) (μ : List Addr) (H : Hp) : List Val → List V → Prop where
  | nil : RVs g J μ H [] []
  | cons {v : Val} {x : V} {l : List Val} {xs : List V} (h : RV g J μ H v x) (t : RVs g J μ H l xs) : RVs g J μ H (v :: l) (x :: xs)
end

/-- the ghosts: which lists never change, where the cells stand -/
structure Wd where
  I : Addr → Prop
  μ : List Addr

section
variable {g : Gx} {J J' : Addr → Prop} {μ μ' : List Addr} {H H' : Hp}
theorem RVs.length : ∀ {l : List Val} {xs : List V}, RVs g J μ H l xs → l.length = xs.length
  | _, _, .nil => rfl
  | _, _, .cons _ t => by simp [RVs.length t]
theorem RVs.get : ∀ {l : List Val} {xs : List V} {i : Nat} {v : Val}, RVs g J μ H l xs → l[i]? = some v → ∃ x, xs[i]? = some x ∧ RV g J μ H v x
  | _, _, _, _, .nil, e => by simp at e
  | _, _, 0, _, .cons r _, e => by simp at e; subst e; exact ⟨_, rfl, r⟩
  | _, _, i + 1, v, .cons _ t, e => by
    obtain ⟨x, h1, h2⟩ := RVs.get (i := i) (v := v) t (by simpa using e)
    exact ⟨x, by simpa using h1, h2⟩
theorem RVs.get' : ∀ {l : List Val} {xs : List V} {i : Nat} {x : V}, RVs g J μ H l xs → xs[i]? = some x → ∃ v, l[i]? = some v ∧ RV g J μ H v x
  | _, _, _, _, .nil, e => by simp at e
  | _, _, 0, _, .cons r _, e => by simp at e; subst e; exact ⟨_, rfl, r⟩
  | _, _, i + 1, v, .cons _ t, e => by
    obtain ⟨x, h1, h2⟩ := RVs.get' (i := i) (x := v) t (by simpa using e)
    exact ⟨x, by simpa using h1, h2⟩
theorem RVs.append : ∀ {l m : List Val} {xs ys : List V}, RVs g J μ H l xs → RVs g J μ H m ys → RVs g J μ H (l ++ m) (xs ++ ys)
  | _, _, _, _, .nil, s => s
  | _, _, _, _, .cons r t, s => .cons r (RVs.append t s)
theorem RVs.set : ∀ {l : List Val} {xs : List V} {v : Val} {x : V} (i : Nat), RV g J μ H v x → RVs g J μ H l xs → RVs g J μ H (l.set i v) (xs.set i x)
  | _, _, _, _, _, _, .nil => .nil
  | _, _, _, _, 0, r, .cons _ t => .cons r t
  | _, _, _, _, i + 1, r, .cons q t => .cons q (RVs.set i r t)
theorem RVs.take : ∀ {l : List Val} {xs : List V} (n : Nat), RVs g J μ H l xs → RVs g J μ H (l.take n) (xs.take n)
  | _, _, 0, _ => .nil
  | _, _, _ + 1, .nil => .nil
  | _, _, n + 1, .cons r t => .cons r (RVs.take n t)
theorem RVs.drop : ∀ {l : List Val} {xs : List V} (n : Nat), RVs g J μ H l xs → RVs g J μ H (l.drop n) (xs.drop n)
  | _, _, 0, r => r
  | _, _, _ + 1, .nil => .nil
  | _, _, n + 1, .cons _ t => RVs.drop n t
theorem RVs.dropLast : ∀ {l : List Val} {xs : List V}, RVs g J μ H l xs → RVs g J μ H l.dropLast xs.dropLast
  | _, _, .nil => .nil
  | _, _, .cons _ .nil => .nil
  | _, _, .cons r (.cons q t) => .cons r (RVs.dropLast (.cons q t))
theorem RVs.reverse {l : List Val} {xs : List V} (r : RVs g J μ H l xs) : RVs g J μ H l.reverse xs.reverse := by
  induction l generalizing xs with
  | nil => cases r; exact .nil
  | cons v l ih => cases r with | cons r t => simp only [List.reverse_cons]; exact (ih t).append (.cons r .nil)
theorem RVs.nil_of {xs : List V} (r : RVs g J μ H [] xs) : xs = [] := by cases r; rfl
theorem RVs.isEmpty {l : List Val} {xs : List V} (r : RVs g J μ H l xs) : l.isEmpty = xs.isEmpty := by cases r <;> rfl

/-- what keeps the values: the lists of J, what is never written -/
structure Keeps (J J' : Addr → Prop) (μ μ' : List Addr) (H H' : Hp) : Prop where
  j : ∀ a, J a → J' a
  m : ∀ (i : Nat) a, μ[i]? = some a → μ'[i]? = some a
  l : ∀ a o, J a → H a = some o → H' a = some o
  t : ∀ a xs, H a = some (.tup xs) → H' a = some (.tup xs)
  f : ∀ a o u, H a = some (.frz o u) → H' a = some (.frz o u)
theorem SqT.keeps {K : PySem.W.Frag} (k : Keeps J J' μ μ' H H') {a : Addr} {xs : List V} (h : SqT K H a xs) : SqT K H' a xs := by
  rcases h with (h | ⟨o, h⟩) | h
  · exact .inl (.inl (k.t _ _ h))
  · exact .inl (.inr ⟨o, k.f _ _ _ h⟩)
  · exact .inr h
theorem ScrAt.keeps {K : PySem.W.Frag} (k : Keeps J J' μ μ' H H') {a : Addr} {ns : List Int} (h : ScrAt K J H a ns) : ScrAt K J' H' a ns := by
  cases h with
  | own j h => exact .own (k.j _ j) (k.l _ _ j h)
  | frz h => exact .frz (k.f _ _ _ h)
  | top h => exact .top h
mutual
theorem RV.keeps (k : Keeps J J' μ μ' H H') : ∀ {v : Val} {x : V}, RV g J μ H v x → RV g J' μ' H' v x
  | _, _, .non => .non
  | _, _, .bl b => .bl b
  | _, _, .int i => .int i
  | _, _, .str i => .str i
  | _, _, .tup h r => .tup (PL.SqT.keeps k h) (r.keeps k)
  | _, _, .lst j h r => .lst (k.j _ j) (k.l _ _ j h) (r.keeps k)
  | _, _, .fn h => .fn h
  | _, _, .cell h => .cell (k.m _ _ h)
  | _, _, .scr h => .scr (PL.ScrAt.keeps k h)
theorem RVs.keeps (k : Keeps J J' μ μ' H H') : ∀ {l : List Val} {xs : List V}, RVs g J μ H l xs → RVs g J' μ' H' l xs
  | _, _, .nil => .nil
  | _, _, .cons h t => .cons (h.keeps k) (t.keeps k)
end
end

/-- the state of the ghosts and the cells in the abstract heap -/
structure WF (g : Gx) (w : Wd) (κ : Ks) (H : Hp) : Prop where
  len : w.μ.length = κ.length
  at_ : ∀ (i : Nat) a, w.μ[i]? = some a → ∃ l xs, κ[i]? = some (.lst l) ∧ H a = some (.lst xs) ∧ RVs g w.I w.μ H l xs
  nd : ∀ (i j : Nat) a, w.μ[i]? = some a → w.μ[j]? = some a → i = j
  dis : ∀ a ∈ w.μ, ¬ w.I a
  dom : ∀ a, w.I a → ∃ xs, H a = some (.lst xs)
  tab : TabsN g.tabs H
/-- from one state to a later one -/
structure Ext (w : Wd) (H : Hp) (w' : Wd) (H' : Hp) : Prop where
  I : ∀ a, w.I a → w'.I a
  new : ∀ a, w'.I a → w.I a ∨ H a = none
  mu : ∃ t, w'.μ = w.μ ++ t ∧ ∀ a ∈ t, H a = none
  fr : ∀ a o, H a = some o → a ∉ w.μ → (∀ ps, o ≠ .tbl ps) → H' a = some o
  dm : ∀ a, H' a = none → H a = none
section
variable {g : Gx} {w w' w'' : Wd} {κ : Ks} {H H' H'' : Hp}
theorem Ext.refl (w : Wd) (H : Hp) : Ext w H w H := ⟨fun _ h => h, fun _ h => .inl h, ⟨[], by simp⟩, fun _ _ h _ _ => h, fun _ h => h⟩
theorem Ext.trans (a : Ext w H w' H') (b : Ext w' H' w'' H'') : Ext w H w'' H'' where
  I := fun x h => b.I x (a.I x h)
  new := fun x h => (b.new x h).elim (a.new x) fun h => .inr (a.dm x h)
  mu := by
    obtain ⟨t, e, ht⟩ := a.mu
    obtain ⟨u, e', hu⟩ := b.mu
    refine ⟨t ++ u, by rw [e', e, List.append_assoc], fun x hx => ?_⟩
    rcases List.mem_append.mp hx with h | h
    · exact ht x h
    · exact a.dm x (hu x h)
  fr := fun x o h n nt => b.fr x o (a.fr x o h n nt) (fun z => by
    obtain ⟨t, e, ht⟩ := a.mu
    rw [e] at z
    rcases List.mem_append.mp z with z | z
    · exact n z
    · rw [ht x z] at h; cases h) nt
  dm := fun x h => a.dm x (b.dm x h)
theorem WF.nomu (wf : WF g w κ H) {a : Addr} {o : HO} (h : H a = some o) (n : ∀ xs, o ≠ .lst xs) : a ∉ w.μ := fun z => by
  obtain ⟨i, hi⟩ := List.mem_iff_getElem?.mp z
  obtain ⟨l, xs, _, e, _⟩ := wf.at_ i a hi
  rw [h] at e; cases e
  exact n xs rfl
/-- values stay; J: lists that are no cells -/
theorem Ext.keeps (e : Ext w H w' H') (wf : WF g w κ H) {J J' : Addr → Prop} (hj : ∀ a, J a → J' a) (hm : ∀ a, J a → a ∉ w.μ) (hd : ∀ a, J a → ∃ xs, H a = some (.lst xs)) : Keeps J J' w.μ w'.μ H H' where
  j := hj
  m := fun i a h => by
    obtain ⟨t, et, _⟩ := e.mu
    rw [et]
    rw [List.getElem?_append_left (List.getElem?_eq_some_iff.mp h).1]
    exact h
  l := fun a o j h => e.fr a o h (hm a j) fun ps z => by
    obtain ⟨xs, r⟩ := hd a j
    rw [h] at r; cases r; cases z
  t := fun a xs h => e.fr a _ h (wf.nomu h (by intro _ z; cases z)) (by intro _ z; cases z)
  f := fun a o u h => e.fr a _ h (wf.nomu h (by intro _ z; cases z)) (by intro _ z; cases z)
theorem Ext.exts (e : Ext w H w' H') (wf : WF g w κ H) {a : Addr} {φ : Heap → Prop} (h : H a = some (.ext φ)) : H' a = some (.ext φ) := e.fr a _ h (wf.nomu h (by intro _ z; cases z)) (by intro _ z; cases z)
theorem Ext.keepsI (e : Ext w H w' H') (wf : WF g w κ H) : Keeps w.I w'.I w.μ w'.μ H H' :=
  e.keeps wf e.I (fun a h z => wf.dis a z h) wf.dom
theorem RV.ext (e : Ext w H w' H') (wf : WF g w κ H) {v : Val} {x : V} (r : RV g w.I w.μ H v x) : RV g w'.I w'.μ H' v x := r.keeps (e.keepsI wf)
theorem RVs.ext (e : Ext w H w' H') (wf : WF g w κ H) {v : List Val} {x : List V} (r : RVs g w.I w.μ H v x) : RVs g w'.I w'.μ H' v x := r.keeps (e.keepsI wf)

/-- a new object is tracked: no cell, not among the fixed lists -/
theorem Ext.upd_new (wf : WF g w κ H) {a : Addr} (n : H a = none) (o : HO) : Ext w H w (upd H a o) :=
  ⟨fun _ h => h, fun _ h => .inl h, ⟨[], by simp⟩, fun b u h _ _ => by rw [upd_ne (ne_of_none h n)]; exact h, fun b h => by
    unfold upd at h; split at h
    · cases h
    · exact h⟩
theorem Ext.wf (e : Ext w H w' H') (wf : WF g w κ H) (hw : w'.μ = w.μ) (hI : ∀ a, w'.I a → ∃ xs, H' a = some (.lst xs)) (hT : TabsN g.tabs H') (hc : ∀ a ∈ w.μ, ∀ xs, H a = some (.lst xs) → H' a = some (.lst xs)) (hd : ∀ a ∈ w.μ, ¬ w'.I a) : WF g w' κ H' where
  len := by rw [hw]; exact wf.len
  at_ := fun i a h => by
    rw [hw] at h
    obtain ⟨l, xs, h1, h2, h3⟩ := wf.at_ i a h
    exact ⟨l, xs, h1, hc a (List.mem_of_getElem? h) xs h2, h3.ext e wf⟩
  nd := fun i j a h1 h2 => by rw [hw] at h1 h2; exact wf.nd i j a h1 h2
  dis := fun a h => by rw [hw] at h; exact hd a h
  dom := hI
  tab := hT
theorem TabsN.upd {T : List NTab} (t : TabsN T H) {a : Addr} (n : H a = none) (o : HO) : TabsN T (upd H a o) := t.ext fun b u h => by rw [upd_ne (ne_of_none h n)]; exact h
theorem Rd.upd {a b : Addr} {o u : HO} (h : Rd H b u) (n : H a = none) : Rd (upd H a o) b u := by
  rcases h with h | ⟨x, h⟩
  · exact .inl (by rw [upd_ne (ne_of_none h n)]; exact h)
  · exact .inr ⟨x, by rw [upd_ne (ne_of_none h n)]; exact h⟩
theorem WF.mu_some (wf : WF g w κ H) {a : Addr} (h : a ∈ w.μ) : ∃ o, H a = some o := by
  obtain ⟨i, hi⟩ := List.mem_iff_getElem?.mp h
  obtain ⟨l, xs, _, e, _⟩ := wf.at_ i a hi
  exact ⟨_, e⟩
/-- .. and the state is right -/
theorem WF.upd_new (wf : WF g w κ H) {a : Addr} (n : H a = none) (o : HO) : WF g w κ (upd H a o) :=
  (Ext.upd_new wf n o).wf wf rfl (fun b h => by
    obtain ⟨xs, r⟩ := wf.dom b h
    exact ⟨xs, by rw [upd_ne (ne_of_none r n)]; exact r⟩) (PL.TabsN.upd wf.tab n o) (fun b hb xs h => by rw [upd_ne (ne_of_none h n)]; exact h) wf.dis
/-- a list is fixed -/
def Wd.fix (w : Wd) (a : Addr) : Wd := ⟨fun b => w.I b ∨ b = a, w.μ⟩
theorem Rd.noneAbs {a : Addr} {u : HO} (h : Rd H a u) (n : H a = none) : False := by
  rcases h with h | ⟨_, h⟩ <;> (rw [n] at h; cases h)
/-- from H a list at a was made (in H'), now it is fixed -/
theorem Ext.fix (e : Ext w H w' H') {a : Addr} (n : H a = none) : Ext w H (w'.fix a) H' where
  I := fun x h => .inl (e.I x h)
  new := fun x h => by
    rcases h with h | h
    · exact e.new x h
    · rw [h]; exact .inr n
  mu := e.mu
  fr := e.fr
  dm := e.dm
theorem WF.fix (wf : WF g w κ H) {a : Addr} {xs : List V} (h : H a = some (.lst xs)) (n : a ∉ w.μ) : WF g (w.fix a) κ H where
  len := wf.len
  at_ := fun i b hb => by
    obtain ⟨l, ys, h1, h2, h3⟩ := wf.at_ i b hb
    exact ⟨l, ys, h1, h2, h3.keeps ⟨fun _ z => .inl z, fun _ _ z => z, fun _ _ _ z => z, fun _ _ z => z, fun _ _ _ z => z⟩⟩
  nd := wf.nd
  dis := fun b hb z => by
    rcases z with z | z
    · exact wf.dis b hb z
    · rw [z] at hb; exact n hb
  dom := fun b z => by
    rcases z with z | z
    · exact wf.dom b z
    · rw [z]; exact ⟨xs, h⟩
  tab := wf.tab
theorem Keeps.fix {a : Addr} {μ : List Addr} {H : Hp} {I : Addr → Prop} : Keeps I (fun b => I b ∨ b = a) μ μ H H := ⟨fun _ z => .inl z, fun _ _ z => z, fun _ _ _ z => z, fun _ _ z => z, fun _ _ _ z => z⟩
/-- a new list, fixed at once -/
theorem fix_new (wf : WF g w κ H) {a : Addr} (n : H a = none) (xs : List V) : Ext w H (w.fix a) (upd H a (.lst xs)) ∧ WF g (w.fix a) κ (upd H a (.lst xs)) := by
  have nm : a ∉ w.μ := fun z => by
    obtain ⟨o, e⟩ := wf.mu_some z
    rw [n] at e; cases e
  exact ⟨(Ext.upd_new wf n _).fix n, (wf.upd_new n _).fix upd_same nm⟩
end
/-- the object at c is o -/
def ObjX (c : Addr) (o : Obj) : HO := .ext fun h => h.get? c = some o
/-- a captured name: its cell, the cell's object, what it holds -/
structure Cap where
  y : Str
  c : Addr
  o : Obj
  u : Value
/-- a lambda, with what its cells hold -/
inductive RX1 (g : Gx) (w : Wd) (H : Hp) : Nat → List Val → V → Prop where
  | mk {k : Nat} {caps : List Val} {f c' : Addr} {L : LamI} {cl : List (Str × Addr)} {ws : List V} {cs : List Cap} (h : g.lamI k = some L) (o : H f = some (LamO f L cl c')) (oc : H c' = some (CodeO c' L.qual))
      (fr : cs.map (·.y) = L.fr) (cc : ∀ q ∈ cs, cl.lookup q.y = some q.c ∧ H q.c = some (ObjX q.c q.o) ∧ q.o.data = .cell (some q.u)) (all : ∀ y c, cl.lookup y = some c → y ∈ L.fr) (inj : ∀ x y c, cl.lookup x = some c → cl.lookup y = some c → x = y)
      (vs : Vals ws (cs.map (·.u))) (r : RVs g w.I w.μ H caps ws) : RX1 g w H k caps (.ref f)
inductive RXs (g : Gx) (w : Wd) (H : Hp) : List (Nat × List Val) → List V → Prop where
  | nil : RXs g w H [] []
  | cons {p : Nat × List Val} {x : V} {l : List (Nat × List Val)} {xs : List V} (h : RX1 g w H p.1 p.2 x) (t : RXs g w H l xs) : RXs g w H (p :: l) (x :: xs)
inductive RX (g : Gx) (w : Wd) (H : Hp) : Ex → V → Prop where
  | one {k : Nat} {caps : List Val} {x : V} (h : RX1 g w H k caps x) : RX g w H (.one k caps) x
  | many {l : List (Nat × List Val)} {a : Addr} {xs : List V} (j : w.I a) (h : H a = some (.lst xs)) (r : RXs g w H l xs) : RX g w H (.many l) (.ref a)
section
variable {g : Gx} {w w' : Wd} {κ : Ks} {H H' : Hp}
theorem RX1.ext (e : Ext w H w' H') (wf : WF g w κ H) : ∀ {k : Nat} {caps : List Val} {x : V}, RX1 g w H k caps x → RX1 g w' H' k caps x
  | _, _, _, .mk h o oc fr cc all inj vs r => .mk h (e.exts wf o) (e.exts wf oc) fr (fun q hq => ⟨(cc q hq).1, e.exts wf (cc q hq).2.1, (cc q hq).2.2⟩) all inj vs (r.ext e wf)
theorem RXs.ext (e : Ext w H w' H') (wf : WF g w κ H) : ∀ {l : List (Nat × List Val)} {xs : List V}, RXs g w H l xs → RXs g w' H' l xs
  | _, _, .nil => .nil
  | _, _, .cons h t => .cons (h.ext e wf) (t.ext e wf)
theorem RX.ext (e : Ext w H w' H') (wf : WF g w κ H) : ∀ {v : Ex} {x : V}, RX g w H v x → RX g w' H' v x
  | _, _, .one h => .one (h.ext e wf)
  | _, _, .many j h r => .many (e.I _ j) ((e.keepsI wf).l _ _ j h) (r.ext e wf)
end
end PL
end
section
set_option maxHeartbeats 1000000
namespace PL
open PySem PySem.Spec PyProof.Rows L2 LamX NdefX

/-! ### borrowed values: a value, or a list of the frame's own -/
inductive RB (g : Gx) (w : Wd) (H : Hp) : Val → V → Prop where
  | of {v : Val} {x : V} (r : RV g w.I w.μ H v x) : RB g w H v x
  | own {l : List Val} {a : Addr} {xs : List V} (h : H a = some (.lst xs)) (n : a ∉ w.μ) (r : RVs g w.I w.μ H l xs) : RB g w H (.lst l) (.ref a)
section
variable {g : Gx} {w w' : Wd} {κ κ' : Ks} {H H' : Hp}
theorem Ext.rd (e : Ext w H w' H') {a : Addr} {xs : List V} (n : a ∉ w.μ) (h : H a = some (.lst xs)) : H' a = some (.lst xs) := e.fr a _ h n (by intro _ z; cases z)
theorem Ext.nomu (e : Ext w H w' H') {a : Addr} (h : H a ≠ none) (n : a ∉ w.μ) : a ∉ w'.μ := fun z => by
  obtain ⟨t, et, ht⟩ := e.mu
  rw [et] at z
  rcases List.mem_append.mp z with z | z
  · exact n z
  · exact h (ht a z)
theorem RB.ext {v : Val} {x : V} (e : Ext w H w' H') (wf : WF g w κ H) (r : RB g w H v x) : RB g w' H' v x := by
  cases r with
  | of r => exact .of (r.ext e wf)
  | own h n r => exact .own (e.rd n h) (e.nomu (by rw [h]; intro z; cases z) n) (r.ext e wf)
theorem RB.int {i : Int} {x : V} (r : RB g w H (.int i) x) : x = .int i := by cases r with | of r => cases r; rfl
theorem RB.bl {i : Bool} {x : V} (r : RB g w H (.bl i) x) : x = .bl i := by cases r with | of r => cases r; rfl
theorem RB.str {i : Str} {x : V} (r : RB g w H (.str i) x) : x = .str i := by cases r with | of r => cases r; rfl
theorem RB.non {x : V} (r : RB g w H .non x) : x = .non := by cases r with | of r => cases r; rfl
theorem RB.tup {l : List Val} {x : V} (r : RB g w H (.tup l) x) : ∃ a xs, x = .ref a ∧ SqT g.K H a xs ∧ RVs g w.I w.μ H l xs := by
  cases r with | of r => cases r with | tup h r => exact ⟨_, _, rfl, h, r⟩
theorem RB.lst {l : List Val} {x : V} (wf : WF g w κ H) (r : RB g w H (.lst l) x) : ∃ a xs, x = .ref a ∧ H a = some (.lst xs) ∧ a ∉ w.μ ∧ RVs g w.I w.μ H l xs := by
  cases r with
  | of r => cases r with | lst j h r => exact ⟨_, _, rfl, h, fun z => wf.dis _ z j, r⟩
  | own h n r => exact ⟨_, _, rfl, h, n, r⟩
theorem RB.cell {i : Nat} {x : V} (r : RB g w H (.cell i) x) : ∃ a, x = .ref a ∧ w.μ[i]? = some a := by
  cases r with | of r => cases r with | cell h => exact ⟨_, rfl, h⟩
theorem RB.scr {i : List Int} {x : V} (r : RB g w H (.scr i) x) : ∃ a, x = .ref a ∧ SqL g.K H a (i.map V.int) := by
  cases r with | of r => cases r with | scr h => exact ⟨_, rfl, h.sq⟩
/-- a new tuple -/
theorem RV.newTup (wf : WF g w κ H) {l : List Val} {xs : List V} (r : RVs g w.I w.μ H l xs) {a : Addr} (n : H a = none) :
    Ext w H w (upd H a (.tup xs)) ∧ WF g w κ (upd H a (.tup xs)) ∧ RV g w.I w.μ (upd H a (.tup xs)) (.tup l) (.ref a) :=
  ⟨Ext.upd_new wf n _, wf.upd_new n _, .tup (SqT.of upd_same) (r.ext (Ext.upd_new wf n _) wf)⟩
/-- a new list, fixed -/
theorem RV.newLst (wf : WF g w κ H) {l : List Val} {xs : List V} (r : RVs g w.I w.μ H l xs) {a : Addr} (n : H a = none) :
    Ext w H (w.fix a) (upd H a (.lst xs)) ∧ WF g (w.fix a) κ (upd H a (.lst xs)) ∧ RV g (w.fix a).I (w.fix a).μ (upd H a (.lst xs)) (.lst l) (.ref a) :=
  ⟨(fix_new wf n xs).1, (fix_new wf n xs).2, .lst (.inr rfl) upd_same (r.ext (fix_new wf n xs).1 wf)⟩
end

/-! ### the frame's names -/
/-- a lambda of the running frame -/
inductive RL1 (g : Gx) (X : Cx) (H : Hp) : Nat × List Nat → V → Prop where
  | mk {k : Nat} {js : List Nat} {f c' : Addr} {L : LamI} (h : g.lamI k = some L) (o : H f = some (LamO f L (cloFrom X.env.cells L.scope.names []) c')) (oc : H c' = some (CodeO c' L.qual))
      (c : X.Ok → Caps X (cloFrom X.env.cells L.scope.names []) L.fr js) (only : ∀ y c, (cloFrom X.env.cells L.scope.names []).lookup y = some c → y ∈ L.fr) : RL1 g X H (k, js) (.ref f)
inductive RLs (g : Gx) (X : Cx) (H : Hp) : List (Nat × List Nat) → List V → Prop where
  | nil : RLs g X H [] []
  | cons {p : Nat × List Nat} {x : V} {l : List (Nat × List Nat)} {xs : List V} (h : RL1 g X H p x) (t : RLs g X H l xs) : RLs g X H (p :: l) (x :: xs)
def SlotOk (g : Gx) (X : Cx) (b : Bool) (w : Wd) (H : Hp) (σ : L2.St) (i : Nat) : Slot → Prop
  | .val v => ∃ x, σ[i]? = some (some x) ∧ RV g w.I w.μ H v x
  | .own l => ∃ a xs, σ[i]? = some (some (.ref a)) ∧ H a = some (.lst xs) ∧ RVs g w.I w.μ H l xs ∧ ¬ w.I a ∧ a ∉ w.μ ∧ (b = true ∨ X.H_0 a = none)
  | .cls l => b = true ∨ ∃ a xs, σ[i]? = some (some (.ref a)) ∧ w.I a ∧ H a = some (.lst xs) ∧ RLs g X H l xs
  | .ext y => ∃ x, σ[i]? = some (some x) ∧ RX g w H y x
  | .pin => b = true ∨ ∃ q, X.pn.head? = some q ∧ σ[i]? = some (some (.ref q.1))
structure RE (g : Gx) (X : Cx) (b : Bool) (w : Wd) (H : Hp) (ρ : Rho) (σ : L2.St) : Prop where
  len : ρ.length = σ.length
  at_ : ∀ (i : Nat) (sl : Slot), ρ[i]? = some (some sl) → SlotOk g X b w H σ i sl
  apart : ∀ (i j : Nat) (l m : List Val) (a : Addr), ρ[i]? = some (some (Slot.own l)) → ρ[j]? = some (some (Slot.own m)) → σ[i]? = some (some (V.ref a)) → σ[j]? = some (some (V.ref a)) → i = j
section
variable {g : Gx} {X : Cx} {b : Bool} {w w' : Wd} {κ κ' : Ks} {H H' : Hp} {ρ : Rho} {σ : L2.St}
theorem RL1.ext (e : Ext w H w' H') (wf : WF g w κ H) {p : Nat × List Nat} {x : V} (r : RL1 g X H p x) : RL1 g X H' p x := by
  cases r with
  | mk h o oc c only => exact .mk h (e.exts wf o) (e.exts wf oc) c only
theorem RLs.ext (e : Ext w H w' H') (wf : WF g w κ H) : ∀ {l : List (Nat × List Nat)} {xs : List V}, RLs g X H l xs → RLs g X H' l xs
  | _, _, .nil => .nil
  | _, _, .cons h t => .cons (h.ext e wf) (t.ext e wf)
theorem RLs.append : ∀ {l m : List (Nat × List Nat)} {xs ys : List V}, RLs g X H l xs → RLs g X H m ys → RLs g X H (l ++ m) (xs ++ ys)
  | _, _, _, _, .nil, s => s
  | _, _, _, _, .cons r t, s => .cons r (RLs.append t s)
theorem SlotOk.ext (e : Ext w H w' H') (wf : WF g w κ H) {i : Nat} : ∀ {sl : Slot}, SlotOk g X b w H σ i sl → SlotOk g X b w' H' σ i sl
  | .val _, ⟨x, h1, h2⟩ => ⟨x, h1, h2.ext e wf⟩
  | .own _, ⟨a, xs, h1, h2, h3, h4, h5, h6⟩ => ⟨a, xs, h1, e.fr a _ h2 h5 (by intro _ z; cases z), h3.ext e wf, (fun z => (e.new a z).elim h4 fun q => by rw [q] at h2; cases h2), e.nomu (by rw [h2]; intro z; cases z) h5, h6⟩
  | .cls _, .inl z => .inl z
  | .cls _, .inr ⟨a, xs, h1, h2, h3, h4⟩ => .inr ⟨a, xs, h1, e.I a h2, (e.keepsI wf).l _ _ h2 h3, h4.ext e wf⟩
  | .ext _, ⟨x, h1, h2⟩ => ⟨x, h1, h2.ext e wf⟩
  | .pin, h => h
theorem RE.ext (r : RE g X b w H ρ σ) (e : Ext w H w' H') (wf : WF g w κ H) : RE g X b w' H' ρ σ := ⟨r.len, fun i sl h => (r.at_ i sl h).ext e wf, r.apart⟩
theorem RE.rdV (r : RE g X b w H ρ σ) {i : Nat} {v : Val} (h : rdV ρ i = some v) : ∃ x, σ[i]? = some (some x) ∧ RV g w.I w.μ H v x := by
  unfold PL.rdV at h
  split at h
  · cases h; rename_i e; exact r.at_ i _ e
  · cases h
theorem RE.rdB (r : RE g X b w H ρ σ) {i : Nat} {v : Val} (h : rdB ρ i = some v) : ∃ x, σ[i]? = some (some x) ∧ RB g w H v x := by
  unfold PL.rdB at h
  split at h
  · cases h; rename_i e
    obtain ⟨x, h1, h2⟩ := r.at_ i _ e
    exact ⟨x, h1, .of h2⟩
  · cases h; rename_i e
    obtain ⟨a, xs, h1, h2, h3, h4, h5, _⟩ := r.at_ i _ e
    exact ⟨_, h1, .own h2 h5 h3⟩
  · cases h
theorem RE.rdX (r : RE g X b w H ρ σ) {i : Nat} {v : Ex} (h : rdX ρ i = some v) : ∃ x, σ[i]? = some (some x) ∧ RX g w H v x := by
  unfold PL.rdX at h
  split at h
  · cases h; rename_i e; exact r.at_ i _ e
  · cases h
end

theorem RE.blk {g : Gx} {X X' : Cx} {b : Bool} {w : Wd} {H : Hp} {ρ : Rho} {σ : L2.St} (r : RE g X b w H ρ σ) : RE g X' true w H ρ σ :=
  ⟨r.len, fun i sl h => match sl, r.at_ i sl h with
    | .val _, z => z
    | .own _, ⟨a, xs, h1, h2, h3, h4, h5, _⟩ => ⟨a, xs, h1, h2, h3, h4, h5, .inl rfl⟩
    | .cls _, _ => .inl rfl
    | .ext _, z => z
    | .pin, z => .inl rfl, r.apart⟩
/-! ### judgements -/
/-- what a result asks: rel tells the value -/
def Post (g : Gx) (clA : Nat → Addr) {α : Type} {β : Type} (rel : Wd → Hp → α → β → Prop) (w : Wd) (H : Hp) (r : R (α × Ks)) (Q : β → Hp → Prop) (E : XK) : Prop := match r with
  | .ok p => ∀ x w' H', Ext w H w' H' → WF g w' p.2 H' → rel w' H' p.1 x → Q x H'
  | .exc c .non κ' => ∀ w' H', Ext w H w' H' → WF g w' κ' H' → E (.ref (clA c)) none H'
  | .exc _ _ _ => False
  | .bad => False
abbrev rV (g : Gx) : Wd → Hp → Val → V → Prop := fun w H v x => RV g w.I w.μ H v x
abbrev rB (g : Gx) : Wd → Hp → Val → V → Prop := fun w H v x => RB g w H v x
abbrev rVs (g : Gx) : Wd → Hp → List Val → List V → Prop := fun w H v x => RVs g w.I w.μ H v x
inductive RBs (g : Gx) (w : Wd) (H : Hp) : List Val → List V → Prop where
  | nil : RBs g w H [] []
  | cons {v : Val} {x : V} {l : List Val} {xs : List V} (h : RB g w H v x) (t : RBs g w H l xs) : RBs g w H (v :: l) (x :: xs)
/-- what is the same at each place of a text's code: the ghosts' frame, the wish about exceptions -/
structure Pl where
  g : Gx
  clA : Nat → Addr
  X : Cx
  W : WX
  /-- within a comprehension -/
  b : Bool
section
variable (p : Pl)
def tG {α β : Type} (rel : Wd → Hp → α → β → Prop) (m : Rho → Ks → R (α × Ks)) : L2.St → Hp → (β → Hp → Prop) → Prop := fun σ H Q =>
  ∃ w ρ κ, RE p.g p.X p.b w H ρ σ ∧ WF p.g w κ H ∧ Post p.g p.clA rel w H (m ρ κ) Q (fun c d H' => p.W c d σ H')
/-- e is worth m -/
abbrev SE (e : Expr) (m : Rho → Ks → R (Val × Ks)) : Prop := PE p.X e (tG p (rV p.g) m)
abbrev SB (e : Expr) (m : Rho → Ks → R (Val × Ks)) : Prop := PE p.X e (tG p (rB p.g) m)
abbrev STt (e : Expr) (m : Rho → Ks → R (Bool × Ks)) : Prop := PT p.X e (tG p (fun _ _ a b => a = b) m)
abbrev SEs (es : List Expr) (m : Rho → Ks → R (List Val × Ks)) : Prop := PA p.X es (tG p (rVs p.g) m)
abbrev SBs (es : List Expr) (m : Rho → Ks → R (List Val × Ks)) : Prop := PA p.X es (tG p (fun w H l xs => RBs p.g w H l xs) m)
end
section
variable {p : Pl}
theorem _root_.L2.PE.imp {X : Cx} {e : Expr} {t t' : TE} (h : PE X e t) (k : ∀ σ H Q, t' σ H Q → t σ H Q) : PE X e t' := ⟨fun pins s σ H Q I q => h.run pins s σ H Q I (k σ H Q q)⟩
theorem _root_.L2.PT.imp {X : Cx} {e : Expr} {t t' : TT} (h : PT X e t) (k : ∀ σ H Q, t' σ H Q → t σ H Q) : PT X e t' := ⟨fun pins s σ H Q I q => h.run pins s σ H Q I (k σ H Q q)⟩
theorem _root_.L2.PA.imp {X : Cx} {e : List Expr} {t t' : TA} (h : PA X e t) (k : ∀ σ H Q, t' σ H Q → t σ H Q) : PA X e t' := ⟨fun pos pins s σ H Q I q => h.run pos pins s σ H Q I (k σ H Q q)⟩
/-- THE STEP: first r, then what hangs on its value -/
theorem Post.bind {g : Gx} {clA : Nat → Addr} {α β γ δ : Type} {rel : Wd → Hp → α → β → Prop} {rel2 : Wd → Hp → γ → δ → Prop} {w : Wd} {r : R (α × Ks)} {f : α × Ks → R (γ × Ks)} {H : Hp} {Q : δ → Hp → Prop} {E : XK} {k : β → Hp → Prop}
    (po : Post g clA rel2 w H (r.bind f) Q E)
    (hk : ∀ w1 H1 a κ1 x, WF g w1 κ1 H1 → Ext w H w1 H1 → rel w1 H1 a x → Post g clA rel2 w1 H1 (f (a, κ1)) Q E → k x H1) :
    Post g clA rel w H r k E := by
  cases r with
  | bad => exact po
  | exc c v κ' =>
    cases v with
    | non => exact po
    | _ => exact po
  | ok q =>
    intro x w1 H1 e1 wf1 r1
    refine hk w1 H1 q.1 q.2 x wf1 e1 r1 ?_
    have po : Post g clA rel2 w H (f q) Q E := po
    show Post g clA rel2 w1 H1 (f q) Q E
    generalize f q = z at po ⊢
    cases z with
    | ok q2 => exact fun y w2 H2 e2 => po y w2 H2 (e1.trans e2)
    | exc c v κ' =>
      cases v with
      | non => exact fun w2 H2 e2 => po w2 H2 (e1.trans e2)
      | _ => exact po
    | bad => exact po
/-- the end: the value is there -/
theorem tG_of {γ δ : Type} {rel2 : Wd → Hp → γ → δ → Prop} {w1 : Wd} {ρ : Rho} {κ1 : Ks} {m : Rho → Ks → R (γ × Ks)} {σ : L2.St} {H1 : Hp} {Q : δ → Hp → Prop} (re : RE p.g p.X p.b w1 H1 ρ σ) (wf : WF p.g w1 κ1 H1)
    (h : Post p.g p.clA rel2 w1 H1 (m ρ κ1) Q (fun c d H' => p.W c d σ H')) : tG p rel2 m σ H1 Q := ⟨w1, ρ, κ1, re, wf, h⟩
/-- a pure step on the value -/
theorem Post.some {γ δ : Type} {rel2 : Wd → Hp → γ → δ → Prop} {w : Wd} {H : Hp} {o : Option γ} {κ : Ks} {Q : δ → Hp → Prop} {E : XK} (h : Post p.g p.clA rel2 w H (R.ofO (o.map fun v => (v, κ))) Q E) :
    ∃ v, o = .some v ∧ ∀ x w' H', Ext w H w' H' → WF p.g w' κ H' → rel2 w' H' v x → Q x H' := by
  cases o with
  | none => exact h.elim
  | some v => exact ⟨v, rfl, h⟩
theorem Post.weak {α β : Type} {rel rel' : Wd → Hp → α → β → Prop} {w : Wd} {H : Hp} {r : R (α × Ks)} {Q : β → Hp → Prop} {E : XK} (h : Post p.g p.clA rel w H r Q E) (k : ∀ w' H' κ' a x, WF p.g w' κ' H' → rel' w' H' a x → rel w' H' a x) : Post p.g p.clA rel' w H r Q E := by
  unfold Post at h ⊢
  split
  · exact fun x w' H' e wf r => h x w' H' e wf (k _ _ _ _ _ wf r)
  · exact h
  · rename_i c v κ' hn
    cases v with
    | non => exact absurd rfl hn
    | _ => exact h
  · exact h
theorem SB.of {e : Expr} {m : Rho → Ks → R (Val × Ks)} (h : SE p e m) : SB p e m := h.imp fun σ H Q ⟨w, ρ, κ, re, wf, po⟩ => ⟨w, ρ, κ, re, wf, Post.weak (p := p) po fun _ _ _ _ _ _ r => RB.of r⟩
/-- one value, then what hangs on it -/
theorem tG_bind1 {α β ε ζ : Type} {relA : Wd → Hp → α → β → Prop} {rel3 : Wd → Hp → ε → ζ → Prop} {ma : Rho → Ks → R (α × Ks)} {f : Rho → α × Ks → R (ε × Ks)} {σ : L2.St} {H : Hp} {Q : ζ → Hp → Prop} {k : β → Hp → Prop}
    (h : tG p rel3 (fun ρ κ => (ma ρ κ).bind (f ρ)) σ H Q)
    (hk : ∀ w ρ κ H1 a x, RE p.g p.X p.b w H1 ρ σ → WF p.g w κ H1 → relA w H1 a x → Post p.g p.clA rel3 w H1 (f ρ (a, κ)) Q (fun c d H' => p.W c d σ H') → k x H1) : tG p relA ma σ H k := by
  obtain ⟨w, ρ, κ, re, wf, po⟩ := h
  exact ⟨w, ρ, κ, re, wf, Post.bind po fun w1 H1 a κ1 x wf1 e1 ra po1 => hk w1 ρ κ1 H1 a x (re.ext e1 wf) wf1 ra po1⟩
/-- two values, then what hangs on both -/
theorem tG_bind2 {α β γ δ ε ζ : Type} {relA : Wd → Hp → α → β → Prop} {relB : Wd → Hp → γ → δ → Prop} {rel3 : Wd → Hp → ε → ζ → Prop} {ma : Rho → Ks → R (α × Ks)} {mb : Rho → Ks → R (γ × Ks)} {f : Rho → α → γ × Ks → R (ε × Ks)} {σ : L2.St} {H : Hp} {Q : ζ → Hp → Prop}
    {k : β → δ → Hp → Prop} (hA : ∀ {w H w' H' κ a x}, Ext w H w' H' → WF p.g w κ H → relA w H a x → relA w' H' a x)
    (h : tG p rel3 (fun ρ κ => (ma ρ κ).bind fun q => (mb ρ q.2).bind (f ρ q.1)) σ H Q)
    (hk : ∀ w ρ κ H2 a x b y, RE p.g p.X p.b w H2 ρ σ → WF p.g w κ H2 → relA w H2 a x → relB w H2 b y → Post p.g p.clA rel3 w H2 (f ρ a (b, κ)) Q (fun c d H' => p.W c d σ H') → k x y H2) :
    tG p relA ma σ H fun x H1 => tG p relB mb σ H1 fun y H2 => k x y H2 := by
  obtain ⟨w, ρ, κ, re, wf, po⟩ := h
  refine ⟨w, ρ, κ, re, wf, Post.bind po fun w1 H1 a κ1 x wf1 e1 ra po1 => ?_⟩
  exact ⟨w1, ρ, κ1, re.ext e1 wf, wf1, Post.bind po1 fun w2 H2 b κ2 y wf2 e2 rb po2 => hk w2 ρ κ2 H2 a x b y ((re.ext e1 wf).ext e2 wf1) wf2 (hA e2 wf1 ra) rb po2⟩
/-- a value at once -/
theorem tG_ret {α β : Type} {rel : Wd → Hp → α → β → Prop} {f : Rho → α} {σ : L2.St} {H : Hp} {Q : β → Hp → Prop} (h : tG p rel (fun ρ κ => .ok (f ρ, κ)) σ H Q) {x : β} (r : ∀ w ρ κ, RE p.g p.X p.b w H ρ σ → WF p.g w κ H → rel w H (f ρ) x) : Q x H := by
  obtain ⟨w, ρ, κ, re, wf, po⟩ := h
  exact po x w H (Ext.refl w H) wf (r w ρ κ re wf)
end
end PL
end
section
set_option maxHeartbeats 1000000
namespace PL
open PySem PySem.Spec PyProof.Rows L2 LamX NdefX

def Op2Ok (p : Pl) (r : R2) (f : Val → Val → Option Val) : Prop :=
  ∀ {w : Wd} {κ : Ks} {H : Hp} {va vb v : Val} {x y : V} {Q : VK}, WF p.g w κ H → RB p.g w H va x → RB p.g w H vb y → f va vb = some v →
    (∀ z w' H', Ext w H w' H' → WF p.g w' κ H' → RV p.g w'.I w'.μ H' v z → Q z H') → r x y H Q
section
variable {p : Pl} {a b c : Expr} {pos : Pos} {ma mb mc : Rho → Ks → R (Val × Ks)}
theorem SE_bin {op : Operator} {r : R2} {f : Val → Val → Option Val} (ho : OpR p.X (binaryOp op) r) (hr : Op2Ok p r f) (ha : SB p a ma) (hb : SB p b mb) :
    SE p (.BinOp a op b pos) (fun ρ κ => (ma ρ κ).bind fun q => (mb ρ q.2).bind fun q' => R.ofO ((f q.1 q'.1).map fun v => (v, q'.2))) :=
  (pe_op ho ha hb).imp fun σ H Q h => tG_bind2 (f := fun _ a q' => R.ofO ((f a q'.1).map fun v => (v, q'.2))) RB.ext h fun w ρ κ H2 a x b y re wf rx ry po => by
    obtain ⟨v, ev, k⟩ := Post.some (p := p) po
    exact hr wf rx ry ev k
theorem here {w : Wd} {κ : Ks} {H : Hp} {v : Val} {z : V} {Q : VK} (wf : WF p.g w κ H) (k : ∀ z w' H', Ext w H w' H' → WF p.g w' κ H' → RV p.g w'.I w'.μ H' v z → Q z H') (r : RV p.g w.I w.μ H v z) : Q z H := k z w H (Ext.refl w H) wf r
theorem LINE_eq : LINE = sizeLine := by rw [sizeLine_eq]

def pyOp : Op → Operator
  | .add => .Add | .sub => .Sub | .mul => .Mult | .fdiv => .FloorDiv | .mod => .Mod | .pow => .Pow
theorem big_lt {i : Int} (h : decide (i.natAbs < BIG) = true) : i.natAbs < 2 ^ 65536 := by rw [← BIG_eq]; exact of_decide_eq_true h
theorem rows_len : ∀ {g : Gx} {J : Addr → Prop} {μ : List Addr} {H : Hp} {l : List Val} {xs : List V}, RVs g J μ H l xs → l.length = xs.length := fun r => r.length
theorem RVs.rep {g : Gx} {J : Addr → Prop} {μ : List Addr} {H : Hp} {l : List Val} {xs : List V} (r : RVs g J μ H l xs) : ∀ n : Nat, RVs g J μ H (List.replicate n l).flatten (List.replicate n xs).flatten
  | 0 => .nil
  | n + 1 => by
    rw [List.replicate_succ, List.replicate_succ, List.flatten_cons, List.flatten_cons]
    exact r.append (RVs.rep r n)
theorem opr (hK : p.X.K = p.g.K) : ∀ o : Op, ∃ r, OpR p.X (binaryOp (pyOp o)) r ∧ Op2Ok p r (opV o)
  | .add => by
    refine ⟨_, OpR.or op_add (OpR.or op_add_str (OpR.or op_catA op_cat)), fun {w κ H va vb v x y Q} wf rx ry e k => ?_⟩
    unfold opV at e
    split at e <;> first | (exact absurd ‹Op.add = _› (by decide)) | skip
    · cases e; cases rx.int; cases ry.int
      exact .inl ⟨_, _, rfl, rfl, here wf k (.int _)⟩
    · split at e
      · cases e; cases rx.str; cases ry.str; rename_i hl
        exact .inr (.inl ⟨_, _, rfl, rfl, by rw [← LINE_eq]; exact hl, here wf k (.str _)⟩)
      · cases e
    · split at e
      · cases e; rename_i hl
        obtain ⟨a, xs, rfl, ha, rxs⟩ := rx.tup
        obtain ⟨b, ys, rfl, hb, rys⟩ := ry.tup
        refine .inr (.inr (.inl ⟨a, b, xs, ys, rfl, rfl, by rw [hK]; exact ha, by rw [hK]; exact hb, by rw [← rxs.length, ← rys.length, ← LINE_eq]; exact hl, fun z => ?_, fun _ z => ?_, fun _ _ q hq => ?_⟩))
        · subst z; cases rxs; exact here wf k (.tup hb rys)
        · subst z; cases rys; refine here wf k ?_; rw [List.append_nil]; exact .tup ha rxs
        · obtain ⟨e1, wf1, r1⟩ := RV.newTup wf (rxs.append rys) hq
          exact k _ _ _ e1 wf1 r1
      · cases e
    · split at e
      · cases e; rename_i hl
        obtain ⟨a, xs, rfl, ha, _, rxs⟩ := rx.lst wf
        obtain ⟨b, ys, rfl, hb, _, rys⟩ := ry.lst wf
        refine .inr (.inr (.inr ⟨a, b, xs, ys, rfl, rfl, ha, hb, by rw [← rxs.length, ← rys.length, ← LINE_eq]; exact hl, fun q hq => ?_⟩))
        obtain ⟨e1, wf1, r1⟩ := RV.newLst wf (rxs.append rys) hq
        exact k _ _ _ e1 wf1 r1
      · cases e
    · cases e
  | .sub => by
    refine ⟨_, op_sub, fun {w κ H va vb v x y Q} wf rx ry e k => ?_⟩
    unfold opV at e
    split at e <;> first | (exact absurd ‹Op.sub = _› (by decide)) | skip
    · cases e; cases rx.int; cases ry.int
      exact ⟨_, _, rfl, rfl, here wf k (.int _)⟩
    · cases e
  | .mul => by
    refine ⟨_, OpR.or op_mul (OpR.or op_mulW (OpR.or op_rep op_repT)), fun {w κ H va vb v x y Q} wf rx ry e k => ?_⟩
    unfold opV at e
    split at e <;> first | (exact absurd ‹Op.mul = _› (by decide)) | skip
    · split at e
      · cases e; cases rx.int; cases ry.int; rename_i i j hl
        unfold mulOk at hl
        rcases Bool.or_eq_true_iff.mp hl with h | h
        · refine .inl ⟨_, _, rfl, rfl, ?_, here wf k (.int _)⟩
          rcases Bool.or_eq_true_iff.mp h with h | h
          · have h := of_decide_eq_true h
            exact .inl (by omega)
          · have h := of_decide_eq_true h
            exact .inr (by omega)
        · obtain ⟨h1, h2⟩ := Bool.and_eq_true_iff.mp h
          exact .inr (.inl ⟨_, _, rfl, rfl, wide_mul (big_lt h1) (big_lt h2) (by decide) (by decide) (by decide), here wf k (.int _)⟩)
      · cases e
    · split at e
      · cases e; rename_i l j _ hl
        simp only [Bool.and_eq_true, decide_eq_true_eq] at hl
        obtain ⟨⟨h1, h2⟩, h3⟩ := hl
        obtain ⟨a, xs, rfl, ha, _, rxs⟩ := rx.lst wf
        cases ry.int
        refine .inr (.inr (.inl ⟨a, j, xs, rfl, rfl, ha, by omega, by omega, ?_, fun q hq => ?_⟩))
        · rw [← rxs.length, sizeLine_eq]
          have : l.length * j.toNat ≤ 1000 * 1000 := Nat.mul_le_mul h3 (by omega)
          omega
        · obtain ⟨e1, wf1, r1⟩ := RV.newLst wf (RVs.rep rxs j.toNat) hq
          exact k _ _ _ e1 wf1 r1
      · cases e
    · split at e
      · cases e; rename_i l j _ hl
        simp only [Bool.and_eq_true, decide_eq_true_eq] at hl
        obtain ⟨⟨⟨h1, h2⟩, h3⟩, h4⟩ := hl
        obtain ⟨a, xs, rfl, ha, rxs⟩ := rx.tup
        cases ry.int
        refine .inr (.inr (.inr ⟨a, j, xs, rfl, rfl, by rw [hK]; exact ha, ?_, by omega, by omega, by rw [← rxs.length]; exact h4, fun q hq => ?_⟩))
        · intro z; subst z; cases rxs; exact absurd h3 (by decide)
        · obtain ⟨e1, wf1, r1⟩ := RV.newTup wf (RVs.rep rxs j.toNat) hq
          exact k _ _ _ e1 wf1 r1
      · cases e
    · cases e
  | .fdiv => by
    refine ⟨_, op_fdivW, fun {w κ H va vb v x y Q} wf rx ry e k => ?_⟩
    unfold opV at e
    split at e <;> first | (exact absurd ‹Op.fdiv = _› (by decide)) | skip
    · split at e
      · cases e; cases rx.int; cases ry.int; rename_i hl
        obtain ⟨h1, h2⟩ := Bool.and_eq_true_iff.mp hl
        exact ⟨_, _, rfl, rfl, wide_div (of_decide_eq_true h1) (of_decide_eq_true h2) (by decide) (by decide), here wf k (.int _)⟩
      · cases e
    · cases e
  | .mod => by
    refine ⟨_, op_mod, fun {w κ H va vb v x y Q} wf rx ry e k => ?_⟩
    unfold opV at e
    split at e <;> first | (exact absurd ‹Op.mod = _› (by decide)) | skip
    · split at e
      · cases e; cases rx.int; cases ry.int; rename_i hl
        exact ⟨_, _, rfl, rfl, of_decide_eq_true hl, here wf k (.int _)⟩
      · cases e
    · cases e
  | .pow => by
    refine ⟨_, op_pow, fun {w κ H va vb v x y Q} wf rx ry e k => ?_⟩
    unfold opV at e
    split at e <;> first | (exact absurd ‹Op.pow = _› (by decide)) | skip
    · split at e
      · cases e; cases rx.int; cases ry.int; rename_i hl
        simp only [Bool.and_eq_true, decide_eq_true_eq] at hl
        obtain ⟨⟨h1, h2⟩, h3⟩ := hl
        exact ⟨_, _, rfl, rfl, ⟨h1, by omega, h3⟩, here wf k (.int _)⟩
      · cases e
    · cases e
end
end PL
end
section
set_option maxHeartbeats 1000000
namespace PL
open PySem PySem.Spec PyProof.Rows L2 LamX NdefX

mutual
theorem RV.dp {g : Gx} {J : Addr → Prop} {μ : List Addr} {H : Hp} : ∀ {v : Val} {x : V} {d : PyData}, RV g J μ H v x → toData v = some d → Dp g.K H x d
  | _, _, _, .non, e => by cases e; exact .non
  | _, _, _, .bl b, e => by cases e; exact .bl b
  | _, _, _, .int b, e => by cases e; exact .int b
  | _, _, _, .str b, e => by cases e; exact .str b
  | _, _, _, .tup h r, e => by
    unfold toData at e
    obtain ⟨ds, e1, e2⟩ := Option.map_eq_some_iff.mp e
    subst e2
    exact .tup h (RVs.dp r e1)
  | _, _, _, .lst j h r, e => by
    unfold toData at e
    obtain ⟨ds, e1, e2⟩ := Option.map_eq_some_iff.mp e
    subst e2
    exact .lst (SqL.of h) (RVs.dp r e1)
  | _, _, _, .fn _, e => by cases e
  | _, _, _, .cell _, e => by cases e
  | _, _, _, .scr _, e => by cases e
theorem RVs.dp {g : Gx} {J : Addr → Prop} {μ : List Addr} {H : Hp} : ∀ {l : List Val} {xs : List V} {ds : List PyData}, RVs g J μ H l xs → toDatas l = some ds → DpAll g.K H xs ds
  | _, _, _, .nil, e => by cases e; exact .nil
  | _, _, _, .cons h t, e => by
    unfold toDatas at e
    split at e
    · rename_i d ds' e1 e2
      cases e
      exact .cons (RV.dp h e1) (RVs.dp t e2)
    · cases e
end
theorem RB.dp {g : Gx} {w : Wd} {H : Hp} {v : Val} {x : V} {d : PyData} (r : RB g w H v x) (e : toData v = some d) : Dp g.K H x d := by
  cases r with
  | of r => exact r.dp e
  | own h n r =>
    unfold toData at e
    obtain ⟨ds, e1, e2⟩ := Option.map_eq_some_iff.mp e
    subst e2
    exact .lst (SqL.of h) (RVs.dp r e1)

theorem RV.flat {g : Gx} {J : Addr → Prop} {μ : List Addr} {H : Hp} {v : Val} {x : V} (r : RV g J μ H v x) (f : isFlat v = true) : flatV x = true := by
  cases r <;> first | rfl | cases f
theorem RV.eqF {g g' : Gx} {J J' : Addr → Prop} {μ μ' : List Addr} {H H' : Hp} {v u : Val} {x y : V} (r : RV g J μ H v x) (q : RV g' J' μ' H' u y) (f : isFlat v = true) (f' : isFlat u = true) : eqF v u = eqV x y := by
  cases r <;> first | cases f | skip
  all_goals (cases q <;> first | rfl | cases f')
theorem RVs.flat {g : Gx} {J : Addr → Prop} {μ : List Addr} {H : Hp} : ∀ {l : List Val} {xs : List V}, RVs g J μ H l xs → l.all isFlat = true → xs.all flatV = true
  | _, _, .nil, _ => rfl
  | _, _, .cons h t, f => by
    rw [List.all_cons, Bool.and_eq_true_iff] at f
    rw [List.all_cons, h.flat f.1, t.flat f.2]; rfl
theorem RVs.inV {g g' : Gx} {J J' : Addr → Prop} {μ μ' : List Addr} {H H' : Hp} {a : Val} {x : V} (ra : RV g' J' μ' H' a x) (fa : isFlat a = true) : ∀ {l : List Val} {xs : List V}, RVs g J μ H l xs → l.all isFlat = true → (l.any fun y => PL.eqF y a) = L2.inV x xs
  | _, _, .nil, _ => rfl
  | _, _, .cons h t, f => by
    rw [List.all_cons, Bool.and_eq_true_iff] at f
    have ih := RVs.inV ra fa t f.2
    unfold L2.inV at ih ⊢
    rw [List.any_cons, List.any_cons, h.eqF ra f.1 fa, ih]

def pyCm : Cm → CmpOp
  | .eq => .Eq | .ne => .NotEq | .lt => .Lt | .le => .LtE | .gt => .Gt | .ge => .GtE | .is_ => .Is | .isnot => .IsNot | .in_ => .In | .notin => .NotIn
def Cm2Ok (p : Pl) (r : R2) (f : Val → Val → Option Bool) : Prop :=
  ∀ {w : Wd} {κ : Ks} {H : Hp} {va vb : Val} {v : Bool} {x y : V} {Q : VK}, WF p.g w κ H → RB p.g w H va x → RB p.g w H vb y → f va vb = some v → Q (.bl v) H → r x y H Q
theorem eqD_some {a b : Val} {v : Bool} (h : eqD a b = some v) : ∃ d e, toData a = some d ∧ toData b = some e ∧ SeqAt.shaped d = true ∧ SeqAt.shaped e = true ∧ PyData.eqv d e = v := by
  unfold eqD at h
  split at h
  · rename_i d e h1 h2
    split at h
    · rename_i hs
      cases h
      obtain ⟨s1, s2⟩ := Bool.and_eq_true_iff.mp hs
      exact ⟨d, e, h1, h2, s1, s2, rfl⟩
    · cases h
  · cases h
theorem RB.ofFlat {g : Gx} {w : Wd} {H : Hp} {v : Val} {x : V} (r : RB g w H v x) (f : isFlat v = true) : RV g w.I w.μ H v x := by
  cases r with
  | of r => exact r
  | own _ _ _ => cases f
theorem RB.isNon {g : Gx} {w : Wd} {H : Hp} {v : Val} {x : V} (r : RB g w H v x) : decide (x = .non) = isNonV v := by
  cases r with
  | of r => cases r <;> rfl
  | own _ _ _ => rfl
section
variable {p : Pl} {a b c : Expr} {pos : Pos} {ma mb mc : Rho → Ks → R (Val × Ks)}
theorem cmr (hK : p.X.K = p.g.K) (hu : p.X.A.units + 64 < cLine) : ∀ o : Cm, ∃ r, OpR p.X (compareOp (pyCm o)) r ∧ Cm2Ok p r (cmV o)
  | .eq => by
    refine ⟨_, op_eqD hu, fun {w κ H va vb v x y Q} wf rx ry e k => ?_⟩
    obtain ⟨d, e', h1, h2, s1, s2, h3⟩ := eqD_some (show eqD va vb = some v from e)
    exact ⟨d, e', by rw [hK]; exact rx.dp h1, by rw [hK]; exact ry.dp h2, s1, s2, by rw [h3]; exact k⟩
  | .ne => by
    refine ⟨_, op_neD hu, fun {w κ H va vb v x y Q} wf rx ry e k => ?_⟩
    obtain ⟨v', e1, e2⟩ := Option.map_eq_some_iff.mp (show (eqD va vb).map (!·) = some v from e)
    obtain ⟨d, e', h1, h2, s1, s2, h3⟩ := eqD_some e1
    exact ⟨d, e', by rw [hK]; exact rx.dp h1, by rw [hK]; exact ry.dp h2, s1, s2, by rw [h3, e2]; exact k⟩
  | .lt => by
    refine ⟨_, op_lt, fun {w κ H va vb v x y Q} wf rx ry e k => ?_⟩
    unfold cmV at e
    split at e <;> first | (exact absurd ‹Cm.lt = _› (by decide)) | skip
    · cases e; cases rx.int; cases ry.int
      exact ⟨_, _, rfl, rfl, k⟩
    · cases e
  | .le => by
    refine ⟨_, op_le, fun {w κ H va vb v x y Q} wf rx ry e k => ?_⟩
    unfold cmV at e
    split at e <;> first | (exact absurd ‹Cm.le = _› (by decide)) | skip
    · cases e; cases rx.int; cases ry.int
      exact ⟨_, _, rfl, rfl, k⟩
    · cases e
  | .gt => by
    refine ⟨_, op_gt, fun {w κ H va vb v x y Q} wf rx ry e k => ?_⟩
    unfold cmV at e
    split at e <;> first | (exact absurd ‹Cm.gt = _› (by decide)) | skip
    · cases e; cases rx.int; cases ry.int
      exact ⟨_, _, rfl, rfl, k⟩
    · cases e
  | .ge => by
    refine ⟨_, op_ge, fun {w κ H va vb v x y Q} wf rx ry e k => ?_⟩
    unfold cmV at e
    split at e <;> first | (exact absurd ‹Cm.ge = _› (by decide)) | skip
    · cases e; cases rx.int; cases ry.int
      exact ⟨_, _, rfl, rfl, k⟩
    · cases e
  | .is_ => by
    refine ⟨_, OpR.or op_isN op_isBl, fun {w κ H va vb v x y Q} wf rx ry e k => ?_⟩
    unfold cmV at e
    split at e <;> first | (exact absurd ‹Cm.is_ = _› (by decide)) | skip
    · cases e; cases ry.non
      exact .inl ⟨rfl, by rw [rx.isNon]; exact k⟩
    · cases e; cases rx.bl; cases ry.bl
      refine .inr ⟨_, _, rfl, rfl, ?_⟩
      rw [← Bool.beq_eq_decide_eq]; exact k
    · cases e
  | .isnot => by
    refine ⟨_, OpR.or op_notN op_notBl, fun {w κ H va vb v x y Q} wf rx ry e k => ?_⟩
    unfold cmV at e
    split at e <;> first | (exact absurd ‹Cm.isnot = _› (by decide)) | skip
    · cases e; cases ry.non
      exact .inl ⟨rfl, by rw [rx.isNon]; exact k⟩
    · cases e; cases rx.bl; cases ry.bl
      refine .inr ⟨_, _, rfl, rfl, ?_⟩
      rw [← Bool.beq_eq_decide_eq]; exact k
    · cases e
  | .in_ => by
    refine ⟨_, op_in_seq, fun {w κ H va vb v x y Q} wf rx ry e k => ?_⟩
    unfold cmV at e
    split at e <;> first | (exact absurd ‹Cm.in_ = _› (by decide)) | skip
    all_goals first | (cases e; done) | skip
    all_goals
      split at e <;> first | (cases e; done) | skip
      cases e
      rename_i hf
      obtain ⟨f1, f2⟩ := Bool.and_eq_true_iff.mp hf
      have rx' := rx.ofFlat f1
    · obtain ⟨b, ys, rfl, hb, _, rys⟩ := ry.lst wf
      exact ⟨b, ys, rfl, .inl (SqL.of hb), rx'.flat f1, rys.flat f2, by show Q (.bl (L2.inV x ys)) H; rw [← RVs.inV rx' f1 rys f2]; exact k⟩
    · obtain ⟨b, ys, rfl, hb, rys⟩ := ry.tup
      exact ⟨b, ys, rfl, .inr (by rw [hK]; exact hb), rx'.flat f1, rys.flat f2, by show Q (.bl (L2.inV x ys)) H; rw [← RVs.inV rx' f1 rys f2]; exact k⟩
  | .notin => by
    refine ⟨_, op_notIn_seq, fun {w κ H va vb v x y Q} wf rx ry e k => ?_⟩
    unfold cmV at e
    split at e <;> first | (exact absurd ‹Cm.notin = _› (by decide)) | skip
    all_goals first | (cases e; done) | skip
    all_goals
      split at e <;> first | (cases e; done) | skip
      cases e
      rename_i hf
      obtain ⟨f1, f2⟩ := Bool.and_eq_true_iff.mp hf
      have rx' := rx.ofFlat f1
    · obtain ⟨b, ys, rfl, hb, _, rys⟩ := ry.lst wf
      exact ⟨b, ys, rfl, .inl (SqL.of hb), rx'.flat f1, rys.flat f2, by show Q (.bl (!L2.inV x ys)) H; rw [← RVs.inV rx' f1 rys f2]; exact k⟩
    · obtain ⟨b, ys, rfl, hb, rys⟩ := ry.tup
      exact ⟨b, ys, rfl, .inr (by rw [hK]; exact hb), rx'.flat f1, rys.flat f2, by show Q (.bl (!L2.inV x ys)) H; rw [← RVs.inV rx' f1 rys f2]; exact k⟩

theorem SE_cm {op : CmpOp} {r : R2} {f : Val → Val → Option Bool} (ho : OpR p.X (compareOp op) r) (hr : Cm2Ok p r f) (ha : SB p a ma) (hb : SB p b mb) (hm : behindInMarks op b = false) :
    SE p (.Compare a [op] [b] pos) (fun ρ κ => (ma ρ κ).bind fun q => (mb ρ q.2).bind fun q' => R.ofO ((f q.1 q'.1).map fun v => (.bl v, q'.2))) :=
  (pe_cmpR ho ha hb hm).imp fun σ H Q h => tG_bind2 (f := fun _ a q' => R.ofO ((f a q'.1).map fun v => (Val.bl v, q'.2))) RB.ext h fun w ρ κ H2 a x b y re wf rx ry po => by
    cases e : f a b with
    | none => rw [e] at po; exact po.elim
    | some v =>
      rw [e] at po
      exact hr wf rx ry e (po _ w H2 (Ext.refl w H2) wf (.bl v))
theorem ST_cm {op : CmpOp} {r : R2} {f : Val → Val → Option Bool} (ho : OpR p.X (compareOp op) r) (hr : Cm2Ok p r f) (ha : SB p a ma) (hb : SB p b mb) (hm : behindInMarks op b = false) :
    STt p (.Compare a [op] [b] pos) (fun ρ κ => (ma ρ κ).bind fun q => (mb ρ q.2).bind fun q' => R.ofO ((f q.1 q'.1).map fun v => (v, q'.2))) :=
  (pt_cmpR ho ha hb hm).imp fun σ H Q h => tG_bind2 (f := fun _ a q' => R.ofO ((f a q'.1).map fun v => (v, q'.2))) RB.ext h fun w ρ κ H2 a x b y re wf rx ry po => by
    cases e : f a b with
    | none => rw [e] at po; exact po.elim
    | some v =>
      rw [e] at po
      exact hr wf rx ry e ⟨v, rfl, po v w H2 (Ext.refl w H2) wf rfl⟩
end
end PL
end
section
set_option maxHeartbeats 1000000
namespace PL
open PySem PySem.Spec PyProof.Rows L2 LamX NdefX
section
variable {p : Pl} {a b c : Expr} {pos : Pos} {ma mb mc : Rho → Ks → R (Val × Ks)}

/-! ### names, constants -/
theorem SE_var {i : Nat} {x : Str} (hN : p.X.N[i]? = some x) (hv : Vis p.X.env.scope x) (hd : (x == ("__debug__" : Str)) = false) (hcd : (x == ("__classdict__" : Str)) = false) :
    SE p (.Name x pos) (fun ρ κ => R.ofO ((rdV ρ i).map fun v => (v, κ))) :=
  (pe_var hN hv hd hcd).imp fun σ H Q ⟨w, ρ, κ, re, wf, po⟩ => by
    obtain ⟨v, ev, k⟩ := Post.some (p := p) po
    obtain ⟨x, h1, h2⟩ := re.rdV ev
    exact ⟨x, h1, k x w H (Ext.refl w H) wf h2⟩
theorem SB_bor {i : Nat} {x : Str} (hN : p.X.N[i]? = some x) (hv : Vis p.X.env.scope x) (hd : (x == ("__debug__" : Str)) = false) (hcd : (x == ("__classdict__" : Str)) = false) :
    SB p (.Name x pos) (fun ρ κ => R.ofO ((rdB ρ i).map fun v => (v, κ))) :=
  (pe_var hN hv hd hcd).imp fun σ H Q ⟨w, ρ, κ, re, wf, po⟩ => by
    obtain ⟨v, ev, k⟩ := Post.some (p := p) po
    obtain ⟨x, h1, h2⟩ := re.rdB ev
    exact ⟨x, h1, k x w H (Ext.refl w H) wf h2⟩
theorem SE_con {e : Expr} {v : V} {u : Val} (h : PE p.X e (tC v)) (r : ∀ (w : Wd) (H : Hp), RV p.g w.I w.μ H u v) : SE p e (fun _ κ => .ok (u, κ)) :=
  h.imp fun σ H Q hq => tG_ret (f := fun _ => u) hq fun w _ _ _ _ => r w H
theorem SE_conT {e : Expr} {v : V} {u : Val} (h : PE p.X e (tC v)) (r : ∀ (w : Wd) (κ : Ks) (H : Hp), WF p.g w κ H → RV p.g w.I w.μ H u v) : SE p e (fun _ κ => .ok (u, κ)) :=
  h.imp fun σ H Q hq => tG_ret (f := fun _ => u) hq fun w _ κ _ wf => r w κ H wf

/-! ### one value -/
def Un1Ok (p : Pl) (r : V → Hp → VK → Prop) (f : Val → Option Val) : Prop :=
  ∀ {w : Wd} {κ : Ks} {H : Hp} {va v : Val} {x : V} {Q : VK}, WF p.g w κ H → RB p.g w H va x → f va = some v →
    (∀ z w' H', Ext w H w' H' → WF p.g w' κ H' → RV p.g w'.I w'.μ H' v z → Q z H') → r x H Q
theorem SE_un {e : Expr} {r : V → Hp → VK → Prop} {f : Val → Option Val} (he : ∀ ta, PE p.X a ta → PE p.X e (fun σ H Q => ta σ H fun x H1 => r x H1 Q)) (hr : Un1Ok p r f) (ha : SB p a ma) :
    SE p e (fun ρ κ => (ma ρ κ).bind fun q => R.ofO ((f q.1).map fun v => (v, q.2))) :=
  (he _ ha).imp fun σ H Q h => tG_bind1 (f := fun _ q => R.ofO ((f q.1).map fun v => (v, q.2))) h fun w ρ κ H1 a x re wf rx po => by
    obtain ⟨v, ev, k⟩ := Post.some (p := p) po
    exact hr wf rx ev k
theorem SE_neg (ha : SE p a ma) : SE p (.UnaryOp .USub a pos) (fun ρ κ => (ma ρ κ).bind fun q => R.ofO ((ngV q.1).map fun v => (v, q.2))) :=
  SE_un (fun ta h => pe_un un_neg h) (fun {w κ H va v x Q} wf rx e k => by
    unfold ngV at e
    split at e
    · cases e; cases rx.int; exact ⟨_, rfl, here wf k (.int _)⟩
    · cases e) (SB.of ha)
theorem SE_not (ha : SE p a ma) : SE p (.UnaryOp .Not a pos) (fun ρ κ => (ma ρ κ).bind fun q => R.ofO ((ntV q.1).map fun v => (v, q.2))) :=
  SE_un (fun ta h => pe_not h) (fun {w κ H va v x Q} wf rx e k => by
    unfold ntV at e
    split at e
    · cases e; cases rx.bl; exact ⟨_, rfl, here wf k (.bl _)⟩
    · cases e) (SB.of ha)

/-! ### and, or, if -/
theorem blV_some {v : Val} {b : Bool} (h : blV v = some b) : v = .bl b := by
  unfold blV at h
  split at h
  · cases h; rfl
  · cases h
theorem SE_and {rest : List Expr} (ha : SE p a ma) (hb : SE p (.BoolOp .And (b :: rest) pos) mb) :
    SE p (.BoolOp .And (a :: b :: rest) pos) (fun ρ κ => (ma ρ κ).bind fun q => (R.ofO (blV q.1)).bind fun k => if k = true then mb ρ q.2 else .ok (.bl false, q.2)) :=
  (pe_and ha hb).imp fun σ H Q h => tG_bind1 (f := fun ρ q => (R.ofO (blV q.1)).bind fun k => if k = true then mb ρ q.2 else .ok (Val.bl false, q.2)) h fun w ρ κ H1 a x re wf rx po => by
    cases e : blV a with
    | none => rw [e] at po; exact po.elim
    | some k =>
      rw [e] at po
      cases blV_some e
      cases rx
      refine ⟨k, rfl, ?_⟩
      cases k with
      | true => exact ⟨w, ρ, κ, re, wf, po⟩
      | false => exact po _ w H1 (Ext.refl w H1) wf (.bl false)
theorem SE_or {rest : List Expr} (ha : SE p a ma) (hb : SE p (.BoolOp .Or (b :: rest) pos) mb) :
    SE p (.BoolOp .Or (a :: b :: rest) pos) (fun ρ κ => (ma ρ κ).bind fun q => (R.ofO (blV q.1)).bind fun k => if k = true then .ok (.bl true, q.2) else mb ρ q.2) :=
  (pe_or ha hb).imp fun σ H Q h => tG_bind1 (f := fun ρ q => (R.ofO (blV q.1)).bind fun k => if k = true then .ok (Val.bl true, q.2) else mb ρ q.2) h fun w ρ κ H1 a x re wf rx po => by
    cases e : blV a with
    | none => rw [e] at po; exact po.elim
    | some k =>
      rw [e] at po
      cases blV_some e
      cases rx
      refine ⟨k, rfl, ?_⟩
      cases k with
      | false => exact ⟨w, ρ, κ, re, wf, po⟩
      | true => exact po _ w H1 (Ext.refl w H1) wf (.bl true)
theorem SE_ite {mt : Rho → Ks → R (Bool × Ks)} (ht : STt p c mt) (ha : SE p a ma) (hb : SE p b mb) :
    SE p (.IfExp c a b pos) (fun ρ κ => (mt ρ κ).bind fun q => if q.1 = true then ma ρ q.2 else mb ρ q.2) :=
  (pe_ifExp ht ha hb).imp fun σ H Q h => tG_bind1 (f := fun ρ q => if q.1 = true then ma ρ q.2 else mb ρ q.2) h fun w ρ κ H1 a x re wf rx po => by
    cases rx
    cases a with
    | true => exact ⟨w, ρ, κ, re, wf, po⟩
    | false => exact ⟨w, ρ, κ, re, wf, po⟩

/-! ### tests -/
variable {mt mu : Rho → Ks → R (Bool × Ks)}
theorem tru_some (hK : p.X.K = p.g.K) {w : Wd} {κ : Ks} {H : Hp} {v : Val} {x : V} {k : Bool} (wf : WF p.g w κ H) (r : RV p.g w.I w.μ H v x) (h : truV v = some k) : TruV p.X.K x H k := by
  unfold truV at h
  split at h
  · cases h; cases r; rfl
  · cases h; cases r; rfl
  · cases h; cases r; rfl
  · split at h
    · cases h; cases r; rename_i hl; exact ⟨by rw [← LINE_eq]; exact hl, rfl⟩
    · cases h
  · cases h; cases r with | tup ha r => exact .inr (.inl ⟨_, by rw [hK]; exact ha, by rw [r.isEmpty]⟩)
  · cases h; cases r with | lst j ha r => exact .inl ⟨_, SqL.of ha, by rw [r.isEmpty]⟩
  · cases h
theorem ST_val (hK : p.X.K = p.g.K) (ha : SE p a ma) (he : ∀ whole, isTrue a p.X.env whole = (do let v ← whole; standAt a.pos; holding [v] (truthy v))) :
    STt p a (fun ρ κ => (ma ρ κ).bind fun q => R.ofO ((truV q.1).map fun b => (b, q.2))) :=
  (pt_truth ha he).imp fun σ H Q h => tG_bind1 (f := fun _ q => R.ofO ((truV q.1).map fun b => (b, q.2))) h fun w ρ κ H1 a x re wf rx po => by
    cases e : truV a with
    | none => rw [e] at po; exact po.elim
    | some k =>
      rw [e] at po
      exact ⟨k, tru_some hK wf rx e, po k w H1 (Ext.refl w H1) wf rfl⟩
theorem ST_not (ha : STt p a mt) : STt p (.UnaryOp .Not a pos) (fun ρ κ => (mt ρ κ).bind fun q => .ok (!q.1, q.2)) :=
  (pt_not ha).imp fun σ H Q h => tG_bind1 (f := fun _ q => .ok (!q.1, q.2)) h fun w ρ κ H1 a x re wf rx po => by
    cases rx
    exact po _ w H1 (Ext.refl w H1) wf rfl
/-- and, or as tests: their parts -/
abbrev SW (p : Pl) (e : Expr) (m : Rho → Ks → R (Bool × Ks)) : Prop := PW p.X e (tG p (fun _ _ a b => a = b) m)
theorem _root_.L2.PW.imp {X : Cx} {e : Expr} {t t' : TT} (h : PW X e t) (k : ∀ σ H Q, t' σ H Q → t σ H Q) : PW X e t' := ⟨fun wh pins s σ H Q I q => h.run wh pins s σ H Q I (k σ H Q q)⟩
theorem SW_and {rest : List Expr} (ha : STt p a mt) (hb : SW p (.BoolOp .And (b :: rest) pos) mu) :
    SW p (.BoolOp .And (a :: b :: rest) pos) (fun ρ κ => (mt ρ κ).bind fun q => if q.1 = true then mu ρ q.2 else .ok (false, q.2)) :=
  (pw_and ha hb).imp fun σ H Q h => tG_bind1 (f := fun ρ q => if q.1 = true then mu ρ q.2 else .ok (false, q.2)) h fun w ρ κ H1 a x re wf rx po => by
    cases rx
    cases a with
    | true => exact ⟨w, ρ, κ, re, wf, po⟩
    | false => exact po _ w H1 (Ext.refl w H1) wf rfl
theorem SW_or {rest : List Expr} (ha : STt p a mt) (hb : SW p (.BoolOp .Or (b :: rest) pos) mu) :
    SW p (.BoolOp .Or (a :: b :: rest) pos) (fun ρ κ => (mt ρ κ).bind fun q => if q.1 = true then .ok (true, q.2) else mu ρ q.2) :=
  (pw_or ha hb).imp fun σ H Q h => tG_bind1 (f := fun ρ q => if q.1 = true then .ok (true, q.2) else mu ρ q.2) h fun w ρ κ H1 a x re wf rx po => by
    cases rx
    cases a with
    | false => exact ⟨w, ρ, κ, re, wf, po⟩
    | true => exact po _ w H1 (Ext.refl w H1) wf rfl

/-! ### argument lists -/
theorem SEs_nil : SEs p [] (fun _ κ => .ok ([], κ)) := pa_nil.imp fun σ H Q h => tG_ret (f := fun _ => ([] : List Val)) h fun _ _ _ _ _ => .nil
theorem SEs_cons {es : List Expr} {ms : Rho → Ks → R (List Val × Ks)} (ha : SE p a ma) (hs : SEs p es ms) (hst : starEach (a :: es) p.X.env = (false, eval a p.X.env) :: starEach es p.X.env) :
    SEs p (a :: es) (fun ρ κ => (ma ρ κ).bind fun q => (ms ρ q.2).bind fun r => .ok (q.1 :: r.1, r.2)) :=
  (pa_cons ha hs hst).imp fun σ H Q h => tG_bind2 (f := fun _ a r => .ok (a :: r.1, r.2)) (fun e wf r => RV.ext e wf r) h fun w ρ κ H2 a x b y re wf rx ry po => po _ w H2 (Ext.refl w H2) wf (.cons rx ry)
theorem SBs_nil : SBs p [] (fun _ κ => .ok ([], κ)) := pa_nil.imp fun σ H Q h => tG_ret (f := fun _ => ([] : List Val)) h fun _ _ _ _ _ => .nil
theorem SBs_cons {es : List Expr} {ms : Rho → Ks → R (List Val × Ks)} (ha : SB p a ma) (hs : SBs p es ms) (hst : starEach (a :: es) p.X.env = (false, eval a p.X.env) :: starEach es p.X.env) :
    SBs p (a :: es) (fun ρ κ => (ma ρ κ).bind fun q => (ms ρ q.2).bind fun r => .ok (q.1 :: r.1, r.2)) :=
  (pa_cons ha hs hst).imp fun σ H Q h => tG_bind2 (f := fun _ a r => .ok (a :: r.1, r.2)) RB.ext h fun w ρ κ H2 a x b y re wf rx ry po => po _ w H2 (Ext.refl w H2) wf (.cons rx ry)

/-! ### displays -/
variable {es : List Expr} {ms : Rho → Ks → R (List Val × Ks)}
theorem SE_tup {x1 : Nat} (h : SEs p es ms) : SE p (.Tuple es x1 pos) (fun ρ κ => (ms ρ κ).bind fun q => if q.1.length ≤ LINE then .ok (.tup q.1, q.2) else .bad) :=
  (pe_tup h).imp fun σ H Q h => tG_bind1 (f := fun _ q => if q.1.length ≤ LINE then .ok (Val.tup q.1, q.2) else .bad) h fun w ρ κ H1 a x re wf rx po => by
    by_cases hl : a.length ≤ LINE
    · simp only [hl, if_true] at po
      refine ⟨by rw [← rx.length, ← LINE_eq]; exact hl, fun q hq => ?_⟩
      obtain ⟨e1, wf1, r1⟩ := RV.newTup wf rx hq
      exact po _ _ _ e1 wf1 r1
    · simp only [hl, if_false] at po; exact po.elim
theorem SE_lst (h : SEs p es ms) : SE p (.List es pos) (fun ρ κ => (ms ρ κ).bind fun q => if q.1.length ≤ LINE then .ok (.lst q.1, q.2) else .bad) :=
  (pe_lst h).imp fun σ H Q h => tG_bind1 (f := fun _ q => if q.1.length ≤ LINE then .ok (Val.lst q.1, q.2) else .bad) h fun w ρ κ H1 a x re wf rx po => by
    by_cases hl : a.length ≤ LINE
    · simp only [hl, if_true] at po
      refine ⟨by rw [← rx.length, ← LINE_eq]; exact hl, fun q hq => ?_⟩
      obtain ⟨e1, wf1, r1⟩ := RV.newLst wf rx hq
      exact po _ _ _ e1 wf1 r1
    · simp only [hl, if_false] at po; exact po.elim

/-! ### subscripts -/
theorem rvs_atI {w : Wd} {H : Hp} {l : List Val} {xs : List V} (r : RVs p.g w.I w.μ H l xs) {i : Int} {v : Val} (h : atI l i = some v) : ∃ x, atI xs i = some x ∧ RV p.g w.I w.μ H v x := by
  unfold atI at h ⊢
  rw [← r.length]
  cases e : ixN l.length i with
  | none => rw [e] at h; cases h
  | some j =>
    rw [e] at h
    exact r.get h
theorem rvs_cut {w : Wd} {H : Hp} {l : List Val} {xs : List V} (r : RVs p.g w.I w.μ H l xs) (lo hi : Option Int) : RVs p.g w.I w.μ H (cutL l lo hi) (cutV xs lo hi) := by
  unfold cutL cutV
  rw [r.length]
  exact (r.drop _).take _
theorem scr_atI {ns : List Int} {i n : Int} (h1 : atI ns i = some n) : atI (ns.map V.int) i = some (.int n) := by
  unfold atI at h1 ⊢
  rw [List.length_map]
  cases e : ixN ns.length i with
  | none => rw [e] at h1; cases h1
  | some j =>
    rw [e] at h1
    have h1 : ns[j]? = some n := h1
    show (ns.map V.int)[j]? = some (.int n)
    rw [List.getElem?_map, h1]; rfl
theorem SE_ix (hK : p.X.K = p.g.K) (ha : SB p a ma) (hb : SE p b mb) (hs : PlainIx b) :
    SE p (.Subscript a b pos) (fun ρ κ => (ma ρ κ).bind fun q => (mb ρ q.2).bind fun q' => R.ofO ((ixV q'.2 q.1 q'.1).map fun v => (v, q'.2))) :=
  (pe_ix ix_seq ha hb hs).imp fun σ H Q h => tG_bind2 (f := fun _ a q' => R.ofO ((ixV q'.2 a q'.1).map fun v => (v, q'.2))) RB.ext h fun w ρ κ H2 a x b y re wf rx ry po => by
    obtain ⟨v, ev, k⟩ := Post.some (p := p) po
    have ev : ixV κ a b = some v := ev
    unfold ixV at ev
    split at ev
    · cases ry
      obtain ⟨q, xs, rfl, hq, r⟩ := rx.tup
      obtain ⟨z, h1, h2⟩ := rvs_atI r ev
      exact .inr (.inl ⟨q, xs, _, z, rfl, rfl, by rw [hK]; exact hq, h1, here wf k h2⟩)
    · cases ry
      obtain ⟨q, xs, rfl, hq, _, r⟩ := rx.lst wf
      obtain ⟨z, h1, h2⟩ := rvs_atI r ev
      exact .inl ⟨q, xs, _, z, rfl, rfl, SqL.of hq, h1, here wf k h2⟩
    · split at ev
      · cases ry; cases rx.str
        rename_i hl
        obtain ⟨c, h1, h2⟩ := Option.map_eq_some_iff.mp ev
        subst h2
        exact .inr (.inr ⟨_, _, c, rfl, rfl, by rw [← LINE_eq]; exact hl, h1, here wf k (.str _)⟩)
      · cases ev
    · cases ry
      obtain ⟨q, rfl, hm⟩ := rx.cell
      obtain ⟨l, xs, e1, e2, r⟩ := wf.at_ _ _ hm
      rw [e1] at ev
      obtain ⟨z, h1, h2⟩ := rvs_atI r ev
      exact .inl ⟨q, xs, _, z, rfl, rfl, SqL.of e2, h1, here wf k h2⟩
    · cases ry
      obtain ⟨q, rfl, hq⟩ := rx.scr
      obtain ⟨n, h1, h2⟩ := Option.map_eq_some_iff.mp ev
      subst h2
      exact .inl ⟨q, _, _, .int n, rfl, rfl, by rw [hK]; exact hq, scr_atI h1, here wf k (.int n)⟩
    · cases ev
/-- the parts of a slice -/
abbrev SO (p : Pl) (e : Option Expr) (m : Rho → Ks → R (Option Int × Ks)) : Prop := PO p.X e (tG p (fun _ _ a b => a = b) m)
theorem _root_.L2.PO.imp {X : Cx} {e : Option Expr} {t t' : TO} (h : PO X e t) (k : ∀ σ H Q, t' σ H Q → t σ H Q) : PO X e t' := ⟨fun pins s σ H Q I q => h.run pins s σ H Q I (k σ H Q q)⟩
theorem SO_no : SO p none (fun _ κ => .ok (none, κ)) := po_none.imp fun σ H Q h => tG_ret (f := fun _ => (none : Option Int)) h fun _ _ _ _ _ => rfl
theorem SO_yes (h : SE p a ma) : SO p (some a) (fun ρ κ => (ma ρ κ).bind fun q => R.ofO ((intV q.1).map fun i => (some i, q.2))) :=
  (po_some h).imp fun σ H Q h => tG_bind1 (f := fun _ q => R.ofO ((intV q.1).map fun i => (some i, q.2))) h fun w ρ κ H1 a x re wf rx po => by
    cases e : intV a with
    | none => rw [e] at po; exact po.elim
    | some i =>
      rw [e] at po
      unfold intV at e
      split at e
      · cases e; cases rx
        exact ⟨i, rfl, po _ w H1 (Ext.refl w H1) wf rfl⟩
      · cases e
variable {lo hi : Option Expr} {ml mh : Rho → Ks → R (Option Int × Ks)} {p2 : Pos}
theorem SE_sl (hK : p.X.K = p.g.K) (ha : SB p a ma) (hl : SO p lo ml) (hh : SO p hi mh) :
    SE p (.Subscript a (.Slice lo hi none p2) pos) (fun ρ κ => (ma ρ κ).bind fun q => (ml ρ q.2).bind fun r => (mh ρ r.2).bind fun t => R.ofO ((slV q.1 r.1 t.1).map fun v => (v, t.2))) :=
  (pe_slice (SlR.or sl_list sl_tupA) ha hl hh).imp fun σ H Q ⟨w, ρ, κ, re, wf, po⟩ =>
    ⟨w, ρ, κ, re, wf, Post.bind po fun w1 H1 v κ1 x wf1 e1 rx po1 => ⟨w1, ρ, κ1, re.ext e1 wf, wf1, Post.bind po1 fun w2 H2 l κ2 l' wf2 e2 rl po2 =>
      ⟨w2, ρ, κ2, (re.ext e1 wf).ext e2 wf1, wf2, Post.bind po2 fun w3 H3 u κ3 u' wf3 e3 ru po3 => by
        have rx3 := (rx.ext e2 wf1).ext e3 wf2
        cases rl; cases ru
        obtain ⟨z, ev, k⟩ := Post.some (p := p) po3
        have ev : slV v l u = some z := ev
        unfold slV at ev
        split at ev
        · cases ev
          obtain ⟨q, xs, rfl, hq, r⟩ := rx3.tup
          refine .inr ⟨q, xs, rfl, by rw [hK]; exact hq, fun hw => ?_, fun hw n hn => ?_⟩
          · refine here wf3 k ?_
            rename_i l0
            have e0 : cutL l0 l u = l0 := by
              unfold cutL
              rw [r.length, hw.1, hw.2, ← r.length]
              simp
            rw [e0]
            exact .tup hq r
          · have r2 := rvs_cut r l u
            obtain ⟨e4, wf4, r4⟩ := RV.newTup wf3 r2 hn
            exact k _ _ _ e4 wf4 r4
        · cases ev
          obtain ⟨q, xs, rfl, hq, _, r⟩ := rx3.lst wf3
          refine .inl ⟨q, xs, rfl, SqL.of hq, fun n hn => ?_⟩
          have r2 := rvs_cut r l u
          obtain ⟨e4, wf4, r4⟩ := RV.newLst wf3 r2 hn
          exact k _ _ _ e4 wf4 r4
        · cases ev⟩⟩⟩
theorem SE_chain {o o' : Cm} {op op' : CmpOp} {r r' : R2} (ho : OpR p.X (compareOp op) r) (hr : Cm2Ok p r (cmV o)) (ho' : OpR p.X (compareOp op') r') (hr' : Cm2Ok p r' (cmV o')) (ha : SE p a ma) (hb : SE p b mb) (hc : SE p c mc)
    (hm : lastMarks [op, op'] [b, c] = false) :
    SE p (.Compare a [op, op'] [b, c] pos) (fun ρ κ => (ma ρ κ).bind fun q => (mb ρ q.2).bind fun q' => (R.ofO (cmV o q.1 q'.1)).bind fun k =>
      if k = true then (mc ρ q'.2).bind fun r => R.ofO ((cmV o' q'.1 r.1).map fun v => (.bl v, r.2)) else .ok (.bl false, q'.2)) :=
  (pe_chain ho ho' ha hb hc hm).imp fun σ H Q ⟨w, ρ, κ, re, wf, po⟩ =>
    ⟨w, ρ, κ, re, wf, Post.bind po fun w1 H1 v κ1 x wf1 e1 rx po1 => ⟨w1, ρ, κ1, re.ext e1 wf, wf1, Post.bind po1 fun w2 H2 l κ2 y wf2 e2 ry po2 => by
      have rx2 := rx.ext e2 wf1
      have re2 := (re.ext e1 wf).ext e2 wf1
      have po2 : Post p.g p.clA (rV p.g) w2 H2 ((R.ofO (cmV o v l)).bind fun k => if k = true then (mc ρ κ2).bind fun r => R.ofO ((cmV o' l r.1).map fun v => (Val.bl v, r.2)) else .ok (Val.bl false, κ2)) Q (fun c d H' => p.W c d σ H') := po2
      cases e : cmV o v l with
      | none => rw [e] at po2; exact po2.elim
      | some k =>
        rw [e] at po2
        refine hr wf2 (.of rx2) (.of ry) e ⟨k, rfl, ?_⟩
        cases k with
        | false => exact po2 _ w2 H2 (Ext.refl w2 H2) wf2 (.bl false)
        | true =>
          rw [if_pos rfl]
          refine ⟨w2, ρ, κ2, re2, wf2, Post.bind po2 fun w3 H3 u κ3 z wf3 e3 rz po3 => ?_⟩
          have po3 : Post p.g p.clA (rV p.g) w3 H3 (R.ofO ((cmV o' l u).map fun v => (Val.bl v, κ3))) Q (fun c d H' => p.W c d σ H') := po3
          cases e' : cmV o' l u with
          | none => rw [e'] at po3; exact po3.elim
          | some k' =>
            rw [e'] at po3
            exact hr' wf3 (.of (ry.ext e3 wf2)) (.of rz) e' (po3 _ w3 H3 (Ext.refl w3 H3) wf3 (.bl k'))⟩⟩
theorem ST_chain {o o' : Cm} {op op' : CmpOp} {r r' : R2} (ho : OpR p.X (compareOp op) r) (hr : Cm2Ok p r (cmV o)) (ho' : OpR p.X (compareOp op') r') (hr' : Cm2Ok p r' (cmV o')) (ha : SE p a ma) (hb : SE p b mb) (hc : SE p c mc)
    (hm : lastMarks [op, op'] [b, c] = false) :
    STt p (.Compare a [op, op'] [b, c] pos) (fun ρ κ => (ma ρ κ).bind fun q => (mb ρ q.2).bind fun q' => (R.ofO (cmV o q.1 q'.1)).bind fun k =>
      if k = true then (mc ρ q'.2).bind fun r => R.ofO ((cmV o' q'.1 r.1).map fun v => (v, r.2)) else .ok (false, q'.2)) :=
  (pt_chain ho ho' ha hb hc hm).imp fun σ H Q ⟨w, ρ, κ, re, wf, po⟩ =>
    ⟨w, ρ, κ, re, wf, Post.bind po fun w1 H1 v κ1 x wf1 e1 rx po1 => ⟨w1, ρ, κ1, re.ext e1 wf, wf1, Post.bind po1 fun w2 H2 l κ2 y wf2 e2 ry po2 => by
      have rx2 := rx.ext e2 wf1
      have re2 := (re.ext e1 wf).ext e2 wf1
      have po2 : Post p.g p.clA (fun _ _ a b => a = b) w2 H2 ((R.ofO (cmV o v l)).bind fun k => if k = true then (mc ρ κ2).bind fun r => R.ofO ((cmV o' l r.1).map fun v => (v, r.2)) else .ok (false, κ2)) Q (fun c d H' => p.W c d σ H') := po2
      cases e : cmV o v l with
      | none => rw [e] at po2; exact po2.elim
      | some k =>
        rw [e] at po2
        refine hr wf2 (.of rx2) (.of ry) e ⟨k, rfl, ?_⟩
        cases k with
        | false => exact ⟨false, rfl, po2 _ w2 H2 (Ext.refl w2 H2) wf2 rfl⟩
        | true =>
          rw [if_pos rfl]
          refine ⟨w2, ρ, κ2, re2, wf2, Post.bind po2 fun w3 H3 u κ3 z wf3 e3 rz po3 => ?_⟩
          have po3 : Post p.g p.clA (fun _ _ a b => a = b) w3 H3 (R.ofO ((cmV o' l u).map fun v => (v, κ3))) Q (fun c d H' => p.W c d σ H') := po3
          cases e' : cmV o' l u with
          | none => rw [e'] at po3; exact po3.elim
          | some k' =>
            rw [e'] at po3
            exact hr' wf3 (.of (ry.ext e3 wf2)) (.of rz) e' ⟨k', rfl, po3 _ w3 H3 (Ext.refl w3 H3) wf3 rfl⟩⟩⟩
end
end PL
end
section
set_option maxHeartbeats 1000000
namespace PL
open PySem PySem.Spec PyProof.Rows L2 LamX NdefX
/-! ### the built-in functions -/
def CallOk (p : Pl) (r : List V → Hp → VK → Prop) (f : List Val → Option Val) : Prop :=
  ∀ {w : Wd} {κ : Ks} {H : Hp} {l : List Val} {v : Val} {xs : List V} {Q : VK}, WF p.g w κ H → RBs p.g w H l xs → f l = some v →
    (∀ z w' H', Ext w H w' H' → WF p.g w' κ H' → RV p.g w'.I w'.μ H' v z → Q z H') → r xs H Q
/-- the function's name, its value -/
def biN : Bi → Str
  | .len => "len" | .abs => "abs" | .min2 => "min" | .max2 => "max" | .int => "int" | .bool => "bool" | .str => "str" | .tuple => "tuple" | .list => "list" | .all => "all" | .any => "any"
def biF : Bi → Value
  | .len => .builtin "len" | .abs => .builtin "abs" | .min2 => .builtin "min" | .max2 => .builtin "max" | .int => .type "int" | .bool => .type "bool" | .str => .type "str" | .tuple => .type "tuple" | .list => .type "list" | .all => .builtin "all" | .any => .builtin "any"
theorem bi_boot (b : Bi) : bootBuiltins (biN b) = some (biF b) := by cases b <;> decide +kernel
theorem CallR.or {X : Cx} {f : Value} {r r' : List V → Hp → VK → Prop} (h : CallR X f r) (h' : CallR X f r') : CallR X f (fun xs H Q => r xs H Q ∨ r' xs H Q) := fun pins s σ H xs us Q I r q => q.elim (h pins s σ H xs us Q I r) (h' pins s σ H xs us Q I r)
theorem RBs.one {g : Gx} {w : Wd} {H : Hp} {v : Val} {xs : List V} (r : RBs g w H [v] xs) : ∃ x, xs = [x] ∧ RB g w H v x := by
  cases r with | cons h t => cases t; exact ⟨_, rfl, h⟩
theorem RBs.two {g : Gx} {w : Wd} {H : Hp} {v u : Val} {xs : List V} (r : RBs g w H [v, u] xs) : ∃ x y, xs = [x, y] ∧ RB g w H v x ∧ RB g w H u y := by
  cases r with | cons h t => cases t with | cons h' t => cases t; exact ⟨_, _, rfl, h, h'⟩
theorem bls_of {g : Gx} {J : Addr → Prop} {μ : List Addr} {H : Hp} : ∀ {l : List Val} {xs : List V} {bs : List Bool}, RVs g J μ H l xs → blsOf l = some bs → xs = bs.map V.bl
  | _, _, _, .nil, e => by cases e; rfl
  | _, _, _, .cons h t, e => by
    unfold blsOf at e
    split at e
    · rename_i h0; cases h0
    · rename_i h0
      cases h0
      obtain ⟨bs', e1, e2⟩ := Option.map_eq_some_iff.mp e
      subst e2
      cases h
      rw [bls_of t e1]; rfl
    · cases e
section
variable {p : Pl} {a b c : Expr} {pos : Pos} {ma mb mc : Rho → Ks → R (Val × Ks)}
theorem bir (hK : p.X.K = p.g.K) (hc : p.X.calm = true) : ∀ b : Bi, ∃ r, CallR p.X (biF b) r ∧ CallOk p r (biV b)
  | .len => by
    refine ⟨_, call_len, fun {w κ H l v xs Q} wf rx e k => ?_⟩
    unfold biV at e
    split at e <;> first | (exact absurd ‹Bi.len = _› (by decide)) | skip
    · cases e; obtain ⟨x, rfl, r⟩ := rx.one
      obtain ⟨q, ys, rfl, hq, r⟩ := r.tup
      exact ⟨_, _, rfl, .inr ⟨ys, by rw [hK]; exact hq, rfl⟩, by rw [← r.length]; exact here wf k (.int _)⟩
    · cases e; obtain ⟨x, rfl, r⟩ := rx.one
      obtain ⟨q, ys, rfl, hq, _, r⟩ := r.lst wf
      exact ⟨_, _, rfl, .inl ⟨ys, SqL.of hq, rfl⟩, by rw [← r.length]; exact here wf k (.int _)⟩
    · cases e; obtain ⟨x, rfl, r⟩ := rx.one
      obtain ⟨q, rfl, hq⟩ := r.scr
      exact ⟨_, _, rfl, .inl ⟨_, by rw [hK]; exact hq, rfl⟩, by rw [List.length_map]; exact here wf k (.int _)⟩
    · split at e
      · cases e; obtain ⟨x, rfl, r⟩ := rx.one
        cases r.str; rename_i hl
        exact ⟨_, _, rfl, ⟨by rw [← LINE_eq]; exact hl, rfl⟩, here wf k (.int _)⟩
      · cases e
    · cases e
  | .abs => by
    refine ⟨_, call_abs, fun {w κ H l v xs Q} wf rx e k => ?_⟩
    unfold biV at e
    split at e <;> first | (exact absurd ‹Bi.abs = _› (by decide)) | skip
    · cases e; obtain ⟨x, rfl, r⟩ := rx.one; cases r.int
      exact ⟨_, rfl, here wf k (.int _)⟩
    · cases e
  | .min2 => by
    refine ⟨_, call_min2 hc, fun {w κ H l v xs Q} wf rx e k => ?_⟩
    unfold biV at e
    split at e <;> first | (exact absurd ‹Bi.min2 = _› (by decide)) | skip
    · cases e; obtain ⟨x, y, rfl, r, r'⟩ := rx.two; cases r.int; cases r'.int
      exact ⟨_, _, rfl, here wf k (.int _)⟩
    · cases e
  | .max2 => by
    refine ⟨_, call_max2 hc, fun {w κ H l v xs Q} wf rx e k => ?_⟩
    unfold biV at e
    split at e <;> first | (exact absurd ‹Bi.max2 = _› (by decide)) | skip
    · cases e; obtain ⟨x, y, rfl, r, r'⟩ := rx.two; cases r.int; cases r'.int
      exact ⟨_, _, rfl, here wf k (.int _)⟩
    · cases e
  | .int => by
    refine ⟨_, call_int1, fun {w κ H l v xs Q} wf rx e k => ?_⟩
    unfold biV at e
    split at e <;> first | (exact absurd ‹Bi.int = _› (by decide)) | skip
    · cases e; obtain ⟨x, rfl, r⟩ := rx.one; cases r.int
      exact .inl ⟨_, rfl, here wf k (.int _)⟩
    · cases e; obtain ⟨x, rfl, r⟩ := rx.one; cases r.bl
      exact .inr ⟨_, rfl, here wf k (.int _)⟩
    · cases e
  | .bool => by
    refine ⟨_, call_bool1, fun {w κ H l v xs Q} wf rx e k => ?_⟩
    unfold biV at e
    split at e <;> first | (exact absurd ‹Bi.bool = _› (by decide)) | skip
    · cases e
  | .str => by
    refine ⟨_, call_str_int, fun {w κ H l v xs Q} wf rx e k => ?_⟩
    unfold biV at e
    split at e <;> first | (exact absurd ‹Bi.str = _› (by decide)) | skip
    · split at e
      · cases e; obtain ⟨x, rfl, r⟩ := rx.one; cases r.int; rename_i hl
        exact ⟨_, rfl, Nat.lt_trans (PySem.Flt.log2_lt_of (by decide) hl) (by decide), here wf k (.str _)⟩
      · cases e
    · cases e
  | .tuple => by
    refine ⟨_, call_tuple_of, fun {w κ H l v xs Q} wf rx e k => ?_⟩
    unfold biV at e
    split at e <;> first | (exact absurd ‹Bi.tuple = _› (by decide)) | skip
    · cases e; obtain ⟨x, rfl, r⟩ := rx.one
      obtain ⟨q, ys, rfl, hq, r⟩ := r.tup
      exact ⟨_, _, rfl, .inr ⟨by rw [hK]; exact hq, here wf k (.tup hq r)⟩⟩
    · cases e; obtain ⟨x, rfl, r⟩ := rx.one
      obtain ⟨q, ys, rfl, hq, _, r⟩ := r.lst wf
      refine ⟨_, _, rfl, .inl ⟨SqL.of hq, fun n hn => ?_⟩⟩
      obtain ⟨e1, wf1, r1⟩ := RV.newTup wf r hn
      exact k _ _ _ e1 wf1 r1
    · cases e
  | .list => by
    refine ⟨_, call_list_of, fun {w κ H l v xs Q} wf rx e k => ?_⟩
    unfold biV at e
    split at e <;> first | (exact absurd ‹Bi.list = _› (by decide)) | skip
    · cases e; obtain ⟨x, rfl, r⟩ := rx.one
      obtain ⟨q, ys, rfl, hq, r⟩ := r.tup
      refine ⟨_, _, rfl, .inr (by rw [hK]; exact hq), fun n hn => ?_⟩
      obtain ⟨e1, wf1, r1⟩ := RV.newLst wf r hn
      exact k _ _ _ e1 wf1 r1
    · cases e; obtain ⟨x, rfl, r⟩ := rx.one
      obtain ⟨q, ys, rfl, hq, _, r⟩ := r.lst wf
      refine ⟨_, _, rfl, .inl (SqL.of hq), fun n hn => ?_⟩
      obtain ⟨e1, wf1, r1⟩ := RV.newLst wf r hn
      exact k _ _ _ e1 wf1 r1
    · cases e
  | .all => by
    refine ⟨_, cr_all hc, fun {w κ H l v xs Q} wf rx e k => ?_⟩
    unfold biV at e
    split at e <;> first | (exact absurd ‹Bi.all = _› (by decide)) | skip
    · obtain ⟨bs, e1, e2⟩ := Option.map_eq_some_iff.mp e
      subst e2
      obtain ⟨x, rfl, r⟩ := rx.one
      obtain ⟨q, ys, rfl, hq, _, r⟩ := r.lst wf
      cases bls_of r e1
      exact ⟨_, _, rfl, SqL.of hq, here wf k (.bl _)⟩
    · cases e
  | .any => by
    refine ⟨_, cr_any hc, fun {w κ H l v xs Q} wf rx e k => ?_⟩
    unfold biV at e
    split at e <;> first | (exact absurd ‹Bi.any = _› (by decide)) | skip
    · obtain ⟨bs, e1, e2⟩ := Option.map_eq_some_iff.mp e
      subst e2
      obtain ⟨x, rfl, r⟩ := rx.one
      obtain ⟨q, ys, rfl, hq, _, r⟩ := r.lst wf
      cases bls_of r e1
      exact ⟨_, _, rfl, SqL.of hq, here wf k (.bl _)⟩
    · cases e
theorem SE_callr {e : Expr} {es : List Expr} {ms : Rho → Ks → R (List Val × Ks)} {x : Str} {q pos : Pos} {F : Value} {r : List V → Hp → VK → Prop} {f : List Val → Option Val} (hF : (∃ id, F = .builtin id) ∨ ∃ T, F = .type T) (hc : CallR p.X F r) (hr : CallOk p r f) (hg : L2.Gl p.X x) (hm : p.X.mg x = none)
    (hv : bootBuiltins x = some F) (ha : SBs p (e :: es) ms) (hn : x ≠ "__name__") (hdb : (x == ("__debug__" : Str)) = false) (he : starEach (e :: es) p.X.env = (false, eval e p.X.env) :: starEach es p.X.env) (hpl : (backTo pos (starEach es p.X.env)).any (·.1) = false) :
    SE p (.Call (.Name x q) (e :: es) [] pos) (fun ρ κ => (ms ρ κ).bind fun q => R.ofO ((f q.1).map fun v => (v, q.2))) := by
  have go : ∀ σ H Q, tG p (rV p.g) (fun ρ κ => (ms ρ κ).bind fun q => R.ofO ((f q.1).map fun v => (v, q.2))) σ H Q → tCB r (tG p (fun w H l xs => RBs p.g w H l xs) ms) σ H Q := fun σ H Q h =>
    tG_bind1 (f := fun _ q => R.ofO ((f q.1).map fun v => (v, q.2))) h fun w ρ κ H1 a x re wf rx po => by
      obtain ⟨v, ev, k⟩ := Post.some (p := p) po
      exact hr wf rx ev k
  rcases hF with ⟨id, rfl⟩ | ⟨T, rfl⟩
  · exact (pe_callB hc hg hm hv ha hn hdb he hpl).imp go
  · exact (pe_callTy hc hg hm hv ha hn hdb he hpl).imp go
theorem biF_form (b : Bi) : (∃ id, biF b = .builtin id) ∨ ∃ T, biF b = .type T := by cases b <;> first | exact .inl ⟨_, rfl⟩ | exact .inr ⟨_, rfl⟩
theorem biN_name (b : Bi) : biN b ≠ "__name__" := by cases b <;> decide +kernel
theorem biN_debug (b : Bi) : (biN b == ("__debug__" : Str)) = false := by cases b <;> decide +kernel

/-! ### isinstance -/
def tyN : Ty → Str
  | .int => "int" | .bool => "bool" | .str => "str" | .tuple => "tuple" | .list => "list"
def tyS : Ty → String
  | .int => "int" | .bool => "bool" | .str => "str" | .tuple => "tuple" | .list => "list"
theorem ty_boot (t : Ty) : bootBuiltins (tyN t) = some (.type (tyS t)) := by cases t <;> decide +kernel
theorem tyN_name (b : Ty) : tyN b ≠ "__name__" := by cases b <;> decide +kernel
theorem tyN_debug (b : Ty) : (tyN b == ("__debug__" : Str)) = false := by cases b <;> decide +kernel
def tyOf : Val → Option String
  | .non => some "NoneType" | .bl _ => some "bool" | .int _ => some "int" | .str _ => some "str" | .tup _ => some "tuple" | .lst _ => some "list"
  | _ => none
theorem isiV_kit {t : Ty} {v : Val} {b : Bool} (h : isiV t v = some b) : ∃ T, tyOf v = some T ∧ kitB T (tyS t) = some b := by
  unfold isiV at h
  split at h <;> first | (cases h; done) | skip
  all_goals (cases h; refine ⟨_, rfl, ?_⟩; cases t <;> decide +kernel)
theorem RB.ty (hK : p.X.K = p.g.K) {w : Wd} {H : Hp} {v : Val} {x : V} {T : String} (r : RB p.g w H v x) (h : tyOf v = some T) : TyX p.X.K H x (.type T) := by
  cases r with
  | own h' _ _ => cases h; exact .base (.lst h')
  | of r =>
    cases r with
    | non => cases h; exact .base .non
    | bl b => cases h; exact .base (.bl b)
    | int b => cases h; exact .base (.int b)
    | str b => cases h; exact .base (.str b)
    | tup ha r =>
      cases h
      rw [hK]
      rcases ha with (ha | ⟨o, ha⟩) | ⟨o, its, n, e, c, _⟩
      · exact .base (.tup ha)
      · exact .fTuple ha
      · exact .kTuple e c
    | lst j ha r => cases h; exact .base (.lst ha)
    | fn _ => cases h
    | cell _ => cases h
    | scr _ => cases h
theorem SE_isi (hK : p.X.K = p.g.K) {t : Ty} {q q2 pos : Pos} (hg : L2.Gl p.X "isinstance") (hm : p.X.mg "isinstance" = none) (hg2 : L2.Gl p.X (tyN t)) (hm2 : p.X.mg (tyN t) = none) (ha : SB p a ma)
    (he : starEach [a, .Name (tyN t) q2] p.X.env = (false, eval a p.X.env) :: starEach [.Name (tyN t) q2] p.X.env) :
    SE p (.Call (.Name "isinstance" q) [a, .Name (tyN t) q2] [] pos) (fun ρ κ => (ma ρ κ).bind fun q => R.ofO ((isiV t q.1).map fun v => (.bl v, q.2))) :=
  (pe_callB call_isi hg hm boot_isinstance (pa_cons ha (pa_cons (pe_bltn (v := .ty (tyS t)) hg2 hm2 (ty_boot t) rfl (tyN_name t) (tyN_debug t)) pa_nil rfl) he) (by decide) (by decide) he (by rfl)).imp fun σ H Q h =>
    tG_bind1 (f := fun _ q => R.ofO ((isiV t q.1).map fun v => (Val.bl v, q.2))) h fun w ρ κ H1 a x re wf rx po => by
      cases e : isiV t a with
      | none => rw [e] at po; exact po.elim
      | some b =>
        rw [e] at po
        obtain ⟨T, h1, h2⟩ := isiV_kit e
        exact ⟨x, _, _, _, b, rfl, .ty _, rx.ty hK h1, kit_ty h2, po _ w H1 (Ext.refl w H1) wf (.bl b)⟩
end
end PL
end
section
set_option maxHeartbeats 1000000
namespace PL
open PySem PySem.Spec PyProof.Rows L2 LamX NdefX
/-! ### what is walked -/
/-- J gives the items l, from any state of S -/
structure Wlk (g : Gx) (S : Wd → Hp → Prop) (J : L2.It) (l : List Val) : Prop where
  go : ∀ (i : Nat) (w : Wd) (κ : Ks) (H : Hp), i < l.length → S w H → WF g w κ H → J.go i H
  stop : ∀ (w : Wd) (κ : Ks) (H : Hp), S w H → WF g w κ H → J.stop l.length H
  yld : ∀ (i : Nat) (w : Wd) (κ : Ks) (H : Hp) (x : V) (H' : Hp), i < l.length → S w H → WF g w κ H → J.yld i H x H' → ∃ v, l[i]? = some v ∧ Ext w H w H' ∧ WF g w κ H' ∧ RV g w.I w.μ H' v x
theorem Wlk.mono {g : Gx} {S S' : Wd → Hp → Prop} {J : L2.It} {l : List Val} (h : Wlk g S J l) (k : ∀ w H, S' w H → S w H) : Wlk g S' J l :=
  ⟨fun i w κ H hi s => h.go i w κ H hi (k w H s), fun w κ H s => h.stop w κ H (k w H s), fun i w κ H x H' hi s => h.yld i w κ H x H' hi (k w H s)⟩
/-- states behind one, within an expression -/
def SExt (w : Wd) (H : Hp) : Wd → Hp → Prop := fun w' H' => Ext w H w' H'
/-- .. within statements: the fixed lists stay -/
def SKp (w : Wd) (H : Hp) : Wd → Hp → Prop := fun w' H' => Keeps w.I w'.I w.μ w'.μ H H'
section
variable {g : Gx} {w w' : Wd} {κ : Ks} {H H' : Hp}
theorem Keeps.refl {I : Addr → Prop} {μ : List Addr} {H : Hp} : Keeps I I μ μ H H := ⟨fun _ z => z, fun _ _ z => z, fun _ _ _ z => z, fun _ _ z => z, fun _ _ _ z => z⟩
theorem Keeps.trans {I I' I'' : Addr → Prop} {μ μ' μ'' : List Addr} {H H' H'' : Hp} (a : Keeps I I' μ μ' H H') (b : Keeps I' I'' μ' μ'' H' H'') : Keeps I I'' μ μ'' H H'' :=
  ⟨fun x z => b.j x (a.j x z), fun i x z => b.m i x (a.m i x z), fun x o j z => b.l x o (a.j x j) (a.l x o j z), fun x xs z => b.t x xs (a.t x xs z), fun x o u z => b.f x o u (a.f x o u z)⟩
/-- a list that stays -/
theorem wlk_lst {S : Wd → Hp → Prop} {a : Addr} {l : List Val} {xs : List V} (st : ∀ w κ H, S w H → WF g w κ H → H a = some (.lst xs) ∧ RVs g w.I w.μ H l xs) (hl : l.length = xs.length) : Wlk g S (Itl g.K a) l where
  go := fun i w κ H hi s wf => by
    obtain ⟨h, r⟩ := st w κ H s wf
    exact ⟨xs, xs[i]'(by omega), SqL.of h, by simp⟩
  stop := fun w κ H s wf => by
    obtain ⟨h, r⟩ := st w κ H s wf
    exact ⟨xs, SqL.of h, by omega⟩
  yld := fun i w κ H x H' hi s wf y => by
    obtain ⟨e, y⟩ := y
    subst e
    obtain ⟨h, r⟩ := st w κ H' s wf
    obtain ⟨v, h1, h2⟩ := r.get' (y xs (SqL.of h))
    exact ⟨v, h1, Ext.refl w H', wf, h2⟩
theorem wlk_tup {S : Wd → Hp → Prop} {a : Addr} {l : List Val} {xs : List V} (st : ∀ w κ H, S w H → WF g w κ H → SqT g.K H a xs ∧ RVs g w.I w.μ H l xs) (hl : l.length = xs.length) : Wlk g S (Itt g.K a) l where
  go := fun i w κ H hi s wf => by
    obtain ⟨h, r⟩ := st w κ H s wf
    exact ⟨xs, xs[i]'(by omega), h, by simp⟩
  stop := fun w κ H s wf => by
    obtain ⟨h, r⟩ := st w κ H s wf
    exact ⟨xs, h, by omega⟩
  yld := fun i w κ H x H' hi s wf y => by
    obtain ⟨e, y⟩ := y
    subst e
    obtain ⟨h, r⟩ := st w κ H' s wf
    obtain ⟨v, h1, h2⟩ := r.get' (y xs h)
    exact ⟨v, h1, Ext.refl w H', wf, h2⟩
theorem getElem?_map_range {α : Type} (f : Nat → α) {n i : Nat} (hi : i < n) : ((List.range n).map f)[i]? = some (f i) := by
  rw [List.getElem?_map, List.getElem?_range hi]; rfl
theorem wlk_rng {S : Wd → Hp → Prop} (lo : Int) (n : Nat) : Wlk g S (Itr lo n) ((List.range n).map fun i => .int (lo + (i : Nat))) where
  go := fun i w κ H hi s wf => by
    show i < n
    simpa using hi
  stop := fun w κ H s wf => by
    show n ≤ _
    simp
  yld := fun i w κ H x H' hi s wf y => by
    obtain ⟨e, rfl⟩ := y
    subst e
    have hi : i < n := by simpa using hi
    exact ⟨.int (lo + (i : Nat)), getElem?_map_range _ hi, Ext.refl w H', wf, .int _⟩
theorem wlk_rngC {S : Wd → Hp → Prop} (lo c : Int) (n : Nat) : Wlk g S (Itc lo c n) ((List.range n).map fun i => .int (lo + (i : Nat) * c)) where
  go := fun i w κ H hi s wf => by
    show i < n
    simpa using hi
  stop := fun w κ H s wf => by
    show n ≤ _
    simp
  yld := fun i w κ H x H' hi s wf y => by
    obtain ⟨e, rfl⟩ := y
    subst e
    have hi : i < n := by simpa using hi
    exact ⟨.int (lo + (i : Nat) * c), getElem?_map_range _ hi, Ext.refl w H', wf, .int _⟩
/-- a pair at a new place -/
theorem new_pair (wf : WF g w κ H) {u v : Val} {x y : V} (ru : RV g w.I w.μ H u x) (rv : RV g w.I w.μ H v y) {T : Addr} (n : H T = none) :
    Ext w H w (upd H T (.tup [x, y])) ∧ WF g w κ (upd H T (.tup [x, y])) ∧ RV g w.I w.μ (upd H T (.tup [x, y])) (.tup [u, v]) (.ref T) := RV.newTup wf (.cons ru (.cons rv .nil)) n
theorem zipL_get {l m : List Val} {i : Nat} {u v : Val} (h1 : l[i]? = some u) (h2 : m[i]? = some v) : (zipL l m)[i]? = some (.tup [u, v]) := by
  unfold zipL
  have h3 : (l.zip m)[i]? = some (u, v) := List.getElem?_zip_eq_some.mpr ⟨h1, h2⟩
  rw [List.getElem?_map, h3]; rfl
theorem zipL_length (l m : List Val) : (zipL l m).length = min l.length m.length := by
  unfold zipL
  rw [List.length_map, List.length_zip]
theorem wlk_zip {S : Wd → Hp → Prop} {a b : Addr} {l m : List Val} {xs ys : List V} (st : ∀ w κ H, S w H → WF g w κ H → (H a = some (.lst xs) ∧ RVs g w.I w.μ H l xs) ∧ (H b = some (.lst ys) ∧ RVs g w.I w.μ H m ys))
    (hl : l.length = xs.length) (hm : m.length = ys.length) : Wlk g S (Itz g.K a b) (zipL l m) where
  go := fun i w κ H hi s wf => by
    obtain ⟨⟨h, r⟩, h', r'⟩ := st w κ H s wf
    rw [zipL_length] at hi
    exact ⟨xs, ys, xs[i]'(by omega), ys[i]'(by omega), SqL.of h, SqL.of h', by simp, by simp⟩
  stop := fun w κ H s wf => by
    obtain ⟨⟨h, r⟩, h', r'⟩ := st w κ H s wf
    rw [zipL_length]
    exact ⟨xs, ys, SqL.of h, SqL.of h', by omega⟩
  yld := fun i w κ H x H' hi s wf y => by
    obtain ⟨T, x1, y1, rfl, n, rfl, hx, hy⟩ := y
    obtain ⟨⟨h, r⟩, h', r'⟩ := st w κ H s wf
    obtain ⟨v, h1, h2⟩ := r.get' (hx xs (SqL.of h))
    obtain ⟨u, h3, h4⟩ := r'.get' (hy ys (SqL.of h'))
    obtain ⟨e1, wf1, r1⟩ := new_pair wf h2 h4 n
    exact ⟨_, zipL_get h1 h3, e1, wf1, r1⟩
theorem wlk_zipT {S : Wd → Hp → Prop} {a b : Addr} {l m : List Val} {xs ys : List V} (st : ∀ w κ H, S w H → WF g w κ H → (SqT g.K H a xs ∧ RVs g w.I w.μ H l xs) ∧ (SqT g.K H b ys ∧ RVs g w.I w.μ H m ys))
    (hl : l.length = xs.length) (hm : m.length = ys.length) : Wlk g S (RZ.ItzT g.K a b) (zipL l m) where
  go := fun i w κ H hi s wf => by
    obtain ⟨⟨h, r⟩, h', r'⟩ := st w κ H s wf
    rw [zipL_length] at hi
    exact ⟨xs, ys, xs[i]'(by omega), ys[i]'(by omega), h, h', by simp, by simp⟩
  stop := fun w κ H s wf => by
    obtain ⟨⟨h, r⟩, h', r'⟩ := st w κ H s wf
    rw [zipL_length]
    exact ⟨xs, ys, h, h', by omega⟩
  yld := fun i w κ H x H' hi s wf y => by
    obtain ⟨T, x1, y1, rfl, n, rfl, hx, hy⟩ := y
    obtain ⟨⟨h, r⟩, h', r'⟩ := st w κ H s wf
    obtain ⟨v, h1, h2⟩ := r.get' (hx xs h)
    obtain ⟨u, h3, h4⟩ := r'.get' (hy ys h')
    obtain ⟨e1, wf1, r1⟩ := new_pair wf h2 h4 n
    exact ⟨_, zipL_get h1 h3, e1, wf1, r1⟩
theorem enumL_get {l : List Val} {i : Nat} {u : Val} (h1 : l[i]? = some u) : (enumL l)[i]? = some (.tup [.int (i : Nat), u]) := by
  have hi : i < l.length := (List.getElem?_eq_some_iff.mp h1).1
  unfold enumL
  have h3 : ((List.range l.length).zip l)[i]? = some (i, u) := List.getElem?_zip_eq_some.mpr ⟨List.getElem?_range hi, h1⟩
  rw [List.getElem?_map, h3]; rfl
theorem enumL_length (l : List Val) : (enumL l).length = l.length := by
  unfold enumL
  rw [List.length_map, List.length_zip, List.length_range]; omega
theorem wlk_enum {S : Wd → Hp → Prop} {a : Addr} {l : List Val} {xs : List V} (st : ∀ w κ H, S w H → WF g w κ H → H a = some (.lst xs) ∧ RVs g w.I w.μ H l xs) (hl : l.length = xs.length) : Wlk g S (Ite g.K a) (enumL l) where
  go := fun i w κ H hi s wf => by
    obtain ⟨h, r⟩ := st w κ H s wf
    rw [enumL_length] at hi
    exact ⟨xs, xs[i]'(by omega), SqL.of h, by simp⟩
  stop := fun w κ H s wf => by
    obtain ⟨h, r⟩ := st w κ H s wf
    rw [enumL_length]
    exact ⟨xs, SqL.of h, by omega⟩
  yld := fun i w κ H x H' hi s wf y => by
    obtain ⟨T, x1, rfl, n, rfl, hx⟩ := y
    obtain ⟨h, r⟩ := st w κ H s wf
    obtain ⟨v, h1, h2⟩ := r.get' (hx xs (SqL.of h))
    obtain ⟨e1, wf1, r1⟩ := new_pair wf (.int (i : Nat)) h2 n
    exact ⟨_, enumL_get h1, e1, wf1, r1⟩
end

/-! ### a list or a tuple, walked -/
def iSeq (K : PySem.W.Frag) (tl : TE) : TI := fun σ H R => tl σ H fun x H1 => ∃ a, x = .ref a ∧ (((∃ xs, SqL K H1 a xs) ∧ R (Itl K a) H1) ∨ ((∃ xs, SqT K H1 a xs) ∧ R (Itt K a) H1))
theorem pi_seq {X : Cx} {tg l : Expr} {tl : TE} (hl : PE X l tl) : PI X tg l (iSeq X.K tl) := by
  refine ⟨fun pn st sg hh RR iv hw => thn (hl.run pn st sg hh _ iv hw) fun vv s1 hq => ?_⟩
  obtain ⟨x, H1, I1, r1, a, e, cs⟩ := hq
  rw [e] at r1
  cases r1
  have nw : ∀ b, b ∈ [s1.heap.objs.size] → FpOk X pn H1 b := fun b hb => by
    rw [List.mem_singleton.mp hb]
    exact I1.fpOk (Nat.le_refl _) I1.fresh
  rcases cs with ⟨⟨xs, hq⟩, q⟩ | ⟨⟨xs, hq⟩, q⟩
  · obtain ⟨its, _, pl, _⟩ := I1.list hq
    exact wpAny_pyIter_list pl.isList ⟨_, _, _, _, H1, rfl, I1.kept (t' := s1.toks) fun _ _ z => Heap.get?_push_of_some _ z, turn_list a _, ⟨_, Heap.get?_push_size _ rfl, rfl, rfl⟩, nw, q⟩
  · obtain ⟨its, _, pl, _⟩ := I1.tuple hq
    exact wpAny_pyIter_tuple (show s1.heap.IsTuple a its.toArray from pl) ⟨_, _, _, _, H1, rfl, I1.kept (t' := s1.toks) fun _ _ z => Heap.get?_push_of_some _ z, turn_tuple a _, ⟨_, Heap.get?_push_size _ rfl, rfl, rfl⟩, nw, q⟩
theorem _root_.L2.PI.imp {X : Cx} {tg e : Expr} {t t' : TI} (h : PI X tg e t) (k : ∀ σ H Q, t' σ H Q → t σ H Q) : PI X tg e t' := ⟨fun pins s σ H Q I q => h.run pins s σ H Q I (k σ H Q q)⟩

/-! ### iterables -/
abbrev rWx (g : Gx) : Wd → Hp → List Val → L2.It → Prop := fun w H l J => Wlk g (SExt w H) J l
abbrev rWk (g : Gx) : Wd → Hp → List Val → L2.It → Prop := fun w H l J => Wlk g (SKp w H) J l
abbrev SI (p : Pl) (tg e : Expr) (m : Rho → Ks → R (List Val × Ks)) : Prop := PI p.X tg e (tG p (rWx p.g) m)
abbrev SIk (p : Pl) (tg e : Expr) (m : Rho → Ks → R (List Val × Ks)) : Prop := PI p.X tg e (tG p (rWk p.g) m)
section
variable {p : Pl} {tg a b c : Expr} {pos : Pos} {ma mb mc : Rho → Ks → R (Val × Ks)}
theorem itemsV_some {v : Val} {l : List Val} (h : itemsV v = some l) : v = .tup l ∨ v = .lst l := by
  unfold itemsV at h
  split at h
  · cases h; exact .inl rfl
  · cases h; exact .inr rfl
  · cases h
theorem SI_seq (hK : p.X.K = p.g.K) (ha : SB p a ma) : SI p tg a (fun ρ κ => (ma ρ κ).bind fun q => R.ofO ((itemsV q.1).map fun l => (l, q.2))) :=
  (pi_seq ha).imp fun σ H Q h => tG_bind1 (f := fun _ q => R.ofO ((itemsV q.1).map fun l => (l, q.2))) h fun w ρ κ H1 a x re wf rx po => by
    obtain ⟨l, ev, k⟩ := Post.some (p := p) po
    rcases itemsV_some ev with rfl | rfl
    · obtain ⟨q, xs, rfl, hq, r⟩ := rx.tup
      refine ⟨q, rfl, .inr ⟨⟨xs, by rw [hK]; exact hq⟩, k _ w H1 (Ext.refl w H1) wf ?_⟩⟩
      rw [hK]
      exact wlk_tup (fun w' κ' H' s wf' => ⟨PL.SqT.keeps (s.keepsI wf) hq, r.ext s wf⟩) r.length
    · obtain ⟨q, xs, rfl, hq, n, r⟩ := rx.lst wf
      refine ⟨q, rfl, .inl ⟨⟨xs, SqL.of hq⟩, k _ w H1 (Ext.refl w H1) wf ?_⟩⟩
      rw [hK]
      exact wlk_lst (fun w' κ' H' s wf' => ⟨Ext.rd s n hq, r.ext s wf⟩) r.length
theorem SIk_seq (hK : p.X.K = p.g.K) (ha : SE p a ma) : SIk p tg a (fun ρ κ => (ma ρ κ).bind fun q => R.ofO ((itemsV q.1).map fun l => (l, q.2))) :=
  (pi_seq ha).imp fun σ H Q h => tG_bind1 (f := fun _ q => R.ofO ((itemsV q.1).map fun l => (l, q.2))) h fun w ρ κ H1 a x re wf rx po => by
    obtain ⟨l, ev, k⟩ := Post.some (p := p) po
    have rx : RV p.g w.I w.μ H1 a x := rx
    rcases itemsV_some ev with rfl | rfl
    · cases rx with
      | tup hq r =>
        refine ⟨_, rfl, .inr ⟨⟨_, by rw [hK]; exact hq⟩, k _ w H1 (Ext.refl w H1) wf ?_⟩⟩
        rw [hK]
        exact wlk_tup (fun w' κ' H' s wf' => ⟨PL.SqT.keeps s hq, r.keeps s⟩) r.length
    · cases rx with
      | lst j hq r =>
        refine ⟨_, rfl, .inl ⟨⟨_, SqL.of hq⟩, k _ w H1 (Ext.refl w H1) wf ?_⟩⟩
        rw [hK]
        exact wlk_lst (fun w' κ' H' s wf' => ⟨s.l _ _ j hq, r.keeps s⟩) r.length
/-! ### range, zip, enumerate -/
variable {es : List Expr} {ms : Rho → Ks → R (List Val × Ks)}
theorem rngOk_bnd {i j : Int} (h : rngOk i j = true) : -(2 ^ 62) ≤ i ∧ i < 2 ^ 62 ∧ -(2 ^ 62) ≤ j ∧ j < 2 ^ 62 := by
  unfold rngOk at h
  simp only [Bool.and_eq_true, decide_eq_true_eq] at h
  omega
theorem RVs.i1 {g : Gx} {J : Addr → Prop} {μ : List Addr} {H : Hp} {i : Int} {xs : List V} (r : RVs g J μ H [.int i] xs) : xs = [.int i] := by
  cases r with | cons h t => cases h; cases t; rfl
theorem RVs.i2 {g : Gx} {J : Addr → Prop} {μ : List Addr} {H : Hp} {i j : Int} {xs : List V} (r : RVs g J μ H [.int i, .int j] xs) : xs = [.int i, .int j] := by
  cases r with | cons h t => cases h; rw [RVs.i1 t]
theorem RVs.i3 {g : Gx} {J : Addr → Prop} {μ : List Addr} {H : Hp} {i j k : Int} {xs : List V} (r : RVs g J μ H [.int i, .int j, .int k] xs) : xs = [.int i, .int j, .int k] := by
  cases r with | cons h t => cases h; rw [RVs.i2 t]
theorem SR1 {S : Wd → Hp → Wd → Hp → Prop} {q pos : Pos} (hg : L2.Gl p.X "range") (hm : p.X.mg "range" = none) (ha : SEs p [a] ms) (hs : starEach [a] p.X.env = [(false, eval a p.X.env)]) :
    PI p.X tg (.Call (.Name "range" q) [a] [] pos) (tG p (fun w H l J => Wlk p.g (S w H) J l) (fun ρ κ => (ms ρ κ).bind fun q => R.ofO ((rngV1 q.1).map fun l => (l, q.2)))) :=
  (pi_range1 hg hm ha hs).imp fun σ H Q h => tG_bind1 (f := fun _ q => R.ofO ((rngV1 q.1).map fun l => (l, q.2))) h fun w ρ κ H1 a x re wf rx po => by
    obtain ⟨l, ev, k⟩ := Post.some (p := p) po
    have ev : rngV1 a = some l := ev
    unfold rngV1 at ev
    split at ev
    · split at ev
      · cases ev
        rename_i j hr
        have hb := rngOk_bnd hr
        cases RVs.i1 rx
        have := wlk_rng (g := p.g) (S := S w H1) 0 j.toNat
        refine ⟨j, rfl, hb.2.2.1, hb.2.2.2, k _ w H1 (Ext.refl w H1) wf ?_⟩
        unfold rngL
        rw [Int.sub_zero]
        exact this
      · cases ev
    · cases ev
theorem SR2 {S : Wd → Hp → Wd → Hp → Prop} {q pos : Pos} (hg : L2.Gl p.X "range") (hm : p.X.mg "range" = none) (ha : SEs p [a, b] ms) (hs : starEach [a, b] p.X.env = [(false, eval a p.X.env), (false, eval b p.X.env)]) (hs2 : starEach [b] p.X.env = [(false, eval b p.X.env)]) :
    PI p.X tg (.Call (.Name "range" q) [a, b] [] pos) (tG p (fun w H l J => Wlk p.g (S w H) J l) (fun ρ κ => (ms ρ κ).bind fun q => R.ofO ((rngV2 q.1).map fun l => (l, q.2)))) :=
  (pi_range2 hg hm ha hs hs2).imp fun σ H Q h => tG_bind1 (f := fun _ q => R.ofO ((rngV2 q.1).map fun l => (l, q.2))) h fun w ρ κ H1 a x re wf rx po => by
    obtain ⟨l, ev, k⟩ := Post.some (p := p) po
    have ev : rngV2 a = some l := ev
    unfold rngV2 at ev
    split at ev
    · split at ev
      · cases ev
        rename_i i j hr
        have hb := rngOk_bnd hr
        cases RVs.i2 rx
        exact ⟨i, j, rfl, hb, k _ w H1 (Ext.refl w H1) wf (wlk_rng (g := p.g) (S := S w H1) i (j - i).toNat)⟩
      · cases ev
    · cases ev
theorem SR3 {S : Wd → Hp → Wd → Hp → Prop} {q pos : Pos} (hg : L2.Gl p.X "range") (hm : p.X.mg "range" = none) (ha : SEs p [a, b, c] ms) (hs : starEach [a, b, c] p.X.env = (false, eval a p.X.env) :: starEach [b, c] p.X.env) (hs2 : (backTo pos (starEach [b, c] p.X.env)).any (·.1) = false) :
    PI p.X tg (.Call (.Name "range" q) [a, b, c] [] pos) (tG p (fun w H l J => Wlk p.g (S w H) J l) (fun ρ κ => (ms ρ κ).bind fun q => R.ofO ((rngV3 q.1).map fun l => (l, q.2)))) :=
  (pi_range3 hg hm ha hs hs2).imp fun σ H Q h => tG_bind1 (f := fun _ q => R.ofO ((rngV3 q.1).map fun l => (l, q.2))) h fun w ρ κ H1 a x re wf rx po => by
    obtain ⟨l, ev, k⟩ := Post.some (p := p) po
    have ev : rngV3 a = some l := ev
    unfold rngV3 at ev
    split at ev
    · split at ev
      · cases ev
        rename_i i j hr
        have hb := rngOk_bnd hr
        cases RVs.i3 rx
        exact ⟨i, j, -1, (i - j).toNat, rfl, RgC.neg hb.1 hb.2.1 hb.2.2.1 hb.2.2.2, k _ w H1 (Ext.refl w H1) wf (wlk_rngC (g := p.g) (S := S w H1) i (-1) (i - j).toNat)⟩
      · cases ev
    · cases ev
theorem SI_zip (hK : p.X.K = p.g.K) {elts : List Expr} {kk : Nat} {tpos q pos : Pos} (hg : L2.Gl p.X "zip") (hm : p.X.mg "zip" = none) (ha : SB p a ma) (hb : SB p b mb)
    (hs : starEach [a, b] p.X.env = (false, eval a p.X.env) :: starEach [b] p.X.env) (hs2 : starEach [b] p.X.env = (false, eval b p.X.env) :: starEach [] p.X.env) :
    SI p (.Tuple elts kk tpos) (.Call (.Name "zip" q) [a, b] [] pos) (fun ρ κ => (ma ρ κ).bind fun q => (mb ρ q.2).bind fun r => R.ofO ((zipV q.1 r.1).map fun l => (l, r.2))) :=
  (RZ.pi_zipA hg hm (pa_cons ha (pa_cons hb pa_nil hs2) hs) hs (by rw [hs2]; rfl)).imp fun σ H Q h => tG_bind2 (f := fun _ a r => R.ofO ((zipV a r.1).map fun l => (l, r.2))) RB.ext h fun w ρ κ H2 a x b y re wf rx ry po => by
    obtain ⟨ls, ev, k⟩ := Post.some (p := p) po
    have ev : zipV a b = some ls := ev
    unfold zipV at ev
    split at ev
    · cases ev
      obtain ⟨q, xs, rfl, hq, n, r⟩ := rx.lst wf
      obtain ⟨q', ys, rfl, hq', n', r'⟩ := ry.lst wf
      refine ⟨q, q', xs, ys, rfl, .inl ⟨SqL.of hq, SqL.of hq', k _ w H2 (Ext.refl w H2) wf ?_⟩⟩
      rw [hK]
      exact wlk_zip (fun w' κ' H' s wf' => ⟨⟨Ext.rd s n hq, r.ext s wf⟩, Ext.rd s n' hq', r'.ext s wf⟩) r.length r'.length
    · cases ev
      obtain ⟨q, xs, rfl, hq, r⟩ := rx.tup
      obtain ⟨q', ys, rfl, hq', r'⟩ := ry.tup
      refine ⟨q, q', xs, ys, rfl, .inr ⟨by rw [hK]; exact hq, by rw [hK]; exact hq', k _ w H2 (Ext.refl w H2) wf ?_⟩⟩
      rw [hK]
      exact wlk_zipT (fun w' κ' H' s wf' => ⟨⟨PL.SqT.keeps (s.keepsI wf) hq, r.ext s wf⟩, PL.SqT.keeps (s.keepsI wf) hq', r'.ext s wf⟩) r.length r'.length
    · cases ev
theorem SIk_zip (hK : p.X.K = p.g.K) {elts : List Expr} {kk : Nat} {tpos q pos : Pos} (hg : L2.Gl p.X "zip") (hm : p.X.mg "zip" = none) (ha : SE p a ma) (hb : SE p b mb)
    (hs : starEach [a, b] p.X.env = (false, eval a p.X.env) :: starEach [b] p.X.env) (hs2 : starEach [b] p.X.env = (false, eval b p.X.env) :: starEach [] p.X.env) :
    SIk p (.Tuple elts kk tpos) (.Call (.Name "zip" q) [a, b] [] pos) (fun ρ κ => (ma ρ κ).bind fun q => (mb ρ q.2).bind fun r => R.ofO ((zipV q.1 r.1).map fun l => (l, r.2))) :=
  (RZ.pi_zipA hg hm (pa_cons ha (pa_cons hb pa_nil hs2) hs) hs (by rw [hs2]; rfl)).imp fun σ H Q h => tG_bind2 (f := fun _ a r => R.ofO ((zipV a r.1).map fun l => (l, r.2))) (fun e wf r => RV.ext e wf r) h fun w ρ κ H2 a x b y re wf rx ry po => by
    obtain ⟨ls, ev, k⟩ := Post.some (p := p) po
    have ev : zipV a b = some ls := ev
    unfold zipV at ev
    split at ev
    · cases ev
      cases rx with | lst j hq r =>
      cases ry with | lst j' hq' r' =>
      refine ⟨_, _, _, _, rfl, .inl ⟨SqL.of hq, SqL.of hq', k _ w H2 (Ext.refl w H2) wf ?_⟩⟩
      rw [hK]
      exact wlk_zip (fun w' κ' H' s wf' => ⟨⟨s.l _ _ j hq, r.keeps s⟩, s.l _ _ j' hq', r'.keeps s⟩) r.length r'.length
    · cases ev
      cases rx with | tup hq r =>
      cases ry with | tup hq' r' =>
      refine ⟨_, _, _, _, rfl, .inr ⟨by rw [hK]; exact hq, by rw [hK]; exact hq', k _ w H2 (Ext.refl w H2) wf ?_⟩⟩
      rw [hK]
      exact wlk_zipT (fun w' κ' H' s wf' => ⟨⟨PL.SqT.keeps s hq, r.keeps s⟩, PL.SqT.keeps s hq', r'.keeps s⟩) r.length r'.length
    · cases ev
end
end PL
end
section
set_option maxHeartbeats 1000000
namespace PL
open PySem PySem.Spec PyProof.Rows L2 LamX NdefX
/-! ### the frame's names, written -/
section
variable {g : Gx} {X : Cx} {b : Bool} {w w' : Wd} {κ κ' : Ks} {H H' : Hp} {ρ : Rho} {σ : L2.St}
theorem SlotOk.set_ne {i j : Nat} {x : V} (n : i ≠ j) : ∀ {sl : Slot}, SlotOk g X b w H σ j sl → SlotOk g X b w H (σ.set i (some x)) j sl
  | .val _, ⟨y, h1, h2⟩ => ⟨y, by rw [List.getElem?_set_ne n]; exact h1, h2⟩
  | .own _, ⟨a, xs, h1, h2⟩ => ⟨a, xs, by rw [List.getElem?_set_ne n]; exact h1, h2⟩
  | .cls _, .inl z => .inl z
  | .cls _, .inr ⟨a, xs, h1, h2⟩ => .inr ⟨a, xs, by rw [List.getElem?_set_ne n]; exact h1, h2⟩
  | .ext _, ⟨y, h1, h2⟩ => ⟨y, by rw [List.getElem?_set_ne n]; exact h1, h2⟩
  | .pin, .inl z => .inl z
  | .pin, .inr ⟨q, h1, h2⟩ => .inr ⟨q, h1, by rw [List.getElem?_set_ne n]; exact h2⟩
theorem getElem?_set_cases {α : Type} {l : List α} {i j : Nat} {a b : α} (h : (l.set i a)[j]? = some b) : (i = j ∧ i < l.length ∧ b = a) ∨ (i ≠ j ∧ l[j]? = some b) := by
  by_cases e : i = j
  · subst e
    by_cases hi : i < l.length
    · rw [List.getElem?_set_self hi] at h; cases h; exact .inl ⟨rfl, hi, rfl⟩
    · rw [List.getElem?_eq_none (by rw [List.length_set]; omega)] at h; cases h
  · rw [List.getElem?_set_ne e] at h; exact .inr ⟨e, h⟩
/-- a slot that owns nothing is written -/
theorem RE.set (r : RE g X b w H ρ σ) {i : Nat} {x : V} {sl : Slot} (h : ∀ σ' : L2.St, σ'[i]? = some (some x) → SlotOk g X b w H σ' i sl) (no : ∀ l, sl ≠ .own l) : RE g X b w H (ρ.set i (some sl)) (σ.set i (some x)) where
  len := by rw [List.length_set, List.length_set]; exact r.len
  at_ := fun j s hj => by
    rcases getElem?_set_cases hj with ⟨e, hi, es⟩ | ⟨n, hj⟩
    · subst e; cases es
      exact h _ (List.getElem?_set_self (by rw [← r.len]; exact hi))
    · exact (r.at_ j s hj).set_ne n
  apart := fun j k l m a h1 h2 h3 h4 => by
    rcases getElem?_set_cases h1 with ⟨e, hi, es⟩ | ⟨n, h1⟩
    · cases es; exact absurd rfl (no l)
    · rcases getElem?_set_cases h2 with ⟨e, hi, es⟩ | ⟨n2, h2⟩
      · cases es; exact absurd rfl (no m)
      · rw [List.getElem?_set_ne n] at h3
        rw [List.getElem?_set_ne n2] at h4
        exact r.apart j k l m a h1 h2 h3 h4
theorem RE.setV (r : RE g X b w H ρ σ) {i : Nat} {v : Val} {x : V} (h : RV g w.I w.μ H v x) : RE g X b w H (ρ.set i (some (.val v))) (σ.set i (some x)) :=
  r.set (fun σ' e => ⟨x, e, h⟩) fun _ z => nomatch z
/-- forgotten -/
theorem RE.drop (r : RE g X b w H ρ σ) (i : Nat) : RE g X b w H (ρ.set i none) (σ.set i none) where
  len := by rw [List.length_set, List.length_set]; exact r.len
  at_ := fun j s hj => by
    rcases getElem?_set_cases hj with ⟨e, hi, es⟩ | ⟨n, hj⟩
    · cases es
    · cases s with
      | val v => obtain ⟨y, h1, h2⟩ := r.at_ j _ hj; exact ⟨y, by rw [List.getElem?_set_ne n]; exact h1, h2⟩
      | own v => obtain ⟨y, ys, h1, h2⟩ := r.at_ j _ hj; exact ⟨y, ys, by rw [List.getElem?_set_ne n]; exact h1, h2⟩
      | cls v =>
        rcases r.at_ j _ hj with z | ⟨y, ys, h1, h2⟩
        · exact .inl z
        · exact .inr ⟨y, ys, by rw [List.getElem?_set_ne n]; exact h1, h2⟩
      | ext v => obtain ⟨y, h1, h2⟩ := r.at_ j _ hj; exact ⟨y, by rw [List.getElem?_set_ne n]; exact h1, h2⟩
      | pin =>
        rcases r.at_ j _ hj with z | ⟨q, h1, h2⟩
        · exact .inl z
        · exact .inr ⟨q, h1, by rw [List.getElem?_set_ne n]; exact h2⟩
  apart := fun j k l m a h1 h2 h3 h4 => by
    rcases getElem?_set_cases h1 with ⟨_, _, es⟩ | ⟨n, h1⟩
    · cases es
    · rcases getElem?_set_cases h2 with ⟨_, _, es⟩ | ⟨n2, h2⟩
      · cases es
      · rw [List.getElem?_set_ne n] at h3
        rw [List.getElem?_set_ne n2] at h4
        exact r.apart j k l m a h1 h2 h3 h4
theorem RE.wipe (r : RE g X b w H ρ σ) : ∀ vs : List Nat, RE g X b w H (wipeR ρ vs) (L2.wipe σ vs)
  | [] => r
  | i :: vs => (RE.wipe r vs).drop i
end
/-! ### targets -/
mutual
def gT (K : PySem.W.Frag) : Tg → TG
  | .nm i => gName i
  | .tp l => fun v σ H Q => gTup K (nTgs l) (gTs K l) v σ H Q ∨ gLst K (nTgs l) (gTs K l) v σ H Q
def gTs (K : PySem.W.Frag) : Tgs → TGs
  | .nil => gNil
  | .cons t l => gCons (gT K t) (gTs K l)
def nTgs : Tgs → Nat
  | .nil => 0
  | .cons _ l => nTgs l + 1
end
mutual
def slTg : Tg → List Nat
  | .nm i => [i]
  | .tp l => slTgs l
def slTgs : Tgs → List Nat
  | .nil => []
  | .cons t l => slTg t ++ slTgs l
end
theorem wipe_set {σ : L2.St} {i : Nat} {x : Option V} : ∀ {vs : List Nat}, i ∈ vs → L2.wipe (σ.set i x) vs = L2.wipe σ vs
  | [], h => nomatch h
  | j :: vs, h => by
    show (L2.wipe (σ.set i x) vs).set j none = (L2.wipe σ vs).set j none
    by_cases hi : i ∈ vs
    · rw [wipe_set hi]
    · have e : i = j := by
        rcases List.mem_cons.mp h with e | e
        · exact e
        · exact absurd e hi
      subst e
      have go : ∀ (vs : List Nat) (σ : L2.St), i ∉ vs → L2.wipe (σ.set i x) vs = (L2.wipe σ vs).set i x := by
        intro vs
        induction vs with
        | nil => intro σ _; rfl
        | cons k vs ih =>
          intro σ hn
          rw [List.mem_cons, not_or] at hn
          show (L2.wipe (σ.set i x) vs).set k none = ((L2.wipe σ vs).set k none).set i x
          rw [ih σ hn.2, List.set_comm _ _ hn.1]
      rw [go vs σ hi, List.set_set]
theorem wipe_wipe (σ : L2.St) : ∀ {us vs : List Nat}, (∀ i ∈ us, i ∈ vs) → L2.wipe (L2.wipe σ us) vs = L2.wipe σ vs
  | [], vs, _ => rfl
  | i :: us, vs, h => by
    show L2.wipe ((L2.wipe σ us).set i none) vs = _
    rw [wipe_set (h i List.mem_cons_self), wipe_wipe σ fun j hj => h j (List.mem_cons_of_mem _ hj)]
section
variable {g : Gx} {X : Cx} {b : Bool} {w : Wd} {κ : Ks} {H : Hp}
theorem nTgs_len : ∀ {l : Tgs} {vs : List Val} {ρ ρ' : Rho}, setTgs l vs ρ = some ρ' → vs.length = nTgs l
  | .nil, [], _, _, _ => rfl
  | .nil, _ :: _, _, _, h => by simp [setTgs] at h
  | .cons _ _, [], _, _, h => by simp [setTgs] at h
  | .cons t l, v :: vs, ρ, ρ', h => by
    unfold setTgs at h
    split at h
    · rename_i ρ1 e
      rw [List.length_cons, nTgs_len h]; rfl
    · cases h
mutual
theorem gT_of (wf : WF g w κ H) : ∀ {t : Tg} {v : Val} {x : V} {ρ ρ' : Rho} {σ : L2.St} {Q : L2.St → Hp → Prop}, setTg t v ρ = some ρ' → RE g X b w H ρ σ → RV g w.I w.μ H v x →
    (∀ σ', RE g X b w H ρ' σ' → (∀ vs, (∀ i ∈ slTg t, i ∈ vs) → L2.wipe σ' vs = L2.wipe σ vs) → Q σ' H) → gT g.K t x σ H Q
  | .nm i, v, x, ρ, ρ', σ, Q, h, re, r, k => by
    unfold setTg at h
    split at h
    · cases h
      exact k _ (re.setV r) fun vs hv => wipe_set (hv i (by unfold slTg; exact List.mem_singleton.mpr rfl))
    · cases h
  | .tp l, v, x, ρ, ρ', σ, Q, h, re, r, k => by
    unfold setTg at h
    split at h
    · rename_i e; cases e
    · rename_i e; cases e
      cases r with
      | tup hq r => exact .inl ⟨_, _, rfl, hq, by rw [← r.length]; exact nTgs_len h, gTs_of wf h re r fun σ' re' hw => k σ' re' (fun vs hv => hw vs fun i hi => hv i (by unfold slTg; exact hi))⟩
    · rename_i e; cases e
      cases r with
      | lst j hq r => exact .inr ⟨_, _, rfl, SqL.of hq, by rw [← r.length]; exact nTgs_len h, gTs_of wf h re r fun σ' re' hw => k σ' re' (fun vs hv => hw vs fun i hi => hv i (by unfold slTg; exact hi))⟩
    · cases h
theorem gTs_of (wf : WF g w κ H) : ∀ {t : Tgs} {v : List Val} {x : List V} {ρ ρ' : Rho} {σ : L2.St} {Q : L2.St → Hp → Prop}, setTgs t v ρ = some ρ' → RE g X b w H ρ σ → RVs g w.I w.μ H v x →
    (∀ σ', RE g X b w H ρ' σ' → (∀ vs, (∀ i ∈ slTgs t, i ∈ vs) → L2.wipe σ' vs = L2.wipe σ vs) → Q σ' H) → gTs g.K t x σ H Q
  | .nil, [], x, ρ, ρ', σ, Q, h, re, r, k => by
    have h : some ρ = some ρ' := h
    cases h; cases r; exact ⟨rfl, k σ re fun _ _ => rfl⟩
  | .nil, _ :: _, x, ρ, ρ', σ, Q, h, re, r, k => by simp [setTgs] at h
  | .cons t l, [], x, ρ, ρ', σ, Q, h, re, r, k => by simp [setTgs] at h
  | .cons t l, v :: vs, x, ρ, ρ', σ, Q, h, re, r, k => by
    unfold setTgs at h
    split at h
    · rename_i ρ1 e1
      cases r with
      | cons rv rt =>
        refine ⟨_, _, rfl, gT_of wf e1 re rv fun σ1 re1 hw1 => gTs_of wf h re1 rt fun σ2 re2 hw2 => k σ2 re2 fun vs hv => ?_⟩
        rw [hw2 vs fun i hi => hv i (by unfold slTgs; exact List.mem_append_right _ hi), hw1 vs fun i hi => hv i (by unfold slTgs; exact List.mem_append_left _ hi)]
    · cases h
end
end
/-- a comprehension's turn, once it is through -/
theorem compL_cons {v : Val} {vs : List Val} {f : Val → Ks → R (Option Val × Ks)} {κ : Ks} {out : List Val × Ks} (h : compL (v :: vs) f κ = .ok out) :
    ∃ o κ1 rest, f v κ = .ok (o, κ1) ∧ compL vs f κ1 = .ok (rest, out.2) ∧ out.1 = o.elim rest (· :: rest) := by
  unfold compL at h
  cases e : f v κ with
  | ok q =>
    rw [e] at h
    cases e2 : compL vs f q.2 with
    | ok q2 =>
      have h : ((compL vs f q.2).bind fun z => R.ok (q.1.elim z.1 (· :: z.1), z.2)) = .ok out := h
      rw [e2] at h
      cases h
      exact ⟨q.1, q.2, q2.1, rfl, e2, rfl⟩
    | exc c p k =>
      have h : ((compL vs f q.2).bind fun z => R.ok (q.1.elim z.1 (· :: z.1), z.2)) = .ok out := h
      rw [e2] at h; cases h
    | bad =>
      have h : ((compL vs f q.2).bind fun z => R.ok (q.1.elim z.1 (· :: z.1), z.2)) = .ok out := h
      rw [e2] at h; cases h
  | exc c p k => rw [e] at h; cases h
  | bad => rw [e] at h; cases h
theorem compL_noexc {f : Val → Ks → R (Option Val × Ks)} (hf : ∀ v κ c p k, f v κ ≠ .exc c p k) : ∀ (vs : List Val) (κ : Ks) c p k, compL vs f κ ≠ .exc c p k
  | [], _, _, _, _ => fun h => nomatch h
  | v :: vs, κ, c, p, k => fun h => by
    unfold compL at h
    cases e : f v κ with
    | ok q =>
      rw [e] at h
      have h : ((compL vs f q.2).bind fun z => R.ok (q.1.elim z.1 (· :: z.1), z.2)) = .exc c p k := h
      cases e2 : compL vs f q.2 with
      | ok q2 => rw [e2] at h; cases h
      | exc c' p' k' => exact compL_noexc hf vs q.2 c' p' k' e2
      | bad => rw [e2] at h; cases h
    | exc c' p' k' => exact hf v κ c' p' k' e
    | bad => rw [e] at h; cases h
theorem noExc_ok {α : Type} {r : R α} {a : α} (h : noExc r = .ok a) : r = .ok a := by
  cases r <;> first | exact h | cases h
theorem noExc_no {α : Type} (r : R α) (c p k) : noExc r ≠ .exc c p k := by
  cases r <;> (intro h; cases h)
theorem bind_ok_inv {α β : Type} {r : R α} {f : α → R β} {b : β} (h : r.bind f = .ok b) : ∃ a, r = .ok a ∧ f a = .ok b := by
  cases r with
  | ok a => exact ⟨a, rfl, h⟩
  | exc c p k => cases h
  | bad => cases h
theorem ofO_ok_inv {α : Type} {o : Option α} {a : α} (h : R.ofO o = .ok a) : o = some a := by
  cases o with
  | none => cases h
  | some b => cases h; rfl

/-! ### a list that is neither fixed nor a cell is written -/
section
variable {g : Gx} {w w' : Wd} {κ : Ks} {H H' : Hp}
theorem keeps_upd_own (wf : WF g w κ H) {D : Addr} {xs : List V} (nI : ¬ w.I D) (nM : D ∉ w.μ) (h : H D = some (.lst xs)) (ys : List V) : Keeps w.I w.I w.μ w.μ H (upd H D (.lst ys)) := by
  have ne : ∀ a o, H a = some o → (∀ zs, o ≠ .lst zs) → upd H D (.lst ys) a = some o := fun a o q n => by
    rw [upd_ne (fun z => by rw [z, h] at q; cases q; exact n xs rfl)]; exact q
  exact ⟨fun _ z => z, fun _ _ z => z, fun a o j q => by rw [upd_ne (fun z => nI (by rw [← z]; exact j))]; exact q, fun a zs q => ne a _ q (by intro _ z; cases z), fun a o u q => ne a _ q (by intro _ z; cases z)⟩
theorem wf_upd_own (wf : WF g w κ H) {D : Addr} {xs : List V} (nI : ¬ w.I D) (nM : D ∉ w.μ) (h : H D = some (.lst xs)) (ys : List V) : WF g w κ (upd H D (.lst ys)) where
  len := wf.len
  at_ := fun i a hi => by
    obtain ⟨l, zs, h1, h2, h3⟩ := wf.at_ i a hi
    exact ⟨l, zs, h1, by rw [upd_ne (fun z => nM (by rw [← z]; exact List.mem_of_getElem? hi))]; exact h2, h3.keeps (keeps_upd_own wf nI nM h ys)⟩
  nd := wf.nd
  dis := wf.dis
  dom := fun a z => by
    obtain ⟨zs, q⟩ := wf.dom a z
    exact ⟨zs, by rw [upd_ne (fun z' => nI (by rw [← z']; exact z))]; exact q⟩
  tab := fun q hq => by
    obtain ⟨ps, h1, h2, h3⟩ := wf.tab q hq
    refine ⟨ps, by rw [upd_ne (fun z => by rw [z, h] at h1; cases h1)]; exact h1, h2, fun pos cv hc => ?_⟩
    obtain ⟨c, e1, e2⟩ := h3 pos cv hc
    exact ⟨c, e1, by rw [upd_ne (fun z => by rw [z, h] at e2; cases e2)]; exact e2⟩
/-- .. one that was not there at the start -/
theorem upd_D (e : Ext w H w' H') {D : Addr} (n : H D = none) {o : HO} : Ext w H w' (upd H' D o) where
  I := e.I
  new := e.new
  mu := e.mu
  fr := fun a u q nm nt => by rw [upd_ne (ne_of_none q n)]; exact e.fr a u q nm nt
  dm := fun a q => by
    unfold upd at q
    split at q
    · cases q
    · exact e.dm a q
end
/-! ### the comprehension -/
/-- the place of a comprehension's block -/
abbrev Pl.inB (p : Pl) : Pl := { p with W := fun _ _ _ _ => False, b := true }
abbrev blkX (X : Cx) (scope : Scope) (s : Shared) (H : Hp) (C : Addr) (cl : List (Str × Addr)) (fp : List Addr) : Cx := X.blk s H scope (compEnvC scope cl C X.env) fp
abbrev Pl.blk (p : Pl) (scope : Scope) (s : Shared) (H : Hp) (C : Addr) (cl : List (Str × Addr)) (fp : List Addr) : Pl := { p with X := blkX p.X scope s H C cl fp, W := fun _ _ _ _ => False, b := true }
theorem tG_blk {p : Pl} {scope : Scope} {s : Shared} {H0 : Hp} {C : Addr} {cl : List (Str × Addr)} {fp : List Addr} {α β : Type} {rel : Wd → Hp → α → β → Prop} {m : Rho → Ks → R (α × Ks)} {σ : L2.St} {H : Hp} {Q : β → Hp → Prop}
    (h : tG p.inB rel m σ H Q) : tG (p.blk scope s H0 C cl fp) rel m σ H Q := by
  obtain ⟨w, ρ, κ, re, wf, po⟩ := h
  exact ⟨w, ρ, κ, re.blk, wf, po⟩
/-- one turn of a comprehension -/
def turnF (tg : Tg) (ρ : Rho) (own : List Nat) (mt : Rho → Ks → R (Bool × Ks)) (me : Rho → Ks → R (Val × Ks)) (v : Val) (κ : Ks) : R (Option Val × Ks) :=
  noExc ((R.ofO (setTg tg v (wipeR ρ own))).bind fun ρ2 => (mt ρ2 κ).bind fun b => if b.1 = true then (me ρ2 b.2).bind fun x => .ok (some x.1, x.2) else .ok (none, b.2))
/-- a list that is new since H, nobody's yet -/
def rF (g : Gx) (H : Hp) : Wd → Hp → Val → V → Prop := fun w' H' v x => ∃ l a xs, v = .lst l ∧ x = .ref a ∧ H a = none ∧ H' a = some (.lst xs) ∧ RVs g w'.I w'.μ H' l xs ∧ ¬ w'.I a ∧ a ∉ w'.μ
def tF (p : Pl) (m : Rho → Ks → R (Val × Ks)) : TE := fun σ H Q =>
  ∃ w ρ κ, RE p.g p.X p.b w H ρ σ ∧ WF p.g w κ H ∧ Post p.g p.clA (rF p.g H) w H (m ρ κ) Q (fun c d H' => p.W c d σ H')
/-- e makes a new list -/
abbrev FE (p : Pl) (e : Expr) (m : Rho → Ks → R (Val × Ks)) : Prop := PE p.X e (tF p m)
theorem rF_fix {g : Gx} {w w' : Wd} {κ : Ks} {H H' : Hp} {v : Val} {x : V} (e : Ext w H w' H') (wf : WF g w' κ H') (r : rF g H w' H' v x) : ∃ w2, Ext w H w2 H' ∧ WF g w2 κ H' ∧ RV g w2.I w2.μ H' v x := by
  obtain ⟨l, a, xs, rfl, rfl, n, h, r, nI, nM⟩ := r
  exact ⟨w'.fix a, e.fix n, wf.fix h nM, .lst (.inr rfl) h (r.keeps .fix)⟩
theorem SE.ofF {p : Pl} {e : Expr} {m : Rho → Ks → R (Val × Ks)} (h : FE p e m) : SE p e m := h.imp fun σ H Q ⟨w, ρ, κ, re, wf, po⟩ => by
  refine ⟨w, ρ, κ, re, wf, ?_⟩
  generalize m ρ κ = z at po ⊢
  cases z with
  | ok q =>
    intro x w' H' e wf' r
    obtain ⟨w2, e2, wf2, r2⟩ := rF_fix e wf' r
    exact po x w2 H' e2 wf2 r2
  | exc c v k =>
    cases v with
    | non => exact po
    | _ => exact po
  | bad => exact po
section
variable {p : Pl} {elt tgE iter : Expr} {ifs : List Expr} {scope : Scope} {own : List Nat} {pos : Pos} {mi : Rho → Ks → R (List Val × Ks)} {mt : Rho → Ks → R (Bool × Ks)} {me : Rho → Ks → R (Val × Ks)} {tg : Tg}
theorem comp_read (hsl : ∀ i ∈ slTg tg, i ∈ own) {σ : L2.St} {H : Hp} {Q : VK}
    (h : tF p (fun ρ κ => (mi ρ κ).bind fun q => (compL q.1 (turnF tg ρ own mt me) q.2).bind fun r => if r.1.length < LINE then .ok (.lst r.1, r.2) else .bad) σ H Q) :
    tLc (tG p (rWx p.g) mi) (gT p.g.K tg) (tG p.inB (fun _ _ a b => a = b) mt) (tG p.inB (rV p.g) me) own σ H Q := by
  obtain ⟨w0, ρ, κ0, re0, wf0, po⟩ := h
  refine ⟨w0, ρ, κ0, re0, wf0, Post.bind po fun w H1 l κ J wf e01 wl po => ?_⟩
  have re := re0.ext e01 wf0
  intro D hD
  have po : Post p.g p.clA (rF p.g H) w H1 ((compL l (turnF tg ρ own mt me) κ).bind fun r => if r.1.length < LINE then .ok (Val.lst r.1, r.2) else .bad) Q (fun c d H' => p.W c d σ H') := po
  cases e : compL l (turnF tg ρ own mt me) κ with
  | bad => rw [e] at po; exact po.elim
  | exc c v k => exact absurd e (compL_noexc (fun v κ c p k => noExc_no _ c p k) l κ c v k)
  | ok out =>
    rw [e] at po
    have po : Post p.g p.clA (rF p.g H) w H1 (if out.1.length < LINE then .ok (Val.lst out.1, out.2) else .bad) Q (fun c d H' => p.W c d σ H') := po
    by_cases hl : out.1.length < LINE
    case neg => rw [if_neg hl] at po; exact po.elim
    rw [if_pos hl] at po
    have nI : ¬ w.I D := fun z => by
      obtain ⟨xs, q⟩ := wf.dom D z
      rw [hD] at q; cases q
    have nM : D ∉ w.μ := fun z => by
      obtain ⟨o, q⟩ := wf.mu_some z
      rw [hD] at q; cases q
    refine ⟨fun i m H => m = l.length - i ∧ i ≤ l.length ∧ ∃ w2 κ2 acc xs rest, Ext w H1 w2 H ∧ WF p.g w2 κ2 H ∧ ¬ w2.I D ∧ D ∉ w2.μ ∧ H D = some (.lst xs) ∧ RVs p.g w2.I w2.μ H acc xs ∧
      compL (l.drop i) (turnF tg ρ own mt me) κ2 = .ok (rest, out.2) ∧ out.1 = acc ++ rest,
      ⟨l.length, by simp, Nat.zero_le _, w, κ, [], [], out.1, Ext.upd_new wf hD _, wf.upd_new hD _, nI, nM, upd_same, .nil, by rw [List.drop_zero]; exact e, rfl⟩, ?_⟩
    rintro i m H2 ⟨rfl, hil, w2, κ2, acc, xs, rest, e2, wf2, nI2, nM2, hDx, ra, ec, eo⟩
    by_cases hlt : i < l.length
    case neg =>
      have ei : i = l.length := by omega
      subst ei
      refine .inl ⟨wl.stop w2 κ2 H2 e2 wf2, ?_⟩
      rw [List.drop_length] at ec
      have ec : R.ok (([] : List Val), κ2) = R.ok (rest, out.2) := ec
      cases ec
      rw [List.append_nil] at eo
      exact po (.ref D) w2 H2 e2 wf2 ⟨_, D, xs, rfl, rfl, e01.dm D hD, hDx, by rw [eo]; exact ra, nI2, nM2⟩
    case pos =>
      refine .inr ⟨wl.go i w2 κ2 H2 hlt e2 wf2, _, fun H' hN => ⟨l.length - (i + 1), by omega, hN⟩, fun x H3 hy => ?_⟩
      obtain ⟨v, hv, e3, wf3, rv⟩ := wl.yld i w2 κ2 H2 x H3 hlt e2 wf2 hy
      have hd : l.drop i = v :: l.drop (i + 1) := by
        rw [List.drop_eq_getElem_cons hlt]
        rw [List.getElem?_eq_getElem hlt] at hv
        cases hv; rfl
      rw [hd] at ec
      obtain ⟨o, κ3, rest', ef, ec', eo'⟩ := compL_cons ec
      obtain ⟨ρ2, et, ef⟩ := bind_ok_inv (noExc_ok ef)
      obtain ⟨b, eb, ef⟩ := bind_ok_inv ef
      have et := ofO_ok_inv et
      have e13 : Ext w H1 w2 H3 := e2.trans e3
      have reW : RE p.g p.X true w2 H3 (wipeR ρ own) (L2.wipe σ own) := ((re.ext e13 wf).wipe _).blk
      have nI3 : ¬ w2.I D := nI2
      have D3 : H3 D = some (.lst xs) := e3.fr D _ hDx nM2 (by intro _ z; cases z)
      refine gT_of wf3 et reW rv fun σ2 re2 hw => ?_
      have hw2 := hw own hsl
      refine ⟨by rw [hw2]; exact wipe_wipe σ fun i hi => hi, w2, ρ2, κ2, re2, wf3, ?_⟩
      rw [eb]
      intro b' w4 H4 e4 wf4 hb
      subst hb
      have e14 : Ext w H1 w4 H4 := e13.trans e4
      have dn : H3 D ≠ none := by rw [D3]; intro z; cases z
      have D4 : H4 D = some (.lst xs) := e4.fr D _ D3 nM2 (by intro _ z; cases z)
      have nI4 : ¬ w4.I D := fun z => (e4.new D z).elim nI3 dn
      have nM4 : D ∉ w4.μ := e4.nomu dn nM2
      have ra4 := (ra.ext e3 wf2).ext e4 wf3
      obtain ⟨bb, κb⟩ := b
      cases bb with
      | false =>
        have ef : R.ok ((none : Option Val), κb) = R.ok (o, κ3) := ef
        cases ef
        rw [if_neg (show ¬ (false = true) from Bool.false_ne_true)]
        exact ⟨rfl, hlt, w4, _, acc, xs, rest, e14, wf4, nI4, nM4, D4, ra4, by have eo' : rest = rest' := eo'; rw [eo']; exact ec', eo⟩
      | true =>
        have ef : ((me ρ2 κb).bind fun x => R.ok (some x.1, x.2)) = R.ok (o, κ3) := ef
        obtain ⟨y, ey, ef⟩ := bind_ok_inv ef
        cases ef
        rw [if_pos rfl]
        refine ⟨w4, ρ2, κb, re2.ext e4 wf3, wf4, ?_⟩
        rw [ey]
        intro z w5 H5 e5 wf5 rz
        have dn4 : H4 D ≠ none := by rw [D4]; intro z; cases z
        have D5 : H5 D = some (.lst xs) := e5.fr D _ D4 nM4 (by intro _ z; cases z)
        have nI5 : ¬ w5.I D := fun z => (e5.new D z).elim nI4 dn4
        have nM5 : D ∉ w5.μ := e5.nomu dn4 nM4
        have ra5 := ra4.ext e5 wf4
        have e15 : Ext w H1 w5 H5 := e14.trans e5
        have hacc : (acc ++ [y.1]).length ≤ out.1.length := by
          rw [eo, (show rest = y.1 :: rest' from eo')]
          simp only [List.length_append, List.length_cons, List.length_nil]
          omega
        refine ⟨xs, D5, by rw [← ra5.length, ← LINE_eq]; simp only [List.length_append, List.length_cons, List.length_nil] at hacc; omega, rfl, hlt, w5, y.2, acc ++ [y.1], xs ++ [z], rest', ?_, ?_, nI5, nM5, upd_same, ?_, ec', ?_⟩
        · exact upd_D e15 hD
        · exact wf_upd_own wf5 nI5 nM5 D5 _
        · exact (ra5.append (.cons rz .nil)).keeps (keeps_upd_own wf5 nI5 nM5 D5 _)
        · rw [eo, (show rest = y.1 :: rest' from eo')]; simp
theorem FE_comp (hK : p.X.K = p.g.K) (hc : p.X.calm = true) (hN : p.X.N.Nodup) (hi : SI p tgE iter mi) {ow : List (Str × Nat)} (how : ow.map (·.2) = own) (ok : BlkOk p.X.N p.X.env.scope scope ow)
    (hg : ∀ (s : Shared) (H : Hp) (C : Addr) (cl : List (Str × Addr)) (fp : List Addr), PG (blkX p.X scope s H C cl fp) tgE (gT p.g.K tg))
    (ht : ∀ (s : Shared) (H : Hp) (C : Addr) (cl : List (Str × Addr)) (fp : List Addr), PTs (blkX p.X scope s H C cl fp) ifs (tG (p.blk scope s H C cl fp) (fun _ _ a b => a = b) mt))
    (he : ∀ (s : Shared) (H : Hp) (C : Addr) (cl : List (Str × Addr)) (fp : List Addr), SE (p.blk scope s H C cl fp) elt me)
    (hs : ∀ x, foldedSetIterable iter p.X.env x = pure x) (hsl : ∀ i ∈ slTg tg, i ∈ own) :
    FE p (.ListComp elt [⟨tgE, iter, ifs, 0⟩] scope pos) (fun ρ κ => (mi ρ κ).bind fun q => (compL q.1 (turnF tg ρ own mt me) q.2).bind fun r => if r.1.length < LINE then .ok (.lst r.1, r.2) else .bad) := by
  subst how
  exact (pe_lc hc hN hi ok hg (fun s H C cl fp => ⟨fun pins s' σ H' Q I q => (ht s H C cl fp).run pins s' σ H' Q I (tG_blk q)⟩) (fun s H C cl fp => (he s H C cl fp).imp fun _ _ _ q => tG_blk q) hs).imp fun σ H Q h => comp_read hsl h
/-- name = [.. for ..], the name a plain local -/
theorem setLc_read (hK : p.X.K = p.g.K) (hc : p.X.calm = true) (hN : p.X.N.Nodup) {i : Nat} {y : Str} {py spos : Pos} (hy : p.X.N[i]? = some y) (hyl : p.X.env.scope.names.lookup y = some .local)
    (hsw : swapsWith (.ListComp elt [⟨tgE, iter, ifs, 0⟩] scope pos) (some (.Name y py)) spos.line p.X.env = pure true) (hi : SI p tgE iter mi) {ow : List (Str × Nat)} (how : ow.map (·.2) = own) (ok : BlkOk p.X.N p.X.env.scope scope ow)
    (hg : ∀ (s : Shared) (H : Hp) (C : Addr) (cl : List (Str × Addr)) (fp : List Addr), PG (blkX p.X scope s H C cl fp) tgE (gT p.g.K tg))
    (ht : ∀ (s : Shared) (H : Hp) (C : Addr) (cl : List (Str × Addr)) (fp : List Addr), PTs (blkX p.X scope s H C cl fp) ifs (tG (p.blk scope s H C cl fp) (fun _ _ a b => a = b) mt))
    (he : ∀ (s : Shared) (H : Hp) (C : Addr) (cl : List (Str × Addr)) (fp : List Addr), SE (p.blk scope s H C cl fp) elt me)
    (hs : ∀ x, foldedSetIterable iter p.X.env x = pure x) (hsl : ∀ i ∈ slTg tg, i ∈ own) :
    PS p.X (.Assign [.Name y py] (.ListComp elt [⟨tgE, iter, ifs, 0⟩] scope pos) spos) (tAsg (tF p (fun ρ κ => (mi ρ κ).bind fun q => (compL q.1 (turnF tg ρ own mt me) q.2).bind fun r => if r.1.length < LINE then .ok (.lst r.1, r.2) else .bad)) (gName i)) := by
  subst how
  have ht' : ∀ (s : Shared) (H : Hp) (C : Addr) (cl : List (Str × Addr)) (fp : List Addr), PTs (blkX p.X scope s H C cl fp) ifs (tG p.inB (fun _ _ a b => a = b) mt) := fun s H C cl fp => ⟨fun pins s' σ H' Q I q => (ht s H C cl fp).run pins s' σ H' Q I (tG_blk q)⟩
  have he' : ∀ (s : Shared) (H : Hp) (C : Addr) (cl : List (Str × Addr)) (fp : List Addr), PE (blkX p.X scope s H C cl fp) elt (tG p.inB (rV p.g) me) := fun s H C cl fp => (he s H C cl fp).imp fun _ _ _ q => tG_blk q
  have h := ps_setLc (i := i) (y := y) (py := py) (spos := spos) hc hN hy hyl hsw hi ok hg ht' he' hs
  exact ⟨fun pins s σ H D I q => h.run pins s σ H D I (comp_read hsl q)⟩
/-! ### other new lists -/
variable {a b c : Expr} {es : List Expr} {ms : Rho → Ks → R (List Val × Ks)} {ma mb : Rho → Ks → R (Val × Ks)}
theorem rF_new {w : Wd} {κ : Ks} {H0 H : Hp} (e0 : ∀ a, H a = none → H0 a = none) (wf : WF p.g w κ H) {l : List Val} {xs : List V} (r : RVs p.g w.I w.μ H l xs) {a : Addr} (n : H a = none) :
    Ext w H w (upd H a (.lst xs)) ∧ WF p.g w κ (upd H a (.lst xs)) ∧ rF p.g H0 w (upd H a (.lst xs)) (.lst l) (.ref a) := by
  have e := Ext.upd_new wf n (.lst xs)
  refine ⟨e, wf.upd_new n _, l, a, xs, rfl, rfl, e0 a n, upd_same, r.ext e wf, fun z => ?_, fun z => ?_⟩
  · obtain ⟨ys, q⟩ := wf.dom a z
    rw [n] at q; cases q
  · obtain ⟨o, q⟩ := wf.mu_some z
    rw [n] at q; cases q
theorem FE_lst (h : SEs p es ms) : FE p (.List es pos) (fun ρ κ => (ms ρ κ).bind fun q => if q.1.length ≤ LINE then .ok (.lst q.1, q.2) else .bad) :=
  (pe_lst h).imp fun σ H Q ⟨w, ρ, κ, re, wf, po⟩ => ⟨w, ρ, κ, re, wf, Post.bind po fun w1 H1 l κ1 xs wf1 e1 rx po => by
    have po : Post p.g p.clA (rF p.g H) w1 H1 (if l.length ≤ LINE then .ok (Val.lst l, κ1) else .bad) Q (fun c d H' => p.W c d σ H') := po
    by_cases hl : l.length ≤ LINE
    · rw [if_pos hl] at po
      refine ⟨by rw [← rx.length, ← LINE_eq]; exact hl, fun q hq => ?_⟩
      obtain ⟨e2, wf2, r2⟩ := rF_new e1.dm wf1 rx hq
      exact po _ _ _ e2 wf2 r2
    · rw [if_neg hl] at po; exact po.elim⟩
/-- an operator on lists -/
theorem FE_bin {op : Operator} {r : R2} {f : Val → Val → Option Val} (ho : OpR p.X (binaryOp op) r)
    (hr : ∀ {w : Wd} {κ : Ks} {H0 H : Hp} {va vb v : Val} {x y : V} {Q : VK}, (∀ a, H a = none → H0 a = none) → WF p.g w κ H → RB p.g w H va x → RB p.g w H vb y → f va vb = some v →
      (∀ z w' H', Ext w H w' H' → WF p.g w' κ H' → rF p.g H0 w' H' v z → Q z H') → r x y H Q) (ha : SB p a ma) (hb : SB p b mb) :
    FE p (.BinOp a op b pos) (fun ρ κ => (ma ρ κ).bind fun q => (mb ρ q.2).bind fun q' => R.ofO ((f q.1 q'.1).map fun v => (v, q'.2))) :=
  (pe_op ho ha hb).imp fun σ H Q ⟨w, ρ, κ, re, wf, po⟩ => ⟨w, ρ, κ, re, wf, Post.bind po fun w1 H1 va κ1 x wf1 e1 rx po => ⟨w1, ρ, κ1, re.ext e1 wf, wf1, Post.bind po fun w2 H2 vb κ2 y wf2 e2 ry po => by
    obtain ⟨v, ev, k⟩ := Post.some (p := p) po
    exact hr (fun a n => e1.dm a (e2.dm a n)) wf2 (rx.ext e2 wf1) ry ev k⟩⟩
theorem FE_add (ha : SB p a ma) (hb : SB p b mb) : FE p (.BinOp a .Add b pos) (fun ρ κ => (ma ρ κ).bind fun q => (mb ρ q.2).bind fun q' => R.ofO ((addL q.1 q'.1).map fun v => (v, q'.2))) :=
  FE_bin op_cat (fun {w κ H0 H va vb v x y Q} e0 wf rx ry e k => by
    unfold addL at e
    split at e
    · split at e
      · cases e; rename_i hl
        obtain ⟨a, xs, rfl, ha, _, rxs⟩ := rx.lst wf
        obtain ⟨b, ys, rfl, hb, _, rys⟩ := ry.lst wf
        refine ⟨a, b, xs, ys, rfl, rfl, ha, hb, by rw [← rxs.length, ← rys.length, ← LINE_eq]; exact hl, fun q hq => ?_⟩
        obtain ⟨e1, wf1, r1⟩ := rF_new e0 wf (rxs.append rys) hq
        exact k _ _ _ e1 wf1 r1
      · cases e
    · cases e) ha hb
theorem FE_mul (ha : SB p a ma) (hb : SB p b mb) : FE p (.BinOp a .Mult b pos) (fun ρ κ => (ma ρ κ).bind fun q => (mb ρ q.2).bind fun q' => R.ofO ((mulL q.1 q'.1).map fun v => (v, q'.2))) :=
  FE_bin op_rep (fun {w κ H0 H va vb v x y Q} e0 wf rx ry e k => by
    unfold mulL at e
    split at e
    · split at e
      · cases e; rename_i hl
        simp only [Bool.and_eq_true, decide_eq_true_eq] at hl
        obtain ⟨⟨h1, h2⟩, h3⟩ := hl
        obtain ⟨a, xs, rfl, ha, _, rxs⟩ := rx.lst wf
        cases ry.int
        refine ⟨a, _, xs, rfl, rfl, ha, by omega, by omega, ?_, fun q hq => ?_⟩
        · rw [← rxs.length, sizeLine_eq]
          exact Nat.le_trans (Nat.mul_le_mul h3 (show _ ≤ 1000 by omega)) (by decide)
        · obtain ⟨e1, wf1, r1⟩ := rF_new e0 wf (RVs.rep rxs _) hq
          exact k _ _ _ e1 wf1 r1
      · cases e
    · cases e) ha hb
def listV : List Val → Option Val
  | [.tup l] => some (.lst l)
  | [.lst l] => some (.lst l)
  | _ => none
theorem FE_list (hK : p.X.K = p.g.K) {q : Pos} (hg : L2.Gl p.X "list") (hm : p.X.mg "list" = none) (ha : SBs p [a] ms) (he : starEach [a] p.X.env = (false, eval a p.X.env) :: starEach [] p.X.env) :
    FE p (.Call (.Name "list" q) [a] [] pos) (fun ρ κ => (ms ρ κ).bind fun q => R.ofO ((listV q.1).map fun v => (v, q.2))) :=
  (pe_callTy call_list_of hg hm boot_list ha (by decide) (by decide) he (by rfl)).imp fun σ H Q ⟨w, ρ, κ, re, wf, po⟩ => ⟨w, ρ, κ, re, wf, Post.bind po fun w1 H1 l κ1 xs wf1 e1 rx po => by
    obtain ⟨v, ev, k⟩ := Post.some (p := p) po
    have ev : listV l = some v := ev
    unfold listV at ev
    split at ev
    · cases ev
      obtain ⟨x, rfl, r⟩ := rx.one
      obtain ⟨q, ys, rfl, hq, r⟩ := r.tup
      refine ⟨_, _, rfl, .inr (by rw [hK]; exact hq), fun n hn => ?_⟩
      obtain ⟨e2, wf2, r2⟩ := rF_new e1.dm wf1 r hn
      exact k _ _ _ e2 wf2 r2
    · cases ev
      obtain ⟨x, rfl, r⟩ := rx.one
      obtain ⟨q, ys, rfl, hq, _, r⟩ := r.lst wf1
      refine ⟨_, _, rfl, .inl (SqL.of hq), fun n hn => ?_⟩
      obtain ⟨e2, wf2, r2⟩ := rF_new e1.dm wf1 r hn
      exact k _ _ _ e2 wf2 r2
    · cases ev⟩
end
end PL
end
section
set_option maxHeartbeats 1000000
namespace PL
open PySem PySem.Spec PyProof.Rows L2 LamX NdefX
/-! ### the cells of captured names, tracked for a while -/
def cellsOf (cs : List Cap) : List Addr := cs.map (·.c)
def trk (H : Hp) : List Cap → Hp
  | [] => H
  | q :: cs => upd (trk H cs) q.c (ObjX q.c q.o)
def untrk (H : Hp) (cs : List Cap) : Hp := fun b => if b ∈ cellsOf cs then none else H b
structure CapOk (H : Hp) (h : Heap) (q : Cap) : Prop where
  free : H q.c = none
  get : h.get? q.c = some q.o
  dat : q.o.data = .cell (some q.u)
section
variable {H H' : Hp} {h h' : Heap} {cs : List Cap}
theorem trk_out {b : Addr} : ∀ {cs : List Cap}, b ∉ cellsOf cs → trk H cs b = H b
  | [], _ => rfl
  | q :: cs, n => by
    have n : b ∉ q.c :: cellsOf cs := n
    rw [List.mem_cons, not_or] at n
    show upd (trk H cs) q.c (ObjX q.c q.o) b = H b
    rw [upd_ne n.1, trk_out n.2]
theorem trk_in : ∀ {cs : List Cap}, (∀ q ∈ cs, CapOk H h q) → ∀ q ∈ cs, trk H cs q.c = some (ObjX q.c q.o)
  | [], _, _, hq => nomatch hq
  | q0 :: cs, ok, q, hq => by
    show upd (trk H cs) q0.c (ObjX q0.c q0.o) q.c = _
    by_cases e : q.c = q0.c
    · have e2 : q.o = q0.o := by
        have h1 := (ok q hq).get
        have h2 := (ok q0 List.mem_cons_self).get
        rw [e, h2] at h1
        exact (Option.some.inj h1).symm
      rw [e, e2, upd_same]
    · rw [upd_ne e]
      rcases List.mem_cons.mp hq with z | z
      · rw [z] at e; exact absurd rfl e
      · exact trk_in (fun q hq => ok q (List.mem_cons_of_mem _ hq)) q z
theorem mem_cellsOf {b : Addr} (hb : b ∈ cellsOf cs) : ∃ q ∈ cs, q.c = b := by
  obtain ⟨q, hq, e⟩ := List.mem_map.mp hb
  exact ⟨q, hq, e⟩
theorem trk_some (ok : ∀ q ∈ cs, CapOk H h q) {b : Addr} {o : HO} (e : H b = some o) : b ∉ cellsOf cs ∧ trk H cs b = some o := by
  have n : b ∉ cellsOf cs := fun z => by
    obtain ⟨q, hq, e2⟩ := mem_cellsOf z
    have := (ok q hq).free
    rw [e2, e] at this; cases this
  exact ⟨n, by rw [trk_out n]; exact e⟩
theorem trk_none (ok : ∀ q ∈ cs, CapOk H h q) {b : Addr} (e : trk H cs b = none) : H b = none ∧ b ∉ cellsOf cs := by
  have n : b ∉ cellsOf cs := fun z => by
    obtain ⟨q, hq, e2⟩ := mem_cellsOf z
    have := trk_in ok q hq
    rw [e2, e] at this; cases this
  rw [trk_out n] at e
  exact ⟨e, n⟩
theorem trk_hok {P : Program} {w : World} (x : HOk P w H h) (ok : ∀ q ∈ cs, CapOk H h q) : HOk P w (trk H cs) h := fun a o e => by
  by_cases hb : a ∈ cellsOf cs
  · obtain ⟨q, hq, e2⟩ := mem_cellsOf hb
    have e3 := trk_in ok q hq
    rw [e2, e] at e3; cases e3
    have g := (ok q hq).get
    rw [e2] at g
    exact ⟨g, ⟨_, g⟩, fun h1 h2 z st => st _ z⟩
  · rw [trk_out hb] at e
    exact (x a o e).stay (fun b u _ q => q) (fun c q => (trk_some ok q).2) fun c xs q => (trk_some ok q).2
theorem trk_ext {g : Gx} {w : Wd} {κ : Ks} (wf : WF g w κ H) (ok : ∀ q ∈ cs, CapOk H h q) : Ext w H w (trk H cs) ∧ WF g w κ (trk H cs) := by
  have e : Ext w H w (trk H cs) := ⟨fun _ z => z, fun _ z => .inl z, ⟨[], by simp⟩, fun a o q _ _ => (trk_some ok q).2, fun a q => (trk_none ok q).1⟩
  exact ⟨e, e.wf wf rfl (fun a z => by
    obtain ⟨xs, q⟩ := wf.dom a z
    exact ⟨xs, (trk_some ok q).2⟩) (wf.tab.ext fun b o q => (trk_some ok q).2) (fun a _ xs q => (trk_some ok q).2) wf.dis⟩
/-- the cells still stand so -/
def Still (H : Hp) (cs : List Cap) : Prop := ∀ q ∈ cs, H q.c = some (ObjX q.c q.o)
theorem untrk_some {P : Program} {w : World} (x : HOk P w H h) (st : Still H cs) {b : Addr} {o : HO} (e : H b = some o) (no : ∀ q ∈ cs, b = q.c → o ≠ ObjX q.c q.o) : untrk H cs b = some o := by
  unfold untrk
  rw [if_neg fun z => ?_]
  · exact e
  · obtain ⟨q, hq, e2⟩ := mem_cellsOf z
    have := st q hq
    rw [e2, e] at this
    exact no q hq e2.symm (by rw [e2]; exact Option.some.inj this)
theorem untrk_in {b : Addr} {o : HO} (e : untrk H cs b = some o) : H b = some o ∧ b ∉ cellsOf cs := by
  unfold untrk at e
  split at e
  · cases e
  · exact ⟨e, by assumption⟩
theorem objX_ne {c : Addr} {o : Obj} {u : HO} (n : ∀ φ, u ≠ .ext φ) : u ≠ ObjX c o := n _
theorem untrk_hok {P : Program} {w : World} (x : HOk P w H h) (st : Still H cs) : HOk P w (untrk H cs) h := fun a o e => by
  obtain ⟨e1, n⟩ := untrk_in e
  exact (x a o e1).stay (fun b u _ q => q) (fun c q => untrk_some x st q fun _ _ _ => objX_ne (by intro _ z; cases z)) fun c xs q => untrk_some x st q fun _ _ _ => objX_ne (by intro _ z; cases z)
theorem untrk_none {b : Addr} (e : H b = none) : untrk H cs b = none := by
  unfold untrk
  split
  · rfl
  · exact e
/-- the values are told without them -/
theorem untrk_wf {g : Gx} {P : Program} {W : World} {w : Wd} {κ : Ks} (x : HOk P W H h) (wf : WF g w κ H) (st : Still H cs) (dc : ∀ q ∈ cs, q.o.data = .cell (some q.u)) :
    WF g w κ (untrk H cs) ∧ Keeps w.I w.I w.μ w.μ H (untrk H cs) := by
  have ne : ∀ {b o}, H b = some o → (∀ φ, o ≠ .ext φ) → untrk H cs b = some o := fun e n => untrk_some x st e fun _ _ _ => objX_ne n
  have k : Keeps w.I w.I w.μ w.μ H (untrk H cs) := ⟨fun _ z => z, fun _ _ z => z, fun a o j q => by
    obtain ⟨xs, q2⟩ := wf.dom a j
    rw [q] at q2; cases q2
    exact ne q (by intro _ z; cases z), fun a xs q => ne q (by intro _ z; cases z), fun a o u q => ne q (by intro _ z; cases z)⟩
  refine ⟨⟨wf.len, fun i a hi => ?_, wf.nd, wf.dis, fun a z => ?_, fun q hq => ?_⟩, k⟩
  · obtain ⟨l, xs, h1, h2, h3⟩ := wf.at_ i a hi
    exact ⟨l, xs, h1, ne h2 (by intro _ z; cases z), h3.keeps k⟩
  · obtain ⟨xs, q⟩ := wf.dom a z
    exact ⟨xs, ne q (by intro _ z; cases z)⟩
  · obtain ⟨ps, h1, h2, h3⟩ := wf.tab q hq
    refine ⟨ps, ne h1 (by intro _ z; cases z), h2, fun pos cv hc => ?_⟩
    obtain ⟨c, e1, e2⟩ := h3 pos cv hc
    refine ⟨c, e1, untrk_some x st e2 fun q hq e => ?_⟩
    intro z
    -- a code object is no cell
    have o1 := x c _ e2
    have o2 := x q.c _ (st q hq)
    obtain ⟨⟨oc, vs, t, g1, g2, _⟩, _⟩ := o1
    obtain ⟨g3, _⟩ := o2
    rw [← e, g1] at g3
    have g3 : oc = q.o := Option.some.inj g3
    rw [g3, dc q hq] at g2
    cases g2
theorem untrk_ext {g : Gx} {P : Program} {W : World} {w w' : Wd} {κ : Ks} {H0 : Hp} (ok : ∀ q ∈ cs, CapOk H0 h q) (wf : WF g w κ H0) (x : HOk P W H' h') (e : Ext w (trk H0 cs) w' H') (st : Still H' cs) : Ext w H0 w' (untrk H' cs) := by
  have e0 := (trk_ext wf ok).1.trans e
  refine ⟨e0.I, e0.new, e0.mu, fun a o q nm nt => ?_, fun a q => ?_⟩
  · have q2 := e0.fr a o q nm nt
    unfold untrk
    rw [if_neg (trk_some ok q).1]
    exact q2
  · unfold untrk at q
    split at q
    · rename_i hb
      obtain ⟨c, hc, e2⟩ := mem_cellsOf hb
      rw [← e2]; exact (ok c hc).free
    · exact e0.dm a q
theorem still_of {g : Gx} {w w' : Wd} {κ : Ks} {H0 : Hp} (ok : ∀ q ∈ cs, CapOk H0 h q) (wf : WF g w κ H0) (e : Ext w (trk H0 cs) w' H') : Still H' cs := fun q hq =>
  e.exts (trk_ext wf ok).2 (trk_in ok q hq)
/-- a call's end, told without them -/
theorem untrk_un {fs : List Addr} {P : Program} {W : World} {H0 : Hp} (ok : ∀ q ∈ cs, CapOk H0 h q) (nf : ∀ q ∈ cs, q.c ∉ fs) (x : HOk P W H' h') (st : Still H' cs) (u : Un fs [] (trk H0 cs) H' h h') : Un fs [] H0 (untrk H' cs) h h' where
  keep := fun b o hg hn hf hx => by
    by_cases hb : b ∈ cellsOf cs
    · obtain ⟨q, hq, e2⟩ := mem_cellsOf hb
      have g1 := (ok q hq).get
      rw [e2, hg] at g1; cases g1
      have g2 := (x q.c _ (st q hq)).1
      rw [e2] at g2
      exact g2
    · exact u.keep b o hg (by rw [trk_out hb]; exact hn) hf hx
  slot := fun b o hg hn hf hx => by
    have hb : b ∉ cellsOf cs := fun z => by
      obtain ⟨q, hq, e2⟩ := mem_cellsOf z
      exact nf q hq (by rw [e2]; exact hf)
    exact u.slot b o hg (by rw [trk_out hb]; exact hn) hf hx
  free := fun b o hg hn hx => by
    unfold untrk
    split
    · rfl
    · rename_i hb
      exact u.free b o hg (by rw [trk_out hb]; exact hn) hx
  there := u.there
  tups := fun b xs q => by
    have t := trk_some ok q
    unfold untrk
    rw [if_neg t.1]
    exact u.tups b xs t.2
  frzs := fun b o xs q => by
    have t := trk_some ok q
    unfold untrk
    rw [if_neg t.1]
    exact u.frzs b o xs t.2
  tbls := fun b ps q => by
    have t := trk_some ok q
    unfold untrk
    rw [if_neg t.1]
    exact u.tbls b ps t.2
theorem untrk_ub {fs : List Addr} {P : Program} {W : World} {H0 : Hp} {B : Heap} (ok : ∀ q ∈ cs, CapOk H0 h q) (nf : ∀ q ∈ cs, q.c ∉ fs) (x : HOk P W H' B) (st : Still H' cs) (u : UB fs (trk H0 cs) H' h B h') : UB fs H0 (untrk H' cs) h B h' where
  keep := fun b o hg hn hf => by
    by_cases hb : b ∈ cellsOf cs
    · obtain ⟨q, hq, e2⟩ := mem_cellsOf hb
      have g1 := (ok q hq).get
      rw [e2, hg] at g1; cases g1
      have g2 := (x q.c _ (st q hq)).1
      rw [e2] at g2
      exact g2
    · exact u.keep b o hg (by rw [trk_out hb]; exact hn) hf
  slot := u.slot
  free := fun b o hg hn => by
    unfold untrk
    split
    · rfl
    · rename_i hb
      exact u.free b o hg (by rw [trk_out hb]; exact hn)
  there := u.there
  tups := fun b xs q => by
    have t := trk_some ok q
    unfold untrk
    rw [if_neg t.1]
    exact u.tups b xs t.2
  frzs := fun b o xs q => by
    have t := trk_some ok q
    unfold untrk
    rw [if_neg t.1]
    exact u.frzs b o xs t.2
  tbls := fun b ps q => by
    have t := trk_some ok q
    unfold untrk
    rw [if_neg t.1]
    exact u.tbls b ps t.2
end
end PL
end
section
set_option maxHeartbeats 1000000
namespace PL
open PySem PySem.Spec PyProof.Rows L2 LamX NdefX
/-! ### arguments -/
inductive RAr (g : Gx) (w : Wd) (H : Hp) : Ar → V → Prop where
  | v {u : Val} {x : V} (r : RV g w.I w.μ H u x) : RAr g w H (.v u) x
  | x {y : Ex} {x : V} (r : RX g w H y x) : RAr g w H (.x y) x
inductive RAs (g : Gx) (w : Wd) (H : Hp) : List Ar → List V → Prop where
  | nil : RAs g w H [] []
  | cons {a : Ar} {x : V} {l : List Ar} {xs : List V} (h : RAr g w H a x) (t : RAs g w H l xs) : RAs g w H (a :: l) (x :: xs)
/-- .. as the caller has them: the lambdas may be its own -/
inductive RO1 (g : Gx) (X : Cx) (ρ : Rho) (w : Wd) (H : Hp) : Ar → V → Prop where
  | v {u : Val} {x : V} (r : RV g w.I w.μ H u x) : RO1 g X ρ w H (.v u) x
  | x {y : Ex} {x : V} (r : RX g w H y x) : RO1 g X ρ w H (.x y) x
  | many {lk : List (Nat × List Nat)} {l : List (Nat × List Val)} {a : Addr} {xs : List V} (hf : ∀ x, X.fn x = true) (e : eclosOf ρ lk = some l) (j : w.I a) (h : H a = some (.lst xs)) (r : RLs g X H lk xs) : RO1 g X ρ w H (.x (.many l)) (.ref a)
  | one {k : Nat} {js : List Nat} {caps : List Val} {x : V} (hf : ∀ x, X.fn x = true) (e : capsOf ρ js = some caps) (r : RL1 g X H (k, js) x) : RO1 g X ρ w H (.x (.one k caps)) x
inductive ROs (g : Gx) (X : Cx) (ρ : Rho) (w : Wd) (H : Hp) : List Ar → List V → Prop where
  | nil : ROs g X ρ w H [] []
  | cons {a : Ar} {x : V} {l : List Ar} {xs : List V} (h : RO1 g X ρ w H a x) (t : ROs g X ρ w H l xs) : ROs g X ρ w H (a :: l) (x :: xs)
section
variable {g : Gx} {X : Cx} {ρ : Rho} {b : Bool} {w w' : Wd} {κ : Ks} {H H' : Hp} {σ : L2.St} {pins : List (Addr × Obj)} {s : Shared}
theorem RO1.ext (e : Ext w H w' H') (wf : WF g w κ H) : ∀ {a : Ar} {x : V}, RO1 g X ρ w H a x → RO1 g X ρ w' H' a x
  | _, _, .v r => .v (r.ext e wf)
  | _, _, .x r => .x (r.ext e wf)
  | _, _, .many hf e1 j h r => .many hf e1 (e.I _ j) ((e.keepsI wf).l _ _ j h) (r.ext e wf)
  | _, _, .one hf e1 r => .one hf e1 (r.ext e wf)
theorem ROs.ext (e : Ext w H w' H') (wf : WF g w κ H) : ∀ {a : List Ar} {x : List V}, ROs g X ρ w H a x → ROs g X ρ w' H' a x
  | _, _, .nil => .nil
  | _, _, .cons h t => .cons (h.ext e wf) (t.ext e wf)
/-- a cell that may be tracked for a call -/
structure CapGood (X : Cx) (H : Hp) (s : Shared) (q : Cap) : Prop where
  ok : CapOk H s.heap q
  at_ : X.env.cells.lookup q.y = some q.c
  nf : q.c ∉ frs X.stack
  ge : X.s_0.heap.objs.size ≤ q.c
/-- the cells of a lambda's names -/
theorem caps_build (I : Inv X pins σ H s) (hf : ∀ x, X.fn x = true) (re : RE g X b w H ρ σ) : ∀ {js : List Nat} {fr : List Str} {caps : List Val}, js.map (fun j => X.N[j]?) = fr.map some → (∀ y ∈ fr, X.env.scope.names.lookup y = some .cell ∨ X.env.scope.names.lookup y = some .free) →
    capsOf ρ js = some caps → ∃ (cs : List Cap) (ws : List V), cs.map (·.y) = fr ∧ (∀ q ∈ cs, CapGood X H s q) ∧ Vals ws (cs.map (·.u)) ∧ RVs g w.I w.μ H caps ws
  | [], [], caps, _, _, e => by
    have e : some [] = some caps := e
    cases e
    exact ⟨[], [], rfl, fun q hq => (nomatch hq), .nil, .nil⟩
  | [], _ :: _, _, h, _, _ => by cases h
  | _ :: _, [], _, h, _, _ => by cases h
  | j :: js, y :: fr, caps, h, kin, e => by
    rw [List.map_cons, List.map_cons] at h
    injection h with h1 h2
    unfold capsOf at e
    split at e
    · rename_i v vs e1 e2
      cases e
      obtain ⟨cs, ws, c1, c2, c3, c4⟩ := caps_build I hf re h2 (fun z hz => kin z (List.mem_cons_of_mem _ hz)) e2
      obtain ⟨x, hx, rx⟩ := re.rdV e1
      obtain ⟨m, hn, hl⟩ := I.loc
      have ky := kin y List.mem_cons_self
      obtain ⟨u, ru, lk⟩ := hl j y x h1 hx (ky.elim (fun z => .inr (.inl z)) fun z => .inr (.inr z))
      rcases lk with ⟨z, _⟩ | ⟨_, c, hc, o, ho, hd⟩
      · have z : X.env.scope.names.lookup y = some .local := z
        rcases ky with k | k <;> (rw [k] at z; cases z)
      · have hge := I.ok.cab y c (hf y) hc
        refine ⟨⟨y, c, o, u⟩ :: cs, x :: ws, by rw [List.map_cons, c1], fun q hq => ?_, .cons ru c3, .cons rx c4⟩
        rcases List.mem_cons.mp hq with z | z
        · subst z
          refine ⟨⟨I.freeC y c hc, ho, hd⟩, hc, fun z => ?_, hge⟩
          rcases List.mem_cons.mp (I.stkSub c z) with z | z
          · exact I.cne y c hc z
          · obtain ⟨_, o', ho', _⟩ := I.ok.funs.mem z
            exact absurd (Nat.lt_of_lt_of_le (Heap.lt_size ho') hge) (Nat.lt_irrefl _)
        · exact c2 q z
    · cases e
theorem rx_one (I : Inv X pins σ H s) (hf : ∀ x, X.fn x = true) (re : RE g X b w H ρ σ) (wf : WF g w κ H) {k : Nat} {js : List Nat} {caps : List Val} {x : V} (e : capsOf ρ js = some caps) (r : RL1 g X H (k, js) x) :
    ∃ cs : List Cap, (∀ q ∈ cs, CapGood X H s q) ∧ ∀ cs' : List Cap, (∀ q ∈ cs, q ∈ cs') → (∀ q ∈ cs', CapGood X H s q) → RX1 g w (trk H cs') k caps x := by
  cases r with
  | @mk _ _ f c' L hL o oc cp only =>
    have cp := cp I.ok
    obtain ⟨cs, ws, h1, h2, h3, h4⟩ := caps_build I hf re cp.at_ cp.kin e
    refine ⟨cs, h2, fun cs' sub ok => ?_⟩
    have ok' : ∀ q ∈ cs', CapOk H s.heap q := fun q hq => (ok q hq).ok
    obtain ⟨e1, wf1⟩ := trk_ext wf ok'
    have lk : ∀ y c, (cloFrom X.env.cells L.scope.names []).lookup y = some c → X.env.cells.lookup y = some c := cp.sub
    refine .mk hL (e1.exts wf o) (e1.exts wf oc) h1 (fun q hq => ⟨?_, trk_in ok' q (sub q hq), (h2 q hq).ok.dat⟩) (fun y c z => ?_) (fun y z c e1 e2 => I.ok.inj y z c (cp.sub y c e1) (cp.sub z c e2)) h3 (h4.ext e1 wf)
    · exact cp.sup q.y (by rw [← h1]; exact List.mem_map.mpr ⟨q, hq, rfl⟩) q.c (h2 q hq).at_
    · -- every captured name is among fr
      exact only y c z
theorem rx_many (I : Inv X pins σ H s) (hf : ∀ x, X.fn x = true) (re : RE g X b w H ρ σ) (wf : WF g w κ H) : ∀ {lk : List (Nat × List Nat)} {l : List (Nat × List Val)} {xs : List V}, eclosOf ρ lk = some l → RLs g X H lk xs →
    ∃ cs : List Cap, (∀ q ∈ cs, CapGood X H s q) ∧ ∀ cs' : List Cap, (∀ q ∈ cs, q ∈ cs') → (∀ q ∈ cs', CapGood X H s q) → RXs g w (trk H cs') l xs
  | [], l, xs, e, r => by
    have e : some [] = some l := e
    cases e; cases r
    exact ⟨[], fun q hq => (nomatch hq), fun _ _ _ => .nil⟩
  | (k, js) :: lk, l, xs, e, r => by
    unfold eclosOf at e
    split at e
    · rename_i v vs e1 e2
      cases e
      cases r with
      | cons r1 rt =>
        obtain ⟨c1, g1, k1⟩ := rx_one I hf re wf e1 r1
        obtain ⟨c2, g2, k2⟩ := rx_many I hf re wf e2 rt
        refine ⟨c1 ++ c2, fun q hq => (List.mem_append.mp hq).elim (g1 q) (g2 q), fun cs' sub ok => .cons (k1 cs' (fun q hq => sub q (List.mem_append_left _ hq)) ok) (k2 cs' (fun q hq => sub q (List.mem_append_right _ hq)) ok)⟩
    · cases e
theorem ra_all (I : Inv X pins σ H s) (re : RE g X b w H ρ σ) (wf : WF g w κ H) : ∀ {args : List Ar} {xs : List V}, ROs g X ρ w H args xs →
    ∃ cs : List Cap, (∀ q ∈ cs, CapGood X H s q) ∧ ∀ cs' : List Cap, (∀ q ∈ cs, q ∈ cs') → (∀ q ∈ cs', CapGood X H s q) → RAs g w (trk H cs') args xs
  | _, _, .nil => ⟨[], fun q hq => (nomatch hq), fun _ _ _ => .nil⟩
  | _, _, .cons h t => by
    obtain ⟨c2, g2, k2⟩ := ra_all I re wf t
    cases h with
    | v r => exact ⟨c2, g2, fun cs' sub ok => .cons (.v (r.ext (trk_ext wf fun q hq => (ok q hq).ok).1 wf)) (k2 cs' sub ok)⟩
    | x r => exact ⟨c2, g2, fun cs' sub ok => .cons (.x (r.ext (trk_ext wf fun q hq => (ok q hq).ok).1 wf)) (k2 cs' sub ok)⟩
    | many hf e j hh r =>
      obtain ⟨c1, g1, k1⟩ := rx_many I hf re wf e r
      refine ⟨c1 ++ c2, fun q hq => (List.mem_append.mp hq).elim (g1 q) (g2 q), fun cs' sub ok => .cons (.x (.many j ((trk_some (fun q hq => (ok q hq).ok) hh).2) (k1 cs' (fun q hq => sub q (List.mem_append_left _ hq)) ok))) (k2 cs' (fun q hq => sub q (List.mem_append_right _ hq)) ok)⟩
    | one hf e r =>
      obtain ⟨c1, g1, k1⟩ := rx_one I hf re wf e r
      refine ⟨c1 ++ c2, fun q hq => (List.mem_append.mp hq).elim (g1 q) (g2 q), fun cs' sub ok => .cons (.x (.one (k1 cs' (fun q hq => sub q (List.mem_append_left _ hq)) ok))) (k2 cs' (fun q hq => sub q (List.mem_append_right _ hq)) ok)⟩
end

/-! ### what a def does -/
/-- the def at a does sem, with room for d calls -/
def FnS (P : Program) (W : World) (g : Gx) (clA : Nat → Addr) (mg : Str → Option Value) (base : Heap) (d : Nat) (a : Addr) (sem : List Ar → Ks → R (Val × Ks)) : Prop :=
  ∀ (A : Around) (outer : List Env) (s : Shared) (H : Hp) (us : List Value) (vs : List V) (Q : VK) (E : XK) (w : Wd) (args : List Ar) (κ : Ks), Room d A → Env0 P W g.K mg base A outer s H → Vals vs us → WF g w κ H → RAs g w H args vs → Post g clA (rV g) w H (sem args κ) Q E →
    codeAny (model P W) A (.call (.ref a) ⟨us, []⟩) (CR (L2N.CX P W) outer P W H s Q E) s
/-- the lambda k does sem -/
def LmS (P : Program) (W : World) (g : Gx) (clA : Nat → Addr) (mg : Str → Option Value) (base : Heap) (d : Nat) (k : Nat) (sem : List Val → Ks → R (Val × Ks)) : Prop :=
  ∀ (A : Around) (outer : List Env) (s : Shared) (H : Hp) (f : Addr) (Q : VK) (E : XK) (w : Wd) (caps : List Val) (κ : Ks), Room d A → Env0 P W g.K mg base A outer s H → WF g w κ H → RX1 g w H k caps (.ref f) → Post g clA (rV g) w H (sem caps κ) Q E →
    codeAny (model P W) A (.call (.ref f) ⟨[], []⟩) (CR (L2N.CX P W) outer P W H s Q E) s
section
variable {p : Pl}
def tA (p : Pl) (m : Rho → Ks → R (List Ar × Ks)) : TA := fun σ H Q => ∃ w ρ κ, RE p.g p.X p.b w H ρ σ ∧ WF p.g w κ H ∧ Post p.g p.clA (ROs p.g p.X ρ) w H (m ρ κ) Q (fun c d H' => p.W c d σ H')
/-- the callee runs; the cells of the handed lambdas are tracked meanwhile -/
theorem run_S {d : Nat} {a : Addr} {sem : List Ar → Ks → R (Val × Ks)} (F : FnS p.X.prog p.X.w p.g p.clA p.X.mg p.X.base d a sem) (hK : p.X.K = p.g.K) (hr : Room d p.X.A) (tk : L2N.Takes p.X p.W)
    {pins : List (Addr × Obj)} {σ : L2.St} {H : Hp} {s : Shared} {us : List Value} {vs : List V} {Q : VK} {w : Wd} {ρ : Rho} {κ : Ks} {args : List Ar} (I : Inv p.X pins σ H s) (rv : Vals vs us) (re : RE p.g p.X p.b w H ρ σ) (wf : WF p.g w κ H) (ra : ROs p.g p.X ρ w H args vs)
    (po : Post p.g p.clA (rV p.g) w H (sem args κ) Q (fun c d H' => p.W c d σ H')) : wpAny (model p.X.prog p.X.w) p.X.A (call (.ref a) us) (EP p.X pins σ Q) p.X.xe s := by
  obtain ⟨cs, gd, k⟩ := ra_all I re wf ra
  have ok : ∀ q ∈ cs, CapOk H s.heap q := fun q hq => (gd q hq).ok
  have nf : ∀ q ∈ cs, q.c ∉ frs p.X.stack := fun q hq => (gd q hq).nf
  have ra' := k cs (fun _ z => z) gd
  obtain ⟨e1, wf1⟩ := trk_ext wf ok
  have e0 := I.env0
  rw [hK] at e0
  have e0' : Env0 p.X.prog p.X.w p.g.K p.X.mg p.X.base p.X.A p.X.stack s (trk H cs) := by
    refine ⟨e0.frames, e0.mod, fun b o hb => ⟨(e0.bs b o hb).1, ?_⟩, e0.bsz, e0.funs, fun b hb => ?_, trk_hok e0.hok ok, e0.bare⟩
    · rw [trk_out fun z => ?_]
      · exact (e0.bs b o hb).2
      · obtain ⟨q, hq, e2⟩ := mem_cellsOf z
        have hge := (gd q hq).ge
        rw [e2] at hge
        exact absurd (Nat.lt_of_lt_of_le (Heap.lt_size hb) (Nat.le_trans I.ok.bsz hge)) (Nat.lt_irrefl _)
    · rw [trk_out fun z => ?_]
      · exact e0.frf b hb
      · obtain ⟨q, hq, e2⟩ := mem_cellsOf z
        exact nf q hq (by rw [e2]; exact hb)
  have dc : ∀ q ∈ cs, q.o.data = .cell (some q.u) := fun q hq => (ok q hq).dat
  -- the wishes with the cells tracked
  refine wpAny_call (codeAny_mono (F p.X.A p.X.stack s (trk H cs) us vs (fun v H' => ∃ w' κ' val, sem args κ = .ok (val, κ') ∧ Ext w (trk H cs) w' H' ∧ WF p.g w' κ' H' ∧ RV p.g w'.I w'.μ H' val v)
    (fun cls dd H' => dd = none ∧ ∃ w' κ' c, sem args κ = .exc c .non κ' ∧ cls = .ref (p.clA c) ∧ Ext w (trk H cs) w' H' ∧ WF p.g w' κ' H') w args κ hr e0' rv wf1 ra' ?_) fun r s' hq => ?_)
  · cases e : sem args κ with
    | ok q => exact fun x w' H' e2 wf2 r2 => ⟨w', q.2, q.1, rfl, e2, wf2, r2⟩
    | exc c v κ' =>
      rw [e] at po
      cases v with
      | non => exact fun w' H' e2 wf2 => ⟨rfl, w', κ', c, rfl, rfl, e2, wf2⟩
      | _ => exact po.elim
    | bad => rw [e] at po; exact po.elim
  · cases r with
    | error e =>
      obtain ⟨a', B, H', cls, dd, rfl, fl, hok, ub, na, os, ag, rfl, w', κ', c, es, rfl, e2, wf2⟩ := hq
      have st := still_of ok wf e2
      have hok' := untrk_hok hok st
      rw [es] at po
      have := po w' (untrk H' cs) (untrk_ext ok wf hok e2 st) (untrk_wf hok wf2 st dc).1
      exact tk _ _ (L2N.XE.of_call (E := fun c d H' => p.W c d σ H') I (fun _ _ _ z => z) ⟨a', B, untrk H' cs, _, none, rfl, fl, hok', untrk_ub ok nf hok st ub, untrk_none na, os, ag, this⟩)
    | ok fl =>
      cases fl with
      | ret u =>
        obtain ⟨v, H', os, bare, un, hok, r, w', κ', val, es, e2, wf2, r2⟩ := hq
        have st := still_of ok wf e2
        rw [es] at po
        have uw := untrk_wf hok wf2 st dc
        exact I.after ⟨v, untrk H' cs, os, bare, untrk_un ok nf hok st un, untrk_hok hok st, r, po v w' _ (untrk_ext ok wf hok e2 st) uw.1 (r2.keeps uw.2)⟩
      | next => exact False.elim hq
      | brk => exact False.elim hq
      | cont => exact False.elim hq
end
end PL
end
section
set_option maxHeartbeats 1000000
namespace PL
open PySem PySem.Spec PyProof.Rows L2 LamX NdefX
section
variable {p : Pl}
/-! ### arguments -/
theorem _root_.L2.PA.imp' {X : Cx} {e : List Expr} {t t' : TA} (h : PA X e t) (k : ∀ σ H Q, t' σ H Q → t σ H Q) : PA X e t' := h.imp k
abbrev SA (p : Pl) (es : List Expr) (m : Rho → Ks → R (List Ar × Ks)) : Prop := PA p.X es (tA p m)
theorem SA_nil : SA p [] (fun _ κ => .ok ([], κ)) := pa_nil.imp fun σ H Q ⟨w, ρ, κ, re, wf, po⟩ => po [] w H (Ext.refl w H) wf .nil
variable {e : Expr} {es : List Expr} {m : Rho → Ks → R (Val × Ks)} {n : Rho → Ks → R (List Ar × Ks)} {pos np : Pos}
theorem SA_val (he : SE p e m) (ht : SA p es n) (hs : starEach (e :: es) p.X.env = (false, eval e p.X.env) :: starEach es p.X.env) :
    SA p (e :: es) (fun ρ κ => (m ρ κ).bind fun q => (n ρ q.2).bind fun r => .ok (.v q.1 :: r.1, r.2)) :=
  (pa_cons he ht hs).imp fun σ H Q ⟨w, ρ, κ, re, wf, po⟩ => ⟨w, ρ, κ, re, wf, Post.bind po fun w1 H1 a κ1 x wf1 e1 ra po1 =>
    ⟨w1, ρ, κ1, re.ext e1 wf, wf1, Post.bind po1 fun w2 H2 l κ2 xs wf2 e2 rl po2 => po2 (x :: xs) w2 H2 (Ext.refl w2 H2) wf2 (.cons (.v (ra.ext e2 wf1)) rl)⟩⟩
/-- a lambda handed on -/
def tX (p : Pl) (f : Rho → Option Ar) : TE := fun σ H Q => ∃ w ρ κ a, RE p.g p.X p.b w H ρ σ ∧ WF p.g w κ H ∧ f ρ = some a ∧ ∀ x w' H', Ext w H w' H' → WF p.g w' κ H' → RO1 p.g p.X ρ w' H' a x → Q x H'
abbrev SX (p : Pl) (e : Expr) (f : Rho → Option Ar) : Prop := PE p.X e (tX p f)
theorem SA_x {f : Rho → Option Ar} (he : SX p e f) (ht : SA p es n) (hs : starEach (e :: es) p.X.env = (false, eval e p.X.env) :: starEach es p.X.env) :
    SA p (e :: es) (fun ρ κ => (R.ofO (f ρ)).bind fun a => (n ρ κ).bind fun r => .ok (a :: r.1, r.2)) :=
  (pa_cons he ht hs).imp fun σ H Q ⟨w, ρ, κ, re, wf, po⟩ => by
    have po : Post p.g p.clA (ROs p.g p.X ρ) w H ((R.ofO (f ρ)).bind fun a => (n ρ κ).bind fun r => .ok (a :: r.1, r.2)) Q (fun c d H' => p.W c d σ H') := po
    cases ef : f ρ with
    | none => rw [ef] at po; exact po.elim
    | some a =>
      rw [ef] at po
      refine ⟨w, ρ, κ, a, re, wf, ef, fun x w1 H1 e1 wf1 ra => ⟨w1, ρ, κ, re.ext e1 wf, wf1, ?_⟩⟩
      have po : Post p.g p.clA (ROs p.g p.X ρ) w H ((n ρ κ).bind fun r => .ok (a :: r.1, r.2)) Q (fun c d H' => p.W c d σ H') := po
      have po1 : Post p.g p.clA (ROs p.g p.X ρ) w1 H1 ((n ρ κ).bind fun r => .ok (a :: r.1, r.2)) Q (fun c d H' => p.W c d σ H') := by
        generalize (n ρ κ).bind (fun r => R.ok (a :: r.1, r.2)) = z at po ⊢
        cases z with
        | ok q => exact fun y w2 H2 e2 => po y w2 H2 (e1.trans e2)
        | exc c v κ' =>
          cases v with
          | non => exact fun w2 H2 e2 => po w2 H2 (e1.trans e2)
          | _ => exact po
        | bad => exact po
      exact Post.bind po1 fun w2 H2 l κ2 xs wf2 e2 rl po2 => po2 (x :: xs) w2 H2 (Ext.refl w2 H2) wf2 (.cons (ra.ext e2 wf1) rl)
/-- .. one that was handed to us -/
theorem SX_ext {i : Nat} {x : Str} (hN : p.X.N[i]? = some x) (hv : Vis p.X.env.scope x) (hd : (x == ("__debug__" : Str)) = false) (hcd : (x == ("__classdict__" : Str)) = false) : SX p (.Name x pos) (fun ρ => (rdX ρ i).map .x) :=
  (pe_var hN hv hd hcd).imp fun σ H Q ⟨w, ρ, κ, a, re, wf, ef, k⟩ => by
    obtain ⟨y, h1, h2⟩ := Option.map_eq_some_iff.mp ef
    subst h2
    obtain ⟨z, hz, rz⟩ := re.rdX h1
    exact ⟨z, hz, k z w H (Ext.refl w H) wf (.x rz)⟩

/-! ### calls -/
theorem SE_call {d : Nat} {a : Addr} {x : Str} {sem : List Ar → Ks → R (Val × Ks)} (F : FnS p.X.prog p.X.w p.g p.clA p.X.mg p.X.base d a sem) (hK : p.X.K = p.g.K) (hr : Room d p.X.A) (tk : L2N.Takes p.X p.W) (hg : Gl p.X x) (hm : p.X.mg x = some (.ref a)) (hk : PySem.W.keepIn p.X.K (.ref a) = true)
    (ha : SA p (e :: es) n) (hdb : (x == ("__debug__" : Str)) = false) (he : starEach (e :: es) p.X.env = (false, eval e p.X.env) :: starEach es p.X.env) (hpl : (backTo pos (starEach es p.X.env)).any (·.1) = false) :
    SE p (.Call (.Name x np) (e :: es) [] pos) (fun ρ κ => (n ρ κ).bind fun q => sem q.1 q.2) := by
  refine ⟨fun pins s σ H Q I ⟨w, ρ, κ, re, wf, po⟩ => wpAny_Call_Name_kw (ld_glob I hg hm ?_ hdb)⟩
  refine PySem.W.callWith_K (h₀ := p.X.base) I.ok.mod.kin hk (thn (ha.run pos pins s σ H (fun vs H1 => ∃ w1 κ1 args, RE p.g p.X p.b w1 H1 ρ σ ∧ WF p.g w1 κ1 H1 ∧ ROs p.g p.X ρ w1 H1 args vs ∧ Post p.g p.clA (rV p.g) w1 H1 (sem args κ1) Q (fun c d H' => p.W c d σ H')) I
    ⟨w, ρ, κ, re, wf, Post.bind po fun w1 H1 l κ1 xs wf1 e1 rl po1 => ⟨w1, κ1, l, re.ext e1 wf, wf1, rl, po1⟩⟩) fun us s1 ⟨vs, H1, I1, r, w1, κ1, args, re1, wf1, rl, po1⟩ => ⟨I1.kIn, ?_⟩) he hpl
  exact run_S F hK hr tk I1 r re1 wf1 rl po1
theorem SE_call0 {d : Nat} {a : Addr} {x : Str} {sem : List Ar → Ks → R (Val × Ks)} (F : FnS p.X.prog p.X.w p.g p.clA p.X.mg p.X.base d a sem) (hK : p.X.K = p.g.K) (hr : Room d p.X.A) (tk : L2N.Takes p.X p.W) (hg : Gl p.X x) (hm : p.X.mg x = some (.ref a)) (hk : PySem.W.keepIn p.X.K (.ref a) = true)
    (hdb : (x == ("__debug__" : Str)) = false) : SE p (.Call (.Name x np) [] [] pos) (fun ρ κ => (R.ok ([], κ)).bind fun q => sem q.1 q.2) := by
  refine ⟨fun pins s σ H Q I ⟨w, ρ, κ, re, wf, po⟩ => wpAny_Call_Name_kw (ld_glob I hg hm ?_ hdb)⟩
  exact PySem.W.callWith_K0 I.kIn hk (run_S (us := []) F hK hr tk I .nil re wf .nil po)

/-! ### lambdas called -/
theorem SE_callv {d : Nat} {x : Str} {i : Nat} {sem : Nat → List Val → Ks → R (Val × Ks)} (F : ∀ k, LmS p.X.prog p.X.w p.g p.clA p.X.mg p.X.base d k (sem k)) (hK : p.X.K = p.g.K) (hr : Room d p.X.A) (tk : L2N.Takes p.X p.W) (hN : p.X.N[i]? = some x) (hv : Vis p.X.env.scope x)
    (hd : (x == ("__debug__" : Str)) = false) (hcd : (x == ("__classdict__" : Str)) = false) :
    SE p (.Call (.Name x np) [] [] pos) (fun ρ κ => match rdX ρ i with
      | some (.one k caps) => sem k caps κ
      | _ => .bad) := by
  refine ⟨fun pins s σ H Q I ⟨w, ρ, κ, re, wf, po⟩ => ?_⟩
  have po : Post p.g p.clA (rV p.g) w H (match rdX ρ i with
    | some (.one k caps) => sem k caps κ
    | _ => .bad) Q (fun c d H' => p.W c d σ H') := po
  split at po
  · rename_i k caps ex
    obtain ⟨z, hz, rz⟩ := re.rdX ex
    cases rz with
    | one rx =>
      have h0 := rx
      cases rx with
      | @mk f c' L cl ws cs hL o oc fr cc all inj vs r =>
        refine wpAny_Call_Name_kw (thn ((pe_var (pos := np) hN hv hd hcd).run pins s σ H (fun v H1 => v = .ref f ∧ H1 = H) I ⟨_, hz, rfl, rfl⟩) fun u s1 ⟨v, H1, I1, r1, ev, eH⟩ => ?_)
        subst ev
        subst eH
        obtain rfl : u = Value.ref f := r1
        obtain ⟨pm, ctv, fo⟩ : ∃ pm ctv : Value, s1.heap.get? f = some (PySem.W.kla_obj "<lambda>" L.qual L.params L.body L.scope cl pm c' ctv) := (I1.hok f _ o).1
        refine PySem.W.callWith_F0 (first := []) ⟨_, _, _, _, fo⟩ ?_
        have e0 := I1.env0
        rw [hK] at e0
        refine wpAny_call (codeAny_mono (F k p.X.A p.X.stack s1 H1 f Q (fun c d H' => p.W c d σ H') w caps κ hr e0 wf h0 po) fun r s' hq => ?_)
        cases r with
        | error e => exact tk _ _ (L2N.XE.of_call (E := fun c d H' => p.W c d σ H') I1 (fun _ _ _ z => z) hq)
        | ok fl =>
          cases fl with
          | ret u => exact I1.after hq
          | next => exact False.elim hq
          | brk => exact False.elim hq
          | cont => exact False.elim hq
  · exact po.elim
end

/-! ### tracked again behind a lambda's body -/
section
variable {P : Program} {W : World} {H H' : Hp} {h h' B : Heap} {fs : List Addr} {cs : List Cap} {g : Gx} {w w' : Wd} {κ κ' : Ks}
theorem re_ok (x : HOk P W H h) (st : Still H cs) (dc : ∀ q ∈ cs, q.o.data = .cell (some q.u)) (nf : ∀ q ∈ cs, q.c ∉ fs) (u : Un fs [] (untrk H cs) H' h h') : ∀ q ∈ cs, CapOk H' h' q := fun q hq => by
  have g1 := (x q.c _ (st q hq)).1
  have n : untrk H cs q.c = none := by
    unfold untrk
    rw [if_pos (show q.c ∈ cellsOf cs from List.mem_map.mpr ⟨q, hq, rfl⟩)]
  exact ⟨u.free q.c _ g1 n (by simp), u.keep q.c _ g1 n (nf q hq) (by simp), dc q hq⟩
theorem re_okB (x : HOk P W H h) (st : Still H cs) (dc : ∀ q ∈ cs, q.o.data = .cell (some q.u)) (nf : ∀ q ∈ cs, q.c ∉ fs) (u : UB fs (untrk H cs) H' h B h') : ∀ q ∈ cs, CapOk H' B q := fun q hq => by
  have g1 := (x q.c _ (st q hq)).1
  have n : untrk H cs q.c = none := by
    unfold untrk
    rw [if_pos (show q.c ∈ cellsOf cs from List.mem_map.mpr ⟨q, hq, rfl⟩)]
  exact ⟨u.free q.c _ g1 n, u.keep q.c _ g1 n (nf q hq), dc q hq⟩
theorem untrk_ne (x : HOk P W H h) (st : Still H cs) {b : Addr} {o : HO} (e : H b = some o) (n : ∀ φ, o ≠ .ext φ) : untrk H cs b = some o ∧ b ∉ cellsOf cs := by
  have z := untrk_some x st e fun _ _ _ => objX_ne n
  exact ⟨z, (untrk_in z).2⟩
theorem notcell (st : Still H cs) {b : Addr} (e : H b = none) : b ∉ cellsOf cs := fun z => by
  obtain ⟨q, hq, e2⟩ := mem_cellsOf z
  have := st q hq
  rw [e2, e] at this
  cases this
theorem re_un (x : HOk P W H h) (st : Still H cs) (u : Un fs [] (untrk H cs) H' h h') : Un fs [] H (trk H' cs) h h' where
  keep := fun b o hg hn hf hx => u.keep b o hg (untrk_none hn) hf hx
  slot := fun b o hg hn hf hx => u.slot b o hg (untrk_none hn) hf hx
  free := fun b o hg hn hx => by
    rw [trk_out (notcell st hn)]
    exact u.free b o hg (untrk_none hn) hx
  there := u.there
  tups := fun b xs e => by
    obtain ⟨z, n⟩ := untrk_ne x st e (by intro _ z; cases z)
    rw [trk_out n]; exact u.tups b xs z
  frzs := fun b o xs e => by
    obtain ⟨z, n⟩ := untrk_ne x st e (by intro _ z; cases z)
    rw [trk_out n]; exact u.frzs b o xs z
  tbls := fun b ps e => by
    obtain ⟨z, n⟩ := untrk_ne x st e (by intro _ z; cases z)
    rw [trk_out n]; exact u.tbls b ps z
theorem re_ub (x : HOk P W H h) (st : Still H cs) (u : UB fs (untrk H cs) H' h B h') : UB fs H (trk H' cs) h B h' where
  keep := fun b o hg hn hf => u.keep b o hg (untrk_none hn) hf
  slot := u.slot
  free := fun b o hg hn => by
    rw [trk_out (notcell st hn)]
    exact u.free b o hg (untrk_none hn)
  there := u.there
  tups := fun b xs e => by
    obtain ⟨z, n⟩ := untrk_ne x st e (by intro _ z; cases z)
    rw [trk_out n]; exact u.tups b xs z
  frzs := fun b o xs e => by
    obtain ⟨z, n⟩ := untrk_ne x st e (by intro _ z; cases z)
    rw [trk_out n]; exact u.frzs b o xs z
  tbls := fun b ps e => by
    obtain ⟨z, n⟩ := untrk_ne x st e (by intro _ z; cases z)
    rw [trk_out n]; exact u.tbls b ps z
theorem re_ext (st : Still H cs) (ok : ∀ q ∈ cs, CapOk H' h' q) (wf' : WF g w' κ' H') (e : Ext w (untrk H cs) w' H') : Ext w H w' (trk H' cs) := by
  have out : ∀ {b}, H' b ≠ none → b ∉ cellsOf cs := fun {b} n z => by
    obtain ⟨q, hq, e2⟩ := mem_cellsOf z
    have := (ok q hq).free
    rw [e2] at this
    exact n this
  have back : ∀ {b}, b ∉ cellsOf cs → untrk H cs b = none → H b = none := fun {b} n z => by
    unfold untrk at z
    rw [if_neg n] at z
    exact z
  refine ⟨e.I, fun a z => (e.new a z).elim .inl fun n => .inr (back (out ?_) n), ?_, fun a o q nm nt => ?_, fun a q => ?_⟩
  · obtain ⟨xs, r⟩ := wf'.dom a z
    rw [r]; intro z; cases z
  · obtain ⟨t, e1, e2⟩ := e.mu
    refine ⟨t, e1, fun a ha => back (out ?_) (e2 a ha)⟩
    obtain ⟨o, r⟩ := wf'.mu_some (a := a) (by rw [e1]; exact List.mem_append_right _ ha)
    rw [r]; intro z; cases z
  · by_cases hc : a ∈ cellsOf cs
    · obtain ⟨c, hcs, e2⟩ := mem_cellsOf hc
      have h1 := st c hcs
      have h2 := trk_in ok c hcs
      rw [e2, q] at h1
      rw [← e2] at *
      rw [h2, h1]
    · refine (trk_some ok (e.fr a o ?_ nm nt)).2
      unfold untrk
      rw [if_neg hc]
      exact q
  · obtain ⟨n, hc⟩ := trk_none ok q
    exact back hc (e.dm a n)
end
end PL
end
section
set_option maxHeartbeats 1000000
namespace PL
open PySem PySem.Spec PyProof.Rows L2 LamX NdefX
/-! ### a lambda by its body -/
def lnf (L : LamI) (cl : List (Str × Addr)) (c' : Addr) : NF := ⟨"<lambda>", L.qual, L.params, [], L.scope, cl, c'⟩
/-- the body's place -/
def lamPl (g : Gx) (clA : Nat → Addr) (P : Program) (W : World) (mg : Str → Option Value) (base : Heap) (L : LamI) (cl : List (Str × Addr)) (c' f : Addr) (A : Around) (outer : List Env) (s : Shared) (H : Hp) (E : XK) : Pl :=
  ⟨g, clA, ncx (L2N.CX P W) P W g.K mg base L.fr (lnf L cl c') f A outer s H E, fun c d _ H' => E c d H', false⟩
theorem capsE (caps : List Val) (i : Nat) : (caps.map fun v => some (Slot.val v))[i]? = caps[i]?.map fun v => some (Slot.val v) := List.getElem?_map ..
theorem lmS_of {P : Program} {W : World} {g : Gx} {clA : Nat → Addr} {mg : Str → Option Value} {base : Heap} {d k : Nat} {sem : List Val → Ks → R (Val × Ks)} {m : Rho → Ks → R (Val × Ks)} {L : LamI} (hL : g.lamI k = some L) (S : NScope L.fr [] L.fr L.scope)
    (hb : ∀ (cl : List (Str × Addr)) (pm cv ctv : Value), bindArgs (PySem.W.kla_fn "<lambda>" L.qual L.params L.body L.scope cl pm cv ctv) ⟨[], []⟩ = pure [])
    (hbody : ∀ cl c' f A outer s H E, Room d (A.deeper (envF (lnf L cl c') f s.heap.objs.size)) → SE (lamPl g clA P W mg base L cl c' f A outer s H E) L.body m)
    (hs : ∀ caps κ, sem caps κ = m (caps.map fun v => some (.val v)) κ) : LmS P W g clA mg base (d + 1) k sem := by
  intro A outer s H f Q E w caps κ hr e0 wf rx po
  cases rx with
  | @mk _ c' L2 cl ws cs hL2 o oc fr cc all inj vs r =>
    rw [hL] at hL2
    cases hL2
    have st : Still H cs := fun q hq => (cc q hq).2.1
    have dc : ∀ q ∈ cs, q.o.data = .cell (some q.u) := fun q hq => (cc q hq).2.2
    have hget : ∀ q ∈ cs, s.heap.get? q.c = some q.o := fun q hq => (e0.hok q.c _ (st q hq)).1
    have nf : ∀ q ∈ cs, q.c ∉ frs outer := fun q hq z => by
      have z1 := e0.frf _ z
      rw [st q hq] at z1; cases z1
    have unn : ∀ q ∈ cs, untrk H cs q.c = none := fun q hq => by
      unfold untrk
      rw [if_pos (show q.c ∈ cellsOf cs from List.mem_map.mpr ⟨q, hq, rfl⟩)]
    obtain ⟨pm, ctv, fo⟩ : ∃ pm ctv : Value, s.heap.get? f = some (PySem.W.kla_obj "<lambda>" L.qual L.params L.body L.scope cl pm c' ctv) := (e0.hok f _ o).1
    have e1 : Env0 P W g.K mg base A outer s (untrk H cs) := ⟨e0.frames, e0.mod, fun b ob hb => ⟨(e0.bs b ob hb).1, untrk_none (e0.bs b ob hb).2⟩, e0.bsz, e0.funs, fun b hb => untrk_none (e0.frf b hb), untrk_hok e0.hok st, e0.bare⟩
    have C : CellsAt cl L.fr (ws.map some) s.heap (untrk H cs) := by
      have hl : ws.length = L.fr.length := by rw [vs.length, ← fr, List.length_map, List.length_map]
      refine ⟨by rw [List.length_map]; exact hl, fun y c e => ?_, inj, fun i y e => ?_⟩
      · have hy := all y c e
        rw [← fr] at hy
        obtain ⟨q, hq, ey⟩ := List.mem_map.mp hy
        have := (cc q hq).1
        rw [ey, e] at this
        cases this
        exact ⟨unn q hq, some q.u, _, hget q hq, dc q hq⟩
      · rw [← fr, List.getElem?_map] at e
        cases eq : cs[i]? with
        | none => rw [eq] at e; cases e
        | some q =>
          rw [eq] at e
          cases e
          have hq := List.mem_of_getElem? eq
          refine ⟨q.c, (cc q hq).1, fun v ev => ?_⟩
          rw [List.getElem?_map] at ev
          cases ew : ws[i]? with
          | none => rw [ew] at ev; cases ev
          | some v' =>
            rw [ew] at ev
            cases ev
            obtain ⟨u, hu, rv⟩ := vs.get ew
            rw [List.getElem?_map, eq] at hu
            cases hu
            exact ⟨_, rv, _, hget q hq, dc q hq⟩
    have lim : s.heap.NoLimit := e0.mod.nolimit.keeps fun b ob e => (e0.bs b ob e).1
    refine PySem.W.kla_callFunE hr.depth fo rfl S.co S.gen rfl (codeO_at e0.hok oc) ?_
    rw [hb]
    refine wpAny_pure (wpAny_newFunctionEnv S.nocell (fun y hy => absurd hy (by simp)) (fun h₁ hns hsb => ⟨lim.fresh _ hsb, ?_⟩) S.kind)
    show codeAny _ _ (.expr L.body (envF (lnf L cl c') f s.heap.objs.size)) _ _
    have kp : ∀ b ob, s.heap.get? b = some ob → h₁.get? b = some ob := fun b ob e => hsb.extBut b ob (Nat.ne_of_lt (Heap.lt_size e)) (Heap.get?_push_of_some _ e)
    obtain ⟨uw, uk⟩ := untrk_wf e0.hok wf st dc
    have un0 : Post g clA (rV g) w (untrk H cs) (m (caps.map fun v => some (.val v)) κ)
        (fun v H' => ∃ w' κ' val, m (caps.map fun v => some (.val v)) κ = .ok (val, κ') ∧ Ext w (untrk H cs) w' H' ∧ WF g w' κ' H' ∧ RV g w'.I w'.μ H' val v)
        (fun cls dd H' => ∃ w' κ' c, m (caps.map fun v => some (.val v)) κ = .exc c .non κ' ∧ cls = .ref (clA c) ∧ dd = none ∧ Ext w (untrk H cs) w' H' ∧ WF g w' κ' H') := by
      rw [hs] at po
      generalize hm : m (caps.map fun v => some (.val v)) κ = z at po ⊢
      cases z with
      | ok q => exact fun x w' H' e2 wf2 r2 => ⟨w', q.2, q.1, rfl, e2, wf2, r2⟩
      | exc c v κ' =>
        cases v with
        | non => exact fun w' H' e2 wf2 => ⟨w', κ', c, rfl, rfl, rfl, e2, wf2⟩
        | _ => exact po.elim
      | bad => exact po.elim
    have J := inv_startN (CX := L2N.CX P W) (N := L.fr) (F := lnf L cl c') (f := f) (us := []) (vs := []) (tk := s.toks + ([] : List (Str × Value)).length)
      (E := fun cls dd H' => ∃ w' κ' c, m (caps.map fun v => some (.val v)) κ = .exc c .non κ' ∧ cls = .ref (clA c) ∧ dd = none ∧ Ext w (untrk H cs) w' H' ∧ WF g w' κ' H') S hr.hd e1 rfl .nil C hns kp
    have hlen : ws.length = L.fr.length := by rw [vs.length, ← fr, List.length_map, List.length_map]
    have sg : ∀ i : Nat, (startF L.fr [] (ws.map some))[i]? = ws[i]?.map some := fun i => by
      show ([] ++ (ws.map some ++ List.replicate (L.fr.length - 0 - (ws.map some).length) none))[i]? = _
      rw [List.nil_append, List.length_map, hlen, Nat.sub_zero, Nat.sub_self, List.replicate_zero, List.append_nil, List.getElem?_map]
    have B := (hbody cl c' f A outer s (untrk H cs) (fun cls dd H' => ∃ w' κ' c, m (caps.map fun v => some (.val v)) κ = .exc c .non κ' ∧ cls = .ref (clA c) ∧ dd = none ∧ Ext w (untrk H cs) w' H' ∧ WF g w' κ' H') (hr.deeper _)).run [] _ _ (untrk H cs) _ J
      ⟨w, caps.map fun v => some (.val v), κ, ⟨?_, fun i sl e => ?_, fun i j l m' a e => ?_⟩, uw, un0⟩
    · refine PySem.W.kla_codeExpr (wpAny_mono B (fun v s' hq => ?_) fun e s' hq => wpAny_mono hq (fun _ s'' z => ?_) fun e' s'' z => ?_)
      · obtain ⟨x, H', J', rv, w', κ', val, em, e2, wf2, r2⟩ := hq
        rw [hs, em] at po
        have ok := re_ok e0.hok st dc nf J'.base
        obtain ⟨e3, wf3⟩ := trk_ext wf2 ok
        exact ⟨x, trk H' cs, J'.os, J'.bare, re_un e0.hok st J'.base, trk_hok J'.hok ok, rv, po x w' _ (re_ext st ok wf2 e2) wf3 (r2.ext e3 wf2)⟩
      · obtain ⟨a, B, H', cls, dd, rfl, fl, hok, ub, na, os, ag, w', κ', c, em, rfl, rfl, e2, wf2⟩ := z
        rw [hs, em] at po
        have ok := re_okB e0.hok st dc nf ub
        obtain ⟨e3, wf3⟩ := trk_ext wf2 ok
        refine ⟨a, B, trk H' cs, _, none, rfl, fl, trk_hok hok ok, re_ub e0.hok st ub, ?_, os, ag, po w' _ (re_ext st ok wf2 e2) wf3⟩
        rw [trk_out fun z => by
          obtain ⟨q, hq, e2⟩ := mem_cellsOf z
          have := (ok q hq).get
          rw [e2, fl.2.1] at this
          cases this]
        exact na
      · obtain ⟨a, B, H', cls, dd, rfl, fl, hok, ub, na, os, ag, w', κ', c, em, rfl, rfl, e2, wf2⟩ := z
        rw [hs, em] at po
        have ok := re_okB e0.hok st dc nf ub
        obtain ⟨e3, wf3⟩ := trk_ext wf2 ok
        refine ⟨a, B, trk H' cs, _, none, rfl, fl, trk_hok hok ok, re_ub e0.hok st ub, ?_, os, ag, po w' _ (re_ext st ok wf2 e2) wf3⟩
        rw [trk_out fun z => by
          obtain ⟨q, hq, e2⟩ := mem_cellsOf z
          have := (ok q hq).get
          rw [e2, fl.2.1] at this
          cases this]
        exact na
    · show _ = (startF L.fr [] (ws.map some)).length
      unfold startF
      simp [hlen, r.length]
    · rw [capsE] at e
      cases ec : caps[i]? with
      | none => rw [ec] at e; cases e
      | some v =>
        rw [ec] at e
        cases e
        obtain ⟨x, hx, rx⟩ := r.get ec
        refine ⟨x, ?_, rx.keeps uk⟩
        show (startF L.fr [] (ws.map some))[i]? = _
        rw [sg, hx]; rfl
    · rw [capsE] at e
      cases ec : caps[i]? with
      | none => rw [ec] at e; cases e
      | some v => rw [ec] at e; cases e
/-! ### a lambda is made -/
section
variable {X : Cx} {pins : List (Addr × Obj)} {σ : L2.St} {H : Hp} {s : Shared}
theorem lam_known {L : LamI} {cl : List (Str × Addr)} {c' : Addr} {h' : Heap} {pm ctv : Value} {tk : Nat} {s0 : Shared} (I : Inv X pins σ H { s0 with heap := h' }) :
    Inv X pins σ (upd H h'.objs.size (LamO h'.objs.size L cl c')) { s0 with heap := h'.push (PySem.W.kla_obj "<lambda>" L.qual L.params L.body L.scope cl pm c' ctv), toks := tk } := by
  refine I.laid (a := h'.objs.size) (fun b u e => Heap.get?_push_of_some _ e) (Nat.le_refl _) ?_
  have at_ : (h'.push (PySem.W.kla_obj "<lambda>" L.qual L.params L.body L.scope cl pm c' ctv)).get? h'.objs.size = some (PySem.W.kla_obj "<lambda>" L.qual L.params L.body L.scope cl pm c' ctv) := Heap.get?_push_size _ rfl
  exact ⟨⟨pm, ctv, at_⟩, ⟨_, at_⟩, fun h1 h2 ⟨pm1, ct1, z⟩ st => ⟨pm1, ct1, st _ z⟩⟩
theorem lamO_ne {f : Addr} {L : LamI} {cl : List (Str × Addr)} {c' : Addr} (ps : Array Value) : LamO f L cl c' ≠ .tbl ps := fun z => by
  unfold LamO at z
  cases z
theorem lam_mk {T : List NTab} {nm : Nat → Nat → Str} {c P : Addr} {L : LamI} {pos : Pos} {E Q : Value → Shared → Prop} (I : Inv X pins σ H s) (TB : TabB X.base X.mg c P) (hcode : X.env.code = .ref c) (hm : (P, nm) ∈ T) (hq : X.env.qual ++ "<lambda>" = L.qual) (hn : nm pos.line pos.col = L.qual)
    (hu : ∀ t ∈ T, t.1 = P → t.2 = nm) (hT : TabsN T H) (hdef : defaultsOf L.params X.env = ([], [])) (hfree : ∀ y ∈ L.scope.names, y.2 = .free → ∃ c, X.env.cells.lookup y.1 = some c)
    (fin : ∀ (f c' : Addr) (H1 : Hp) (s' : Shared), Inv X pins σ H1 s' → ExtN H H1 → (∀ b, H1 b = none → H b = none) → TabsN T H1 → H1 f = some (LamO f L (cloFrom X.env.cells L.scope.names []) c') → H1 c' = some (CodeO c' L.qual) → Q (.ref f) s') :
    wpAny (model X.prog X.w) X.A (eval (.Lambda L.params L.body L.scope pos) X.env) Q E s := by
  obtain ⟨tb, tP, tok, tall⟩ := (show TabN H P nm from hT _ hm)
  refine PySem.W.kla_eval hdef ?_
  rw [hq]
  have hb := TB.bm.keeps I.bk
  have hP : s.heap.get? P = some { cls := .none, data := .fields tb } := I.hok P _ tP
  have glob : s.heap.Ns mainGlobals X.mg := I.mod.glob.keeps I.bk
  have chd := TB.code.keeps I.bk
  cases hc : codeAmong pos tb.toList with
  | some cv =>
    obtain ⟨c', ec, kc⟩ := tall pos cv hc
    subst ec
    rw [hn] at kc
    refine PySem.W.kla_makeFunctionHit (mg := X.mg) (c := c) (P := P) (ps := tb) (closure_ok hfree) I.ok.glob glob hcode chd hP tok hc hb fun ctv h' tk kp sz => ?_
    have I1 : Inv X pins σ H { s with heap := h', toks := tk } := I.kept kp
    have fr := I1.hok.fresh (Nat.le_refl _)
    have I2 := lam_known (L := L) (cl := cloFrom X.env.cells L.scope.names []) (c' := c') (pm := (X.mg "__name__").getD .none) (ctv := ctv) (tk := tk) (s0 := { s with toks := tk }) I1
    have up : ∀ {b o}, H b = some o → upd H h'.objs.size (LamO h'.objs.size L (cloFrom X.env.cells L.scope.names []) c') b = some o := fun {b o} e => (upd_ne (ne_of_none e fr)).trans e
    exact fin h'.objs.size c' _ _ I2 (fun b o e _ => up e) (fun b e => upd_none e) (hT.ext fun b o e => up e) upd_same (up kc)
  | none =>
    refine PySem.W.kla_makeFunction (mg := X.mg) (c := c) (P := P) (ps := tb) (closure_ok hfree) I.ok.glob glob hcode chd hP tok hc TB.gP hb fun c' ctv h' tk kp ge lt rec_ tab' => ?_
    obtain ⟨c2, oc, vs, t, e2, co, cd, cq⟩ := rec_
    cases e2
    have nC : H c' = none := I.hok.fresh ge
    have I1 := inv_table (t' := tk) (more := #[rawInt pos.line, rawInt pos.col, .ref c']) (h' := h') I tP (fun b o hb e => kp b o hb e) tab' ge ⟨oc, vs, t, co, cd, cq⟩
    generalize hG : upd (upd H P (.tbl (tb ++ #[rawInt pos.line, rawInt pos.col, .ref c']))) c' (CodeO c' L.qual) = G at I1
    have gC : G c' = some (CodeO c' L.qual) := by rw [← hG]; exact upd_same
    have gP : G P = some (.tbl (tb ++ #[rawInt pos.line, rawInt pos.col, .ref c'])) := by rw [← hG, upd_ne (ne_of_none tP nC), upd_same]
    have gE : ∀ {b o}, b ≠ P → H b = some o → G b = some o := fun {b o} n e => by rw [← hG, upd_ne (ne_of_none e nC), upd_ne n]; exact e
    have eN : ExtN H G := fun b o e nt => gE (fun z => nt tb (Option.some.inj (e.symm.trans (by rw [z]; exact tP)))) e
    have eL : (tb ++ #[rawInt pos.line, rawInt pos.col, .ref c']).toList = tb.toList ++ [rawInt pos.line, rawInt pos.col, .ref c'] := by simp
    have T1 : TabsN T G := fun q hq => by
      by_cases hb : q.1 = P
      · rw [hu q hq hb, hb]
        refine ⟨_, gP, by rw [eL]; exact PySem.TriplesOk_snoc _ _ _ _ tok, fun p' cv e => ?_⟩
        rw [eL] at e
        rcases among_app2 _ tok e with z | ⟨z, z1, z2⟩
        · obtain ⟨c0, a1, a2⟩ := tall p' cv z
          exact ⟨c0, a1, eN _ _ a2 codeO_ne⟩
        · exact ⟨c', z, by rw [← z1, ← z2, hn]; exact gC⟩
      · obtain ⟨tb', a1, a2, a3⟩ := hT q hq
        refine ⟨tb', gE hb a1, a2, fun p' cv e => ?_⟩
        obtain ⟨c0, b1, b2⟩ := a3 p' cv e
        exact ⟨c0, b1, eN _ _ b2 codeO_ne⟩
    have fr := I1.hok.fresh (Nat.le_refl _)
    have I2 := lam_known (L := L) (cl := cloFrom X.env.cells L.scope.names []) (c' := c') (pm := (X.mg "__name__").getD .none) (ctv := ctv) (tk := tk) (s0 := { s with toks := tk }) I1
    have up : ∀ {b o}, G b = some o → upd G h'.objs.size (LamO h'.objs.size L (cloFrom X.env.cells L.scope.names []) c') b = some o := fun {b o} e => (upd_ne (ne_of_none e fr)).trans e
    refine fin h'.objs.size c' _ _ I2 (fun b o e nt => up (eN b o e nt)) (fun b e => ?_) (T1.ext fun b o e => up e) upd_same (up gC)
    have z := upd_none e
    rw [← hG] at z
    exact upd_none (upd_none z)
end
/-- what a text's own lambda asks -/
structure LamHere (p : Pl) (k : Nat) (js : List Nat) (e : Expr) : Prop where
  run : ∃ (L : LamI) (pos : Pos) (nm : Nat → Nat → Str) (c P : Addr), e = .Lambda L.params L.body L.scope pos ∧ p.g.lamI k = some L ∧ TabB p.X.base p.X.mg c P ∧ p.X.env.code = .ref c ∧ (P, nm) ∈ p.g.tabs ∧ p.X.env.qual ++ "<lambda>" = L.qual ∧ nm pos.line pos.col = L.qual ∧
    (∀ t ∈ p.g.tabs, t.1 = P → t.2 = nm) ∧ defaultsOf L.params p.X.env = ([], []) ∧ (∀ y ∈ L.scope.names, y.2 = .free → p.X.env.scope.names.lookup y.1 = some .cell ∨ p.X.env.scope.names.lookup y.1 = some .free) ∧
    (∀ y ∈ L.fr, (y, NameKind.free) ∈ L.scope.names) ∧ (∀ y ∈ L.scope.names, y.2 = .free → y.1 ∈ L.fr) ∧ js.map (fun j => p.X.N[j]?) = L.fr.map some
section
variable {p : Pl} {e : Expr} {es : List Expr}
/-- the reading of a text's own lambdas -/
def tL (p : Pl) (l : List (Nat × List Nat)) : TA := fun σ H Q => ∃ w ρ κ, RE p.g p.X p.b w H ρ σ ∧ WF p.g w κ H ∧ ∀ xs w' H', Ext w H w' H' → WF p.g w' κ H' → RLs p.g p.X H' l xs → Q xs H'
def tL1 (p : Pl) (k : Nat × List Nat) : TE := fun σ H Q => ∃ w ρ κ, RE p.g p.X p.b w H ρ σ ∧ WF p.g w κ H ∧ ∀ x w' H', Ext w H w' H' → WF p.g w' κ H' → RL1 p.g p.X H' k x → Q x H'
theorem SL1_mk {k : Nat} {js : List Nat} (h : LamHere p k js e) : PE p.X e (tL1 p (k, js)) := by
  obtain ⟨L, pos, nm, c, P, rfl, hL, TB, hcode, hm, hq, hn, hu, hdef, hfree, hfr, honly, hjs⟩ := h.run
  refine ⟨fun pins s σ H Q I ⟨w, ρ, κ, re, wf, po⟩ => ?_⟩
  have hf : ∀ y ∈ L.scope.names, y.2 = .free → ∃ c, p.X.env.cells.lookup y.1 = some c := fun y hy e => (hfree y hy e).elim (fun z => I.ok.has _ (.inl z)) fun z => I.ok.has _ (.inr z)
  refine lam_mk I TB hcode hm hq hn hu wf.tab hdef hf fun f c' H1 s' I1 eN nn T1 f1 c1 => ?_
  have e1 : Ext w H w H1 := ⟨fun _ z => z, fun _ z => .inl z, ⟨[], by simp⟩, fun a o q _ nt => eN a o q nt, nn⟩
  have wf1 : WF p.g w κ H1 := e1.wf wf rfl (fun a z => by
    obtain ⟨xs, q⟩ := wf.dom a z
    exact ⟨xs, eN _ _ q (by intro _ z; cases z)⟩) T1 (fun a _ xs q => eN _ _ q (by intro _ z; cases z)) wf.dis
  refine ⟨.ref f, H1, I1, rfl, po _ w H1 e1 wf1 (.mk hL f1 c1 (fun ok => Caps.made ok hfree hfr hjs) fun y c z => ?_)⟩
  rcases cloFrom_mem (PySem.mem_of_lookup z) with hm | ⟨h1, _⟩
  · cases hm
  · exact honly _ h1 rfl
theorem SL_nil : PA p.X [] (tL p []) := pa_nil.imp fun σ H Q ⟨w, ρ, κ, re, wf, po⟩ => po [] w H (Ext.refl w H) wf .nil
theorem SL_cons {q : Nat × List Nat} {l : List (Nat × List Nat)} (h : PE p.X e (tL1 p q)) (t : PA p.X es (tL p l)) (hs : starEach (e :: es) p.X.env = (false, eval e p.X.env) :: starEach es p.X.env) : PA p.X (e :: es) (tL p (q :: l)) :=
  (pa_cons h t hs).imp fun σ H Q ⟨w, ρ, κ, re, wf, po⟩ => ⟨w, ρ, κ, re, wf, fun x w1 H1 e1 wf1 r1 => ⟨w1, ρ, κ, re.ext e1 wf, wf1, fun xs w2 H2 e2 wf2 r2 => po (x :: xs) w2 H2 (e1.trans e2) wf2 (.cons (r1.ext e2 wf1) r2)⟩⟩
/-- a list of lambdas -/
def tC (p : Pl) (f : Rho → Option (List (Nat × List Nat))) : TE := fun σ H Q => ∃ w ρ κ l, RE p.g p.X p.b w H ρ σ ∧ WF p.g w κ H ∧ f ρ = some l ∧ ∀ a xs w' H', Ext w H w' H' → WF p.g w' κ H' → w'.I a → H' a = some (.lst xs) → RLs p.g p.X H' l xs → Q (.ref a) H'
abbrev SC (p : Pl) (e : Expr) (f : Rho → Option (List (Nat × List Nat))) : Prop := PE p.X e (tC p f)
theorem rls_len {H : Hp} : ∀ {l : List (Nat × List Nat)} {xs : List V}, RLs p.g p.X H l xs → l.length = xs.length
  | _, _, .nil => rfl
  | _, _, .cons _ t => by simp [rls_len t]
variable {pos : Pos}
theorem SC_lams {l : List (Nat × List Nat)} (h : PA p.X es (tL p l)) (hl : l.length ≤ LINE) : SC p (.List es pos) (fun _ => some l) :=
  (pe_lst h).imp fun σ H Q ⟨w, ρ, κ, l', re, wf, ef, po⟩ => by
    cases ef
    refine ⟨w, ρ, κ, re, wf, fun xs w1 H1 e1 wf1 r1 => ⟨by rw [← rls_len r1, ← LINE_eq]; exact hl, fun q hq => ?_⟩⟩
    obtain ⟨e2, wf2⟩ := fix_new wf1 hq xs
    exact po q xs _ _ (e1.trans e2) wf2 (.inr rfl) upd_same (r1.ext e2 wf1)
theorem SC_var {i : Nat} {x : Str} (hb : p.b = false) (hN : p.X.N[i]? = some x) (hv : Vis p.X.env.scope x) (hd : (x == ("__debug__" : Str)) = false) (hcd : (x == ("__classdict__" : Str)) = false) : SC p (.Name x pos) (fun ρ => match ρ[i]? with
    | some (some (.cls l)) => some l
    | _ => none) :=
  (pe_var hN hv hd hcd).imp fun σ H Q ⟨w, ρ, κ, l, re, wf, ef, po⟩ => by
    have ef : (match ρ[i]? with
      | some (some (.cls l)) => some l
      | _ => none) = some l := ef
    split at ef
    · cases ef
      rename_i er
      have := re.at_ i _ er
      rcases this with z | ⟨a, xs, h1, h2, h3, h4⟩
      · rw [hb] at z; cases z
      · exact ⟨_, h1, po a xs w H (Ext.refl w H) wf h2 h3 h4⟩
    · cases ef
theorem SC_add {a b : Expr} {f f' : Rho → Option (List (Nat × List Nat))} (ha : SC p a f) (hb : SC p b f') : SC p (.BinOp a .Add b pos) (fun ρ => match f ρ, f' ρ with
    | some x, some y => if x.length + y.length ≤ LINE then some (x ++ y) else none
    | _, _ => none) :=
  (pe_op op_cat ha hb).imp fun σ H Q ⟨w, ρ, κ, l, re, wf, ef, po⟩ => by
    have ef : (match f ρ, f' ρ with
      | some x, some y => if x.length + y.length ≤ LINE then some (x ++ y) else none
      | _, _ => none) = some l := ef
    split at ef
    · rename_i x y e1 e2
      split at ef
      · rename_i hl
        cases ef
        refine ⟨w, ρ, κ, x, re, wf, e1, fun a xs w1 H1 ex1 wf1 i1 h1 r1 => ⟨w1, ρ, κ, y, re.ext ex1 wf, wf1, e2, fun b ys w2 H2 ex2 wf2 i2 h2 r2 => ?_⟩⟩
        have h1' := (ex2.keepsI wf1).l _ _ i1 h1
        have r1' := r1.ext ex2 wf1
        refine ⟨a, b, xs, ys, rfl, rfl, h1', h2, by rw [← rls_len r1, ← rls_len r2, ← LINE_eq]; exact hl, fun q hq => ?_⟩
        obtain ⟨e3, wf3⟩ := fix_new wf2 hq (xs ++ ys)
        exact po q (xs ++ ys) _ _ ((ex1.trans ex2).trans e3) wf3 (.inr rfl) upd_same ((RLs.append r1' r2).ext e3 wf2)
      · cases ef
    · cases ef
/-- .. as an argument -/
theorem SX_clos {f : Rho → Option (List (Nat × List Nat))} (hf : ∀ x, p.X.fn x = true) (h : SC p e f) : SX p e (fun ρ => ((f ρ).bind (eclosOf ρ)).map fun l => .x (.many l)) :=
  h.imp fun σ H Q ⟨w, ρ, κ, a, re, wf, ef, po⟩ => by
    obtain ⟨l, h1, h2⟩ := Option.map_eq_some_iff.mp ef
    subst h2
    obtain ⟨lk, h3, h4⟩ := Option.bind_eq_some_iff.mp h1
    exact ⟨w, ρ, κ, lk, re, wf, h3, fun q xs w' H' e1 wf1 i1 h5 r1 => po _ w' H' e1 wf1 (.many hf h4 i1 h5 r1)⟩
theorem SX_clo1 {k : Nat} {js : List Nat} (hf : ∀ x, p.X.fn x = true) (h : PE p.X e (tL1 p (k, js))) : SX p e (fun ρ => (capsOf ρ js).map fun l => .x (.one k l)) :=
  h.imp fun σ H Q ⟨w, ρ, κ, a, re, wf, ef, po⟩ => by
    obtain ⟨l, h1, h2⟩ := Option.map_eq_some_iff.mp ef
    subst h2
    exact ⟨w, ρ, κ, re, wf, fun x w' H' e1 wf1 r1 => po _ w' H' e1 wf1 (.one hf h1 r1)⟩
end
end PL
end
section
set_option maxHeartbeats 1000000
namespace PL
open PySem PySem.Spec PyProof.Rows L2 LamX NdefX
/-- what a statement may end with -/
def relR (p : Pl) (fr : Bool) (w : Wd) (H : Hp) (v : Val) (x : V) : Prop := if fr = true then rF p.g p.X.H_0 w H v x else RV p.g w.I w.μ H v x
structure Cur (p : Pl) (w0 w : Wd) (ρ : Rho) (κ : Ks) (σ : L2.St) (H : Hp) : Prop where
  re : RE p.g p.X p.b w H ρ σ
  wf : WF p.g w κ H
  e0 : Ext w0 p.X.H_0 w H
def PostO (p : Pl) (fr : Bool) (w0 w : Wd) (H : Hp) (D : Ends) (o : O) : Prop := match o with
  | .nx ρ' κ' => ∀ w' σ' H', Cur p w0 w' ρ' κ' σ' H' → Keeps w.I w'.I w.μ w'.μ H H' → D.nx σ' H'
  | .ret v κ' => ∀ x w' H', Ext w0 p.X.H_0 w' H' → WF p.g w' κ' H' → relR p fr w' H' v x → D.rt x H'
  | .exc c .non κ' => ∀ σ' w' H', Ext w0 p.X.H_0 w' H' → WF p.g w' κ' H' → p.W (.ref (p.clA c)) none σ' H'
  | .exc _ _ _ => False
  | .bad => False
/-- the reading of a statement that does m -/
def tS (p : Pl) (fr : Bool) (m : Rho → Ks → O) : TS := fun D σ H => ∃ w0 w ρ κ, Cur p w0 w ρ κ σ H ∧ PostO p fr w0 w H D (m ρ κ)
abbrev SS (p : Pl) (fr : Bool) (s : Stmt) (m : Rho → Ks → O) : Prop := PS p.X s (tS p fr m)
abbrev SSs (p : Pl) (fr : Bool) (s : List Stmt) (m : Rho → Ks → O) : Prop := PSs p.X s (tS p fr m)
theorem _root_.L2.PS.imp {X : Cx} {e : Stmt} {t t' : TS} (h : PS X e t) (k : ∀ D σ H, t' D σ H → t D σ H) : PS X e t' := ⟨fun pins s σ H Q I q => h.run pins s σ H Q I (k Q σ H q)⟩
theorem _root_.L2.PSs.imp {X : Cx} {e : List Stmt} {t t' : TS} (h : PSs X e t) (k : ∀ D σ H, t' D σ H → t D σ H) : PSs X e t' := ⟨fun pins s σ H Q I q => h.run pins s σ H Q I (k Q σ H q)⟩
section
variable {p : Pl} {fr : Bool} {w0 w w1 : Wd} {ρ : Rho} {κ κ1 : Ks} {σ : L2.St} {H H1 : Hp} {D : Ends}
theorem PostO.weak {o : O} (po : PostO p fr w0 w H D o) (k : Keeps w.I w1.I w.μ w1.μ H H1) : PostO p fr w0 w1 H1 D o := by
  cases o with
  | nx ρ' κ' => exact fun w' σ' H' c k' => po w' σ' H' c (k.trans k')
  | ret v κ' => exact po
  | exc c v κ' =>
    cases v with
    | non => exact po
    | _ => exact po
  | bad => exact po
theorem Cur.step (c : Cur p w0 w ρ κ σ H) (e : Ext w H w1 H1) (wf1 : WF p.g w1 κ1 H1) : Cur p w0 w1 ρ κ1 σ H1 := ⟨c.re.ext e c.wf, wf1, c.e0.trans e⟩
/-- first a value, then what hangs on it -/
theorem PostO.bind {α β : Type} {rel : Wd → Hp → α → β → Prop} {r : R (α × Ks)} {f : α × Ks → O} {k : β → Hp → Prop} (c : Cur p w0 w ρ κ σ H) (po : PostO p fr w0 w H D (r.toO f))
    (hk : ∀ w1 H1 a κ1 x, WF p.g w1 κ1 H1 → Ext w H w1 H1 → rel w1 H1 a x → PostO p fr w0 w1 H1 D (f (a, κ1)) → k x H1) : Post p.g p.clA rel w H r k (fun cl d H' => p.W cl d σ H') := by
  cases r with
  | bad => exact po
  | exc cl v κ' =>
    cases v with
    | non => exact fun w' H' e wf => po σ w' H' (c.e0.trans e) wf
    | _ => exact po
  | ok q => exact fun x w1 H1 e wf1 r1 => hk w1 H1 q.1 q.2 x wf1 e r1 (PostO.weak (o := f q) po (e.keepsI c.wf))
/-! ### plain ones -/
variable {st : Stmt} {sts : List Stmt} {m n : Rho → Ks → O} {e : Expr} {me : Rho → Ks → R (Val × Ks)} {i : Nat} {x : Str} {pos pos' : Pos}
theorem SSs_nil : SSs p fr [] (fun ρ κ => .nx ρ κ) := pss_nil.imp fun D σ H ⟨w0, w, ρ, κ, c, po⟩ => po w σ H c .refl
theorem SSs_cons (h : SS p fr st m) (t : SSs p fr sts n) : SSs p fr (st :: sts) (fun ρ κ => (m ρ κ).then n) :=
  (pss_cons h t).imp fun D σ H ⟨w0, w, ρ, κ, c, po⟩ => by
    refine ⟨w0, w, ρ, κ, c, ?_⟩
    have po : PostO p fr w0 w H D ((m ρ κ).then n) := po
    generalize m ρ κ = z at po ⊢
    cases z with
    | nx ρ' κ' => exact fun w' σ' H' c' k => ⟨w0, w', ρ', κ', c', po.weak k⟩
    | ret v κ' => exact po
    | exc cl v κ' =>
      cases v with
      | non => exact po
      | _ => exact po
    | bad => exact po
theorem asg_val (i : Nat) : ∀ D σ H, tS p fr (fun ρ κ => (me ρ κ).toO fun q => .nx (ρ.set i (some (.val q.1))) q.2) D σ H → tAsg (tG p (rV p.g) me) (gName i) D σ H :=
  fun D σ H ⟨w0, w, ρ, κ, c, po⟩ => ⟨w, ρ, κ, c.re, c.wf, PostO.bind c po fun w1 H1 a κ1 x wf1 e1 ra po1 => po1 w1 _ H1 ⟨(c.step e1 wf1).re.setV ra, wf1, c.e0.trans e1⟩ .refl⟩
theorem asgF_val (i : Nat) : ∀ D σ H, tS p fr (fun ρ κ => (me ρ κ).toO fun q => .nx (ρ.set i (some (.val q.1))) q.2) D σ H → tAsg (tF p me) (gName i) D σ H :=
  fun D σ H ⟨w0, w, ρ, κ, c, po⟩ => ⟨w, ρ, κ, c.re, c.wf, by
    have po : PostO p fr w0 w H D ((me ρ κ).toO fun q => .nx (ρ.set i (some (.val q.1))) q.2) := po
    generalize me ρ κ = z at po ⊢
    cases z with
    | ok q =>
      intro x w1 H1 e1 wf1 r1
      obtain ⟨w2, e2, wf2, r2⟩ := rF_fix e1 wf1 r1
      exact po w2 _ H1 ⟨(c.step e2 wf2).re.setV r2, wf2, c.e0.trans e2⟩ (e2.keepsI c.wf)
    | exc cl v κ' =>
      cases v with
      | non => exact fun w' H' e wf => po σ w' H' (c.e0.trans e) wf
      | _ => exact po
    | bad => exact po⟩
/-- a new cell -/
theorem asgF_cel (i : Nat) : ∀ D σ H, tS p fr (fun ρ κ => (me ρ κ).toO fun q => match q.1 with
    | .lst l => .nx (ρ.set i (some (.val (.cell q.2.length)))) (q.2 ++ [.lst l])
    | _ => .bad) D σ H → tAsg (tF p me) (gName i) D σ H :=
  fun D σ H ⟨w0, w, ρ, κ, c, po⟩ => ⟨w, ρ, κ, c.re, c.wf, by
    have po : PostO p fr w0 w H D ((me ρ κ).toO fun q => match q.1 with
      | .lst l => .nx (ρ.set i (some (.val (.cell q.2.length)))) (q.2 ++ [.lst l])
      | _ => .bad) := po
    generalize me ρ κ = z at po ⊢
    cases z with
    | ok q =>
      intro x w1 H1 e1 wf1 r1
      obtain ⟨v, κ1⟩ := q
      obtain ⟨l, a, xs, ev, rfl, n, ha, r, nI, nM⟩ := r1
      have ev : v = .lst l := ev
      subst ev
      have po : PostO p fr w0 w H D (.nx (ρ.set i (some (.val (.cell κ1.length)))) (κ1 ++ [.lst l])) := po
      have e2 : Ext w H ⟨w1.I, w1.μ ++ [a]⟩ H1 := by
        obtain ⟨t, et, ht⟩ := e1.mu
        refine ⟨e1.I, e1.new, ⟨t ++ [a], by show w1.μ ++ [a] = _; rw [et, List.append_assoc], fun b hb => ?_⟩, e1.fr, e1.dm⟩
        rcases List.mem_append.mp hb with z | z
        · exact ht b z
        · rw [List.mem_singleton.mp z]; exact n
      have kp : Keeps w1.I w1.I w1.μ (w1.μ ++ [a]) H1 H1 := ⟨fun _ z => z, fun j b z => by rw [List.getElem?_append_left (List.getElem?_eq_some_iff.mp z).1]; exact z, fun _ _ _ z => z, fun _ _ z => z, fun _ _ _ z => z⟩
      have hlen : w1.μ.length = κ1.length := wf1.len
      have wf2 : WF p.g ⟨w1.I, w1.μ ++ [a]⟩ (κ1 ++ [.lst l]) H1 := by
        refine ⟨by show (w1.μ ++ [a]).length = _; simp [hlen], fun j b hj => ?_, fun j j' b h1 h2 => ?_, fun b hb => ?_, wf1.dom, wf1.tab⟩
        · have hj : (w1.μ ++ [a])[j]? = some b := hj
          rw [List.getElem?_append] at hj
          split at hj
          · rename_i hlt
            obtain ⟨l', ys, h1, h2, h3⟩ := wf1.at_ j b hj
            exact ⟨l', ys, by rw [List.getElem?_append_left (by omega)]; exact h1, h2, h3.keeps kp⟩
          · rename_i hge
            have ej : j - w1.μ.length = 0 := by
              have := (List.getElem?_eq_some_iff.mp hj).1
              simp at this
              omega
            rw [ej] at hj
            have hj : some a = some b := hj
            cases hj
            refine ⟨l, xs, ?_, ha, r.keeps kp⟩
            rw [List.getElem?_append_right (by omega), (by omega : j - κ1.length = 0)]
            rfl
        · have h1 : (w1.μ ++ [a])[j]? = some b := h1
          have h2 : (w1.μ ++ [a])[j']? = some b := h2
          rw [List.getElem?_append] at h1 h2
          have one : ∀ k : Nat, [a][k]? = some b → k = 0 ∧ b = a := fun k hk => by
            have := (List.getElem?_eq_some_iff.mp hk).1
            have : k = 0 := by simp at this; omega
            subst this
            exact ⟨rfl, by simpa using hk.symm⟩
          split at h1
          · split at h2
            · exact wf1.nd j j' b h1 h2
            · rw [(one _ h2).2] at h1
              exact absurd (List.mem_of_getElem? h1) nM
          · split at h2
            · rw [(one _ h1).2] at h2
              exact absurd (List.mem_of_getElem? h2) nM
            · have := (one _ h1).1
              have := (one _ h2).1
              omega
        · rcases List.mem_append.mp hb with z | z
          · exact wf1.dis b z
          · rw [List.mem_singleton.mp z]; exact nI
      refine po ⟨w1.I, w1.μ ++ [a]⟩ _ H1 ⟨(c.step e2 wf2).re.setV (.cell ?_), wf2, c.e0.trans e2⟩ (e2.keepsI c.wf)
      show (w1.μ ++ [a])[κ1.length]? = some a
      rw [← hlen, List.getElem?_append_right (Nat.le_refl _), Nat.sub_self]
      rfl
    | exc cl v κ' =>
      cases v with
      | non => exact fun w' H' e wf => po σ w' H' (c.e0.trans e) wf
      | _ => exact po
    | bad => exact po⟩
/-- .. one of the frame's own -/
theorem asgF_own (hb : p.b = false) (i : Nat) : ∀ D σ H, tS p fr (fun ρ κ => (me ρ κ).toO fun q => match q.1 with
    | .lst l => .nx (ρ.set i (some (.own l))) q.2
    | _ => .bad) D σ H → tAsg (tF p me) (gName i) D σ H :=
  fun D σ H ⟨w0, w, ρ, κ, c, po⟩ => ⟨w, ρ, κ, c.re, c.wf, by
    have po : PostO p fr w0 w H D ((me ρ κ).toO fun q => match q.1 with
      | .lst l => .nx (ρ.set i (some (.own l))) q.2
      | _ => .bad) := po
    generalize me ρ κ = z at po ⊢
    cases z with
    | ok q =>
      intro x w1 H1 e1 wf1 r1
      obtain ⟨v, κ1⟩ := q
      obtain ⟨l, a, xs, ev, rfl, n, ha, r, nI, nM⟩ := r1
      have ev : v = .lst l := ev
      subst ev
      have po : PostO p fr w0 w H D (.nx (ρ.set i (some (.own l))) κ1) := po
      have re := (c.step e1 wf1).re
      refine po w1 _ H1 ⟨⟨by rw [List.length_set, List.length_set]; exact re.len, fun j sl hj => ?_, fun j k l1 l2 b h1 h2 h3 h4 => ?_⟩, wf1, c.e0.trans e1⟩ (e1.keepsI c.wf)
      · rcases getElem?_set_cases hj with ⟨ej, hi, es⟩ | ⟨nj, hj⟩
        · subst ej; cases es
          exact ⟨a, xs, List.getElem?_set_self (by rw [← re.len]; exact hi), ha, r, nI, nM, .inr (c.e0.dm a n)⟩
        · exact (re.at_ j sl hj).set_ne nj
      · have other : ∀ {j : Nat} {l1 : List Val} {b : Addr}, ρ[j]? = some (some (.own l1)) → σ[j]? = some (some (.ref b)) → b ≠ a := fun {j l1 b} h1 h3 z => by
          obtain ⟨b', ys, q1, q2, _⟩ := c.re.at_ j _ h1
          rw [h3] at q1
          cases q1
          rw [z, n] at q2
          cases q2
        rcases getElem?_set_cases h1 with ⟨ej, hi, es⟩ | ⟨nj, h1⟩
        · rcases getElem?_set_cases h2 with ⟨ek, _, _⟩ | ⟨nk, h2⟩
          · exact ej.symm.trans ek
          · subst ej
            rw [List.getElem?_set_self (by rw [← re.len]; exact hi)] at h3
            cases h3
            rw [List.getElem?_set_ne nk] at h4
            exact absurd rfl (other h2 h4)
        · rw [List.getElem?_set_ne nj] at h3
          rcases getElem?_set_cases h2 with ⟨ek, hi, es⟩ | ⟨nk, h2⟩
          · subst ek
            rw [List.getElem?_set_self (by rw [← re.len]; exact hi)] at h4
            cases h4
            exact absurd rfl (other h1 h3)
          · rw [List.getElem?_set_ne nk] at h4
            exact re.apart j k l1 l2 b h1 h2 h3 h4
    | exc cl v κ' =>
      cases v with
      | non => exact fun w' H' e wf => po σ w' H' (c.e0.trans e) wf
      | _ => exact po
    | bad => exact po⟩
/-- a list of lambdas -/
theorem SS_setC {f : Rho → Option (List (Nat × List Nat))} (hN : p.X.N.Nodup) (hi : p.X.N[i]? = some x) (hx : Loc p.X.env.scope x) (he : SC p e f) (hs : swapsWith e (some (.Name x pos')) pos.line p.X.env = pure false) (hf : p.X.fn x = true ∨ p.X.env.scope.names.lookup x = some .local) :
    SS p fr (.Assign [.Name x pos'] e pos) (fun ρ κ => match f ρ with
      | some l => .nx (ρ.set i (some (.cls l))) κ
      | none => .bad) :=
  (ps_set hN hi hx he hs hf).imp fun D σ H ⟨w0, w, ρ, κ, c, po⟩ => by
    have po : PostO p fr w0 w H D (match f ρ with
      | some l => .nx (ρ.set i (some (.cls l))) κ
      | none => .bad) := po
    cases ef : f ρ with
    | none => rw [ef] at po; exact po.elim
    | some l =>
      rw [ef] at po
      exact ⟨w, ρ, κ, l, c.re, c.wf, ef, fun a xs w1 H1 e1 wf1 i1 h1 r1 => po w1 _ H1 ⟨(c.step e1 wf1).re.set (fun σ' hσ => .inr ⟨a, xs, hσ, i1, h1, r1⟩) (fun _ z => nomatch z), wf1, c.e0.trans e1⟩ (e1.keepsI c.wf)⟩
theorem SS_expr (he : SE p e me) (hs : swapsWith e none pos.line p.X.env = pure false) : SS p fr (.Expr e pos) (fun ρ κ => (me ρ κ).toO fun q => .nx ρ q.2) :=
  (ps_expr he hs).imp fun D σ H ⟨w0, w, ρ, κ, c, po⟩ => ⟨w, ρ, κ, c.re, c.wf, PostO.bind c po fun w1 H1 a κ1 x wf1 e1 ra po1 => po1 w1 σ H1 (c.step e1 wf1) .refl⟩
theorem SS_ret (he : SE p e me) : SS p false (.Return (some e) pos) (fun ρ κ => (me ρ κ).toO fun q => .ret q.1 q.2) :=
  (ps_ret he).imp fun D σ H ⟨w0, w, ρ, κ, c, po⟩ => ⟨w, ρ, κ, c.re, c.wf, PostO.bind c po fun w1 H1 a κ1 x wf1 e1 ra po1 => po1 x w1 H1 (c.e0.trans e1) wf1 ra⟩
theorem SS_retF (he : FE p e me) : SS p true (.Return (some e) pos) (fun ρ κ => (me ρ κ).toO fun q => .ret q.1 q.2) :=
  (ps_ret he).imp fun D σ H ⟨w0, w, ρ, κ, c, po⟩ => ⟨w, ρ, κ, c.re, c.wf, PostO.bind c po fun w1 H1 a κ1 x wf1 e1 ra po1 => po1 x w1 H1 (c.e0.trans e1) wf1 (by
    obtain ⟨l, b, xs, h1, h2, n, r⟩ := ra
    exact ⟨l, b, xs, h1, h2, c.e0.dm b n, r⟩)⟩
theorem SS_ite {c : Expr} {a b : List Stmt} {mt : Rho → Ks → R (Bool × Ks)} (hc : STt p c mt) (ha : SSs p fr a m) (hb : SSs p fr b n) : SS p fr (.If c a b pos) (fun ρ κ => (mt ρ κ).toO fun q => if q.1 = true then m ρ q.2 else n ρ q.2) :=
  (ps_if hc ha hb).imp fun D σ H ⟨w0, w, ρ, κ, c, po⟩ => ⟨w, ρ, κ, c.re, c.wf, PostO.bind (rel := fun _ _ a b => a = b) c po fun w1 H1 a κ1 x wf1 e1 ra po1 => by
    subst ra
    cases a with
    | true => rw [if_pos rfl]; exact ⟨w0, w1, ρ, κ1, c.step e1 wf1, po1⟩
    | false => rw [if_neg (by decide)]; exact ⟨w0, w1, ρ, κ1, c.step e1 wf1, po1⟩⟩
/-! ### loops -/
theorem SS_while {c : Expr} {b : List Stmt} {mt : Rho → Ks → R (Bool × Ks)} (hp : PassesOwn (model p.X.prog p.X.w) p.X.A p.X.env p.X.xe) (hc : STt p c mt) (hb : SSs p fr b m) (N : Nat) : SS p fr (.While c b [] pos) (fun ρ κ => whileL N mt m ρ κ) :=
  (ps_while hp hc hb).imp fun D σ H ⟨w0, w, ρ, κ, c0, po⟩ => by
    refine ⟨fun k σ' H' => ∃ w' ρ' κ', Cur p w0 w' ρ' κ' σ' H' ∧ PostO p fr w0 w' H' D (whileL k mt m ρ' κ'), ⟨N, w, ρ, κ, c0, po⟩, fun k σ1 H1 ⟨w1, ρ1, κ1, c1, po1⟩ => ?_⟩
    cases k with
    | zero => exact po1.elim
    | succ k =>
      refine ⟨w1, ρ1, κ1, c1.re, c1.wf, PostO.bind (rel := fun _ _ a b => a = b) c1 po1 fun w2 H2 a κ2 x wf2 e2 ra po2 => ?_⟩
      subst ra
      cases a with
      | false =>
        rw [if_neg (by decide)]
        exact po2 w2 σ1 H2 (c1.step e2 wf2) .refl
      | true =>
        rw [if_pos rfl]
        refine ⟨fun σ' H' => ∃ w' ρ' κ', Cur p w0 w' ρ' κ' σ' H' ∧ PostO p fr w0 w' H' D (whileL k mt m ρ' κ'), fun σ' H' z => ⟨k, Nat.lt_succ_self k, z⟩, w0, w2, ρ1, κ2, c1.step e2 wf2, ?_⟩
        have po2 : PostO p fr w0 w2 H2 D ((m ρ1 κ2).then fun ρ' κ' => whileL k mt m ρ' κ') := po2
        generalize m ρ1 κ2 = z at po2 ⊢
        cases z with
        | nx ρ' κ' => exact fun w' σ' H' c' k' => ⟨w', ρ', κ', c', po2.weak k'⟩
        | ret v κ' => exact po2
        | exc cl v κ' =>
          cases v with
          | non => exact po2
          | _ => exact po2
        | bad => exact po2
theorem SS_loop {tgE iter : Expr} {b : List Stmt} {tg : Tg} {mi : Rho → Ks → R (List Val × Ks)} (hp : PassesOwn (model p.X.prog p.X.w) p.X.A p.X.env p.X.xe) (hc : p.X.calm = true) (hi : SIk p tgE iter mi) (hg : PG p.X tgE (gT p.g.K tg)) (hb : SSs p fr b m)
    (hs : ∀ x, foldedSetIterable iter p.X.env x = pure x) : SS p fr (.For tgE iter b [] pos) (fun ρ κ => (mi ρ κ).toO fun q => loopL q.1 (fun v ρ' κ' => match setTg tg v ρ' with
      | some ρ2 => m ρ2 κ'
      | none => .bad) ρ q.2) :=
  (ps_for hp hc hi hg hb hs).imp fun D σ H ⟨w0, w, ρ, κ, c0, po⟩ => ⟨w, ρ, κ, c0.re, c0.wf, PostO.bind c0 po fun w1 H1 l κ1 J wf1 e1 wl po1 => by
    have c1 := c0.step e1 wf1
    refine ⟨fun i k σ' H' => k = l.length - i ∧ i ≤ l.length ∧ ∃ w' ρ' κ', Cur p w0 w' ρ' κ' σ' H' ∧ Keeps w1.I w'.I w1.μ w'.μ H1 H' ∧ PostO p fr w0 w' H' D (loopL (l.drop i) (fun v ρ' κ' => match setTg tg v ρ' with
      | some ρ2 => m ρ2 κ'
      | none => .bad) ρ' κ'), ⟨l.length, by simp, Nat.zero_le _, w1, ρ, κ1, c1, .refl, po1⟩, ?_⟩
    rintro i k σ2 H2 ⟨rfl, hil, w2, ρ2, κ2, c2, k2, po2⟩
    by_cases hlt : i < l.length
    case neg =>
      have ei : i = l.length := by omega
      subst ei
      rw [List.drop_length] at po2
      exact .inl ⟨wl.stop w2 κ2 H2 k2 c2.wf, po2 w2 σ2 H2 c2 .refl⟩
    case pos =>
      refine .inr ⟨wl.go i w2 κ2 H2 hlt k2 c2.wf, _, fun σ' H' hN => ⟨l.length - (i + 1), by omega, hN⟩, fun x H3 hy => ?_⟩
      obtain ⟨v, hv, e3, wf3, rv⟩ := wl.yld i w2 κ2 H2 x H3 hlt k2 c2.wf hy
      have hd : l.drop i = v :: l.drop (i + 1) := by
        rw [List.drop_eq_getElem_cons hlt]
        rw [List.getElem?_eq_getElem hlt] at hv
        cases hv; rfl
      rw [hd] at po2
      have c3 := c2.step e3 wf3
      have po3 : PostO p fr w0 w2 H3 D ((match setTg tg v ρ2 with
        | some ρ2 => m ρ2 κ2
        | none => .bad).then fun ρ' κ' => loopL (l.drop (i + 1)) _ ρ' κ') := PostO.weak po2 (e3.keepsI c2.wf)
      cases et : setTg tg v ρ2 with
      | none => rw [et] at po3; exact po3.elim
      | some ρ3 =>
        rw [et] at po3
        refine gT_of wf3 et c3.re rv fun σ3 re3 _ => ⟨w0, w2, ρ3, κ2, ⟨re3, wf3, c3.e0⟩, ?_⟩
        have k3 := k2.trans (e3.keepsI c2.wf)
        have po3 : PostO p fr w0 w2 H3 D ((m ρ3 κ2).then fun ρ' κ' => loopL (l.drop (i + 1)) _ ρ' κ') := po3
        generalize m ρ3 κ2 = z at po3 ⊢
        cases z with
        | nx ρ' κ' => exact fun w' σ' H' c' k' => ⟨rfl, hlt, w', ρ', κ', c', k3.trans k', po3.weak k'⟩
        | ret v κ' => exact po3
        | exc cl v κ' =>
          cases v with
          | non => exact po3
          | _ => exact po3
        | bad => exact po3⟩
end
end PL
end
section
set_option maxHeartbeats 1000000
namespace PL
open PySem PySem.Spec PyProof.Rows L2 LamX NdefX
section
variable {p : Pl} {fr : Bool} {tgE e a b c : Expr} {me : Rho → Ks → R (Val × Ks)} {ms : Rho → Ks → R (List Val × Ks)} {pos pos' pos2 : Pos} {i j l : Nat} {x y z : Str}
theorem SS_set (hN : p.X.N.Nodup) (hi : p.X.N[i]? = some x) (hx : Loc p.X.env.scope x) (he : SE p e me) (hs : swapsWith e (some (.Name x pos')) pos.line p.X.env = pure false) (hf : p.X.fn x = true ∨ p.X.env.scope.names.lookup x = some .local) :
    SS p fr (.Assign [.Name x pos'] e pos) (fun ρ κ => (me ρ κ).toO fun q => .nx (ρ.set i (some (.val q.1))) q.2) := (ps_set hN hi hx he hs hf).imp (asg_val i)
theorem SS_asg {tg : Tg} (he : SE p e me) (hg : PG p.X tgE (gT p.g.K tg)) (hs : swapsWithSole [tgE] e pos.line p.X.env = pure false) (hw : swappedStores [tgE] e p.X.env = pure none) (h1 : (assignEach [tgE] p.X.env).map (·.2) = [assign tgE p.X.env]) :
    SS p fr (.Assign [tgE] e pos) (fun ρ κ => (me ρ κ).toO fun q => match setTg tg q.1 ρ with
      | some ρ' => .nx ρ' q.2
      | none => .bad) :=
  (ps_asg he hg hs hw h1).imp fun D σ H ⟨w0, w, ρ, κ, c0, po⟩ => ⟨w, ρ, κ, c0.re, c0.wf, PostO.bind c0 po fun w1 H1 v κ1 x wf1 e1 rv po1 => by
    have po1 : PostO p fr w0 w1 H1 D (match setTg tg v ρ with
      | some ρ' => .nx ρ' κ1
      | none => .bad) := po1
    cases et : setTg tg v ρ with
    | none => rw [et] at po1; exact po1.elim
    | some ρ' =>
      rw [et] at po1
      have c1 := c0.step e1 wf1
      exact gT_of wf1 et c1.re rv fun σ' re' _ => po1 w1 σ' H1 ⟨re', wf1, c1.e0⟩ .refl⟩
theorem par2 (i j : Nat) : ∀ D σ H, tS p fr (fun ρ κ => (ms ρ κ).toO fun q => match parR [(i, false), (j, false)] q.1 ρ with
    | some ρ' => .nx ρ' q.2
    | none => .bad) D σ H → tPar i j (tG p (rVs p.g) ms) D σ H :=
  fun D σ H ⟨w0, w, ρ, κ, c0, po⟩ => ⟨w, ρ, κ, c0.re, c0.wf, PostO.bind c0 po fun w1 H1 v κ1 x wf1 e1 rv po1 => by
    have c1 := c0.step e1 wf1
    cases rv with
    | nil => exact po1.elim
    | cons r1 rt =>
      cases rt with
      | nil => exact po1.elim
      | cons r2 rt =>
        cases rt with
        | nil => exact ⟨_, _, rfl, po1 w1 _ H1 ⟨(c1.re.setV r1).setV r2, wf1, c1.e0⟩ .refl⟩
        | cons _ _ => exact po1.elim⟩
theorem par3 (i j l : Nat) : ∀ D σ H, tS p fr (fun ρ κ => (ms ρ κ).toO fun q => match parR [(i, false), (j, false), (l, false)] q.1 ρ with
    | some ρ' => .nx ρ' q.2
    | none => .bad) D σ H → tPar3 i j l (tG p (rVs p.g) ms) D σ H :=
  fun D σ H ⟨w0, w, ρ, κ, c0, po⟩ => ⟨w, ρ, κ, c0.re, c0.wf, PostO.bind c0 po fun w1 H1 v κ1 x wf1 e1 rv po1 => by
    have c1 := c0.step e1 wf1
    cases rv with
    | nil => exact po1.elim
    | cons r1 rt =>
      cases rt with
      | nil => exact po1.elim
      | cons r2 rt =>
        cases rt with
        | nil => exact po1.elim
        | cons r3 rt =>
          cases rt with
          | nil => exact ⟨_, _, _, rfl, po1 w1 _ H1 ⟨((c1.re.setV r1).setV r2).setV r3, wf1, c1.e0⟩ .refl⟩
          | cons _ _ => exact po1.elim⟩
theorem SS_par2 {px py pt : Pos} {kt k2 : Nat} {pt2 : Pos} (hc : p.X.calm = true) (hN : p.X.N.Nodup) (hi : p.X.N[i]? = some x) (hj : p.X.N[j]? = some y) (hij : i ≠ j) (hx : p.X.env.scope.names.lookup x = some .local) (hy : p.X.env.scope.names.lookup y = some .local) (ha : SEs p [a, b] ms)
    (hw : swappedStores [.Tuple [.Name x px, .Name y py] kt pt] (.Tuple [a, b] k2 pt2) p.X.env = pure (some [x, y])) (hs : swapsWithSole [.Tuple [.Name x px, .Name y py] kt pt] (.Tuple [a, b] k2 pt2) pos.line p.X.env = pure false) :
    SS p fr (.Assign [.Tuple [.Name x px, .Name y py] kt pt] (.Tuple [a, b] k2 pt2) pos) (fun ρ κ => (ms ρ κ).toO fun q => match parR [(i, false), (j, false)] q.1 ρ with
    | some ρ' => .nx ρ' q.2
    | none => .bad) := (ps_par hc hN hi hj hij hx hy ha hw hs).imp (par2 i j)
theorem SS_par3 {px py pz pt : Pos} {kt k2 : Nat} {pt2 : Pos} (hc : p.X.calm = true) (hN : p.X.N.Nodup) (hi : p.X.N[i]? = some x) (hj : p.X.N[j]? = some y) (hl : p.X.N[l]? = some z) (hij : i ≠ j) (hil : i ≠ l) (hjl : j ≠ l) (hx : p.X.env.scope.names.lookup x = some .local) (hy : p.X.env.scope.names.lookup y = some .local) (hz : p.X.env.scope.names.lookup z = some .local) (ha : SEs p [a, b, c] ms)
    (hw : swappedStores [.Tuple [.Name x px, .Name y py, .Name z pz] kt pt] (.Tuple [a, b, c] k2 pt2) p.X.env = pure (some [x, y, z])) (hs : swapsWithSole [.Tuple [.Name x px, .Name y py, .Name z pz] kt pt] (.Tuple [a, b, c] k2 pt2) pos.line p.X.env = pure false) :
    SS p fr (.Assign [.Tuple [.Name x px, .Name y py, .Name z pz] kt pt] (.Tuple [a, b, c] k2 pt2) pos) (fun ρ κ => (ms ρ κ).toO fun q => match parR [(i, false), (j, false), (l, false)] q.1 ρ with
    | some ρ' => .nx ρ' q.2
    | none => .bad) := (ps_par3 hc hN hi hj hl hij hil hjl hx hy hz ha hw hs).imp (par3 i j l)
/-! ### a cell is written -/
theorem Keeps.updM {g : Gx} {w : Wd} {κ : Ks} {H : Hp} (wf : WF g w κ H) {a : Addr} (nI : ¬ w.I a) {xs : List V} (h : H a = some (.lst xs)) (ys : List V) : Keeps w.I w.I w.μ w.μ H (upd H a (.lst ys)) := by
  have ne : ∀ {b o}, H b = some o → (∀ zs, o ≠ .lst zs) → upd H a (.lst ys) b = some o := fun {b o} q n => by
    rw [upd_ne (fun z => by rw [z, h] at q; cases q; exact n xs rfl)]; exact q
  exact ⟨fun _ z => z, fun _ _ z => z, fun b o j q => by rw [upd_ne (fun z => nI (by rw [← z]; exact j))]; exact q, fun b zs q => ne q (by intro _ z; cases z), fun b o u q => ne q (by intro _ z; cases z)⟩
theorem RX1.updM {g : Gx} {w : Wd} {H : Hp} {a : Addr} {xs ys : List V} (h : H a = some (.lst xs)) (kp : Keeps w.I w.I w.μ w.μ H (upd H a (.lst ys))) {k : Nat} {caps : List Val} {x : V} (r : RX1 g w H k caps x) : RX1 g w (upd H a (.lst ys)) k caps x := by
  have ne : ∀ {b φ}, H b = some (.ext φ) → upd H a (.lst ys) b = some (.ext φ) := fun {b φ} q => by
    rw [upd_ne (fun z => by rw [z, h] at q; cases q)]; exact q
  cases r with
  | mk h0 o oc fr cc all inj vs r => exact .mk h0 (ne o) (ne oc) fr (fun q hq => ⟨(cc q hq).1, ne (cc q hq).2.1, (cc q hq).2.2⟩) all inj vs (r.keeps kp)
theorem RXs.updM {g : Gx} {w : Wd} {H : Hp} {a : Addr} {xs ys : List V} (h : H a = some (.lst xs)) (kp : Keeps w.I w.I w.μ w.μ H (upd H a (.lst ys))) : ∀ {l : List (Nat × List Val)} {zs : List V}, RXs g w H l zs → RXs g w (upd H a (.lst ys)) l zs
  | _, _, .nil => .nil
  | _, _, .cons r t => .cons (r.updM h kp) (RXs.updM h kp t)
theorem RX.updM {g : Gx} {w : Wd} {H : Hp} {a : Addr} {xs ys : List V} (h : H a = some (.lst xs)) (kp : Keeps w.I w.I w.μ w.μ H (upd H a (.lst ys))) : ∀ {v : Ex} {z : V}, RX g w H v z → RX g w (upd H a (.lst ys)) v z
  | _, _, .one r => .one (r.updM h kp)
  | _, _, .many j q r => .many j (kp.l _ _ j q) (RXs.updM h kp r)
theorem RL1.updM {g : Gx} {X : Cx} {H : Hp} {a : Addr} {xs ys : List V} (h : H a = some (.lst xs)) {k : Nat × List Nat} {x : V} (r : RL1 g X H k x) : RL1 g X (upd H a (.lst ys)) k x := by
  have ne : ∀ {b φ}, H b = some (.ext φ) → upd H a (.lst ys) b = some (.ext φ) := fun {b φ} q => by
    rw [upd_ne (fun z => by rw [z, h] at q; cases q)]; exact q
  cases r with
  | mk h0 o oc c only => exact .mk h0 (ne o) (ne oc) c only
theorem RLs.updM {g : Gx} {X : Cx} {H : Hp} {a : Addr} {xs ys : List V} (h : H a = some (.lst xs)) : ∀ {l : List (Nat × List Nat)} {zs : List V}, RLs g X H l zs → RLs g X (upd H a (.lst ys)) l zs
  | _, _, .nil => .nil
  | _, _, .cons r t => .cons (r.updM h) (RLs.updM h t)
/-- a list that is no name's own is written -/
theorem SlotOk.updM {g : Gx} {X : Cx} {b : Bool} {w : Wd} {H : Hp} {σ : L2.St} {i : Nat} {a : Addr} {xs ys : List V} (h : H a = some (.lst xs)) (kp : Keeps w.I w.I w.μ w.μ H (upd H a (.lst ys))) (no : ∀ c l, SlotOk g X b w H σ i (.own l) → σ[i]? = some (some (.ref c)) → c ≠ a) : ∀ {sl : Slot}, SlotOk g X b w H σ i sl → SlotOk g X b w (upd H a (.lst ys)) σ i sl
  | .val _, ⟨x, h1, h2⟩ => ⟨x, h1, h2.keeps kp⟩
  | .own l, ⟨c, zs, h1, h2, h3, h4, h5, h6⟩ => ⟨c, zs, h1, by rw [upd_ne (no c l ⟨c, zs, h1, h2, h3, h4, h5, h6⟩ h1)]; exact h2, h3.keeps kp, h4, h5, h6⟩
  | .cls _, .inl z => .inl z
  | .cls _, .inr ⟨c, zs, h1, h2, h3, h4⟩ => .inr ⟨c, zs, h1, h2, kp.l _ _ h2 h3, RLs.updM h h4⟩
  | .ext _, ⟨x, h1, h2⟩ => ⟨x, h1, RX.updM h kp h2⟩
  | .pin, h => h
theorem cell_upd {w0 w : Wd} {ρ : Rho} {κ : Ks} {σ : L2.St} {H : Hp} (c : Cur p w0 w ρ κ σ H) {k : Nat} {a : Addr} {l l2 : List Val} {xs ys : List V} (hk : κ[k]? = some (.lst l)) (hm : w.μ[k]? = some a) (h : H a = some (.lst xs)) (r : RVs p.g w.I w.μ H l2 ys) :
    Cur p w0 w ρ (κ.set k (.lst l2)) σ (upd H a (.lst ys)) ∧ Keeps w.I w.I w.μ w.μ H (upd H a (.lst ys)) := by
  have ha := List.mem_of_getElem? hm
  have nI : ¬ w.I a := c.wf.dis a ha
  have kp := Keeps.updM c.wf nI h ys
  refine ⟨⟨⟨c.re.len, fun i sl hi => ?_, c.re.apart⟩, ⟨by rw [List.length_set]; exact c.wf.len, fun i b hb => ?_, c.wf.nd, c.wf.dis, fun b z => ?_, fun q hq => ?_⟩, c.e0.I, c.e0.new, c.e0.mu, fun b o hb nb nt => ?_, fun b q => ?_⟩, kp⟩
  · refine SlotOk.updM h kp (fun c' l' s1 s2 z => ?_) (c.re.at_ i sl hi)
    obtain ⟨c2, zs, q1, q2, q3, q4, q5, _⟩ := s1
    rw [s2] at q1
    cases q1
    rw [z] at q5
    exact q5 ha
  · by_cases e : k = i
    · subst e
      rw [hm] at hb
      cases hb
      have hlt := (List.getElem?_eq_some_iff.mp hk).1
      exact ⟨l2, ys, List.getElem?_set_self hlt, upd_same, r.keeps kp⟩
    · obtain ⟨l', zs, h1, h2, h3⟩ := c.wf.at_ i b hb
      refine ⟨l', zs, by rw [List.getElem?_set_ne e]; exact h1, ?_, h3.keeps kp⟩
      rw [upd_ne (fun z => e ?_)]
      · exact h2
      · rw [z] at hb
        exact c.wf.nd k i a hm hb
  · obtain ⟨zs, q⟩ := c.wf.dom b z
    exact ⟨zs, kp.l _ _ z q⟩
  · obtain ⟨ps, h1, h2, h3⟩ := c.wf.tab q hq
    refine ⟨ps, by rw [upd_ne (fun z => by rw [z, h] at h1; cases h1)]; exact h1, h2, fun pos cv hc => ?_⟩
    obtain ⟨cc, e1, e2⟩ := h3 pos cv hc
    exact ⟨cc, e1, by rw [upd_ne (fun z => by rw [z, h] at e2; cases e2)]; exact e2⟩
  · have ne : b ≠ a := fun z => by
      obtain ⟨t, e1, e2⟩ := c.e0.mu
      rw [e1] at ha
      rcases List.mem_append.mp ha with q | q
      · rw [z] at nb; exact nb q
      · have := e2 a q
        rw [← z, hb] at this; cases this
    rw [upd_ne ne]
    exact c.e0.fr b o hb nb nt
  · unfold upd at q
    split at q
    · cases q
    · exact c.e0.dm b q
theorem SS_cseti {o : Expr} {mo mi : Rho → Ks → R (Val × Ks)} (ho : SE p o mo) (hi : SE p a mi) (he : SE p e me)
    (ha : ∀ v, assign (.Subscript o a pos) p.X.env v = (do
      let ov ← holding [v] (eval o p.X.env)
      let iv ← holding [v, ov] (eval a p.X.env)
      standAt pos
      holding [v, ov, iv] (setItem ov iv v)
      release [v, ov, iv] []))
    (hs : swapsWithSole [.Subscript o a pos] e pos2.line p.X.env = pure false) (hw : swappedStores [.Subscript o a pos] e p.X.env = pure none) (h1 : (assignEach [.Subscript o a pos] p.X.env).map (·.2) = [assign (.Subscript o a pos) p.X.env]) :
    SS p fr (.Assign [.Subscript o a pos] e pos2) (fun ρ κ => (me ρ κ).toO fun v => (mo ρ v.2).toO fun b => (mi ρ b.2).toO fun q => match b.1, q.1 with
      | .cell k, .int n => match q.2[k]? with
        | some (.lst l) => match L2.ixN l.length n with
          | some j => .nx ρ (q.2.set k (.lst (l.set j v.1)))
          | none => .bad
        | _ => .bad
      | _, _ => .bad) :=
  (ps_asg he (pg_sub ho hi set_list ha) hs hw h1).imp fun D σ H ⟨w0, w, ρ, κ, c0, po⟩ => ⟨w, ρ, κ, c0.re, c0.wf, PostO.bind c0 po fun w1 H1 v κ1 x wf1 e1 rv po1 => by
    have c1 := c0.step e1 wf1
    refine ⟨w1, ρ, κ1, c1.re, wf1, PostO.bind c1 po1 fun w2 H2 b κ2 y wf2 e2 rb po2 => ?_⟩
    have c2 := c1.step e2 wf2
    refine ⟨w2, ρ, κ2, c2.re, wf2, PostO.bind c2 po2 fun w3 H3 q κ3 z wf3 e3 rq po3 => ?_⟩
    have c3 := c2.step e3 wf3
    have rv3 := (rv.ext e2 wf1).ext e3 wf2
    have rb3 := rb.ext e3 wf2
    have rq : RV p.g w3.I w3.μ H3 q z := rq
    clear po po1 po2
    cases b with
    | cell k =>
      cases q with
      | int n =>
        cases rb3 with
        | cell hm =>
          cases rq
          obtain ⟨l, xs, hk, h2, h3⟩ := wf3.at_ _ _ hm
          have po3 : PostO p fr w0 w3 H3 D (match κ3[k]? with
            | some (.lst l) => match L2.ixN l.length n with
              | some j => .nx ρ (κ3.set k (.lst (l.set j v)))
              | none => .bad
            | _ => .bad) := po3
          rw [hk] at po3
          have po3 : PostO p fr w0 w3 H3 D (match L2.ixN l.length n with
              | some j => .nx ρ (κ3.set k (.lst (l.set j v)))
              | none => .bad) := po3
          cases hj : L2.ixN l.length n with
          | none => rw [hj] at po3; exact po3.elim
          | some j =>
            rw [hj] at po3
            refine ⟨_, xs, n, j, rfl, rfl, h2, by rw [← h3.length]; exact hj, ?_⟩
            obtain ⟨c4, k4⟩ := cell_upd c3 hk hm h2 (RVs.set j rv3 h3)
            exact po3 w3 σ _ c4 k4
      | _ => exact po3.elim
    | _ => exact po3.elim⟩
theorem SS_raise {x m : Str} {jj k : Nat} {pp p2 : Pos} {bmB : List Value} {B newId initId : String} (hc : p.X.calm = true) (tk : L2N.Takes p.X p.W) (F : ExcBaseFacts B newId initId bmB) (q : PySem.W.excIn p.X.K (p.clA k) bmB newId = true) (gC : p.X.mg x = some (.ref (p.clA k))) (kC : PySem.W.keepIn p.X.K (.ref (p.clA k)) = true) (r : Raises p.X (.ref (p.clA k))) (hg : Gl p.X x)
    (hdb : (x == ("__debug__" : Str)) = false) : SS p fr (.Raise (some (.Call (.Name x pp) [.Constant (.str m) jj p2] [] pos)) none pos') (fun ρ κ => .exc k .non κ) :=
  (L2N.ps_raise hc tk (L2N.pmk_own F q gC kC r hg hdb)).imp fun D σ H ⟨w0, w, ρ, κ, c0, po⟩ => po σ w H c0.e0 c0.wf
end
/-! ### a def by its body -/
/-- the body's place -/
def defPl (g : Gx) (clA : Nat → Addr) (P : Program) (W : World) (mg : Str → Option Value) (base : Heap) (N : List Str) (qual : Str) (scope : Scope) (f : Addr) (cd : Value) (A : Around) (outer : List Env) (s : Shared) (H : Hp) (E : XK) : Pl :=
  ⟨g, clA, cxOf (L2N.CX P W) P W g.K mg base N qual scope f cd A outer s H E, fun c d _ H' => E c d H', false⟩
theorem takes_def {g : Gx} {clA : Nat → Addr} {P : Program} {W : World} {mg : Str → Option Value} {base : Heap} {N : List Str} {qual : Str} {scope : Scope} {f : Addr} {cd : Value} {A : Around} {outer : List Env} {s : Shared} {H : Hp} {E : XK} :
    L2N.Takes (defPl g clA P W mg base N qual scope f cd A outer s H E).X (defPl g clA P W mg base N qual scope f cd A outer s H E).W := L2N.takes_of rfl rfl rfl rfl
theorem owns_def {g : Gx} {clA : Nat → Addr} {P : Program} {W : World} {mg : Str → Option Value} {base : Heap} {N : List Str} {qual : Str} {scope : Scope} {f : Addr} {cd : Value} {A : Around} {outer : List Env} {s : Shared} {H : Hp} {E : XK} :
    PassesOwn (model (defPl g clA P W mg base N qual scope f cd A outer s H E).X.prog (defPl g clA P W mg base N qual scope f cd A outer s H E).X.w) (defPl g clA P W mg base N qual scope f cd A outer s H E).X.A (defPl g clA P W mg base N qual scope f cd A outer s H E).X.env (defPl g clA P W mg base N qual scope f cd A outer s H E).X.xe := L2.passes_of rfl
theorem takes_lam {g : Gx} {clA : Nat → Addr} {P : Program} {W : World} {mg : Str → Option Value} {base : Heap} {L : LamI} {cl : List (Str × Addr)} {c' f : Addr} {A : Around} {outer : List Env} {s : Shared} {H : Hp} {E : XK} :
    L2N.Takes (lamPl g clA P W mg base L cl c' f A outer s H E).X (lamPl g clA P W mg base L cl c' f A outer s H E).W := L2N.takes_of rfl rfl rfl rfl
/-- a def whose result is a new list -/
def FnF (P : Program) (W : World) (g : Gx) (clA : Nat → Addr) (mg : Str → Option Value) (base : Heap) (d : Nat) (a : Addr) (sem : List Ar → Ks → R (Val × Ks)) : Prop :=
  ∀ (A : Around) (outer : List Env) (s : Shared) (H : Hp) (us : List Value) (vs : List V) (Q : VK) (E : XK) (w : Wd) (args : List Ar) (κ : Ks), Room d A → Env0 P W g.K mg base A outer s H → Vals vs us → WF g w κ H → RAs g w H args vs → Post g clA (rF g H) w H (sem args κ) Q E →
    codeAny (model P W) A (.call (.ref a) ⟨us, []⟩) (CR (L2N.CX P W) outer P W H s Q E) s
theorem RAr.slot {g : Gx} {w : Wd} {H : Hp} {X : Cx} {a : Ar} {x : V} (r : RAr g w H a x) {σ : L2.St} {i : Nat} (h : σ[i]? = some (some x)) : ∃ sl, a.slot = some sl ∧ SlotOk g X false w H σ i sl ∧ ∀ l, sl ≠ .own l := by
  cases r with
  | v r => exact ⟨_, rfl, ⟨x, h, r⟩, fun _ z => nomatch z⟩
  | x r => exact ⟨_, rfl, ⟨x, h, r⟩, fun _ z => nomatch z⟩
theorem RAs.length {g : Gx} {w : Wd} {H : Hp} : ∀ {l : List Ar} {xs : List V}, RAs g w H l xs → l.length = xs.length
  | _, _, .nil => rfl
  | _, _, .cons _ t => by simp [RAs.length t]
theorem RAs.get {g : Gx} {w : Wd} {H : Hp} : ∀ {l : List Ar} {xs : List V} {i : Nat} {a : Ar}, RAs g w H l xs → l[i]? = some a → ∃ x, xs[i]? = some x ∧ RAr g w H a x
  | _, _, _, _, .nil, e => by simp at e
  | _, _, 0, _, .cons r _, e => by simp at e; subst e; exact ⟨_, rfl, r⟩
  | _, _, i + 1, a, .cons _ t, e => by
    obtain ⟨x, h1, h2⟩ := RAs.get (i := i) (a := a) t (by simpa using e)
    exact ⟨x, by simpa using h1, h2⟩
/-- the names at the start -/
theorem re_start {g : Gx} {X : Cx} {w : Wd} {H : Hp} {N : List Str} {args : List Ar} {vs : List V} (r : RAs g w H args vs) (hl : args.length ≤ N.length) : RE g X false w H (args.map Ar.slot ++ List.replicate (N.length - args.length) none) (L2.start N vs) := by
  have hlen := r.length
  have key : ∀ (i : Nat) (sl : Slot), (args.map Ar.slot ++ List.replicate (N.length - args.length) none)[i]? = some (some sl) → SlotOk g X false w H (L2.start N vs) i sl ∧ ∀ l, sl ≠ .own l := fun i sl h => by
    rw [List.getElem?_append] at h
    split at h
    · rename_i hi
      rw [List.length_map] at hi
      rw [List.getElem?_map] at h
      cases e : args[i]? with
      | none => rw [e] at h; cases h
      | some a =>
        rw [e] at h
        have h : some a.slot = some (some sl) := h
        obtain ⟨x, hx, ra⟩ := r.get e
        obtain ⟨sl', h1, h2, h3⟩ := ra.slot (X := X) (σ := L2.start N vs) (i := i) (by
          unfold L2.start
          rw [List.getElem?_append_left (by rw [List.length_map, ← hlen]; exact hi), List.getElem?_map, hx]
          rfl)
        rw [h1] at h
        cases h
        exact ⟨h2, h3⟩
    · rw [List.getElem?_replicate] at h
      split at h <;> cases h
  refine ⟨?_, fun i sl h => (key i sl h).1, fun i j l m a h1 _ _ _ => absurd rfl ((key i _ h1).2 l)⟩
  unfold L2.start
  simp [hlen]
section
variable {P : Program} {W : World} {g : Gx} {clA : Nat → Addr} {mg : Str → Option Value} {base : Heap} {d : Nat} {x qual : Str} {params : Arguments} {body : List Stmt} {scope : Scope} {kws : List (Str × V)} {f : Addr} {fd : FuncData} {N ps : List Str} {m : Rho → Ks → O} {sem : List Ar → Ks → R (Val × Ks)}
theorem binds_here (F : FunD g.K x qual params body scope [] kws f fd) (hb : ∀ (kV doc pm : Value) (an : Option Addr) (cdv ct : Value) (us : List Value), us.length = ps.length → bindArgs (PySem.W.fnOf x qual params body scope .none kV doc pm an cdv ct) ⟨us, []⟩ = pure (ps.zip us))
    {A : Around} {outer : List Env} {s : Shared} {H : Hp} {us : List Value} {vs : List V} (e0 : Env0 P W g.K mg base A outer s H) (rv : Vals vs us) (hl : vs.length = ps.length) : BindsTo s fd ⟨us, []⟩ (ps.zip us) := by
  have KX : g.K.In s.heap := e0.mod.kin.keeps fun b o e => (e0.bs b o e).1
  have hbt := (F.bindsN hb) s us KX (by rw [List.append_nil, ← rv.length]; exact hl)
  rw [List.append_nil] at hbt
  exact hbt
theorem fn_any {fr : Bool} (F : FunD g.K x qual params body scope [] kws f fd) (S : FnScope N ps scope)
    (hbody : ∀ cd A outer s H E, PySem.W.codeIn g.K cd qual = true → (∃ fd2 o, fd2.code = cd ∧ g.K.lookup f = some o ∧ o.data = .func fd2) → Room d (A.deeper (envOfC qual scope s.heap.objs.size f cd)) → SSs (defPl g clA P W mg base N qual scope f cd A outer s H E) fr body m)
    (hs : ∀ args κ, sem args κ = if args.length = ps.length then (m (args.map Ar.slot ++ List.replicate (N.length - args.length) none) κ).fin else .bad)
    {A : Around} {outer : List Env} {s : Shared} {H : Hp} {us : List Value} {vs : List V} {Q : VK} {E : XK} {w : Wd} {args : List Ar} {argv : Args} {κ : Ks} (hr : Room (d + 1) A) (e0 : Env0 P W g.K mg base A outer s H) (hbt : vs.length = ps.length → BindsTo s fd argv (ps.zip us)) (rv : Vals vs us) (wf : WF g w κ H) (ra : RAs g w H args vs)
    (po : Post g clA (fun w' H' v x => if fr = true then rF g H w' H' v x else RV g w'.I w'.μ H' v x) w H (sem args κ) Q E) (hn : fr = true → ∀ ρ κ', m (args.map Ar.slot ++ List.replicate (N.length - args.length) none) κ ≠ .nx ρ κ') :
    codeAny (model P W) A (.call (.ref f) argv) (CR (L2N.CX P W) outer P W H s Q E) s := by
  obtain ⟨oc, od, dV, kV, doc, pm, an, cdv, ct, osl, rfl, lk, hcd, hD, hK⟩ := F.ex
  rw [hs] at po
  by_cases hl : args.length = ps.length
  case neg => rw [if_neg hl] at po; exact po.elim
  rw [if_pos hl] at po
  have hlv : vs.length = ps.length := by rw [← ra.length]; exact hl
  have hN : args.length ≤ N.length := by
    have q := congrArg List.length S.pre
    rw [List.length_take] at q
    omega
  refine run_ofS (CX := L2N.CX P W) (N := N) lk hcd S hr e0 (hbt hlv) rv hlv fun hr' => ⟨_, hbody cdv A outer s H E hcd ⟨_, _, rfl, lk, rfl⟩ hr', w, w, _, κ, ⟨re_start ra hN, wf, Ext.refl w H⟩, ?_⟩
  generalize hm : m (args.map Ar.slot ++ List.replicate (N.length - args.length) none) κ = z at po hn ⊢
  cases z with
  | nx ρ' κ' =>
    intro w' σ' H' c _
    cases fr with
    | true => exact absurd rfl (hn rfl ρ' κ')
    | false => exact po .non w' H' c.e0 c.wf .non
  | ret v κ' =>
    intro x w' H' e1 wf1 r1
    exact po x w' H' e1 wf1 r1
  | exc c v κ' =>
    cases v with
    | non => exact fun σ' w' H' e1 wf1 => po w' H' e1 wf1
    | _ => exact po.elim
  | bad => exact po.elim
theorem fnS_of (F : FunD g.K x qual params body scope [] kws f fd) (S : FnScope N ps scope) (hb : ∀ (kV doc pm : Value) (an : Option Addr) (cdv ct : Value) (us : List Value), us.length = ps.length → bindArgs (PySem.W.fnOf x qual params body scope .none kV doc pm an cdv ct) ⟨us, []⟩ = pure (ps.zip us))
    (hbody : ∀ cd A outer s H E, PySem.W.codeIn g.K cd qual = true → (∃ fd2 o, fd2.code = cd ∧ g.K.lookup f = some o ∧ o.data = .func fd2) → Room d (A.deeper (envOfC qual scope s.heap.objs.size f cd)) → SSs (defPl g clA P W mg base N qual scope f cd A outer s H E) false body m)
    (hs : ∀ args κ, sem args κ = if args.length = ps.length then (m (args.map Ar.slot ++ List.replicate (N.length - args.length) none) κ).fin else .bad) : FnS P W g clA mg base (d + 1) f sem :=
  fun A outer s H us vs Q E w args κ hr e0 rv wf ra po => fn_any (fr := false) F S hbody hs hr e0 (binds_here F hb e0 rv) rv wf ra po fun z => nomatch z
theorem fnF_of (F : FunD g.K x qual params body scope [] kws f fd) (S : FnScope N ps scope) (hb : ∀ (kV doc pm : Value) (an : Option Addr) (cdv ct : Value) (us : List Value), us.length = ps.length → bindArgs (PySem.W.fnOf x qual params body scope .none kV doc pm an cdv ct) ⟨us, []⟩ = pure (ps.zip us))
    (hbody : ∀ cd A outer s H E, PySem.W.codeIn g.K cd qual = true → (∃ fd2 o, fd2.code = cd ∧ g.K.lookup f = some o ∧ o.data = .func fd2) → Room d (A.deeper (envOfC qual scope s.heap.objs.size f cd)) → SSs (defPl g clA P W mg base N qual scope f cd A outer s H E) true body m)
    (hs : ∀ args κ, sem args κ = if args.length = ps.length then (m (args.map Ar.slot ++ List.replicate (N.length - args.length) none) κ).fin else .bad) (hn : ∀ ρ κ ρ' κ', m ρ κ ≠ .nx ρ' κ') : FnF P W g clA mg base (d + 1) f sem :=
  fun A outer s H us vs Q E w args κ hr e0 rv wf ra po => fn_any (fr := true) F S hbody hs hr e0 (binds_here F hb e0 rv) rv wf ra po fun _ ρ κ' => hn _ _ ρ κ'
end
theorem FnS.mono {P : Program} {W : World} {g : Gx} {clA : Nat → Addr} {mg : Str → Option Value} {base : Heap} {d d' : Nat} {a : Addr} {sem : List Ar → Ks → R (Val × Ks)} (h : FnS P W g clA mg base d a sem) (hd : d ≤ d') : FnS P W g clA mg base d' a sem :=
  fun A outer s H us vs Q E w args κ hr => h A outer s H us vs Q E w args κ (hr.mono hd)
/-! ### a call that makes a new list: arguments are values -/
def AllV : List Ar → Prop
  | [] => True
  | .v _ :: l => AllV l
  | .x _ :: _ => False
theorem ros_v {g : Gx} {X : Cx} {ρ : Rho} {w : Wd} {H : Hp} : ∀ {args : List Ar} {xs : List V}, ROs g X ρ w H args xs → AllV args → RAs g w H args xs
  | _, _, .nil, _ => .nil
  | _, _, .cons (.v r) t, h => .cons (.v r) (ros_v t h)
  | _, _, .cons (.x _) _, h => h.elim
  | _, _, .cons (.many _ _ _ _ _) _, h => h.elim
  | _, _, .cons (.one _ _ _) _, h => h.elim
theorem FE_call {p : Pl} {d : Nat} {a : Addr} {x : Str} {e : Expr} {es : List Expr} {n : Rho → Ks → R (List Ar × Ks)} {np pos : Pos} {sem : List Ar → Ks → R (Val × Ks)} (F : FnF p.X.prog p.X.w p.g p.clA p.X.mg p.X.base d a sem) (hK : p.X.K = p.g.K) (hr : Room d p.X.A) (tk : L2N.Takes p.X p.W) (hg : Gl p.X x) (hm : p.X.mg x = some (.ref a)) (hk : PySem.W.keepIn p.X.K (.ref a) = true)
    (ha : SA p (e :: es) n) (hv : ∀ ρ κ q, n ρ κ = .ok q → AllV q.1) (hdb : (x == ("__debug__" : Str)) = false) (he : starEach (e :: es) p.X.env = (false, eval e p.X.env) :: starEach es p.X.env) (hpl : (backTo pos (starEach es p.X.env)).any (·.1) = false) :
    FE p (.Call (.Name x np) (e :: es) [] pos) (fun ρ κ => (n ρ κ).bind fun q => sem q.1 q.2) := by
  refine ⟨fun pins s σ H Q I ⟨w, ρ, κ, re, wf, po⟩ => wpAny_Call_Name_kw (ld_glob I hg hm ?_ hdb)⟩
  refine PySem.W.callWith_K (h₀ := p.X.base) I.ok.mod.kin hk (thn (ha.run pos pins s σ H (fun vs H1 => ∃ w1 κ1 args, Ext w H w1 H1 ∧ WF p.g w1 κ1 H1 ∧ RAs p.g w1 H1 args vs ∧ Post p.g p.clA (rF p.g H) w1 H1 (sem args κ1) Q (fun c d H' => p.W c d σ H')) I
    ⟨w, ρ, κ, re, wf, ?_⟩) fun us s1 ⟨vs, H1, I1, r, w1, κ1, args, ex, wf1, rl, po1⟩ => ⟨I1.kIn, ?_⟩) he hpl
  · have po : Post p.g p.clA (rF p.g H) w H ((n ρ κ).bind fun q => sem q.1 q.2) Q (fun c d H' => p.W c d σ H') := po
    have hv := hv ρ κ
    generalize n ρ κ = z at po hv ⊢
    cases z with
    | ok q =>
      intro xs w1 H1 e1 wf1 rl
      refine ⟨w1, q.2, q.1, e1, wf1, ros_v rl (hv q rfl), ?_⟩
      have po : Post p.g p.clA (rF p.g H) w H (sem q.1 q.2) Q (fun c d H' => p.W c d σ H') := po
      generalize sem q.1 q.2 = z2 at po ⊢
      cases z2 with
      | ok q2 => exact fun y w2 H2 e2 => po y w2 H2 (e1.trans e2)
      | exc c v κ' =>
        cases v with
        | non => exact fun w2 H2 e2 => po w2 H2 (e1.trans e2)
        | _ => exact po
      | bad => exact po
    | exc c v κ' =>
      cases v with
      | non => exact po
      | _ => exact po
    | bad => exact po
  · show wpAny _ _ (call (.ref a) us) _ _ _
    have e0 := I1.env0
    rw [hK] at e0
    have po2 : Post p.g p.clA (rF p.g H1) w1 H1 (sem args κ1) Q (fun c d H' => p.W c d σ H') := by
      refine Post.weak (p := p) po1 fun w' H' κ' v x _ r => ?_
      obtain ⟨l, b, xs, h1, h2, hn, r⟩ := r
      exact ⟨l, b, xs, h1, h2, ex.dm b hn, r⟩
    refine wpAny_call (codeAny_mono (F p.X.A p.X.stack s1 H1 us vs Q (fun c d H' => p.W c d σ H') w1 args κ1 hr e0 r wf1 rl po2) fun r s' hq => ?_)
    cases r with
    | error e => exact tk _ _ (L2N.XE.of_call (E := fun c d H' => p.W c d σ H') I1 (fun _ _ _ z => z) hq)
    | ok fl =>
      cases fl with
      | ret u => exact I1.after hq
      | next => exact False.elim hq
      | brk => exact False.elim hq
      | cont => exact False.elim hq
end PL
end
section
set_option maxHeartbeats 1000000
/-! Comprehensions while an exception is handled. -/
namespace PL
open PySem PySem.Spec PyProof.Rows L2 LamX NdefX HotX F
section
variable {prog : Program} {w : World} {A : Around} {E : Value → Shared → Prop} {s : Shared} {hx : Addr}
/-- the end's exception is made and chained -/
theorem stop_hot {α : Type} {s : Shared} {Q : α → Shared → Prop} (hot : HotAt A hx s.heap) (k : ∀ g r, (∀ b o, s.heap.get? b = some o → g.get? b = some o) → (∃ o, g.get? r = some o ∧ o.cls = .type "StopIteration") → E (.ref r) { s with heap := g }) :
    wpAny (model prog w) A (newExc (.type "StopIteration") [] >>= fun e => (raiseNew e : Sem α)) Q E s := by
  obtain ⟨hh, o1, fs, g1, d1, c1⟩ := hot
  refine wpAny_bind ?_
  simp only [newExc, newTuple]
  refine wpAny_bind (wpAny_newObj_type ?_ (by size_fits))
  refine wpAny_bind (m := firstArgMember _ _) (wpAny_of_eq (a := Value.none) (by first | rfl | (simp only [firstArgMember]; rfl)) ?_)
  refine wpAny_newObj_type ?_ (by size_fits)
  have g2 := Heap.get?_push_of_some ({ cls := .type "tuple", data := .seq ([] : List Value).toArray } : Obj) g1
  refine raiseNew_hot ⟨hh, o1, fs, Heap.get?_push_of_some _ g2, d1, c1⟩ (Nat.ne_of_lt (Heap.lt_size g2)) (Heap.get?_push_size _ rfl) rfl (by first | (simp; done) | (simp; omega) | (simp only [Array.size_append]; simp; omega)) ?_
  refine k _ _ (fun b o e => ?_) ⟨_, Heap.get?_update_self _ (Heap.get?_push_size _ rfl) rfl, rfl⟩
  have e2 := Heap.get?_push_of_some ({ cls := .type "tuple", data := .seq ([] : List Value).toArray } : Obj) e
  rw [Heap.get?_update_other _ _ (Nat.ne_of_gt (Heap.lt_size e2))]
  exact Heap.get?_push_of_some _ e2
theorem hot_but {q : Addr} {g : Heap} (hot : HotAt A hx s.heap) (n : hx ≠ q) (k : Heap.SameBut q s.heap g) : HotAt A hx g := by
  obtain ⟨hh, o1, fs, g1, d1, c1⟩ := hot
  exact ⟨hh, o1, fs, k.extBut _ _ n g1, d1, c1⟩
theorem hot_ne {q : Addr} {o : Obj} {n : String} {vs : Array Value} (hot : HotAt A hx s.heap) (g : s.heap.get? q = some o) (hd : o.data = .fields vs) (h2 : vs[2]? ≠ some .none) : hx ≠ q := fun z => by
  obtain ⟨hh, o1, fs, g1, d1, c1⟩ := hot
  rw [z, g] at g1
  cases g1
  rw [hd] at d1
  cases d1
  exact h2 c1
/-- a list's iterator, at its end -/
theorem lend_hot {q l0 : Addr} {n : Nat} {us : Array Value} {Q : Value → Shared → Prop} (hot : HotAt A hx s.heap) (ne : hx ≠ q) (st : s.heap.IsListIter q l0 n) (hl : s.heap.IsList l0 us) (none_ : us[n]? = none)
    (k : ∀ g r, Heap.ExtBut q s.heap g → (∃ o, g.get? r = some o ∧ o.cls = .type "StopIteration") → E (.ref r) { s with heap := g }) : wpAny (model prog w) A (Builtin.SmallTypes.nextOf (.ref q)) Q E s := by
  obtain ⟨oq, gq, cq, dq⟩ := id st
  obtain ⟨ol, gl, _, nl, dl⟩ := hl
  unfold Builtin.SmallTypes.nextOf
  refine wpAny_bind (wpAny_callSpecial?_slot (name := Str.ofString "__next__") st.typeIs slot_listiter_next (wpAny_call_entry slot_listiter_next st.typeIs entry_listiter_next ?_ (args_listiter_next _)))
  show wpAny _ _ (field (.ref q) 0 >>= _) _ _ s
  refine wpAny_bind (wpAny_field gq dq (x := .ref l0) rfl ?_)
  show wpAny _ _ (if (Value.ref l0 == Value.none) = true then _ else _) _ _ s
  rw [if_neg (show ¬ ((Value.ref l0 == Value.none) = true) from Bool.false_ne_true)]
  show wpAny _ _ (field (.ref q) 1 >>= _) _ _ s
  refine wpAny_bind (wpAny_field gq dq (x := .int n 0) rfl ?_)
  show wpAny _ _ (seqItems? (.ref l0) >>= _) _ _ s
  refine wpAny_bind (wpAny_seqItems gl dl ?_)
  simp only [Int.toNat_natCast, none_]
  refine wpAny_bind (wpAny_rule (wpAny_bind (wpAny_setField gq dq (by simp) ?_)))
  have hot2 : HotAt A.in1 hx (s.heap.update q (Obj.mapFields (·.setIfInBounds 0 Value.none))) := by
    obtain ⟨hh, o1, fs, g1, d1, c1⟩ := hot
    exact ⟨hh, o1, fs, (Heap.get?_update_other _ _ (Ne.symm ne)).trans g1, d1, c1⟩
  exact stop_hot (s := { s with heap := s.heap.update q (Obj.mapFields (·.setIfInBounds 0 Value.none)) }) hot2 fun g r kp he => k g r (fun b o hb e => kp b o ((Heap.get?_update_other _ _ (Ne.symm hb)).trans e)) he
/-- a tuple's iterator, at its end -/
theorem tend_hot {q t0 : Addr} {n : Nat} {us : Array Value} {Q : Option Value → Shared → Prop} (hot : HotAt A hx s.heap) (ne : hx ≠ q) (st : IsTupIter s.heap q t0 n) (ht : IsTup s.heap t0 us) (none_ : us[n]? = none)
    (k : ∀ g, Heap.ExtBut q s.heap g → Q none { s with heap := g }) : wpAny (model prog w) A (pyNext (.ref q)) Q E s := by
  obtain ⟨oq, gq, cq, dq⟩ := id st
  obtain ⟨ol, gl, _, nl, dl⟩ := ht
  unfold pyNext
  refine wpAny_bind (wpAny_attempt (wpAny_callSpecial?_slot (name := Str.ofString "__next__") st.typeIs slot_tupleiter_next (wpAny_call_entry slot_tupleiter_next st.typeIs entry_tupleiter_next ?_ (args_tupleiter_next _))))
  show wpAny _ _ (field (.ref q) 0 >>= _) _ _ s
  refine wpAny_bind (wpAny_field gq dq (x := .ref t0) rfl ?_)
  show wpAny _ _ (if (Value.ref t0 == Value.none) = true then _ else _) _ _ s
  rw [if_neg (show ¬ ((Value.ref t0 == Value.none) = true) from Bool.false_ne_true)]
  show wpAny _ _ (field (.ref q) 1 >>= _) _ _ s
  refine wpAny_bind (wpAny_field gq dq (x := .int n 0) rfl ?_)
  show wpAny _ _ (seqItems? (.ref t0) >>= _) _ _ s
  refine wpAny_bind (wpAny_seqItems gl dl ?_)
  simp only [Int.toNat_natCast, none_]
  refine wpAny_bind (wpAny_rule (wpAny_bind (wpAny_setField gq dq (by simp) ?_)))
  have hot2 : HotAt A.in1 hx (s.heap.update q (Obj.mapFields (·.setIfInBounds 0 Value.none))) := by
    obtain ⟨hh, o1, fs, g1, d1, c1⟩ := hot
    exact ⟨hh, o1, fs, (Heap.get?_update_other _ _ (Ne.symm ne)).trans g1, d1, c1⟩
  refine stop_hot (s := { s with heap := s.heap.update q (Obj.mapFields (·.setIfInBounds 0 Value.none)) }) hot2 fun g r kp he => ?_
  refine wpAny_bind (wpAny_isInstance (T := "StopIteration") (b := true) he isSubtype_stop ?_)
  exact wpAny_pure (k g fun b o hb e => kp b o ((Heap.get?_update_other _ _ (Ne.symm hb)).trans e))
theorem unpack_hot {t0 : Addr} {us : Array Value} {Q : List Value → Shared → Prop} (hot : HotAt A hx s.heap) (ht : IsTup s.heap t0 us)
    (k : ∀ g, Heap.ExtBut s.heap.objs.size s.heap g → Q us.toList { s with heap := g }) : wpAny (model prog w) A (unpackItems (.ref t0) us.size none) Q E s := by
  have below : t0 ≠ s.heap.objs.size := by
    obtain ⟨o, g, _⟩ := ht
    exact Nat.ne_of_lt (Heap.lt_size g)
  unfold unpackItems
  refine wpAny_bind ?_
  unfold notIterableAtAll
  refine wpAny_bind (wpAny_specialOf ht.typeIs PyProof.Rows.slot_tuple_iter.lookup (wpAny_pure ?_))
  simp only [Bool.false_eq_true, if_false]
  refine wpAny_bind (wpAny_holding (iter_tuple ht (wpAny_bind (wpAny_holding (draw_tuple below us.size 0 _ _ ⟨_, Heap.get?_push_size _ rfl, rfl, rfl⟩ (ht.push _) (by omega) fun g1 st1 kp1 => ?_)))))
  have whole : List.take us.size (List.drop 0 us.toList) = us.toList := by rw [List.drop_zero, List.take_of_length_le (by simp)]
  rw [whole, if_neg (by simp)]
  have t1 : IsTup g1 t0 us := (ht.push _).extBut kp1.extBut below
  obtain ⟨hh, o1, fs, h1, d1, c1⟩ := hot
  have nx : hx ≠ s.heap.objs.size := Nat.ne_of_lt (Heap.lt_size h1)
  refine wpAny_bind (wpAny_holding (tend_hot (hx := hx) ⟨hh, o1, fs, kp1.extBut _ _ nx (Heap.get?_push_of_some _ h1), d1, c1⟩ nx st1 t1 (by simp) fun g2 kp2 => ?_))
  simp only [Option.isSome_none, Bool.false_eq_true, if_false]
  exact wpAny_pure (k g2 fun b o hb e => kp2 b o hb (kp1.extBut b o hb (Heap.get?_push_of_some _ e)))
/-- zip's iterator, at its end -/
theorem zend_hot {z TI TO i1 i2 l1 l2 : Addr} {k1 k2 : Nat} {us vs : Array Value} {a b : Value} {Q : Option Value → Shared → Prop} (hot : HotAt A hx s.heap) (nz : hx ≠ z) (nO : hx ≠ TO) (n1 : hx ≠ i1) (n2 : hx ≠ i2) (D : ZipApart z TI TO i1 i2 l1 l2)
    (gz : IsZip s.heap z TI TO .none) (gI : IsPair s.heap TI (.ref i1) (.ref i2)) (gO : IsPair s.heap TO a b) (s1 : s.heap.IsListIter i1 l1 k1) (s2 : s.heap.IsListIter i2 l2 k2) (e1 : s.heap.IsList l1 us) (e2 : s.heap.IsList l2 vs)
    (fin : us[k1]? = none ∨ vs[k2]? = none) (k : ∀ g, (∀ c o, c ≠ z → c ≠ TO → c ≠ i1 → c ≠ i2 → s.heap.get? c = some o → g.get? c = some o) → Q none { s with heap := g }) : wpAny (model prog w) A (pyNext (.ref z)) Q E s := by
  have ty : s.TypeIs (.ref z) "zip" := ⟨_, gz, rfl⟩
  unfold pyNext
  refine wpAny_bind (wpAny_attempt (wpAny_callSpecial?_slot (name := Str.ofString "__next__") ty F.slot_zip_next (wpAny_call_entry F.slot_zip_next ty F.entry_zip_next ?_ (F.args_zip_next_1 _))))
  have last : ∀ g r, (∀ c o, c ≠ z → c ≠ TO → c ≠ i1 → c ≠ i2 → s.heap.get? c = some o → g.get? c = some o) → (∃ o, g.get? r = some o ∧ o.cls = .type "StopIteration") →
      wpAny (model prog w) A (do if (← isInstance (.ref r) (.type "StopIteration")) then pure none else throw (.ref r)) Q E { s with heap := g } := fun g r kp he =>
    wpAny_bind (wpAny_isInstance (T := "StopIteration") (b := true) he isSubtype_stop (wpAny_pure (k g kp)))
  show wpAny _ _ (field (.ref z) 2 >>= _) _ _ s
  refine wpAny_bind (wpAny_field gz rfl (x := .bool false) rfl ?_)
  show wpAny _ _ (field (.ref z) 3 >>= _) _ _ s
  refine wpAny_bind (wpAny_field gz rfl (x := .ref TI) rfl (wpAny_bind (wpAny_seqItems gI rfl ?_)))
  show wpAny _ _ (Builtin.SmallTypes.ownedTupleIsFree (.ref z) >>= _) _ _ s
  refine wpAny_bind ?_
  unfold Builtin.SmallTypes.ownedTupleIsFree
  refine wpAny_bind (wpAny_field gz rfl (x := .none) rfl (wpAny_pure ?_))
  simp only [if_true]
  refine wpAny_bind (wpAny_rule (wpAny_bind (wpAny_field gz rfl (x := .ref TO) rfl (wpAny_bind (wpAny_setField_rec gz (by simp) fun g1 gz1 kp1 => ?_)))))
  replace gz1 : IsZip g1 z TI TO .ellipsis := gz1
  have hot1 : HotAt A.in1 hx g1 := hot_but (A := A.in1) hot nz kp1
  refine wpAny_bind ?_
  simp only [List.zipIdx_cons, List.zipIdx_nil, List.forIn_cons, List.forIn_nil]
  refine wpAny_bind (wpAny_bind (wpAny_onRaise ?_))
  show wpAny _ _ (Builtin.SmallTypes.nextOf (.ref i1) >>= _) _ _ _
  cases c1 : us[k1]? with
  | none =>
    refine wpAny_bind (lend_hot (hx := hx) hot1 n1 (s1.extBut kp1.extBut D.i1z) (e1.extBut kp1.extBut D.l1z) c1 fun g2 r kp2 he => ?_)
    obtain ⟨oe, ge, ce⟩ := he
    have gz2 : IsZip g2 z TI TO .ellipsis := kp2 _ _ D.i1z.symm gz1
    have nr : r ≠ z := fun q => by subst q; rw [gz2] at ge; cases ge; simp at ce
    exact wpAny_setField_rec gz2 (by simp) fun g3 _ kp3 => last g3 r (fun c o x1 _ x3 _ q => kp3.extBut _ _ x1 (kp2 _ _ x3 (kp1.extBut _ _ x1 q))) ⟨oe, kp3.extBut _ _ nr ge, ce⟩
  | some x =>
    have c2 : vs[k2]? = none := by
      rcases fin with q | q
      · rw [c1] at q; cases q
      · exact q
    refine wpAny_bind (wpAny_nextOf_list_item (s1.extBut kp1.extBut D.i1z) (e1.extBut kp1.extBut D.l1z) c1 fun g2 _ kp2 => wpAny_pure ?_)
    have gO2 : IsPair g2 TO a b := kp2.extBut _ _ D.TOi1 (kp1.extBut _ _ D.TOz gO)
    refine wpAny_bind (wpAny_seqItems gO2 rfl (wpAny_bind (wpAny_updateSeq_pair gO2 fun g3 _ kp3 => wpAny_bind (wpAny_letGo (wpAny_pure ?_)))))
    have hot3 : HotAt A.in1 hx g3 := hot_but (s := { s with heap := g2 }) (hot_but (s := { s with heap := g1 }) hot1 n1 kp2) nO kp3
    refine wpAny_bind (wpAny_bind (wpAny_onRaise ?_))
    show wpAny _ _ (Builtin.SmallTypes.nextOf (.ref i2) >>= _) _ _ _
    refine wpAny_bind (lend_hot (hx := hx) hot3 n2 (((s2.extBut kp1.extBut D.i2z).extBut kp2.extBut D.i12.symm).extBut kp3.extBut D.TOi2.symm) (((e2.extBut kp1.extBut D.l2z).extBut kp2.extBut D.l2i1).extBut kp3.extBut D.l2TO) c2 fun g4 r kp4 he => ?_)
    obtain ⟨oe, ge, ce⟩ := he
    have gz4 : IsZip g4 z TI TO .ellipsis := kp4 _ _ D.i2z.symm (kp3.extBut _ _ D.TOz.symm (kp2.extBut _ _ D.i1z.symm gz1))
    have nr : r ≠ z := fun q => by subst q; rw [gz4] at ge; cases ge; simp at ce
    exact wpAny_setField_rec gz4 (by simp) fun g5 _ kp5 => last g5 r (fun c o x1 x2 x3 x4 q => kp5.extBut _ _ x1 (kp4 _ _ x4 (kp3.extBut _ _ x2 (kp2.extBut _ _ x3 (kp1.extBut _ _ x1 q))))) ⟨oe, kp5.extBut _ _ nr ge, ce⟩
end

/-! ### the walk over a zip of two lists -/
/-- where an exception is handled, whatever the state -/
def HotX (X : Cx) : Prop := ∃ hx, ∀ (pins : List (Addr × Obj)) (σ : L2.St) (H : Hp) (s : Shared), Inv X pins σ H s → HotAt X.A hx s.heap
structure ZipSt (a b z TI TO i1 i2 : Addr) (n : Nat) (h : Heap) : Prop where
  z : IsZip h z TI TO .none
  i : IsPair h TI (.ref i1) (.ref i2)
  o : ∃ x y, IsPair h TO x y
  l : h.IsListIter i1 a n
  r : h.IsListIter i2 b n
section
variable {X : Cx} {pins : List (Addr × Obj)} {σ : L2.St} {H : Hp} {s : Shared} {a b z TI TO i1 i2 : Addr} {n : Nat} {E : Value → Shared → Prop}
theorem ZipSt.objs (st : ZipSt a b z TI TO i1 i2 n s.heap) : ∀ c ∈ [z, TI, TO, i1, i2], ∃ o, s.heap.get? c = some o ∧ ∀ v, o.data ≠ .cell v := fun c hc => by
  obtain ⟨gz, gI, ⟨x, y, gO⟩, ⟨o1, e1, _, d1⟩, o2, e2, _, d2⟩ := st
  have hc : c = z ∨ c = TI ∨ c = TO ∨ c = i1 ∨ c = i2 := by simpa using hc
  rcases hc with q | q | q | q | q <;> subst q
  · exact ⟨_, gz, fun v q => nomatch q⟩
  · exact ⟨_, gI, fun v q => nomatch q⟩
  · exact ⟨_, gO, fun v q => nomatch q⟩
  · exact ⟨o1, e1, fun v q => by rw [d1] at q; cases q⟩
  · exact ⟨o2, e2, fun v q => by rw [d2] at q; cases q⟩
theorem ZipSt.keep {h h' : Heap} (st : ZipSt a b z TI TO i1 i2 n h) (k : ∀ c ∈ [z, TI, TO, i1, i2], ∀ o, h.get? c = some o → h'.get? c = some o) : ZipSt a b z TI TO i1 i2 n h' := by
  obtain ⟨gz, gI, ⟨x, y, gO⟩, s1, s2⟩ := st
  exact ⟨k z (by simp) _ gz, k TI (by simp) _ gI, ⟨x, y, k TO (by simp) _ gO⟩, s1.at fun o q => k i1 (by simp) o q, s2.at fun o q => k i2 (by simp) o q⟩
/-- one more pair -/
theorem zstep {elts : List Expr} {kk : Nat} {tpos : Pos} (D : ZipApart z TI TO i1 i2 a b) (I : Inv X pins σ H s) (hf : ∀ c ∈ [z, TI, TO, i1, i2], FpOk X pins H c) (st : ZipSt a b z TI TO i1 i2 n s.heap) {xs ys : List V} {x y : V} (qx : SqL X.K H a xs) (qy : SqL X.K H b ys) (gx : xs[n]? = some x) (gy : ys[n]? = some y) :
    wpAny (model X.prog X.w) X.A (pyNext (.ref z)) (fun r s1 => ∃ u, r = some u ∧ wpAny (model X.prog X.w) X.A (letOwnedTupleGo (.Tuple elts kk tpos) (.ref z) u) (fun _ s2 => ∃ T, H T = none ∧ u = .ref T ∧ Inv X pins σ (upd H T (.tup [x, y])) s2 ∧ ZipSt a b z TI TO i1 i2 (n + 1) s2.heap ∧ ∀ c ∈ [z, TI, TO, i1, i2], upd H T (.tup [x, y]) c = none) E s1) E s := by
  obtain ⟨gz, gI, ⟨x0, y0, gO⟩, s1, s2⟩ := st
  obtain ⟨us, rv, p1, _⟩ := I.list qx
  obtain ⟨vs, rw', p2, _⟩ := I.list qy
  obtain ⟨u, hu, ru⟩ := rv.get gx
  obtain ⟨v, hv, rv2⟩ := rw'.get gy
  have low : ∀ c ∈ [z, TI, TO, i1, i2], c < s.heap.objs.size := fun c hc => by
    obtain ⟨o, e, _⟩ := ZipSt.objs (s := s) ⟨gz, gI, ⟨x0, y0, gO⟩, s1, s2⟩ c hc
    exact Heap.lt_size e
  have zl := low z (by simp)
  refine wpAny_pyNext_zip_item D gz gI gO s1 s2 p1.isList p2.isList (x := u) (y := v) (by simpa using hu) (by simpa using hv) fun g gz' gO' s1' s2' gT sz kp => ⟨_, rfl, ?_⟩
  refine wpAny_letOwnedTupleGo_zip (s := { s with heap := g }) gz' fun g2 gz2 kp2 => ?_
  have gT2 : g2.get? s.heap.objs.size = some { cls := .type "tuple", data := .seq #[u, v] } := (kp2.2 _ (Nat.ne_of_gt zl)).trans gT
  have obj : ObjOk X.prog X.w (upd H s.heap.objs.size (.tup [x, y])) g2 s.heap.objs.size (.tup [x, y]) := ⟨by show 2 ≤ sizeLine; decide, [u, v], .cons ru (.cons rv2 .nil), ⟨_, gT2, rfl, _, rfl⟩⟩
  have nn : ∀ {c d : Addr}, c ∉ [z, TI, TO, i1, i2] → d ∈ [z, TI, TO, i1, i2] → c ≠ d := fun h1 h2 q => h1 (by rw [q]; exact h2)
  have I1 : Inv X pins σ (upd H s.heap.objs.size (.tup [x, y])) { s with heap := g2 } :=
    I.turnedNew (t' := s.toks) (ch := [z, TI, TO, i1, i2]) (fun c o nc q => (kp2.2 c (nn nc (by simp))).trans (kp c o (nn nc (by simp)) (nn nc (by simp)) (nn nc (by simp)) (nn nc (by simp)) q)) hf (Nat.le_refl _) obj
  refine ⟨s.heap.objs.size, I.hok.fresh (Nat.le_refl _), rfl, I1, ⟨gz2, ?_, ⟨u, v, ?_⟩, ?_, ?_⟩, fun c hc => ?_⟩
  · exact (kp2.2 _ D.TIz).trans (kp _ _ D.TIz D.TITO D.TIi1 D.TIi2 gI)
  · exact (kp2.2 _ D.TOz).trans gO'
  · exact s1'.at fun o q => (kp2.2 _ D.i1z).trans q
  · exact s2'.at fun o q => (kp2.2 _ D.i2z).trans q
  · rw [upd_ne (Nat.ne_of_lt (low c hc))]
    exact (hf c hc).1
/-- no more -/
theorem zstop {hx : Addr} (D : ZipApart z TI TO i1 i2 a b) (I : Inv X pins σ H s) (hot : HotAt X.A hx s.heap) (nx : hx ∉ [z, TI, TO, i1, i2]) (hf : ∀ c ∈ [z, TI, TO, i1, i2], FpOk X pins H c) (st : ZipSt a b z TI TO i1 i2 n s.heap) {xs ys : List V} (qx : SqL X.K H a xs) (qy : SqL X.K H b ys) (e : xs.length ≤ n ∨ ys.length ≤ n) :
    wpAny (model X.prog X.w) X.A (pyNext (.ref z)) (fun r s1 => r = none ∧ Inv X pins σ H s1) E s := by
  obtain ⟨gz, gI, ⟨x0, y0, gO⟩, s1, s2⟩ := st
  obtain ⟨us, rv, p1, _⟩ := I.list qx
  obtain ⟨vs, rw', p2, _⟩ := I.list qy
  have h1 := rv.length
  have h2 := rw'.length
  have fin : us.toArray[n]? = none ∨ vs.toArray[n]? = none := by
    rcases e with q | q
    · exact .inl (by simp; omega)
    · exact .inr (by simp; omega)
  have nn : ∀ {d : Addr}, d ∈ [z, TI, TO, i1, i2] → hx ≠ d := fun h q => nx (by rw [q]; exact h)
  have nc : ∀ {c d : Addr}, c ∉ [z, TI, TO, i1, i2] → d ∈ [z, TI, TO, i1, i2] → c ≠ d := fun h1 h2 q => h1 (by rw [q]; exact h2)
  refine zend_hot hot (nn (by simp)) (nn (by simp)) (nn (by simp)) (nn (by simp)) D gz gI gO s1 s2 p1.isList p2.isList fin fun g kp => ⟨rfl, ?_⟩
  exact I.turnedL (t' := s.toks) (ch := [z, TI, TO, i1, i2]) (fun c o n q => kp c o (nc n (by simp)) (nc n (by simp)) (nc n (by simp)) (nc n (by simp)) q) hf
end
/-! ### [elt for x, y in zip(one, other) if test], while an exception is handled -/
/-- the pair is taken apart -/
theorem pg_pair {X : Cx} {i j : Nat} {x y : Str} {kk : Nat} {p1 p2 pos : Pos} (hot : HotX X) (hN : X.N.Nodup) (hi : X.N[i]? = some x) (hj : X.N[j]? = some y) (hx : Loc X.env.scope x) (hy : Loc X.env.scope y) (fx : X.fn x = true ∨ X.env.scope.names.lookup x = some .local) (fy : X.fn y = true ∨ X.env.scope.names.lookup y = some .local) :
    PG X (.Tuple [.Name x p1, .Name y p2] kk pos) (fun v σ H Q => ∃ a u w, v = .ref a ∧ SqT X.K H a [u, w] ∧ Q ((σ.set i (some u)).set j (some w)) H) := by
  have two : PGs X [.Name x p1, .Name y p2] (gCons (gName i) (gCons (gName j) gNil)) := pgs_cons (pg_name hN hi hx fx) (pgs_cons (pg_name hN hj hy fy) pgs_nil)
  obtain ⟨hx, hot⟩ := hot
  refine ⟨fun pins s σ H v u Q I r h => ?_⟩
  obtain ⟨a, c, d, rfl, hq, hQ⟩ := h
  cases r
  obtain ⟨its, rv, ht, hz⟩ := I.tuple hq
  have hl : its.toArray.size = 2 := by rw [List.size_toArray, ← rv.length]; rfl
  rw [assign_Tuple]
  refine wpAny_bind (wpAny_standAt ?_)
  unfold unpack
  show wpAny _ _ (holding [.ref a] (unpackItems (.ref a) 2 none) >>= _) _ _ _
  rw [← hl]
  refine wpAny_bind (wpAny_holding (unpack_hot (hot _ _ _ _ I) ht fun g kp => ?_))
  have I1 : Inv X pins σ H { s with heap := g } := I.kept (t' := s.toks) fun b o e => kp b o (Nat.ne_of_lt (Heap.lt_size e)) e
  exact two.run pins _ σ H [c, d] _ Q I1 (by simpa using rv) ⟨c, [d], rfl, d, [], rfl, rfl, hQ⟩
section
variable {X : Cx} {elt one other : Expr} {tests : List Expr} {scope : Scope} {own : List (Str × Nat)} {elts : List Expr} {kk : Nat} {tpos pos zp cp : Pos} {ta : TA} {g : TG} {tt : TT} {te : TE}
/-- the comprehension's reading, the lists told -/
def tZc (K : PySem.W.Frag) (ta : TA) (g : TG) (tt : TT) (te : TE) (vs : List Nat) : TE := fun σ H Q => ta σ H fun zs H1 => ∃ a b xs ys, zs = [.ref a, .ref b] ∧ SqL K H1 a xs ∧ SqL K H1 b ys ∧ xs.length = ys.length ∧ ∀ D, H1 D = none →
  ∃ W : Nat → Hp → Prop, W 0 (upd H1 D (.lst [])) ∧ (∀ i H, W i H → SqL K H a xs ∧ SqL K H b ys) ∧ (∀ H, W xs.length H → Q (.ref D) H) ∧
    ∀ (i : Nat) (x y : V) (T : Addr) (H : Hp), W i H → xs[i]? = some x → ys[i]? = some y → H T = none → g (.ref T) (wipe σ vs) (upd H T (.tup [x, y])) fun σ2 H2 => wipe σ2 vs = wipe σ vs ∧ tt σ2 H2 fun c H3 =>
      if c = true then te σ2 H3 fun y H4 => ∃ acc, H4 D = some (.lst acc) ∧ acc.length < sizeLine ∧ W (i + 1) (upd H4 D (.lst (acc ++ [y]))) else W (i + 1) H3
theorem pe_zc (hc : L2H.HotC X) (hN : X.N.Nodup) (hg : Gl X "zip") (hm : X.mg "zip" = none) (ha : PA X [one, other] ta) (hs1 : starEach [one, other] X.env = (false, eval one X.env) :: starEach [other] X.env) (hs2 : (backTo cp (starEach [other] X.env)).any (·.1) = false) (ok : BlkOk X.N X.env.scope scope own)
    (hG : ∀ (s : Shared) (H : Hp) (C : Addr) (cl : List (Str × Addr)) (fp : List Addr), HotX (blkX X scope s H C cl fp) → PG (blkX X scope s H C cl fp) (.Tuple elts kk tpos) g)
    (hT : ∀ (s : Shared) (H : Hp) (C : Addr) (cl : List (Str × Addr)) (fp : List Addr), PTs (blkX X scope s H C cl fp) tests tt) (hE : ∀ (s : Shared) (H : Hp) (C : Addr) (cl : List (Str × Addr)) (fp : List Addr), PE (blkX X scope s H C cl fp) elt te)
    (hF : ∀ x, foldedSetIterable (.Call (.Name "zip" zp) [one, other] [] cp) X.env x = pure x) : PE X (.ListComp elt [⟨.Tuple elts kk tpos, .Call (.Name "zip" zp) [one, other] [] cp, tests, 0⟩] scope pos) (tZc X.K ta g tt te (own.map (·.2))) := by
  obtain ⟨pE, ⟨hh, ctx, dctx, ectx⟩, pMem⟩ := hc
  refine ⟨fun pins s σ H Q I h => ?_⟩
  rw [eval_ListComp]
  have fr : ∀ y ∈ scope.names, y.2 = .free → ∃ c, X.env.cells.lookup y.1 = some c := fun y hy e => (ok.free y hy e).elim (fun k => I.ok.has _ (.inl k)) fun k => I.ok.has _ (.inr k)
  refine wpAny_comprehension_free (use := none) rfl hF (closure_ok fr) ok.kind (fun y hy e => by rw [ok.uniq y hy, e]) ?_
  refine Call_ (ld_blt I hg hm PyProof.Rows.boot_zip (PyProof.Rows.callWith_type1 (thn (ha.run cp pins s σ H _ I h) fun us s1 ⟨zs, H1, I1, r1, q1⟩ => ?_) hs1 hs2))
  obtain ⟨a, b, xs, ys, ez, qa, qb, hlen, q⟩ := q1
  subst ez
  cases r1 with
  | cons ra rest =>
    cases rest with
    | cons rb rest =>
      cases rest
      cases ra
      cases rb
      obtain ⟨us1, _, pl1, _⟩ := I1.list qa
      obtain ⟨us2, _, pl2, _⟩ := I1.list qb
      refine call_zip_2 pl1.isList pl2.isList fun g0 gz gI gO li1 li2 _ kp => wpAny_pyIter_zip gz ?_
      have I2 : Inv X pins σ H1 { s1 with heap := g0 } := I1.kept (t' := s1.toks) kp
      generalize hz : s1.heap.objs.size + 4 = z at *
      generalize hTI : s1.heap.objs.size + 2 = TI at *
      generalize hTO : s1.heap.objs.size + 3 = TO at *
      generalize hi1 : s1.heap.objs.size = i1 at *
      generalize hi2 : i1 + 1 = i2 at *
      have AP : ZipApart z TI TO i1 i2 a b := by
        have := PySem.W.ktu_apart s1.heap.objs.size a b pl1.lt pl2.lt
        rw [hi1] at this
        rw [← hz, ← hTI, ← hTO, ← hi2]
        exact this
      have fresh : ∀ c ∈ [z, TI, TO, i1, i2], FpOk X pins H1 c := fun c hc => by
        have hc : c = z ∨ c = TI ∨ c = TO ∨ c = i1 ∨ c = i2 := by simpa using hc
        have ge : s1.heap.objs.size ≤ c := by omega
        exact I1.fpOk ge (I1.hok.fresh ge)
      have st0 : ZipSt a b z TI TO i1 i2 0 g0 := ⟨gz, gI, ⟨_, _, gO⟩, li1, li2⟩
      generalize es2 : ({ s1 with heap := g0 } : Shared) = s2 at I2 ⊢
      have st2 : ZipSt a b z TI TO i1 i2 0 s2.heap := by rw [← es2]; exact st0
      refine wpAny_newObj_type (newEnv_comp ?_) (by show 0 ≤ sizeLine; decide)
      generalize eD : s2.heap.objs.size = D
      have nD : H1 D = none := I2.hok.fresh (Nat.le_of_eq eD)
      obtain ⟨W, w0, wq, wend, wgo⟩ := q D nD
      generalize es3 : ({ s2 with heap := s2.heap.push { cls := .type "list", data := .seq ([] : List Value).toArray } } : Shared) = s3
      have up3 : ∀ c o, s2.heap.get? c = some o → s3.heap.get? c = some o := fun c o e => by rw [← es3]; exact Heap.get?_push_of_some _ e
      have I3 : Inv X pins σ (upd H1 D (.lst [])) s3 := by
        rw [← es3]
        refine I2.laid (t' := s2.toks) (fun c o e => Heap.get?_push_of_some _ e) (Nat.le_of_eq eD) ⟨Nat.zero_le _, [], 0, .nil, ?_⟩
        rw [← eD]
        exact Heap.get?_push_size _ rfl
      have lowD : ∀ c ∈ [z, TI, TO, i1, i2], c < D := fun c hc => by
        obtain ⟨o, e, _⟩ := ZipSt.objs (s := s2) st2 c hc
        rw [← eD]
        exact Heap.lt_size e
      have sz3 : s3.heap.objs.size = D + 1 := by rw [← es3, ← eD]; exact Heap.size_push ..
      have f3 : ∀ c ∈ [z, TI, TO, i1, i2], FpOk X pins (upd H1 D (.lst [])) c ∧ c < s3.heap.objs.size := fun c hc => by
        have lt := lowD c hc
        exact ⟨⟨by rw [upd_ne (Nat.ne_of_lt lt)]; exact (fresh c hc).1, (fresh c hc).2⟩, by rw [sz3]; omega⟩
      have st3 : ZipSt a b z TI TO i1 i2 0 s3.heap := st2.keep fun c _ o e => up3 c o e
      have I4 := block_start I3 ok hN f3
      have pinAt := I3.pin pE (List.mem_append_left _ pMem)
      have pOut : pE.1 ∉ [z, TI, TO, i1, i2] := fun hm => (f3 _ hm).1.2.2.2.2.2 pE (List.mem_append_left _ pMem) rfl
      have pFr : pE.1 ∉ frs X.stack := fun hm => (List.mem_cons.mp (I3.stkSub pE.1 hm)).elim pinAt.2.2.1 pinAt.2.2.2.1
      have hotB : ∀ (cl : List (Str × Addr)) (pins' : List (Addr × Obj)) (σ' : L2.St) (H' : Hp) (s' : Shared), Inv (blkX X scope s3 (upd H1 D (.lst [])) s3.heap.objs.size cl [z, TI, TO, i1, i2]) pins' σ' H' s' → HotAt X.A pE.1 s'.heap := fun cl pins' σ' H' s' I' =>
        ⟨hh, pE.2, ctx, I'.base.keep pE.1 pE.2 pinAt.1 pinAt.2.1 pFr pOut, dctx, ectx⟩
      have pg := hG s3 (upd H1 D (.lst [])) s3.heap.objs.size (cellsFrom (s3.heap.objs.size + 1) scope.names (cloFrom X.env.cells scope.names [])) [z, TI, TO, i1, i2] ⟨pE.1, hotB _⟩
      have pt := hT s3 (upd H1 D (.lst [])) s3.heap.objs.size (cellsFrom (s3.heap.objs.size + 1) scope.names (cloFrom X.env.cells scope.names [])) [z, TI, TO, i1, i2]
      have pe := hE s3 (upd H1 D (.lst [])) s3.heap.objs.size (cellsFrom (s3.heap.objs.size + 1) scope.names (cloFrom X.env.cells scope.names [])) [z, TI, TO, i1, i2]
      have hotC := hotB (cellsFrom (s3.heap.objs.size + 1) scope.names (cloFrom X.env.cells scope.names []))
      show codeAny _ _ (.compStart (.ListComp elt [⟨.Tuple elts kk tpos, .Call (.Name "zip" zp) [one, other] [] cp, tests, 0⟩] scope pos) 0 (.ref z) (.ref D) (compEnvC scope (cellsFrom (s3.heap.objs.size + 1) scope.names (cloFrom X.env.cells scope.names [])) s3.heap.objs.size X.env))
        (compPost (model X.prog X.w) X.A X.xe none (EP X pins σ Q) (.ref D) s3.heap.objs.size) { s3 with heap := pushCells (s3.heap.push { cls := .type "dict", data := .dict #[] }) scope.names }
      generalize eC : cellsFrom (s3.heap.objs.size + 1) scope.names (cloFrom X.env.cells scope.names []) = cl at I4 pg pt pe hotC ⊢
      have I4 : Inv (blkX X scope s3 (upd H1 D (.lst [])) s3.heap.objs.size cl [z, TI, TO, i1, i2]) [] (wipe σ (own.map (·.2))) (upd H1 D (.lst [])) { s3 with heap := pushCells (s3.heap.push { cls := .type "dict", data := .dict #[] }) scope.names } := I4
      generalize eX : blkX X scope s3 (upd H1 D (.lst [])) s3.heap.objs.size cl [z, TI, TO, i1, i2] = XB at I4 pg pt pe hotC
      have eEx : XB.ex = [z, TI, TO, i1, i2] := by rw [← eX]
      have ePn : XB.pn = [] := by rw [← eX]
      generalize es4 : ({ s3 with heap := pushCells (s3.heap.push { cls := .type "dict", data := .dict #[] }) scope.names } : Shared) = s4 at I4 ⊢
      have st4 : ZipSt a b z TI TO i1 i2 0 s4.heap := st3.keep fun c _ o e => by rw [← es4]; exact pushCells_keeps _ _ _ _ (Heap.get?_push_of_some _ e)
      have n4 : ∀ c ∈ [z, TI, TO, i1, i2], upd H1 D (.lst []) c = none := fun c hc => (f3 c hc).1.1
      have fB : ∀ {σ' : L2.St} {H' : Hp} {s' : Shared}, Inv XB [] σ' H' s' → (∀ c ∈ [z, TI, TO, i1, i2], H' c = none) → ∀ c ∈ [z, TI, TO, i1, i2], FpOk XB [] H' c := fun {σ' H' s'} I' hn c hc =>
        ⟨hn c hc, (I'.ok.exf c (by rw [eEx]; exact hc)).1, I'.ok.exfs c (by rw [eEx]; exact hc), .inl (by rw [eEx]; exact hc), fun y d e => (I'.ok.exf c (by rw [eEx]; exact hc)).2 y d e, fun p hp => by rw [ePn] at hp; simp at hp⟩
      have eA : XB.A = X.A := by rw [← eX]
      have eP : XB.prog = X.prog := by rw [← eX]
      have eW : XB.w = X.w := by rw [← eX]
      have eK : XB.K = X.K := by rw [← eX]
      have loop : codeAny (model X.prog X.w) X.A (.compLoop (.ListComp elt [⟨.Tuple elts kk tpos, .Call (.Name "zip" zp) [one, other] [] cp, tests, 0⟩] scope pos) 0 (.ref z) (.ref D) (compEnvC scope cl s3.heap.objs.size X.env))
          (compPost (model X.prog X.w) X.A X.xe none (EP X pins σ Q) (.ref D) s3.heap.objs.size) s4 := by
        refine compLoop_any (fun m s' => ∃ i H', m = xs.length - i ∧ i ≤ xs.length ∧ Inv XB [] (wipe σ (own.map (·.2))) H' s' ∧ ZipSt a b z TI TO i1 i2 i s'.heap ∧ (∀ c ∈ [z, TI, TO, i1, i2], H' c = none) ∧ W i H') ?_ xs.length ⟨0, _, by simp, Nat.zero_le _, I4, st4, n4, w0⟩
        rintro m s5 ⟨i, H5, rfl, hi, I5, st5, n5, w5⟩
        obtain ⟨qa5, qb5⟩ := wq i H5 w5
        have hot5 : HotAt XB.A pE.1 s5.heap := by rw [eA]; exact hotC _ _ _ _ I5
        by_cases hlt : i < xs.length
        case neg =>
          have ei : i = xs.length := by omega
          subst ei
          have td := zstop (X := XB) (E := fun _ _ => False) AP I5 hot5 pOut (fB I5 n5) st5 (by rw [eK]; exact qa5) (by rw [eK]; exact qb5) (.inl (Nat.le_refl _))
          rw [eP, eW, eA] at td
          refine thnF td fun r s6 ⟨hr, I6⟩ => ?_
          subst hr
          subst eX
          have I7 : Inv X pins σ H5 s6 := I3.call' (ch := [z, TI, TO, i1, i2]) I6.os I6.base I6.hok I6.bare fun c hc => ⟨(f3 c hc).1.2.2.2.1, (f3 c hc).1.2.1, (f3 c hc).1.2.2.2.2.1, (f3 c hc).1.2.2.2.2.2⟩
          have nC : H5 s3.heap.objs.size = none := I6.free
          obtain ⟨mm, hns, _⟩ := I6.loc
          refine ⟨mm, hns, fun g sb => ?_⟩
          obtain ⟨f0, f1, f2, f4, f5, f6⟩ := I3.fpOk (H' := H5) (Nat.le_refl _) nC
          exact ⟨.ref D, H5, I7.turned (t' := s6.toks) (fun c o hb e => (sb.2 c hb).trans e) f0 f1 f4 f5 f6, rfl, wend H5 w5⟩
        case pos =>
          have gx : xs[i]? = some xs[i] := List.getElem?_eq_getElem hlt
          have gy : ys[i]? = some (ys[i]'(by omega)) := List.getElem?_eq_getElem _
          have ti := zstep (X := XB) (E := fun _ _ => False) (elts := elts) (kk := kk) (tpos := tpos) AP I5 (fB I5 n5) st5 (by rw [eK]; exact qa5) (by rw [eK]; exact qb5) gx gy
          rw [eP, eW, eA] at ti
          refine thnF ti fun r s6 ⟨u, hr, h6⟩ => ?_
          subst hr
          refine thnF h6 fun _ s7 ⟨T, nT, eu, I7, st7, n7⟩ => ?_
          subst eu
          have I7' := I7.pinned (fB I7 n7) (ZipSt.objs st7)
          have run1 := pg.run _ s7 _ _ (.ref T) (.ref T) _ I7' rfl (wgo i _ _ T H5 w5 gx gy nT)
          have exe : XB.xe = fun _ _ => False := by rw [← eX]
          have env : XB.env = compEnvC scope cl s3.heap.objs.size X.env := by rw [← eX]
          rw [eP, eW, eA, exe, env] at run1
          refine thnF run1 fun _ s8 ⟨σ8, H8, I8, hw8, q8⟩ => ?_
          have run2 := pt.run _ s8 σ8 H8 _ I8 q8
          rw [eP, eW, eA, exe, env] at run2
          refine thnF run2 fun c s9 ⟨H9, I9, q9⟩ => ?_
          have next : ∀ {s' : Shared} {H' : Hp}, Inv XB ([] ++ pinsAt [z, TI, TO, i1, i2] s7.heap) σ8 H' s' → W (i + 1) H' →
              ∃ m, m < xs.length - i ∧ ∃ i H', m = xs.length - i ∧ i ≤ xs.length ∧ Inv XB [] (wipe σ (own.map (·.2))) H' s' ∧ ZipSt a b z TI TO i1 i2 i s'.heap ∧ (∀ c ∈ [z, TI, TO, i1, i2], H' c = none) ∧ W i H' := fun {s' H'} I' w' => by
            have held : ∀ c ∈ [z, TI, TO, i1, i2], ∀ o, s7.heap.get? c = some o → s'.heap.get? c = some o ∧ H' c = none := fun c hc o e =>
              let pp := I'.pin (c, o) (List.mem_append_right _ (List.mem_append_right _ (mem_pinsAt hc e)))
              ⟨pp.1, pp.2.1⟩
            have hl : (wipe σ (own.map (·.2))).length = σ8.length := by rw [← hw8, wipe_length]
            refine ⟨xs.length - (i + 1), by omega, i + 1, H', rfl, hlt, (I'.unpinned (pins := [])).weak hl (fun j v e => ?_), st7.keep fun c hc o e => (held c hc o e).1, fun c hc => ?_, w'⟩
            · rw [← hw8] at e
              exact (wipe_some e).1
            · obtain ⟨o, e, _⟩ := ZipSt.objs st7 c hc
              exact (held c hc o e).2
          cases c with
          | false =>
            simp only [Bool.false_eq_true, if_false] at q9 ⊢
            exact next I9 q9
          | true =>
            simp only [if_true] at q9 ⊢
            have run3 := pe.run _ s9 σ8 H9 _ I9 q9
            rw [eP, eW, eA, exe, env] at run3
            refine thnF run3 fun y s10 ⟨yv, H10, I10, r10, acc, gD, hz10, w10⟩ => ?_
            have run4 := app_ok (X := XB) (E := fun _ _ => False) I10 gD hz10 r10 (Q := fun _ s' => ∃ m, m < xs.length - i ∧ ∃ i H', m = xs.length - i ∧ i ≤ xs.length ∧ Inv XB [] (wipe σ (own.map (·.2))) H' s' ∧ ZipSt a b z TI TO i1 i2 i s'.heap ∧ (∀ c ∈ [z, TI, TO, i1, i2], H' c = none) ∧ W i H') fun s11 I11 => next I11 w10
            rw [eP, eW, eA] at run4
            exact thnF run4 fun _ _ z => z
      exact codeAny_compStart_list loop (wpAny_pyIter_zip st4.z loop)
end
end PL
end
section
set_option maxHeartbeats 1000000
/-! What a handler does with the exception that it holds. -/
namespace PL
open PySem PySem.Spec PyProof.Rows L2 LamX NdefX HotX
/-- isinstance of the exception that is held -/
theorem call_isP {X : Cx} {a D : Addr} {oe : Obj} (C : ExcC X.K D) (hp : (a, oe) ∈ X.pn) (hz : Zc (.ref D) none oe) (hf : ∃ vs, oe.data = .fields vs) : CallR X (.builtin "isinstance") (rIsE X.K D a) := by
  intro pins s σ H xs us Q I r ⟨c, cv, b, ex, hcv, e, q⟩
  subst ex
  cases r with
  | cons r1 rt =>
    cases rt with
    | cons r2 rt =>
      cases rt
      cases r1
      cases hcv _ r2
      have held := (I.pin (a, oe) (List.mem_append_left _ hp)).1
      have at_ : PySem.W.InstAt s.heap a oe D none := by
        obtain ⟨oc, od, oda, osl⟩ := oe
        obtain ⟨vs, z3⟩ := hf
        obtain ⟨z1, z2⟩ := hz
        dsimp only at z1 z2 z3
        subst z1 z2 z3
        exact ⟨held, rfl, rfl, trivial⟩
      exact PySem.W.kia_one (PySem.W.handS_kitx_exc C.hg C.hk C.hs C.hd C.ha C.hn C.ht C.hm) I.kIn at_ e (fun z => nomatch z) fun tk => ⟨.bl b, H, I.kept (t' := tk) fun _ _ z => z, rfl, q⟩
section
variable {p : Pl} {a b : Expr} {ma mb : Rho → Ks → R (Val × Ks)} {ms : Rho → Ks → R (List Val × Ks)} {pos q q2 q3 apos : Pos} {i j : Nat} {x y : Str}
def isPin (ρ : Rho) (i : Nat) : Bool := match ρ[i]? with
  | some (some .pin) => true
  | _ => false
theorem SE_isE (nb : p.b = false) {z D : Addr} {oe : Obj} {c : Str} {cv : Value} {cV : V} {k : Bool} (C : ExcC p.X.K D) (hp : p.X.pn.head? = some (z, oe)) (hz : Zc (.ref D) none oe) (hf : ∃ vs, oe.data = .fields vs) (hg : Gl p.X "isinstance") (hm : p.X.mg "isinstance" = none)
    (hN : p.X.N[i]? = some x) (hv : Vis p.X.env.scope x) (hd : (x == ("__debug__" : Str)) = false) (hcd : (x == ("__classdict__" : Str)) = false) (hc : PE p.X (.Name c q2) (L2.tC cV)) (hu : ∀ u, RelV cV u → u = cv) (hk : PySem.W.kitOne p.X.K (.ref D) cv = some k) :
    SE p (.Call (.Name "isinstance" q) [.Name x q3, .Name c q2] [] pos) (fun ρ κ => if isPin ρ i = true then .ok (.bl k, κ) else .bad) :=
  (pe_callB (call_isP C (List.mem_of_mem_head? (Option.mem_def.mpr hp)) hz hf) hg hm boot_isinstance (pa_cons (pe_var hN hv hd hcd) (pa_cons hc pa_nil rfl) rfl) (by decide) (by decide) rfl (by rfl)).imp fun σ H Q ⟨w, ρ, κ, re, wf, po⟩ => by
    have po : Post p.g p.clA (rV p.g) w H (if isPin ρ i = true then .ok (.bl k, κ) else .bad) Q (fun c d H' => p.W c d σ H') := po
    by_cases e : isPin ρ i = true
    case neg => rw [if_neg e] at po; exact po.elim
    rw [if_pos e] at po
    have at_ : σ[i]? = some (some (.ref z)) := by
      unfold isPin at e
      split at e
      · rename_i er
        rcases re.at_ i _ er with z' | ⟨q', h1, h2⟩
        · rw [nb] at z'; cases z'
        · rw [hp] at h1; cases h1; exact h2
      · cases e
    exact ⟨.ref z, at_, cV, cv, k, rfl, hu, hk, po _ w H (Ext.refl w H) wf (.bl k)⟩
theorem strs_rv {g : Gx} {I : Addr → Prop} {μ : List Addr} {H : Hp} : ∀ l : List Str, RVs g I μ H (l.map .str) (l.map .str)
  | [] => .nil
  | x :: l => .cons (.str x) (strs_rv l)
theorem strsOf_rv {g : Gx} {I : Addr → Prop} {μ : List Addr} {H : Hp} : ∀ {l : List Val} {ys : List Str} {xs : List V}, strsOf l = some ys → RVs g I μ H l xs → xs = ys.map V.str
  | [], ys, xs, e, r => by cases e; cases r; rfl
  | .str x :: l, ys, xs, e, r => by
    obtain ⟨zs, h1, h2⟩ := Option.map_eq_some_iff.mp (show (strsOf l).map (x :: ·) = some ys from e)
    subst h2
    cases r with
    | cons r1 rt =>
      cases r1
      rw [strsOf_rv h1 rt]
      rfl
  | .non :: _, _, _, e, _ => by cases e
  | .bl _ :: _, _, _, e, _ => by cases e
  | .int _ :: _, _, _, e, _ => by cases e
  | .tup _ :: _, _, _, e, _ => by cases e
  | .lst _ :: _, _, _, e, _ => by cases e
  | .fn _ :: _, _, _, e, _ => by cases e
  | .cell _ :: _, _, _, e, _ => by cases e
  | .scr _ :: _, _, _, e, _ => by cases e
theorem SE_sm {r : V → List V → Hp → VK → Prop} {m : Sm} {name : Str} (run : ∀ {ta tb : TE}, PE p.X a ta → PE p.X b tb → PE p.X (.Call (.Attribute a name apos) [b] [] pos) (tM1 r ta tb))
    (hr : ∀ {w : Wd} {κ : Ks} {H : Hp} {u : Str} {vb v : Val} {y : V} {Q : VK}, WF p.g w κ H → RV p.g w.I w.μ H vb y → smV m u vb = some v → (∀ z w' H', Ext w H w' H' → WF p.g w' κ H' → RV p.g w'.I w'.μ H' v z → Q z H') → r (.str u) [y] H Q)
    (ha : SE p a ma) (hb : SE p b mb) : SE p (.Call (.Attribute a name apos) [b] [] pos) (fun ρ κ => (ma ρ κ).bind fun q => (R.ofO (strV q.1)).bind fun u => (mb ρ q.2).bind fun r => R.ofO ((smV m u r.1).map fun v => (v, r.2))) :=
  (run ha hb).imp fun σ H Q ⟨w, ρ, κ, re, wf, po⟩ => ⟨w, ρ, κ, re, wf, Post.bind po fun w1 H1 u κ1 x wf1 e1 rx po1 => by
    cases u with
    | str u =>
      cases rx
      refine ⟨⟨u, rfl⟩, w1, ρ, κ1, re.ext e1 wf, wf1, Post.bind po1 fun w2 H2 v κ2 y wf2 e2 ry po2 => ?_⟩
      obtain ⟨z, ez, k⟩ := Post.some (p := p) po2
      exact hr wf2 ry ez k
    | _ => exact po1.elim⟩
theorem SE_split (ha : SE p a ma) (hb : SE p b mb) (hs : starEach [b] p.X.env = [(false, eval b p.X.env)]) (hbase : attributeBase a "split" p.X.env (eval a p.X.env) = eval a p.X.env) (hline : (apos.endLine == pos.line) = true) :
    SE p (.Call (.Attribute a "split" apos) [b] [] pos) (fun ρ κ => (ma ρ κ).bind fun q => (R.ofO (strV q.1)).bind fun u => (mb ρ q.2).bind fun r => R.ofO ((smV .split u r.1).map fun v => (v, r.2))) :=
  SE_sm (m := .split) (fun h1 h2 => pe_split h1 h2 hs hbase hline) (fun {w κ H u vb v y Q} wf ry e k => by
    cases vb with
    | str z =>
      have e : (if (z.length == 0) = false ∧ u.length + 2 ≤ LINE then some (Val.lst ((Txt.split u z).map .str)) else none) = some v := e
      split at e
      · cases e
        cases ry
        rename_i hl
        refine ⟨u, _, rfl, rfl, hl.1, by rw [← LINE_eq]; exact hl.2, fun q hq => ?_⟩
        obtain ⟨e3, wf3, r3⟩ := RV.newLst wf (strs_rv (Txt.split u z)) hq
        exact k _ _ _ e3 wf3 r3
      · cases e
    | _ => cases e) ha hb
theorem SE_join (hK : p.X.K = p.g.K) (ha : SE p a ma) (hb : SE p b mb) (hs : starEach [b] p.X.env = [(false, eval b p.X.env)]) (hbase : attributeBase a "join" p.X.env (eval a p.X.env) = eval a p.X.env) (hline : (apos.endLine == pos.line) = true) :
    SE p (.Call (.Attribute a "join" apos) [b] [] pos) (fun ρ κ => (ma ρ κ).bind fun q => (R.ofO (strV q.1)).bind fun u => (mb ρ q.2).bind fun r => R.ofO ((smV .join u r.1).map fun v => (v, r.2))) :=
  SE_sm (m := .join) (fun h1 h2 => pe_join h1 h2 hs hbase hline) (fun {w κ H u vb v y Q} wf ry e k => by
    cases vb with
    | lst l =>
      have e : (match strsOf l with
        | some ys => if (ys.map (·.length)).sum + ys.length * u.length ≤ LINE then some (Val.str (Txt.join u ys)) else none
        | none => none) = some v := e
      cases hys : strsOf l with
      | none => rw [hys] at e; cases e
      | some ys =>
        rw [hys] at e
        have e : (if (ys.map (·.length)).sum + ys.length * u.length ≤ LINE then some (Val.str (Txt.join u ys)) else none) = some v := e
        by_cases hl : (ys.map (·.length)).sum + ys.length * u.length ≤ LINE
        · rw [if_pos hl] at e
          cases e
          cases ry with
          | lst j h r =>
            cases strsOf_rv hys r
            exact ⟨u, _, ys, rfl, rfl, .inl (SqL.of h), hl, k _ w H (Ext.refl w H) wf (.str _)⟩
        · rw [if_neg hl] at e
          cases e
    | _ => cases e) ha hb
theorem setTg_two {ρ ρ2 : Rho} {u v : Val} (h : setTg (.tp (.cons (.nm i) (.cons (.nm j) .nil))) (.tup [u, v]) ρ = some ρ2) : ρ2 = (ρ.set i (some (.val u))).set j (some (.val v)) := by
  simp only [setTg, setTgs] at h
  split at h
  · rename_i ρ' e
    split at e
    · cases e
      split at h
      · rename_i ρ'' e2
        split at e2
        · cases e2; cases h; rfl
        · cases e2
      · cases h
    · cases e
  · cases h
/-! ### [elt for x, y in zip(one, other) if test] there -/
def sameLen : List Val → Option (List Val)
  | [.lst l, .lst m] => if l.length = m.length then some (zipL l m) else none
  | _ => none
theorem drop_at {α : Type} {l : List α} {n : Nat} {v : α} (h : l[n]? = some v) : l.drop n = v :: l.drop (n + 1) := by
  obtain ⟨hlt, e⟩ := List.getElem?_eq_some_iff.mp h
  rw [List.drop_eq_getElem_cons hlt, e]
theorem SE_zc {elt one other : Expr} {tests : List Expr} {scope : Scope} {kk : Nat} {tpos zp cp px py : Pos} {mt : Rho → Ks → R (Bool × Ks)} {me : Rho → Ks → R (Val × Ks)} {own : List Nat} (hK : p.X.K = p.g.K) (hc : L2H.HotC p.X) (hN : p.X.N.Nodup) (hg : Gl p.X "zip") (hm : p.X.mg "zip" = none)
    (ha : SEs p [one, other] ms) (hs1 : starEach [one, other] p.X.env = (false, eval one p.X.env) :: starEach [other] p.X.env) (hs2 : (backTo cp (starEach [other] p.X.env)).any (·.1) = false) {ow : List (Str × Nat)} (how : ow.map (·.2) = own) (ok : BlkOk p.X.N p.X.env.scope scope ow)
    (hi : p.X.N[i]? = some x) (hj : p.X.N[j]? = some y) (hi' : i ∈ own) (hj' : j ∈ own)
    (hlx : ∀ (s : Shared) (H : Hp) (C : Addr) (cl : List (Str × Addr)) (fp : List Addr), Loc (blkX p.X scope s H C cl fp).env.scope x ∧ ((blkX p.X scope s H C cl fp).fn x = true ∨ (blkX p.X scope s H C cl fp).env.scope.names.lookup x = some .local))
    (hly : ∀ (s : Shared) (H : Hp) (C : Addr) (cl : List (Str × Addr)) (fp : List Addr), Loc (blkX p.X scope s H C cl fp).env.scope y ∧ ((blkX p.X scope s H C cl fp).fn y = true ∨ (blkX p.X scope s H C cl fp).env.scope.names.lookup y = some .local))
    (ht : ∀ (s : Shared) (H : Hp) (C : Addr) (cl : List (Str × Addr)) (fp : List Addr), PTs (blkX p.X scope s H C cl fp) tests (tG (p.blk scope s H C cl fp) (fun _ _ a b => a = b) mt))
    (he : ∀ (s : Shared) (H : Hp) (C : Addr) (cl : List (Str × Addr)) (fp : List Addr), SE (p.blk scope s H C cl fp) elt me)
    (hF : ∀ z, foldedSetIterable (.Call (.Name "zip" zp) [one, other] [] cp) p.X.env z = pure z) :
    SE p (.ListComp elt [⟨.Tuple [.Name x px, .Name y py] kk tpos, .Call (.Name "zip" zp) [one, other] [] cp, tests, 0⟩] scope pos)
      (fun ρ κ => (ms ρ κ).bind fun q => (R.ofO (sameLen q.1)).bind fun l => (compL l (turnF (.tp (.cons (.nm i) (.cons (.nm j) .nil))) ρ own mt me) q.2).bind fun r => if r.1.length < LINE then .ok (.lst r.1, r.2) else .bad) := by
  subst how
  refine (pe_zc (g := fun v σ H Q => ∃ a u w, v = .ref a ∧ SqT p.X.K H a [u, w] ∧ Q ((σ.set i (some u)).set j (some w)) H) (te := tG p.inB (rV p.g) me) (tt := tG p.inB (fun _ _ a b => a = b) mt) (ta := tG p (rVs p.g) ms) hc hN hg hm ha hs1 hs2 ok (fun s H C cl fp hot => pg_pair (i := i) (j := j) hot hN hi hj (hlx s H C cl fp).1 (hly s H C cl fp).1 (hlx s H C cl fp).2 (hly s H C cl fp).2)
    (fun s H C cl fp => ⟨fun pins s' σ H' Q I q => (ht s H C cl fp).run pins s' σ H' Q I (tG_blk q)⟩) (fun s H C cl fp => (he s H C cl fp).imp fun _ _ _ q => tG_blk q) hF).imp fun σ H Q ⟨w0, ρ, κ0, re0, wf0, po⟩ => ⟨w0, ρ, κ0, re0, wf0, Post.bind po fun w H1 q κ zs wf e01 rq po => ?_⟩
  have re := re0.ext e01 wf0
  have po : Post p.g p.clA (rV p.g) w H1 ((R.ofO (sameLen q)).bind fun l => (compL l (turnF (.tp (.cons (.nm i) (.cons (.nm j) .nil))) ρ (ow.map (·.2)) mt me) κ).bind fun r => if r.1.length < LINE then .ok (Val.lst r.1, r.2) else .bad) Q (fun c d H' => p.W c d σ H') := po
  cases es : sameLen q with
  | none => rw [es] at po; exact po.elim
  | some l0 =>
    rw [es] at po
    unfold sameLen at es
    split at es
    case h_2 => cases es
    rename_i l m
    split at es
    case isFalse => cases es
    rename_i hlen
    cases es
    cases rq with
    | cons r1 rq =>
      cases rq with
      | cons r2 rq =>
        cases rq
        cases r1 with
        | @lst a xs _ ja ha rl =>
          cases r2 with
          | @lst b ys _ jb hb rm =>
            refine ⟨a, b, xs, ys, rfl, .of ha, .of hb, by rw [← rl.length, ← rm.length]; exact hlen, fun D hD => ?_⟩
            have po : Post p.g p.clA (rV p.g) w H1 ((compL (zipL l m) (turnF (.tp (.cons (.nm i) (.cons (.nm j) .nil))) ρ (ow.map (·.2)) mt me) κ).bind fun r => if r.1.length < LINE then .ok (Val.lst r.1, r.2) else .bad) Q (fun c d H' => p.W c d σ H') := po
            cases e : compL (zipL l m) (turnF (.tp (.cons (.nm i) (.cons (.nm j) .nil))) ρ (ow.map (·.2)) mt me) κ with
            | bad => rw [e] at po; exact po.elim
            | exc c v k => exact absurd e (compL_noexc (fun v κ c p k => noExc_no _ c p k) _ κ c v k)
            | ok out =>
              rw [e] at po
              have po : Post p.g p.clA (rV p.g) w H1 (if out.1.length < LINE then .ok (Val.lst out.1, out.2) else .bad) Q (fun c d H' => p.W c d σ H') := po
              by_cases hl : out.1.length < LINE
              case neg => rw [if_neg hl] at po; exact po.elim
              rw [if_pos hl] at po
              have nI : ¬ w.I D := fun z => by
                obtain ⟨zs, q⟩ := wf.dom D z
                rw [hD] at q; cases q
              have nM : D ∉ w.μ := fun z => by
                obtain ⟨o, q⟩ := wf.mu_some z
                rw [hD] at q; cases q
              have zlen : (zipL l m).length = xs.length := by unfold zipL; rw [List.length_map, List.length_zip, ← hlen, Nat.min_self, rl.length]
              refine ⟨fun n H => ∃ w2 κ2 acc zs rest, Ext w H1 w2 H ∧ WF p.g w2 κ2 H ∧ ¬ w2.I D ∧ D ∉ w2.μ ∧ H D = some (.lst zs) ∧ RVs p.g w2.I w2.μ H acc zs ∧
                compL ((zipL l m).drop n) (turnF (.tp (.cons (.nm i) (.cons (.nm j) .nil))) ρ (ow.map (·.2)) mt me) κ2 = .ok (rest, out.2) ∧ out.1 = acc ++ rest,
                ⟨w, κ, [], [], out.1, Ext.upd_new wf hD _, wf.upd_new hD _, nI, nM, upd_same, .nil, by rw [List.drop_zero]; exact e, rfl⟩, ?_, ?_, ?_⟩
              · rintro n H2 ⟨w2, κ2, acc, zs, rest, e2, _⟩
                exact ⟨.of ((e2.keepsI wf).l _ _ ja ha), .of ((e2.keepsI wf).l _ _ jb hb)⟩
              · rintro H2 ⟨w2, κ2, acc, zs, rest, e2, wf2, nI2, nM2, hDx, ra, ec, eo⟩
                rw [← zlen, List.drop_length] at ec
                have ec : R.ok (([] : List Val), κ2) = R.ok (rest, out.2) := ec
                cases ec
                rw [List.append_nil] at eo
                exact po (.ref D) (w2.fix D) H2 (e2.fix hD) (wf2.fix hDx nM2) (.lst (.inr rfl) hDx (by rw [eo]; exact ra.keeps .fix))
              · rintro n x1 y1 T H2 ⟨w2, κ2, acc, zs, rest, e2, wf2, nI2, nM2, hDx, ra, ec, eo⟩ gx gy nT
                obtain ⟨v1, g1, rv1⟩ := (rl.ext e2 wf).get' gx
                obtain ⟨v2, g2, rv2⟩ := (rm.ext e2 wf).get' gy
                have hv : (zipL l m)[n]? = some (.tup [v1, v2]) := by
                  unfold zipL
                  have hz : (l.zip m)[n]? = some (v1, v2) := List.getElem?_zip_eq_some.mpr ⟨g1, g2⟩
                  rw [List.getElem?_map, hz]
                  rfl
                have hlt : n < (zipL l m).length := (List.getElem?_eq_some_iff.mp hv).1
                have hd : (zipL l m).drop n = .tup [v1, v2] :: (zipL l m).drop (n + 1) := drop_at hv
                rw [hd] at ec
                obtain ⟨o, κ3, rest', ef, ec', eo'⟩ := compL_cons ec
                obtain ⟨ρ2, et, ef⟩ := bind_ok_inv (noExc_ok ef)
                obtain ⟨bb, eb, ef⟩ := bind_ok_inv ef
                have et := ofO_ok_inv et
                obtain ⟨e3, wf3, rt⟩ := RV.newTup wf2 (.cons rv1 (.cons rv2 .nil)) nT
                have e13 : Ext w H1 w2 (upd H2 T (.tup [x1, y1])) := e2.trans e3
                have reW : RE p.g p.X true w2 (upd H2 T (.tup [x1, y1])) (wipeR ρ (ow.map (·.2))) (L2.wipe σ (ow.map (·.2))) := ((re.ext e13 wf).wipe _).blk
                have D3 : (upd H2 T (.tup [x1, y1])) D = some (.lst zs) := e3.fr D _ hDx nM2 (by intro _ z; cases z)
                refine ⟨T, x1, y1, rfl, .of upd_same, ?_⟩
                have hw2 : L2.wipe (((L2.wipe σ (ow.map (·.2))).set i (some x1)).set j (some y1)) (ow.map (·.2)) = L2.wipe σ (ow.map (·.2)) := by
                  rw [wipe_set hj', wipe_set hi', wipe_wipe σ fun i hi => hi]
                have re2 : RE p.g p.X true w2 (upd H2 T (.tup [x1, y1])) ρ2 (((L2.wipe σ (ow.map (·.2))).set i (some x1)).set j (some y1)) := by
                  have s1 := (reW.setV (i := i) (rv1.ext e3 wf2)).setV (i := j) (rv2.ext e3 wf2)
                  have hlen' : (wipeR ρ (ow.map (·.2))).length = ρ.length := by
                    have := reW.len
                    rw [wipe_length, ← re.len] at this
                    exact this
                  have : ρ2 = ((wipeR ρ (ow.map (·.2))).set i (some (.val v1))).set j (some (.val v2)) := by
                    exact setTg_two et
                  rw [this]
                  exact s1
                refine ⟨hw2, w2, ρ2, κ2, re2, wf3, ?_⟩
                rw [eb]
                intro b' w4 H4 e4 wf4 hb
                subst hb
                have e14 : Ext w H1 w4 H4 := e13.trans e4
                have dn : (upd H2 T (.tup [x1, y1])) D ≠ none := by rw [D3]; intro z; cases z
                have D4 : H4 D = some (.lst zs) := e4.fr D _ D3 nM2 (by intro _ z; cases z)
                have nI4 : ¬ w4.I D := fun z => (e4.new D z).elim nI2 dn
                have nM4 : D ∉ w4.μ := e4.nomu dn nM2
                have ra4 := (ra.ext e3 wf2).ext e4 wf3
                obtain ⟨cc, κb⟩ := bb
                cases cc with
                | false =>
                  have ef : R.ok ((none : Option Val), κb) = R.ok (o, κ3) := ef
                  cases ef
                  rw [if_neg (show ¬ (false = true) from Bool.false_ne_true)]
                  exact ⟨w4, _, acc, zs, rest, e14, wf4, nI4, nM4, D4, ra4, by have eo' : rest = rest' := eo'; rw [eo']; exact ec', eo⟩
                | true =>
                  have ef : ((me ρ2 κb).bind fun x => R.ok (some x.1, x.2)) = R.ok (o, κ3) := ef
                  obtain ⟨y', ey, ef⟩ := bind_ok_inv ef
                  cases ef
                  rw [if_pos rfl]
                  refine ⟨w4, ρ2, κb, re2.ext e4 wf3, wf4, ?_⟩
                  rw [ey]
                  intro z w5 H5 e5 wf5 rz
                  have dn4 : H4 D ≠ none := by rw [D4]; intro z; cases z
                  have D5 : H5 D = some (.lst zs) := e5.fr D _ D4 nM4 (by intro _ z; cases z)
                  have nI5 : ¬ w5.I D := fun z => (e5.new D z).elim nI4 dn4
                  have nM5 : D ∉ w5.μ := e5.nomu dn4 nM4
                  have ra5 := ra4.ext e5 wf4
                  have e15 : Ext w H1 w5 H5 := e14.trans e5
                  have hacc : (acc ++ [y'.1]).length ≤ out.1.length := by
                    rw [eo, (show rest = y'.1 :: rest' from eo')]
                    simp only [List.length_append, List.length_cons, List.length_nil]
                    omega
                  refine ⟨zs, D5, by rw [← ra5.length, ← LINE_eq]; simp only [List.length_append, List.length_cons, List.length_nil] at hacc; omega, w5, y'.2, acc ++ [y'.1], zs ++ [z], rest', upd_D e15 hD, wf_upd_own wf5 nI5 nM5 D5 _, nI5, nM5, upd_same, ?_, ec', ?_⟩
                  · exact (ra5.append (.cons rz .nil)).keeps (keeps_upd_own wf5 nI5 nM5 D5 _)
                  · rw [eo, (show rest = y'.1 :: rest' from eo')]; simp
end
end PL
end
section
set_option maxHeartbeats 1000000
/-! The try of the laws: what came of a lambda. -/
namespace PL
open PySem PySem.Spec PyProof.Rows L2 LamX NdefX HotX
/-- the def at a, called within a handler with the exception of the class D, answers S -/
def KinS (P : Program) (W : World) (g : Gx) (mg : Str → Option Value) (base : Heap) (d : Nat) (a D : Addr) (S : Str) : Prop :=
  ∀ (A : Around) (outer : List Env) (s : Shared) (H : Hp) (q : Addr × Obj) (Q : VK) (E : XK) (w : Wd) (κ : Ks), L2H.RoomH d A → L2H.Hot1 A q → L2H.PinOk outer H s q → Zc (.ref D) none q.2 → Env0 P W g.K mg base A outer s H → WF g w κ H →
    (∀ w' H', Ext w H w' H' → WF g w' κ H' → Q (.str S) H') → codeAny (model P W) A (.call (.ref a) ⟨[.ref q.1], []⟩) (CR (L2N.CX P W) outer P W H s Q E) s
/-- the body's place -/
def kinPl (g : Gx) (clA : Nat → Addr) (P : Program) (W : World) (mg : Str → Option Value) (base : Heap) (N : List Str) (qual : Str) (scope : Scope) (f : Addr) (cd : Value) (A : Around) (outer : List Env) (s : Shared) (H : Hp) (E : XK) (q : Addr × Obj) : Pl :=
  ⟨g, clA, L2H.cxH (L2N.CX P W) P W g.K mg base N qual scope f cd A outer s H E q, fun c d _ H' => E c d H', false⟩
section
variable {P : Program} {W : World} {g : Gx} {clA : Nat → Addr} {mg : Str → Option Value} {base : Heap} {d : Nat} {x par qual : Str} {params : Arguments} {body : List Stmt} {scope : Scope} {kws : List (Str × V)} {f : Addr} {fd : FuncData} {N : List Str} {m : Rho → Ks → O}
theorem kin_of {D : Addr} {S : Str} (F : FunD g.K x qual params body scope [] kws f fd) (Sc : FnScope N [par] scope) (hb : ∀ (kV doc pm : Value) (an : Option Addr) (cdv ct : Value) (us : List Value), us.length = [par].length → bindArgs (PySem.W.fnOf x qual params body scope .none kV doc pm an cdv ct) ⟨us, []⟩ = pure ([par].zip us))
    (hbody : ∀ cd A outer s H E (q : Addr × Obj), L2H.Hot1 A q → Zc (.ref D) none q.2 → (∃ vs, q.2.data = .fields vs) → SSs (kinPl g clA P W mg base N qual scope f cd A outer s H E q) false body m)
    (hm : ∀ κ, m (some Slot.pin :: List.replicate (N.length - 1) none) κ = .ret (.str S) κ) : KinS P W g mg base d f D S := by
  intro A outer s H q Q E w κ hr hot pin hz e0 wf po
  have hB := F.bindsN hb
  obtain ⟨oc, od, dV, kV, doc, pm, an, cdv, ct, osl, rfl, lk, hcd, hD, hK⟩ := F.ex
  have KX : g.K.In s.heap := e0.mod.kin.keeps fun b o e => (e0.bs b o e).1
  have lim : s.heap.NoLimit := e0.mod.nolimit.keeps fun b o e => (e0.bs b o e).1
  have hbt := hB s [.ref q.1] KX rfl
  rw [List.append_nil] at hbt
  have kinds : ∀ y ∈ [par].zip [Value.ref q.1], scope.names.lookup y.1 = some .local ∨ (scope.names.lookup y.1 = some .cell ∧ ((cellsFrom (s.heap.objs.size + 1) scope.names []).lookup y.1).isSome = true) := fun ⟨n, v⟩ hy =>
    (Sc.par n (List.of_mem_zip hy).1).elim .inl fun k => .inr ⟨k, PySem.W.cellsFrom_some _ _ _ (.inl k)⟩
  refine codeAny_call_function hr.depth (KX _ _ lk) rfl Sc.co Sc.gen rfl (PySem.W.codeRec_of KX hcd) (hbt _ _ _ _ ?_)
  refine wpAny_newFunctionEnv_cells Sc.kind kinds fun env he s1 x1 => ?_
  subst he
  refine ⟨lim.keeps x1.toInCall.keep, codeAny_func ?_⟩
  have rv : Vals [V.ref q.1] [Value.ref q.1] := .cons rfl .nil
  have I := L2H.inv_startH (CX := L2N.CX P W) (E := E) (N := N) Sc pin e0 rfl rv x1
  have hf : ∃ vs, q.2.data = .fields vs := by
    obtain ⟨_, vs, e, _⟩ := hot
    exact ⟨vs, e⟩
  have nl : N.length ≠ 0 := fun z => by
    have := congrArg List.length Sc.pre
    rw [List.length_take] at this
    simp [z] at this
  have re : RE g (kinPl g clA P W mg base N qual scope f cdv A outer s H E q).X false w H (some Slot.pin :: List.replicate (N.length - 1) none) (L2.start N [V.ref q.1]) := by
    refine ⟨?_, fun i sl e => ?_, fun i j l l' a e => ?_⟩
    · unfold L2.start
      simp
    · cases i with
      | zero =>
        cases e
        exact .inr ⟨q, rfl, rfl⟩
      | succ i =>
        have e : (List.replicate (N.length - 1) none)[i]? = some (some sl) := e
        rw [List.getElem?_replicate] at e
        split at e <;> cases e
    · cases i with
      | zero => cases e
      | succ i =>
        have e : (List.replicate (N.length - 1) none)[i]? = some (some (Slot.own l)) := e
        rw [List.getElem?_replicate] at e
        split at e <;> cases e
  refine wpAny_mono ((hbody cdv A outer s H E q hot hz hf).run [] s1 _ H { nx := fun _ H' => Q .non H', rt := Q } I ⟨w, w, _, κ, ⟨re, wf, Ext.refl w H⟩, ?_⟩) (fun fl s' hs => ?_) fun e s' hs => hs
  · rw [hm]
    intro y w' H' e1 wf1 r1
    have r1 : RV g w'.I w'.μ H' (.str S) y := r1
    cases r1
    exact po w' H' e1 wf1
  · cases fl with
    | ret u =>
      obtain ⟨v, σ', H', J, r, hq⟩ := hs
      exact ⟨v, H', J.os, J.bare, J.base, J.hok, r, hq⟩
    | next =>
      obtain ⟨σ', H', J, hq⟩ := hs
      exact ⟨V.non, H', J.os, J.bare, J.base, J.hok, rfl, hq⟩
    | brk =>
      obtain ⟨_, _, _, hq⟩ := hs
      exact False.elim hq
    | cont =>
      obtain ⟨_, _, _, hq⟩ := hs
      exact False.elim hq
end
def tBody (p : Pl) (cl : Nat → List Val → Ks → R (Val × Ks)) (i : Nat) (W : WX) : TS := fun D σ H => ∃ w0 w κ k caps x, σ[i]? = some (some x) ∧ RX1 p.g w H k caps x ∧ WF p.g w κ H ∧ Ext w0 p.X.H_0 w H ∧ match cl k caps κ with
  | .ok q => ∀ y w' H', Ext w0 p.X.H_0 w' H' → WF p.g w' q.2 H' → RV p.g w'.I w'.μ H' (.tup [q.1, .str ⟨#[]⟩]) y → D.rt y H'
  | .exc c .non κ' => ∀ σ' w' H', Ext w0 p.X.H_0 w' H' → WF p.g w' κ' H' → W (.ref (p.clA c)) none σ' H'
  | _ => False
def tSuite (p : Pl) (kin : Nat → Str) (j : Nat) (a : Addr) (cls : Value) (d : Option Addr) : TS := fun D σ H => ∃ w0 w κ c σ', cls = .ref (p.clA c) ∧ d = none ∧ σ = List.set σ' j (some (V.ref a)) ∧ WF p.g w κ H ∧ Ext w0 p.X.H_0 w H ∧
  ∀ y w' H', Ext w0 p.X.H_0 w' H' → WF p.g w' κ H' → RV p.g w'.I w'.μ H' (.tup [.non, .str (kin c)]) y → D.rt y H'

theorem re_one {g : Gx} {X : Cx} {b : Bool} {w : Wd} {H : Hp} {σ : L2.St} {i : Nat} {sl : Slot} (no : ∀ l, sl ≠ .own l) (h : SlotOk g X b w H σ i sl) : RE g X b w H ((List.replicate σ.length none).set i (some sl)) σ := by
  have key : ∀ (j : Nat) (u : Slot), ((List.replicate σ.length none).set i (some sl))[j]? = some (some u) → i = j ∧ u = sl := fun j u e => by
    rcases getElem?_set_cases e with ⟨e1, _, e2⟩ | ⟨_, e⟩
    · cases e2; exact ⟨e1, rfl⟩
    · rw [List.getElem?_replicate] at e
      split at e <;> cases e
  refine ⟨by rw [List.length_set, List.length_replicate], fun j u e => ?_, fun j k l m a h1 _ _ _ => absurd (key j _ h1).2.symm (no l)⟩
  obtain ⟨rfl, rfl⟩ := key j u e
  exact h
theorem rdX_one {n i : Nat} {y : Ex} (h : i < n) : rdX ((List.replicate n none).set i (some (.ext y))) i = some y := by
  unfold rdX
  rw [List.getElem?_set_self (by rw [List.length_replicate]; exact h)]
theorem SS_came {p : Pl} {d i j k1 k2 c1 c2 : Nat} {x n xm kn z : Str} {ka cm : Addr} {p1 p2 p3 p4 p5 p6 p7 p8 p9 p10 p11 p12 p13 p14 : Pos} {cl : Nat → List Val → Ks → R (Val × Ks)} {kin : Nat → Str} (F : ∀ k, LmS p.X.prog p.X.w p.g p.clA p.X.mg p.X.base d k (cl k))
    (Kn : ∀ c, KinS p.X.prog p.X.w p.g p.X.mg p.X.base d ka (p.clA c) (kin c)) (hK : p.X.K = p.g.K) (hr : Room d p.X.A) (tk : L2N.Takes p.X p.W) (hs : p.X.stack = p.X.env :: p.X.outer) (hf : p.X.env.frame = some p.X.env.locals) (hN : p.X.N.Nodup) (hj : p.X.N[j]? = some n)
    (hln : p.X.env.kindOf n = some .local) (hc : Names p.X xm (.ref cm)) (hex : ∀ c, PySem.W.exmOne p.X.K (.ref (p.clA c)) (.ref cm) = some true) (hi : p.X.N[i]? = some x) (hv : Vis p.X.env.scope x) (hd : (x == ("__debug__" : Str)) = false) (hcd : (x == ("__classdict__" : Str)) = false)
    (hnd : (n == ("__debug__" : Str)) = false) (hncd : (n == ("__classdict__" : Str)) = false) (hkg : Gl p.X kn) (hkm : p.X.mg kn = some (.ref ka)) (hkk : PySem.W.keepIn p.X.K (.ref ka) = true) (hkd : (kn == ("__debug__" : Str)) = false) (hz : z = ⟨#[]⟩) :
    SS p false (.Try [.Return (some (.Tuple [.Call (.Name x p1) [] [] p2, .Constant (.str z) c1 p3] k1 p4)) p5] [.ExceptHandler (some (.Name xm p6)) (some n) [.Return (some (.Tuple [.Constant .none c2 p7, .Call (.Name kn p8) [.Name n p9] [] p10] k2 p11)) p12] p13] [] [] p14) (cameO cl kin i) := by
  subst hz
  have bodyOk : ∀ (W : WX) (pn : List (Addr × Obj)) (xe : Value → Shared → Prop), L2N.Takes (p.X.tr pn xe) W → PassesOwn (model p.X.prog p.X.w) p.X.A p.X.env xe → PSs (p.X.tr pn xe) [.Return (some (.Tuple [.Call (.Name x p1) [] [] p2, .Constant (.str ⟨#[]⟩) c1 p3] k1 p4)) p5] (tBody p cl i W) := fun W pn xe tk' _ => by
    have h : SE ⟨p.g, p.clA, p.X.tr pn xe, W, false⟩ (.Tuple [.Call (.Name x p1) [] [] p2, .Constant (.str ⟨#[]⟩) c1 p3] k1 p4) _ :=
      SE_tup (SEs_cons (SE_callv (p := ⟨p.g, p.clA, p.X.tr pn xe, W, false⟩) F hK hr tk' hi hv hd hcd) (SEs_cons (SE_con (p := ⟨p.g, p.clA, p.X.tr pn xe, W, false⟩) (u := .str ⟨#[]⟩) pe_str fun w H => .str _) SEs_nil rfl) rfl)
    refine (SSs_cons (SS_ret (pos := p5) h) SSs_nil).imp fun D σ H ⟨w0, w, κ, k, caps, xx, hx, rx, wf, e0, po⟩ => ?_
    have lt : i < σ.length := (List.getElem?_eq_some_iff.mp hx).1
    refine ⟨w0, w, (List.replicate σ.length none).set i (some (.ext (.one k caps))), κ, ⟨re_one (by intro l q; cases q) ⟨xx, hx, .one rx⟩, wf, e0⟩, ?_⟩
    dsimp only
    rw [rdX_one lt]
    dsimp only
    revert po
    cases cl k caps κ with
    | ok q => exact fun po => po
    | exc c v κ' =>
      cases v with
      | non => exact fun po => po
      | _ => exact fun po => po.elim
    | bad => exact fun po => po.elim
  have suiteOk : ∀ (a : Addr) (oe : Obj) (cls : Value) (dd : Option Addr) (pn : List (Addr × Obj)), L2N.Zn cls dd oe → (∃ vs, oe.data = .fields vs) →
      PSs (p.X.suite a ((a, oe) :: pn)) [.Return (some (.Tuple [.Constant .none c2 p7, .Call (.Name kn p8) [.Name n p9] [] p10] k2 p11)) p12] (tSuite p kin j a cls dd) := fun a oe cls dd pn hz hf => by
    have call : ∀ (c : Nat), cls = .ref (p.clA c) → dd = none → PE (p.X.suite a ((a, oe) :: pn)) (.Call (.Name kn p8) [.Name n p9] [] p10) (fun σ H Q => σ[j]? = some (some (.ref a)) ∧ ∃ w κ, WF p.g w κ H ∧ ∀ w' H', Ext w H w' H' → WF p.g w' κ H' → Q (.str (kin c)) H') := fun c ec ed => by
      subst ec
      subst ed
      refine ⟨fun pins s σ H Q I ⟨hσ, w, κ, wf, po⟩ => wpAny_Call_Name_kw (ld_glob I hkg hkm ?_ hkd)⟩
      refine PySem.W.callWith_K (h₀ := p.X.base) I.ok.mod.kin hkk (thn ((pa_cons (pe_var (X := p.X.suite a ((a, oe) :: pn)) (i := j) hj (.inl hln) hnd hncd) pa_nil rfl).run p10 pins s σ H (fun vs H1 => vs = [.ref a] ∧ H1 = H) I ⟨.ref a, hσ, rfl, rfl⟩) fun us s1 ⟨vs, H1, I1, r, ev, eH⟩ => ⟨I1.kIn, ?_⟩) rfl rfl
      subst ev
      subst eH
      cases r with
      | cons r1 rt =>
        cases rt
        cases r1
        show wpAny _ _ (call (.ref ka) [.ref a]) _ _ _
        have e0 := I1.env0
        have P1 := I1.pin (a, oe) (List.mem_append_left _ List.mem_cons_self)
        obtain ⟨vs, hv'⟩ := hf
        refine wpAny_call (codeAny_mono (Kn c (p.X.suite a ((a, oe) :: pn)).A (p.X.suite a ((a, oe) :: pn)).stack s1 H1 (a, oe) Q (fun _ _ _ => False) w κ (show L2H.RoomH d (p.X.A.mark (some (.ref a))) from ⟨hr.dp, hr.un⟩) ⟨rfl, vs, hv', hz.2.2 vs hv'⟩
          ⟨P1.1, P1.2.1, fun hm => (List.mem_cons.mp (I1.stkSub a hm)).elim P1.2.2.1 P1.2.2.2.1, P1.2.2.2.2⟩ ⟨hz.1, hz.2.1⟩ (by rw [← hK]; exact e0) wf po) fun r s' hq => ?_)
        cases r with
        | error e =>
          obtain ⟨_, _, _, _, _, _, _, _, _, _, _, _, q⟩ := hq
          exact q.elim
        | ok fl =>
          cases fl with
          | ret u => exact I1.after hq
          | next => exact False.elim hq
          | brk => exact False.elim hq
          | cont => exact False.elim hq
    refine ⟨fun pins s σ H D I ⟨w0, w, κ, c, σ', ec, ed, es, wf, e0, po⟩ => ?_⟩
    have run := (pss_one (ps_ret (pos := p12) (pe_tup (pos := p11) (x1 := k2) (pa_cons (pe_non (X := p.X.suite a ((a, oe) :: pn)) (j := c2) (pos := p7)) (pa_cons (call c ec ed) pa_nil rfl) rfl)))).run pins s σ H D I
    refine run ?_
    have lt : j < σ'.length := by
      have := I.len
      rw [es, List.length_set] at this
      rw [this]
      exact (List.getElem?_eq_some_iff.mp hj).1
    refine ⟨by rw [es]; exact List.getElem?_set_self lt, w, κ, wf, fun w' H' e1 wf1 => ⟨by show 2 ≤ sizeLine; decide, fun q hq => ?_⟩⟩
    obtain ⟨e2, wf2, r2⟩ := RV.newTup wf1 (l := [.non, .str (kin c)]) (xs := [.non, .str (kin c)]) (.cons .non (.cons (.str _) .nil)) hq
    exact po _ w' _ ((e0.trans e1).trans e2) wf2 r2
  refine (L2N.ps_try_as (x := xm) (n := n) (i := j) hs hf hN hj hln hc tk bodyOk suiteOk).imp fun D σ H ⟨w0, w, ρ, κ, c0, po⟩ => ?_
  unfold cameO at po
  split at po
  · rename_i k caps er
    obtain ⟨xx, hx, rx⟩ := c0.re.rdX er
    cases rx with
    | one rx =>
      refine ⟨w0, w, κ, k, caps, xx, hx, rx, c0.wf, c0.e0, ?_⟩
      revert po
      cases cl k caps κ with
      | ok q => exact fun po => po
      | exc c v κ' =>
        cases v with
        | non => exact fun po σ' w' H' e1 wf1 => ⟨true, hex c, fun _ a _ => ⟨w0, w', κ', c, σ', rfl, rfl, rfl, wf1, e1, po⟩, fun z => nomatch z⟩
        | _ => exact fun po => po.elim
      | bad => exact fun po => po.elim
  · exact po.elim
end PL
end
section
set_option maxHeartbeats 1000000
/-! [x for x in calls if test], the calls lambdas, none of which passes the test. -/
namespace PL
open PySem PySem.Spec PyProof.Rows L2 LamX NdefX
theorem pe_no {X : Cx} {e : Expr} : PE X e (fun _ _ _ => False) := ⟨fun _ _ _ _ _ _ h => h.elim⟩
theorem RXs.length {g : Gx} {w : Wd} {H : Hp} : ∀ {l : List (Nat × List Val)} {xs : List V}, RXs g w H l xs → l.length = xs.length
  | _, _, .nil => rfl
  | _, _, .cons _ t => by simp [RXs.length t]
theorem RXs.get' {g : Gx} {w : Wd} {H : Hp} : ∀ {l : List (Nat × List Val)} {xs : List V} {i : Nat} {x : V}, RXs g w H l xs → xs[i]? = some x → ∃ v, l[i]? = some v ∧ RX1 g w H v.1 v.2 x
  | _, _, _, _, .nil, e => by simp at e
  | _, _, 0, _, .cons r _, e => by simp at e; subst e; exact ⟨_, rfl, r⟩
  | _, _, i + 1, x, .cons _ t, e => by
    obtain ⟨v, h1, h2⟩ := RXs.get' (i := i) (x := x) t (by simpa using e)
    exact ⟨v, by simpa using h1, h2⟩
theorem sql_inj {K : PySem.W.Frag} {H : Hp} {a : Addr} {xs ys : List V} (h : H a = some (.lst xs)) (q : SqL K H a ys) (nk : K.lookup a = none) : ys = xs := by
  rcases q with (q | ⟨o, q⟩) | ⟨o, its, n, q, _⟩
  · rw [h] at q; cases q; rfl
  · rw [h] at q; cases q
  · rw [nk] at q; cases q
theorem filtL_noexc {f : Nat → List Val → Ks → R (Bool × Ks)} (hf : ∀ k caps κ c p k', f k caps κ ≠ .exc c p k') : ∀ (l : List (Nat × List Val)) (κ : Ks) c p k', filtL l f κ ≠ .exc c p k'
  | [], _, _, _, _ => fun h => nomatch h
  | q :: l, κ, c, p, k' => fun h => by
    unfold filtL at h
    cases e : f q.1 q.2 κ with
    | ok b =>
      rw [e] at h
      have h : (if b.1 = true then R.bad else filtL l f b.2) = .exc c p k' := h
      split at h
      · cases h
      · exact filtL_noexc hf l b.2 c p k' h
    | exc c' v' k'' => exact hf _ _ _ _ _ _ e
    | bad => rw [e] at h; cases h
section
variable {p : Pl} {elt cond : Expr} {x y : Str} {tgi src : Nat} {scope : Scope} {pos px py : Pos} {mt : Rho → Ks → R (Bool × Ks)}
theorem FE_filt (hK : p.X.K = p.g.K) (hc : p.X.calm = true) (hN : p.X.N.Nodup) (hs : p.X.N[src]? = some x) (hv : Vis p.X.env.scope x) (hd : (x == ("__debug__" : Str)) = false) (hcd : (x == ("__classdict__" : Str)) = false)
    {ow : List (Str × Nat)} (how : ow.map (·.2) = [tgi]) (ok : BlkOk p.X.N p.X.env.scope scope ow) (hg : ∀ (s : Shared) (H : Hp) (C : Addr) (cl : List (Str × Addr)) (fp : List Addr), PG (blkX p.X scope s H C cl fp) (.Name y py) (gName tgi))
    (ht : ∀ (s : Shared) (H : Hp) (C : Addr) (cl : List (Str × Addr)) (fp : List Addr), STt (p.blk scope s H C cl fp) cond mt) (hF : ∀ z, foldedSetIterable (.Name x px) p.X.env z = pure z) :
    FE p (.ListComp elt [⟨.Name y py, .Name x px, [cond], 0⟩] scope pos) (fun ρ κ => match rdX ρ src with
      | some (.many l) => (filtL l (fun k caps κ' => noExc (mt (ρ.set tgi (some (.ext (.one k caps)))) κ')) κ).bind fun κ' => .ok (.lst [], κ')
      | _ => .bad) := by
  refine (pe_lc (g := gName tgi) (tt := tG p.inB (fun _ _ a b => a = b) mt) (te := fun _ _ _ => False) hc hN (pi_seq (pe_var hs hv hd hcd)) ok hg (fun s H C cl fp => ⟨fun pins s' σ H' Q I q => (pts_one (ht s H C cl fp)).run pins s' σ H' Q I (tG_blk q)⟩) (fun _ _ _ _ _ => pe_no) hF).imp fun σ H Q ⟨w, ρ, κ, re, wf, po⟩ => ?_
  rw [how]
  have po : Post p.g p.clA (rF p.g H) w H (match rdX ρ src with
    | some (.many l) => (filtL l (fun k caps κ' => noExc (mt (ρ.set tgi (some (.ext (.one k caps)))) κ')) κ).bind fun κ' => .ok (.lst [], κ')
    | _ => .bad) Q (fun c d H' => p.W c d σ H') := po
  split at po
  case h_2 => exact po.elim
  rename_i l er
  obtain ⟨z, hz, rz⟩ := re.rdX er
  cases rz with
  | @many _ a xs j ha rl =>
    refine ⟨_, hz, a, rfl, .inl ⟨⟨xs, .of ha⟩, fun D hD => ?_⟩⟩
    have ne := fun c v k => filtL_noexc (f := fun k caps κ' => noExc (mt (ρ.set tgi (some (.ext (.one k caps)))) κ')) (fun _ _ _ _ _ _ => noExc_no _ _ _ _) l κ c v k
    cases e : filtL l (fun k caps κ' => noExc (mt (ρ.set tgi (some (.ext (.one k caps)))) κ')) κ with
    | bad => rw [e] at po; exact po.elim
    | exc c v k => exact absurd e (ne c v k)
    | ok κo =>
      rw [e] at po
      have po : Post p.g p.clA (rF p.g H) w H (.ok (.lst [], κo)) Q (fun c d H' => p.W c d σ H') := po
      have nI : ¬ w.I D := fun z => by
        obtain ⟨zs, q⟩ := wf.dom D z
        rw [hD] at q; cases q
      have nM : D ∉ w.μ := fun z => by
        obtain ⟨o, q⟩ := wf.mu_some z
        rw [hD] at q; cases q
      have hlen := rl.length
      refine ⟨fun i m H' => m = l.length - i ∧ i ≤ l.length ∧ ∃ w2 κ2, Ext w H w2 H' ∧ WF p.g w2 κ2 H' ∧ ¬ w2.I D ∧ D ∉ w2.μ ∧ H' D = some (.lst []) ∧ filtL (l.drop i) (fun k caps κ' => noExc (mt (ρ.set tgi (some (.ext (.one k caps)))) κ')) κ2 = .ok κo,
        ⟨l.length, by simp, Nat.zero_le _, w, κ, Ext.upd_new wf hD _, wf.upd_new hD _, nI, nM, upd_same, by rw [List.drop_zero]; exact e⟩, ?_⟩
      rintro i m H2 ⟨rfl, hil, w2, κ2, e2, wf2, nI2, nM2, hDx, ec⟩
      have ha2 := (e2.keepsI wf).l _ _ j ha
      by_cases hlt : i < l.length
      case neg =>
        have ei : i = l.length := by omega
        subst ei
        refine .inl ⟨⟨xs, .of ha2, by omega⟩, ?_⟩
        rw [List.drop_length] at ec
        have ec : R.ok κ2 = R.ok κo := ec
        cases ec
        exact po (.ref D) w2 H2 e2 wf2 ⟨[], D, [], rfl, rfl, hD, hDx, .nil, nI2, nM2⟩
      case pos =>
        have gx : xs[i]? = some (xs[i]'(by omega)) := List.getElem?_eq_getElem _
        refine .inr ⟨⟨xs, _, .of ha2, gx⟩, _, fun H' hN => ⟨l.length - (i + 1), by omega, hN⟩, fun x' H3 ⟨eH, hy⟩ => ?_⟩
        subst eH
        have ex := hy xs (.of ha2)
        obtain ⟨v, hv, rv⟩ := (rl.ext e2 wf).get' ex
        rw [drop_at hv] at ec
        unfold filtL at ec
        obtain ⟨bb, eb, ec⟩ := bind_ok_inv ec
        have eb := noExc_ok eb
        obtain ⟨bo, κb⟩ := bb
        have re2 : RE p.g p.X true w2 H3 (ρ.set tgi (some (.ext (.one v.1 v.2)))) ((L2.wipe σ [tgi]).set tgi (some x')) := by
          have h1 := (((re.ext e2 wf).wipe [tgi]).blk (X' := p.X)).set (i := tgi) (x := x') (sl := .ext (.one v.1 v.2)) (fun σ' hσ => ⟨x', hσ, .one rv⟩) (fun _ z => nomatch z)
          have h2 : (wipeR ρ [tgi]).set tgi (some (.ext (.one v.1 v.2))) = ρ.set tgi (some (.ext (.one v.1 v.2))) := List.set_set ..
          rw [h2] at h1
          exact h1
        refine ⟨?_, w2, _, κ2, re2, wf2, ?_⟩
        · rw [wipe_set (List.mem_singleton.mpr rfl), wipe_wipe σ fun i hi => hi]
        rw [eb]
        intro b' w4 H4 e4 wf4 hb
        subst hb
        cases bo with
        | true => rw [if_pos rfl] at ec; cases ec
        | false =>
          rw [if_neg Bool.false_ne_true] at ec ⊢
          have dn : H3 D ≠ none := by rw [hDx]; intro z; cases z
          exact ⟨rfl, hlt, w4, κb, e2.trans e4, wf4, fun z => (e4.new D z).elim nI2 dn, e4.nomu dn nM2, e4.fr D _ hDx nM2 (by intro _ z; cases z), ec⟩
end
end PL
end
section
set_option maxHeartbeats 1000000
/-! The rules, told of the IR. -/
namespace PL
open PySem PySem.Spec PyProof.Rows L2 LamX NdefX
/-- what holds at each place -/
structure Cok (d : Nat) (p : Pl) : Prop where
  hK : p.X.K = p.g.K
  hr : Room d p.X.A
  tk : L2N.Takes p.X p.W
  calm : p.X.calm = true
  nd : p.X.N.Nodup
theorem Cok.hu {d : Nat} {p : Pl} (C : Cok d p) : p.X.A.units + 64 < cLine := by
  have := C.hr.un
  omega
theorem takes_no {X : Cx} {W : WX} (h : ∀ c d σ H, ¬ W c d σ H) : L2N.Takes X W := fun u s' x => by
  obtain ⟨_, _, _, _, _, _, _, _, _, _, _, _, _, _, _, _, q⟩ := x
  exact absurd q (h _ _ _ _)
theorem Cok.blk {d : Nat} {p : Pl} (C : Cok d p) (scope : Scope) (s : Shared) (H : Hp) (X : Addr) (cl : List (Str × Addr)) (fp : List Addr) : Cok d (p.blk scope s H X cl fp) :=
  ⟨C.hK, C.hr, takes_no fun _ _ _ _ z => z, C.calm, C.nd⟩
theorem cok_def {g : Gx} {clA : Nat → Addr} {P : Program} {W : World} {mg : Str → Option Value} {base : Heap} {N : List Str} {qual : Str} {scope : Scope} {f : Addr} {cd : Value} {A : Around} {outer : List Env} {s : Shared} {H : Hp} {E : XK} {d : Nat}
    (hr : Room d (A.deeper (envOfC qual scope s.heap.objs.size f cd))) (nd : N.Nodup) : Cok d (defPl g clA P W mg base N qual scope f cd A outer s H E) := ⟨rfl, hr, takes_def, rfl, nd⟩
theorem cok_lam {g : Gx} {clA : Nat → Addr} {P : Program} {W : World} {mg : Str → Option Value} {base : Heap} {L : LamI} {cl : List (Str × Addr)} {c' f : Addr} {A : Around} {outer : List Env} {s : Shared} {H : Hp} {E : XK} {d : Nat}
    (hr : Room d (A.deeper (envF (lnf L cl c') f s.heap.objs.size))) (nd : L.fr.Nodup) : Cok d (lamPl g clA P W mg base L cl c' f A outer s H E) := ⟨rfl, hr, takes_lam, rfl, nd⟩
section
variable {c : CB} {d : Nat} {p : Pl} {pos np q q2 : Pos} {i j : Nat} {x y z : Str} {a b e e1 e2 e3 : Expr} {ea eb ee : E} {es : List Expr} {l : Es}
abbrev JE (p : Pl) (c : CB) (x : Expr) (e : E) : Prop := SE p x (evE c e)
abbrev JB (p : Pl) (c : CB) (x : Expr) (e : E) : Prop := SB p x (fun ρ κ => bw e ρ κ (evE c e ρ κ))
abbrev JT (p : Pl) (c : CB) (x : Expr) (t : T) : Prop := STt p x (evT c t)
abbrev JW (p : Pl) (c : CB) (x : Expr) (t : T) : Prop := SW p x (evT c t)
abbrev JL (p : Pl) (c : CB) (x : List Expr) (t : Es) : Prop := SEs p x (evEs c t)
abbrev JLB (p : Pl) (c : CB) (x : List Expr) (t : Es) : Prop := SBs p x (evBs c t)
abbrev JA (p : Pl) (c : CB) (x : List Expr) (t : As) : Prop := SA p x (evA c t)
/-- no name of the language's own -/
def okN (x : Str) : Bool := !(x == ("__debug__" : Str)) && !(x == ("__classdict__" : Str)) && !decide (x = "__name__")
theorem okN1 (h : okN x = true) : (x == ("__debug__" : Str)) = false := by
  unfold okN at h
  cases e : (x == ("__debug__" : Str)) with
  | false => rfl
  | true => rw [e] at h; cases h
theorem okN2 (h : okN x = true) : (x == ("__classdict__" : Str)) = false := by
  unfold okN at h
  cases e : (x == ("__classdict__" : Str)) with
  | false => rfl
  | true => rw [e] at h; simp at h
theorem okN3 (h : okN x = true) : x ≠ "__name__" := fun z => by
  unfold okN at h
  rw [z] at h
  revert h
  decide
/-- a name's facts -/
structure Nm (p : Pl) (i : Nat) (x : Str) : Prop where
  n : p.X.N[i]? = some x
  v : Vis p.X.env.scope x
  k : okN x = true
theorem rVar (h : Nm p i x) : JE p c (.Name x pos) (.var i) := SE_var h.n h.v (okN1 h.k) (okN2 h.k)
theorem bVar (h : Nm p i x) : JB p c (.Name x pos) (.bor i) := SB_bor h.n h.v (okN1 h.k) (okN2 h.k)
theorem bOf (h : JE p c a ea) (hb : ∀ ρ κ r, bw ea ρ κ r = r) : JB p c a ea := by
  have e : (fun ρ κ => bw ea ρ κ (evE c ea ρ κ)) = evE c ea := funext fun ρ => funext fun κ => hb ρ κ _
  show SB p a _
  rw [e]
  exact SB.of h
theorem rInt {n : Int} : JE p c (.Constant (.int n) j pos) (.con (.int n)) := SE_con pe_int fun w H => .int n
theorem rBl {n : Bool} : JE p c (.Constant (.bool n) j pos) (.con (.bl n)) := SE_con pe_bl fun w H => .bl n
theorem rStr {n : Str} : JE p c (.Constant (.str n) j pos) (.con (.str n)) := SE_con pe_str fun w H => .str n
theorem rNon : JE p c (.Constant .none j pos) (.con .non) := SE_con pe_non fun w H => .non
theorem rGInt {n : Int} (hg : Gl p.X x) (hm : ∃ t, p.X.mg x = some (.int n t)) (hd : okN x = true) : JE p c (.Name x pos) (.glob j (.int n)) := by
  obtain ⟨t, hm⟩ := hm
  exact SE_con (v := .int n) (pe_glob hg hm ⟨t, rfl⟩ (okN1 hd)) fun w H => .int n
theorem rGTup {A : Addr} {xs : List V} {l : List Val} (hg : Gl p.X x) (hm : p.X.mg x = some (.ref A)) (hq : ∀ H, SqT p.g.K H A xs) (hr : ∀ (w : Wd) (H : Hp), RVs p.g w.I w.μ H l xs) (hd : okN x = true) : JE p c (.Name x pos) (.glob j (.tup l)) :=
  SE_con (v := .ref A) (pe_glob hg hm rfl (okN1 hd)) fun w H => .tup (hq H) (hr w H)
theorem rOp (C : Cok d p) (o : Op) (ha : JB p c a ea) (hb : JB p c b eb) : JE p c (.BinOp a (pyOp o) b pos) (.op o ea eb) := by
  obtain ⟨r, h1, h2⟩ := opr C.hK o
  exact SE_bin h1 h2 ha hb
theorem rCm (C : Cok d p) (o : Cm) (ha : JB p c a ea) (hb : JB p c b eb) (hm : behindInMarks (pyCm o) b = false) : JE p c (.Compare a [pyCm o] [b] pos) (.cm o ea eb) := by
  obtain ⟨r, h1, h2⟩ := cmr C.hK C.hu o
  exact SE_cm h1 h2 ha hb hm
theorem rChain (C : Cok d p) (o o' : Cm) {m : Expr} {em : E} (ha : JE p c a ea) (hm' : JE p c m em) (hb : JE p c b eb) (hm : lastMarks [pyCm o, pyCm o'] [m, b] = false) : JE p c (.Compare a [pyCm o, pyCm o'] [m, b] pos) (.chain o o' ea em eb) := by
  obtain ⟨r, h1, h2⟩ := cmr C.hK C.hu o
  obtain ⟨r', h3, h4⟩ := cmr C.hK C.hu o'
  exact SE_chain h1 h2 h3 h4 ha hm' hb hm
theorem rNeg (ha : JE p c a ea) : JE p c (.UnaryOp .USub a pos) (.neg ea) := SE_neg ha
theorem rNot (ha : JE p c a ea) : JE p c (.UnaryOp .Not a pos) (.not ea) := SE_not ha
theorem rOne {op : BoolOp} (ha : JE p c a ea) : JE p c (.BoolOp op [a] pos) ea := pe_one ha
theorem rAnd {rest : List Expr} (ha : JE p c a ea) (hb : JE p c (.BoolOp .And (b :: rest) pos) eb) : JE p c (.BoolOp .And (a :: b :: rest) pos) (.and ea eb) := SE_and ha hb
theorem rOr {rest : List Expr} (ha : JE p c a ea) (hb : JE p c (.BoolOp .Or (b :: rest) pos) eb) : JE p c (.BoolOp .Or (a :: b :: rest) pos) (.or ea eb) := SE_or ha hb
theorem rIte {t : T} (ht : JT p c e t) (ha : JE p c a ea) (hb : JE p c b eb) : JE p c (.IfExp e a b pos) (.ite t ea eb) := SE_ite ht ha hb
theorem rTup {x1 : Nat} (h : JL p c es l) : JE p c (.Tuple es x1 pos) (.tup l) := SE_tup h
theorem rLst (h : JL p c es l) : JE p c (.List es pos) (.lst l) := SE_lst h
theorem lNil : JL p c [] .nil := SEs_nil
theorem lCons (ha : JE p c a ea) (hs : JL p c es l) (hst : starEach (a :: es) p.X.env = (false, eval a p.X.env) :: starEach es p.X.env) : JL p c (a :: es) (.cons ea l) := SEs_cons ha hs hst
theorem lbNil : JLB p c [] .nil := SBs_nil
theorem lbCons (ha : JB p c a ea) (hs : JLB p c es l) (hst : starEach (a :: es) p.X.env = (false, eval a p.X.env) :: starEach es p.X.env) : JLB p c (a :: es) (.cons ea l) := SBs_cons ha hs hst
theorem rIx (C : Cok d p) (ha : JB p c a ea) (hb : JE p c b eb) (hs : PlainIx b) : JE p c (.Subscript a b pos) (.ix ea eb) := SE_ix C.hK ha hb hs
abbrev JO (p : Pl) (c : CB) (x : Option Expr) (t : Oe) : Prop := SO p x (evO c t)
theorem oNo : JO p c none .no := SO_no
theorem oYes (h : JE p c a ea) : JO p c (some a) (.yes ea) := SO_yes h
theorem rSl (C : Cok d p) {lo hi : Option Expr} {ol oh : Oe} (ha : JB p c a ea) (hl : JO p c lo ol) (hh : JO p c hi oh) : JE p c (.Subscript a (.Slice lo hi none q) pos) (.sl ea ol oh) := SE_sl C.hK ha hl hh
/-! builtins, calls -/
theorem rBi (C : Cok d p) (b : Bi) (hg : Gl p.X (biN b)) (hm : p.X.mg (biN b) = none) (hv : bootBuiltins (biN b) = some (biF b)) (ha : JLB p c (a :: es) l) (he : starEach (a :: es) p.X.env = (false, eval a p.X.env) :: starEach es p.X.env) (hpl : (backTo pos (starEach es p.X.env)).any (·.1) = false) :
    JE p c (.Call (.Name (biN b) q) (a :: es) [] pos) (.bi b l) := by
  obtain ⟨r, h1, h2⟩ := bir C.hK C.calm b
  exact SE_callr (biF_form b) h1 h2 hg hm hv ha (biN_name b) (biN_debug b) he hpl
theorem rIsi (C : Cok d p) (t : Ty) (hg : Gl p.X "isinstance") (hm : p.X.mg "isinstance" = none) (hg2 : Gl p.X (tyN t)) (hm2 : p.X.mg (tyN t) = none) (ha : JB p c a ea) (he : starEach [a, .Name (tyN t) q2] p.X.env = (false, eval a p.X.env) :: starEach [.Name (tyN t) q2] p.X.env) :
    JE p c (.Call (.Name "isinstance" q) [a, .Name (tyN t) q2] [] pos) (.isi t ea) := SE_isi C.hK hg hm hg2 hm2 ha he
theorem aNil : JA p c [] .nil := SA_nil
theorem aVal {as : As} (ha : JE p c a ea) (ht : JA p c es as) (hs : starEach (a :: es) p.X.env = (false, eval a p.X.env) :: starEach es p.X.env) : JA p c (a :: es) (.cons ea as) := SA_val ha ht hs
theorem aExt {as : As} (h : Nm p i x) (ht : JA p c es as) (hs : starEach (.Name x pos :: es) p.X.env = (false, eval (.Name x pos) p.X.env) :: starEach es p.X.env) : JA p c (.Name x pos :: es) (.ext i as) := SA_x (SX_ext h.n h.v (okN1 h.k) (okN2 h.k)) ht hs
abbrev JC (p : Pl) (x : Expr) (t : Cl) : Prop := SC p x (fun ρ => clsOf ρ t)
theorem aClos {as : As} {t : Cl} (hf : ∀ x, p.X.fn x = true) (h : JC p a t) (ht : JA p c es as) (hs : starEach (a :: es) p.X.env = (false, eval a p.X.env) :: starEach es p.X.env) : JA p c (a :: es) (.clos t as) := SA_x (SX_clos hf h) ht hs
theorem aClo1 {as : As} {k : Nat} {js : List Nat} (hf : ∀ x, p.X.fn x = true) (h : LamHere p k js a) (ht : JA p c es as) (hs : starEach (a :: es) p.X.env = (false, eval a p.X.env) :: starEach es p.X.env) : JA p c (a :: es) (.clo1 k js as) := SA_x (SX_clo1 hf (SL1_mk h)) ht hs
theorem cLams {ls : List (Nat × List Nat)} (h : PA p.X es (tL p ls)) (hl : ls.length ≤ LINE) : JC p (.List es pos) (.lams ls) :=
  (SC_lams h hl).imp fun σ H Q ⟨w, ρ, κ, l, re, wf, ef, k⟩ => by
    have ef : (if ls.length ≤ LINE then some ls else none) = some l := ef
    rw [if_pos hl] at ef
    exact ⟨w, ρ, κ, l, re, wf, ef, k⟩
theorem cVar (hb : p.b = false) (h : Nm p i x) : JC p (.Name x pos) (.var i) := SC_var hb h.n h.v (okN1 h.k) (okN2 h.k)
theorem cAdd {s t : Cl} (ha : JC p a s) (hb : JC p b t) : JC p (.BinOp a .Add b pos) (.add s t) := SC_add ha hb
variable {A' : Addr}
theorem rCall (C : Cok d p) {f : Nat} (F : FnS p.X.prog p.X.w p.g p.clA p.X.mg p.X.base d A' (c.cf f)) (hg : Gl p.X x) (hm : p.X.mg x = some (.ref A') ∧ PySem.W.keepIn p.X.K (.ref A') = true) {as : As} (ha : JA p c (a :: es) as) (hd : okN x = true)
    (he : starEach (a :: es) p.X.env = (false, eval a p.X.env) :: starEach es p.X.env) (hpl : (backTo pos (starEach es p.X.env)).any (·.1) = false) : JE p c (.Call (.Name x np) (a :: es) [] pos) (.call f as) := SE_call F C.hK C.hr C.tk hg hm.1 hm.2 ha (okN1 hd) he hpl
theorem rCall0 (C : Cok d p) {f : Nat} (F : FnS p.X.prog p.X.w p.g p.clA p.X.mg p.X.base d A' (c.cf f)) (hg : Gl p.X x) (hm : p.X.mg x = some (.ref A') ∧ PySem.W.keepIn p.X.K (.ref A') = true) (hd : okN x = true) : JE p c (.Call (.Name x np) [] [] pos) (.call f .nil) := SE_call0 F C.hK C.hr C.tk hg hm.1 hm.2 (okN1 hd)
/-! tests -/
theorem tVal (C : Cok d p) (ha : JE p c a ea) (he : ∀ whole, isTrue a p.X.env whole = (do let v ← whole; standAt a.pos; holding [v] (truthy v))) : JT p c a (.val ea) := ST_val C.hK ha he
theorem tCm (C : Cok d p) (o : Cm) (ha : JB p c a ea) (hb : JB p c b eb) (hm : behindInMarks (pyCm o) b = false) : JT p c (.Compare a [pyCm o] [b] pos) (.cm o ea eb) := by
  obtain ⟨r, h1, h2⟩ := cmr C.hK C.hu o
  exact ST_cm h1 h2 ha hb hm
theorem tChain (C : Cok d p) (o o' : Cm) {m : Expr} {em : E} (ha : JE p c a ea) (hm' : JE p c m em) (hb : JE p c b eb) (hm : lastMarks [pyCm o, pyCm o'] [m, b] = false) : JT p c (.Compare a [pyCm o, pyCm o'] [m, b] pos) (.chain o o' ea em eb) := by
  obtain ⟨r, h1, h2⟩ := cmr C.hK C.hu o
  obtain ⟨r', h3, h4⟩ := cmr C.hK C.hu o'
  exact ST_chain h1 h2 h3 h4 ha hm' hb hm
variable {t u : T}
theorem tNot' (ha : JT p c a t) : JT p c (.UnaryOp .Not a pos) (.not t) := ST_not ha
theorem wAnd1 (ha : JT p c a t) : JW p c (.BoolOp .And [a] pos) t := pw_and1 ha
theorem wOr1 (ha : JT p c a t) : JW p c (.BoolOp .Or [a] pos) t := pw_or1 ha
theorem wAnd {rest : List Expr} (ha : JT p c a t) (hb : JW p c (.BoolOp .And (b :: rest) pos) u) : JW p c (.BoolOp .And (a :: b :: rest) pos) (.and t u) := SW_and ha hb
theorem wOr {rest : List Expr} (ha : JT p c a t) (hb : JW p c (.BoolOp .Or (b :: rest) pos) u) : JW p c (.BoolOp .Or (a :: b :: rest) pos) (.or t u) := SW_or ha hb
theorem tW (h : JW p c a t) : JT p c a t := h.pt
/-! comprehensions -/
abbrev JOt (p : Pl) (c : CB) (x : List Expr) (t : Ot) : Prop := PTs p.X x (tG p (fun _ _ a b => a = b) (evOt c t))
theorem oNoT : JOt p c [] .no := ⟨fun pins s σ H Q I h => pts_nil.run pins s σ H Q I (by
  obtain ⟨w, ρ, κ, re, wf, po⟩ := h
  exact po true w H (Ext.refl w H) wf rfl)⟩
theorem oYesT (h : JT p c a t) : JOt p c [a] (.yes t) := pts_one h
abbrev JI (p : Pl) (c : CB) (tg x : Expr) (t : It) : Prop := SI p tg x (evI c t)
abbrev JIk (p : Pl) (c : CB) (tg x : Expr) (t : It) : Prop := SIk p tg x (evI c t)
variable {tgE : Expr}
theorem iSeq' (C : Cok d p) (ha : JB p c a ea) : JI p c tgE a (.seq ea) := SI_seq C.hK ha
theorem ikSeq (C : Cok d p) (ha : JE p c a ea) (hb : ∀ ρ κ r, bw ea ρ κ r = r) : JIk p c tgE a (.seq ea) := (SIk_seq C.hK ha).imp fun σ H Q ⟨w, ρ, κ, re, wf, po⟩ => ⟨w, ρ, κ, re, wf, by
  have po : Post p.g p.clA (rWk p.g) w H ((bw ea ρ κ (evE c ea ρ κ)).bind fun p => R.ofO ((itemsV p.1).map fun l => (l, p.2))) Q (fun c d H' => p.W c d σ H') := po
  rw [hb] at po
  exact po⟩
theorem iR1 (hg : Gl p.X "range") (hm : p.X.mg "range" = none) (h : JL p c [a] l) (hs : starEach [a] p.X.env = [(false, eval a p.X.env)]) : JI p c tgE (.Call (.Name "range" q) [a] [] pos) (.rng1 l) := SR1 (S := SExt) hg hm h hs
theorem iR2 (hg : Gl p.X "range") (hm : p.X.mg "range" = none) (h : JL p c [a, b] l) (hs : starEach [a, b] p.X.env = [(false, eval a p.X.env), (false, eval b p.X.env)]) (hs2 : starEach [b] p.X.env = [(false, eval b p.X.env)]) : JI p c tgE (.Call (.Name "range" q) [a, b] [] pos) (.rng2 l) := SR2 (S := SExt) hg hm h hs hs2
theorem iR3 {m : Expr} (hg : Gl p.X "range") (hm : p.X.mg "range" = none) (h : JL p c [a, b, m] l) (hs : starEach [a, b, m] p.X.env = (false, eval a p.X.env) :: starEach [b, m] p.X.env) (hs2 : (backTo pos (starEach [b, m] p.X.env)).any (·.1) = false) : JI p c tgE (.Call (.Name "range" q) [a, b, m] [] pos) (.rng3 l) := SR3 (S := SExt) hg hm h hs hs2
theorem ikR1 (hg : Gl p.X "range") (hm : p.X.mg "range" = none) (h : JL p c [a] l) (hs : starEach [a] p.X.env = [(false, eval a p.X.env)]) : JIk p c tgE (.Call (.Name "range" q) [a] [] pos) (.rng1 l) := SR1 (S := SKp) hg hm h hs
theorem ikR2 (hg : Gl p.X "range") (hm : p.X.mg "range" = none) (h : JL p c [a, b] l) (hs : starEach [a, b] p.X.env = [(false, eval a p.X.env), (false, eval b p.X.env)]) (hs2 : starEach [b] p.X.env = [(false, eval b p.X.env)]) : JIk p c tgE (.Call (.Name "range" q) [a, b] [] pos) (.rng2 l) := SR2 (S := SKp) hg hm h hs hs2
theorem ikR3 {m : Expr} (hg : Gl p.X "range") (hm : p.X.mg "range" = none) (h : JL p c [a, b, m] l) (hs : starEach [a, b, m] p.X.env = (false, eval a p.X.env) :: starEach [b, m] p.X.env) (hs2 : (backTo pos (starEach [b, m] p.X.env)).any (·.1) = false) : JIk p c tgE (.Call (.Name "range" q) [a, b, m] [] pos) (.rng3 l) := SR3 (S := SKp) hg hm h hs hs2
theorem iZip' (C : Cok d p) {elts : List Expr} {kk : Nat} {tpos : Pos} (hg : Gl p.X "zip") (hm : p.X.mg "zip" = none) (ha : JB p c a ea) (hb : JB p c b eb) (hs : starEach [a, b] p.X.env = (false, eval a p.X.env) :: starEach [b] p.X.env) (hs2 : starEach [b] p.X.env = (false, eval b p.X.env) :: starEach [] p.X.env) :
    JI p c (.Tuple elts kk tpos) (.Call (.Name "zip" q) [a, b] [] pos) (.zip ea eb) := SI_zip C.hK hg hm ha hb hs hs2
/-- a target's name in a block or in a def -/
theorem gNm (hN : p.X.N.Nodup) (hi : p.X.N[i]? = some x) (hx : Loc p.X.env.scope x) (hf : p.X.fn x = true ∨ p.X.env.scope.names.lookup x = some .local) : PG p.X (.Name x pos) (gT p.g.K (.nm i)) := pg_name hN hi hx hf
theorem gTp (C : Cok d p) {ts : Tgs} {kk : Nat} (h : PGs p.X es (gTs p.g.K ts)) (hn : (assignEach es p.X.env).length = nTgs ts) (hst : (assignEach es p.X.env).findIdx? (·.1) = none) : PG p.X (.Tuple es kk pos) (gT p.g.K (.tp ts)) :=
  ⟨fun pins s σ H v u Q I r hw => by
    have h1 := pg_tup (pos := pos) (k := kk) C.calm h hn hst
    have h2 := pg_lst (pos := pos) (k := kk) C.calm h hn hst
    rw [C.hK] at h1 h2
    rcases hw with hw | hw
    · exact h1.run pins s σ H v u Q I r hw
    · exact h2.run pins s σ H v u Q I r hw⟩
theorem gsNil : PGs p.X [] (gTs p.g.K .nil) := pgs_nil
theorem gsCons {t : Tg} {ts : Tgs} (h1 : PG p.X e (gT p.g.K t)) (h2 : PGs p.X es (gTs p.g.K ts)) (hs : (assignEach (e :: es) p.X.env).map (·.2) = assign e p.X.env :: (assignEach es p.X.env).map (·.2)) : PGs p.X (e :: es) (gTs p.g.K (.cons t ts)) := pgs_cons h1 h2 hs
abbrev JF (p : Pl) (c : CB) (x : Expr) (e : E) : Prop := FE p x (evE c e)
theorem fComp (C : Cok d p) {elt iter : Expr} {ifs : List Expr} {scope : Scope} {own : List Nat} {tg : Tg} {ot : Ot} {it : It} {ee : E} (hi : JI p c tgE iter it) {ow : List (Str × Nat)} (how : ow.map (·.2) = own) (ok : blkC p.X.N p.X.env.scope scope ow = true)
    (hg : ∀ (s : Shared) (H : Hp) (C' : Addr) (cl : List (Str × Addr)) (fp : List Addr), Cok d (p.blk scope s H C' cl fp) → PG (p.blk scope s H C' cl fp).X tgE (gT p.g.K tg)) (ht : ∀ (s : Shared) (H : Hp) (C' : Addr) (cl : List (Str × Addr)) (fp : List Addr), Cok d (p.blk scope s H C' cl fp) → JOt (p.blk scope s H C' cl fp) c ifs ot)
    (he : ∀ (s : Shared) (H : Hp) (C' : Addr) (cl : List (Str × Addr)) (fp : List Addr), Cok d (p.blk scope s H C' cl fp) → JE (p.blk scope s H C' cl fp) c elt ee) (hs : ∀ x, foldedSetIterable iter p.X.env x = pure x) (hsl : ∀ i ∈ slTg tg, i ∈ own) :
    JF p c (.ListComp elt [⟨tgE, iter, ifs, 0⟩] scope pos) (.comp ee tg it ot own) :=
  FE_comp C.hK C.calm C.nd hi how (blkOk_by ok) (fun s H C' cl fp => hg s H C' cl fp (C.blk ..)) (fun s H C' cl fp => ht s H C' cl fp (C.blk ..)) (fun s H C' cl fp => he s H C' cl fp (C.blk ..)) hs hsl
theorem rF' (h : JF p c a ea) : JE p c a ea := SE.ofF h
theorem fLst (h : JL p c es l) : JF p c (.List es pos) (.lst l) := FE_lst h
theorem fFilt (C : Cok d p) {elt cond : Expr} {scope : Scope} {px py : Pos} {tgi src : Nat} {t : T} (h : Nm p src x) {ow : List (Str × Nat)} (how : ow.map (·.2) = [tgi]) (ok : blkC p.X.N p.X.env.scope scope ow = true)
    (hg : ∀ (s : Shared) (H : Hp) (C' : Addr) (cl : List (Str × Addr)) (fp : List Addr), Cok d (p.blk scope s H C' cl fp) → PG (p.blk scope s H C' cl fp).X (.Name y py) (gName tgi)) (ht : ∀ (s : Shared) (H : Hp) (C' : Addr) (cl : List (Str × Addr)) (fp : List Addr), Cok d (p.blk scope s H C' cl fp) → JT (p.blk scope s H C' cl fp) c cond t)
    (hF : ∀ z, foldedSetIterable (.Name x px) p.X.env z = pure z) : JF p c (.ListComp elt [⟨.Name y py, .Name x px, [cond], 0⟩] scope pos) (.filt tgi src t) :=
  FE_filt C.hK C.calm C.nd h.n h.v (okN1 h.k) (okN2 h.k) how (blkOk_by ok) (fun s H C' cl fp => hg s H C' cl fp (C.blk ..)) (fun s H C' cl fp => ht s H C' cl fp (C.blk ..)) hF
theorem fCall (C : Cok d p) {f : Nat} (F : FnF p.X.prog p.X.w p.g p.clA p.X.mg p.X.base d A' (c.cf f)) (hg : Gl p.X x) (hm : p.X.mg x = some (.ref A') ∧ PySem.W.keepIn p.X.K (.ref A') = true) {as : As} (ha : JA p c (a :: es) as) (hv : ∀ ρ κ q, evA c as ρ κ = .ok q → AllV q.1) (hd : okN x = true)
    (he : starEach (a :: es) p.X.env = (false, eval a p.X.env) :: starEach es p.X.env) (hpl : (backTo pos (starEach es p.X.env)).any (·.1) = false) : JF p c (.Call (.Name x np) (a :: es) [] pos) (.call f as) := FE_call F C.hK C.hr C.tk hg hm.1 hm.2 ha hv (okN1 hd) he hpl
theorem rSplit {apos : Pos} (ha : JE p c a ea) (hb : JE p c b eb) (hs : starEach [b] p.X.env = [(false, eval b p.X.env)]) (hbase : attributeBase a "split" p.X.env (eval a p.X.env) = eval a p.X.env) (hline : (apos.endLine == pos.line) = true) : JE p c (.Call (.Attribute a "split" apos) [b] [] pos) (.sm .split ea eb) := SE_split ha hb hs hbase hline
theorem rJoin (hK : p.X.K = p.g.K) {apos : Pos} (ha : JE p c a ea) (hb : JE p c b eb) (hs : starEach [b] p.X.env = [(false, eval b p.X.env)]) (hbase : attributeBase a "join" p.X.env (eval a p.X.env) = eval a p.X.env) (hline : (apos.endLine == pos.line) = true) : JE p c (.Call (.Attribute a "join" apos) [b] [] pos) (.sm .join ea eb) := SE_join hK ha hb hs hbase hline
/-! statements -/
variable {fr : Bool} {st : Stmt} {sts : List Stmt} {s1 : S} {ss tt : Ss} {pos2 pos' : Pos}
abbrev JS (p : Pl) (c : CB) (fr : Bool) (x : Stmt) (s : S) : Prop := SS p fr x (exS c s)
abbrev JSs (p : Pl) (c : CB) (fr : Bool) (x : List Stmt) (s : Ss) : Prop := SSs p fr x (exSs c s)
theorem zNil : JSs p c fr [] .nil := SSs_nil
theorem zCons (h : JS p c fr st s1) (t : JSs p c fr sts ss) : JSs p c fr (st :: sts) (.cons s1 ss) := SSs_cons h t
theorem zSet (C : Cok d p) (hi : p.X.N[i]? = some x) (hx : Loc p.X.env.scope x) (he : JE p c a ea) (hs : swapsWith a (some (.Name x pos')) pos.line p.X.env = pure false) (hf : p.X.fn x = true ∨ p.X.env.scope.names.lookup x = some .local) : JS p c fr (.Assign [.Name x pos'] a pos) (.set i ea) := SS_set C.nd hi hx he hs hf
theorem zCel (C : Cok d p) (hi : p.X.N[i]? = some x) (hx : Loc p.X.env.scope x) (he : JF p c a ea) (hs : swapsWith a (some (.Name x pos')) pos.line p.X.env = pure false) (hf : p.X.fn x = true ∨ p.X.env.scope.names.lookup x = some .local) : JS p c fr (.Assign [.Name x pos'] a pos) (.cel i ea) := (ps_set C.nd hi hx he hs hf).imp (asgF_cel i)
theorem zOwn (C : Cok d p) (hb : p.b = false) (hi : p.X.N[i]? = some x) (hx : Loc p.X.env.scope x) (he : JF p c a ea) (hs : swapsWith a (some (.Name x pos')) pos.line p.X.env = pure false) (hf : p.X.fn x = true ∨ p.X.env.scope.names.lookup x = some .local) : JS p c fr (.Assign [.Name x pos'] a pos) (.own i ea) := (ps_set C.nd hi hx he hs hf).imp (asgF_own hb i)
theorem lcRead (C : Cok d p) {elt iter : Expr} {ifs : List Expr} {scope : Scope} {own : List Nat} {tg : Tg} {ot : Ot} {it : It} {ee : E} {py spos : Pos} (hy : p.X.N[i]? = some y) (hyl : p.X.env.scope.names.lookup y = some .local) (hsw : swapsWith (.ListComp elt [⟨tgE, iter, ifs, 0⟩] scope pos) (some (.Name y py)) spos.line p.X.env = pure true) (hi : JI p c tgE iter it)
    {ow : List (Str × Nat)} (how : ow.map (·.2) = own) (ok : blkC p.X.N p.X.env.scope scope ow = true) (hg : ∀ (s : Shared) (H : Hp) (C' : Addr) (cl : List (Str × Addr)) (fp : List Addr), Cok d (p.blk scope s H C' cl fp) → PG (p.blk scope s H C' cl fp).X tgE (gT p.g.K tg))
    (ht : ∀ (s : Shared) (H : Hp) (C' : Addr) (cl : List (Str × Addr)) (fp : List Addr), Cok d (p.blk scope s H C' cl fp) → JOt (p.blk scope s H C' cl fp) c ifs ot) (he : ∀ (s : Shared) (H : Hp) (C' : Addr) (cl : List (Str × Addr)) (fp : List Addr), Cok d (p.blk scope s H C' cl fp) → JE (p.blk scope s H C' cl fp) c elt ee)
    (hs : ∀ x, foldedSetIterable iter p.X.env x = pure x) (hsl : ∀ i ∈ slTg tg, i ∈ own) : PS p.X (.Assign [.Name y py] (.ListComp elt [⟨tgE, iter, ifs, 0⟩] scope pos) spos) (tAsg (tF p (evE c (.comp ee tg it ot own))) (gName i)) :=
  setLc_read C.hK C.calm C.nd hy hyl hsw hi how (blkOk_by ok) (fun s H C' cl fp => hg s H C' cl fp (C.blk ..)) (fun s H C' cl fp => ht s H C' cl fp (C.blk ..)) (fun s H C' cl fp => he s H C' cl fp (C.blk ..)) hs hsl
theorem zLcSet (h : PS p.X st (tAsg (tF p (evE c ea)) (gName i))) : JS p c fr st (.set i ea) := h.imp (asgF_val i)
theorem zLcOwn (hb : p.b = false) (h : PS p.X st (tAsg (tF p (evE c ea)) (gName i))) : JS p c fr st (.own i ea) := h.imp (asgF_own hb i)
theorem zAsg {tg : Tg} (he : JE p c a ea) (hg : PG p.X tgE (gT p.g.K tg)) (hs : swapsWithSole [tgE] a pos.line p.X.env = pure false) (hw : swappedStores [tgE] a p.X.env = pure none) (h1 : (assignEach [tgE] p.X.env).map (·.2) = [assign tgE p.X.env]) : JS p c fr (.Assign [tgE] a pos) (.asg tg ea) := SS_asg he hg hs hw h1
theorem zPar2 (C : Cok d p) {px py pt : Pos} {kt k2 : Nat} {pt2 : Pos} (hi : p.X.N[i]? = some x) (hj : p.X.N[j]? = some y) (hij : i ≠ j) (hx : p.X.env.scope.names.lookup x = some .local) (hy : p.X.env.scope.names.lookup y = some .local) (ha : JL p c [a, b] l)
    (hw : swappedStores [.Tuple [.Name x px, .Name y py] kt pt] (.Tuple [a, b] k2 pt2) p.X.env = pure (some [x, y])) (hs : swapsWithSole [.Tuple [.Name x px, .Name y py] kt pt] (.Tuple [a, b] k2 pt2) pos.line p.X.env = pure false) :
    JS p c fr (.Assign [.Tuple [.Name x px, .Name y py] kt pt] (.Tuple [a, b] k2 pt2) pos) (.par [(i, false), (j, false)] l) := SS_par2 C.calm C.nd hi hj hij hx hy ha hw hs
theorem zPar3 (C : Cok d p) {px py pz pt : Pos} {kt k2 k : Nat} {pt2 : Pos} {b3 : Expr} (hi : p.X.N[i]? = some x) (hj : p.X.N[j]? = some y) (hl : p.X.N[k]? = some z) (hij : i ≠ j) (hil : i ≠ k) (hjl : j ≠ k) (hx : p.X.env.scope.names.lookup x = some .local) (hy : p.X.env.scope.names.lookup y = some .local) (hz : p.X.env.scope.names.lookup z = some .local) (ha : JL p c [a, b, b3] l)
    (hw : swappedStores [.Tuple [.Name x px, .Name y py, .Name z pz] kt pt] (.Tuple [a, b, b3] k2 pt2) p.X.env = pure (some [x, y, z])) (hs : swapsWithSole [.Tuple [.Name x px, .Name y py, .Name z pz] kt pt] (.Tuple [a, b, b3] k2 pt2) pos.line p.X.env = pure false) :
    JS p c fr (.Assign [.Tuple [.Name x px, .Name y py, .Name z pz] kt pt] (.Tuple [a, b, b3] k2 pt2) pos) (.par [(i, false), (j, false), (k, false)] l) := SS_par3 C.calm C.nd hi hj hl hij hil hjl hx hy hz ha hw hs
theorem zSetC (C : Cok d p) {t : Cl} (hi : p.X.N[i]? = some x) (hx : Loc p.X.env.scope x) (he : JC p a t) (hs : swapsWith a (some (.Name x pos')) pos.line p.X.env = pure false) (hf : p.X.fn x = true ∨ p.X.env.scope.names.lookup x = some .local) : JS p c fr (.Assign [.Name x pos'] a pos) (.setC i t) := SS_setC C.nd hi hx he hs hf
theorem zExpr (he : JE p c a ea) (hs : swapsWith a none pos.line p.X.env = pure false) : JS p c fr (.Expr a pos) (.expr ea) := SS_expr he hs
theorem zRet (he : JE p c a ea) : JS p c false (.Return (some a) pos) (.ret ea) := SS_ret he
theorem zRetF (he : JF p c a ea) : JS p c true (.Return (some a) pos) (.ret ea) := SS_retF he
theorem zIf {sa sb : List Stmt} {t : T} (hc : JT p c e t) (ha : JSs p c fr sa ss) (hb : JSs p c fr sb tt) : JS p c fr (.If e sa sb pos) (.ite t ss tt) := SS_ite hc ha hb
theorem zWhile {sa : List Stmt} {t : T} (hp : PassesOwn (model p.X.prog p.X.w) p.X.A p.X.env p.X.xe) (hc : JT p c e t) (hb : JSs p c fr sa ss) : JS p c fr (.While e sa [] pos) (.while t ss) := SS_while hp hc hb BIG
theorem zFor (C : Cok d p) {iter : Expr} {sa : List Stmt} {tg : Tg} {it : It} (hp : PassesOwn (model p.X.prog p.X.w) p.X.A p.X.env p.X.xe) (hi : JIk p c tgE iter it) (hg : PG p.X tgE (gT p.g.K tg)) (hb : JSs p c fr sa ss) (hs : ∀ x, foldedSetIterable iter p.X.env x = pure x) : JS p c fr (.For tgE iter sa [] pos) (.loop tg it ss) := SS_loop hp C.calm hi hg hb hs
theorem zCseti {o : Expr} {eo : E} (ho : JE p c o eo) (hi : JE p c a ea) (he : JE p c b eb) (ha : ∀ v, assign (.Subscript o a pos) p.X.env v = (do
      let ov ← holding [v] (eval o p.X.env)
      let iv ← holding [v, ov] (eval a p.X.env)
      standAt pos
      holding [v, ov, iv] (setItem ov iv v)
      release [v, ov, iv] []))
    (hs : swapsWithSole [.Subscript o a pos] b pos2.line p.X.env = pure false) (hw : swappedStores [.Subscript o a pos] b p.X.env = pure none) (h1 : (assignEach [.Subscript o a pos] p.X.env).map (·.2) = [assign (.Subscript o a pos) p.X.env]) : JS p c fr (.Assign [.Subscript o a pos] b pos2) (.cseti eo ea eb) := SS_cseti ho hi he ha hs hw h1
/-- a class of errors -/
structure ExcG (K : PySem.W.Frag) (mg : Str → Option Value) (D : Addr) (x : Str) : Prop where
  ex : PySem.W.excIn K D He.veBase "ValueError.__new__" = true
  mg : mg x = some (.ref D)
  kp : PySem.W.keepIn K (.ref D) = true
  sub : PySem.W.subIn K (.ref D) (.type "BaseException") = some true
  ty : PySem.W.typeIn K (.ref D) = some (.type "type")
theorem zRaise (C : Cok d p) {k jj : Nat} {m : Str} {pp p2 : Pos} (h : ExcG p.X.K p.X.mg (p.clA k) x) (hg : Gl p.X x) (hd : okN x = true) : JS p c fr (.Raise (some (.Call (.Name x pp) [.Constant (.str m) jj p2] [] pos)) none pos') (.raise k) :=
  SS_raise C.calm C.tk F.excBase_ValueError h.ex h.mg h.kp (raises_own h.sub h.ty) hg (okN1 hd)
theorem rCallv (C : Cok d p) (F : ∀ k, LmS p.X.prog p.X.w p.g p.clA p.X.mg p.X.base d k (c.cl k)) (h : Nm p i x) : JE p c (.Call (.Name x np) [] [] pos) (.callv i) := SE_callv F C.hK C.hr C.tk h.n h.v (okN1 h.k) (okN2 h.k)
/-! lambdas -/
structure TabF (p : Pl) : Prop where
  ex : ∃ (nm : Nat → Nat → Str) (cc P : Addr), TabB p.X.base p.X.mg cc P ∧ p.X.env.code = .ref cc ∧ (P, nm) ∈ p.g.tabs ∧ (∀ l k, nm l k = p.X.env.qual ++ "<lambda>") ∧ ∀ t ∈ p.g.tabs, t.1 = P → t.2 = nm
def lamChk (sc scope : Scope) (N fr : List Str) (js : List Nat) : Bool :=
  (scope.names.all fun y => !decide (y.2 = .free) || decide (sc.names.lookup y.1 = some .cell) || decide (sc.names.lookup y.1 = some .free)) && (fr.all fun y => decide ((y, NameKind.free) ∈ scope.names)) && (scope.names.all fun y => !decide (y.2 = .free) || decide (y.1 ∈ fr)) && decide (js.map (fun j => N[j]?) = fr.map some)
theorem lamHere {k : Nat} {js : List Nat} {L : LamI} (T : TabF p) (he : e = .Lambda L.params L.body L.scope pos) (hl : p.g.lamI k = some L) (hq : p.X.env.qual ++ "<lambda>" = L.qual) (hdef : defaultsOf L.params p.X.env = ([], [])) (h : lamChk p.X.env.scope L.scope p.X.N L.fr js = true) : LamHere p k js e := by
  obtain ⟨nm, cc, P, tb, hc, hm, hn, hu⟩ := T.ex
  unfold lamChk at h
  simp only [Bool.and_eq_true, Bool.or_eq_true, Bool.not_eq_true', decide_eq_true_eq, decide_eq_false_iff_not, List.all_eq_true] at h
  obtain ⟨⟨⟨h1, h2⟩, h3⟩, h4⟩ := h
  refine ⟨L, pos, nm, cc, P, he, hl, tb, hc, hm, hq, by rw [hn, hq], hu, hdef, fun y hy e => ?_, h2, fun y hy e => ?_, h4⟩
  · rcases h1 y hy with (z | z) | z
    · exact absurd e z
    · exact .inl z
    · exact .inr z
  · rcases h3 y hy with z | z
    · exact absurd e z
    · exact z
/-- arguments that are values -/
def As.onlyV : As → Bool
  | .nil => true
  | .cons _ l => l.onlyV
  | _ => false
theorem onlyV_ok : ∀ {as : As}, as.onlyV = true → ∀ ρ κ q, evA c as ρ κ = .ok q → AllV q.1
  | .nil, _, ρ, κ, q, e => by
    have e : R.ok (([] : List Ar), κ) = .ok q := e
    cases e; trivial
  | .cons x l, h, ρ, κ, q, e => by
    have e : ((evE c x ρ κ).bind fun p => (evA c l ρ p.2).bind fun q => .ok (.v p.1 :: q.1, q.2)) = .ok q := e
    obtain ⟨a, _, e⟩ := bind_ok_inv e
    obtain ⟨b, eb, e⟩ := bind_ok_inv e
    cases e
    exact onlyV_ok (as := l) h ρ a.2 b eb
  | .ext _ _, h, _, _, _, _ => by cases h
  | .clos _ _, h, _, _, _, _ => by cases h
  | .clo1 _ _ _, h, _, _, _, _ => by cases h
end

theorem tabF_of {g : Gx} {clA : Nat → Addr} {P : Program} {W : World} {mg : Str → Option Value} {base : Heap} {N : List Str} {qual x : Str} {scope : Scope} {f : Addr} {cd : Value} {A : Around} {outer : List Env} {s : Shared} {H : Hp} {E : XK} {nm : Nat → Nat → Str}
    (hcd : PySem.W.codeIn g.K cd qual = true) (hex : ∃ fd2 o, fd2.code = cd ∧ g.K.lookup f = some o ∧ o.data = .func fd2) (hf : f = He.ga g.K x) (hT : TabB base mg (He.cT g.K (x, none)).1 (He.cT g.K (x, none)).2) (hm : ((He.cT g.K (x, none)).2, nm) ∈ g.tabs)
    (hn : ∀ l k, nm l k = (qual ++ ".<locals>.") ++ "<lambda>") (hu : ∀ t ∈ g.tabs, t.1 = (He.cT g.K (x, none)).2 → t.2 = nm) : TabF (defPl g clA P W mg base N qual scope f cd A outer s H E) := by
  obtain ⟨fd2, o, e1, e2, e3⟩ := hex
  obtain ⟨cc, ec⟩ := He.codeIn_ref hcd
  obtain ⟨oc, od, dt, osl⟩ := o
  have e3 : dt = .func fd2 := e3
  subst e3
  have lk : g.K.lookup (He.fAd g.K (x, none)) = some ⟨oc, od, .func fd2, osl⟩ := by
    show g.K.lookup (He.ga g.K x) = _
    rw [← hf]; exact e2
  have hc := He.codeOf_eq lk (e1.trans ec)
  have h1 : (He.cT g.K (x, none)).1 = cc := hc
  refine ⟨nm, cc, (He.cT g.K (x, none)).2, by rw [← h1]; exact hT, ec, hm, hn, hu⟩
/-! getters -/
def xItem : Expr → Nat → Expr
  | .List es _, i => es.getD i default
  | .Tuple es _ _, i => es.getD i default
  | _, _ => default
def xLeft : Expr → Expr
  | .BinOp a _ _ _ => a
  | _ => default
def xRight : Expr → Expr
  | .BinOp _ _ b _ => b
  | _ => default
def xOperand : Expr → Expr
  | .UnaryOp _ a _ => a
  | _ => default
def xArg : Expr → Nat → Expr
  | .Call _ es _ _, i => es.getD i default
  | _, _ => default
def xCmpL : Expr → Expr
  | .Compare a _ _ _ => a
  | _ => default
def xCmpR : Expr → Expr
  | .Compare _ _ (b :: _) _ => b
  | _ => default
def xVal : Expr → Nat → Expr
  | .BoolOp _ es _, i => es.getD i default
  | _, _ => default
def sAt (l : List Stmt) (i : Nat) : Stmt := l.getD i default
def sValue : Stmt → Expr
  | .Assign _ e _ => e
  | _ => default
def sRet : Stmt → Expr
  | .Return (some e) _ => e
  | _ => default
def sForB : Stmt → List Stmt
  | .For _ _ b _ _ => b
  | _ => []
def sTest : Stmt → Expr
  | .If e _ _ _ => e
  | _ => default
def sThen : Stmt → List Stmt
  | .If _ a _ _ => a
  | _ => []
def sElse : Stmt → List Stmt
  | .If _ _ b _ => b
  | _ => []
def lamOf (qual : Str) (fr : List Str) : Expr → LamI
  | .Lambda p b s _ => ⟨qual, p, b, s, fr⟩
  | _ => ⟨qual, ⟨[], [], none, [], [], none, []⟩, default, ⟨.function, [], false, false, []⟩, fr⟩
end PL
end
section
set_option maxHeartbeats 1000000
namespace PL
open PySem PySem.Spec PyProof.Rows L2 LamX NdefX
section
variable {P : Program} {W : World} {g : Gx} {clA : Nat → Addr} {mg : Str → Option Value} {base : Heap} {d d' : Nat} {a : Addr} {sem : List Ar → Ks → R (Val × Ks)}
theorem FnS.bad (h : ∀ args κ, sem args κ = .bad) : FnS P W g clA mg base d a sem := fun A outer s H us vs Q E w args κ _ _ _ _ _ po => by
  rw [h] at po
  exact po.elim
theorem FnF.bad (h : ∀ args κ, sem args κ = .bad) : FnF P W g clA mg base d a sem := fun A outer s H us vs Q E w args κ _ _ _ _ _ po => by
  rw [h] at po
  exact po.elim
theorem LmS.bad {k : Nat} {sem : List Val → Ks → R (Val × Ks)} (h : ∀ args κ, sem args κ = .bad) : LmS P W g clA mg base d k sem := fun A outer s H f Q E w caps κ _ _ _ _ po => by
  rw [h] at po
  exact po.elim
/-- its result may be kept -/
theorem FnS.ofF (F : FnF P W g clA mg base d a sem) : FnS P W g clA mg base d a sem := fun A outer s H us vs Q E w args κ hr e0 rv wf ra po => F A outer s H us vs Q E w args κ hr e0 rv wf ra (by
  generalize sem args κ = z at po ⊢
  cases z with
  | ok q =>
    intro x w' H' e wf' r
    obtain ⟨w2, e2, wf2, r2⟩ := rF_fix e wf' r
    exact po x w2 H' e2 wf2 r2
  | exc c v k =>
    cases v with
    | non => exact po
    | _ => exact po
  | bad => exact po)
/-- the law's def, as the head asks -/
theorem law_top {x qual par : Str} {params : Arguments} {body : List Stmt} {scope : Scope} {kws : List (Str × V)} {f : Addr} {fd : FuncData} {N : List Str} {m : Rho → Ks → O} (F : FunD g.K x qual params body scope [] kws f fd) (S : FnScope N [par] scope)
    (hbody : ∀ cd A outer s H E, PySem.W.codeIn g.K cd qual = true → (∃ fd2 o, fd2.code = cd ∧ g.K.lookup f = some o ∧ o.data = .func fd2) → Room d (A.deeper (envOfC qual scope s.heap.objs.size f cd)) → SSs (defPl g clA P W mg base N qual scope f cd A outer s H E) false body m)
    (hs : ∀ args κ, sem args κ = if args.length = [par].length then (m (args.map Ar.slot ++ List.replicate (N.length - args.length) none) κ).fin else .bad) :
    FnOk P W g.K mg base (L2N.CX P W) (d + 1) f fd [par] (fun vs H Q _ => ∃ z ns κ', vs = [.ref z] ∧ SqL g.K H z (ns.map V.int) ∧ TabsN g.tabs H ∧ sem [.v (.scr ns)] [] = .ok (.bl true, κ') ∧ ∀ H', Q (.bl true) H') := by
  refine ⟨fun vs H Q E h => ?_, fun A outer s H args us vs Q E hr e0 hb rv hsp => ?_⟩
  · obtain ⟨z, ns, κ', rfl, _⟩ := h
    rfl
  · obtain ⟨z, ns, κ', rfl, hq, ht, hsem, hQ⟩ := hsp
    obtain ⟨J, hJ, hsc⟩ : ∃ J : Addr → Prop, (∀ b, J b → ∃ xs, H b = some (.lst xs)) ∧ ScrAt g.K J H z ns := by
      rcases hq with (h | ⟨o, h⟩) | h
      · exact ⟨fun b => b = z, fun b e => ⟨ns.map V.int, by rw [show b = z from e]; exact h⟩, .own rfl h⟩
      · exact ⟨fun _ => False, fun _ e => e.elim, .frz h⟩
      · exact ⟨fun _ => False, fun _ e => e.elim, .top fun H' => .inr h⟩
    have wf : WF g ⟨J, []⟩ [] H := ⟨rfl, fun i b e => by simp at e, fun i j b e _ => by simp at e, fun b e => by simp at e, hJ, ht⟩
    refine fn_any (fr := false) (args := [.v (.scr ns)]) (κ := []) F S hbody hs hr e0 (fun _ => hb) rv wf (.cons (.v (.scr hsc)) .nil) ?_ fun z => nomatch z
    rw [hsem]
    intro y w' H' _ _ r
    have r : RV g w'.I w'.μ H' (.bl true) y := r
    cases r
    exact hQ H'
end
/-- an operator, raw -/
theorem rawOp {p : Pl} {a b : Expr} {ma mb : Rho → Ks → R (Val × Ks)} {pos : Pos} (hK : p.X.K = p.g.K) (o : Op) (ha : SB p a ma) (hb : SB p b mb) : SE p (.BinOp a (pyOp o) b pos) (fun ρ κ => (ma ρ κ).bind fun q => (mb ρ q.2).bind fun r => R.ofO ((opV o q.1 r.1).map fun v => (v, r.2))) := by
  obtain ⟨r, h1, h2⟩ := opr hK o
  exact SE_bin h1 h2 ha hb
theorem cb_kin (t : Tab) (d : Nat) : (cb t d).kin = t.kin := by cases d <;> rfl
/-- a return stands among them -/
def retEnd : Ss → Bool
  | .nil => false
  | .cons s l => (match s with | .ret _ => true | _ => false) || retEnd l
theorem toO_ret {c : CB} {e : E} {ρ ρ' : Rho} {κ κ' : Ks} : exS c (.ret e) ρ κ ≠ .nx ρ' κ' := by
  show (evE c e ρ κ).toO (fun p => .ret p.1 p.2) ≠ _
  cases evE c e ρ κ <;> (intro h; cases h)
theorem retEnd_ok {c : CB} : ∀ {l : Ss}, retEnd l = true → ∀ ρ κ ρ' κ', exSs c l ρ κ ≠ .nx ρ' κ'
  | .nil, h, _, _, _, _ => by cases h
  | .cons s l, h, ρ, κ, ρ', κ' => by
    show (exS c s ρ κ).then (fun ρ' κ' => exSs c l ρ' κ') ≠ _
    cases e : exS c s ρ κ with
    | nx ρ1 κ1 =>
      unfold retEnd at h
      rcases Bool.or_eq_true_iff.mp h with h | h
      · split at h
        · exact absurd e toO_ret
        · cases h
      · exact retEnd_ok h ρ1 κ1 ρ' κ'
    | ret _ _ => intro z; cases z
    | exc _ _ _ => intro z; cases z
    | bad => intro z; cases z
end PL
end
section
set_option maxHeartbeats 1000000
/-! Lists that a def owns: append, pop, stores. -/
namespace PL
open PySem PySem.Spec PyProof.Rows L2 LamX NdefX
section
variable {p : Pl} {fr : Bool} {w0 w : Wd} {ρ : Rho} {κ : Ks} {σ : L2.St} {H : Hp}
theorem SlotOk.updO {g : Gx} {X : Cx} {b : Bool} {w : Wd} {H : Hp} {σ : L2.St} {i : Nat} {a : Addr} {xs ys : List V} (h : H a = some (.lst xs)) (kp : Keeps w.I w.I w.μ w.μ H (upd H a (.lst ys))) : ∀ {sl : Slot}, (∀ l c, sl = .own l → σ[i]? = some (some (.ref c)) → c ≠ a) → SlotOk g X b w H σ i sl → SlotOk g X b w (upd H a (.lst ys)) σ i sl
  | .val _, _, ⟨x, h1, h2⟩ => ⟨x, h1, h2.keeps kp⟩
  | .own l, no, ⟨c, zs, h1, h2, h3, h4, h5, h6⟩ => ⟨c, zs, h1, by rw [upd_ne (no l c rfl h1)]; exact h2, h3.keeps kp, h4, h5, h6⟩
  | .cls _, _, .inl z => .inl z
  | .cls _, _, .inr ⟨c, zs, h1, h2, h3, h4⟩ => .inr ⟨c, zs, h1, h2, kp.l _ _ h2 h3, RLs.updM h h4⟩
  | .ext _, _, ⟨x, h1, h2⟩ => ⟨x, h1, RX.updM h kp h2⟩
  | .pin, _, h => h
theorem own_upd (hb : p.b = false) (c : Cur p w0 w ρ κ σ H) {i : Nat} {l : List Val} (hi : ρ[i]? = some (some (.own l))) :
    ∃ a xs, σ[i]? = some (some (.ref a)) ∧ H a = some (.lst xs) ∧ RVs p.g w.I w.μ H l xs ∧ ∀ (l2 : List Val) (ys : List V), RVs p.g w.I w.μ H l2 ys →
      Cur p w0 w (ρ.set i (some (.own l2))) κ σ (upd H a (.lst ys)) ∧ Keeps w.I w.I w.μ w.μ H (upd H a (.lst ys)) := by
  obtain ⟨a, xs, hs, ha, r, nI, nM, h0⟩ := c.re.at_ i _ hi
  have h0 : p.X.H_0 a = none := h0.elim (fun z => by rw [hb] at z; cases z) id
  refine ⟨a, xs, hs, ha, r, fun l2 ys r2 => ?_⟩
  have kp := Keeps.updM c.wf nI ha ys
  have hlt := (List.getElem?_eq_some_iff.mp hi).1
  have own : ∀ {j : Nat} {m : List Val}, (ρ.set i (some (.own l2)))[j]? = some (some (.own m)) → ∃ m', ρ[j]? = some (some (.own m')) := fun {j m} hj => by
    rcases getElem?_set_cases hj with ⟨ej, _, es⟩ | ⟨nj, hj⟩
    · subst ej; exact ⟨l, hi⟩
    · exact ⟨m, hj⟩
  refine ⟨⟨⟨by rw [List.length_set]; exact c.re.len, fun j sl hj => ?_, fun j k m1 m2 b h1 h2 h3 h4 => ?_⟩, ⟨c.wf.len, fun j b hb' => ?_, c.wf.nd, c.wf.dis, fun b z => ?_, fun q hq => ?_⟩, c.e0.I, c.e0.new, c.e0.mu, fun b o hb' nb nt => ?_, fun b q => ?_⟩, kp⟩
  · rcases getElem?_set_cases hj with ⟨ej, _, es⟩ | ⟨nj, hj⟩
    · subst ej; cases es
      exact ⟨a, ys, hs, upd_same, r2.keeps kp, nI, nM, .inr h0⟩
    · refine SlotOk.updO ha kp (fun m b e1 e2 z => ?_) (c.re.at_ j sl hj)
      subst e1
      subst z
      exact nj (c.re.apart i j l m b hi hj hs e2)
  · obtain ⟨m1', q1⟩ := own h1
    obtain ⟨m2', q2⟩ := own h2
    exact c.re.apart j k m1' m2' b q1 q2 h3 h4
  · obtain ⟨l', zs, h1, h2, h3⟩ := c.wf.at_ j b hb'
    refine ⟨l', zs, h1, ?_, h3.keeps kp⟩
    rw [upd_ne (fun z => nM (by rw [← z]; exact List.mem_of_getElem? hb'))]
    exact h2
  · obtain ⟨zs, q⟩ := c.wf.dom b z
    exact ⟨zs, kp.l _ _ z q⟩
  · obtain ⟨ps, h1, h2, h3⟩ := c.wf.tab q hq
    refine ⟨ps, by rw [upd_ne (fun z => by rw [z, ha] at h1; cases h1)]; exact h1, h2, fun pos cv hc => ?_⟩
    obtain ⟨cc, e1, e2⟩ := h3 pos cv hc
    exact ⟨cc, e1, by rw [upd_ne (fun z => by rw [z, ha] at e2; cases e2)]; exact e2⟩
  · rw [upd_ne (fun z => by rw [z, h0] at hb'; cases hb')]
    exact c.e0.fr b o hb' nb nt
  · unfold upd at q
    split at q
    · cases q
    · exact c.e0.dm b q
theorem rdO_own {i : Nat} {l : List Val} (h : rdO ρ i = some l) : ρ[i]? = some (some (.own l)) := by
  unfold rdO at h
  split at h
  · rename_i e; cases h; exact e
  · cases h
end
section
variable {p : Pl} {fr : Bool} {e : Expr} {me : Rho → Ks → R (Val × Ks)} {i : Nat} {x : Str} {pos pos' np apos : Pos}
/-- xs.append(e) -/
theorem SS_append (hb : p.b = false) (hn : p.X.N[i]? = some x) (hv : Vis p.X.env.scope x) (hd : (x == ("__debug__" : Str)) = false) (hcd : (x == ("__classdict__" : Str)) = false) (he : SE p e me)
    (hs : swapsWith (.Call (.Attribute (.Name x np) "append" apos) [e] [] pos) none pos'.line p.X.env = pure false) (hbase : attributeBase (.Name x np) "append" p.X.env (eval (.Name x np) p.X.env) = eval (.Name x np) p.X.env) (hline : (apos.endLine == pos.line) = true) (hst : starEach [e] p.X.env = [(false, eval e p.X.env)])
    (hfew : ((backTo pos (starEach [e] p.X.env)).all (fun x => !x.1) && (backToKw pos (keywordEach [] p.X.env)).all (fun x => x.1.isSome) && decide ([e].length + ([] : List Keyword).length + (if ([] : List Keyword).isEmpty then 0 else 1) < 30)) = true) :
    SS p fr (.Expr (.Call (.Attribute (.Name x np) "append" apos) [e] [] pos) pos') (fun ρ κ => match rdO ρ i with
      | some l => (me ρ κ).toO fun q => if l.length < LINE then .nx (ρ.set i (some (.own (l ++ [q.1])))) q.2 else .bad
      | none => .bad) := by
  refine (ps_expr (pe_bm PySem.F.plainAttrs_list PySem.F.slot_list_append PySem.F.type_list_append mt_append (pe_var (i := i) hn hv hd hcd) (pa_cons he pa_nil hst) hbase hfew hline hst rfl) hs).imp fun D σ H ⟨w0, w, ρ, κ, c0, po⟩ => ?_
  have po : PostO p fr w0 w H D (match rdO ρ i with
      | some l => (me ρ κ).toO fun q => if l.length < LINE then .nx (ρ.set i (some (.own (l ++ [q.1])))) q.2 else .bad
      | none => .bad) := po
  cases ho : rdO ρ i with
  | none =>
    rw [ho] at po
    exact po.elim
  | some l =>
    rw [ho] at po
    have ho := rdO_own ho
    obtain ⟨a, xs, s1, s2, s3, _⟩ := own_upd hb c0 ho
    refine ⟨_, s1, .inl ⟨rfl, _, SqL.of s2⟩, w, ρ, κ, c0.re, c0.wf, PostO.bind c0 po fun w1 H1 v κ1 y wf1 e1 rv po1 => ?_⟩
    have c1 := c0.step e1 wf1
    obtain ⟨a', xs', t1, t2, t3, t4⟩ := own_upd hb c1 ho
    rw [s1] at t1
    cases t1
    have po1 : PostO p fr w0 w1 H1 D (if l.length < LINE then .nx (ρ.set i (some (.own (l ++ [v])))) κ1 else .bad) := po1
    by_cases hl : l.length < LINE
    · rw [if_pos hl] at po1
      obtain ⟨c2, k2⟩ := t4 (l ++ [v]) (xs' ++ [y]) (t3.append (.cons rv .nil))
      refine ⟨_, _, _, rfl, rfl, t2, ?_, ?_⟩
      · rw [← t3.length]; exact hl
      · exact po1 w1 σ _ c2 k2
    · rw [if_neg hl] at po1
      exact po1.elim
/-- xs.pop() -/
theorem SS_pop (hb : p.b = false) (hn : p.X.N[i]? = some x) (hv : Vis p.X.env.scope x) (hd : (x == ("__debug__" : Str)) = false) (hcd : (x == ("__classdict__" : Str)) = false)
    (hs : swapsWith (.Call (.Attribute (.Name x np) "pop" apos) [] [] pos) none pos'.line p.X.env = pure false) (hbase : attributeBase (.Name x np) "pop" p.X.env (eval (.Name x np) p.X.env) = eval (.Name x np) p.X.env) (hline : (apos.endLine == pos.line) = true) :
    SS p fr (.Expr (.Call (.Attribute (.Name x np) "pop" apos) [] [] pos) pos') (fun ρ κ => match rdO ρ i with
      | some l => if l.isEmpty then .bad else .nx (ρ.set i (some (.own l.dropLast))) κ
      | none => .bad) := by
  refine (ps_expr (pe_bm0 PySem.F.plainAttrs_list PySem.F.slot_list_pop PySem.F.type_list_pop mt_pop (pe_var (i := i) hn hv hd hcd) hbase hline) hs).imp fun D σ H ⟨w0, w, ρ, κ, c0, po⟩ => ?_
  have po : PostO p fr w0 w H D (match rdO ρ i with
      | some l => if l.isEmpty then .bad else .nx (ρ.set i (some (.own l.dropLast))) κ
      | none => .bad) := po
  cases ho : rdO ρ i with
  | none =>
    rw [ho] at po
    exact po.elim
  | some l =>
    rw [ho] at po
    have ho := rdO_own ho
    obtain ⟨a, xs, s1, s2, s3, s4⟩ := own_upd hb c0 ho
    have po : PostO p fr w0 w H D (if l.isEmpty then .bad else .nx (ρ.set i (some (.own l.dropLast))) κ) := po
    cases he : l.isEmpty with
    | true => rw [he] at po; exact po.elim
    | false =>
      rw [he] at po
      obtain ⟨c2, k2⟩ := s4 l.dropLast xs.dropLast s3.dropLast
      have hne : l ≠ [] := fun z => by rw [z] at he; cases he
      have hl : l.length - 1 < l.length := by
        have := List.length_pos_iff.mpr hne
        omega
      obtain ⟨y, hy, _⟩ := s3.get (i := l.length - 1) (List.getElem?_eq_getElem hl)
      exact ⟨_, s1, .inl ⟨rfl, _, SqL.of s2⟩, _, _, y, rfl, rfl, s2, by rw [← s3.length]; exact hy, po w σ _ c2 k2⟩
/-- o[i], read by an augmented store -/
theorem get_list {X : Cx} : PGet X (rIxL X.K) := by
  intro pins s σ H x y v u Q I rx ry h
  obtain ⟨p, xs, i, z, rfl, rfl, hq, he, q⟩ := h
  cases rx
  obtain ⟨t, rfl⟩ := ry
  obtain ⟨its, r, pl, hz⟩ := I.list hq
  obtain ⟨j, h1, h2, h3, h4, h5⟩ := atI_get he
  obtain ⟨w, ew, rw'⟩ := r.get h2
  have hl := r.length
  have hn := line63
  have fin : EP X pins σ Q w s := ⟨z, H, I, rw', q⟩
  by_cases h0 : 0 ≤ i
  · have hj : i.toNat = j := by
      rw [seqIndex_of h0 h5] at h1
      exact Option.some.inj h1
    exact wpAny_getItem_list pl.isList h0 (by omega) (by rw [hj]; simpa using ew) fin
  · have hj : (i + (its.toArray.size : Int)).toNat = j := by
      rw [seqIndex_neg (by omega) h4] at h1
      rw [List.size_toArray, ← hl]
      exact Option.some.inj h1
    exact wpAny_getItem_list_neg pl.isList (by omega) (by rw [List.size_toArray] <;> omega) (by omega) (by rw [hj]; simpa using ew) fin
variable {a : Expr} {mi : Rho → Ks → R (Val × Ks)} {pos2 : Pos}
/-- xs[i] = e -/
theorem SS_seti (hb : p.b = false) (hn : p.X.N[i]? = some x) (hv : Vis p.X.env.scope x) (hd : (x == ("__debug__" : Str)) = false) (hcd : (x == ("__classdict__" : Str)) = false) (hi : SE p a mi) (he : SE p e me)
    (ha : ∀ v, assign (.Subscript (.Name x np) a pos) p.X.env v = (do
      let ov ← holding [v] (eval (.Name x np) p.X.env)
      let iv ← holding [v, ov] (eval a p.X.env)
      standAt pos
      holding [v, ov, iv] (setItem ov iv v)
      release [v, ov, iv] []))
    (hs : swapsWithSole [.Subscript (.Name x np) a pos] e pos2.line p.X.env = pure false) (hw : swappedStores [.Subscript (.Name x np) a pos] e p.X.env = pure none) (h1 : (assignEach [.Subscript (.Name x np) a pos] p.X.env).map (·.2) = [assign (.Subscript (.Name x np) a pos) p.X.env]) :
    SS p fr (.Assign [.Subscript (.Name x np) a pos] e pos2) (fun ρ κ => (me ρ κ).toO fun v => match rdO ρ i with
      | some l => (mi ρ v.2).toO fun q => match q.1 with
        | .int n => match L2.ixN l.length n with
          | some j => .nx (ρ.set i (some (.own (l.set j v.1)))) q.2
          | none => .bad
        | _ => .bad
      | none => .bad) :=
  (ps_asg he (pg_sub (pe_var (i := i) hn hv hd hcd) hi set_list ha) hs hw h1).imp fun D σ H ⟨w0, w, ρ, κ, c0, po⟩ => ⟨w, ρ, κ, c0.re, c0.wf, PostO.bind c0 po fun w1 H1 v κ1 x wf1 e1 rv po1 => by
    have c1 := c0.step e1 wf1
    have po1 : PostO p fr w0 w1 H1 D (match rdO ρ i with
      | some l => (mi ρ κ1).toO fun q => match q.1 with
        | .int n => match L2.ixN l.length n with
          | some j => .nx (ρ.set i (some (.own (l.set j v)))) q.2
          | none => .bad
        | _ => .bad
      | none => .bad) := po1
    cases ho : rdO ρ i with
    | none =>
      rw [ho] at po1
      exact po1.elim
    | some l =>
      rw [ho] at po1
      have ho := rdO_own ho
      obtain ⟨a, xs, s1, s2, s3, _⟩ := own_upd hb c1 ho
      refine ⟨_, s1, w1, ρ, κ1, c1.re, wf1, PostO.bind c1 po1 fun w3 H3 q κ3 z wf3 e3 rq po3 => ?_⟩
      have c3 := c1.step e3 wf3
      have rv3 := rv.ext e3 wf1
      have rq : RV p.g w3.I w3.μ H3 q z := rq
      obtain ⟨a', xs', t1, t2, t3, t4⟩ := own_upd hb c3 ho
      rw [s1] at t1
      cases t1
      clear po po1
      cases q with
      | int n =>
        cases rq
        have po3 : PostO p fr w0 w3 H3 D (match L2.ixN l.length n with
          | some j => .nx (ρ.set i (some (.own (l.set j v)))) κ3
          | none => .bad) := po3
        cases hj : L2.ixN l.length n with
        | none => rw [hj] at po3; exact po3.elim
        | some j =>
          rw [hj] at po3
          obtain ⟨c4, k4⟩ := t4 (l.set j v) (xs'.set j x) (RVs.set j rv3 t3)
          exact ⟨_, xs', n, j, rfl, rfl, t2, by rw [← t3.length]; exact hj, po3 w3 σ _ c4 k4⟩
      | _ => exact po3.elim⟩
/-- xs[i] op= e, of integers -/
theorem SS_augi {op : Operator} {f : Int → Int → Int} (hp : PIp p.X op (ipI f)) (hb : p.b = false) (hn : p.X.N[i]? = some x) (hv : Vis p.X.env.scope x) (hd : (x == ("__debug__" : Str)) = false) (hcd : (x == ("__classdict__" : Str)) = false) (hi : SE p a mi) (he : SE p e me)
    (ha : ∀ ov iv new, augStore a ov iv new = (do holding [new, ov, iv] (setItem ov iv new); release [new, ov, iv] []; pure .next)) :
    SS p fr (.AugAssign (.Subscript (.Name x np) a pos) op e pos2) (fun ρ κ => match rdO ρ i with
      | some l => (mi ρ κ).toO fun q => match q.1 with
        | .int n => match L2.ixN l.length n with
          | some j => match l[j]? with
            | some (.int old) => (me ρ q.2).toO fun r => match r.1 with
              | .int y => .nx (ρ.set i (some (.own (l.set j (.int (f old y)))))) r.2
              | _ => .bad
            | _ => .bad
          | none => .bad
        | _ => .bad
      | none => .bad) :=
  (ps_augS (pe_var (i := i) hn hv hd hcd) hi get_list he hp set_list ha).imp fun D σ H ⟨w0, w, ρ, κ, c0, po⟩ => by
    have po : PostO p fr w0 w H D (match rdO ρ i with
      | some l => (mi ρ κ).toO fun q => match q.1 with
        | .int n => match L2.ixN l.length n with
          | some j => match l[j]? with
            | some (.int old) => (me ρ q.2).toO fun r => match r.1 with
              | .int y => .nx (ρ.set i (some (.own (l.set j (.int (f old y)))))) r.2
              | _ => .bad
            | _ => .bad
          | none => .bad
        | _ => .bad
      | none => .bad) := po
    cases ho : rdO ρ i with
    | none =>
      rw [ho] at po
      exact po.elim
    | some l =>
      rw [ho] at po
      have ho := rdO_own ho
      obtain ⟨a, xs, s1, s2, s3, _⟩ := own_upd hb c0 ho
      refine ⟨_, s1, w, ρ, κ, c0.re, c0.wf, PostO.bind c0 po fun w1 H1 q κ1 z wf1 e1 rq po1 => ?_⟩
      have c1 := c0.step e1 wf1
      have rq : RV p.g w1.I w1.μ H1 q z := rq
      obtain ⟨a', xs', t1, t2, t3, _⟩ := own_upd hb c1 ho
      rw [s1] at t1
      cases t1
      clear po
      cases q with
      | int n =>
        cases rq
        have po1 : PostO p fr w0 w1 H1 D (match L2.ixN l.length n with
          | some j => match l[j]? with
            | some (.int old) => (me ρ κ1).toO fun r => match r.1 with
              | .int y => .nx (ρ.set i (some (.own (l.set j (.int (f old y)))))) r.2
              | _ => .bad
            | _ => .bad
          | none => .bad) := po1
        cases hj : L2.ixN l.length n with
        | none => rw [hj] at po1; exact po1.elim
        | some j =>
          rw [hj] at po1
          have po1 : PostO p fr w0 w1 H1 D (match l[j]? with
            | some (.int old) => (me ρ κ1).toO fun r => match r.1 with
              | .int y => .nx (ρ.set i (some (.own (l.set j (.int (f old y)))))) r.2
              | _ => .bad
            | _ => .bad) := po1
          cases hl : l[j]? with
          | none => rw [hl] at po1; exact po1.elim
          | some old =>
            rw [hl] at po1
            obtain ⟨z, hz, rz⟩ := t3.get hl
            cases old with
            | int old =>
              cases rz
              have po1 : PostO p fr w0 w1 H1 D ((me ρ κ1).toO fun r => match r.1 with
                | .int y => .nx (ρ.set i (some (.own (l.set j (.int (f old y)))))) r.2
                | _ => .bad) := po1
              refine ⟨_, xs', n, .int old, rfl, rfl, SqL.of t2, ?_, w1, ρ, κ1, c1.re, wf1, PostO.bind c1 po1 fun w3 H3 q κ3 z wf3 e3 rq po3 => ?_⟩
              · unfold atI
                rw [← t3.length, hj]
                exact hz
              have c3 := c1.step e3 wf3
              have rq : RV p.g w3.I w3.μ H3 q z := rq
              obtain ⟨a'', xs'', u1, u2, u3, u4⟩ := own_upd hb c3 ho
              rw [s1] at u1
              cases u1
              clear po1
              cases q with
              | int y =>
                cases rq
                obtain ⟨c4, k4⟩ := u4 (l.set j (.int (f old y))) (xs''.set j (.int (f old y))) (RVs.set j (.int _) u3)
                exact ⟨old, y, rfl, rfl, _, xs'', n, j, rfl, rfl, u2, by rw [← u3.length]; exact hj, po3 w3 σ _ c4 k4⟩
              | _ => exact po3.elim
            | _ => exact po1.elim
      | _ => exact po1.elim
theorem RX1.sameH {g : Gx} {w w' : Wd} {H : Hp} (kp : Keeps w.I w'.I w.μ w'.μ H H) {k : Nat} {caps : List Val} {x : V} (r : RX1 g w H k caps x) : RX1 g w' H k caps x := by
  cases r with
  | mk h0 o oc fr cc all inj vs r => exact .mk h0 o oc fr cc all inj vs (r.keeps kp)
theorem RXs.sameH {g : Gx} {w w' : Wd} {H : Hp} (kp : Keeps w.I w'.I w.μ w'.μ H H) : ∀ {l : List (Nat × List Val)} {zs : List V}, RXs g w H l zs → RXs g w' H l zs
  | _, _, .nil => .nil
  | _, _, .cons r t => .cons (r.sameH kp) (RXs.sameH kp t)
theorem RX.sameH {g : Gx} {w w' : Wd} {H : Hp} (kp : Keeps w.I w'.I w.μ w'.μ H H) : ∀ {v : Ex} {z : V}, RX g w H v z → RX g w' H v z
  | _, _, .one r => .one (r.sameH kp)
  | _, _, .many j q r => .many (kp.j _ j) q (RXs.sameH kp r)
/-- a list that is owned becomes a value: nothing is done -/
theorem own_dg {w0 w : Wd} {ρ : Rho} {κ : Ks} {σ : L2.St} {H : Hp} (hb : p.b = false) (c : Cur p w0 w ρ κ σ H) {i : Nat} {l : List Val} (hi : ρ[i]? = some (some (.own l))) : ∃ w', Cur p w0 w' (ρ.set i (some (.val (.lst l)))) κ σ H ∧ Keeps w.I w'.I w.μ w'.μ H H := by
  obtain ⟨a, xs, hs, ha, r, nI, nM, h0⟩ := c.re.at_ i _ hi
  have h0 : p.X.H_0 a = none := h0.elim (fun z => by rw [hb] at z; cases z) id
  have wf2 := c.wf.fix ha nM
  have kp : Keeps w.I (w.fix a).I w.μ (w.fix a).μ H H := Keeps.fix
  have hlt := (List.getElem?_eq_some_iff.mp hi).1
  refine ⟨w.fix a, ⟨⟨by rw [List.length_set]; exact c.re.len, fun j sl hj => ?_, fun j k m1 m2 b h1 h2 h3 h4 => ?_⟩, wf2, ⟨fun b z => .inl (c.e0.I b z), fun b z => ?_, c.e0.mu, c.e0.fr, c.e0.dm⟩⟩, kp⟩
  · rcases getElem?_set_cases hj with ⟨ej, _, es⟩ | ⟨nj, hj⟩
    · subst ej; cases es
      exact ⟨.ref a, hs, .lst (.inr rfl) ha (r.keeps kp)⟩
    · have q := c.re.at_ j sl hj
      cases sl with
      | val v => obtain ⟨x, h1, h2⟩ := q; exact ⟨x, h1, h2.keeps kp⟩
      | own m =>
        obtain ⟨b, zs, h1, h2, h3, h4, h5, h6⟩ := q
        refine ⟨b, zs, h1, h2, h3.keeps kp, fun z => ?_, h5, h6⟩
        rcases z with z | z
        · exact h4 z
        · subst z
          exact nj (c.re.apart i j l m b hi hj hs h1)
      | cls m =>
        rcases q with z | ⟨b, zs, h1, h2, h3, h4⟩
        · exact .inl z
        · exact .inr ⟨b, zs, h1, .inl h2, h3, h4⟩
      | ext y =>
        obtain ⟨x, h1, h2⟩ := q
        exact ⟨x, h1, h2.sameH kp⟩
      | pin => exact q
  · rcases getElem?_set_cases h1 with ⟨_, _, es⟩ | ⟨nj, h1⟩
    · cases es
    · rcases getElem?_set_cases h2 with ⟨_, _, es⟩ | ⟨nk, h2⟩
      · cases es
      · exact c.re.apart j k m1 m2 b h1 h2 h3 h4
  · rcases z with z | z
    · exact c.e0.new b z
    · subst z
      exact .inr h0
theorem SSs_dg {sts : List Stmt} {n : Rho → Ks → O} (hb : p.b = false) (i : Nat) (t : SSs p fr sts n) : SSs p fr sts (fun ρ κ => match rdO ρ i with
    | some l => n (ρ.set i (some (.val (.lst l)))) κ
    | none => n ρ κ) :=
  t.imp fun D σ H ⟨w0, w, ρ, κ, c0, po⟩ => by
    have po : PostO p fr w0 w H D (match rdO ρ i with
      | some l => n (ρ.set i (some (.val (.lst l)))) κ
      | none => n ρ κ) := po
    cases ho : rdO ρ i with
    | none =>
      rw [ho] at po
      exact ⟨w0, w, ρ, κ, c0, po⟩
    | some l =>
      rw [ho] at po
      obtain ⟨w', c', k'⟩ := own_dg hb c0 (rdO_own ho)
      exact ⟨w0, w', _, κ, c', PostO.weak po k'⟩
end
end PL
end
section
set_option maxHeartbeats 1000000
/-! enumerate over lists and tuples. -/
namespace PL
open PySem PySem.Spec PyProof.Rows L2 LamX NdefX
open AutoSeq1 (wpAny_loadPart')
theorem meets_enumT (l : Addr) (o : Obj) (items : Array Value) (n : Nat) (hc : o.cls = .type "tuple") (hd : o.data = .seq items n) :
    Meets (Builtin.«enumerate.__new__» ⟨[.type "enumerate", .ref l], []⟩) (fun _ R s => s.heap.get? l = some o ∧
      R (.ok (.ret (.ref (s.heap.push { cls := .type "tuple_iterator", data := .fields #[.ref l, .int 0 0] }).objs.size)))
        { s with heap := (s.heap.push { cls := .type "tuple_iterator", data := .fields #[.ref l, .int 0 0] }).push { cls := .type "enumerate", data := .fields #[.none, .bool false, .ref s.heap.objs.size, rawInt 0, .none, .none] } }) :=
  .of_wp fun prog w A R s h => by
    obtain ⟨hp, g, d, tk, os⟩ := s; obtain ⟨hl, h⟩ := h
    have hsub := sub_enumerate
    have hL : Heap.IsTuple (Shared.heap ⟨hp, g, d, tk, os⟩) l items := ⟨o, hl, hc, n, hd⟩
    wp_walk using wpAny_loadPart' hl
    refine wpAny_stack_any fun st => wpAny_pure ?_
    split
    · rename_i c _ _ _ _ _
      cases (c == Value.type "enumerate")
      · wp_walk using wpAny_loadPart' hl, wpAny_pyIter_tuple hL
        exact ⟨_, rfl, h⟩
      · wp_walk using wpAny_loadPart' hl, wpAny_pyIter_tuple hL
        exact ⟨_, rfl, h⟩
    · wp_walk using wpAny_loadPart' hl, wpAny_pyIter_tuple hL
      exact ⟨_, rfl, h⟩
theorem call_enumerate_tup {prog : Program} {w : World} {A : Around} {E : Value → Shared → Prop} {s : Shared} {l : Addr} {items : Array Value} {Q : Value → Shared → Prop} (hL : s.heap.IsTuple l items)
    (h : ∀ h', IsEnum h' (s.heap.objs.size + 1) s.heap.objs.size 0 .none → h'.IsTupleIter s.heap.objs.size l 0 → h'.objs.size = s.heap.objs.size + 2 →
      (∀ b o, s.heap.get? b = some o → h'.get? b = some o) → Q (.ref (s.heap.objs.size + 1)) { s with heap := h' }) :
    wpAny (model prog w) A (call (.type "enumerate") [.ref l]) Q E s := by
  obtain ⟨o, hl, hc, n, hd⟩ := hL
  refine callType_new F.called_enumerate (by decide) (F.typeCall_enumerate_1 _) (F.newCall_enumerate_1 _) (fun obj => F.args_object_init_2 obj _) F.entry_enumerate_new
    (meets_enumT l o items n hc hd) ⟨hl, ?_⟩
  have hz : (s.heap.push { cls := .type "tuple_iterator", data := .fields #[.ref l, .int 0 0] }).objs.size = s.heap.objs.size + 1 := Heap.size_push ..
  show _ ∧ _
  rw [hz]
  have he : IsEnum ((s.heap.push { cls := .type "tuple_iterator", data := .fields #[.ref l, .int 0 0] }).push
      { cls := .type "enumerate", data := .fields #[.none, .bool false, .ref s.heap.objs.size, rawInt 0, .none, .none] }) (s.heap.objs.size + 1) s.heap.objs.size 0 .none := by
    have := Heap.get?_push_size (s.heap.push { cls := .type "tuple_iterator", data := .fields #[.ref l, .int 0 0] })
      (o := { cls := .type "enumerate", data := .fields #[.none, .bool false, .ref s.heap.objs.size, rawInt 0, .none, .none] }) rfl
    rw [hz] at this; exact this
  refine ⟨⟨_, he, rfl⟩, h _ he ⟨_, Heap.get?_push_of_some _ (Heap.get?_push_size _ rfl), rfl, rfl⟩ (by rw [Heap.size_push, hz]) fun b o x => Heap.get?_push_of_some _ (Heap.get?_push_of_some _ x)⟩
/-- the tuple at a, each item in a new pair -/
def IteT (K : PySem.W.Frag) (a : Addr) : L2.It :=
  ⟨fun i H => ∃ (xs : List V) (x : V), SqT K H a xs ∧ xs[i]? = some x, fun i H v H' => ∃ T x, v = .ref T ∧ H T = none ∧ H' = upd H T (.tup [.int (i : Nat), x]) ∧ ∀ xs, SqT K H a xs → xs[i]? = some x, fun i H => ∃ xs : List V, SqT K H a xs ∧ xs.length ≤ i⟩
theorem turn_enumT {P : Program} {w : World} {K : PySem.W.Frag} {elts : List Expr} {kk : Nat} {tpos : Pos} (a e it : Addr) (items : List Value) :
    Turn P w K (.Tuple elts kk tpos) (IteT K a) [e, it] e (fun i h => (∃ old, IsEnum h e it ((i : Nat) : Int) old) ∧ h.IsTupleIter it a i ∧ e ≠ it) where
  mem := by simp
  obj := fun i h st b hb => by
    obtain ⟨⟨old, he⟩, ⟨o, ho, hc, hd⟩, _⟩ := st
    have e' : b = e ∨ b = it := by simpa using hb
    rcases e' with z | z
    · rw [z]; exact ⟨_, he, fun v q => nomatch q⟩
    · rw [z]; exact ⟨o, ho, fun v q => by rw [hd] at q; cases q⟩
  keep := fun i h h' st k => let ⟨⟨old, he⟩, hi, hne⟩ := st; ⟨⟨old, k e (by simp) _ he⟩, hi.at fun o q => k it (by simp) o q, hne⟩
  item := by
    intro X hP hw hK hc i pins s σ H E I hf st hg
    subst hP hw hK
    obtain ⟨⟨old, he⟩, hit, hne⟩ := st
    obtain ⟨xs, x, hq, hx⟩ := hg
    obtain ⟨its, rv, p, hz⟩ := I.tuple hq
    have p' : s.heap.IsTuple a its.toArray := p
    obtain ⟨u, hu, ru⟩ := rv.get hx
    have hel : e < s.heap.objs.size := Heap.lt_size he
    have hil : it < s.heap.objs.size := by obtain ⟨_, q, _⟩ := hit; exact Heap.lt_size q
    have nai : a ≠ it := fun z => by
      obtain ⟨o1, q1, q2, _⟩ := p'
      obtain ⟨o2, q3, q4, _⟩ := hit
      rw [z, q3] at q1
      cases q1
      rw [q4] at q2
      exact absurd q2 (by decide +kernel)
    have nea : e ≠ a := fun z => by
      obtain ⟨o1, q1, q2, _⟩ := p'
      have he' : s.heap.get? e = _ := he
      rw [z, q1] at he'
      cases he'
      have q2 : Value.type "enumerate" = Value.type "tuple" := q2
      exact absurd q2 (by decide +kernel)
    have hlt : i < its.toArray.size := by
      have := (List.getElem?_eq_some_iff.mp hu).1
      simpa using this
    have D := Draws.tuple (prog := X.prog) (w := X.w) (A := X.A.in1) (show X.A.in1.handled = none from I.ok.hd hc) it a nai its.toArray
    refine wpAny_pyNext_enum_itemD D he ⟨hit, p'⟩ hlt hne (by simp [hne, nea]) fun u2 h' tk hP ho st' hT hsz hk => ?_
    have eu : u2 = u := by
      have hP : its.toArray[i]? = some u2 := hP
      rw [List.getElem?_toArray, hu] at hP
      exact (Option.some.inj hP).symm
    subst eu
    refine ⟨_, rfl, wpAny_letOwnedTupleGo_enum (s := { s with heap := h', toks := tk + 1 }) ho fun h'' he' sb => ?_⟩
    have hT2 : h''.get? s.heap.objs.size = some { cls := .type "tuple", data := .seq #[.int i tk, u2] } := (sb.2 _ (Nat.ne_of_gt hel)).trans hT
    have new : ObjOk X.prog X.w (upd H s.heap.objs.size (.tup [.int (i : Nat), x])) h'' s.heap.objs.size (.tup [.int (i : Nat), x]) :=
      ⟨by show 2 ≤ sizeLine; decide, [.int i tk, u2], .cons ⟨_, rfl⟩ (.cons ru .nil), ⟨_, hT2, rfl, _, rfl⟩⟩
    have I1 : Inv X pins σ (upd H s.heap.objs.size (.tup [.int (i : Nat), x])) { s with heap := h'', toks := tk + 1 } :=
      I.turnedNew (ch := [e, it]) (fun b ob hb q => (sb.2 b (fun z => hb (by simp [z]))).trans (hk b ob (fun z => hb (by simp [z])) (fun z => hb (by simp [z])) q)) hf (Nat.le_refl _) new
    refine ⟨.ref s.heap.objs.size, _, I1, rfl, ⟨_, x, rfl, I.hok.fresh (Nat.le_refl _), rfl, fun ys hy => by rw [I.tuple_inj hy hq]; exact hx⟩, ⟨⟨u2, ?_⟩, st'.1.at fun o q => (sb.2 it (Ne.symm hne)).trans q, hne⟩, fun b hb => ?_⟩
    · have e1 : ((i + 1 : Nat) : Int) = (i : Int) + 1 := by omega
      rw [e1]; exact he'
    · have hb' : b < s.heap.objs.size := by
        have e' : b = e ∨ b = it := by simpa using hb
        rcases e' with z | z
        · rw [z]; exact hel
        · rw [z]; exact hil
      rw [upd_ne (Nat.ne_of_lt hb')]
      exact (hf b hb).1
  done := by
    intro X hP hw hK hc i pins s σ H E I hf st hg
    subst hP hw hK
    obtain ⟨⟨old, he⟩, hit, hne⟩ := st
    obtain ⟨xs, hq, hx⟩ := hg
    obtain ⟨its, rv, p, hz⟩ := I.tuple hq
    have p' : s.heap.IsTuple a its.toArray := p
    obtain ⟨f0, f1, f2, f3, f4, f5⟩ := hf it (by simp)
    have hl := rv.length
    have D : Draws X.prog X.w X.A.in1 it [it, a] i (fun _ _ => True) (fun j h => h.IsTupleIter it a i ∧ h.IsTuple a its.toArray ∧ j = i) :=
      { live := fun _ _ st => let ⟨o, ho, _⟩ := st.1; ⟨o, ho⟩
        frame := fun _ _ _ st hk => ⟨st.1.at fun o e => hk it (by simp) o e, st.2.1.at fun o e => hk a (by simp) o e, st.2.2⟩
        item := fun j s Q E hj st hQ => absurd hj (by rw [st.2.2]; exact Nat.lt_irrefl _)
        done := fun s Q E st hE => wpAny_nextOf_tuple_end (A := X.A.in1) (show X.A.in1.handled = none from I.ok.hd hc) st.1 st.2.1 (by simp; omega) hE }
    exact wpAny_pyNext_enum_endD D he ⟨hit, p', rfl⟩ fun h' eb => ⟨rfl, I.turned (t' := s.toks) (fun b o hb q => eb b o hb q) f0 f1 f3 f4 f5⟩
  self := fun A i s Q E st h => let ⟨⟨_, he⟩, _⟩ := st; wpAny_pyIter_enum he h
def iEnumA (K : PySem.W.Frag) (ta : TA) : TI := fun σ H R => ta σ H fun vs H1 => ∃ a, vs = [.ref a] ∧ (((∃ xs, SqL K H1 a xs) ∧ R (Ite K a) H1) ∨ ((∃ xs, SqT K H1 a xs) ∧ R (IteT K a) H1))
theorem pi_enumA {X : Cx} {e : Expr} {ta : TA} {p pos tpos : Pos} {elts : List Expr} {kk : Nat} (hg : Gl X "enumerate") (hm : X.mg "enumerate" = none) (ha : PA X [e] ta) (hs : starEach [e] X.env = [(false, eval e X.env)]) :
    PI X (.Tuple elts kk tpos) (.Call (.Name "enumerate" p) [e] [] pos) (iEnumA X.K ta) := by
  refine ⟨fun pins s σ H R I h => ?_⟩
  refine Call_ (ld_blt I hg hm boot_enumerate (PyProof.Rows.callWith_type1 (thn (ha.run pos pins s σ H _ I h) fun us s1 ⟨vs, H1, I1, r1, q1⟩ => ?_) hs rfl))
  obtain ⟨a, ex, q⟩ := q1
  subst ex
  cases r1 with
  | cons r rr =>
    cases rr
    cases r
    have fr : ∀ b ∈ [s1.heap.objs.size + 1, s1.heap.objs.size], FpOk X pins H1 b := fun b hb => by
      have e' : b = s1.heap.objs.size + 1 ∨ b = s1.heap.objs.size := by simpa using hb
      have hle : s1.heap.objs.size ≤ b := by
        rcases e' with z | z
        · rw [z]; exact Nat.le_add_right _ _
        · rw [z]; exact Nat.le_refl _
      exact I1.fpOk hle (I1.hok.fresh hle)
    rcases q with ⟨⟨xs, hq⟩, q⟩ | ⟨⟨xs, hq⟩, q⟩
    · obtain ⟨its, rv, p', hz⟩ := I1.list hq
      refine call_enumerate_list p'.isList fun h' he hit hsz hk => wpAny_pyIter_enum he ?_
      have I2 : Inv X pins σ H1 { s1 with heap := h' } := I1.kept (t' := s1.toks) hk
      exact ⟨s1.heap.objs.size + 1, [s1.heap.objs.size + 1, s1.heap.objs.size], _, _, H1, rfl, I2, turn_enum a (s1.heap.objs.size + 1) s1.heap.objs.size, ⟨⟨.none, he⟩, hit, Nat.succ_ne_self _⟩, fr, q⟩
    · obtain ⟨its, rv, p', hz⟩ := I1.tuple hq
      refine call_enumerate_tup (show s1.heap.IsTuple a its.toArray from p') fun h' he hit hsz hk => wpAny_pyIter_enum he ?_
      have I2 : Inv X pins σ H1 { s1 with heap := h' } := I1.kept (t' := s1.toks) hk
      exact ⟨s1.heap.objs.size + 1, [s1.heap.objs.size + 1, s1.heap.objs.size], _, _, H1, rfl, I2, turn_enumT a (s1.heap.objs.size + 1) s1.heap.objs.size [], ⟨⟨.none, he⟩, hit, Nat.succ_ne_self _⟩, fr, q⟩
theorem wlk_enumT {g : Gx} {S : Wd → Hp → Prop} {a : Addr} {l : List Val} {xs : List V} (st : ∀ w κ H, S w H → WF g w κ H → SqT g.K H a xs ∧ RVs g w.I w.μ H l xs) (hl : l.length = xs.length) : Wlk g S (IteT g.K a) (enumL l) where
  go := fun i w κ H hi s wf => by
    obtain ⟨h, r⟩ := st w κ H s wf
    rw [enumL_length] at hi
    exact ⟨xs, xs[i]'(by omega), h, by simp⟩
  stop := fun w κ H s wf => by
    obtain ⟨h, r⟩ := st w κ H s wf
    rw [enumL_length]
    exact ⟨xs, h, by omega⟩
  yld := fun i w κ H x H' hi s wf y => by
    obtain ⟨T, x1, rfl, n, rfl, hx⟩ := y
    obtain ⟨h, r⟩ := st w κ H s wf
    obtain ⟨v, h1, h2⟩ := r.get' (hx xs h)
    obtain ⟨e1, wf1, r1⟩ := new_pair wf (.int (i : Nat)) h2 n
    exact ⟨_, enumL_get h1, e1, wf1, r1⟩
section
variable {p : Pl} {tg a b c : Expr} {q pos : Pos} {ma mb mc : Rho → Ks → R (Val × Ks)} {elts : List Expr} {kk : Nat} {tpos : Pos}
theorem SI_enum (hK : p.X.K = p.g.K) (hg : L2.Gl p.X "enumerate") (hm : p.X.mg "enumerate" = none) (ha : SB p a ma) (hs : starEach [a] p.X.env = [(false, eval a p.X.env)]) :
    SI p (.Tuple elts kk tpos) (.Call (.Name "enumerate" q) [a] [] pos) (fun ρ κ => (ma ρ κ).bind fun q => R.ofO ((itemsV q.1).map fun l => (enumL l, q.2))) :=
  (pi_enumA hg hm (pa_cons ha pa_nil hs) hs).imp fun σ H Q h => tG_bind1 (f := fun _ q => R.ofO ((itemsV q.1).map fun l => (enumL l, q.2))) h fun w ρ κ H1 a x re wf rx po => by
    have po : Post p.g p.clA (rWx p.g) w H1 (R.ofO ((itemsV a).map fun l => (enumL l, κ))) Q (fun c d H' => p.W c d σ H') := po
    cases ei : itemsV a with
    | none => rw [ei] at po; exact po.elim
    | some l =>
      rw [ei] at po
      have k : ∀ x w' H', Ext w H1 w' H' → WF p.g w' κ H' → rWx p.g w' H' (enumL l) x → Q x H' := po
      rcases itemsV_some ei with rfl | rfl
      · obtain ⟨q, xs, rfl, hq, r⟩ := rx.tup
        refine ⟨q, rfl, .inr ⟨⟨xs, by rw [hK]; exact hq⟩, k _ w H1 (Ext.refl w H1) wf ?_⟩⟩
        rw [hK]
        exact wlk_enumT (fun w' κ' H' s wf' => ⟨PL.SqT.keeps (s.keepsI wf) hq, r.ext s wf⟩) r.length
      · obtain ⟨q, xs, rfl, hq, n, r⟩ := rx.lst wf
        refine ⟨q, rfl, .inl ⟨⟨xs, SqL.of hq⟩, k _ w H1 (Ext.refl w H1) wf ?_⟩⟩
        rw [hK]
        exact wlk_enum (fun w' κ' H' s wf' => ⟨Ext.rd s n hq, r.ext s wf⟩) r.length
theorem SIk_enum (hK : p.X.K = p.g.K) (hg : L2.Gl p.X "enumerate") (hm : p.X.mg "enumerate" = none) (ha : SE p a ma) (hs : starEach [a] p.X.env = [(false, eval a p.X.env)]) :
    SIk p (.Tuple elts kk tpos) (.Call (.Name "enumerate" q) [a] [] pos) (fun ρ κ => (ma ρ κ).bind fun q => R.ofO ((itemsV q.1).map fun l => (enumL l, q.2))) :=
  (pi_enumA hg hm (pa_cons ha pa_nil hs) hs).imp fun σ H Q h => tG_bind1 (f := fun _ q => R.ofO ((itemsV q.1).map fun l => (enumL l, q.2))) h fun w ρ κ H1 a x re wf rx po => by
    have po : Post p.g p.clA (rWk p.g) w H1 (R.ofO ((itemsV a).map fun l => (enumL l, κ))) Q (fun c d H' => p.W c d σ H') := po
    cases ei : itemsV a with
    | none => rw [ei] at po; exact po.elim
    | some l =>
      rw [ei] at po
      have k : ∀ x w' H', Ext w H1 w' H' → WF p.g w' κ H' → rWk p.g w' H' (enumL l) x → Q x H' := po
      have rx : RV p.g w.I w.μ H1 a x := rx
      rcases itemsV_some ei with rfl | rfl
      · cases rx with
        | tup hq r =>
          refine ⟨_, rfl, .inr ⟨⟨_, by rw [hK]; exact hq⟩, k _ w H1 (Ext.refl w H1) wf ?_⟩⟩
          rw [hK]
          exact wlk_enumT (fun w' κ' H' s wf' => ⟨PL.SqT.keeps s hq, r.keeps s⟩) r.length
      · cases rx with
        | lst j hq r =>
          refine ⟨_, rfl, .inl ⟨⟨_, SqL.of hq⟩, k _ w H1 (Ext.refl w H1) wf ?_⟩⟩
          rw [hK]
          exact wlk_enum (fun w' κ' H' s wf' => ⟨s.l _ _ j hq, r.keeps s⟩) r.length
end
end PL
end
section
set_option maxHeartbeats 1000000
/-! More rules, told of the IR. -/
namespace PL
open PySem PySem.Spec PyProof.Rows L2 LamX NdefX
section
variable {c : CB} {d : Nat} {p : Pl} {fr : Bool} {pos pos' pos2 np apos q : Pos} {i j : Nat} {x : Str} {a b : Expr} {ea eb : E} {ss : Ss} {sts : List Stmt}
theorem zAppend (hb : p.b = false) (h : Nm p i x) (he : JE p c a ea) (hs : swapsWith (.Call (.Attribute (.Name x np) "append" apos) [a] [] pos) none pos'.line p.X.env = pure false) (hbase : attributeBase (.Name x np) "append" p.X.env (eval (.Name x np) p.X.env) = eval (.Name x np) p.X.env) (hline : (apos.endLine == pos.line) = true) (hst : starEach [a] p.X.env = [(false, eval a p.X.env)])
    (hfew : ((backTo pos (starEach [a] p.X.env)).all (fun x => !x.1) && (backToKw pos (keywordEach [] p.X.env)).all (fun x => x.1.isSome) && decide ([a].length + ([] : List Keyword).length + (if ([] : List Keyword).isEmpty then 0 else 1) < 30)) = true) :
    JS p c fr (.Expr (.Call (.Attribute (.Name x np) "append" apos) [a] [] pos) pos') (.append i ea) := SS_append hb h.n h.v (okN1 h.k) (okN2 h.k) he hs hbase hline hst hfew
theorem zPop (hb : p.b = false) (h : Nm p i x) (hs : swapsWith (.Call (.Attribute (.Name x np) "pop" apos) [] [] pos) none pos'.line p.X.env = pure false) (hbase : attributeBase (.Name x np) "pop" p.X.env (eval (.Name x np) p.X.env) = eval (.Name x np) p.X.env) (hline : (apos.endLine == pos.line) = true) :
    JS p c fr (.Expr (.Call (.Attribute (.Name x np) "pop" apos) [] [] pos) pos') (.pop i) := SS_pop hb h.n h.v (okN1 h.k) (okN2 h.k) hs hbase hline
theorem zSeti (hb : p.b = false) (h : Nm p i x) (hi : JE p c a ea) (he : JE p c b eb)
    (ha : ∀ v, assign (.Subscript (.Name x np) a pos) p.X.env v = (do
      let ov ← holding [v] (eval (.Name x np) p.X.env)
      let iv ← holding [v, ov] (eval a p.X.env)
      standAt pos
      holding [v, ov, iv] (setItem ov iv v)
      release [v, ov, iv] []))
    (hs : swapsWithSole [.Subscript (.Name x np) a pos] b pos2.line p.X.env = pure false) (hw : swappedStores [.Subscript (.Name x np) a pos] b p.X.env = pure none) (h1 : (assignEach [.Subscript (.Name x np) a pos] p.X.env).map (·.2) = [assign (.Subscript (.Name x np) a pos) p.X.env]) :
    JS p c fr (.Assign [.Subscript (.Name x np) a pos] b pos2) (.seti i ea eb) := SS_seti hb h.n h.v (okN1 h.k) (okN2 h.k) hi he ha hs hw h1
theorem zAugAdd (hb : p.b = false) (h : Nm p i x) (hi : JE p c a ea) (he : JE p c b eb) (ha : ∀ ov iv new, augStore a ov iv new = (do holding [new, ov, iv] (setItem ov iv new); release [new, ov, iv] []; pure .next)) :
    JS p c fr (.AugAssign (.Subscript (.Name x np) a pos) .Add b pos2) (.augi i ea .add eb) := SS_augi ip_add hb h.n h.v (okN1 h.k) (okN2 h.k) hi he ha
theorem zAugSub (hb : p.b = false) (h : Nm p i x) (hi : JE p c a ea) (he : JE p c b eb) (ha : ∀ ov iv new, augStore a ov iv new = (do holding [new, ov, iv] (setItem ov iv new); release [new, ov, iv] []; pure .next)) :
    JS p c fr (.AugAssign (.Subscript (.Name x np) a pos) .Sub b pos2) (.augi i ea .sub eb) := SS_augi ip_sub hb h.n h.v (okN1 h.k) (okN2 h.k) hi he ha
theorem zDg (hb : p.b = false) (i : Nat) (t : JSs p c fr sts ss) : JSs p c fr sts (.cons (.dg i) ss) := by
  have e : exSs c (.cons (.dg i) ss) = fun ρ κ => match rdO ρ i with
    | some l => exSs c ss (ρ.set i (some (.val (.lst l)))) κ
    | none => exSs c ss ρ κ := funext fun ρ => funext fun κ => by
      show (exS c (.dg i) ρ κ).then _ = _
      show (match rdO ρ i with
        | some l => O.nx (ρ.set i (some (.val (.lst l)))) κ
        | none => .nx ρ κ).then _ = _
      cases rdO ρ i <;> rfl
  show SSs p fr sts (exSs c (.cons (.dg i) ss))
  rw [e]
  exact SSs_dg hb i t
variable {elts : List Expr} {kk : Nat} {tpos : Pos}
theorem iEnum' (C : Cok d p) (hg : Gl p.X "enumerate") (hm : p.X.mg "enumerate" = none) (ha : JB p c a ea) (hs : starEach [a] p.X.env = [(false, eval a p.X.env)]) :
    JI p c (.Tuple elts kk tpos) (.Call (.Name "enumerate" q) [a] [] pos) (.enum ea) := SI_enum C.hK hg hm ha hs
theorem ikEnum (C : Cok d p) (hg : Gl p.X "enumerate") (hm : p.X.mg "enumerate" = none) (ha : JE p c a ea) (hb : ∀ ρ κ r, bw ea ρ κ r = r) (hs : starEach [a] p.X.env = [(false, eval a p.X.env)]) :
    JIk p c (.Tuple elts kk tpos) (.Call (.Name "enumerate" q) [a] [] pos) (.enum ea) := (SIk_enum C.hK hg hm ha hs).imp fun σ H Q ⟨w, ρ, κ, re, wf, po⟩ => ⟨w, ρ, κ, re, wf, by
  have po : Post p.g p.clA (rWk p.g) w H ((bw ea ρ κ (evE c ea ρ κ)).bind fun p => R.ofO ((itemsV p.1).map fun l => (enumL l, p.2))) Q (fun c d H' => p.W c d σ H') := po
  rw [hb] at po
  exact po⟩
theorem ikZip (C : Cok d p) (hg : Gl p.X "zip") (hm : p.X.mg "zip" = none) (ha : JE p c a ea) (hb : JE p c b eb) (h1 : ∀ ρ κ r, bw ea ρ κ r = r) (h2 : ∀ ρ κ r, bw eb ρ κ r = r) (hs : starEach [a, b] p.X.env = (false, eval a p.X.env) :: starEach [b] p.X.env) (hs2 : starEach [b] p.X.env = (false, eval b p.X.env) :: starEach [] p.X.env) :
    JIk p c (.Tuple elts kk tpos) (.Call (.Name "zip" q) [a, b] [] pos) (.zip ea eb) := (SIk_zip C.hK hg hm ha hb hs hs2).imp fun σ H Q ⟨w, ρ, κ, re, wf, po⟩ => ⟨w, ρ, κ, re, wf, by
  have po : Post p.g p.clA (rWk p.g) w H ((bw ea ρ κ (evE c ea ρ κ)).bind fun p => (bw eb ρ p.2 (evE c eb ρ p.2)).bind fun q => R.ofO ((zipV p.1 q.1).map fun l => (l, q.2))) Q (fun c d H' => p.W c d σ H') := po
  rw [h1] at po
  have e : (fun p : Val × Ks => (bw eb ρ p.2 (evE c eb ρ p.2)).bind fun q => R.ofO ((zipV p.1 q.1).map fun l => (l, q.2))) = fun p => (evE c eb ρ p.2).bind fun q => R.ofO ((zipV p.1 q.1).map fun l => (l, q.2)) := funext fun p => by rw [h2]
  rw [e] at po
  exact po⟩
theorem fAddL (ha : JB p c a ea) (hb : JB p c b eb) : JF p c (.BinOp a .Add b pos) (.addL ea eb) := FE_add ha hb
theorem fMulL (ha : JB p c a ea) (hb : JB p c b eb) : JF p c (.BinOp a .Mult b pos) (.mulL ea eb) := FE_mul ha hb
theorem biV_list (l : List Val) : biV .list l = listV l := by
  match l with
  | [] => rfl
  | [v] => cases v <;> rfl
  | a :: b :: l => cases a <;> cases b <;> cases l <;> rfl
theorem fList (C : Cok d p) {l : Es} (hg : Gl p.X "list") (hm : p.X.mg "list" = none) (ha : JLB p c [a] l) (he : starEach [a] p.X.env = (false, eval a p.X.env) :: starEach [] p.X.env) : JF p c (.Call (.Name "list" q) [a] [] pos) (.bi .list l) := by
  have e : evE c (.bi .list l) = fun ρ κ => (evBs c l ρ κ).bind fun q => R.ofO ((listV q.1).map fun v => (v, q.2)) := funext fun ρ => funext fun κ => by
    show ((evBs c l ρ κ).bind fun p => R.ofO ((biV .list p.1).map fun v => (v, p.2))) = _
    congr 1
    funext q
    rw [biV_list]
  show FE p _ (evE c (.bi .list l))
  rw [e]
  exact FE_list C.hK hg hm ha he
end
end PL
end
section
set_option maxHeartbeats 1000000
/-! xs[::-1] of lists and tuples. -/
namespace PL
open PySem PySem.Spec PyProof.Rows L2 LamX NdefX
theorem adjust_rev (n : Nat) : Builtin.Slice.sliceAdjust none none (-1) (n : Int) = ((n : Int) - 1, -1) := by
  unfold Builtin.Slice.sliceAdjust
  rfl
theorem places_rev (n : Nat) : Builtin.Slice.slicePlaces ((n : Int) - 1) (-1) (-1) = n := by
  unfold Builtin.Slice.slicePlaces
  have h1 : ¬ ((-1 : Int) > 0) := by omega
  simp only [h1, if_false, Int.neg_neg, Int.ediv_one]
  split <;> omega
theorem filterMap_same {α β : Type} {f g : α → Option β} : ∀ {l : List α}, (∀ m ∈ l, f m = g m) → l.filterMap f = l.filterMap g
  | [], _ => rfl
  | a :: l, h => by
    rw [List.filterMap_cons, List.filterMap_cons, h a List.mem_cons_self, filterMap_same fun m hm => h m (List.mem_cons_of_mem _ hm)]
theorem pick_rev (xs : Array Value) : ((List.range xs.size).filterMap fun (m : Nat) => xs[((xs.size : Int) - 1 + (m : Int) * (-1)).toNat]?).toArray = xs.toList.reverse.toArray := by
  have e : ∀ m ∈ List.range xs.size, xs[((xs.size : Int) - 1 + (m : Int) * (-1)).toNat]? = xs[xs.size - 1 - m]? := fun m hm => by
    have hm := List.mem_range.mp hm
    have : ((xs.size : Int) - 1 + (m : Int) * (-1)).toNat = xs.size - 1 - m := by omega
    rw [this]
  congr 1
  have e2 : (List.range xs.size).filterMap (fun (m : Nat) => xs[((xs.size : Int) - 1 + (m : Int) * (-1)).toNat]?) = (List.range xs.size).filterMap fun m => xs[xs.size - 1 - m]? := by
    exact filterMap_same e
  rw [e2]
  have e3 : (List.range xs.size).filterMap (fun m => xs[xs.size - 1 - m]?) = ((List.range xs.size).map fun m => xs.size - 1 - m).filterMap (xs[·]?) := by
    rw [List.filterMap_map]; rfl
  rw [e3, PySem.W.krv_range, List.filterMap_reverse, PySem.W.krv_all]
section
variable {prog : Program} {w : World} {A : Around} {E : Value → Shared → Prop} {s : Shared}
theorem sliceApplied_rev {sl : Addr} {vl vu vk : Value} {n : Nat} {Q : Int × Int × Nat → Shared → Prop} (hs : s.heap.IsSliceOf sl vl vu vk) (pl : IsPart vl none) (pu : IsPart vu none) (pk : IsPart vk (some (-1)))
    (h : Q ((n : Int) - 1, -1, n) s) : wpAny (model prog w) A (Builtin.Slice.sliceApplied (.ref sl) (pure (n : Int))) Q E s := by
  obtain ⟨os, hos, hcs, hds⟩ := id hs
  unfold Builtin.Slice.sliceApplied Builtin.Slice.sliceFields
  refine wpAny_bind (wpAny_bind (wpAny_field hos hds (x := vl) rfl (wpAny_bind (wpAny_field hos hds (x := vu) rfl (wpAny_bind (wpAny_field hos hds (x := vk) rfl (wpAny_pure ?_)))))))
  refine wpAny_bind (HT.slicePart_ pk ?_)
  show wpAny _ _ (if ((-1 : Int) == 0) = true then _ else _) _ _ s
  rw [if_neg (by decide)]
  refine wpAny_bind (HT.slicePart_ pl (wpAny_bind (HT.slicePart_ pu (wpAny_bind (wpAny_pure ?_)))))
  show wpAny _ _ (match Builtin.Slice.sliceAdjust none none (-1) (n : Int) with | (lo, hi) => pure (lo, (-1 : Int), Builtin.Slice.slicePlaces lo hi (-1))) _ _ s
  rw [adjust_rev n]
  show wpAny _ _ (pure ((n : Int) - 1, (-1 : Int), Builtin.Slice.slicePlaces ((n : Int) - 1) (-1) (-1))) _ _ s
  rw [places_rev]
  exact wpAny_pure h
theorem getItem_tuple_rev {t sl : Addr} {items : Array Value} {vl vu vk : Value} {Q : Value → Shared → Prop} (ht : IsTup s.heap t items) (hs : s.heap.IsSliceOf sl vl vu vk) (pl : IsPart vl none) (pu : IsPart vu none) (pk : IsPart vk (some (-1)))
    (h : Q (.ref s.heap.objs.size) { s with heap := s.heap.push { cls := .type "tuple", data := .seq items.toList.reverse.toArray } })
    (hsz : items.size ≤ sizeLine) : wpAny (model prog w) A (getItem (.ref t) (.ref sl)) Q E s := by
  have htake : sizeOk (.seq items.toList.reverse.toArray) := by
    show items.toList.reverse.toArray.size ≤ sizeLine
    rw [List.size_toArray, List.length_reverse, Array.length_toList]
    exact hsz
  obtain ⟨os, hos, hcs, hds⟩ := id hs
  have hTs : s.TypeIs (.ref sl) "slice" := ⟨os, hos, hcs⟩
  unfold getItem
  try with_reducible refine wpAny_holding ?_
  first | refine wpAny_bind (wpAny_pure ?_) | skip
  refine wpAny_bind (wpAny_sequenceKey ht.typeIs (by decide) ?_)
  refine wpAny_bind (wpAny_callSpecial?_slot (name := Str.ofString "__getitem__") ht.typeIs PyProof.Rows.slot_tuple_getitem
    (wpAny_call_entry PyProof.Rows.slot_tuple_getitem ht.typeIs entry_tuple_getitem ?_ (args_tuple_getitem _ _)))
  show wpAny _ _ (Builtin.Tuple.tupleItemsOf (.ref t) >>= _) _ _ s
  refine wpAny_bind (tupleItemsOf_ ht ?_)
  refine wpAny_bind (wpAny_typeOf hTs ?_)
  rw [if_pos (by decide)]
  refine wpAny_bind (sliceApplied_rev hs pl pu pk ?_)
  have hno : ¬ ((((items.size : Int) - 1) == 0 && (-1 : Int) == 1 && items.size == items.size) = true) := by
    intro q
    rw [Bool.and_eq_true, Bool.and_eq_true] at q
    exact absurd q.1.2 (by decide)
  show wpAny _ _ (if (((items.size : Int) - 1) == 0 && (-1 : Int) == 1 && items.size == items.size) = true then _ else _) _ _ s
  rw [if_neg hno, pick_rev]
  first
    | exact wpAny_bind (m := Builtin.Tuple.tupleExact _) (wpAny_newObj_type (wpAny_pure ⟨_, rfl, wpAny_pure h⟩) htake)
    | exact wpAny_bind (m := Builtin.Tuple.tupleExact _) (wpAny_newObj_type (wpAny_bind (wpAny_pure (wpAny_pure ⟨_, rfl, wpAny_pure h⟩))) htake)
    | exact wpAny_bind (wpAny_bind (m := Builtin.Tuple.tupleExact _) (wpAny_newObj_type (wpAny_pure (wpAny_pure ⟨_, rfl, wpAny_pure h⟩)) htake))
    | exact wpAny_bind (wpAny_bind (m := Builtin.Tuple.tupleExact _) (wpAny_newObj_type (wpAny_pure ⟨_, rfl, wpAny_pure h⟩) htake))
end
section
variable {X : Cx} {e : Expr} {te : TE} {k : Nat} {p1 p2 p3 pos : Pos}
def tRevA (K : PySem.W.Frag) (te : TE) : TE := fun σ H Q => te σ H fun x H1 => ∃ a xs, x = .ref a ∧ ((SqL K H1 a xs ∧ ∀ p, H1 p = none → Q (.ref p) (upd H1 p (.lst xs.reverse))) ∨ (SqT K H1 a xs ∧ ∀ p, H1 p = none → Q (.ref p) (upd H1 p (.tup xs.reverse))))
theorem pe_revA (he : PE X e te) : PE X (.Subscript e (.Slice none none (some (.UnaryOp .USub (.Constant (.int 1) k p1) p2)) p3) pos) (tRevA X.K te) := by
  refine ⟨fun pins s σ H Q I h => ?_⟩
  refine Subscript_ (thn (he.run pins s σ H _ I h) fun v s1 ⟨x, H1, I1, r1, q1⟩ => ?_)
  obtain ⟨a, xs, ex, q⟩ := q1
  subst ex
  cases r1
  have hst : PO X (some (.UnaryOp .USub (.Constant (.int 1) k p1) p2)) (tPart (tUn (rU fun i => V.int (-i)) (L2.tC (V.int 1)))) := po_some (pe_un un_neg pe_int)
  refine wpAny_Slice (thn (po_none.run pins s1 σ H1 (fun o H2 => o = none ∧ H2 = H1) I1 ⟨rfl, rfl⟩) fun vl s2 ⟨l, H2, I2, pl, el, e2⟩ => ?_)
  subst el e2
  refine thn (po_none.run pins s2 σ H2 (fun o H3 => o = none ∧ H3 = H2) I2 ⟨rfl, rfl⟩) fun vu s3 ⟨u, H3, I3, pu, eu, e3⟩ => ?_
  subst eu e3
  refine thn (hst.run pins s3 σ H3 (fun o H4 => o = some (-1) ∧ H4 = H3) I3 ⟨1, rfl, -1, rfl, rfl, rfl⟩) fun vs s4 ⟨o, H4, I4, ps, eo, e4⟩ => ?_
  subst eo e4
  have I5 : Inv X pins σ H4 { s4 with heap := s4.heap.push { cls := .type "slice", data := .fields #[vl, vu, vs] } } := I4.kept (t' := s4.toks) fun b ob q => Heap.get?_push_of_some _ q
  show wpAny (model X.prog X.w) X.A (subscriptTail e (.Slice none none (some (.UnaryOp .USub (.Constant (.int 1) k p1) p2)) p3) (.ref a) (.ref s4.heap.objs.size)) (EP X pins σ Q) X.xe { s4 with heap := s4.heap.push { cls := .type "slice", data := .fields #[vl, vu, vs] } }
  rcases q with ⟨hx, q⟩ | ⟨hx, q⟩
  · obtain ⟨its, r, ht, hz⟩ := I5.list hx
    have hlen := r.length
    refine tail_any (ops := [.ref a, .ref s4.heap.objs.size]) ht.isList.typeIs (PySem.slot_list_getitem.lookup) ?_ (by with_unfolding_all rfl)
    refine wpAny_getItem_list_slice ht.isList (Heap.IsSliceOf.new _ vl vu vs) pl pu ps (by decide) ?_ (by rw [List.size_toArray]; omega)
    rw [PySem.W.krv_pick]
    refine ⟨.ref _, _, I5.laid (t' := s4.toks) (o := .lst xs.reverse) (fun b ob q => Heap.get?_push_of_some _ q) (Nat.le_refl _) ?_, rfl, q _ (I5.hok.fresh (Nat.le_refl _))⟩
    exact ⟨by rw [List.length_reverse]; exact hz, _, 0, r.reverse, Heap.get?_push_size _ rfl⟩
  · obtain ⟨its, r, ht, hz⟩ := I5.tuple hx
    have hlen := r.length
    refine tail_any (ops := [.ref a, .ref s4.heap.objs.size]) ht.typeIs (PyProof.Rows.slot_tuple_getitem.lookup) ?_ (by with_unfolding_all rfl)
    refine getItem_tuple_rev ht (Heap.IsSliceOf.new _ vl vu vs) pl pu ps ?_ (by rw [List.size_toArray]; omega)
    refine ⟨.ref _, _, I5.laid (t' := s4.toks) (o := .tup xs.reverse) (fun b ob q => Heap.get?_push_of_some _ q) (Nat.le_refl _) ?_, rfl, q _ (I5.hok.fresh (Nat.le_refl _))⟩
    exact ⟨by rw [List.length_reverse]; exact hz, _, r.reverse, IsTup.new _ _⟩
end
section
variable {c : CB} {d : Nat} {p : Pl} {a : Expr} {ea : E} {k : Nat} {p1 p2 p3 pos : Pos} {ma : Rho → Ks → R (Val × Ks)}
theorem SE_rev (hK : p.X.K = p.g.K) (ha : SB p a ma) : SE p (.Subscript a (.Slice none none (some (.UnaryOp .USub (.Constant (.int 1) k p1) p2)) p3) pos) (fun ρ κ => (ma ρ κ).bind fun q => R.ofO ((rvV q.1).map fun v => (v, q.2))) :=
  (pe_revA ha).imp fun σ H Q h => tG_bind1 (f := fun _ q => R.ofO ((rvV q.1).map fun v => (v, q.2))) h fun w ρ κ H1 a x re wf rx po => by
    obtain ⟨l, ev, k⟩ := Post.some (p := p) po
    have ev : rvV a = some l := ev
    unfold rvV at ev
    split at ev
    · cases ev
      obtain ⟨q, xs, rfl, hq, n, r⟩ := rx.lst wf
      refine ⟨q, xs, rfl, .inl ⟨SqL.of hq, fun b hb => ?_⟩⟩
      obtain ⟨e4, wf4, r4⟩ := RV.newLst wf r.reverse hb
      exact k _ _ _ e4 wf4 r4
    · cases ev
      obtain ⟨q, xs, rfl, hq, r⟩ := rx.tup
      refine ⟨q, xs, rfl, .inr ⟨by rw [hK]; exact hq, fun b hb => ?_⟩⟩
      obtain ⟨e4, wf4, r4⟩ := RV.newTup wf r.reverse hb
      exact k _ _ _ e4 wf4 r4
    · cases ev
theorem rRev (C : Cok d p) (ha : JB p c a ea) : JE p c (.Subscript a (.Slice none none (some (.UnaryOp .USub (.Constant (.int 1) k p1) p2)) p3) pos) (.rev ea) := SE_rev C.hK ha
end
end PL
end
section
set_option maxHeartbeats 1000000
/-! sorted(set(t)), t a tuple of ints. -/
namespace PL
open PySem PySem.Spec PyProof.Rows L2 LamX NdefX
theorem insD_mem (x y : Int) : ∀ l : List Int, y ∈ insD x l ↔ y = x ∨ y ∈ l
  | [] => by simp [insD]
  | z :: l => by
    unfold insD
    split
    · simp
    · split
      · rename_i h; subst h; simp
      · rw [List.mem_cons, insD_mem x y l, List.mem_cons]
        constructor
        · rintro (h | h | h)
          · exact .inr (.inl h)
          · exact .inl h
          · exact .inr (.inr h)
        · rintro (h | h | h)
          · exact .inr (.inl h)
          · exact .inl h
          · exact .inr (.inr h)
theorem insD_pw (x : Int) : ∀ l : List Int, l.Pairwise (· < ·) → (insD x l).Pairwise (· < ·)
  | [], _ => by simp [insD]
  | z :: l, h => by
    obtain ⟨h1, h2⟩ := List.pairwise_cons.mp h
    unfold insD
    split
    · rename_i hx
      refine List.pairwise_cons.mpr ⟨fun y hy => ?_, h⟩
      rcases List.mem_cons.mp hy with e | e
      · omega
      · have := h1 y e; omega
    · split
      · exact h
      · rename_i a b
        refine List.pairwise_cons.mpr ⟨fun y hy => ?_, insD_pw x l h2⟩
        rcases (insD_mem x y l).mp hy with e | e
        · omega
        · exact h1 y e
theorem sdd_mem (y : Int) : ∀ l : List Int, y ∈ sdd l ↔ y ∈ l
  | [] => by simp [sdd]
  | z :: l => by
    show y ∈ insD z (sdd l) ↔ _
    rw [insD_mem, sdd_mem y l, List.mem_cons]
theorem sdd_pw : ∀ l : List Int, (sdd l).Pairwise (· < ·)
  | [] => List.Pairwise.nil
  | z :: l => insD_pw z (sdd l) (sdd_pw l)
theorem pw_uniq : ∀ {l m : List Int}, l.Pairwise (· < ·) → m.Pairwise (· < ·) → (∀ y, y ∈ l ↔ y ∈ m) → l = m
  | [], [], _, _, _ => rfl
  | [], b :: m, _, _, h => absurd ((h b).mpr List.mem_cons_self) (by simp)
  | a :: l, [], _, _, h => absurd ((h a).mp List.mem_cons_self) (by simp)
  | a :: l, b :: m, h1, h2, h => by
    obtain ⟨a1, a2⟩ := List.pairwise_cons.mp h1
    obtain ⟨b1, b2⟩ := List.pairwise_cons.mp h2
    have e : a = b := by
      rcases List.mem_cons.mp ((h a).mp List.mem_cons_self) with e | e
      · exact e
      · rcases List.mem_cons.mp ((h b).mpr List.mem_cons_self) with e2 | e2
        · exact e2.symm
        · have := b1 a e
          have := a1 b e2
          omega
    subst e
    rw [pw_uniq a2 b2 fun y => ?_]
    constructor
    · intro hy
      rcases List.mem_cons.mp ((h y).mp (List.mem_cons_of_mem _ hy)) with e | e
      · have := a1 y hy; omega
      · exact e
    · intro hy
      rcases List.mem_cons.mp ((h y).mpr (List.mem_cons_of_mem _ hy)) with e | e
      · have := b1 y hy; omega
      · exact e
/-- set(t) -/
def rSetI (K : PySem.W.Frag) (w : World) : List V → Hp → VK → Prop := fun xs H Q => ∃ (l : Addr) (ns : List Int), xs = [V.ref l] ∧ SqT K H l (ns.map V.int) ∧ ns.length < 64 ∧
  ∀ a c, H a = none → c ≤ ns.length → Q (.ref a) (upd H a (SetO w a (fun j => decide (j ∈ ns)) c))
theorem cr_setI {X : Cx} (hc : X.calm = true) : CallR X (.type "set") (rSetI X.K X.w) := by
  intro pins s σ H xs us Q I r h
  obtain ⟨l, ns, rfl, hq, hl, q⟩ := h
  rw [Vals.ref1 r]
  obtain ⟨its, rv, pt, hz⟩ := I.tuple hq
  have hi : IntsAre its.toArray.toList ns := ints_of_vals rv
  have hn : H s.heap.objs.size = none := I.hok.fresh (Nat.le_refl _)
  refine call_set_tupI ns (I.ok.hd hc) pt hi (by unfold scanBound; omega) fun h' tk c R1 hcn k => ?_
  exact ⟨.ref s.heap.objs.size, upd H s.heap.objs.size (SetO X.w s.heap.objs.size (fun j => decide (j ∈ ns)) c), I.laid (t' := tk) k (Nat.le_refl _) (setO_new R1), rfl, q _ c hn hcn⟩
theorem ints_rel {g : Gx} {J : Addr → Prop} {μ : List Addr} {H : Hp} : ∀ {l : List Val} {xs : List V} {bs : List Int}, RVs g J μ H l xs → intsOf l = some bs → xs = bs.map V.int
  | _, _, _, .nil, e => by cases e; rfl
  | _, _, _, .cons h t, e => by
    unfold intsOf at e
    split at e
    · rename_i h0; cases h0
    · rename_i h0
      cases h0
      obtain ⟨bs', e1, e2⟩ := Option.map_eq_some_iff.mp e
      subst e2
      cases h
      rw [ints_rel t e1]; rfl
    · cases e
theorem rel_ints {g : Gx} {J : Addr → Prop} {μ : List Addr} {H : Hp} : ∀ ns : List Int, RVs g J μ H (ns.map .int) (ns.map V.int)
  | [] => .nil
  | n :: ns => .cons (.int n) (rel_ints ns)
section
variable {p : Pl} {a : Expr} {pos pos2 q q2 : Pos} {ma : Rho → Ks → R (Val × Ks)}
theorem boot_sorted : bootBuiltins "sorted" = some (.builtin "sorted") := by decide +kernel
theorem SE_sset (hK : p.X.K = p.g.K) (hc : p.X.calm = true) (hg : L2.Gl p.X "sorted") (hm : p.X.mg "sorted" = none) (hg2 : L2.Gl p.X "set") (hm2 : p.X.mg "set" = none) (ha : SB p a ma)
    (he : starEach [a] p.X.env = (false, eval a p.X.env) :: starEach [] p.X.env)
    (he2 : starEach [.Call (.Name "set" q2) [a] [] pos2] p.X.env = (false, eval (.Call (.Name "set" q2) [a] [] pos2) p.X.env) :: starEach [] p.X.env)
    (hpl : (backTo pos2 (starEach [] p.X.env)).any (·.1) = false) (hpl2 : (backTo pos (starEach [] p.X.env)).any (·.1) = false) :
    SE p (.Call (.Name "sorted" q) [.Call (.Name "set" q2) [a] [] pos2] [] pos) (fun ρ κ => (ma ρ κ).bind fun q => R.ofO ((ssV q.1).map fun v => (v, q.2))) :=
  (pe_callB (cr_sortedSet hc) hg hm boot_sorted (pa_cons (pe_callTy (cr_setI hc) hg2 hm2 PyProof.Rows.boot_set (pa_cons ha pa_nil he) (by decide) (by decide) he hpl) pa_nil he2) (by decide) (by decide) he2 hpl2).imp fun σ H Q h =>
    tG_bind1 (f := fun _ q => R.ofO ((ssV q.1).map fun v => (v, q.2))) h fun w ρ κ H1 a x re wf rx po => by
      obtain ⟨v, ev, k⟩ := Post.some (p := p) po
      unfold ssV at ev
      dsimp only at ev
      cases a with
      | tup l =>
        dsimp only at ev
        cases hi : intsOf l with
        | none => rw [hi] at ev; cases ev
        | some ns =>
          rw [hi] at ev
          dsimp only at ev
          split at ev
          · rename_i hl
            cases ev
            obtain ⟨t, ys, rfl, hq, r⟩ := rx.tup
            cases ints_rel r hi
            refine ⟨t, ns, rfl, by rw [hK]; exact hq, by omega, fun b c hb hcn => ⟨b, _, c, rfl, upd_same, by omega, fun ns' p' pw mem len hp => ?_⟩⟩
            have e : ns' = sdd ns := pw_uniq pw (sdd_pw ns) fun y => by rw [mem y, sdd_mem, decide_eq_true_iff]
            subst e
            have wf1 := WF.upd_new wf hb (SetO p.X.w b (fun j => decide (j ∈ ns)) c)
            have x1 := Ext.upd_new wf hb (SetO p.X.w b (fun j => decide (j ∈ ns)) c)
            obtain ⟨x2, wf2, r2⟩ := RV.newLst wf1 (rel_ints (sdd ns)) hp
            exact k _ _ _ (x1.trans x2) wf2 r2
          · cases ev
      | _ => cases ev
end
section
variable {c : CB} {p : Pl} {d : Nat} {a : Expr} {ea : E} {pos pos2 q q2 : Pos}
theorem rSset (C : Cok d p) (hg : Gl p.X "sorted") (hm : p.X.mg "sorted" = none) (hg2 : Gl p.X "set") (hm2 : p.X.mg "set" = none) (ha : JB p c a ea)
    (he : starEach [a] p.X.env = (false, eval a p.X.env) :: starEach [] p.X.env)
    (he2 : starEach [.Call (.Name "set" q2) [a] [] pos2] p.X.env = (false, eval (.Call (.Name "set" q2) [a] [] pos2) p.X.env) :: starEach [] p.X.env)
    (hpl : (backTo pos2 (starEach [] p.X.env)).any (·.1) = false) (hpl2 : (backTo pos (starEach [] p.X.env)).any (·.1) = false) :
    JE p c (.Call (.Name "sorted" q) [.Call (.Name "set" q2) [a] [] pos2] [] pos) (.sset ea) := SE_sset C.hK C.calm hg hm hg2 hm2 ha he he2 hpl hpl2
end
end PL
end
section
namespace K01
open PySem PL
/-! ### the IR -/
def N_measure : List Str := ["one", "other"]
def ir_measure : Ss :=
  (.cons (.par [(0, false), (1, false)] (.cons (.bi .abs (.cons (.var 0) .nil)) (.cons (.bi .abs (.cons (.var 1) .nil)) .nil)))
  (.cons (.while (.cm .ne (.var 1) (.con (.int (0)))) (.cons (.par [(0, false), (1, false)] (.cons (.var 1) (.cons (.op .mod (.var 0) (.var 1)) .nil)))
  .nil))
  (.cons (.ret (.var 0))
  .nil)))
def N_is_whole : List Str := ["value", "low", "high"]
def ir_is_whole : Ss :=
  (.cons (.ret (.and (.isi .int (.var 0)) (.and (.not (.isi .bool (.var 0))) (.chain .le .le (.var 1) (.var 0) (.var 2)))))
  .nil)
def N_is_right_picture : List Str := ["value", "mark", "one", "other"]
def ir_is_right_picture : Ss :=
  (.cons (.ite (.or (.not (.val (.isi .tuple (.var 0)))) (.not (.chain .le .le (.con (.int (3))) (.bi .len (.cons (.var 0) .nil)) (.con (.int (5)))))) (.cons (.ret (.con (.bl false)))
  .nil) .nil)
  (.cons (.ite (.or (.not (.val (.bi .all (.cons (.comp (.call 1 (.cons (.var 1) (.cons (.con (.int (0))) (.cons (.con (.int (60))) .nil)))) (.nm 1) (.seq (.var 0)) .no [1]) .nil)))) (.cm .ne (.ix (.var 0) (.con (.int (0)))) (.con (.int (0))))) (.cons (.ret (.con (.bl false)))
  .nil) .nil)
  (.cons (.ret (.bi .all (.cons (.comp (.cm .lt (.var 2) (.var 3)) (.tp (.cons (.nm 2) (.cons (.nm 3) .nil))) (.zip (.var 0) (.sl (.var 0) (.yes (.con (.int (1)))) .no)) .no [2, 3]) .nil)))
  .nil)))
def N_is_right_sum : List Str := ["picture", "value", "part"]
def ir_is_right_sum : Ss :=
  (.cons (.ite (.or (.not (.val (.isi .tuple (.var 1)))) (.not (.chain .le .le (.con (.int (1))) (.bi .len (.cons (.var 1) .nil)) (.con (.int (3)))))) (.cons (.ret (.con (.bl false)))
  .nil) .nil)
  (.cons (.loop (.nm 2) (.seq (.var 1)) (.cons (.ite (.or (.not (.val (.isi .tuple (.var 2)))) (.or (.cm .ne (.bi .len (.cons (.var 2) .nil)) (.con (.int (3)))) (.not (.val (.call 1 (.cons (.ix (.var 2) (.con (.int (0)))) (.cons (.con (.int (1))) (.cons (.con (.int (9))) .nil)))))))) (.cons (.ret (.con (.bl false)))
  .nil) .nil)
  (.cons (.ite (.or (.not (.val (.call 1 (.cons (.ix (.var 2) (.con (.int (1)))) (.cons (.con (.int (0))) (.cons (.op .sub (.bi .len (.cons (.var 0) .nil)) (.con (.int (2)))) .nil)))))) (.not (.val (.call 1 (.cons (.ix (.var 2) (.con (.int (2)))) (.cons (.op .add (.ix (.var 2) (.con (.int (1)))) (.con (.int (1)))) (.cons (.op .sub (.bi .len (.cons (.var 0) .nil)) (.con (.int (1)))) .nil))))))) (.cons (.ret (.con (.bl false)))
  .nil) .nil)
  .nil)))
  (.cons (.ret (.con (.bl true)))
  .nil)))
def N_is_right_claim : List Str := ["picture", "value"]
def ir_is_right_claim : Ss :=
  (.cons (.ite (.or (.not (.val (.isi .tuple (.var 1)))) (.or (.cm .ne (.bi .len (.cons (.var 1) .nil)) (.con (.int (3)))) (.or (.not (.val (.isi .str (.ix (.var 1) (.con (.int (0))))))) (.cm .notin (.ix (.var 1) (.con (.int (0)))) (.glob 0 (.tup [.str "less", .str "upto", .str "same"])))))) (.cons (.ret (.con (.bl false)))
  .nil) .nil)
  (.cons (.ret (.and (.call 3 (.cons (.var 0) (.cons (.ix (.var 1) (.con (.int (1)))) .nil))) (.call 3 (.cons (.var 0) (.cons (.ix (.var 1) (.con (.int (2)))) .nil)))))
  .nil))
def N_are_right_facts : List Str := ["picture", "value", "claim"]
def ir_are_right_facts : Ss :=
  (.cons (.ite (.or (.not (.val (.isi .tuple (.var 1)))) (.cm .gt (.bi .len (.cons (.var 1) .nil)) (.glob 0 (.int 4)))) (.cons (.ret (.con (.bl false)))
  .nil) .nil)
  (.cons (.ret (.bi .all (.cons (.comp (.call 4 (.cons (.var 0) (.cons (.var 2) .nil))) (.nm 2) (.seq (.var 1)) .no [2]) .nil)))
  .nil))
def N_is_lean : List Str := ["value"]
def ir_is_lean : Ss :=
  (.cons (.ite (.or (.not (.val (.isi .tuple (.var 0)))) (.cm .ne (.bi .len (.cons (.var 0) .nil)) (.con (.int (2))))) (.cons (.ret (.con (.bl false)))
  .nil) .nil)
  (.cons (.ite (.or (.not (.val (.call 1 (.cons (.ix (.var 0) (.con (.int (0)))) (.cons (.con (.int (0))) (.cons (.op .pow (.con (.int (10))) (.con (.int (9)))) .nil)))))) (.not (.val (.call 1 (.cons (.ix (.var 0) (.con (.int (1)))) (.cons (.con (.int (1))) (.cons (.op .pow (.con (.int (10))) (.con (.int (9)))) .nil))))))) (.cons (.ret (.con (.bl false)))
  .nil) .nil)
  (.cons (.ret (.cm .eq (.call 0 (.cons (.ix (.var 0) (.con (.int (0)))) (.cons (.ix (.var 0) (.con (.int (1)))) .nil))) (.con (.int (1)))))
  .nil)))
def N_need_picture : List Str := ["value"]
def ir_need_picture : Ss :=
  (.cons (.ite (.not (.val (.call 2 (.cons (.var 0) .nil)))) (.cons (.raise 0)
  .nil) .nil)
  .nil)
def N_is_picture : List Str := ["value"]
def ir_is_picture : Ss :=
  (.cons (.ret (.call 2 (.cons (.var 0) .nil)))
  .nil)
def N_is_sum : List Str := ["picture", "value"]
def ir_is_sum : Ss :=
  (.cons (.expr (.call 7 (.cons (.var 0) .nil)))
  (.cons (.ret (.call 3 (.cons (.var 0) (.cons (.var 1) .nil))))
  .nil))
def N_is_claim : List Str := ["picture", "value"]
def ir_is_claim : Ss :=
  (.cons (.expr (.call 7 (.cons (.var 0) .nil)))
  (.cons (.ret (.call 4 (.cons (.var 0) (.cons (.var 1) .nil))))
  .nil))
def N_are_facts : List Str := ["picture", "value"]
def ir_are_facts : Ss :=
  (.cons (.expr (.call 7 (.cons (.var 0) .nil)))
  (.cons (.ret (.call 5 (.cons (.var 0) (.cons (.var 1) .nil))))
  .nil))
def N__law_spring : List Str := ["_law_script", "_law_k", "_law_cell"]
def ir__law_spring : Ss :=
  (.cons (.set 2 (.ite (.cm .lt (.var 1) (.bi .len (.cons (.var 0) .nil))) (.bi .abs (.cons (.bi .int (.cons (.ix (.var 0) (.var 1)) .nil)) .nil)) (.op .add (.op .mul (.con (.int (6007))) (.var 1)) (.con (.int (29))))))
  (.cons (.ret (.lst (.cons (.ite (.cm .gt (.var 2) (.op .pow (.con (.int (10))) (.con (.int (15))))) (.var 2) (.con (.int (0)))) (.cons (.op .add (.op .mod (.bi .int (.cons (.op .add (.op .add (.op .mul (.var 2) (.con (.int (48611)))) (.op .mul (.con (.int (7907))) (.var 1))) (.con (.int (13)))) .nil)) (.con (.int (2147483587)))) (.con (.int (1)))) .nil))))
  .nil))
def N__law_pick : List Str := ["_law_spring_here", "_law_many", "_law_found", "_law_far"]
def ir__law_pick : Ss :=
  (.cons (.ite (.cm .gt (.ix (.var 0) (.con (.int (0)))) (.con (.int (0)))) (.cons (.set 2 (.op .mod (.bi .int (.cons (.ix (.var 0) (.con (.int (0)))) .nil)) (.var 1)))
  (.cons (.cseti (.var 0) (.con (.int (0))) (.op .fdiv (.ix (.var 0) (.con (.int (0)))) (.var 1)))
  (.cons (.ret (.var 2))
  .nil))) .nil)
  (.cons (.cseti (.var 0) (.con (.int (1))) (.op .mod (.bi .int (.cons (.op .add (.op .mul (.ix (.var 0) (.con (.int (1)))) (.con (.int (44021)))) (.con (.int (97)))) .nil)) (.con (.int (2147483587)))))
  (.cons (.set 3 (.op .mod (.bi .int (.cons (.op .mul (.ix (.var 0) (.con (.int (1)))) (.op .add (.op .fdiv (.ix (.var 0) (.con (.int (1)))) (.con (.int (7)))) (.con (.int (3))))) .nil)) (.con (.int (2147483563)))))
  (.cons (.ret (.op .mod (.bi .int (.cons (.op .fdiv (.var 3) (.con (.int (64)))) .nil)) (.var 1)))
  .nil))))
def N__law_chosen : List Str := ["_law_spring_here", "_law_some"]
def ir__law_chosen : Ss :=
  (.cons (.ret (.ix (.var 1) (.call 13 (.cons (.var 0) (.cons (.bi .len (.cons (.var 1) .nil)) .nil)))))
  .nil)
def N__law_shot : List Str := ["_law_spring_here", "_law_most", "_law_found", "_law_turn"]
def ir__law_shot : Ss :=
  (.cons (.set 2 (.tup (.cons (.con (.int (0))) .nil)))
  (.cons (.loop (.nm 3) (.rng1 (.cons (.op .add (.con (.int (2))) (.call 13 (.cons (.var 0) (.cons (.op .sub (.var 1) (.con (.int (2)))) .nil)))) .nil)) (.cons (.set 2 (.op .add (.var 2) (.tup (.cons (.op .add (.op .add (.ix (.var 2) (.neg (.con (.int (1))))) (.con (.int (1)))) (.call 13 (.cons (.var 0) (.cons (.call 14 (.cons (.var 0) (.cons (.lst (.cons (.con (.int (2))) (.cons (.con (.int (4))) (.cons (.con (.int (14))) .nil)))) .nil))) .nil)))) .nil))))
  .nil))
  (.cons (.ret (.var 2))
  .nil)))
def N__law_lengths : List Str := ["_law_spring_here", "_law_picture", "_law_most", "_law_found", "_law_turn", "_law_first", "_law_last"]
def ir__law_lengths : Ss :=
  (.cons (.set 3 (.tup .nil))
  (.cons (.loop (.nm 4) (.rng1 (.cons (.op .add (.con (.int (1))) (.call 13 (.cons (.var 0) (.cons (.var 2) .nil)))) .nil)) (.cons (.set 5 (.call 13 (.cons (.var 0) (.cons (.op .sub (.bi .len (.cons (.var 1) .nil)) (.con (.int (1)))) .nil))))
  (.cons (.set 6 (.op .add (.op .add (.var 5) (.con (.int (1)))) (.call 13 (.cons (.var 0) (.cons (.op .sub (.op .sub (.bi .len (.cons (.var 1) .nil)) (.con (.int (1)))) (.var 5)) .nil)))))
  (.cons (.set 3 (.op .add (.var 3) (.tup (.cons (.tup (.cons (.op .add (.con (.int (1))) (.call 13 (.cons (.var 0) (.cons (.call 14 (.cons (.var 0) (.cons (.lst (.cons (.con (.int (1))) (.cons (.con (.int (3))) (.cons (.con (.int (9))) .nil)))) .nil))) .nil)))) (.cons (.var 5) (.cons (.var 6) .nil)))) .nil))))
  .nil))))
  (.cons (.ret (.var 3))
  .nil)))
def N__law_saying : List Str := ["_law_spring_here", "_law_picture", "_law_word"]
def ir__law_saying : Ss :=
  (.cons (.set 2 (.call 14 (.cons (.var 0) (.cons (.lst (.cons (.con (.str "less")) (.cons (.con (.str "less")) (.cons (.con (.str "upto")) (.cons (.con (.str "same")) .nil))))) .nil))))
  (.cons (.ret (.tup (.cons (.var 2) (.cons (.call 16 (.cons (.var 0) (.cons (.var 1) (.cons (.con (.int (2))) .nil)))) (.cons (.call 16 (.cons (.var 0) (.cons (.var 1) (.cons (.con (.int (2))) .nil)))) .nil)))))
  .nil))
def N__law_sayings : List Str := ["_law_spring_here", "_law_picture", "_law_most", "_law_turn"]
def ir__law_sayings : Ss :=
  (.cons (.ret (.bi .tuple (.cons (.comp (.call 17 (.cons (.var 0) (.cons (.var 1) .nil))) (.nm 3) (.rng1 (.cons (.call 13 (.cons (.var 0) (.cons (.op .add (.var 2) (.con (.int (1)))) .nil))) .nil)) .no [3]) .nil)))
  .nil)
def N__law_kin : List Str := ["_law_e", "_law_some", "_law_labels", "_law_label", "_law_good"]
def N__law_came : List Str := ["_law_call", "_law_e"]
def ir__law_came : Ss := .cons (.came 0) .nil
def N__law_all_say : List Str := ["_law_calls", "_law_word", "_law_call"]
def ir__law_all_say : Ss :=
  (.cons (.ret (.cm .eq (.filt 2 0 (.cm .ne (.call 20 (.ext 2 .nil)) (.tup (.cons (.con (.non)) (.cons (.op .add (.var 1) (.con (.str " value"))) .nil))))) (.lst .nil)))
  .nil)
def N__law_whole : List Str := ["_law_value", "_law_low", "_law_high"]
def ir__law_whole : Ss :=
  (.cons (.ret (.and (.isi .int (.var 0)) (.and (.not (.isi .bool (.var 0))) (.chain .le .le (.var 1) (.var 0) (.var 2)))))
  .nil)
def N__law_is_picture : List Str := ["_law_value", "_law_mark"]
def ir__law_is_picture : Ss :=
  (.cons (.ite (.or (.not (.val (.isi .tuple (.var 0)))) (.not (.chain .le .le (.con (.int (3))) (.bi .len (.cons (.var 0) .nil)) (.con (.int (5)))))) (.cons (.ret (.con (.bl false)))
  .nil) .nil)
  (.cons (.ite (.or (.cm .ne (.comp (.con (.int (1))) (.nm 1) (.seq (.var 0)) (.yes (.not (.val (.call 22 (.cons (.var 1) (.cons (.con (.int (0))) (.cons (.con (.int (60))) .nil))))))) [1]) (.lst .nil)) (.cm .ne (.ix (.var 0) (.con (.int (0)))) (.con (.int (0))))) (.cons (.ret (.con (.bl false)))
  .nil) .nil)
  (.cons (.ret (.cm .eq (.sset (.var 0)) (.bi .list (.cons (.var 0) .nil))))
  .nil)))
def N__law_is_lean : List Str := ["_law_value", "_law_one", "_law_other"]
def ir__law_is_lean : Ss :=
  (.cons (.ite (.or (.not (.val (.isi .tuple (.var 0)))) (.or (.cm .ne (.bi .len (.cons (.var 0) .nil)) (.con (.int (2)))) (.not (.val (.call 22 (.cons (.ix (.var 0) (.con (.int (0)))) (.cons (.con (.int (0))) (.cons (.op .pow (.con (.int (10))) (.con (.int (9)))) .nil)))))))) (.cons (.ret (.con (.bl false)))
  .nil) .nil)
  (.cons (.ite (.not (.val (.call 22 (.cons (.ix (.var 0) (.con (.int (1)))) (.cons (.con (.int (1))) (.cons (.op .pow (.con (.int (10))) (.con (.int (9)))) .nil)))))) (.cons (.ret (.con (.bl false)))
  .nil) .nil)
  (.cons (.asg (.tp (.cons (.nm 1) (.cons (.nm 2) .nil))) (.var 0))
  (.cons (.while (.cm .ne (.var 2) (.con (.int (0)))) (.cons (.par [(1, false), (2, false)] (.cons (.var 2) (.cons (.op .mod (.var 1) (.var 2)) .nil)))
  .nil))
  (.cons (.ret (.cm .eq (.var 1) (.con (.int (1)))))
  .nil)))))
def N__law_is_sum : List Str := ["_law_picture", "_law_value", "_law_part", "_law_number"]
def ir__law_is_sum : Ss :=
  (.cons (.ite (.or (.not (.val (.isi .tuple (.var 1)))) (.cm .notin (.bi .len (.cons (.var 1) .nil)) (.lst (.cons (.con (.int (1))) (.cons (.con (.int (2))) (.cons (.con (.int (3))) .nil)))))) (.cons (.ret (.con (.bl false)))
  .nil) .nil)
  (.cons (.loop (.nm 2) (.seq (.var 1)) (.cons (.ite (.or (.not (.val (.isi .tuple (.var 2)))) (.cm .ne (.bi .len (.cons (.var 2) .nil)) (.con (.int (3))))) (.cons (.ret (.con (.bl false)))
  .nil) .nil)
  (.cons (.ite (.or (.cm .ne (.comp (.con (.int (1))) (.nm 3) (.seq (.var 2)) (.yes (.not (.val (.call 22 (.cons (.var 3) (.cons (.con (.int (0))) (.cons (.con (.int (9))) .nil))))))) [3]) (.lst .nil)) (.cm .eq (.ix (.var 2) (.con (.int (0)))) (.con (.int (0))))) (.cons (.ret (.con (.bl false)))
  .nil) .nil)
  (.cons (.ite (.or (.cm .ge (.ix (.var 2) (.con (.int (1)))) (.ix (.var 2) (.con (.int (2))))) (.cm .ge (.ix (.var 2) (.con (.int (2)))) (.bi .len (.cons (.var 0) .nil)))) (.cons (.ret (.con (.bl false)))
  .nil) .nil)
  .nil))))
  (.cons (.ret (.con (.bl true)))
  .nil)))
def N__law_is_claim : List Str := ["_law_picture", "_law_value"]
def ir__law_is_claim : Ss :=
  (.cons (.ite (.or (.not (.val (.isi .tuple (.var 1)))) (.or (.cm .ne (.bi .len (.cons (.var 1) .nil)) (.con (.int (3)))) (.not (.val (.isi .str (.ix (.var 1) (.con (.int (0))))))))) (.cons (.ret (.con (.bl false)))
  .nil) .nil)
  (.cons (.ite (.cm .notin (.ix (.var 1) (.con (.int (0)))) (.lst (.cons (.con (.str "less")) (.cons (.con (.str "upto")) (.cons (.con (.str "same")) .nil))))) (.cons (.ret (.con (.bl false)))
  .nil) .nil)
  (.cons (.ret (.and (.call 25 (.cons (.var 0) (.cons (.ix (.var 1) (.con (.int (1)))) .nil))) (.call 25 (.cons (.var 0) (.cons (.ix (.var 1) (.con (.int (2)))) .nil)))))
  .nil)))
def N__law_are_facts : List Str := ["_law_picture", "_law_value", "_law_claim"]
def ir__law_are_facts : Ss :=
  (.cons (.ite (.or (.not (.val (.isi .tuple (.var 1)))) (.cm .gt (.bi .len (.cons (.var 1) .nil)) (.con (.int (4))))) (.cons (.ret (.con (.bl false)))
  .nil) .nil)
  (.cons (.ret (.cm .eq (.comp (.var 2) (.nm 2) (.seq (.var 1)) (.yes (.not (.val (.call 26 (.cons (.var 0) (.cons (.var 2) .nil)))))) [2]) (.lst .nil)))
  .nil))
def N__law_bent : List Str := ["_law_spring_here", "_law_value", "_law_at"]
def ir__law_bent : Ss :=
  (.cons (.ite (.and (.val (.isi .tuple (.var 1))) (.and (.cm .ne (.var 1) (.tup .nil)) (.cm .gt (.call 13 (.cons (.var 0) (.cons (.con (.int (5))) .nil))) (.con (.int (0)))))) (.cons (.set 2 (.call 13 (.cons (.var 0) (.cons (.bi .len (.cons (.var 1) .nil)) .nil))))
  (.cons (.ret (.op .add (.op .add (.sl (.var 1) .no (.yes (.var 2))) (.tup (.cons (.call 28 (.cons (.var 0) (.cons (.ix (.var 1) (.var 2)) .nil))) .nil))) (.sl (.var 1) (.yes (.op .add (.var 2) (.con (.int (1))))) .no)))
  .nil)) .nil)
  (.cons (.ite (.val (.isi .tuple (.var 1))) (.cons (.ret (.call 14 (.cons (.var 0) (.cons (.lst (.cons (.bi .list (.cons (.var 1) .nil)) (.cons (.sl (.var 1) (.yes (.con (.int (1)))) .no) (.cons (.op .add (.var 1) (.sl (.var 1) (.yes (.neg (.con (.int (1))))) .no)) (.cons (.rev (.var 1)) (.cons (.tup .nil) (.cons (.tup (.cons (.con (.int (1))) (.cons (.con (.int (0))) (.cons (.con (.int (1))) .nil)))) (.cons (.tup (.cons (.con (.int (0))) (.cons (.con (.int (1))) .nil))) .nil)))))))) .nil))))
  .nil) .nil)
  (.cons (.ite (.val (.isi .str (.var 1))) (.cons (.ret (.call 14 (.cons (.var 0) (.cons (.lst (.cons (.con (.str "less")) (.cons (.con (.str "more")) (.cons (.con (.str "upto")) (.cons (.con (.str "")) (.cons (.con (.str "Same")) (.cons (.con (.int (0))) .nil))))))) .nil))))
  .nil) .nil)
  (.cons (.ite (.or (.val (.isi .bool (.var 1))) (.not (.val (.isi .int (.var 1))))) (.cons (.ret (.call 14 (.cons (.var 0) (.cons (.lst (.cons (.con (.non)) (.cons (.con (.int (0))) (.cons (.con (.bl true)) (.cons (.tup .nil) (.cons (.con (.str "same")) (.cons (.lst (.cons (.con (.int (1))) (.cons (.con (.int (2))) .nil))) .nil))))))) .nil))))
  .nil) .nil)
  (.cons (.ret (.call 14 (.cons (.var 0) (.cons (.lst (.cons (.op .add (.var 1) (.con (.int (1)))) (.cons (.op .sub (.var 1) (.con (.int (1)))) (.cons (.neg (.var 1)) (.cons (.con (.bl true)) (.cons (.bi .str (.cons (.var 1) .nil)) (.cons (.op .add (.var 1) (.con (.int (58)))) (.cons (.op .add (.op .pow (.con (.int (10))) (.con (.int (9)))) (.var 1)) (.cons (.con (.non)) .nil))))))))) .nil))))
  .nil)))))
def N__law_judged : List Str := ["_law_picture", "_law_value", "_law_found", "_law_due", "_law_calls", "_law_told"]
def ir__law_judged : Ss :=
  (.cons (.set 2 (.lst (.cons (.call 8 (.cons (.var 1) .nil)) (.cons (.call 6 (.cons (.var 1) .nil)) (.cons (.call 9 (.cons (.var 0) (.cons (.var 1) .nil))) (.cons (.call 10 (.cons (.var 0) (.cons (.var 1) .nil))) .nil))))))
  (.cons (.set 3 (.lst (.cons (.call 23 (.cons (.var 1) .nil)) (.cons (.call 24 (.cons (.var 1) .nil)) (.cons (.call 25 (.cons (.var 0) (.cons (.var 1) .nil))) (.cons (.call 26 (.cons (.var 0) (.cons (.var 1) .nil))) .nil))))))
  (.cons (.par [(2, false), (3, false)] (.cons (.op .add (.var 2) (.lst (.cons (.call 11 (.cons (.var 0) (.cons (.var 1) .nil))) .nil))) (.cons (.op .add (.var 3) (.lst (.cons (.call 27 (.cons (.var 0) (.cons (.var 1) .nil))) .nil))) .nil)))
  (.cons (.ite (.or (.cm .ne (.comp (.var 5) (.nm 5) (.seq (.var 2)) (.yes (.not (.val (.isi .bool (.var 5))))) [5]) (.lst .nil)) (.cm .ne (.var 2) (.var 3))) (.cons (.ret (.con (.bl false)))
  .nil) .nil)
  (.cons (.ite (.val (.call 23 (.cons (.var 1) .nil))) (.cons (.ret (.con (.bl true)))
  .nil) .nil)
  (.cons (.setC 4 (.lams [(2, [1])]))
  (.cons (.setC 4 (.add (.var 4) (.lams [(1, [1])])))
  (.cons (.ret (.call 21 (.clos (.add (.var 4) (.lams [(0, [1])])) (.cons (.con (.str "picture")) .nil))))
  .nil))))))))
def N__law_written : List Str := ["_law_three", "_law_five", "_law_part", "_law_good", "_law_bad"]
def ir__law_written : Ss :=
  (.cons (.asg (.tp (.cons (.nm 0) (.cons (.nm 1) (.cons (.nm 2) .nil)))) (.tup (.cons (.tup (.cons (.con (.int (0))) (.cons (.con (.int (1))) (.cons (.con (.int (3))) .nil)))) (.cons (.tup (.cons (.con (.int (0))) (.cons (.con (.int (15))) (.cons (.con (.int (30))) (.cons (.con (.int (45))) (.cons (.con (.int (60))) .nil)))))) (.cons (.tup (.cons (.con (.int (9))) (.cons (.con (.int (0))) (.cons (.con (.int (4))) .nil)))) .nil)))))
  (.cons (.set 3 (.lst (.cons (.call 8 (.cons (.var 1) .nil)) (.cons (.call 9 (.cons (.var 1) (.cons (.op .mul (.tup (.cons (.var 2) .nil)) (.con (.int (3)))) .nil))) (.cons (.call 11 (.cons (.var 1) (.cons (.op .mul (.tup (.cons (.tup (.cons (.con (.str "same")) (.cons (.tup (.cons (.var 2) .nil)) (.cons (.tup (.cons (.var 2) .nil)) .nil)))) .nil)) (.con (.int (4)))) .nil))) .nil)))))
  (.cons (.set 3 (.op .add (.var 3) (.lst (.cons (.call 6 (.cons (.tup (.cons (.con (.int (0))) (.cons (.con (.int (1))) .nil))) .nil)) (.cons (.call 6 (.cons (.tup (.cons (.op .pow (.con (.int (10))) (.con (.int (9)))) (.cons (.con (.int (1))) .nil))) .nil)) (.cons (.call 6 (.cons (.tup (.cons (.op .sub (.op .pow (.con (.int (10))) (.con (.int (9)))) (.con (.int (1)))) (.cons (.op .pow (.con (.int (10))) (.con (.int (9)))) .nil))) .nil)) (.cons (.call 11 (.cons (.var 0) (.cons (.tup .nil) .nil))) .nil)))))))
  (.cons (.own 4 (.lst (.cons (.call 8 (.cons (.op .add (.sl (.var 1) .no (.yes (.con (.int (4))))) (.tup (.cons (.con (.int (61))) .nil))) .nil)) (.cons (.call 8 (.cons (.tup (.cons (.con (.int (0))) (.cons (.con (.int (1))) .nil))) .nil)) (.cons (.call 8 (.cons (.op .add (.var 1) (.tup (.cons (.con (.int (61))) .nil))) .nil)) (.cons (.call 8 (.cons (.tup (.cons (.con (.int (0))) (.cons (.con (.int (2))) (.cons (.con (.int (2))) .nil)))) .nil)) .nil))))))
  (.cons (.own 4 (.addL (.bor 4) (.lst (.cons (.call 8 (.cons (.tup (.cons (.con (.int (1))) (.cons (.con (.int (2))) (.cons (.con (.int (3))) .nil)))) .nil)) (.cons (.call 8 (.cons (.lst (.cons (.con (.int (0))) (.cons (.con (.int (1))) (.cons (.con (.int (2))) .nil)))) .nil)) (.cons (.call 8 (.cons (.tup (.cons (.con (.int (0))) (.cons (.con (.int (1))) (.cons (.con (.int (2))) (.cons (.con (.int (3))) (.cons (.con (.int (4))) (.cons (.con (.int (5))) .nil))))))) .nil)) .nil))))))
  (.cons (.own 4 (.addL (.bor 4) (.lst (.cons (.call 6 (.cons (.tup (.cons (.con (.int (0))) (.cons (.con (.int (2))) .nil))) .nil)) (.cons (.call 6 (.cons (.tup (.cons (.con (.int (1))) (.cons (.con (.int (0))) .nil))) .nil)) (.cons (.call 6 (.cons (.tup (.cons (.neg (.con (.int (1)))) (.cons (.con (.int (2))) .nil))) .nil)) (.cons (.call 6 (.cons (.tup (.cons (.op .add (.op .pow (.con (.int (10))) (.con (.int (9)))) (.con (.int (1)))) (.cons (.con (.int (1))) .nil))) .nil)) (.cons (.call 6 (.cons (.tup (.cons (.con (.int (2))) (.cons (.con (.int (4))) .nil))) .nil)) .nil))))))))
  (.cons (.own 4 (.addL (.bor 4) (.lst (.cons (.call 9 (.cons (.var 0) (.cons (.tup (.cons (.var 2) .nil)) .nil))) (.cons (.call 9 (.cons (.var 1) (.cons (.op .mul (.tup (.cons (.var 2) .nil)) (.con (.int (4)))) .nil))) (.cons (.call 9 (.cons (.var 1) (.cons (.tup .nil) .nil))) (.cons (.call 9 (.cons (.var 0) (.cons (.tup (.cons (.tup (.cons (.con (.int (1))) (.cons (.con (.int (1))) (.cons (.con (.int (1))) .nil)))) .nil)) .nil))) .nil)))))))
  (.cons (.own 4 (.addL (.bor 4) (.lst (.cons (.call 9 (.cons (.var 0) (.cons (.tup (.cons (.tup (.cons (.con (.int (0))) (.cons (.con (.int (0))) (.cons (.con (.int (1))) .nil)))) .nil)) .nil))) (.cons (.call 9 (.cons (.var 0) (.cons (.tup (.cons (.tup (.cons (.con (.int (10))) (.cons (.con (.int (0))) (.cons (.con (.int (1))) .nil)))) .nil)) .nil))) (.cons (.call 9 (.cons (.var 0) (.cons (.tup (.cons (.tup (.cons (.con (.int (1))) (.cons (.con (.int (1))) (.cons (.con (.int (0))) .nil)))) .nil)) .nil))) .nil))))))
  (.cons (.own 4 (.addL (.bor 4) (.lst (.cons (.call 9 (.cons (.var 0) (.cons (.tup (.cons (.tup (.cons (.con (.bl true)) (.cons (.con (.int (0))) (.cons (.con (.int (1))) .nil)))) .nil)) .nil))) (.cons (.call 10 (.cons (.var 1) (.cons (.tup (.cons (.con (.str "more")) (.cons (.tup (.cons (.var 2) .nil)) (.cons (.tup (.cons (.var 2) .nil)) .nil)))) .nil))) (.cons (.call 6 (.cons (.tup (.cons (.con (.bl false)) (.cons (.con (.int (1))) .nil))) .nil)) .nil))))))
  (.cons (.append 4 (.call 11 (.cons (.var 1) (.cons (.op .mul (.tup (.cons (.tup (.cons (.con (.str "same")) (.cons (.tup (.cons (.var 2) .nil)) (.cons (.tup (.cons (.var 2) .nil)) .nil)))) .nil)) (.con (.int (5)))) .nil))))
  (.cons (.dg 4)
  (.cons (.ret (.and (.cm .eq (.var 3) (.op .mul (.lst (.cons (.con (.bl true)) .nil)) (.bi .len (.cons (.var 3) .nil)))) (.cm .eq (.var 4) (.op .mul (.lst (.cons (.con (.bl false)) .nil)) (.bi .len (.cons (.var 4) .nil))))))
  .nil))))))))))))
def N_law : List Str := ["_law_script", "_law_k", "_law_spring_here", "_law_picture", "_law_value", "_law_bent_here", "_law_turn"]
def ir_law : Ss :=
  (.cons (.loop (.nm 1) (.rng1 (.cons (.bi .max2 (.cons (.con (.int (4))) (.cons (.bi .min2 (.cons (.con (.int (9))) (.cons (.bi .len (.cons (.var 0) .nil)) .nil))) .nil))) .nil)) (.cons (.cel 2 (.call 12 (.cons (.var 0) (.cons (.var 1) .nil))))
  (.cons (.set 3 (.call 15 (.cons (.var 2) (.cons (.con (.int (5))) .nil))))
  (.cons (.loop (.nm 4) (.seq (.lst (.cons (.var 3) (.cons (.call 16 (.cons (.var 2) (.cons (.var 3) (.cons (.con (.int (3))) .nil)))) (.cons (.call 17 (.cons (.var 2) (.cons (.var 3) .nil))) (.cons (.call 18 (.cons (.var 2) (.cons (.var 3) (.cons (.con (.int (4))) .nil)))) (.cons (.tup (.cons (.call 13 (.cons (.var 2) (.cons (.con (.int (9))) .nil))) (.cons (.op .add (.con (.int (1))) (.call 13 (.cons (.var 2) (.cons (.con (.int (9))) .nil)))) .nil))) .nil))))))) (.cons (.ite (.not (.val (.call 29 (.cons (.var 3) (.cons (.var 4) .nil))))) (.cons (.ret (.con (.bl false)))
  .nil) .nil)
  (.cons (.set 5 (.var 4))
  (.cons (.loop (.nm 6) (.rng1 (.cons (.con (.int (12))) .nil)) (.cons (.set 5 (.call 28 (.cons (.var 2) (.cons (.ite (.cm .eq (.op .mod (.var 6) (.con (.int (3)))) (.con (.int (0)))) (.var 4) (.var 5)) .nil))))
  (.cons (.ite (.not (.val (.call 29 (.cons (.var 3) (.cons (.var 5) .nil))))) (.cons (.ret (.con (.bl false)))
  .nil) .nil)
  .nil)))
  .nil))))
  .nil))))
  (.cons (.ret (.call 30 .nil))
  .nil))
def irl0 : E := (.call 11 (.cons (.var 0) (.cons (.con (.non)) .nil)))
def irl1 : E := (.call 10 (.cons (.var 0) (.cons (.con (.non)) .nil)))
def irl2 : E := (.call 9 (.cons (.var 0) (.cons (.con (.non)) .nil)))
def defs : Nat → Option DefI
  | 0 => some ⟨2, 2, ir_measure⟩
  | 1 => some ⟨3, 3, ir_is_whole⟩
  | 2 => some ⟨1, 4, ir_is_right_picture⟩
  | 3 => some ⟨2, 3, ir_is_right_sum⟩
  | 4 => some ⟨2, 2, ir_is_right_claim⟩
  | 5 => some ⟨2, 3, ir_are_right_facts⟩
  | 6 => some ⟨1, 1, ir_is_lean⟩
  | 7 => some ⟨1, 1, ir_need_picture⟩
  | 8 => some ⟨1, 1, ir_is_picture⟩
  | 9 => some ⟨2, 2, ir_is_sum⟩
  | 10 => some ⟨2, 2, ir_is_claim⟩
  | 11 => some ⟨2, 2, ir_are_facts⟩
  | 12 => some ⟨2, 3, ir__law_spring⟩
  | 13 => some ⟨2, 4, ir__law_pick⟩
  | 14 => some ⟨2, 2, ir__law_chosen⟩
  | 15 => some ⟨2, 4, ir__law_shot⟩
  | 16 => some ⟨3, 7, ir__law_lengths⟩
  | 17 => some ⟨2, 3, ir__law_saying⟩
  | 18 => some ⟨3, 4, ir__law_sayings⟩
  | 20 => some ⟨1, 2, ir__law_came⟩
  | 21 => some ⟨2, 3, ir__law_all_say⟩
  | 22 => some ⟨3, 3, ir__law_whole⟩
  | 23 => some ⟨1, 2, ir__law_is_picture⟩
  | 24 => some ⟨1, 3, ir__law_is_lean⟩
  | 25 => some ⟨2, 4, ir__law_is_sum⟩
  | 26 => some ⟨2, 2, ir__law_is_claim⟩
  | 27 => some ⟨2, 3, ir__law_are_facts⟩
  | 28 => some ⟨2, 3, ir__law_bent⟩
  | 29 => some ⟨2, 6, ir__law_judged⟩
  | 30 => some ⟨0, 5, ir__law_written⟩
  | 31 => some ⟨1, 7, ir_law⟩
  | _ => none
def lamE : Nat → Option E
  | 0 => some irl0
  | 1 => some irl1
  | 2 => some irl2
  | _ => none
def kinS (i : Nat) : Str := (["picture value"] : List Str).getD i "picture value"
def tab : Tab := ⟨defs, lamE, kinS⟩
end K01
end
section
namespace K01
open PySem PySem.Spec PyProof.Rows L2 LamX NdefX PL
/-! ### the text -/
abbrev pw : Program := PySem.Challenge.pw_leanmarks_k01_what_can_be_handed_in
def top (i : Nat) : Stmt := pw.main.body.getD i (.Pass ⟨0, 0, 0, 0⟩)
def fnNames : List Str := (["measure", "is_whole", "is_right_picture", "is_right_sum", "is_right_claim", "are_right_facts", "is_lean", "need_picture", "is_picture", "is_sum", "is_claim", "are_facts", "_law_spring", "_law_pick", "_law_chosen", "_law_shot", "_law_lengths", "_law_saying", "_law_sayings", "_law_kin"] : List Str) ++ (["_law_came", "_law_all_say", "_law_whole", "_law_is_picture", "_law_is_lean", "_law_is_sum", "_law_is_claim", "_law_are_facts", "_law_bent", "_law_judged", "_law_written", "law"] : List Str)
def fnN (i : Nat) : Str := fnNames.getD i "law"
def freeNames : List Str := ["abs", "isinstance", "bool", "int", "zip", "all", "len", "tuple", "str", "range", "sorted", "set", "list", "min", "max"]
def freeN (i : Nat) : Str := freeNames.getD i "len"
def excNames : List Str := ["InvalidPicture"]
def excN (i : Nat) : Str := excNames.getD i "InvalidPicture"
def lam0 : LamI := lamOf ("_law_judged.<locals>.<lambda>" : Str) ["_law_value"] (xItem (xRight (xArg (sRet (sAt (defBody (top 50)) 7)) 0)) 0)
def lam1 : LamI := lamOf ("_law_judged.<locals>.<lambda>" : Str) ["_law_value"] (xItem (xRight (sValue (sAt (defBody (top 50)) 6))) 0)
def lam2 : LamI := lamOf ("_law_judged.<locals>.<lambda>" : Str) ["_law_value"] (xItem (sValue (sAt (defBody (top 50)) 5)) 0)
def lamTab : Nat → Option LamI
  | 0 => some lam0
  | 1 => some lam1
  | 2 => some lam2
  | _ => none
/-! ### what the head tells -/
def FA (K : PySem.W.Frag) (i : Nat) : Addr := He.ga K (fnN i)
def clA (K : PySem.W.Frag) (i : Nat) : Addr := He.ga K (excN i)
def gx (K : PySem.W.Frag) : Gx := ⟨K, fun i => some (FA K i), lamTab, [((He.cT K ("_law_judged", none)).2, fun _ _ => ("_law_judged.<locals>.<lambda>" : Str))]⟩
def kinNames : List Str := ["InvalidPicture", "InvalidLean", "InvalidSum", "InvalidClaim", "InvalidFacts", "InvalidMark", "InvalidNumber", "InvalidIndex", "Impossible", "Unlike", "NotOne", "NothingToUndo", "TooMany", "InvalidText", "ValueError"]
def kinN (i : Nat) : Str := kinNames.getD i "ValueError"
/-- is the i-th raised class a kind of the j-th? -/
def isB (i j : Nat) : Bool := decide (excN i = kinN j)
structure Hd (K : PySem.W.Frag) (mg : Str → Option Value) (base : Heap) : Prop where
  fn : ∀ i, i < 32 → mg (fnN i) = some (.ref (FA K i)) ∧ PySem.W.keepIn K (.ref (FA K i)) = true
  free : ∀ i, i < 15 → mg (freeN i) = none
  exc : ∀ i, i < 1 → ExcG K mg (clA K i) (excN i)
  int_MOST_FACTS : ∃ t, mg "MOST_FACTS" = some (.int (4) t)
  tup_WORDS : mg "WORDS" = some (.ref (He.ga K "WORDS")) ∧ ∀ H, SqT K H (He.ga K "WORDS") [.str "less", .str "upto", .str "same"]
  d_measure : ∃ fd, FunD K "measure" "measure" (defArgs (top 17)) (defBody (top 17)) (defScope (top 17)) [] [] (FA K 0) fd
  d_is_whole : ∃ fd, FunD K "is_whole" "is_whole" (defArgs (top 21)) (defBody (top 21)) (defScope (top 21)) [] [] (FA K 1) fd
  d_is_right_picture : ∃ fd, FunD K "is_right_picture" "is_right_picture" (defArgs (top 22)) (defBody (top 22)) (defScope (top 22)) [] [] (FA K 2) fd
  d_is_right_sum : ∃ fd, FunD K "is_right_sum" "is_right_sum" (defArgs (top 23)) (defBody (top 23)) (defScope (top 23)) [] [] (FA K 3) fd
  d_is_right_claim : ∃ fd, FunD K "is_right_claim" "is_right_claim" (defArgs (top 24)) (defBody (top 24)) (defScope (top 24)) [] [] (FA K 4) fd
  d_are_right_facts : ∃ fd, FunD K "are_right_facts" "are_right_facts" (defArgs (top 25)) (defBody (top 25)) (defScope (top 25)) [] [] (FA K 5) fd
  d_is_lean : ∃ fd, FunD K "is_lean" "is_lean" (defArgs (top 26)) (defBody (top 26)) (defScope (top 26)) [] [] (FA K 6) fd
  d_need_picture : ∃ fd, FunD K "need_picture" "need_picture" (defArgs (top 27)) (defBody (top 27)) (defScope (top 27)) [] [] (FA K 7) fd
  d_is_picture : ∃ fd, FunD K "is_picture" "is_picture" (defArgs (top 28)) (defBody (top 28)) (defScope (top 28)) [] [] (FA K 8) fd
  d_is_sum : ∃ fd, FunD K "is_sum" "is_sum" (defArgs (top 29)) (defBody (top 29)) (defScope (top 29)) [] [] (FA K 9) fd
  d_is_claim : ∃ fd, FunD K "is_claim" "is_claim" (defArgs (top 30)) (defBody (top 30)) (defScope (top 30)) [] [] (FA K 10) fd
  d_are_facts : ∃ fd, FunD K "are_facts" "are_facts" (defArgs (top 31)) (defBody (top 31)) (defScope (top 31)) [] [] (FA K 11) fd
  d__law_spring : ∃ fd, FunD K "_law_spring" "_law_spring" (defArgs (top 33)) (defBody (top 33)) (defScope (top 33)) [] [] (FA K 12) fd
  d__law_pick : ∃ fd, FunD K "_law_pick" "_law_pick" (defArgs (top 34)) (defBody (top 34)) (defScope (top 34)) [] [] (FA K 13) fd
  d__law_chosen : ∃ fd, FunD K "_law_chosen" "_law_chosen" (defArgs (top 35)) (defBody (top 35)) (defScope (top 35)) [] [] (FA K 14) fd
  d__law_shot : ∃ fd, FunD K "_law_shot" "_law_shot" (defArgs (top 36)) (defBody (top 36)) (defScope (top 36)) [] [] (FA K 15) fd
  d__law_lengths : ∃ fd, FunD K "_law_lengths" "_law_lengths" (defArgs (top 37)) (defBody (top 37)) (defScope (top 37)) [] [] (FA K 16) fd
  d__law_saying : ∃ fd, FunD K "_law_saying" "_law_saying" (defArgs (top 38)) (defBody (top 38)) (defScope (top 38)) [] [] (FA K 17) fd
  d__law_sayings : ∃ fd, FunD K "_law_sayings" "_law_sayings" (defArgs (top 39)) (defBody (top 39)) (defScope (top 39)) [] [] (FA K 18) fd
  d__law_kin : ∃ fd, FunD K "_law_kin" "_law_kin" (defArgs (top 40)) (defBody (top 40)) (defScope (top 40)) [] [] (FA K 19) fd
  d__law_came : ∃ fd, FunD K "_law_came" "_law_came" (defArgs (top 41)) (defBody (top 41)) (defScope (top 41)) [] [] (FA K 20) fd
  d__law_all_say : ∃ fd, FunD K "_law_all_say" "_law_all_say" (defArgs (top 42)) (defBody (top 42)) (defScope (top 42)) [] [] (FA K 21) fd
  d__law_whole : ∃ fd, FunD K "_law_whole" "_law_whole" (defArgs (top 43)) (defBody (top 43)) (defScope (top 43)) [] [] (FA K 22) fd
  d__law_is_picture : ∃ fd, FunD K "_law_is_picture" "_law_is_picture" (defArgs (top 44)) (defBody (top 44)) (defScope (top 44)) [] [] (FA K 23) fd
  d__law_is_lean : ∃ fd, FunD K "_law_is_lean" "_law_is_lean" (defArgs (top 45)) (defBody (top 45)) (defScope (top 45)) [] [] (FA K 24) fd
  d__law_is_sum : ∃ fd, FunD K "_law_is_sum" "_law_is_sum" (defArgs (top 46)) (defBody (top 46)) (defScope (top 46)) [] [] (FA K 25) fd
  d__law_is_claim : ∃ fd, FunD K "_law_is_claim" "_law_is_claim" (defArgs (top 47)) (defBody (top 47)) (defScope (top 47)) [] [] (FA K 26) fd
  d__law_are_facts : ∃ fd, FunD K "_law_are_facts" "_law_are_facts" (defArgs (top 48)) (defBody (top 48)) (defScope (top 48)) [] [] (FA K 27) fd
  d__law_bent : ∃ fd, FunD K "_law_bent" "_law_bent" (defArgs (top 49)) (defBody (top 49)) (defScope (top 49)) [] [] (FA K 28) fd
  d__law_judged : ∃ fd, FunD K "_law_judged" "_law_judged" (defArgs (top 50)) (defBody (top 50)) (defScope (top 50)) [] [] (FA K 29) fd
  d__law_written : ∃ fd, FunD K "_law_written" "_law_written" (defArgs (top 51)) (defBody (top 51)) (defScope (top 51)) [] [] (FA K 30) fd
  d_law : ∃ fd, FunD K "law" "law" (defArgs (top 52)) (defBody (top 52)) (defScope (top 52)) [] [] (FA K 31) fd
  kcls : ∀ i, i < 1 → ExcC K (clA K i)
  kmg : ∀ j, j < 14 → mg (kinN j) = some (.ref (He.ga K (kinN j)))
  kit : ∀ i, i < 1 → ∀ j, j < 14 → PySem.W.kitOne K (.ref (clA K i)) (.ref (He.ga K (kinN j))) = some (isB i j)
  kitv : ∀ i, i < 1 → PySem.W.kitOne K (.ref (clA K i)) (.type "ValueError") = some true
  exm : ∀ i, i < 1 → PySem.W.exmOne K (.ref (clA K i)) (.ref (He.ga K "MarkError")) = some true
  mkE : mg "MarkError" = some (.ref (He.ga K "MarkError"))
  vfree : mg "ValueError" = none
  tab__law_judged : TabB base mg (He.cT K ("_law_judged", none)).1 (He.cT K ("_law_judged", none)).2
/-! ### each body does what its IR says -/
section
variable {P : Program} {W : World} {K : PySem.W.Frag} {mg : Str → Option Value} {base : Heap} {d : Nat} {c : CB} (h : Hd K mg base) (G : ∀ i, FnS P W (gx K) (clA K) mg base d (FA K i) (c.cf i)) (LM : ∀ k, LmS P W (gx K) (clA K) mg base d k (c.cl k)) (FF : FnF P W (gx K) (clA K) mg base d (FA K 12) (c.cf 12))
include h G LM FF
theorem b_measure (cd : Value) (A : Around) (outer : List Env) (s : Shared) (H : Hp) (E : XK) (hcd : PySem.W.codeIn (gx K).K cd "measure" = true) (hex : ∃ fd2 o, fd2.code = cd ∧ (gx K).K.lookup (FA K 0) = some o ∧ o.data = .func fd2)
    (hr : Room d (A.deeper (envOfC "measure" (defScope (top 17)) s.heap.objs.size (FA K 0) cd))) : JSs (defPl (gx K) (clA K) P W mg base N_measure "measure" (defScope (top 17)) (FA K 0) cd A outer s H E) c false (defBody (top 17)) ir_measure := by
  have C := cok_def (g := gx K) (clA := clA K) (P := P) (W := W) (mg := mg) (base := base) (N := N_measure) (E := E) (outer := outer) (H := H) hr (by decide)
  exact (zCons (zPar2 (i := 0) (j := 1) C rfl rfl (by decide) rfl rfl (lCons (rBi C .abs (by rfl) (h.free 0 (by decide)) (by rfl) (lbCons (bOf (rVar ⟨rfl, (.inl rfl), rfl⟩) (fun _ _ _ => rfl)) lbNil rfl) rfl rfl) (lCons (rBi C .abs (by rfl) (h.free 0 (by decide)) (by rfl) (lbCons (bOf (rVar ⟨rfl, (.inl rfl), rfl⟩) (fun _ _ _ => rfl)) lbNil rfl) rfl rfl) lNil rfl) rfl) rfl rfl)
  (zCons (zWhile owns_def (tCm C .ne (bOf (rVar ⟨rfl, (.inl rfl), rfl⟩) (fun _ _ _ => rfl)) (bOf rInt (fun _ _ _ => rfl)) rfl) (zCons (zPar2 (i := 0) (j := 1) C rfl rfl (by decide) rfl rfl (lCons (rVar ⟨rfl, (.inl rfl), rfl⟩) (lCons (rOp C .mod (bOf (rVar ⟨rfl, (.inl rfl), rfl⟩) (fun _ _ _ => rfl)) (bOf (rVar ⟨rfl, (.inl rfl), rfl⟩) (fun _ _ _ => rfl))) lNil rfl) rfl) rfl rfl)
  zNil))
  (zCons (zRet (rVar ⟨rfl, (.inl rfl), rfl⟩))
  zNil)))
theorem b_is_whole (cd : Value) (A : Around) (outer : List Env) (s : Shared) (H : Hp) (E : XK) (hcd : PySem.W.codeIn (gx K).K cd "is_whole" = true) (hex : ∃ fd2 o, fd2.code = cd ∧ (gx K).K.lookup (FA K 1) = some o ∧ o.data = .func fd2)
    (hr : Room d (A.deeper (envOfC "is_whole" (defScope (top 21)) s.heap.objs.size (FA K 1) cd))) : JSs (defPl (gx K) (clA K) P W mg base N_is_whole "is_whole" (defScope (top 21)) (FA K 1) cd A outer s H E) c false (defBody (top 21)) ir_is_whole := by
  have C := cok_def (g := gx K) (clA := clA K) (P := P) (W := W) (mg := mg) (base := base) (N := N_is_whole) (E := E) (outer := outer) (H := H) hr (by decide)
  exact (zCons (zRet (rAnd (rIsi C .int (by rfl) (h.free 1 (by decide)) (by rfl) (h.free 3 (by decide)) (bOf (rVar ⟨rfl, (.inl rfl), rfl⟩) (fun _ _ _ => rfl)) rfl) (rAnd (rNot (rIsi C .bool (by rfl) (h.free 1 (by decide)) (by rfl) (h.free 2 (by decide)) (bOf (rVar ⟨rfl, (.inl rfl), rfl⟩) (fun _ _ _ => rfl)) rfl)) (rOne (rChain C .le .le (rVar ⟨rfl, (.inl rfl), rfl⟩) (rVar ⟨rfl, (.inl rfl), rfl⟩) (rVar ⟨rfl, (.inl rfl), rfl⟩) rfl)))))
  zNil)
theorem b_is_right_picture (cd : Value) (A : Around) (outer : List Env) (s : Shared) (H : Hp) (E : XK) (hcd : PySem.W.codeIn (gx K).K cd "is_right_picture" = true) (hex : ∃ fd2 o, fd2.code = cd ∧ (gx K).K.lookup (FA K 2) = some o ∧ o.data = .func fd2)
    (hr : Room d (A.deeper (envOfC "is_right_picture" (defScope (top 22)) s.heap.objs.size (FA K 2) cd))) : JSs (defPl (gx K) (clA K) P W mg base N_is_right_picture "is_right_picture" (defScope (top 22)) (FA K 2) cd A outer s H E) c false (defBody (top 22)) ir_is_right_picture := by
  have C := cok_def (g := gx K) (clA := clA K) (P := P) (W := W) (mg := mg) (base := base) (N := N_is_right_picture) (E := E) (outer := outer) (H := H) hr (by decide)
  exact (zCons (zIf (tW (wOr (tNot' (tVal C (rIsi C .tuple (by rfl) (h.free 1 (by decide)) (by rfl) (h.free 7 (by decide)) (bOf (rVar ⟨rfl, (.inl rfl), rfl⟩) (fun _ _ _ => rfl)) rfl) (fun _ => rfl))) (wOr1 (tNot' (tChain C .le .le rInt (rBi C .len (by rfl) (h.free 6 (by decide)) (by rfl) (lbCons (bOf (rVar ⟨rfl, (.inl rfl), rfl⟩) (fun _ _ _ => rfl)) lbNil rfl) rfl rfl) rInt rfl))))) (zCons (zRet rBl)
  zNil) zNil)
  (zCons (zIf (tW (wOr (tNot' (tVal C (rBi C .all (by rfl) (h.free 5 (by decide)) (by rfl) (lbCons (bOf (rF' (fComp C (iSeq' C (bOf (rVar ⟨rfl, (.inl rfl), rfl⟩) (fun _ _ _ => rfl))) (ow := [("mark", 1)]) rfl (by kernel_rfl) (fun _ _ _ _ _ Cb => (gNm Cb.nd rfl (.inl rfl) (.inr rfl))) (fun _ _ _ _ _ Cb => oNoT) (fun _ _ _ _ _ Cb => (rCall Cb (G 1) (by rfl) (h.fn 1 (by decide)) (aVal (rVar ⟨rfl, (.inl rfl), rfl⟩) (aVal rInt (aVal rInt aNil rfl) rfl) rfl) (by rfl) (by rfl) (by rfl))) (fun _ => rfl) (by decide))) (fun _ _ _ => rfl)) lbNil rfl) rfl rfl) (fun _ => rfl))) (wOr1 (tCm C .ne (bOf (rIx C (bOf (rVar ⟨rfl, (.inl rfl), rfl⟩) (fun _ _ _ => rfl)) rInt (fun _ _ => rfl)) (fun _ _ _ => rfl)) (bOf rInt (fun _ _ _ => rfl)) rfl)))) (zCons (zRet rBl)
  zNil) zNil)
  (zCons (zRet (rBi C .all (by rfl) (h.free 5 (by decide)) (by rfl) (lbCons (bOf (rF' (fComp C (iZip' C (by rfl) (h.free 4 (by decide)) (bOf (rVar ⟨rfl, (.inl rfl), rfl⟩) (fun _ _ _ => rfl)) (bOf (rSl C (bOf (rVar ⟨rfl, (.inl rfl), rfl⟩) (fun _ _ _ => rfl)) (oYes rInt) oNo) (fun _ _ _ => rfl)) rfl rfl) (ow := [("one", 2), ("other", 3)]) rfl (by kernel_rfl) (fun _ _ _ _ _ Cb => (gTp Cb (gsCons (gNm Cb.nd rfl (.inl rfl) (.inr rfl)) (gsCons (gNm Cb.nd rfl (.inl rfl) (.inr rfl)) gsNil rfl) rfl) rfl rfl)) (fun _ _ _ _ _ Cb => oNoT) (fun _ _ _ _ _ Cb => (rCm Cb .lt (bOf (rVar ⟨rfl, (.inl rfl), rfl⟩) (fun _ _ _ => rfl)) (bOf (rVar ⟨rfl, (.inl rfl), rfl⟩) (fun _ _ _ => rfl)) rfl)) (fun _ => rfl) (by decide))) (fun _ _ _ => rfl)) lbNil rfl) rfl rfl))
  zNil)))
theorem b_is_right_sum (cd : Value) (A : Around) (outer : List Env) (s : Shared) (H : Hp) (E : XK) (hcd : PySem.W.codeIn (gx K).K cd "is_right_sum" = true) (hex : ∃ fd2 o, fd2.code = cd ∧ (gx K).K.lookup (FA K 3) = some o ∧ o.data = .func fd2)
    (hr : Room d (A.deeper (envOfC "is_right_sum" (defScope (top 23)) s.heap.objs.size (FA K 3) cd))) : JSs (defPl (gx K) (clA K) P W mg base N_is_right_sum "is_right_sum" (defScope (top 23)) (FA K 3) cd A outer s H E) c false (defBody (top 23)) ir_is_right_sum := by
  have C := cok_def (g := gx K) (clA := clA K) (P := P) (W := W) (mg := mg) (base := base) (N := N_is_right_sum) (E := E) (outer := outer) (H := H) hr (by decide)
  exact (zCons (zIf (tW (wOr (tNot' (tVal C (rIsi C .tuple (by rfl) (h.free 1 (by decide)) (by rfl) (h.free 7 (by decide)) (bOf (rVar ⟨rfl, (.inl rfl), rfl⟩) (fun _ _ _ => rfl)) rfl) (fun _ => rfl))) (wOr1 (tNot' (tChain C .le .le rInt (rBi C .len (by rfl) (h.free 6 (by decide)) (by rfl) (lbCons (bOf (rVar ⟨rfl, (.inl rfl), rfl⟩) (fun _ _ _ => rfl)) lbNil rfl) rfl rfl) rInt rfl))))) (zCons (zRet rBl)
  zNil) zNil)
  (zCons (zFor C owns_def (ikSeq C (rVar ⟨rfl, (.inl rfl), rfl⟩) (fun _ _ _ => rfl)) (gNm C.nd rfl (.inl rfl) (.inl rfl)) (zCons (zIf (tW (wOr (tNot' (tVal C (rIsi C .tuple (by rfl) (h.free 1 (by decide)) (by rfl) (h.free 7 (by decide)) (bOf (rVar ⟨rfl, (.inl rfl), rfl⟩) (fun _ _ _ => rfl)) rfl) (fun _ => rfl))) (wOr (tCm C .ne (bOf (rBi C .len (by rfl) (h.free 6 (by decide)) (by rfl) (lbCons (bOf (rVar ⟨rfl, (.inl rfl), rfl⟩) (fun _ _ _ => rfl)) lbNil rfl) rfl rfl) (fun _ _ _ => rfl)) (bOf rInt (fun _ _ _ => rfl)) rfl) (wOr1 (tNot' (tVal C (rCall C (G 1) (by rfl) (h.fn 1 (by decide)) (aVal (rIx C (bOf (rVar ⟨rfl, (.inl rfl), rfl⟩) (fun _ _ _ => rfl)) rInt (fun _ _ => rfl)) (aVal rInt (aVal rInt aNil rfl) rfl) rfl) (by rfl) (by rfl) (by rfl)) (fun _ => rfl))))))) (zCons (zRet rBl)
  zNil) zNil)
  (zCons (zIf (tW (wOr (tNot' (tVal C (rCall C (G 1) (by rfl) (h.fn 1 (by decide)) (aVal (rIx C (bOf (rVar ⟨rfl, (.inl rfl), rfl⟩) (fun _ _ _ => rfl)) rInt (fun _ _ => rfl)) (aVal rInt (aVal (rOp C .sub (bOf (rBi C .len (by rfl) (h.free 6 (by decide)) (by rfl) (lbCons (bOf (rVar ⟨rfl, (.inl rfl), rfl⟩) (fun _ _ _ => rfl)) lbNil rfl) rfl rfl) (fun _ _ _ => rfl)) (bOf rInt (fun _ _ _ => rfl))) aNil rfl) rfl) rfl) (by rfl) (by rfl) (by rfl)) (fun _ => rfl))) (wOr1 (tNot' (tVal C (rCall C (G 1) (by rfl) (h.fn 1 (by decide)) (aVal (rIx C (bOf (rVar ⟨rfl, (.inl rfl), rfl⟩) (fun _ _ _ => rfl)) rInt (fun _ _ => rfl)) (aVal (rOp C .add (bOf (rIx C (bOf (rVar ⟨rfl, (.inl rfl), rfl⟩) (fun _ _ _ => rfl)) rInt (fun _ _ => rfl)) (fun _ _ _ => rfl)) (bOf rInt (fun _ _ _ => rfl))) (aVal (rOp C .sub (bOf (rBi C .len (by rfl) (h.free 6 (by decide)) (by rfl) (lbCons (bOf (rVar ⟨rfl, (.inl rfl), rfl⟩) (fun _ _ _ => rfl)) lbNil rfl) rfl rfl) (fun _ _ _ => rfl)) (bOf rInt (fun _ _ _ => rfl))) aNil rfl) rfl) rfl) (by rfl) (by rfl) (by rfl)) (fun _ => rfl)))))) (zCons (zRet rBl)
  zNil) zNil)
  zNil)) (fun _ => rfl))
  (zCons (zRet rBl)
  zNil)))
theorem b_is_right_claim (cd : Value) (A : Around) (outer : List Env) (s : Shared) (H : Hp) (E : XK) (hcd : PySem.W.codeIn (gx K).K cd "is_right_claim" = true) (hex : ∃ fd2 o, fd2.code = cd ∧ (gx K).K.lookup (FA K 4) = some o ∧ o.data = .func fd2)
    (hr : Room d (A.deeper (envOfC "is_right_claim" (defScope (top 24)) s.heap.objs.size (FA K 4) cd))) : JSs (defPl (gx K) (clA K) P W mg base N_is_right_claim "is_right_claim" (defScope (top 24)) (FA K 4) cd A outer s H E) c false (defBody (top 24)) ir_is_right_claim := by
  have C := cok_def (g := gx K) (clA := clA K) (P := P) (W := W) (mg := mg) (base := base) (N := N_is_right_claim) (E := E) (outer := outer) (H := H) hr (by decide)
  exact (zCons (zIf (tW (wOr (tNot' (tVal C (rIsi C .tuple (by rfl) (h.free 1 (by decide)) (by rfl) (h.free 7 (by decide)) (bOf (rVar ⟨rfl, (.inl rfl), rfl⟩) (fun _ _ _ => rfl)) rfl) (fun _ => rfl))) (wOr (tCm C .ne (bOf (rBi C .len (by rfl) (h.free 6 (by decide)) (by rfl) (lbCons (bOf (rVar ⟨rfl, (.inl rfl), rfl⟩) (fun _ _ _ => rfl)) lbNil rfl) rfl rfl) (fun _ _ _ => rfl)) (bOf rInt (fun _ _ _ => rfl)) rfl) (wOr (tNot' (tVal C (rIsi C .str (by rfl) (h.free 1 (by decide)) (by rfl) (h.free 8 (by decide)) (bOf (rIx C (bOf (rVar ⟨rfl, (.inl rfl), rfl⟩) (fun _ _ _ => rfl)) rInt (fun _ _ => rfl)) (fun _ _ _ => rfl)) rfl) (fun _ => rfl))) (wOr1 (tCm C .notin (bOf (rIx C (bOf (rVar ⟨rfl, (.inl rfl), rfl⟩) (fun _ _ _ => rfl)) rInt (fun _ _ => rfl)) (fun _ _ _ => rfl)) (bOf (rGTup (j := 0) (by rfl) h.tup_WORDS.1 h.tup_WORDS.2 (fun _ _ => (.cons (.str _) (.cons (.str _) (.cons (.str _) .nil)))) rfl) (fun _ _ _ => rfl)) rfl)))))) (zCons (zRet rBl)
  zNil) zNil)
  (zCons (zRet (rAnd (rCall C (G 3) (by rfl) (h.fn 3 (by decide)) (aVal (rVar ⟨rfl, (.inl rfl), rfl⟩) (aVal (rIx C (bOf (rVar ⟨rfl, (.inl rfl), rfl⟩) (fun _ _ _ => rfl)) rInt (fun _ _ => rfl)) aNil rfl) rfl) (by rfl) (by rfl) (by rfl)) (rOne (rCall C (G 3) (by rfl) (h.fn 3 (by decide)) (aVal (rVar ⟨rfl, (.inl rfl), rfl⟩) (aVal (rIx C (bOf (rVar ⟨rfl, (.inl rfl), rfl⟩) (fun _ _ _ => rfl)) rInt (fun _ _ => rfl)) aNil rfl) rfl) (by rfl) (by rfl) (by rfl)))))
  zNil))
theorem b_are_right_facts (cd : Value) (A : Around) (outer : List Env) (s : Shared) (H : Hp) (E : XK) (hcd : PySem.W.codeIn (gx K).K cd "are_right_facts" = true) (hex : ∃ fd2 o, fd2.code = cd ∧ (gx K).K.lookup (FA K 5) = some o ∧ o.data = .func fd2)
    (hr : Room d (A.deeper (envOfC "are_right_facts" (defScope (top 25)) s.heap.objs.size (FA K 5) cd))) : JSs (defPl (gx K) (clA K) P W mg base N_are_right_facts "are_right_facts" (defScope (top 25)) (FA K 5) cd A outer s H E) c false (defBody (top 25)) ir_are_right_facts := by
  have C := cok_def (g := gx K) (clA := clA K) (P := P) (W := W) (mg := mg) (base := base) (N := N_are_right_facts) (E := E) (outer := outer) (H := H) hr (by decide)
  exact (zCons (zIf (tW (wOr (tNot' (tVal C (rIsi C .tuple (by rfl) (h.free 1 (by decide)) (by rfl) (h.free 7 (by decide)) (bOf (rVar ⟨rfl, (.inl rfl), rfl⟩) (fun _ _ _ => rfl)) rfl) (fun _ => rfl))) (wOr1 (tCm C .gt (bOf (rBi C .len (by rfl) (h.free 6 (by decide)) (by rfl) (lbCons (bOf (rVar ⟨rfl, (.inl rfl), rfl⟩) (fun _ _ _ => rfl)) lbNil rfl) rfl rfl) (fun _ _ _ => rfl)) (bOf (rGInt (j := 0) (by rfl) (h.int_MOST_FACTS) rfl) (fun _ _ _ => rfl)) rfl)))) (zCons (zRet rBl)
  zNil) zNil)
  (zCons (zRet (rBi C .all (by rfl) (h.free 5 (by decide)) (by rfl) (lbCons (bOf (rF' (fComp C (iSeq' C (bOf (rVar ⟨rfl, (.inl rfl), rfl⟩) (fun _ _ _ => rfl))) (ow := [("claim", 2)]) rfl (by kernel_rfl) (fun _ _ _ _ _ Cb => (gNm Cb.nd rfl (.inl rfl) (.inr rfl))) (fun _ _ _ _ _ Cb => oNoT) (fun _ _ _ _ _ Cb => (rCall Cb (G 4) (by rfl) (h.fn 4 (by decide)) (aVal (rVar ⟨rfl, (.inr (.inl rfl)), rfl⟩) (aVal (rVar ⟨rfl, (.inl rfl), rfl⟩) aNil rfl) rfl) (by rfl) (by rfl) (by rfl))) (fun _ => rfl) (by decide))) (fun _ _ _ => rfl)) lbNil rfl) rfl rfl))
  zNil))
theorem b_is_lean (cd : Value) (A : Around) (outer : List Env) (s : Shared) (H : Hp) (E : XK) (hcd : PySem.W.codeIn (gx K).K cd "is_lean" = true) (hex : ∃ fd2 o, fd2.code = cd ∧ (gx K).K.lookup (FA K 6) = some o ∧ o.data = .func fd2)
    (hr : Room d (A.deeper (envOfC "is_lean" (defScope (top 26)) s.heap.objs.size (FA K 6) cd))) : JSs (defPl (gx K) (clA K) P W mg base N_is_lean "is_lean" (defScope (top 26)) (FA K 6) cd A outer s H E) c false (defBody (top 26)) ir_is_lean := by
  have C := cok_def (g := gx K) (clA := clA K) (P := P) (W := W) (mg := mg) (base := base) (N := N_is_lean) (E := E) (outer := outer) (H := H) hr (by decide)
  exact (zCons (zIf (tW (wOr (tNot' (tVal C (rIsi C .tuple (by rfl) (h.free 1 (by decide)) (by rfl) (h.free 7 (by decide)) (bOf (rVar ⟨rfl, (.inl rfl), rfl⟩) (fun _ _ _ => rfl)) rfl) (fun _ => rfl))) (wOr1 (tCm C .ne (bOf (rBi C .len (by rfl) (h.free 6 (by decide)) (by rfl) (lbCons (bOf (rVar ⟨rfl, (.inl rfl), rfl⟩) (fun _ _ _ => rfl)) lbNil rfl) rfl rfl) (fun _ _ _ => rfl)) (bOf rInt (fun _ _ _ => rfl)) rfl)))) (zCons (zRet rBl)
  zNil) zNil)
  (zCons (zIf (tW (wOr (tNot' (tVal C (rCall C (G 1) (by rfl) (h.fn 1 (by decide)) (aVal (rIx C (bOf (rVar ⟨rfl, (.inl rfl), rfl⟩) (fun _ _ _ => rfl)) rInt (fun _ _ => rfl)) (aVal rInt (aVal (rOp C .pow (bOf rInt (fun _ _ _ => rfl)) (bOf rInt (fun _ _ _ => rfl))) aNil rfl) rfl) rfl) (by rfl) (by rfl) (by rfl)) (fun _ => rfl))) (wOr1 (tNot' (tVal C (rCall C (G 1) (by rfl) (h.fn 1 (by decide)) (aVal (rIx C (bOf (rVar ⟨rfl, (.inl rfl), rfl⟩) (fun _ _ _ => rfl)) rInt (fun _ _ => rfl)) (aVal rInt (aVal (rOp C .pow (bOf rInt (fun _ _ _ => rfl)) (bOf rInt (fun _ _ _ => rfl))) aNil rfl) rfl) rfl) (by rfl) (by rfl) (by rfl)) (fun _ => rfl)))))) (zCons (zRet rBl)
  zNil) zNil)
  (zCons (zRet (rCm C .eq (bOf (rCall C (G 0) (by rfl) (h.fn 0 (by decide)) (aVal (rIx C (bOf (rVar ⟨rfl, (.inl rfl), rfl⟩) (fun _ _ _ => rfl)) rInt (fun _ _ => rfl)) (aVal (rIx C (bOf (rVar ⟨rfl, (.inl rfl), rfl⟩) (fun _ _ _ => rfl)) rInt (fun _ _ => rfl)) aNil rfl) rfl) (by rfl) (by rfl) (by rfl)) (fun _ _ _ => rfl)) (bOf rInt (fun _ _ _ => rfl)) rfl))
  zNil)))
theorem b_need_picture (cd : Value) (A : Around) (outer : List Env) (s : Shared) (H : Hp) (E : XK) (hcd : PySem.W.codeIn (gx K).K cd "need_picture" = true) (hex : ∃ fd2 o, fd2.code = cd ∧ (gx K).K.lookup (FA K 7) = some o ∧ o.data = .func fd2)
    (hr : Room d (A.deeper (envOfC "need_picture" (defScope (top 27)) s.heap.objs.size (FA K 7) cd))) : JSs (defPl (gx K) (clA K) P W mg base N_need_picture "need_picture" (defScope (top 27)) (FA K 7) cd A outer s H E) c false (defBody (top 27)) ir_need_picture := by
  have C := cok_def (g := gx K) (clA := clA K) (P := P) (W := W) (mg := mg) (base := base) (N := N_need_picture) (E := E) (outer := outer) (H := H) hr (by decide)
  exact (zCons (zIf (tNot' (tVal C (rCall C (G 2) (by rfl) (h.fn 2 (by decide)) (aVal (rVar ⟨rfl, (.inl rfl), rfl⟩) aNil rfl) (by rfl) (by rfl) (by rfl)) (fun _ => rfl))) (zCons (zRaise C (h.exc 0 (by decide)) (by rfl) (by rfl))
  zNil) zNil)
  zNil)
theorem b_is_picture (cd : Value) (A : Around) (outer : List Env) (s : Shared) (H : Hp) (E : XK) (hcd : PySem.W.codeIn (gx K).K cd "is_picture" = true) (hex : ∃ fd2 o, fd2.code = cd ∧ (gx K).K.lookup (FA K 8) = some o ∧ o.data = .func fd2)
    (hr : Room d (A.deeper (envOfC "is_picture" (defScope (top 28)) s.heap.objs.size (FA K 8) cd))) : JSs (defPl (gx K) (clA K) P W mg base N_is_picture "is_picture" (defScope (top 28)) (FA K 8) cd A outer s H E) c false (defBody (top 28)) ir_is_picture := by
  have C := cok_def (g := gx K) (clA := clA K) (P := P) (W := W) (mg := mg) (base := base) (N := N_is_picture) (E := E) (outer := outer) (H := H) hr (by decide)
  exact (zCons (zRet (rCall C (G 2) (by rfl) (h.fn 2 (by decide)) (aVal (rVar ⟨rfl, (.inl rfl), rfl⟩) aNil rfl) (by rfl) (by rfl) (by rfl)))
  zNil)
theorem b_is_sum (cd : Value) (A : Around) (outer : List Env) (s : Shared) (H : Hp) (E : XK) (hcd : PySem.W.codeIn (gx K).K cd "is_sum" = true) (hex : ∃ fd2 o, fd2.code = cd ∧ (gx K).K.lookup (FA K 9) = some o ∧ o.data = .func fd2)
    (hr : Room d (A.deeper (envOfC "is_sum" (defScope (top 29)) s.heap.objs.size (FA K 9) cd))) : JSs (defPl (gx K) (clA K) P W mg base N_is_sum "is_sum" (defScope (top 29)) (FA K 9) cd A outer s H E) c false (defBody (top 29)) ir_is_sum := by
  have C := cok_def (g := gx K) (clA := clA K) (P := P) (W := W) (mg := mg) (base := base) (N := N_is_sum) (E := E) (outer := outer) (H := H) hr (by decide)
  exact (zCons (zExpr (rCall C (G 7) (by rfl) (h.fn 7 (by decide)) (aVal (rVar ⟨rfl, (.inl rfl), rfl⟩) aNil rfl) (by rfl) (by rfl) (by rfl)) rfl)
  (zCons (zRet (rCall C (G 3) (by rfl) (h.fn 3 (by decide)) (aVal (rVar ⟨rfl, (.inl rfl), rfl⟩) (aVal (rVar ⟨rfl, (.inl rfl), rfl⟩) aNil rfl) rfl) (by rfl) (by rfl) (by rfl)))
  zNil))
theorem b_is_claim (cd : Value) (A : Around) (outer : List Env) (s : Shared) (H : Hp) (E : XK) (hcd : PySem.W.codeIn (gx K).K cd "is_claim" = true) (hex : ∃ fd2 o, fd2.code = cd ∧ (gx K).K.lookup (FA K 10) = some o ∧ o.data = .func fd2)
    (hr : Room d (A.deeper (envOfC "is_claim" (defScope (top 30)) s.heap.objs.size (FA K 10) cd))) : JSs (defPl (gx K) (clA K) P W mg base N_is_claim "is_claim" (defScope (top 30)) (FA K 10) cd A outer s H E) c false (defBody (top 30)) ir_is_claim := by
  have C := cok_def (g := gx K) (clA := clA K) (P := P) (W := W) (mg := mg) (base := base) (N := N_is_claim) (E := E) (outer := outer) (H := H) hr (by decide)
  exact (zCons (zExpr (rCall C (G 7) (by rfl) (h.fn 7 (by decide)) (aVal (rVar ⟨rfl, (.inl rfl), rfl⟩) aNil rfl) (by rfl) (by rfl) (by rfl)) rfl)
  (zCons (zRet (rCall C (G 4) (by rfl) (h.fn 4 (by decide)) (aVal (rVar ⟨rfl, (.inl rfl), rfl⟩) (aVal (rVar ⟨rfl, (.inl rfl), rfl⟩) aNil rfl) rfl) (by rfl) (by rfl) (by rfl)))
  zNil))
theorem b_are_facts (cd : Value) (A : Around) (outer : List Env) (s : Shared) (H : Hp) (E : XK) (hcd : PySem.W.codeIn (gx K).K cd "are_facts" = true) (hex : ∃ fd2 o, fd2.code = cd ∧ (gx K).K.lookup (FA K 11) = some o ∧ o.data = .func fd2)
    (hr : Room d (A.deeper (envOfC "are_facts" (defScope (top 31)) s.heap.objs.size (FA K 11) cd))) : JSs (defPl (gx K) (clA K) P W mg base N_are_facts "are_facts" (defScope (top 31)) (FA K 11) cd A outer s H E) c false (defBody (top 31)) ir_are_facts := by
  have C := cok_def (g := gx K) (clA := clA K) (P := P) (W := W) (mg := mg) (base := base) (N := N_are_facts) (E := E) (outer := outer) (H := H) hr (by decide)
  exact (zCons (zExpr (rCall C (G 7) (by rfl) (h.fn 7 (by decide)) (aVal (rVar ⟨rfl, (.inl rfl), rfl⟩) aNil rfl) (by rfl) (by rfl) (by rfl)) rfl)
  (zCons (zRet (rCall C (G 5) (by rfl) (h.fn 5 (by decide)) (aVal (rVar ⟨rfl, (.inl rfl), rfl⟩) (aVal (rVar ⟨rfl, (.inl rfl), rfl⟩) aNil rfl) rfl) (by rfl) (by rfl) (by rfl)))
  zNil))
theorem b__law_spring (cd : Value) (A : Around) (outer : List Env) (s : Shared) (H : Hp) (E : XK) (hcd : PySem.W.codeIn (gx K).K cd "_law_spring" = true) (hex : ∃ fd2 o, fd2.code = cd ∧ (gx K).K.lookup (FA K 12) = some o ∧ o.data = .func fd2)
    (hr : Room d (A.deeper (envOfC "_law_spring" (defScope (top 33)) s.heap.objs.size (FA K 12) cd))) : JSs (defPl (gx K) (clA K) P W mg base N__law_spring "_law_spring" (defScope (top 33)) (FA K 12) cd A outer s H E) c true (defBody (top 33)) ir__law_spring := by
  have C := cok_def (g := gx K) (clA := clA K) (P := P) (W := W) (mg := mg) (base := base) (N := N__law_spring) (E := E) (outer := outer) (H := H) hr (by decide)
  exact (zCons (zSet C rfl (.inl rfl) (rIte (tCm C .lt (bOf (rVar ⟨rfl, (.inl rfl), rfl⟩) (fun _ _ _ => rfl)) (bOf (rBi C .len (by rfl) (h.free 6 (by decide)) (by rfl) (lbCons (bOf (rVar ⟨rfl, (.inl rfl), rfl⟩) (fun _ _ _ => rfl)) lbNil rfl) rfl rfl) (fun _ _ _ => rfl)) rfl) (rBi C .abs (by rfl) (h.free 0 (by decide)) (by rfl) (lbCons (bOf (rBi C .int (by rfl) (h.free 3 (by decide)) (by rfl) (lbCons (bOf (rIx C (bOf (rVar ⟨rfl, (.inl rfl), rfl⟩) (fun _ _ _ => rfl)) (rVar ⟨rfl, (.inl rfl), rfl⟩) (fun _ _ => rfl)) (fun _ _ _ => rfl)) lbNil rfl) rfl rfl) (fun _ _ _ => rfl)) lbNil rfl) rfl rfl) (rOp C .add (bOf (rOp C .mul (bOf rInt (fun _ _ _ => rfl)) (bOf (rVar ⟨rfl, (.inl rfl), rfl⟩) (fun _ _ _ => rfl))) (fun _ _ _ => rfl)) (bOf rInt (fun _ _ _ => rfl)))) rfl (.inl rfl))
  (zCons (zRetF (fLst (lCons (rIte (tCm C .gt (bOf (rVar ⟨rfl, (.inl rfl), rfl⟩) (fun _ _ _ => rfl)) (bOf (rOp C .pow (bOf rInt (fun _ _ _ => rfl)) (bOf rInt (fun _ _ _ => rfl))) (fun _ _ _ => rfl)) rfl) (rVar ⟨rfl, (.inl rfl), rfl⟩) rInt) (lCons (rOp C .add (bOf (rOp C .mod (bOf (rBi C .int (by rfl) (h.free 3 (by decide)) (by rfl) (lbCons (bOf (rOp C .add (bOf (rOp C .add (bOf (rOp C .mul (bOf (rVar ⟨rfl, (.inl rfl), rfl⟩) (fun _ _ _ => rfl)) (bOf rInt (fun _ _ _ => rfl))) (fun _ _ _ => rfl)) (bOf (rOp C .mul (bOf rInt (fun _ _ _ => rfl)) (bOf (rVar ⟨rfl, (.inl rfl), rfl⟩) (fun _ _ _ => rfl))) (fun _ _ _ => rfl))) (fun _ _ _ => rfl)) (bOf rInt (fun _ _ _ => rfl))) (fun _ _ _ => rfl)) lbNil rfl) rfl rfl) (fun _ _ _ => rfl)) (bOf rInt (fun _ _ _ => rfl))) (fun _ _ _ => rfl)) (bOf rInt (fun _ _ _ => rfl))) lNil rfl) rfl)))
  zNil))
theorem b__law_pick (cd : Value) (A : Around) (outer : List Env) (s : Shared) (H : Hp) (E : XK) (hcd : PySem.W.codeIn (gx K).K cd "_law_pick" = true) (hex : ∃ fd2 o, fd2.code = cd ∧ (gx K).K.lookup (FA K 13) = some o ∧ o.data = .func fd2)
    (hr : Room d (A.deeper (envOfC "_law_pick" (defScope (top 34)) s.heap.objs.size (FA K 13) cd))) : JSs (defPl (gx K) (clA K) P W mg base N__law_pick "_law_pick" (defScope (top 34)) (FA K 13) cd A outer s H E) c false (defBody (top 34)) ir__law_pick := by
  have C := cok_def (g := gx K) (clA := clA K) (P := P) (W := W) (mg := mg) (base := base) (N := N__law_pick) (E := E) (outer := outer) (H := H) hr (by decide)
  exact (zCons (zIf (tCm C .gt (bOf (rIx C (bOf (rVar ⟨rfl, (.inl rfl), rfl⟩) (fun _ _ _ => rfl)) rInt (fun _ _ => rfl)) (fun _ _ _ => rfl)) (bOf rInt (fun _ _ _ => rfl)) rfl) (zCons (zSet C rfl (.inl rfl) (rOp C .mod (bOf (rBi C .int (by rfl) (h.free 3 (by decide)) (by rfl) (lbCons (bOf (rIx C (bOf (rVar ⟨rfl, (.inl rfl), rfl⟩) (fun _ _ _ => rfl)) rInt (fun _ _ => rfl)) (fun _ _ _ => rfl)) lbNil rfl) rfl rfl) (fun _ _ _ => rfl)) (bOf (rVar ⟨rfl, (.inl rfl), rfl⟩) (fun _ _ _ => rfl))) rfl (.inl rfl))
  (zCons (zCseti (rVar ⟨rfl, (.inl rfl), rfl⟩) rInt (rOp C .fdiv (bOf (rIx C (bOf (rVar ⟨rfl, (.inl rfl), rfl⟩) (fun _ _ _ => rfl)) rInt (fun _ _ => rfl)) (fun _ _ _ => rfl)) (bOf (rVar ⟨rfl, (.inl rfl), rfl⟩) (fun _ _ _ => rfl))) (fun _ => rfl) rfl rfl rfl)
  (zCons (zRet (rVar ⟨rfl, (.inl rfl), rfl⟩))
  zNil))) zNil)
  (zCons (zCseti (rVar ⟨rfl, (.inl rfl), rfl⟩) rInt (rOp C .mod (bOf (rBi C .int (by rfl) (h.free 3 (by decide)) (by rfl) (lbCons (bOf (rOp C .add (bOf (rOp C .mul (bOf (rIx C (bOf (rVar ⟨rfl, (.inl rfl), rfl⟩) (fun _ _ _ => rfl)) rInt (fun _ _ => rfl)) (fun _ _ _ => rfl)) (bOf rInt (fun _ _ _ => rfl))) (fun _ _ _ => rfl)) (bOf rInt (fun _ _ _ => rfl))) (fun _ _ _ => rfl)) lbNil rfl) rfl rfl) (fun _ _ _ => rfl)) (bOf rInt (fun _ _ _ => rfl))) (fun _ => rfl) rfl rfl rfl)
  (zCons (zSet C rfl (.inl rfl) (rOp C .mod (bOf (rBi C .int (by rfl) (h.free 3 (by decide)) (by rfl) (lbCons (bOf (rOp C .mul (bOf (rIx C (bOf (rVar ⟨rfl, (.inl rfl), rfl⟩) (fun _ _ _ => rfl)) rInt (fun _ _ => rfl)) (fun _ _ _ => rfl)) (bOf (rOp C .add (bOf (rOp C .fdiv (bOf (rIx C (bOf (rVar ⟨rfl, (.inl rfl), rfl⟩) (fun _ _ _ => rfl)) rInt (fun _ _ => rfl)) (fun _ _ _ => rfl)) (bOf rInt (fun _ _ _ => rfl))) (fun _ _ _ => rfl)) (bOf rInt (fun _ _ _ => rfl))) (fun _ _ _ => rfl))) (fun _ _ _ => rfl)) lbNil rfl) rfl rfl) (fun _ _ _ => rfl)) (bOf rInt (fun _ _ _ => rfl))) rfl (.inl rfl))
  (zCons (zRet (rOp C .mod (bOf (rBi C .int (by rfl) (h.free 3 (by decide)) (by rfl) (lbCons (bOf (rOp C .fdiv (bOf (rVar ⟨rfl, (.inl rfl), rfl⟩) (fun _ _ _ => rfl)) (bOf rInt (fun _ _ _ => rfl))) (fun _ _ _ => rfl)) lbNil rfl) rfl rfl) (fun _ _ _ => rfl)) (bOf (rVar ⟨rfl, (.inl rfl), rfl⟩) (fun _ _ _ => rfl))))
  zNil))))
theorem b__law_chosen (cd : Value) (A : Around) (outer : List Env) (s : Shared) (H : Hp) (E : XK) (hcd : PySem.W.codeIn (gx K).K cd "_law_chosen" = true) (hex : ∃ fd2 o, fd2.code = cd ∧ (gx K).K.lookup (FA K 14) = some o ∧ o.data = .func fd2)
    (hr : Room d (A.deeper (envOfC "_law_chosen" (defScope (top 35)) s.heap.objs.size (FA K 14) cd))) : JSs (defPl (gx K) (clA K) P W mg base N__law_chosen "_law_chosen" (defScope (top 35)) (FA K 14) cd A outer s H E) c false (defBody (top 35)) ir__law_chosen := by
  have C := cok_def (g := gx K) (clA := clA K) (P := P) (W := W) (mg := mg) (base := base) (N := N__law_chosen) (E := E) (outer := outer) (H := H) hr (by decide)
  exact (zCons (zRet (rIx C (bOf (rVar ⟨rfl, (.inl rfl), rfl⟩) (fun _ _ _ => rfl)) (rCall C (G 13) (by rfl) (h.fn 13 (by decide)) (aVal (rVar ⟨rfl, (.inl rfl), rfl⟩) (aVal (rBi C .len (by rfl) (h.free 6 (by decide)) (by rfl) (lbCons (bOf (rVar ⟨rfl, (.inl rfl), rfl⟩) (fun _ _ _ => rfl)) lbNil rfl) rfl rfl) aNil rfl) rfl) (by rfl) (by rfl) (by rfl)) (fun _ _ => rfl)))
  zNil)
theorem b__law_shot (cd : Value) (A : Around) (outer : List Env) (s : Shared) (H : Hp) (E : XK) (hcd : PySem.W.codeIn (gx K).K cd "_law_shot" = true) (hex : ∃ fd2 o, fd2.code = cd ∧ (gx K).K.lookup (FA K 15) = some o ∧ o.data = .func fd2)
    (hr : Room d (A.deeper (envOfC "_law_shot" (defScope (top 36)) s.heap.objs.size (FA K 15) cd))) : JSs (defPl (gx K) (clA K) P W mg base N__law_shot "_law_shot" (defScope (top 36)) (FA K 15) cd A outer s H E) c false (defBody (top 36)) ir__law_shot := by
  have C := cok_def (g := gx K) (clA := clA K) (P := P) (W := W) (mg := mg) (base := base) (N := N__law_shot) (E := E) (outer := outer) (H := H) hr (by decide)
  exact (zCons (zSet C rfl (.inl rfl) (rTup (lCons rInt lNil rfl)) rfl (.inl rfl))
  (zCons (zFor C owns_def (ikR1 (by rfl) (h.free 9 (by decide)) (lCons (rOp C .add (bOf rInt (fun _ _ _ => rfl)) (bOf (rCall C (G 13) (by rfl) (h.fn 13 (by decide)) (aVal (rVar ⟨rfl, (.inl rfl), rfl⟩) (aVal (rOp C .sub (bOf (rVar ⟨rfl, (.inl rfl), rfl⟩) (fun _ _ _ => rfl)) (bOf rInt (fun _ _ _ => rfl))) aNil rfl) rfl) (by rfl) (by rfl) (by rfl)) (fun _ _ _ => rfl))) lNil rfl) rfl) (gNm C.nd rfl (.inl rfl) (.inl rfl)) (zCons (zSet C rfl (.inl rfl) (rOp C .add (bOf (rVar ⟨rfl, (.inl rfl), rfl⟩) (fun _ _ _ => rfl)) (bOf (rTup (lCons (rOp C .add (bOf (rOp C .add (bOf (rIx C (bOf (rVar ⟨rfl, (.inl rfl), rfl⟩) (fun _ _ _ => rfl)) (rNeg rInt) (fun _ _ => rfl)) (fun _ _ _ => rfl)) (bOf rInt (fun _ _ _ => rfl))) (fun _ _ _ => rfl)) (bOf (rCall C (G 13) (by rfl) (h.fn 13 (by decide)) (aVal (rVar ⟨rfl, (.inl rfl), rfl⟩) (aVal (rCall C (G 14) (by rfl) (h.fn 14 (by decide)) (aVal (rVar ⟨rfl, (.inl rfl), rfl⟩) (aVal (rLst (lCons rInt (lCons rInt (lCons rInt lNil rfl) rfl) rfl)) aNil rfl) rfl) (by rfl) (by rfl) (by rfl)) aNil rfl) rfl) (by rfl) (by rfl) (by rfl)) (fun _ _ _ => rfl))) lNil rfl)) (fun _ _ _ => rfl))) rfl (.inl rfl))
  zNil) (fun _ => rfl))
  (zCons (zRet (rVar ⟨rfl, (.inl rfl), rfl⟩))
  zNil)))
theorem b__law_lengths (cd : Value) (A : Around) (outer : List Env) (s : Shared) (H : Hp) (E : XK) (hcd : PySem.W.codeIn (gx K).K cd "_law_lengths" = true) (hex : ∃ fd2 o, fd2.code = cd ∧ (gx K).K.lookup (FA K 16) = some o ∧ o.data = .func fd2)
    (hr : Room d (A.deeper (envOfC "_law_lengths" (defScope (top 37)) s.heap.objs.size (FA K 16) cd))) : JSs (defPl (gx K) (clA K) P W mg base N__law_lengths "_law_lengths" (defScope (top 37)) (FA K 16) cd A outer s H E) c false (defBody (top 37)) ir__law_lengths := by
  have C := cok_def (g := gx K) (clA := clA K) (P := P) (W := W) (mg := mg) (base := base) (N := N__law_lengths) (E := E) (outer := outer) (H := H) hr (by decide)
  exact (zCons (zSet C rfl (.inl rfl) (rTup lNil) rfl (.inl rfl))
  (zCons (zFor C owns_def (ikR1 (by rfl) (h.free 9 (by decide)) (lCons (rOp C .add (bOf rInt (fun _ _ _ => rfl)) (bOf (rCall C (G 13) (by rfl) (h.fn 13 (by decide)) (aVal (rVar ⟨rfl, (.inl rfl), rfl⟩) (aVal (rVar ⟨rfl, (.inl rfl), rfl⟩) aNil rfl) rfl) (by rfl) (by rfl) (by rfl)) (fun _ _ _ => rfl))) lNil rfl) rfl) (gNm C.nd rfl (.inl rfl) (.inl rfl)) (zCons (zSet C rfl (.inl rfl) (rCall C (G 13) (by rfl) (h.fn 13 (by decide)) (aVal (rVar ⟨rfl, (.inl rfl), rfl⟩) (aVal (rOp C .sub (bOf (rBi C .len (by rfl) (h.free 6 (by decide)) (by rfl) (lbCons (bOf (rVar ⟨rfl, (.inl rfl), rfl⟩) (fun _ _ _ => rfl)) lbNil rfl) rfl rfl) (fun _ _ _ => rfl)) (bOf rInt (fun _ _ _ => rfl))) aNil rfl) rfl) (by rfl) (by rfl) (by rfl)) rfl (.inl rfl))
  (zCons (zSet C rfl (.inl rfl) (rOp C .add (bOf (rOp C .add (bOf (rVar ⟨rfl, (.inl rfl), rfl⟩) (fun _ _ _ => rfl)) (bOf rInt (fun _ _ _ => rfl))) (fun _ _ _ => rfl)) (bOf (rCall C (G 13) (by rfl) (h.fn 13 (by decide)) (aVal (rVar ⟨rfl, (.inl rfl), rfl⟩) (aVal (rOp C .sub (bOf (rOp C .sub (bOf (rBi C .len (by rfl) (h.free 6 (by decide)) (by rfl) (lbCons (bOf (rVar ⟨rfl, (.inl rfl), rfl⟩) (fun _ _ _ => rfl)) lbNil rfl) rfl rfl) (fun _ _ _ => rfl)) (bOf rInt (fun _ _ _ => rfl))) (fun _ _ _ => rfl)) (bOf (rVar ⟨rfl, (.inl rfl), rfl⟩) (fun _ _ _ => rfl))) aNil rfl) rfl) (by rfl) (by rfl) (by rfl)) (fun _ _ _ => rfl))) rfl (.inl rfl))
  (zCons (zSet C rfl (.inl rfl) (rOp C .add (bOf (rVar ⟨rfl, (.inl rfl), rfl⟩) (fun _ _ _ => rfl)) (bOf (rTup (lCons (rTup (lCons (rOp C .add (bOf rInt (fun _ _ _ => rfl)) (bOf (rCall C (G 13) (by rfl) (h.fn 13 (by decide)) (aVal (rVar ⟨rfl, (.inl rfl), rfl⟩) (aVal (rCall C (G 14) (by rfl) (h.fn 14 (by decide)) (aVal (rVar ⟨rfl, (.inl rfl), rfl⟩) (aVal (rLst (lCons rInt (lCons rInt (lCons rInt lNil rfl) rfl) rfl)) aNil rfl) rfl) (by rfl) (by rfl) (by rfl)) aNil rfl) rfl) (by rfl) (by rfl) (by rfl)) (fun _ _ _ => rfl))) (lCons (rVar ⟨rfl, (.inl rfl), rfl⟩) (lCons (rVar ⟨rfl, (.inl rfl), rfl⟩) lNil rfl) rfl) rfl)) lNil rfl)) (fun _ _ _ => rfl))) rfl (.inl rfl))
  zNil))) (fun _ => rfl))
  (zCons (zRet (rVar ⟨rfl, (.inl rfl), rfl⟩))
  zNil)))
theorem b__law_saying (cd : Value) (A : Around) (outer : List Env) (s : Shared) (H : Hp) (E : XK) (hcd : PySem.W.codeIn (gx K).K cd "_law_saying" = true) (hex : ∃ fd2 o, fd2.code = cd ∧ (gx K).K.lookup (FA K 17) = some o ∧ o.data = .func fd2)
    (hr : Room d (A.deeper (envOfC "_law_saying" (defScope (top 38)) s.heap.objs.size (FA K 17) cd))) : JSs (defPl (gx K) (clA K) P W mg base N__law_saying "_law_saying" (defScope (top 38)) (FA K 17) cd A outer s H E) c false (defBody (top 38)) ir__law_saying := by
  have C := cok_def (g := gx K) (clA := clA K) (P := P) (W := W) (mg := mg) (base := base) (N := N__law_saying) (E := E) (outer := outer) (H := H) hr (by decide)
  exact (zCons (zSet C rfl (.inl rfl) (rCall C (G 14) (by rfl) (h.fn 14 (by decide)) (aVal (rVar ⟨rfl, (.inl rfl), rfl⟩) (aVal (rLst (lCons rStr (lCons rStr (lCons rStr (lCons rStr lNil rfl) rfl) rfl) rfl)) aNil rfl) rfl) (by rfl) (by rfl) (by rfl)) rfl (.inl rfl))
  (zCons (zRet (rTup (lCons (rVar ⟨rfl, (.inl rfl), rfl⟩) (lCons (rCall C (G 16) (by rfl) (h.fn 16 (by decide)) (aVal (rVar ⟨rfl, (.inl rfl), rfl⟩) (aVal (rVar ⟨rfl, (.inl rfl), rfl⟩) (aVal rInt aNil rfl) rfl) rfl) (by rfl) (by rfl) (by rfl)) (lCons (rCall C (G 16) (by rfl) (h.fn 16 (by decide)) (aVal (rVar ⟨rfl, (.inl rfl), rfl⟩) (aVal (rVar ⟨rfl, (.inl rfl), rfl⟩) (aVal rInt aNil rfl) rfl) rfl) (by rfl) (by rfl) (by rfl)) lNil rfl) rfl) rfl)))
  zNil))
theorem b__law_sayings (cd : Value) (A : Around) (outer : List Env) (s : Shared) (H : Hp) (E : XK) (hcd : PySem.W.codeIn (gx K).K cd "_law_sayings" = true) (hex : ∃ fd2 o, fd2.code = cd ∧ (gx K).K.lookup (FA K 18) = some o ∧ o.data = .func fd2)
    (hr : Room d (A.deeper (envOfC "_law_sayings" (defScope (top 39)) s.heap.objs.size (FA K 18) cd))) : JSs (defPl (gx K) (clA K) P W mg base N__law_sayings "_law_sayings" (defScope (top 39)) (FA K 18) cd A outer s H E) c false (defBody (top 39)) ir__law_sayings := by
  have C := cok_def (g := gx K) (clA := clA K) (P := P) (W := W) (mg := mg) (base := base) (N := N__law_sayings) (E := E) (outer := outer) (H := H) hr (by decide)
  exact (zCons (zRet (rBi C .tuple (by rfl) (h.free 7 (by decide)) (by rfl) (lbCons (bOf (rF' (fComp C (iR1 (by rfl) (h.free 9 (by decide)) (lCons (rCall C (G 13) (by rfl) (h.fn 13 (by decide)) (aVal (rVar ⟨rfl, (.inr (.inl rfl)), rfl⟩) (aVal (rOp C .add (bOf (rVar ⟨rfl, (.inl rfl), rfl⟩) (fun _ _ _ => rfl)) (bOf rInt (fun _ _ _ => rfl))) aNil rfl) rfl) (by rfl) (by rfl) (by rfl)) lNil rfl) rfl) (ow := [("_law_turn", 3)]) rfl (by kernel_rfl) (fun _ _ _ _ _ Cb => (gNm Cb.nd rfl (.inl rfl) (.inr rfl))) (fun _ _ _ _ _ Cb => oNoT) (fun _ _ _ _ _ Cb => (rCall Cb (G 17) (by rfl) (h.fn 17 (by decide)) (aVal (rVar ⟨rfl, (.inr (.inl rfl)), rfl⟩) (aVal (rVar ⟨rfl, (.inr (.inl rfl)), rfl⟩) aNil rfl) rfl) (by rfl) (by rfl) (by rfl))) (fun _ => rfl) (by decide))) (fun _ _ _ => rfl)) lbNil rfl) rfl rfl))
  zNil)
theorem b__law_all_say (cd : Value) (A : Around) (outer : List Env) (s : Shared) (H : Hp) (E : XK) (hcd : PySem.W.codeIn (gx K).K cd "_law_all_say" = true) (hex : ∃ fd2 o, fd2.code = cd ∧ (gx K).K.lookup (FA K 21) = some o ∧ o.data = .func fd2)
    (hr : Room d (A.deeper (envOfC "_law_all_say" (defScope (top 42)) s.heap.objs.size (FA K 21) cd))) : JSs (defPl (gx K) (clA K) P W mg base N__law_all_say "_law_all_say" (defScope (top 42)) (FA K 21) cd A outer s H E) c false (defBody (top 42)) ir__law_all_say := by
  have C := cok_def (g := gx K) (clA := clA K) (P := P) (W := W) (mg := mg) (base := base) (N := N__law_all_say) (E := E) (outer := outer) (H := H) hr (by decide)
  exact (zCons (zRet (rCm C .eq (bOf (rF' (fFilt C (src := 0) ⟨rfl, (.inl rfl), rfl⟩ (ow := [("_law_call", 2)]) rfl (by kernel_rfl) (fun _ _ _ _ _ Cb => pg_name Cb.nd rfl (.inl rfl) (.inr rfl)) (fun _ _ _ _ _ Cb => (tCm Cb .ne (bOf (rCall Cb (G 20) (by rfl) (h.fn 20 (by decide)) (aExt ⟨rfl, (.inl rfl), rfl⟩ aNil rfl) (by rfl) (by rfl) (by rfl)) (fun _ _ _ => rfl)) (bOf (rTup (lCons rNon (lCons (rOp Cb .add (bOf (rVar ⟨rfl, (.inr (.inl rfl)), rfl⟩) (fun _ _ _ => rfl)) (bOf rStr (fun _ _ _ => rfl))) lNil rfl) rfl)) (fun _ _ _ => rfl)) rfl)) (fun _ => rfl))) (fun _ _ _ => rfl)) (bOf (rLst lNil) (fun _ _ _ => rfl)) rfl))
  zNil)
theorem b__law_whole (cd : Value) (A : Around) (outer : List Env) (s : Shared) (H : Hp) (E : XK) (hcd : PySem.W.codeIn (gx K).K cd "_law_whole" = true) (hex : ∃ fd2 o, fd2.code = cd ∧ (gx K).K.lookup (FA K 22) = some o ∧ o.data = .func fd2)
    (hr : Room d (A.deeper (envOfC "_law_whole" (defScope (top 43)) s.heap.objs.size (FA K 22) cd))) : JSs (defPl (gx K) (clA K) P W mg base N__law_whole "_law_whole" (defScope (top 43)) (FA K 22) cd A outer s H E) c false (defBody (top 43)) ir__law_whole := by
  have C := cok_def (g := gx K) (clA := clA K) (P := P) (W := W) (mg := mg) (base := base) (N := N__law_whole) (E := E) (outer := outer) (H := H) hr (by decide)
  exact (zCons (zRet (rAnd (rIsi C .int (by rfl) (h.free 1 (by decide)) (by rfl) (h.free 3 (by decide)) (bOf (rVar ⟨rfl, (.inl rfl), rfl⟩) (fun _ _ _ => rfl)) rfl) (rAnd (rNot (rIsi C .bool (by rfl) (h.free 1 (by decide)) (by rfl) (h.free 2 (by decide)) (bOf (rVar ⟨rfl, (.inl rfl), rfl⟩) (fun _ _ _ => rfl)) rfl)) (rOne (rChain C .le .le (rVar ⟨rfl, (.inl rfl), rfl⟩) (rVar ⟨rfl, (.inl rfl), rfl⟩) (rVar ⟨rfl, (.inl rfl), rfl⟩) rfl)))))
  zNil)
theorem b__law_is_picture (cd : Value) (A : Around) (outer : List Env) (s : Shared) (H : Hp) (E : XK) (hcd : PySem.W.codeIn (gx K).K cd "_law_is_picture" = true) (hex : ∃ fd2 o, fd2.code = cd ∧ (gx K).K.lookup (FA K 23) = some o ∧ o.data = .func fd2)
    (hr : Room d (A.deeper (envOfC "_law_is_picture" (defScope (top 44)) s.heap.objs.size (FA K 23) cd))) : JSs (defPl (gx K) (clA K) P W mg base N__law_is_picture "_law_is_picture" (defScope (top 44)) (FA K 23) cd A outer s H E) c false (defBody (top 44)) ir__law_is_picture := by
  have C := cok_def (g := gx K) (clA := clA K) (P := P) (W := W) (mg := mg) (base := base) (N := N__law_is_picture) (E := E) (outer := outer) (H := H) hr (by decide)
  exact (zCons (zIf (tW (wOr (tNot' (tVal C (rIsi C .tuple (by rfl) (h.free 1 (by decide)) (by rfl) (h.free 7 (by decide)) (bOf (rVar ⟨rfl, (.inl rfl), rfl⟩) (fun _ _ _ => rfl)) rfl) (fun _ => rfl))) (wOr1 (tNot' (tChain C .le .le rInt (rBi C .len (by rfl) (h.free 6 (by decide)) (by rfl) (lbCons (bOf (rVar ⟨rfl, (.inl rfl), rfl⟩) (fun _ _ _ => rfl)) lbNil rfl) rfl rfl) rInt rfl))))) (zCons (zRet rBl)
  zNil) zNil)
  (zCons (zIf (tW (wOr (tCm C .ne (bOf (rF' (fComp C (iSeq' C (bOf (rVar ⟨rfl, (.inl rfl), rfl⟩) (fun _ _ _ => rfl))) (ow := [("_law_mark", 1)]) rfl (by kernel_rfl) (fun _ _ _ _ _ Cb => (gNm Cb.nd rfl (.inl rfl) (.inr rfl))) (fun _ _ _ _ _ Cb => oYesT (tNot' (tVal Cb (rCall Cb (G 22) (by rfl) (h.fn 22 (by decide)) (aVal (rVar ⟨rfl, (.inl rfl), rfl⟩) (aVal rInt (aVal rInt aNil rfl) rfl) rfl) (by rfl) (by rfl) (by rfl)) (fun _ => rfl)))) (fun _ _ _ _ _ Cb => rInt) (fun _ => rfl) (by decide))) (fun _ _ _ => rfl)) (bOf (rLst lNil) (fun _ _ _ => rfl)) rfl) (wOr1 (tCm C .ne (bOf (rIx C (bOf (rVar ⟨rfl, (.inl rfl), rfl⟩) (fun _ _ _ => rfl)) rInt (fun _ _ => rfl)) (fun _ _ _ => rfl)) (bOf rInt (fun _ _ _ => rfl)) rfl)))) (zCons (zRet rBl)
  zNil) zNil)
  (zCons (zRet (rCm C .eq (bOf (rSset C (by rfl) (h.free 10 (by decide)) (by rfl) (h.free 11 (by decide)) (bOf (rVar ⟨rfl, (.inl rfl), rfl⟩) (fun _ _ _ => rfl)) rfl rfl rfl rfl) (fun _ _ _ => rfl)) (bOf (rBi C .list (by rfl) (h.free 12 (by decide)) (by rfl) (lbCons (bOf (rVar ⟨rfl, (.inl rfl), rfl⟩) (fun _ _ _ => rfl)) lbNil rfl) rfl rfl) (fun _ _ _ => rfl)) rfl))
  zNil)))
theorem b__law_is_lean (cd : Value) (A : Around) (outer : List Env) (s : Shared) (H : Hp) (E : XK) (hcd : PySem.W.codeIn (gx K).K cd "_law_is_lean" = true) (hex : ∃ fd2 o, fd2.code = cd ∧ (gx K).K.lookup (FA K 24) = some o ∧ o.data = .func fd2)
    (hr : Room d (A.deeper (envOfC "_law_is_lean" (defScope (top 45)) s.heap.objs.size (FA K 24) cd))) : JSs (defPl (gx K) (clA K) P W mg base N__law_is_lean "_law_is_lean" (defScope (top 45)) (FA K 24) cd A outer s H E) c false (defBody (top 45)) ir__law_is_lean := by
  have C := cok_def (g := gx K) (clA := clA K) (P := P) (W := W) (mg := mg) (base := base) (N := N__law_is_lean) (E := E) (outer := outer) (H := H) hr (by decide)
  exact (zCons (zIf (tW (wOr (tNot' (tVal C (rIsi C .tuple (by rfl) (h.free 1 (by decide)) (by rfl) (h.free 7 (by decide)) (bOf (rVar ⟨rfl, (.inl rfl), rfl⟩) (fun _ _ _ => rfl)) rfl) (fun _ => rfl))) (wOr (tCm C .ne (bOf (rBi C .len (by rfl) (h.free 6 (by decide)) (by rfl) (lbCons (bOf (rVar ⟨rfl, (.inl rfl), rfl⟩) (fun _ _ _ => rfl)) lbNil rfl) rfl rfl) (fun _ _ _ => rfl)) (bOf rInt (fun _ _ _ => rfl)) rfl) (wOr1 (tNot' (tVal C (rCall C (G 22) (by rfl) (h.fn 22 (by decide)) (aVal (rIx C (bOf (rVar ⟨rfl, (.inl rfl), rfl⟩) (fun _ _ _ => rfl)) rInt (fun _ _ => rfl)) (aVal rInt (aVal (rOp C .pow (bOf rInt (fun _ _ _ => rfl)) (bOf rInt (fun _ _ _ => rfl))) aNil rfl) rfl) rfl) (by rfl) (by rfl) (by rfl)) (fun _ => rfl))))))) (zCons (zRet rBl)
  zNil) zNil)
  (zCons (zIf (tNot' (tVal C (rCall C (G 22) (by rfl) (h.fn 22 (by decide)) (aVal (rIx C (bOf (rVar ⟨rfl, (.inl rfl), rfl⟩) (fun _ _ _ => rfl)) rInt (fun _ _ => rfl)) (aVal rInt (aVal (rOp C .pow (bOf rInt (fun _ _ _ => rfl)) (bOf rInt (fun _ _ _ => rfl))) aNil rfl) rfl) rfl) (by rfl) (by rfl) (by rfl)) (fun _ => rfl))) (zCons (zRet rBl)
  zNil) zNil)
  (zCons (zAsg (rVar ⟨rfl, (.inl rfl), rfl⟩) (gTp C (gsCons (gNm C.nd rfl (.inl rfl) (.inl rfl)) (gsCons (gNm C.nd rfl (.inl rfl) (.inl rfl)) gsNil rfl) rfl) rfl rfl) rfl rfl rfl)
  (zCons (zWhile owns_def (tCm C .ne (bOf (rVar ⟨rfl, (.inl rfl), rfl⟩) (fun _ _ _ => rfl)) (bOf rInt (fun _ _ _ => rfl)) rfl) (zCons (zPar2 (i := 1) (j := 2) C rfl rfl (by decide) rfl rfl (lCons (rVar ⟨rfl, (.inl rfl), rfl⟩) (lCons (rOp C .mod (bOf (rVar ⟨rfl, (.inl rfl), rfl⟩) (fun _ _ _ => rfl)) (bOf (rVar ⟨rfl, (.inl rfl), rfl⟩) (fun _ _ _ => rfl))) lNil rfl) rfl) rfl rfl)
  zNil))
  (zCons (zRet (rCm C .eq (bOf (rVar ⟨rfl, (.inl rfl), rfl⟩) (fun _ _ _ => rfl)) (bOf rInt (fun _ _ _ => rfl)) rfl))
  zNil)))))
theorem b__law_is_sum (cd : Value) (A : Around) (outer : List Env) (s : Shared) (H : Hp) (E : XK) (hcd : PySem.W.codeIn (gx K).K cd "_law_is_sum" = true) (hex : ∃ fd2 o, fd2.code = cd ∧ (gx K).K.lookup (FA K 25) = some o ∧ o.data = .func fd2)
    (hr : Room d (A.deeper (envOfC "_law_is_sum" (defScope (top 46)) s.heap.objs.size (FA K 25) cd))) : JSs (defPl (gx K) (clA K) P W mg base N__law_is_sum "_law_is_sum" (defScope (top 46)) (FA K 25) cd A outer s H E) c false (defBody (top 46)) ir__law_is_sum := by
  have C := cok_def (g := gx K) (clA := clA K) (P := P) (W := W) (mg := mg) (base := base) (N := N__law_is_sum) (E := E) (outer := outer) (H := H) hr (by decide)
  exact (zCons (zIf (tW (wOr (tNot' (tVal C (rIsi C .tuple (by rfl) (h.free 1 (by decide)) (by rfl) (h.free 7 (by decide)) (bOf (rVar ⟨rfl, (.inl rfl), rfl⟩) (fun _ _ _ => rfl)) rfl) (fun _ => rfl))) (wOr1 (tCm C .notin (bOf (rBi C .len (by rfl) (h.free 6 (by decide)) (by rfl) (lbCons (bOf (rVar ⟨rfl, (.inl rfl), rfl⟩) (fun _ _ _ => rfl)) lbNil rfl) rfl rfl) (fun _ _ _ => rfl)) (bOf (rLst (lCons rInt (lCons rInt (lCons rInt lNil rfl) rfl) rfl)) (fun _ _ _ => rfl)) rfl)))) (zCons (zRet rBl)
  zNil) zNil)
  (zCons (zFor C owns_def (ikSeq C (rVar ⟨rfl, (.inl rfl), rfl⟩) (fun _ _ _ => rfl)) (gNm C.nd rfl (.inl rfl) (.inl rfl)) (zCons (zIf (tW (wOr (tNot' (tVal C (rIsi C .tuple (by rfl) (h.free 1 (by decide)) (by rfl) (h.free 7 (by decide)) (bOf (rVar ⟨rfl, (.inl rfl), rfl⟩) (fun _ _ _ => rfl)) rfl) (fun _ => rfl))) (wOr1 (tCm C .ne (bOf (rBi C .len (by rfl) (h.free 6 (by decide)) (by rfl) (lbCons (bOf (rVar ⟨rfl, (.inl rfl), rfl⟩) (fun _ _ _ => rfl)) lbNil rfl) rfl rfl) (fun _ _ _ => rfl)) (bOf rInt (fun _ _ _ => rfl)) rfl)))) (zCons (zRet rBl)
  zNil) zNil)
  (zCons (zIf (tW (wOr (tCm C .ne (bOf (rF' (fComp C (iSeq' C (bOf (rVar ⟨rfl, (.inl rfl), rfl⟩) (fun _ _ _ => rfl))) (ow := [("_law_number", 3)]) rfl (by kernel_rfl) (fun _ _ _ _ _ Cb => (gNm Cb.nd rfl (.inl rfl) (.inr rfl))) (fun _ _ _ _ _ Cb => oYesT (tNot' (tVal Cb (rCall Cb (G 22) (by rfl) (h.fn 22 (by decide)) (aVal (rVar ⟨rfl, (.inl rfl), rfl⟩) (aVal rInt (aVal rInt aNil rfl) rfl) rfl) (by rfl) (by rfl) (by rfl)) (fun _ => rfl)))) (fun _ _ _ _ _ Cb => rInt) (fun _ => rfl) (by decide))) (fun _ _ _ => rfl)) (bOf (rLst lNil) (fun _ _ _ => rfl)) rfl) (wOr1 (tCm C .eq (bOf (rIx C (bOf (rVar ⟨rfl, (.inl rfl), rfl⟩) (fun _ _ _ => rfl)) rInt (fun _ _ => rfl)) (fun _ _ _ => rfl)) (bOf rInt (fun _ _ _ => rfl)) rfl)))) (zCons (zRet rBl)
  zNil) zNil)
  (zCons (zIf (tW (wOr (tCm C .ge (bOf (rIx C (bOf (rVar ⟨rfl, (.inl rfl), rfl⟩) (fun _ _ _ => rfl)) rInt (fun _ _ => rfl)) (fun _ _ _ => rfl)) (bOf (rIx C (bOf (rVar ⟨rfl, (.inl rfl), rfl⟩) (fun _ _ _ => rfl)) rInt (fun _ _ => rfl)) (fun _ _ _ => rfl)) rfl) (wOr1 (tCm C .ge (bOf (rIx C (bOf (rVar ⟨rfl, (.inl rfl), rfl⟩) (fun _ _ _ => rfl)) rInt (fun _ _ => rfl)) (fun _ _ _ => rfl)) (bOf (rBi C .len (by rfl) (h.free 6 (by decide)) (by rfl) (lbCons (bOf (rVar ⟨rfl, (.inl rfl), rfl⟩) (fun _ _ _ => rfl)) lbNil rfl) rfl rfl) (fun _ _ _ => rfl)) rfl)))) (zCons (zRet rBl)
  zNil) zNil)
  zNil))) (fun _ => rfl))
  (zCons (zRet rBl)
  zNil)))
theorem b__law_is_claim (cd : Value) (A : Around) (outer : List Env) (s : Shared) (H : Hp) (E : XK) (hcd : PySem.W.codeIn (gx K).K cd "_law_is_claim" = true) (hex : ∃ fd2 o, fd2.code = cd ∧ (gx K).K.lookup (FA K 26) = some o ∧ o.data = .func fd2)
    (hr : Room d (A.deeper (envOfC "_law_is_claim" (defScope (top 47)) s.heap.objs.size (FA K 26) cd))) : JSs (defPl (gx K) (clA K) P W mg base N__law_is_claim "_law_is_claim" (defScope (top 47)) (FA K 26) cd A outer s H E) c false (defBody (top 47)) ir__law_is_claim := by
  have C := cok_def (g := gx K) (clA := clA K) (P := P) (W := W) (mg := mg) (base := base) (N := N__law_is_claim) (E := E) (outer := outer) (H := H) hr (by decide)
  exact (zCons (zIf (tW (wOr (tNot' (tVal C (rIsi C .tuple (by rfl) (h.free 1 (by decide)) (by rfl) (h.free 7 (by decide)) (bOf (rVar ⟨rfl, (.inl rfl), rfl⟩) (fun _ _ _ => rfl)) rfl) (fun _ => rfl))) (wOr (tCm C .ne (bOf (rBi C .len (by rfl) (h.free 6 (by decide)) (by rfl) (lbCons (bOf (rVar ⟨rfl, (.inl rfl), rfl⟩) (fun _ _ _ => rfl)) lbNil rfl) rfl rfl) (fun _ _ _ => rfl)) (bOf rInt (fun _ _ _ => rfl)) rfl) (wOr1 (tNot' (tVal C (rIsi C .str (by rfl) (h.free 1 (by decide)) (by rfl) (h.free 8 (by decide)) (bOf (rIx C (bOf (rVar ⟨rfl, (.inl rfl), rfl⟩) (fun _ _ _ => rfl)) rInt (fun _ _ => rfl)) (fun _ _ _ => rfl)) rfl) (fun _ => rfl))))))) (zCons (zRet rBl)
  zNil) zNil)
  (zCons (zIf (tCm C .notin (bOf (rIx C (bOf (rVar ⟨rfl, (.inl rfl), rfl⟩) (fun _ _ _ => rfl)) rInt (fun _ _ => rfl)) (fun _ _ _ => rfl)) (bOf (rLst (lCons rStr (lCons rStr (lCons rStr lNil rfl) rfl) rfl)) (fun _ _ _ => rfl)) rfl) (zCons (zRet rBl)
  zNil) zNil)
  (zCons (zRet (rAnd (rCall C (G 25) (by rfl) (h.fn 25 (by decide)) (aVal (rVar ⟨rfl, (.inl rfl), rfl⟩) (aVal (rIx C (bOf (rVar ⟨rfl, (.inl rfl), rfl⟩) (fun _ _ _ => rfl)) rInt (fun _ _ => rfl)) aNil rfl) rfl) (by rfl) (by rfl) (by rfl)) (rOne (rCall C (G 25) (by rfl) (h.fn 25 (by decide)) (aVal (rVar ⟨rfl, (.inl rfl), rfl⟩) (aVal (rIx C (bOf (rVar ⟨rfl, (.inl rfl), rfl⟩) (fun _ _ _ => rfl)) rInt (fun _ _ => rfl)) aNil rfl) rfl) (by rfl) (by rfl) (by rfl)))))
  zNil)))
theorem b__law_are_facts (cd : Value) (A : Around) (outer : List Env) (s : Shared) (H : Hp) (E : XK) (hcd : PySem.W.codeIn (gx K).K cd "_law_are_facts" = true) (hex : ∃ fd2 o, fd2.code = cd ∧ (gx K).K.lookup (FA K 27) = some o ∧ o.data = .func fd2)
    (hr : Room d (A.deeper (envOfC "_law_are_facts" (defScope (top 48)) s.heap.objs.size (FA K 27) cd))) : JSs (defPl (gx K) (clA K) P W mg base N__law_are_facts "_law_are_facts" (defScope (top 48)) (FA K 27) cd A outer s H E) c false (defBody (top 48)) ir__law_are_facts := by
  have C := cok_def (g := gx K) (clA := clA K) (P := P) (W := W) (mg := mg) (base := base) (N := N__law_are_facts) (E := E) (outer := outer) (H := H) hr (by decide)
  exact (zCons (zIf (tW (wOr (tNot' (tVal C (rIsi C .tuple (by rfl) (h.free 1 (by decide)) (by rfl) (h.free 7 (by decide)) (bOf (rVar ⟨rfl, (.inl rfl), rfl⟩) (fun _ _ _ => rfl)) rfl) (fun _ => rfl))) (wOr1 (tCm C .gt (bOf (rBi C .len (by rfl) (h.free 6 (by decide)) (by rfl) (lbCons (bOf (rVar ⟨rfl, (.inl rfl), rfl⟩) (fun _ _ _ => rfl)) lbNil rfl) rfl rfl) (fun _ _ _ => rfl)) (bOf rInt (fun _ _ _ => rfl)) rfl)))) (zCons (zRet rBl)
  zNil) zNil)
  (zCons (zRet (rCm C .eq (bOf (rF' (fComp C (iSeq' C (bOf (rVar ⟨rfl, (.inl rfl), rfl⟩) (fun _ _ _ => rfl))) (ow := [("_law_claim", 2)]) rfl (by kernel_rfl) (fun _ _ _ _ _ Cb => (gNm Cb.nd rfl (.inl rfl) (.inr rfl))) (fun _ _ _ _ _ Cb => oYesT (tNot' (tVal Cb (rCall Cb (G 26) (by rfl) (h.fn 26 (by decide)) (aVal (rVar ⟨rfl, (.inr (.inl rfl)), rfl⟩) (aVal (rVar ⟨rfl, (.inl rfl), rfl⟩) aNil rfl) rfl) (by rfl) (by rfl) (by rfl)) (fun _ => rfl)))) (fun _ _ _ _ _ Cb => (rVar ⟨rfl, (.inl rfl), rfl⟩)) (fun _ => rfl) (by decide))) (fun _ _ _ => rfl)) (bOf (rLst lNil) (fun _ _ _ => rfl)) rfl))
  zNil))
theorem b__law_bent (cd : Value) (A : Around) (outer : List Env) (s : Shared) (H : Hp) (E : XK) (hcd : PySem.W.codeIn (gx K).K cd "_law_bent" = true) (hex : ∃ fd2 o, fd2.code = cd ∧ (gx K).K.lookup (FA K 28) = some o ∧ o.data = .func fd2)
    (hr : Room d (A.deeper (envOfC "_law_bent" (defScope (top 49)) s.heap.objs.size (FA K 28) cd))) : JSs (defPl (gx K) (clA K) P W mg base N__law_bent "_law_bent" (defScope (top 49)) (FA K 28) cd A outer s H E) c false (defBody (top 49)) ir__law_bent := by
  have C := cok_def (g := gx K) (clA := clA K) (P := P) (W := W) (mg := mg) (base := base) (N := N__law_bent) (E := E) (outer := outer) (H := H) hr (by decide)
  exact (zCons (zIf (tW (wAnd (tVal C (rIsi C .tuple (by rfl) (h.free 1 (by decide)) (by rfl) (h.free 7 (by decide)) (bOf (rVar ⟨rfl, (.inl rfl), rfl⟩) (fun _ _ _ => rfl)) rfl) (fun _ => rfl)) (wAnd (tCm C .ne (bOf (rVar ⟨rfl, (.inl rfl), rfl⟩) (fun _ _ _ => rfl)) (bOf (rTup lNil) (fun _ _ _ => rfl)) rfl) (wAnd1 (tCm C .gt (bOf (rCall C (G 13) (by rfl) (h.fn 13 (by decide)) (aVal (rVar ⟨rfl, (.inl rfl), rfl⟩) (aVal rInt aNil rfl) rfl) (by rfl) (by rfl) (by rfl)) (fun _ _ _ => rfl)) (bOf rInt (fun _ _ _ => rfl)) rfl))))) (zCons (zSet C rfl (.inl rfl) (rCall C (G 13) (by rfl) (h.fn 13 (by decide)) (aVal (rVar ⟨rfl, (.inl rfl), rfl⟩) (aVal (rBi C .len (by rfl) (h.free 6 (by decide)) (by rfl) (lbCons (bOf (rVar ⟨rfl, (.inl rfl), rfl⟩) (fun _ _ _ => rfl)) lbNil rfl) rfl rfl) aNil rfl) rfl) (by rfl) (by rfl) (by rfl)) rfl (.inl rfl))
  (zCons (zRet (rOp C .add (bOf (rOp C .add (bOf (rSl C (bOf (rVar ⟨rfl, (.inl rfl), rfl⟩) (fun _ _ _ => rfl)) oNo (oYes (rVar ⟨rfl, (.inl rfl), rfl⟩))) (fun _ _ _ => rfl)) (bOf (rTup (lCons (rCall C (G 28) (by rfl) (h.fn 28 (by decide)) (aVal (rVar ⟨rfl, (.inl rfl), rfl⟩) (aVal (rIx C (bOf (rVar ⟨rfl, (.inl rfl), rfl⟩) (fun _ _ _ => rfl)) (rVar ⟨rfl, (.inl rfl), rfl⟩) (fun _ _ => rfl)) aNil rfl) rfl) (by rfl) (by rfl) (by rfl)) lNil rfl)) (fun _ _ _ => rfl))) (fun _ _ _ => rfl)) (bOf (rSl C (bOf (rVar ⟨rfl, (.inl rfl), rfl⟩) (fun _ _ _ => rfl)) (oYes (rOp C .add (bOf (rVar ⟨rfl, (.inl rfl), rfl⟩) (fun _ _ _ => rfl)) (bOf rInt (fun _ _ _ => rfl)))) oNo) (fun _ _ _ => rfl))))
  zNil)) zNil)
  (zCons (zIf (tVal C (rIsi C .tuple (by rfl) (h.free 1 (by decide)) (by rfl) (h.free 7 (by decide)) (bOf (rVar ⟨rfl, (.inl rfl), rfl⟩) (fun _ _ _ => rfl)) rfl) (fun _ => rfl)) (zCons (zRet (rCall C (G 14) (by rfl) (h.fn 14 (by decide)) (aVal (rVar ⟨rfl, (.inl rfl), rfl⟩) (aVal (rLst (lCons (rBi C .list (by rfl) (h.free 12 (by decide)) (by rfl) (lbCons (bOf (rVar ⟨rfl, (.inl rfl), rfl⟩) (fun _ _ _ => rfl)) lbNil rfl) rfl rfl) (lCons (rSl C (bOf (rVar ⟨rfl, (.inl rfl), rfl⟩) (fun _ _ _ => rfl)) (oYes rInt) oNo) (lCons (rOp C .add (bOf (rVar ⟨rfl, (.inl rfl), rfl⟩) (fun _ _ _ => rfl)) (bOf (rSl C (bOf (rVar ⟨rfl, (.inl rfl), rfl⟩) (fun _ _ _ => rfl)) (oYes (rNeg rInt)) oNo) (fun _ _ _ => rfl))) (lCons (rRev C (bOf (rVar ⟨rfl, (.inl rfl), rfl⟩) (fun _ _ _ => rfl))) (lCons (rTup lNil) (lCons (rTup (lCons rInt (lCons rInt (lCons rInt lNil rfl) rfl) rfl)) (lCons (rTup (lCons rInt (lCons rInt lNil rfl) rfl)) lNil rfl) rfl) rfl) rfl) rfl) rfl) rfl)) aNil rfl) rfl) (by rfl) (by rfl) (by rfl)))
  zNil) zNil)
  (zCons (zIf (tVal C (rIsi C .str (by rfl) (h.free 1 (by decide)) (by rfl) (h.free 8 (by decide)) (bOf (rVar ⟨rfl, (.inl rfl), rfl⟩) (fun _ _ _ => rfl)) rfl) (fun _ => rfl)) (zCons (zRet (rCall C (G 14) (by rfl) (h.fn 14 (by decide)) (aVal (rVar ⟨rfl, (.inl rfl), rfl⟩) (aVal (rLst (lCons rStr (lCons rStr (lCons rStr (lCons rStr (lCons rStr (lCons rInt lNil rfl) rfl) rfl) rfl) rfl) rfl)) aNil rfl) rfl) (by rfl) (by rfl) (by rfl)))
  zNil) zNil)
  (zCons (zIf (tW (wOr (tVal C (rIsi C .bool (by rfl) (h.free 1 (by decide)) (by rfl) (h.free 2 (by decide)) (bOf (rVar ⟨rfl, (.inl rfl), rfl⟩) (fun _ _ _ => rfl)) rfl) (fun _ => rfl)) (wOr1 (tNot' (tVal C (rIsi C .int (by rfl) (h.free 1 (by decide)) (by rfl) (h.free 3 (by decide)) (bOf (rVar ⟨rfl, (.inl rfl), rfl⟩) (fun _ _ _ => rfl)) rfl) (fun _ => rfl)))))) (zCons (zRet (rCall C (G 14) (by rfl) (h.fn 14 (by decide)) (aVal (rVar ⟨rfl, (.inl rfl), rfl⟩) (aVal (rLst (lCons rNon (lCons rInt (lCons rBl (lCons (rTup lNil) (lCons rStr (lCons (rLst (lCons rInt (lCons rInt lNil rfl) rfl)) lNil rfl) rfl) rfl) rfl) rfl) rfl)) aNil rfl) rfl) (by rfl) (by rfl) (by rfl)))
  zNil) zNil)
  (zCons (zRet (rCall C (G 14) (by rfl) (h.fn 14 (by decide)) (aVal (rVar ⟨rfl, (.inl rfl), rfl⟩) (aVal (rLst (lCons (rOp C .add (bOf (rVar ⟨rfl, (.inl rfl), rfl⟩) (fun _ _ _ => rfl)) (bOf rInt (fun _ _ _ => rfl))) (lCons (rOp C .sub (bOf (rVar ⟨rfl, (.inl rfl), rfl⟩) (fun _ _ _ => rfl)) (bOf rInt (fun _ _ _ => rfl))) (lCons (rNeg (rVar ⟨rfl, (.inl rfl), rfl⟩)) (lCons rBl (lCons (rBi C .str (by rfl) (h.free 8 (by decide)) (by rfl) (lbCons (bOf (rVar ⟨rfl, (.inl rfl), rfl⟩) (fun _ _ _ => rfl)) lbNil rfl) rfl rfl) (lCons (rOp C .add (bOf (rVar ⟨rfl, (.inl rfl), rfl⟩) (fun _ _ _ => rfl)) (bOf rInt (fun _ _ _ => rfl))) (lCons (rOp C .add (bOf (rOp C .pow (bOf rInt (fun _ _ _ => rfl)) (bOf rInt (fun _ _ _ => rfl))) (fun _ _ _ => rfl)) (bOf (rVar ⟨rfl, (.inl rfl), rfl⟩) (fun _ _ _ => rfl))) (lCons rNon lNil rfl) rfl) rfl) rfl) rfl) rfl) rfl) rfl)) aNil rfl) rfl) (by rfl) (by rfl) (by rfl)))
  zNil)))))
theorem b__law_judged (cd : Value) (A : Around) (outer : List Env) (s : Shared) (H : Hp) (E : XK) (hcd : PySem.W.codeIn (gx K).K cd "_law_judged" = true) (hex : ∃ fd2 o, fd2.code = cd ∧ (gx K).K.lookup (FA K 29) = some o ∧ o.data = .func fd2)
    (hr : Room d (A.deeper (envOfC "_law_judged" (defScope (top 50)) s.heap.objs.size (FA K 29) cd))) : JSs (defPl (gx K) (clA K) P W mg base N__law_judged "_law_judged" (defScope (top 50)) (FA K 29) cd A outer s H E) c false (defBody (top 50)) ir__law_judged := by
  have C := cok_def (g := gx K) (clA := clA K) (P := P) (W := W) (mg := mg) (base := base) (N := N__law_judged) (E := E) (outer := outer) (H := H) hr (by decide)
  have TF := tabF_of (g := gx K) (clA := clA K) (P := P) (W := W) (mg := mg) (base := base) (N := N__law_judged) (scope := defScope (top 50)) (A := A) (outer := outer) (s := s) (H := H) (E := E) (x := "_law_judged") (nm := fun _ _ => "_law_judged.<locals>.<lambda>") hcd hex rfl h.tab__law_judged (List.mem_of_getElem? (i := 0) rfl) (fun _ _ => rfl) (by intro t ht _; cases List.mem_singleton.mp ht; rfl)
  exact (zCons (zSet C rfl (.inl rfl) (rLst (lCons (rCall C (G 8) (by rfl) (h.fn 8 (by decide)) (aVal (rVar ⟨rfl, (.inr (.inl rfl)), rfl⟩) aNil rfl) (by rfl) (by rfl) (by rfl)) (lCons (rCall C (G 6) (by rfl) (h.fn 6 (by decide)) (aVal (rVar ⟨rfl, (.inr (.inl rfl)), rfl⟩) aNil rfl) (by rfl) (by rfl) (by rfl)) (lCons (rCall C (G 9) (by rfl) (h.fn 9 (by decide)) (aVal (rVar ⟨rfl, (.inl rfl), rfl⟩) (aVal (rVar ⟨rfl, (.inr (.inl rfl)), rfl⟩) aNil rfl) rfl) (by rfl) (by rfl) (by rfl)) (lCons (rCall C (G 10) (by rfl) (h.fn 10 (by decide)) (aVal (rVar ⟨rfl, (.inl rfl), rfl⟩) (aVal (rVar ⟨rfl, (.inr (.inl rfl)), rfl⟩) aNil rfl) rfl) (by rfl) (by rfl) (by rfl)) lNil rfl) rfl) rfl) rfl)) rfl (.inl rfl))
  (zCons (zSet C rfl (.inl rfl) (rLst (lCons (rCall C (G 23) (by rfl) (h.fn 23 (by decide)) (aVal (rVar ⟨rfl, (.inr (.inl rfl)), rfl⟩) aNil rfl) (by rfl) (by rfl) (by rfl)) (lCons (rCall C (G 24) (by rfl) (h.fn 24 (by decide)) (aVal (rVar ⟨rfl, (.inr (.inl rfl)), rfl⟩) aNil rfl) (by rfl) (by rfl) (by rfl)) (lCons (rCall C (G 25) (by rfl) (h.fn 25 (by decide)) (aVal (rVar ⟨rfl, (.inl rfl), rfl⟩) (aVal (rVar ⟨rfl, (.inr (.inl rfl)), rfl⟩) aNil rfl) rfl) (by rfl) (by rfl) (by rfl)) (lCons (rCall C (G 26) (by rfl) (h.fn 26 (by decide)) (aVal (rVar ⟨rfl, (.inl rfl), rfl⟩) (aVal (rVar ⟨rfl, (.inr (.inl rfl)), rfl⟩) aNil rfl) rfl) (by rfl) (by rfl) (by rfl)) lNil rfl) rfl) rfl) rfl)) rfl (.inl rfl))
  (zCons (zPar2 (i := 2) (j := 3) C rfl rfl (by decide) rfl rfl (lCons (rOp C .add (bOf (rVar ⟨rfl, (.inl rfl), rfl⟩) (fun _ _ _ => rfl)) (bOf (rLst (lCons (rCall C (G 11) (by rfl) (h.fn 11 (by decide)) (aVal (rVar ⟨rfl, (.inl rfl), rfl⟩) (aVal (rVar ⟨rfl, (.inr (.inl rfl)), rfl⟩) aNil rfl) rfl) (by rfl) (by rfl) (by rfl)) lNil rfl)) (fun _ _ _ => rfl))) (lCons (rOp C .add (bOf (rVar ⟨rfl, (.inl rfl), rfl⟩) (fun _ _ _ => rfl)) (bOf (rLst (lCons (rCall C (G 27) (by rfl) (h.fn 27 (by decide)) (aVal (rVar ⟨rfl, (.inl rfl), rfl⟩) (aVal (rVar ⟨rfl, (.inr (.inl rfl)), rfl⟩) aNil rfl) rfl) (by rfl) (by rfl) (by rfl)) lNil rfl)) (fun _ _ _ => rfl))) lNil rfl) rfl) rfl rfl)
  (zCons (zIf (tW (wOr (tCm C .ne (bOf (rF' (fComp C (iSeq' C (bOf (rVar ⟨rfl, (.inl rfl), rfl⟩) (fun _ _ _ => rfl))) (ow := [("_law_told", 5)]) rfl (by kernel_rfl) (fun _ _ _ _ _ Cb => (gNm Cb.nd rfl (.inl rfl) (.inr rfl))) (fun _ _ _ _ _ Cb => oYesT (tNot' (tVal Cb (rIsi Cb .bool (by rfl) (h.free 1 (by decide)) (by rfl) (h.free 2 (by decide)) (bOf (rVar ⟨rfl, (.inl rfl), rfl⟩) (fun _ _ _ => rfl)) rfl) (fun _ => rfl)))) (fun _ _ _ _ _ Cb => (rVar ⟨rfl, (.inl rfl), rfl⟩)) (fun _ => rfl) (by decide))) (fun _ _ _ => rfl)) (bOf (rLst lNil) (fun _ _ _ => rfl)) rfl) (wOr1 (tCm C .ne (bOf (rVar ⟨rfl, (.inl rfl), rfl⟩) (fun _ _ _ => rfl)) (bOf (rVar ⟨rfl, (.inl rfl), rfl⟩) (fun _ _ _ => rfl)) rfl)))) (zCons (zRet rBl)
  zNil) zNil)
  (zCons (zIf (tVal C (rCall C (G 23) (by rfl) (h.fn 23 (by decide)) (aVal (rVar ⟨rfl, (.inr (.inl rfl)), rfl⟩) aNil rfl) (by rfl) (by rfl) (by rfl)) (fun _ => rfl)) (zCons (zRet rBl)
  zNil) zNil)
  (zCons (zSetC C rfl (.inl rfl) (cLams (SL_cons (SL1_mk (lamHere (L := lam2) TF rfl rfl rfl rfl (by kernel_rfl))) SL_nil rfl) (by decide)) rfl (.inl rfl))
  (zCons (zSetC C rfl (.inl rfl) (cAdd (cVar rfl ⟨rfl, (.inl rfl), rfl⟩) (cLams (SL_cons (SL1_mk (lamHere (L := lam1) TF rfl rfl rfl rfl (by kernel_rfl))) SL_nil rfl) (by decide))) rfl (.inl rfl))
  (zCons (zRet (rCall C (G 21) (by rfl) (h.fn 21 (by decide)) (aClos (fun _ => rfl) (cAdd (cVar rfl ⟨rfl, (.inl rfl), rfl⟩) (cLams (SL_cons (SL1_mk (lamHere (L := lam0) TF rfl rfl rfl rfl (by kernel_rfl))) SL_nil rfl) (by decide))) (aVal rStr aNil rfl) rfl) (by rfl) (by rfl) (by rfl)))
  zNil))))))))
theorem b__law_written (cd : Value) (A : Around) (outer : List Env) (s : Shared) (H : Hp) (E : XK) (hcd : PySem.W.codeIn (gx K).K cd "_law_written" = true) (hex : ∃ fd2 o, fd2.code = cd ∧ (gx K).K.lookup (FA K 30) = some o ∧ o.data = .func fd2)
    (hr : Room d (A.deeper (envOfC "_law_written" (defScope (top 51)) s.heap.objs.size (FA K 30) cd))) : JSs (defPl (gx K) (clA K) P W mg base N__law_written "_law_written" (defScope (top 51)) (FA K 30) cd A outer s H E) c false (defBody (top 51)) ir__law_written := by
  have C := cok_def (g := gx K) (clA := clA K) (P := P) (W := W) (mg := mg) (base := base) (N := N__law_written) (E := E) (outer := outer) (H := H) hr (by decide)
  exact (zCons (zAsg (rTup (lCons (rTup (lCons rInt (lCons rInt (lCons rInt lNil rfl) rfl) rfl)) (lCons (rTup (lCons rInt (lCons rInt (lCons rInt (lCons rInt (lCons rInt lNil rfl) rfl) rfl) rfl) rfl)) (lCons (rTup (lCons rInt (lCons rInt (lCons rInt lNil rfl) rfl) rfl)) lNil rfl) rfl) rfl)) (gTp C (gsCons (gNm C.nd rfl (.inl rfl) (.inl rfl)) (gsCons (gNm C.nd rfl (.inl rfl) (.inl rfl)) (gsCons (gNm C.nd rfl (.inl rfl) (.inl rfl)) gsNil rfl) rfl) rfl) rfl rfl) rfl rfl rfl)
  (zCons (zSet C rfl (.inl rfl) (rLst (lCons (rCall C (G 8) (by rfl) (h.fn 8 (by decide)) (aVal (rVar ⟨rfl, (.inl rfl), rfl⟩) aNil rfl) (by rfl) (by rfl) (by rfl)) (lCons (rCall C (G 9) (by rfl) (h.fn 9 (by decide)) (aVal (rVar ⟨rfl, (.inl rfl), rfl⟩) (aVal (rOp C .mul (bOf (rTup (lCons (rVar ⟨rfl, (.inl rfl), rfl⟩) lNil rfl)) (fun _ _ _ => rfl)) (bOf rInt (fun _ _ _ => rfl))) aNil rfl) rfl) (by rfl) (by rfl) (by rfl)) (lCons (rCall C (G 11) (by rfl) (h.fn 11 (by decide)) (aVal (rVar ⟨rfl, (.inl rfl), rfl⟩) (aVal (rOp C .mul (bOf (rTup (lCons (rTup (lCons rStr (lCons (rTup (lCons (rVar ⟨rfl, (.inl rfl), rfl⟩) lNil rfl)) (lCons (rTup (lCons (rVar ⟨rfl, (.inl rfl), rfl⟩) lNil rfl)) lNil rfl) rfl) rfl)) lNil rfl)) (fun _ _ _ => rfl)) (bOf rInt (fun _ _ _ => rfl))) aNil rfl) rfl) (by rfl) (by rfl) (by rfl)) lNil rfl) rfl) rfl)) rfl (.inl rfl))
  (zCons (zSet C rfl (.inl rfl) (rOp C .add (bOf (rVar ⟨rfl, (.inl rfl), rfl⟩) (fun _ _ _ => rfl)) (bOf (rLst (lCons (rCall C (G 6) (by rfl) (h.fn 6 (by decide)) (aVal (rTup (lCons rInt (lCons rInt lNil rfl) rfl)) aNil rfl) (by rfl) (by rfl) (by rfl)) (lCons (rCall C (G 6) (by rfl) (h.fn 6 (by decide)) (aVal (rTup (lCons (rOp C .pow (bOf rInt (fun _ _ _ => rfl)) (bOf rInt (fun _ _ _ => rfl))) (lCons rInt lNil rfl) rfl)) aNil rfl) (by rfl) (by rfl) (by rfl)) (lCons (rCall C (G 6) (by rfl) (h.fn 6 (by decide)) (aVal (rTup (lCons (rOp C .sub (bOf (rOp C .pow (bOf rInt (fun _ _ _ => rfl)) (bOf rInt (fun _ _ _ => rfl))) (fun _ _ _ => rfl)) (bOf rInt (fun _ _ _ => rfl))) (lCons (rOp C .pow (bOf rInt (fun _ _ _ => rfl)) (bOf rInt (fun _ _ _ => rfl))) lNil rfl) rfl)) aNil rfl) (by rfl) (by rfl) (by rfl)) (lCons (rCall C (G 11) (by rfl) (h.fn 11 (by decide)) (aVal (rVar ⟨rfl, (.inl rfl), rfl⟩) (aVal (rTup lNil) aNil rfl) rfl) (by rfl) (by rfl) (by rfl)) lNil rfl) rfl) rfl) rfl)) (fun _ _ _ => rfl))) rfl (.inl rfl))
  (zCons (zOwn C rfl rfl (.inl rfl) (fLst (lCons (rCall C (G 8) (by rfl) (h.fn 8 (by decide)) (aVal (rOp C .add (bOf (rSl C (bOf (rVar ⟨rfl, (.inl rfl), rfl⟩) (fun _ _ _ => rfl)) oNo (oYes rInt)) (fun _ _ _ => rfl)) (bOf (rTup (lCons rInt lNil rfl)) (fun _ _ _ => rfl))) aNil rfl) (by rfl) (by rfl) (by rfl)) (lCons (rCall C (G 8) (by rfl) (h.fn 8 (by decide)) (aVal (rTup (lCons rInt (lCons rInt lNil rfl) rfl)) aNil rfl) (by rfl) (by rfl) (by rfl)) (lCons (rCall C (G 8) (by rfl) (h.fn 8 (by decide)) (aVal (rOp C .add (bOf (rVar ⟨rfl, (.inl rfl), rfl⟩) (fun _ _ _ => rfl)) (bOf (rTup (lCons rInt lNil rfl)) (fun _ _ _ => rfl))) aNil rfl) (by rfl) (by rfl) (by rfl)) (lCons (rCall C (G 8) (by rfl) (h.fn 8 (by decide)) (aVal (rTup (lCons rInt (lCons rInt (lCons rInt lNil rfl) rfl) rfl)) aNil rfl) (by rfl) (by rfl) (by rfl)) lNil rfl) rfl) rfl) rfl)) rfl (.inl rfl))
  (zCons (zOwn C rfl rfl (.inl rfl) (fAddL (bVar ⟨rfl, (.inl rfl), rfl⟩) (bOf (rLst (lCons (rCall C (G 8) (by rfl) (h.fn 8 (by decide)) (aVal (rTup (lCons rInt (lCons rInt (lCons rInt lNil rfl) rfl) rfl)) aNil rfl) (by rfl) (by rfl) (by rfl)) (lCons (rCall C (G 8) (by rfl) (h.fn 8 (by decide)) (aVal (rLst (lCons rInt (lCons rInt (lCons rInt lNil rfl) rfl) rfl)) aNil rfl) (by rfl) (by rfl) (by rfl)) (lCons (rCall C (G 8) (by rfl) (h.fn 8 (by decide)) (aVal (rTup (lCons rInt (lCons rInt (lCons rInt (lCons rInt (lCons rInt (lCons rInt lNil rfl) rfl) rfl) rfl) rfl) rfl)) aNil rfl) (by rfl) (by rfl) (by rfl)) lNil rfl) rfl) rfl)) (fun _ _ _ => rfl))) rfl (.inl rfl))
  (zCons (zOwn C rfl rfl (.inl rfl) (fAddL (bVar ⟨rfl, (.inl rfl), rfl⟩) (bOf (rLst (lCons (rCall C (G 6) (by rfl) (h.fn 6 (by decide)) (aVal (rTup (lCons rInt (lCons rInt lNil rfl) rfl)) aNil rfl) (by rfl) (by rfl) (by rfl)) (lCons (rCall C (G 6) (by rfl) (h.fn 6 (by decide)) (aVal (rTup (lCons rInt (lCons rInt lNil rfl) rfl)) aNil rfl) (by rfl) (by rfl) (by rfl)) (lCons (rCall C (G 6) (by rfl) (h.fn 6 (by decide)) (aVal (rTup (lCons (rNeg rInt) (lCons rInt lNil rfl) rfl)) aNil rfl) (by rfl) (by rfl) (by rfl)) (lCons (rCall C (G 6) (by rfl) (h.fn 6 (by decide)) (aVal (rTup (lCons (rOp C .add (bOf (rOp C .pow (bOf rInt (fun _ _ _ => rfl)) (bOf rInt (fun _ _ _ => rfl))) (fun _ _ _ => rfl)) (bOf rInt (fun _ _ _ => rfl))) (lCons rInt lNil rfl) rfl)) aNil rfl) (by rfl) (by rfl) (by rfl)) (lCons (rCall C (G 6) (by rfl) (h.fn 6 (by decide)) (aVal (rTup (lCons rInt (lCons rInt lNil rfl) rfl)) aNil rfl) (by rfl) (by rfl) (by rfl)) lNil rfl) rfl) rfl) rfl) rfl)) (fun _ _ _ => rfl))) rfl (.inl rfl))
  (zCons (zOwn C rfl rfl (.inl rfl) (fAddL (bVar ⟨rfl, (.inl rfl), rfl⟩) (bOf (rLst (lCons (rCall C (G 9) (by rfl) (h.fn 9 (by decide)) (aVal (rVar ⟨rfl, (.inl rfl), rfl⟩) (aVal (rTup (lCons (rVar ⟨rfl, (.inl rfl), rfl⟩) lNil rfl)) aNil rfl) rfl) (by rfl) (by rfl) (by rfl)) (lCons (rCall C (G 9) (by rfl) (h.fn 9 (by decide)) (aVal (rVar ⟨rfl, (.inl rfl), rfl⟩) (aVal (rOp C .mul (bOf (rTup (lCons (rVar ⟨rfl, (.inl rfl), rfl⟩) lNil rfl)) (fun _ _ _ => rfl)) (bOf rInt (fun _ _ _ => rfl))) aNil rfl) rfl) (by rfl) (by rfl) (by rfl)) (lCons (rCall C (G 9) (by rfl) (h.fn 9 (by decide)) (aVal (rVar ⟨rfl, (.inl rfl), rfl⟩) (aVal (rTup lNil) aNil rfl) rfl) (by rfl) (by rfl) (by rfl)) (lCons (rCall C (G 9) (by rfl) (h.fn 9 (by decide)) (aVal (rVar ⟨rfl, (.inl rfl), rfl⟩) (aVal (rTup (lCons (rTup (lCons rInt (lCons rInt (lCons rInt lNil rfl) rfl) rfl)) lNil rfl)) aNil rfl) rfl) (by rfl) (by rfl) (by rfl)) lNil rfl) rfl) rfl) rfl)) (fun _ _ _ => rfl))) rfl (.inl rfl))
  (zCons (zOwn C rfl rfl (.inl rfl) (fAddL (bVar ⟨rfl, (.inl rfl), rfl⟩) (bOf (rLst (lCons (rCall C (G 9) (by rfl) (h.fn 9 (by decide)) (aVal (rVar ⟨rfl, (.inl rfl), rfl⟩) (aVal (rTup (lCons (rTup (lCons rInt (lCons rInt (lCons rInt lNil rfl) rfl) rfl)) lNil rfl)) aNil rfl) rfl) (by rfl) (by rfl) (by rfl)) (lCons (rCall C (G 9) (by rfl) (h.fn 9 (by decide)) (aVal (rVar ⟨rfl, (.inl rfl), rfl⟩) (aVal (rTup (lCons (rTup (lCons rInt (lCons rInt (lCons rInt lNil rfl) rfl) rfl)) lNil rfl)) aNil rfl) rfl) (by rfl) (by rfl) (by rfl)) (lCons (rCall C (G 9) (by rfl) (h.fn 9 (by decide)) (aVal (rVar ⟨rfl, (.inl rfl), rfl⟩) (aVal (rTup (lCons (rTup (lCons rInt (lCons rInt (lCons rInt lNil rfl) rfl) rfl)) lNil rfl)) aNil rfl) rfl) (by rfl) (by rfl) (by rfl)) lNil rfl) rfl) rfl)) (fun _ _ _ => rfl))) rfl (.inl rfl))
  (zCons (zOwn C rfl rfl (.inl rfl) (fAddL (bVar ⟨rfl, (.inl rfl), rfl⟩) (bOf (rLst (lCons (rCall C (G 9) (by rfl) (h.fn 9 (by decide)) (aVal (rVar ⟨rfl, (.inl rfl), rfl⟩) (aVal (rTup (lCons (rTup (lCons rBl (lCons rInt (lCons rInt lNil rfl) rfl) rfl)) lNil rfl)) aNil rfl) rfl) (by rfl) (by rfl) (by rfl)) (lCons (rCall C (G 10) (by rfl) (h.fn 10 (by decide)) (aVal (rVar ⟨rfl, (.inl rfl), rfl⟩) (aVal (rTup (lCons rStr (lCons (rTup (lCons (rVar ⟨rfl, (.inl rfl), rfl⟩) lNil rfl)) (lCons (rTup (lCons (rVar ⟨rfl, (.inl rfl), rfl⟩) lNil rfl)) lNil rfl) rfl) rfl)) aNil rfl) rfl) (by rfl) (by rfl) (by rfl)) (lCons (rCall C (G 6) (by rfl) (h.fn 6 (by decide)) (aVal (rTup (lCons rBl (lCons rInt lNil rfl) rfl)) aNil rfl) (by rfl) (by rfl) (by rfl)) lNil rfl) rfl) rfl)) (fun _ _ _ => rfl))) rfl (.inl rfl))
  (zCons (zAppend rfl ⟨rfl, (.inl rfl), rfl⟩ (rCall C (G 11) (by rfl) (h.fn 11 (by decide)) (aVal (rVar ⟨rfl, (.inl rfl), rfl⟩) (aVal (rOp C .mul (bOf (rTup (lCons (rTup (lCons rStr (lCons (rTup (lCons (rVar ⟨rfl, (.inl rfl), rfl⟩) lNil rfl)) (lCons (rTup (lCons (rVar ⟨rfl, (.inl rfl), rfl⟩) lNil rfl)) lNil rfl) rfl) rfl)) lNil rfl)) (fun _ _ _ => rfl)) (bOf rInt (fun _ _ _ => rfl))) aNil rfl) rfl) (by rfl) (by rfl) (by rfl)) rfl rfl rfl rfl rfl)
  (zDg rfl 4 (zCons (zRet (rAnd (rCm C .eq (bOf (rVar ⟨rfl, (.inl rfl), rfl⟩) (fun _ _ _ => rfl)) (bOf (rOp C .mul (bOf (rLst (lCons rBl lNil rfl)) (fun _ _ _ => rfl)) (bOf (rBi C .len (by rfl) (h.free 6 (by decide)) (by rfl) (lbCons (bOf (rVar ⟨rfl, (.inl rfl), rfl⟩) (fun _ _ _ => rfl)) lbNil rfl) rfl rfl) (fun _ _ _ => rfl))) (fun _ _ _ => rfl)) rfl) (rOne (rCm C .eq (bOf (rVar ⟨rfl, (.inl rfl), rfl⟩) (fun _ _ _ => rfl)) (bOf (rOp C .mul (bOf (rLst (lCons rBl lNil rfl)) (fun _ _ _ => rfl)) (bOf (rBi C .len (by rfl) (h.free 6 (by decide)) (by rfl) (lbCons (bOf (rVar ⟨rfl, (.inl rfl), rfl⟩) (fun _ _ _ => rfl)) lbNil rfl) rfl rfl) (fun _ _ _ => rfl))) (fun _ _ _ => rfl)) rfl))))
  zNil))))))))))))
theorem b_law (cd : Value) (A : Around) (outer : List Env) (s : Shared) (H : Hp) (E : XK) (hcd : PySem.W.codeIn (gx K).K cd "law" = true) (hex : ∃ fd2 o, fd2.code = cd ∧ (gx K).K.lookup (FA K 31) = some o ∧ o.data = .func fd2)
    (hr : Room d (A.deeper (envOfC "law" (defScope (top 52)) s.heap.objs.size (FA K 31) cd))) : JSs (defPl (gx K) (clA K) P W mg base N_law "law" (defScope (top 52)) (FA K 31) cd A outer s H E) c false (defBody (top 52)) ir_law := by
  have C := cok_def (g := gx K) (clA := clA K) (P := P) (W := W) (mg := mg) (base := base) (N := N_law) (E := E) (outer := outer) (H := H) hr (by decide)
  exact (zCons (zFor C owns_def (ikR1 (by rfl) (h.free 9 (by decide)) (lCons (rBi C .max2 (by rfl) (h.free 14 (by decide)) (by rfl) (lbCons (bOf rInt (fun _ _ _ => rfl)) (lbCons (bOf (rBi C .min2 (by rfl) (h.free 13 (by decide)) (by rfl) (lbCons (bOf rInt (fun _ _ _ => rfl)) (lbCons (bOf (rBi C .len (by rfl) (h.free 6 (by decide)) (by rfl) (lbCons (bOf (rVar ⟨rfl, (.inl rfl), rfl⟩) (fun _ _ _ => rfl)) lbNil rfl) rfl rfl) (fun _ _ _ => rfl)) lbNil rfl) rfl) rfl rfl) (fun _ _ _ => rfl)) lbNil rfl) rfl) rfl rfl) lNil rfl) rfl) (gNm C.nd rfl (.inl rfl) (.inl rfl)) (zCons (zCel C rfl (.inl rfl) (fCall C FF (by rfl) (h.fn 12 (by decide)) (aVal (rVar ⟨rfl, (.inl rfl), rfl⟩) (aVal (rVar ⟨rfl, (.inl rfl), rfl⟩) aNil rfl) rfl) (onlyV_ok rfl) (by rfl) (by rfl) (by rfl)) rfl (.inl rfl))
  (zCons (zSet C rfl (.inl rfl) (rCall C (G 15) (by rfl) (h.fn 15 (by decide)) (aVal (rVar ⟨rfl, (.inl rfl), rfl⟩) (aVal rInt aNil rfl) rfl) (by rfl) (by rfl) (by rfl)) rfl (.inl rfl))
  (zCons (zFor C owns_def (ikSeq C (rLst (lCons (rVar ⟨rfl, (.inl rfl), rfl⟩) (lCons (rCall C (G 16) (by rfl) (h.fn 16 (by decide)) (aVal (rVar ⟨rfl, (.inl rfl), rfl⟩) (aVal (rVar ⟨rfl, (.inl rfl), rfl⟩) (aVal rInt aNil rfl) rfl) rfl) (by rfl) (by rfl) (by rfl)) (lCons (rCall C (G 17) (by rfl) (h.fn 17 (by decide)) (aVal (rVar ⟨rfl, (.inl rfl), rfl⟩) (aVal (rVar ⟨rfl, (.inl rfl), rfl⟩) aNil rfl) rfl) (by rfl) (by rfl) (by rfl)) (lCons (rCall C (G 18) (by rfl) (h.fn 18 (by decide)) (aVal (rVar ⟨rfl, (.inl rfl), rfl⟩) (aVal (rVar ⟨rfl, (.inl rfl), rfl⟩) (aVal rInt aNil rfl) rfl) rfl) (by rfl) (by rfl) (by rfl)) (lCons (rTup (lCons (rCall C (G 13) (by rfl) (h.fn 13 (by decide)) (aVal (rVar ⟨rfl, (.inl rfl), rfl⟩) (aVal rInt aNil rfl) rfl) (by rfl) (by rfl) (by rfl)) (lCons (rOp C .add (bOf rInt (fun _ _ _ => rfl)) (bOf (rCall C (G 13) (by rfl) (h.fn 13 (by decide)) (aVal (rVar ⟨rfl, (.inl rfl), rfl⟩) (aVal rInt aNil rfl) rfl) (by rfl) (by rfl) (by rfl)) (fun _ _ _ => rfl))) lNil rfl) rfl)) lNil rfl) rfl) rfl) rfl) rfl)) (fun _ _ _ => rfl)) (gNm C.nd rfl (.inl rfl) (.inl rfl)) (zCons (zIf (tNot' (tVal C (rCall C (G 29) (by rfl) (h.fn 29 (by decide)) (aVal (rVar ⟨rfl, (.inl rfl), rfl⟩) (aVal (rVar ⟨rfl, (.inl rfl), rfl⟩) aNil rfl) rfl) (by rfl) (by rfl) (by rfl)) (fun _ => rfl))) (zCons (zRet rBl)
  zNil) zNil)
  (zCons (zSet C rfl (.inl rfl) (rVar ⟨rfl, (.inl rfl), rfl⟩) rfl (.inl rfl))
  (zCons (zFor C owns_def (ikR1 (by rfl) (h.free 9 (by decide)) (lCons rInt lNil rfl) rfl) (gNm C.nd rfl (.inl rfl) (.inl rfl)) (zCons (zSet C rfl (.inl rfl) (rCall C (G 28) (by rfl) (h.fn 28 (by decide)) (aVal (rVar ⟨rfl, (.inl rfl), rfl⟩) (aVal (rIte (tCm C .eq (bOf (rOp C .mod (bOf (rVar ⟨rfl, (.inl rfl), rfl⟩) (fun _ _ _ => rfl)) (bOf rInt (fun _ _ _ => rfl))) (fun _ _ _ => rfl)) (bOf rInt (fun _ _ _ => rfl)) rfl) (rVar ⟨rfl, (.inl rfl), rfl⟩) (rVar ⟨rfl, (.inl rfl), rfl⟩)) aNil rfl) rfl) (by rfl) (by rfl) (by rfl)) rfl (.inl rfl))
  (zCons (zIf (tNot' (tVal C (rCall C (G 29) (by rfl) (h.fn 29 (by decide)) (aVal (rVar ⟨rfl, (.inl rfl), rfl⟩) (aVal (rVar ⟨rfl, (.inl rfl), rfl⟩) aNil rfl) rfl) (by rfl) (by rfl) (by rfl)) (fun _ => rfl))) (zCons (zRet rBl)
  zNil) zNil)
  zNil)) (fun _ => rfl))
  zNil))) (fun _ => rfl))
  zNil))) (fun _ => rfl))
  (zCons (zRet (rCall0 C (G 30) (by rfl) (h.fn 30 (by decide)) (by rfl)))
  zNil))
theorem bl_0 (cl : List (Str × Addr)) (c' f : Addr) (A : Around) (outer : List Env) (s : Shared) (H : Hp) (E : XK) (hr : Room d (A.deeper (envF (lnf lam0 cl c') f s.heap.objs.size))) : JE (lamPl (gx K) (clA K) P W mg base lam0 cl c' f A outer s H E) c lam0.body irl0 := by
  have C := cok_lam (g := gx K) (clA := clA K) (P := P) (W := W) (mg := mg) (base := base) (E := E) (outer := outer) (H := H) hr (by decide)
  exact (rCall C (G 11) (by rfl) (h.fn 11 (by decide)) (aVal (rVar ⟨rfl, (.inr (.inr rfl)), rfl⟩) (aVal rNon aNil rfl) rfl) (by rfl) (by rfl) (by rfl))
theorem bl_1 (cl : List (Str × Addr)) (c' f : Addr) (A : Around) (outer : List Env) (s : Shared) (H : Hp) (E : XK) (hr : Room d (A.deeper (envF (lnf lam1 cl c') f s.heap.objs.size))) : JE (lamPl (gx K) (clA K) P W mg base lam1 cl c' f A outer s H E) c lam1.body irl1 := by
  have C := cok_lam (g := gx K) (clA := clA K) (P := P) (W := W) (mg := mg) (base := base) (E := E) (outer := outer) (H := H) hr (by decide)
  exact (rCall C (G 10) (by rfl) (h.fn 10 (by decide)) (aVal (rVar ⟨rfl, (.inr (.inr rfl)), rfl⟩) (aVal rNon aNil rfl) rfl) (by rfl) (by rfl) (by rfl))
theorem bl_2 (cl : List (Str × Addr)) (c' f : Addr) (A : Around) (outer : List Env) (s : Shared) (H : Hp) (E : XK) (hr : Room d (A.deeper (envF (lnf lam2 cl c') f s.heap.objs.size))) : JE (lamPl (gx K) (clA K) P W mg base lam2 cl c' f A outer s H E) c lam2.body irl2 := by
  have C := cok_lam (g := gx K) (clA := clA K) (P := P) (W := W) (mg := mg) (base := base) (E := E) (outer := outer) (H := H) hr (by decide)
  exact (rCall C (G 9) (by rfl) (h.fn 9 (by decide)) (aVal (rVar ⟨rfl, (.inr (.inr rfl)), rfl⟩) (aVal rNon aNil rfl) rfl) (by rfl) (by rfl) (by rfl))
end
end K01
end
section
namespace K01
open PySem PySem.Spec PyProof.Rows L2 LamX NdefX PL
/-! ### what the handler answers -/
section
variable {P : Program} {W : World} {K : PySem.W.Frag} {mg : Str → Option Value} {base : Heap} (h : Hd K mg base)
include h
theorem kin_0 (d : Nat) : KinS P W (gx K) mg base d (FA K 19) (clA K 0) (kinS 0) := by
  obtain ⟨fd, D⟩ := h.d__law_kin
  have nd : N__law_kin.Nodup := by decide
  exact kin_of (g := gx K) (clA := clA K) (N := N__law_kin) D ⟨rfl, rfl, rfl, by decide +kernel, rfl, by decide +kernel, by decide +kernel⟩ (fun _ _ _ _ _ _ us hl => match us, hl with | [_], _ => rfl) (fun cd A outer s H E q hot hz hf =>
    have hot2 : L2H.HotC (kinPl (gx K) (clA K) P W mg base N__law_kin "_law_kin" (defScope (top 40)) (FA K 19) cd A outer s H E q).X := ⟨q, hot, List.mem_cons_self⟩
    (SSs_cons (SS_set (i := 1) nd rfl (.inl rfl) (SE_lst (SEs_cons (SE_isE (i := 0) rfl (h.kcls 0 (by decide)) rfl hz hf (by rfl) (h.free 1 (by decide)) rfl (.inl rfl) rfl rfl (pe_glob (v := .ref (He.ga K (kinN 0))) (by rfl) (h.kmg 0 (by decide)) rfl rfl) (fun u r => r) (h.kit 0 (by decide) 0 (by decide))) (SEs_cons (SE_isE (i := 0) rfl (h.kcls 0 (by decide)) rfl hz hf (by rfl) (h.free 1 (by decide)) rfl (.inl rfl) rfl rfl (pe_glob (v := .ref (He.ga K (kinN 1))) (by rfl) (h.kmg 1 (by decide)) rfl rfl) (fun u r => r) (h.kit 0 (by decide) 1 (by decide))) (SEs_cons (SE_isE (i := 0) rfl (h.kcls 0 (by decide)) rfl hz hf (by rfl) (h.free 1 (by decide)) rfl (.inl rfl) rfl rfl (pe_glob (v := .ref (He.ga K (kinN 2))) (by rfl) (h.kmg 2 (by decide)) rfl rfl) (fun u r => r) (h.kit 0 (by decide) 2 (by decide))) SEs_nil rfl) rfl) rfl)) rfl (.inl rfl))
    (SSs_cons (SS_set (i := 1) nd rfl (.inl rfl) (rawOp rfl .add (SB.of (SE_var (i := 1) rfl (.inl rfl) rfl rfl)) (SB.of (SE_lst (SEs_cons (SE_isE (i := 0) rfl (h.kcls 0 (by decide)) rfl hz hf (by rfl) (h.free 1 (by decide)) rfl (.inl rfl) rfl rfl (pe_glob (v := .ref (He.ga K (kinN 3))) (by rfl) (h.kmg 3 (by decide)) rfl rfl) (fun u r => r) (h.kit 0 (by decide) 3 (by decide))) (SEs_cons (SE_isE (i := 0) rfl (h.kcls 0 (by decide)) rfl hz hf (by rfl) (h.free 1 (by decide)) rfl (.inl rfl) rfl rfl (pe_glob (v := .ref (He.ga K (kinN 4))) (by rfl) (h.kmg 4 (by decide)) rfl rfl) (fun u r => r) (h.kit 0 (by decide) 4 (by decide))) (SEs_cons (SE_isE (i := 0) rfl (h.kcls 0 (by decide)) rfl hz hf (by rfl) (h.free 1 (by decide)) rfl (.inl rfl) rfl rfl (pe_glob (v := .ref (He.ga K (kinN 5))) (by rfl) (h.kmg 5 (by decide)) rfl rfl) (fun u r => r) (h.kit 0 (by decide) 5 (by decide))) SEs_nil rfl) rfl) rfl)))) rfl (.inl rfl))
    (SSs_cons (SS_set (i := 1) nd rfl (.inl rfl) (rawOp rfl .add (SB.of (SE_var (i := 1) rfl (.inl rfl) rfl rfl)) (SB.of (SE_lst (SEs_cons (SE_isE (i := 0) rfl (h.kcls 0 (by decide)) rfl hz hf (by rfl) (h.free 1 (by decide)) rfl (.inl rfl) rfl rfl (pe_glob (v := .ref (He.ga K (kinN 6))) (by rfl) (h.kmg 6 (by decide)) rfl rfl) (fun u r => r) (h.kit 0 (by decide) 6 (by decide))) (SEs_cons (SE_isE (i := 0) rfl (h.kcls 0 (by decide)) rfl hz hf (by rfl) (h.free 1 (by decide)) rfl (.inl rfl) rfl rfl (pe_glob (v := .ref (He.ga K (kinN 7))) (by rfl) (h.kmg 7 (by decide)) rfl rfl) (fun u r => r) (h.kit 0 (by decide) 7 (by decide))) (SEs_cons (SE_isE (i := 0) rfl (h.kcls 0 (by decide)) rfl hz hf (by rfl) (h.free 1 (by decide)) rfl (.inl rfl) rfl rfl (pe_glob (v := .ref (He.ga K (kinN 8))) (by rfl) (h.kmg 8 (by decide)) rfl rfl) (fun u r => r) (h.kit 0 (by decide) 8 (by decide))) SEs_nil rfl) rfl) rfl)))) rfl (.inl rfl))
    (SSs_cons (SS_set (i := 1) nd rfl (.inl rfl) (rawOp rfl .add (SB.of (SE_var (i := 1) rfl (.inl rfl) rfl rfl)) (SB.of (SE_lst (SEs_cons (SE_isE (i := 0) rfl (h.kcls 0 (by decide)) rfl hz hf (by rfl) (h.free 1 (by decide)) rfl (.inl rfl) rfl rfl (pe_glob (v := .ref (He.ga K (kinN 9))) (by rfl) (h.kmg 9 (by decide)) rfl rfl) (fun u r => r) (h.kit 0 (by decide) 9 (by decide))) (SEs_cons (SE_isE (i := 0) rfl (h.kcls 0 (by decide)) rfl hz hf (by rfl) (h.free 1 (by decide)) rfl (.inl rfl) rfl rfl (pe_glob (v := .ref (He.ga K (kinN 10))) (by rfl) (h.kmg 10 (by decide)) rfl rfl) (fun u r => r) (h.kit 0 (by decide) 10 (by decide))) (SEs_cons (SE_isE (i := 0) rfl (h.kcls 0 (by decide)) rfl hz hf (by rfl) (h.free 1 (by decide)) rfl (.inl rfl) rfl rfl (pe_glob (v := .ref (He.ga K (kinN 11))) (by rfl) (h.kmg 11 (by decide)) rfl rfl) (fun u r => r) (h.kit 0 (by decide) 11 (by decide))) SEs_nil rfl) rfl) rfl)))) rfl (.inl rfl))
    (SSs_cons (SS_set (i := 1) nd rfl (.inl rfl) (rawOp rfl .add (SB.of (SE_var (i := 1) rfl (.inl rfl) rfl rfl)) (SB.of (SE_lst (SEs_cons (SE_isE (i := 0) rfl (h.kcls 0 (by decide)) rfl hz hf (by rfl) (h.free 1 (by decide)) rfl (.inl rfl) rfl rfl (pe_glob (v := .ref (He.ga K (kinN 12))) (by rfl) (h.kmg 12 (by decide)) rfl rfl) (fun u r => r) (h.kit 0 (by decide) 12 (by decide))) (SEs_cons (SE_isE (i := 0) rfl (h.kcls 0 (by decide)) rfl hz hf (by rfl) (h.free 1 (by decide)) rfl (.inl rfl) rfl rfl (pe_glob (v := .ref (He.ga K (kinN 13))) (by rfl) (h.kmg 13 (by decide)) rfl rfl) (fun u r => r) (h.kit 0 (by decide) 13 (by decide))) (SEs_cons (SE_isE (i := 0) rfl (h.kcls 0 (by decide)) rfl hz hf (by rfl) (h.free 1 (by decide)) rfl (.inl rfl) rfl rfl (pe_bltn (v := .ty "ValueError") (u := .type "ValueError") (by rfl) h.vfree (by decide +kernel) rfl (by decide) rfl) (fun u r => r) (h.kitv 0 (by decide))) SEs_nil rfl) rfl) rfl)))) rfl (.inl rfl))
    (SSs_cons (SS_set (i := 2) nd rfl (.inl rfl) (SE_con (u := .str "picture lean sum claim facts mark number index impossible unlike notone undo many text value") pe_str fun _ _ => .str _) rfl (.inl rfl))
    (SSs_cons (SS_ret (SE_join rfl (SE_con (u := .str " ") pe_str fun _ _ => .str _) (SE_zc (i := 3) (j := 4) (own := [3, 4]) rfl hot2 nd (by rfl) (h.free 4 (by decide)) (SEs_cons (SE_split (SE_var (i := 2) rfl (.inl rfl) rfl rfl) (SE_con (u := .str " ") pe_str fun _ _ => .str _) rfl rfl rfl) (SEs_cons (SE_var (i := 1) rfl (.inl rfl) rfl rfl) SEs_nil rfl) rfl) rfl rfl (ow := [("_law_label", 3), ("_law_good", 4)]) rfl (blkOk_by (by kernel_rfl)) rfl rfl (by decide) (by decide) (fun _ _ _ _ _ => ⟨.inl rfl, .inr rfl⟩) (fun _ _ _ _ _ => ⟨.inl rfl, .inr rfl⟩) (fun s1 H1 C1 l1 f1 => pts_one (ST_val (p := Pl.blk (kinPl (gx K) (clA K) P W mg base N__law_kin "_law_kin" (defScope (top 40)) (FA K 19) cd A outer s H E q) _ s1 H1 C1 l1 f1) rfl (SE_var (i := 4) rfl (.inl rfl) rfl rfl) (fun _ => rfl))) (fun s1 H1 C1 l1 f1 => SE_var (p := Pl.blk (kinPl (gx K) (clA K) P W mg base N__law_kin "_law_kin" (defScope (top 40)) (FA K 19) cd A outer s H E q) _ s1 H1 C1 l1 f1) (i := 3) rfl (.inl rfl) rfl rfl) (fun _ => rfl)) rfl rfl rfl))
    SSs_nil)))))))) (fun κ => by kernel_rfl)
theorem kin_all (d : Nat) : ∀ c, KinS P W (gx K) mg base d (FA K 19) (clA K c) (kinS c)
  | 0 => kin_0 h d
  | _ + 1 => kin_0 h d
theorem exm_all : ∀ c, PySem.W.exmOne K (.ref (clA K c)) (.ref (He.ga K "MarkError")) = some true
  | 0 => h.exm 0 (by decide)
  | _ + 1 => h.exm 0 (by decide)
end
/-! ### all defs, by depth -/
section
variable {P : Program} {W : World} {K : PySem.W.Frag} {mg : Str → Option Value} {base : Heap} (h : Hd K mg base)
include h
theorem all_d : ∀ d, (∀ i, FnS P W (gx K) (clA K) mg base d (FA K i) ((cb tab d).cf i)) ∧ (∀ k, LmS P W (gx K) (clA K) mg base d k ((cb tab d).cl k)) ∧ FnF P W (gx K) (clA K) mg base d (FA K 12) ((cb tab d).cf 12)
  | 0 => ⟨fun _ => .bad fun _ _ => rfl, fun _ => .bad fun _ _ => rfl, .bad fun _ _ => rfl⟩
  | d + 1 => by
    obtain ⟨G, LM, FF⟩ := all_d d
    have f0 : FnS P W (gx K) (clA K) mg base (d + 1) (FA K 0) ((cb tab (d + 1)).cf 0) := by
      obtain ⟨fd, D⟩ := h.d_measure
      exact fnS_of (g := gx K) (clA := clA K) (N := N_measure) (ps := ["one", "other"]) (m := exSs (cb tab d) ir_measure) D ⟨rfl, rfl, rfl, by decide +kernel, rfl, by decide +kernel, by decide +kernel⟩ (fun _ _ _ _ _ _ us hl => match us, hl with | [_, _], _ => rfl) (fun cd A outer s H E hcd hex hr => b_measure h G LM FF cd A outer s H E hcd hex hr) (fun _ _ => rfl)
    have f1 : FnS P W (gx K) (clA K) mg base (d + 1) (FA K 1) ((cb tab (d + 1)).cf 1) := by
      obtain ⟨fd, D⟩ := h.d_is_whole
      exact fnS_of (g := gx K) (clA := clA K) (N := N_is_whole) (ps := ["value", "low", "high"]) (m := exSs (cb tab d) ir_is_whole) D ⟨rfl, rfl, rfl, by decide +kernel, rfl, by decide +kernel, by decide +kernel⟩ (fun _ _ _ _ _ _ us hl => match us, hl with | [_, _, _], _ => rfl) (fun cd A outer s H E hcd hex hr => b_is_whole h G LM FF cd A outer s H E hcd hex hr) (fun _ _ => rfl)
    have f2 : FnS P W (gx K) (clA K) mg base (d + 1) (FA K 2) ((cb tab (d + 1)).cf 2) := by
      obtain ⟨fd, D⟩ := h.d_is_right_picture
      exact fnS_of (g := gx K) (clA := clA K) (N := N_is_right_picture) (ps := ["value"]) (m := exSs (cb tab d) ir_is_right_picture) D ⟨rfl, rfl, rfl, by decide +kernel, rfl, by decide +kernel, by decide +kernel⟩ (fun _ _ _ _ _ _ us hl => match us, hl with | [_], _ => rfl) (fun cd A outer s H E hcd hex hr => b_is_right_picture h G LM FF cd A outer s H E hcd hex hr) (fun _ _ => rfl)
    have f3 : FnS P W (gx K) (clA K) mg base (d + 1) (FA K 3) ((cb tab (d + 1)).cf 3) := by
      obtain ⟨fd, D⟩ := h.d_is_right_sum
      exact fnS_of (g := gx K) (clA := clA K) (N := N_is_right_sum) (ps := ["picture", "value"]) (m := exSs (cb tab d) ir_is_right_sum) D ⟨rfl, rfl, rfl, by decide +kernel, rfl, by decide +kernel, by decide +kernel⟩ (fun _ _ _ _ _ _ us hl => match us, hl with | [_, _], _ => rfl) (fun cd A outer s H E hcd hex hr => b_is_right_sum h G LM FF cd A outer s H E hcd hex hr) (fun _ _ => rfl)
    have f4 : FnS P W (gx K) (clA K) mg base (d + 1) (FA K 4) ((cb tab (d + 1)).cf 4) := by
      obtain ⟨fd, D⟩ := h.d_is_right_claim
      exact fnS_of (g := gx K) (clA := clA K) (N := N_is_right_claim) (ps := ["picture", "value"]) (m := exSs (cb tab d) ir_is_right_claim) D ⟨rfl, rfl, rfl, by decide +kernel, rfl, by decide +kernel, by decide +kernel⟩ (fun _ _ _ _ _ _ us hl => match us, hl with | [_, _], _ => rfl) (fun cd A outer s H E hcd hex hr => b_is_right_claim h G LM FF cd A outer s H E hcd hex hr) (fun _ _ => rfl)
    have f5 : FnS P W (gx K) (clA K) mg base (d + 1) (FA K 5) ((cb tab (d + 1)).cf 5) := by
      obtain ⟨fd, D⟩ := h.d_are_right_facts
      exact fnS_of (g := gx K) (clA := clA K) (N := N_are_right_facts) (ps := ["picture", "value"]) (m := exSs (cb tab d) ir_are_right_facts) D ⟨rfl, rfl, rfl, by decide +kernel, rfl, by decide +kernel, by decide +kernel⟩ (fun _ _ _ _ _ _ us hl => match us, hl with | [_, _], _ => rfl) (fun cd A outer s H E hcd hex hr => b_are_right_facts h G LM FF cd A outer s H E hcd hex hr) (fun _ _ => rfl)
    have f6 : FnS P W (gx K) (clA K) mg base (d + 1) (FA K 6) ((cb tab (d + 1)).cf 6) := by
      obtain ⟨fd, D⟩ := h.d_is_lean
      exact fnS_of (g := gx K) (clA := clA K) (N := N_is_lean) (ps := ["value"]) (m := exSs (cb tab d) ir_is_lean) D ⟨rfl, rfl, rfl, by decide +kernel, rfl, by decide +kernel, by decide +kernel⟩ (fun _ _ _ _ _ _ us hl => match us, hl with | [_], _ => rfl) (fun cd A outer s H E hcd hex hr => b_is_lean h G LM FF cd A outer s H E hcd hex hr) (fun _ _ => rfl)
    have f7 : FnS P W (gx K) (clA K) mg base (d + 1) (FA K 7) ((cb tab (d + 1)).cf 7) := by
      obtain ⟨fd, D⟩ := h.d_need_picture
      exact fnS_of (g := gx K) (clA := clA K) (N := N_need_picture) (ps := ["value"]) (m := exSs (cb tab d) ir_need_picture) D ⟨rfl, rfl, rfl, by decide +kernel, rfl, by decide +kernel, by decide +kernel⟩ (fun _ _ _ _ _ _ us hl => match us, hl with | [_], _ => rfl) (fun cd A outer s H E hcd hex hr => b_need_picture h G LM FF cd A outer s H E hcd hex hr) (fun _ _ => rfl)
    have f8 : FnS P W (gx K) (clA K) mg base (d + 1) (FA K 8) ((cb tab (d + 1)).cf 8) := by
      obtain ⟨fd, D⟩ := h.d_is_picture
      exact fnS_of (g := gx K) (clA := clA K) (N := N_is_picture) (ps := ["value"]) (m := exSs (cb tab d) ir_is_picture) D ⟨rfl, rfl, rfl, by decide +kernel, rfl, by decide +kernel, by decide +kernel⟩ (fun _ _ _ _ _ _ us hl => match us, hl with | [_], _ => rfl) (fun cd A outer s H E hcd hex hr => b_is_picture h G LM FF cd A outer s H E hcd hex hr) (fun _ _ => rfl)
    have f9 : FnS P W (gx K) (clA K) mg base (d + 1) (FA K 9) ((cb tab (d + 1)).cf 9) := by
      obtain ⟨fd, D⟩ := h.d_is_sum
      exact fnS_of (g := gx K) (clA := clA K) (N := N_is_sum) (ps := ["picture", "value"]) (m := exSs (cb tab d) ir_is_sum) D ⟨rfl, rfl, rfl, by decide +kernel, rfl, by decide +kernel, by decide +kernel⟩ (fun _ _ _ _ _ _ us hl => match us, hl with | [_, _], _ => rfl) (fun cd A outer s H E hcd hex hr => b_is_sum h G LM FF cd A outer s H E hcd hex hr) (fun _ _ => rfl)
    have f10 : FnS P W (gx K) (clA K) mg base (d + 1) (FA K 10) ((cb tab (d + 1)).cf 10) := by
      obtain ⟨fd, D⟩ := h.d_is_claim
      exact fnS_of (g := gx K) (clA := clA K) (N := N_is_claim) (ps := ["picture", "value"]) (m := exSs (cb tab d) ir_is_claim) D ⟨rfl, rfl, rfl, by decide +kernel, rfl, by decide +kernel, by decide +kernel⟩ (fun _ _ _ _ _ _ us hl => match us, hl with | [_, _], _ => rfl) (fun cd A outer s H E hcd hex hr => b_is_claim h G LM FF cd A outer s H E hcd hex hr) (fun _ _ => rfl)
    have f11 : FnS P W (gx K) (clA K) mg base (d + 1) (FA K 11) ((cb tab (d + 1)).cf 11) := by
      obtain ⟨fd, D⟩ := h.d_are_facts
      exact fnS_of (g := gx K) (clA := clA K) (N := N_are_facts) (ps := ["picture", "value"]) (m := exSs (cb tab d) ir_are_facts) D ⟨rfl, rfl, rfl, by decide +kernel, rfl, by decide +kernel, by decide +kernel⟩ (fun _ _ _ _ _ _ us hl => match us, hl with | [_, _], _ => rfl) (fun cd A outer s H E hcd hex hr => b_are_facts h G LM FF cd A outer s H E hcd hex hr) (fun _ _ => rfl)
    have f12 : FnF P W (gx K) (clA K) mg base (d + 1) (FA K 12) ((cb tab (d + 1)).cf 12) := by
      obtain ⟨fd, D⟩ := h.d__law_spring
      exact fnF_of (g := gx K) (clA := clA K) (N := N__law_spring) (ps := ["_law_script", "_law_k"]) (m := exSs (cb tab d) ir__law_spring) D ⟨rfl, rfl, rfl, by decide +kernel, rfl, by decide +kernel, by decide +kernel⟩ (fun _ _ _ _ _ _ us hl => match us, hl with | [_, _], _ => rfl) (fun cd A outer s H E hcd hex hr => b__law_spring h G LM FF cd A outer s H E hcd hex hr) (fun _ _ => rfl) (retEnd_ok rfl)
    have f13 : FnS P W (gx K) (clA K) mg base (d + 1) (FA K 13) ((cb tab (d + 1)).cf 13) := by
      obtain ⟨fd, D⟩ := h.d__law_pick
      exact fnS_of (g := gx K) (clA := clA K) (N := N__law_pick) (ps := ["_law_spring_here", "_law_many"]) (m := exSs (cb tab d) ir__law_pick) D ⟨rfl, rfl, rfl, by decide +kernel, rfl, by decide +kernel, by decide +kernel⟩ (fun _ _ _ _ _ _ us hl => match us, hl with | [_, _], _ => rfl) (fun cd A outer s H E hcd hex hr => b__law_pick h G LM FF cd A outer s H E hcd hex hr) (fun _ _ => rfl)
    have f14 : FnS P W (gx K) (clA K) mg base (d + 1) (FA K 14) ((cb tab (d + 1)).cf 14) := by
      obtain ⟨fd, D⟩ := h.d__law_chosen
      exact fnS_of (g := gx K) (clA := clA K) (N := N__law_chosen) (ps := ["_law_spring_here", "_law_some"]) (m := exSs (cb tab d) ir__law_chosen) D ⟨rfl, rfl, rfl, by decide +kernel, rfl, by decide +kernel, by decide +kernel⟩ (fun _ _ _ _ _ _ us hl => match us, hl with | [_, _], _ => rfl) (fun cd A outer s H E hcd hex hr => b__law_chosen h G LM FF cd A outer s H E hcd hex hr) (fun _ _ => rfl)
    have f15 : FnS P W (gx K) (clA K) mg base (d + 1) (FA K 15) ((cb tab (d + 1)).cf 15) := by
      obtain ⟨fd, D⟩ := h.d__law_shot
      exact fnS_of (g := gx K) (clA := clA K) (N := N__law_shot) (ps := ["_law_spring_here", "_law_most"]) (m := exSs (cb tab d) ir__law_shot) D ⟨rfl, rfl, rfl, by decide +kernel, rfl, by decide +kernel, by decide +kernel⟩ (fun _ _ _ _ _ _ us hl => match us, hl with | [_, _], _ => rfl) (fun cd A outer s H E hcd hex hr => b__law_shot h G LM FF cd A outer s H E hcd hex hr) (fun _ _ => rfl)
    have f16 : FnS P W (gx K) (clA K) mg base (d + 1) (FA K 16) ((cb tab (d + 1)).cf 16) := by
      obtain ⟨fd, D⟩ := h.d__law_lengths
      exact fnS_of (g := gx K) (clA := clA K) (N := N__law_lengths) (ps := ["_law_spring_here", "_law_picture", "_law_most"]) (m := exSs (cb tab d) ir__law_lengths) D ⟨rfl, rfl, rfl, by decide +kernel, rfl, by decide +kernel, by decide +kernel⟩ (fun _ _ _ _ _ _ us hl => match us, hl with | [_, _, _], _ => rfl) (fun cd A outer s H E hcd hex hr => b__law_lengths h G LM FF cd A outer s H E hcd hex hr) (fun _ _ => rfl)
    have f17 : FnS P W (gx K) (clA K) mg base (d + 1) (FA K 17) ((cb tab (d + 1)).cf 17) := by
      obtain ⟨fd, D⟩ := h.d__law_saying
      exact fnS_of (g := gx K) (clA := clA K) (N := N__law_saying) (ps := ["_law_spring_here", "_law_picture"]) (m := exSs (cb tab d) ir__law_saying) D ⟨rfl, rfl, rfl, by decide +kernel, rfl, by decide +kernel, by decide +kernel⟩ (fun _ _ _ _ _ _ us hl => match us, hl with | [_, _], _ => rfl) (fun cd A outer s H E hcd hex hr => b__law_saying h G LM FF cd A outer s H E hcd hex hr) (fun _ _ => rfl)
    have f18 : FnS P W (gx K) (clA K) mg base (d + 1) (FA K 18) ((cb tab (d + 1)).cf 18) := by
      obtain ⟨fd, D⟩ := h.d__law_sayings
      exact fnS_of (g := gx K) (clA := clA K) (N := N__law_sayings) (ps := ["_law_spring_here", "_law_picture", "_law_most"]) (m := exSs (cb tab d) ir__law_sayings) D ⟨rfl, rfl, rfl, by decide +kernel, rfl, by decide +kernel, by decide +kernel⟩ (fun _ _ _ _ _ _ us hl => match us, hl with | [_, _, _], _ => rfl) (fun cd A outer s H E hcd hex hr => b__law_sayings h G LM FF cd A outer s H E hcd hex hr) (fun _ _ => rfl)
    have f20 : FnS P W (gx K) (clA K) mg base (d + 1) (FA K 20) ((cb tab (d + 1)).cf 20) := by
      obtain ⟨fd, D⟩ := h.d__law_came
      refine fnS_of (g := gx K) (clA := clA K) (N := N__law_came) (ps := ["_law_call"]) (m := exSs (cb tab d) ir__law_came) D ⟨rfl, rfl, rfl, by decide +kernel, rfl, by decide +kernel, by decide +kernel⟩ (fun _ _ _ _ _ _ us hl => match us, hl with | [_], _ => rfl) (fun cd A outer s H E hcd hex hr => ?_) (fun _ _ => rfl)
      exact SSs_cons (SS_came (i := 0) (j := 1) LM (by rw [show (cb tab d).kin = kinS from cb_kin tab d]; exact kin_all h d) rfl hr takes_def rfl rfl (show N__law_came.Nodup by decide) rfl rfl ⟨by rfl, by rfl, .inl h.mkE⟩ (exm_all h) rfl (.inl rfl) (by rfl) (by rfl) (by rfl) (by rfl) (by rfl) (h.fn 19 (by decide)).1 (h.fn 19 (by decide)).2 (by rfl) rfl) SSs_nil
    have f21 : FnS P W (gx K) (clA K) mg base (d + 1) (FA K 21) ((cb tab (d + 1)).cf 21) := by
      obtain ⟨fd, D⟩ := h.d__law_all_say
      exact fnS_of (g := gx K) (clA := clA K) (N := N__law_all_say) (ps := ["_law_calls", "_law_word"]) (m := exSs (cb tab d) ir__law_all_say) D ⟨rfl, rfl, rfl, by decide +kernel, rfl, by decide +kernel, by decide +kernel⟩ (fun _ _ _ _ _ _ us hl => match us, hl with | [_, _], _ => rfl) (fun cd A outer s H E hcd hex hr => b__law_all_say h G LM FF cd A outer s H E hcd hex hr) (fun _ _ => rfl)
    have f22 : FnS P W (gx K) (clA K) mg base (d + 1) (FA K 22) ((cb tab (d + 1)).cf 22) := by
      obtain ⟨fd, D⟩ := h.d__law_whole
      exact fnS_of (g := gx K) (clA := clA K) (N := N__law_whole) (ps := ["_law_value", "_law_low", "_law_high"]) (m := exSs (cb tab d) ir__law_whole) D ⟨rfl, rfl, rfl, by decide +kernel, rfl, by decide +kernel, by decide +kernel⟩ (fun _ _ _ _ _ _ us hl => match us, hl with | [_, _, _], _ => rfl) (fun cd A outer s H E hcd hex hr => b__law_whole h G LM FF cd A outer s H E hcd hex hr) (fun _ _ => rfl)
    have f23 : FnS P W (gx K) (clA K) mg base (d + 1) (FA K 23) ((cb tab (d + 1)).cf 23) := by
      obtain ⟨fd, D⟩ := h.d__law_is_picture
      exact fnS_of (g := gx K) (clA := clA K) (N := N__law_is_picture) (ps := ["_law_value"]) (m := exSs (cb tab d) ir__law_is_picture) D ⟨rfl, rfl, rfl, by decide +kernel, rfl, by decide +kernel, by decide +kernel⟩ (fun _ _ _ _ _ _ us hl => match us, hl with | [_], _ => rfl) (fun cd A outer s H E hcd hex hr => b__law_is_picture h G LM FF cd A outer s H E hcd hex hr) (fun _ _ => rfl)
    have f24 : FnS P W (gx K) (clA K) mg base (d + 1) (FA K 24) ((cb tab (d + 1)).cf 24) := by
      obtain ⟨fd, D⟩ := h.d__law_is_lean
      exact fnS_of (g := gx K) (clA := clA K) (N := N__law_is_lean) (ps := ["_law_value"]) (m := exSs (cb tab d) ir__law_is_lean) D ⟨rfl, rfl, rfl, by decide +kernel, rfl, by decide +kernel, by decide +kernel⟩ (fun _ _ _ _ _ _ us hl => match us, hl with | [_], _ => rfl) (fun cd A outer s H E hcd hex hr => b__law_is_lean h G LM FF cd A outer s H E hcd hex hr) (fun _ _ => rfl)
    have f25 : FnS P W (gx K) (clA K) mg base (d + 1) (FA K 25) ((cb tab (d + 1)).cf 25) := by
      obtain ⟨fd, D⟩ := h.d__law_is_sum
      exact fnS_of (g := gx K) (clA := clA K) (N := N__law_is_sum) (ps := ["_law_picture", "_law_value"]) (m := exSs (cb tab d) ir__law_is_sum) D ⟨rfl, rfl, rfl, by decide +kernel, rfl, by decide +kernel, by decide +kernel⟩ (fun _ _ _ _ _ _ us hl => match us, hl with | [_, _], _ => rfl) (fun cd A outer s H E hcd hex hr => b__law_is_sum h G LM FF cd A outer s H E hcd hex hr) (fun _ _ => rfl)
    have f26 : FnS P W (gx K) (clA K) mg base (d + 1) (FA K 26) ((cb tab (d + 1)).cf 26) := by
      obtain ⟨fd, D⟩ := h.d__law_is_claim
      exact fnS_of (g := gx K) (clA := clA K) (N := N__law_is_claim) (ps := ["_law_picture", "_law_value"]) (m := exSs (cb tab d) ir__law_is_claim) D ⟨rfl, rfl, rfl, by decide +kernel, rfl, by decide +kernel, by decide +kernel⟩ (fun _ _ _ _ _ _ us hl => match us, hl with | [_, _], _ => rfl) (fun cd A outer s H E hcd hex hr => b__law_is_claim h G LM FF cd A outer s H E hcd hex hr) (fun _ _ => rfl)
    have f27 : FnS P W (gx K) (clA K) mg base (d + 1) (FA K 27) ((cb tab (d + 1)).cf 27) := by
      obtain ⟨fd, D⟩ := h.d__law_are_facts
      exact fnS_of (g := gx K) (clA := clA K) (N := N__law_are_facts) (ps := ["_law_picture", "_law_value"]) (m := exSs (cb tab d) ir__law_are_facts) D ⟨rfl, rfl, rfl, by decide +kernel, rfl, by decide +kernel, by decide +kernel⟩ (fun _ _ _ _ _ _ us hl => match us, hl with | [_, _], _ => rfl) (fun cd A outer s H E hcd hex hr => b__law_are_facts h G LM FF cd A outer s H E hcd hex hr) (fun _ _ => rfl)
    have f28 : FnS P W (gx K) (clA K) mg base (d + 1) (FA K 28) ((cb tab (d + 1)).cf 28) := by
      obtain ⟨fd, D⟩ := h.d__law_bent
      exact fnS_of (g := gx K) (clA := clA K) (N := N__law_bent) (ps := ["_law_spring_here", "_law_value"]) (m := exSs (cb tab d) ir__law_bent) D ⟨rfl, rfl, rfl, by decide +kernel, rfl, by decide +kernel, by decide +kernel⟩ (fun _ _ _ _ _ _ us hl => match us, hl with | [_, _], _ => rfl) (fun cd A outer s H E hcd hex hr => b__law_bent h G LM FF cd A outer s H E hcd hex hr) (fun _ _ => rfl)
    have f29 : FnS P W (gx K) (clA K) mg base (d + 1) (FA K 29) ((cb tab (d + 1)).cf 29) := by
      obtain ⟨fd, D⟩ := h.d__law_judged
      exact fnS_of (g := gx K) (clA := clA K) (N := N__law_judged) (ps := ["_law_picture", "_law_value"]) (m := exSs (cb tab d) ir__law_judged) D ⟨rfl, rfl, rfl, by decide +kernel, rfl, by decide +kernel, by decide +kernel⟩ (fun _ _ _ _ _ _ us hl => match us, hl with | [_, _], _ => rfl) (fun cd A outer s H E hcd hex hr => b__law_judged h G LM FF cd A outer s H E hcd hex hr) (fun _ _ => rfl)
    have f30 : FnS P W (gx K) (clA K) mg base (d + 1) (FA K 30) ((cb tab (d + 1)).cf 30) := by
      obtain ⟨fd, D⟩ := h.d__law_written
      exact fnS_of (g := gx K) (clA := clA K) (N := N__law_written) (ps := []) (m := exSs (cb tab d) ir__law_written) D ⟨rfl, rfl, rfl, by decide +kernel, rfl, by decide +kernel, by decide +kernel⟩ (fun _ _ _ _ _ _ us hl => match us, hl with | [], _ => rfl) (fun cd A outer s H E hcd hex hr => b__law_written h G LM FF cd A outer s H E hcd hex hr) (fun _ _ => rfl)
    have f31 : FnS P W (gx K) (clA K) mg base (d + 1) (FA K 31) ((cb tab (d + 1)).cf 31) := by
      obtain ⟨fd, D⟩ := h.d_law
      exact fnS_of (g := gx K) (clA := clA K) (N := N_law) (ps := ["_law_script"]) (m := exSs (cb tab d) ir_law) D ⟨rfl, rfl, rfl, by decide +kernel, rfl, by decide +kernel, by decide +kernel⟩ (fun _ _ _ _ _ _ us hl => match us, hl with | [_], _ => rfl) (fun cd A outer s H E hcd hex hr => b_law h G LM FF cd A outer s H E hcd hex hr) (fun _ _ => rfl)
    have l0 : LmS P W (gx K) (clA K) mg base (d + 1) 0 ((cb tab (d + 1)).cl 0) := lmS_of (g := gx K) (clA := clA K) (L := lam0) (m := evE (cb tab d) irl0) rfl (nscope_by (by kernel_rfl)) (fun _ _ _ _ => rfl) (fun cl c' f A outer s H E hr => bl_0 h G LM FF cl c' f A outer s H E hr) (fun _ _ => rfl)
    have l1 : LmS P W (gx K) (clA K) mg base (d + 1) 1 ((cb tab (d + 1)).cl 1) := lmS_of (g := gx K) (clA := clA K) (L := lam1) (m := evE (cb tab d) irl1) rfl (nscope_by (by kernel_rfl)) (fun _ _ _ _ => rfl) (fun cl c' f A outer s H E hr => bl_1 h G LM FF cl c' f A outer s H E hr) (fun _ _ => rfl)
    have l2 : LmS P W (gx K) (clA K) mg base (d + 1) 2 ((cb tab (d + 1)).cl 2) := lmS_of (g := gx K) (clA := clA K) (L := lam2) (m := evE (cb tab d) irl2) rfl (nscope_by (by kernel_rfl)) (fun _ _ _ _ => rfl) (fun cl c' f A outer s H E hr => bl_2 h G LM FF cl c' f A outer s H E hr) (fun _ _ => rfl)
    refine ⟨fun i => ?_, fun k => ?_, f12⟩
    · match i with
      | 0 => exact f0
      | 1 => exact f1
      | 2 => exact f2
      | 3 => exact f3
      | 4 => exact f4
      | 5 => exact f5
      | 6 => exact f6
      | 7 => exact f7
      | 8 => exact f8
      | 9 => exact f9
      | 10 => exact f10
      | 11 => exact f11
      | 12 => exact .ofF f12
      | 13 => exact f13
      | 14 => exact f14
      | 15 => exact f15
      | 16 => exact f16
      | 17 => exact f17
      | 18 => exact f18
      | 19 => exact .bad fun _ _ => rfl
      | 20 => exact f20
      | 21 => exact f21
      | 22 => exact f22
      | 23 => exact f23
      | 24 => exact f24
      | 25 => exact f25
      | 26 => exact f26
      | 27 => exact f27
      | 28 => exact f28
      | 29 => exact f29
      | 30 => exact f30
      | 31 => exact f31
      | _ + 32 => exact .bad fun _ _ => rfl
    · match k with
      | 0 => exact l0
      | 1 => exact l1
      | 2 => exact l2
      | _ + 3 => exact .bad fun _ _ => rfl
end
end K01
end
section
set_option maxHeartbeats 1000000
namespace PL
open PySem PySem.Spec PyProof.Rows L2 LamX NdefX
theorem getD_mem {α : Type} {l : List α} {i : Nat} {x : α} (h : i < l.length) : l.getD i x ∈ l := by
  rw [List.getD_eq_getElem?_getD, List.getElem?_eq_getElem h]
  exact List.getElem_mem h
def excCB (K : PySem.W.Frag) (D : Addr) : Bool :=
  decide (PySem.W.findIn K (.ref D) "__getattribute__" = some (some (.builtin "BaseException.__getattribute__"))) && (decide (PySem.W.findIn K (.ref D) "__getattr__" = some none) && (decide (PySem.W.subIn K (.ref D) (.type "BaseException") = some true) && (PySem.W.hasDictIn K D &&
  (decide (PySem.W.findIn K (.ref D) "__class__" = some (some (.builtin "object.__class__"))) && (decide (PySem.W.specialIn K (.builtin "object.__class__") "__get__" = some (some (.builtin "getset_descriptor.__get__"))) && (decide (PySem.W.takesIn K (.builtin "object.__class__") = some true) && decide (PySem.W.mroIn K D (.type "object") = some true)))))))
theorem excC_of {K : PySem.W.Frag} {D : Addr} (h : excCB K D = true) : ExcC K D := by
  unfold excCB at h
  simp only [Bool.and_eq_true, decide_eq_true_eq] at h
  obtain ⟨h1, h2, h3, h4, h5, h6, h7, h8⟩ := h
  exact ⟨h1, h2, h3, h4, h5, h6, h7, h8⟩
/-- what is asked of the errors' classes -/
def kinB (excs kins : List Str) (K : PySem.W.Frag) : Bool :=
  excs.all fun x => excCB K (He.ga K x) && (decide (PySem.W.kitOne K (.ref (He.ga K x)) (.type "ValueError") = some true) && (decide (PySem.W.exmOne K (.ref (He.ga K x)) (.ref (He.ga K "MarkError")) = some true) && kins.all fun y => decide (PySem.W.kitOne K (.ref (He.ga K x)) (.ref (He.ga K y)) = some (decide (x = y)))))
theorem kinB_ok {excs kins : List Str} {K : PySem.W.Frag} (h : kinB excs kins K = true) {x : Str} (hx : x ∈ excs) : ExcC K (He.ga K x) ∧ PySem.W.kitOne K (.ref (He.ga K x)) (.type "ValueError") = some true ∧ PySem.W.exmOne K (.ref (He.ga K x)) (.ref (He.ga K "MarkError")) = some true ∧
    ∀ y ∈ kins, PySem.W.kitOne K (.ref (He.ga K x)) (.ref (He.ga K y)) = some (decide (x = y)) := by
  have q := List.all_eq_true.mp h x hx
  simp only [Bool.and_eq_true, decide_eq_true_eq] at q
  obtain ⟨h1, h2, h3, h4⟩ := q
  exact ⟨excC_of h1, h2, h3, fun y hy => of_decide_eq_true (List.all_eq_true.mp h4 y hy)⟩
theorem no_exc {P : Program} {w : World} {H : Hp} {s : Shared} {e : Value} {s' : Shared} (x : L2N.CX P w [] H s (fun _ _ _ => False) e s') : False := by
  obtain ⟨_, _, _, _, _, _, _, _, _, _, _, _, q⟩ := x
  exact q
end PL
end
section
namespace K01
open PySem PySem.Spec PyProof.Rows L2 LamX NdefX PL
/-! ### the head -/
def fn : List He.DefD :=
  ([⟨("measure", none), "measure", "measure", defArgs (top 17), defBody (top 17), defScope (top 17), [], []⟩,
    ⟨("is_whole", none), "is_whole", "is_whole", defArgs (top 21), defBody (top 21), defScope (top 21), [], []⟩,
    ⟨("is_right_picture", none), "is_right_picture", "is_right_picture", defArgs (top 22), defBody (top 22), defScope (top 22), [], []⟩,
    ⟨("is_right_sum", none), "is_right_sum", "is_right_sum", defArgs (top 23), defBody (top 23), defScope (top 23), [], []⟩,
    ⟨("is_right_claim", none), "is_right_claim", "is_right_claim", defArgs (top 24), defBody (top 24), defScope (top 24), [], []⟩,
    ⟨("are_right_facts", none), "are_right_facts", "are_right_facts", defArgs (top 25), defBody (top 25), defScope (top 25), [], []⟩,
    ⟨("is_lean", none), "is_lean", "is_lean", defArgs (top 26), defBody (top 26), defScope (top 26), [], []⟩,
    ⟨("need_picture", none), "need_picture", "need_picture", defArgs (top 27), defBody (top 27), defScope (top 27), [], []⟩,
    ⟨("is_picture", none), "is_picture", "is_picture", defArgs (top 28), defBody (top 28), defScope (top 28), [], []⟩,
    ⟨("is_sum", none), "is_sum", "is_sum", defArgs (top 29), defBody (top 29), defScope (top 29), [], []⟩,
    ⟨("is_claim", none), "is_claim", "is_claim", defArgs (top 30), defBody (top 30), defScope (top 30), [], []⟩,
    ⟨("are_facts", none), "are_facts", "are_facts", defArgs (top 31), defBody (top 31), defScope (top 31), [], []⟩,
    ⟨("_law_spring", none), "_law_spring", "_law_spring", defArgs (top 33), defBody (top 33), defScope (top 33), [], []⟩,
    ⟨("_law_pick", none), "_law_pick", "_law_pick", defArgs (top 34), defBody (top 34), defScope (top 34), [], []⟩,
    ⟨("_law_chosen", none), "_law_chosen", "_law_chosen", defArgs (top 35), defBody (top 35), defScope (top 35), [], []⟩,
    ⟨("_law_shot", none), "_law_shot", "_law_shot", defArgs (top 36), defBody (top 36), defScope (top 36), [], []⟩,
    ⟨("_law_lengths", none), "_law_lengths", "_law_lengths", defArgs (top 37), defBody (top 37), defScope (top 37), [], []⟩,
    ⟨("_law_saying", none), "_law_saying", "_law_saying", defArgs (top 38), defBody (top 38), defScope (top 38), [], []⟩,
    ⟨("_law_sayings", none), "_law_sayings", "_law_sayings", defArgs (top 39), defBody (top 39), defScope (top 39), [], []⟩,
    ⟨("_law_kin", none), "_law_kin", "_law_kin", defArgs (top 40), defBody (top 40), defScope (top 40), [], []⟩] : List He.DefD) ++
  ([⟨("_law_came", none), "_law_came", "_law_came", defArgs (top 41), defBody (top 41), defScope (top 41), [], []⟩,
    ⟨("_law_all_say", none), "_law_all_say", "_law_all_say", defArgs (top 42), defBody (top 42), defScope (top 42), [], []⟩,
    ⟨("_law_whole", none), "_law_whole", "_law_whole", defArgs (top 43), defBody (top 43), defScope (top 43), [], []⟩,
    ⟨("_law_is_picture", none), "_law_is_picture", "_law_is_picture", defArgs (top 44), defBody (top 44), defScope (top 44), [], []⟩,
    ⟨("_law_is_lean", none), "_law_is_lean", "_law_is_lean", defArgs (top 45), defBody (top 45), defScope (top 45), [], []⟩,
    ⟨("_law_is_sum", none), "_law_is_sum", "_law_is_sum", defArgs (top 46), defBody (top 46), defScope (top 46), [], []⟩,
    ⟨("_law_is_claim", none), "_law_is_claim", "_law_is_claim", defArgs (top 47), defBody (top 47), defScope (top 47), [], []⟩,
    ⟨("_law_are_facts", none), "_law_are_facts", "_law_are_facts", defArgs (top 48), defBody (top 48), defScope (top 48), [], []⟩,
    ⟨("_law_bent", none), "_law_bent", "_law_bent", defArgs (top 49), defBody (top 49), defScope (top 49), [], []⟩,
    ⟨("_law_judged", none), "_law_judged", "_law_judged", defArgs (top 50), defBody (top 50), defScope (top 50), [], []⟩,
    ⟨("_law_written", none), "_law_written", "_law_written", defArgs (top 51), defBody (top 51), defScope (top 51), [], []⟩,
    ⟨("law", none), "law", "law", defArgs (top 52), defBody (top 52), defScope (top 52), [], []⟩] : List He.DefD)
def fa : List He.Fa := fnNames.map He.Fa.glo ++ (fnNames.map He.Fa.keep ++ (freeNames.map He.Fa.free ++ (excNames.map He.Fa.exc ++ (excNames.map He.Fa.glo ++ (kinNames.dropLast.map He.Fa.glo ++ ([.int "MOST_FACTS" (4), .glo "WORDS", .glo "MarkError", .free "ValueError"] : List He.Fa))))))
def ex (K : PySem.W.Frag) : Bool := (kinB excNames kinNames.dropLast K) && (He.tupB K "WORDS" [.str "less", .str "upto", .str "same"])
def tf : List He.Defn := [("_law_judged", none)]
section
variable {K : PySem.W.Frag} {mg : Str → Option Value} {base h0 : Heap} {W : World}
theorem head_facts (X : K.In base) (G : base.Ns mainGlobals mg) (c : He.SaysX fa fn [] tf ex W h0 K) (hT : ∀ p ∈ tf.map (He.cT K), TabB base mg p.1 p.2) : Hd K mg base := by
  have F : ∀ {f : He.Fa}, f ∈ fa → f.ok K = true := fun h => c.t.d.facts h
  have D : ∀ {d : He.DefD}, d ∈ fn → ∃ fd, FunD K d.name d.qual d.params d.body d.scope (d.dvs K) (d.kws K) (He.fAd K d.at_) fd := fun h => c.t.d.defs h
  have hex : ex K = true := c.more
  unfold ex at hex
  obtain ⟨hx0, hex⟩ := He.ba hex
  have in1 : ∀ {x}, x ∈ fnNames → He.Fa.glo x ∈ fa := fun h => List.mem_append_left _ (List.mem_map.mpr ⟨_, h, rfl⟩)
  have in2 : ∀ {x}, x ∈ fnNames → He.Fa.keep x ∈ fa := fun h => List.mem_append_right _ (List.mem_append_left _ (List.mem_map.mpr ⟨_, h, rfl⟩))
  have in3 : ∀ {x}, x ∈ freeNames → He.Fa.free x ∈ fa := fun h => List.mem_append_right _ (List.mem_append_right _ (List.mem_append_left _ (List.mem_map.mpr ⟨_, h, rfl⟩)))
  have in4 : ∀ {x}, x ∈ excNames → He.Fa.exc x ∈ fa := fun h => List.mem_append_right _ (List.mem_append_right _ (List.mem_append_right _ (List.mem_append_left _ (List.mem_map.mpr ⟨_, h, rfl⟩))))
  have in5 : ∀ {x}, x ∈ excNames → He.Fa.glo x ∈ fa := fun h => List.mem_append_right _ (List.mem_append_right _ (List.mem_append_right _ (List.mem_append_right _ (List.mem_append_left _ (List.mem_map.mpr ⟨_, h, rfl⟩)))))
  have in6 : ∀ {x}, x ∈ kinNames.dropLast → He.Fa.glo x ∈ fa := fun h => List.mem_append_right _ (List.mem_append_right _ (List.mem_append_right _ (List.mem_append_right _ (List.mem_append_right _ (List.mem_append_left _ (List.mem_map.mpr ⟨_, h, rfl⟩))))))
  have in7 : ∀ {f}, f ∈ ([.int "MOST_FACTS" (4), .glo "WORDS", .glo "MarkError", .free "ValueError"] : List He.Fa) → f ∈ fa := fun h => List.mem_append_right _ (List.mem_append_right _ (List.mem_append_right _ (List.mem_append_right _ (List.mem_append_right _ (List.mem_append_right _ h)))))
  have lf : fnNames.length = 32 := by rfl
  have lr : freeNames.length = 15 := by rfl
  have le : excNames.length = 1 := by rfl
  have lk : kinNames.dropLast.length = 14 := by rfl
  have ix : ∀ {α : Type} {l : List α} {i : Nat} {x : α} (n : Nat), l.length = n → i < n → l.getD i x ∈ l := fun n e h => getD_mem (by rw [e]; exact h)
  have kj : ∀ j, j < 14 → kinN j ∈ kinNames.dropLast := by decide +kernel
  exact {
    fn := fun i hi => ⟨He.glo_ok X G (F (in1 (ix _ lf hi))), He.keep_ok (F (in2 (ix _ lf hi)))⟩
    free := fun i hi => He.free_ok X G (F (in3 (ix _ lr hi)))
    exc := fun i hi => by
      obtain ⟨h1, h2, h3, h4⟩ := He.exc_ok (F (in4 (ix _ le hi)))
      exact ⟨h1, He.glo_ok X G (F (in5 (ix _ le hi))), h2, h3, h4⟩
    int_MOST_FACTS := He.int_ok X G (F (in7 (by simp)))
    tup_WORDS := ⟨He.glo_ok X G (F (in7 (by simp))), fun H => He.tupB_ok hex H⟩
    d_measure := D (d := ⟨("measure", none), "measure", "measure", defArgs (top 17), defBody (top 17), defScope (top 17), [], []⟩) (List.mem_of_getElem? (i := 0) rfl)
    d_is_whole := D (d := ⟨("is_whole", none), "is_whole", "is_whole", defArgs (top 21), defBody (top 21), defScope (top 21), [], []⟩) (List.mem_of_getElem? (i := 1) rfl)
    d_is_right_picture := D (d := ⟨("is_right_picture", none), "is_right_picture", "is_right_picture", defArgs (top 22), defBody (top 22), defScope (top 22), [], []⟩) (List.mem_of_getElem? (i := 2) rfl)
    d_is_right_sum := D (d := ⟨("is_right_sum", none), "is_right_sum", "is_right_sum", defArgs (top 23), defBody (top 23), defScope (top 23), [], []⟩) (List.mem_of_getElem? (i := 3) rfl)
    d_is_right_claim := D (d := ⟨("is_right_claim", none), "is_right_claim", "is_right_claim", defArgs (top 24), defBody (top 24), defScope (top 24), [], []⟩) (List.mem_of_getElem? (i := 4) rfl)
    d_are_right_facts := D (d := ⟨("are_right_facts", none), "are_right_facts", "are_right_facts", defArgs (top 25), defBody (top 25), defScope (top 25), [], []⟩) (List.mem_of_getElem? (i := 5) rfl)
    d_is_lean := D (d := ⟨("is_lean", none), "is_lean", "is_lean", defArgs (top 26), defBody (top 26), defScope (top 26), [], []⟩) (List.mem_of_getElem? (i := 6) rfl)
    d_need_picture := D (d := ⟨("need_picture", none), "need_picture", "need_picture", defArgs (top 27), defBody (top 27), defScope (top 27), [], []⟩) (List.mem_of_getElem? (i := 7) rfl)
    d_is_picture := D (d := ⟨("is_picture", none), "is_picture", "is_picture", defArgs (top 28), defBody (top 28), defScope (top 28), [], []⟩) (List.mem_of_getElem? (i := 8) rfl)
    d_is_sum := D (d := ⟨("is_sum", none), "is_sum", "is_sum", defArgs (top 29), defBody (top 29), defScope (top 29), [], []⟩) (List.mem_of_getElem? (i := 9) rfl)
    d_is_claim := D (d := ⟨("is_claim", none), "is_claim", "is_claim", defArgs (top 30), defBody (top 30), defScope (top 30), [], []⟩) (List.mem_of_getElem? (i := 10) rfl)
    d_are_facts := D (d := ⟨("are_facts", none), "are_facts", "are_facts", defArgs (top 31), defBody (top 31), defScope (top 31), [], []⟩) (List.mem_of_getElem? (i := 11) rfl)
    d__law_spring := D (d := ⟨("_law_spring", none), "_law_spring", "_law_spring", defArgs (top 33), defBody (top 33), defScope (top 33), [], []⟩) (List.mem_of_getElem? (i := 12) rfl)
    d__law_pick := D (d := ⟨("_law_pick", none), "_law_pick", "_law_pick", defArgs (top 34), defBody (top 34), defScope (top 34), [], []⟩) (List.mem_of_getElem? (i := 13) rfl)
    d__law_chosen := D (d := ⟨("_law_chosen", none), "_law_chosen", "_law_chosen", defArgs (top 35), defBody (top 35), defScope (top 35), [], []⟩) (List.mem_of_getElem? (i := 14) rfl)
    d__law_shot := D (d := ⟨("_law_shot", none), "_law_shot", "_law_shot", defArgs (top 36), defBody (top 36), defScope (top 36), [], []⟩) (List.mem_of_getElem? (i := 15) rfl)
    d__law_lengths := D (d := ⟨("_law_lengths", none), "_law_lengths", "_law_lengths", defArgs (top 37), defBody (top 37), defScope (top 37), [], []⟩) (List.mem_of_getElem? (i := 16) rfl)
    d__law_saying := D (d := ⟨("_law_saying", none), "_law_saying", "_law_saying", defArgs (top 38), defBody (top 38), defScope (top 38), [], []⟩) (List.mem_of_getElem? (i := 17) rfl)
    d__law_sayings := D (d := ⟨("_law_sayings", none), "_law_sayings", "_law_sayings", defArgs (top 39), defBody (top 39), defScope (top 39), [], []⟩) (List.mem_of_getElem? (i := 18) rfl)
    d__law_kin := D (d := ⟨("_law_kin", none), "_law_kin", "_law_kin", defArgs (top 40), defBody (top 40), defScope (top 40), [], []⟩) (List.mem_of_getElem? (i := 19) rfl)
    d__law_came := D (d := ⟨("_law_came", none), "_law_came", "_law_came", defArgs (top 41), defBody (top 41), defScope (top 41), [], []⟩) (List.mem_of_getElem? (i := 20) rfl)
    d__law_all_say := D (d := ⟨("_law_all_say", none), "_law_all_say", "_law_all_say", defArgs (top 42), defBody (top 42), defScope (top 42), [], []⟩) (List.mem_of_getElem? (i := 21) rfl)
    d__law_whole := D (d := ⟨("_law_whole", none), "_law_whole", "_law_whole", defArgs (top 43), defBody (top 43), defScope (top 43), [], []⟩) (List.mem_of_getElem? (i := 22) rfl)
    d__law_is_picture := D (d := ⟨("_law_is_picture", none), "_law_is_picture", "_law_is_picture", defArgs (top 44), defBody (top 44), defScope (top 44), [], []⟩) (List.mem_of_getElem? (i := 23) rfl)
    d__law_is_lean := D (d := ⟨("_law_is_lean", none), "_law_is_lean", "_law_is_lean", defArgs (top 45), defBody (top 45), defScope (top 45), [], []⟩) (List.mem_of_getElem? (i := 24) rfl)
    d__law_is_sum := D (d := ⟨("_law_is_sum", none), "_law_is_sum", "_law_is_sum", defArgs (top 46), defBody (top 46), defScope (top 46), [], []⟩) (List.mem_of_getElem? (i := 25) rfl)
    d__law_is_claim := D (d := ⟨("_law_is_claim", none), "_law_is_claim", "_law_is_claim", defArgs (top 47), defBody (top 47), defScope (top 47), [], []⟩) (List.mem_of_getElem? (i := 26) rfl)
    d__law_are_facts := D (d := ⟨("_law_are_facts", none), "_law_are_facts", "_law_are_facts", defArgs (top 48), defBody (top 48), defScope (top 48), [], []⟩) (List.mem_of_getElem? (i := 27) rfl)
    d__law_bent := D (d := ⟨("_law_bent", none), "_law_bent", "_law_bent", defArgs (top 49), defBody (top 49), defScope (top 49), [], []⟩) (List.mem_of_getElem? (i := 28) rfl)
    d__law_judged := D (d := ⟨("_law_judged", none), "_law_judged", "_law_judged", defArgs (top 50), defBody (top 50), defScope (top 50), [], []⟩) (List.mem_of_getElem? (i := 29) rfl)
    d__law_written := D (d := ⟨("_law_written", none), "_law_written", "_law_written", defArgs (top 51), defBody (top 51), defScope (top 51), [], []⟩) (List.mem_of_getElem? (i := 30) rfl)
    d_law := D (d := ⟨("law", none), "law", "law", defArgs (top 52), defBody (top 52), defScope (top 52), [], []⟩) (List.mem_of_getElem? (i := 31) rfl)
    kcls := fun i hi => (kinB_ok hx0 (ix _ le hi)).1
    kmg := fun j hj => He.glo_ok X G (F (in6 (kj j hj)))
    kit := fun i hi j hj => (kinB_ok hx0 (ix _ le hi)).2.2.2 _ (kj j hj)
    kitv := fun i hi => (kinB_ok hx0 (ix _ le hi)).2.1
    exm := fun i hi => (kinB_ok hx0 (ix _ le hi)).2.2.1
    mkE := He.glo_ok X G (F (in7 (by simp)))
    vfree := He.free_ok X G (F (in7 (by simp)))
    tab__law_judged := hT _ (List.mem_map.mpr ⟨("_law_judged", none), (List.mem_of_getElem? (i := 0) rfl), rfl⟩) }
end
abbrev Rr : PySem.W.OpenRow := PySem.W.OpenLaw.row PySem.Challenge.rw_leanmarks_k01_what_can_be_handed_in
abbrev hk : PySem.W.Hook := He.hookX 5 fa fn [] tf ex
def ob (s : PySem.W.SharedT) : He.AlX := He.obsX 5 fa fn [] tf ex (HandSHeadRun.getT s)
theorem ob_eq (s : PySem.W.SharedT) : ob s = hk.obs s.abs := He.obsX_eq (HandSHeadRun.getT_eq s)
def loose : List Str := (["MarkError", "InvalidPicture", "InvalidLean", "InvalidSum", "InvalidClaim", "InvalidFacts", "InvalidMark", "InvalidNumber", "InvalidIndex", "Impossible", "Unlike", "NotOne", "NothingToUndo", "TooMany", "InvalidText", "measure", "WORDS", "MOST_FACTS", "is_whole", "is_right_picture"] : List Str) ++ (["is_right_sum", "is_right_claim", "are_right_facts", "is_lean", "need_picture", "is_picture", "is_sum", "is_claim", "are_facts", "_law_spring", "_law_pick", "_law_chosen", "_law_shot", "_law_lengths", "_law_saying", "_law_sayings", "_law_kin", "_law_came", "_law_all_say", "_law_whole"] : List Str) ++ (["_law_is_picture", "_law_is_lean", "_law_is_sum", "_law_is_claim", "_law_are_facts", "_law_bent", "_law_judged", "_law_written"] : List Str)
theorem run (w : World) : HandSHeadRun.RunEq Rr (PySem.W.view Rr.prog [52]) hk ob 6000 loose w := by
  intro os
  kernel_rfl
end K01
end
section
namespace PL
open PySem
theorem op_add (a b : Int) : opV .add (.int a) (.int b) = some (.int (a + b)) := rfl
theorem op_sub (a b : Int) : opV .sub (.int a) (.int b) = some (.int (a - b)) := rfl
theorem cm_lt (a b : Int) : cmV .lt (.int a) (.int b) = some (decide (a < b)) := rfl
theorem cm_le (a b : Int) : cmV .le (.int a) (.int b) = some (decide (a ≤ b)) := rfl
theorem cm_gt (a b : Int) : cmV .gt (.int a) (.int b) = some (decide (b < a)) := rfl
theorem cm_ge (a b : Int) : cmV .ge (.int a) (.int b) = some (decide (b ≤ a)) := rfl
theorem eqD_int (a b : Int) : eqD (.int a) (.int b) = some (decide (a = b)) := by
  show (if SeqAt.shaped (.int a) && SeqAt.shaped (.int b) then some (PyData.eqv (.int a) (.int b)) else none) = _
  have h : ∀ z : Int, SeqAt.shaped (.int z) = true := fun _ => rfl
  rw [h, h]
  show some (PyData.eqv (.int a) (.int b)) = _
  by_cases e : a = b
  · subst e; simp [PyData.eqv]
  · simp [PyData.eqv, e]
theorem cm_eqi (a b : Int) : cmV .eq (.int a) (.int b) = some (decide (a = b)) := eqD_int a b
theorem cm_nei (a b : Int) : cmV .ne (.int a) (.int b) = some (!decide (a = b)) := by
  show (eqD (.int a) (.int b)).map (!·) = _
  rw [eqD_int]; rfl
theorem tr_bl (b : Bool) : truV (.bl b) = some b := rfl
theorem op_mod {a b : Int} (h : 0 < b) : opV .mod (.int a) (.int b) = some (.int (a % b)) := by
  show (if decide (0 < b) then some (Val.int (a % b)) else none) = _
  rw [decide_eq_true h]; rfl
theorem op_fdiv {a b : Int} (h : 0 < b) (h2 : b.natAbs < 2 ^ 9000) : opV .fdiv (.int a) (.int b) = some (.int (a / b)) := by
  show (if divOk b then some (Val.int (a / b)) else none) = _
  unfold divOk
  rw [decide_eq_true h, decide_eq_true h2]; rfl
theorem op_mul {a b : Int} (h : mulOk a b = true) : opV .mul (.int a) (.int b) = some (.int (a * b)) := by
  show (if mulOk a b then some (Val.int (a * b)) else none) = _
  rw [h]; rfl
theorem bi_abs (i : Int) : biV .abs [.int i] = some (.int (if i < 0 then -i else i)) := rfl
theorem bi_inti (i : Int) : biV .int [.int i] = some (.int i) := rfl
theorem bi_intb (b : Bool) : biV .int [.bl b] = some (.int (if b then 1 else 0)) := rfl
theorem bi_lent (l : List Val) : biV .len [.tup l] = some (.int l.length) := rfl
theorem bi_lenl (l : List Val) : biV .len [.lst l] = some (.int l.length) := rfl
theorem bi_lens (l : List Int) : biV .len [.scr l] = some (.int l.length) := rfl
theorem bi_max (i j : Int) : biV .max2 [.int i, .int j] = some (.int (if j > i then j else i)) := rfl
theorem bi_min (i j : Int) : biV .min2 [.int i, .int j] = some (.int (if j < i then j else i)) := rfl
theorem bi_tupt (l : List Val) : biV .tuple [.tup l] = some (.tup l) := rfl
theorem bi_tupl (l : List Val) : biV .tuple [.lst l] = some (.tup l) := rfl
theorem bi_lstt (l : List Val) : biV .list [.tup l] = some (.lst l) := rfl
theorem bi_lstl (l : List Val) : biV .list [.lst l] = some (.lst l) := rfl
theorem isi_t (t : Ty) (l : List Val) : isiV t (.tup l) = some (decide (t = .tuple)) := by cases t <;> rfl
theorem isi_l (t : Ty) (l : List Val) : isiV t (.lst l) = some (decide (t = .list)) := by cases t <;> rfl
theorem isi_i (t : Ty) (l : Int) : isiV t (.int l) = some (decide (t = .int)) := by cases t <;> rfl
theorem isi_b (t : Ty) (l : Bool) : isiV t (.bl l) = some (decide (t = .int) || decide (t = .bool)) := by cases t <;> rfl
theorem isi_n (t : Ty) : isiV t .non = some false := by cases t <;> rfl
theorem isi_s (t : Ty) (l : Str) : isiV t (.str l) = some (decide (t = .str)) := by cases t <;> rfl
end PL
namespace K01
open PySem PL
theorem cf_succ (d i : Nat) (args : List Ar) (κ : Ks) (D : DefI) (h : defs i = some D) (hl : args.length = D.np) : (cb tab (d + 1)).cf i args κ = (exSs (cb tab d) D.body (args.map Ar.slot ++ List.replicate (D.n - args.length) none) κ).fin := by
  show (match defs i with
    | some D => if args.length = D.np then (exSs (cb tab d) D.body (args.map Ar.slot ++ List.replicate (D.n - args.length) none) κ).fin else .bad
    | none => .bad) = _
  rw [h]
  simp [hl]
theorem s_whole (d : Nat) (n lo hi : Int) (κ : Ks) : (cb tab (d + 1)).cf 1 [.v (.int n), .v (.int lo), .v (.int hi)] κ = .ok (.bl (decide (lo ≤ n) && decide (n ≤ hi)), κ) := by
  rw [cf_succ _ _ _ _ _ rfl rfl]
  simp only [ir_is_whole, exSs, exS, evE, evT, evEs, evA, evBs, evO, evOt, evI, bw, rdV, rdB, R.bind_ok, R.bind_exc, R.bind_bad, R.ofO_some, R.ofO_none, R.toO_ok, R.toO_exc, R.toO_bad, O.then_nx, O.then_ret, O.then_exc, O.then_bad, O.fin_nx, O.fin_ret, O.fin_exc, O.fin_bad, Option.map_some, Option.map_none, List.map_cons, List.map_nil, Ar.slot, List.cons_append, List.nil_append, List.length_cons, List.length_nil, List.getElem?_cons_zero, List.getElem?_cons_succ, List.set_cons_zero, List.set_cons_succ, parR, biV, isiV, blV, ntV, ngV, intV, op_add, op_sub, cm_lt, cm_le, cm_gt, cm_ge, cm_eqi, cm_nei, tr_bl]
  cases h : decide (lo ≤ n) <;> simp [h]
/-! ### the greatest common divisor -/
theorem gcd_step {x y : Nat} : Nat.gcd y (x % y) = Nat.gcd x y := by
  rw [Nat.gcd_comm x y, Nat.gcd_rec y x, Nat.gcd_comm]
abbrev iGt : T := .cm .ne (.var 1) (.con (.int 0))
abbrev iGb : Ss := .cons (.par [(0, false), (1, false)] (.cons (.var 1) (.cons (.op .mod (.var 0) (.var 1)) .nil))) .nil
theorem w_measure (c : CB) : ∀ (n x y : Nat) (κ : Ks), y < n → whileL n (fun ρ κ => evT c iGt ρ κ) (fun ρ κ => exSs c iGb ρ κ) [some (.val (.int x)), some (.val (.int y))] κ
    = .nx [some (.val (.int (Nat.gcd x y : Nat))), some (.val (.int 0))] κ
  | 0, _, _, _, h => absurd h (Nat.not_lt_zero _)
  | n + 1, x, y, κ, h => by
    have e1 : evT c iGt [some (.val (.int x)), some (.val (.int y))] κ = .ok (!decide ((y : Int) = 0), κ) := by
      show R.ofO ((cmV .ne (.int y) (.int 0)).map fun v => (v, κ)) = _
      rw [cm_nei]; rfl
    unfold whileL
    show (evT c iGt [some (.val (.int x)), some (.val (.int y))] κ).toO _ = _
    rw [e1]
    by_cases hy : y = 0
    · subst hy
      rw [Nat.gcd_zero_right]
      rfl
    · have hp : (0 : Int) < (y : Int) := by omega
      have ih := w_measure c n y (x % y) κ (by have := Nat.mod_lt x (show 0 < y by omega); omega)
      have e2 : exSs c iGb [some (.val (.int x)), some (.val (.int y))] κ = .nx [some (.val (.int y)), some (.val (.int ((x % y : Nat) : Int)))] κ := by
        have em : opV .mod (.int x) (.int y) = some (.int ((x % y : Nat) : Int)) := op_mod hp
        simp only [exSs, exS, evE, evT, evEs, evA, evBs, evO, evOt, evI, bw, rdV, rdB, R.bind_ok, R.bind_exc, R.bind_bad, R.ofO_some, R.ofO_none, R.toO_ok, R.toO_exc, R.toO_bad, O.then_nx, O.then_ret, O.then_exc, O.then_bad, O.fin_nx, O.fin_ret, O.fin_exc, O.fin_bad, Option.map_some, Option.map_none, List.map_cons, List.map_nil, Ar.slot, List.cons_append, List.nil_append, List.length_cons, List.length_nil, List.getElem?_cons_zero, List.getElem?_cons_succ, List.set_cons_zero, List.set_cons_succ, parR, biV, isiV, blV, ntV, ngV, intV, op_add, op_sub, cm_lt, cm_le, cm_gt, cm_ge, cm_eqi, cm_nei, tr_bl, em]
      have hd : (!decide ((y : Int) = 0)) = true := by simp; omega
      rw [hd]
      simp only [R.toO_ok, if_true, e2, O.then_nx]
      rw [ih, gcd_step]
theorem s_measure (d : Nat) (a b : Int) (κ : Ks) (h : b.natAbs < BIG) : (cb tab (d + 1)).cf 0 [.v (.int a), .v (.int b)] κ = .ok (.int (Nat.gcd a.natAbs b.natAbs : Nat), κ) := by
  have ab : ∀ z : Int, (if z < 0 then -z else z) = (z.natAbs : Int) := fun z => by split <;> omega
  rw [cf_succ _ _ _ _ _ rfl rfl]
  show ((whileL BIG (fun ρ κ => evT (cb tab d) iGt ρ κ) (fun ρ κ => exSs (cb tab d) iGb ρ κ) [some (.val (.int (if a < 0 then -a else a))), some (.val (.int (if b < 0 then -b else b)))] κ).then _).fin = _
  rw [ab, ab, w_measure _ _ _ _ _ h]
  rfl
end K01
end
section
namespace PL
open PySem
theorem compL_map {f : Val → Ks → R (Option Val × Ks)} {g : Val → Val} {κ : Ks} : ∀ {l : List Val}, (∀ v ∈ l, f v κ = .ok (some (g v), κ)) → compL l f κ = .ok (l.map g, κ)
  | [], _ => rfl
  | v :: l, h => by
    unfold compL
    rw [h v List.mem_cons_self, R.bind_ok, compL_map fun u hu => h u (List.mem_cons_of_mem _ hu)]
    rfl
/-- [elt for .. in it], nothing raised, nothing written -/
theorem ev_comp {c : CB} {ee : E} {tg : Tg} {it : It} {own : List Nat} {ρ : Rho} {κ : Ks} {l : List Val} {g : Val → Val} (hi : evI c it ρ κ = .ok (l, κ)) (hl : l.length < LINE) (h : ∀ v ∈ l, ∃ ρ2, setTg tg v (wipeR ρ own) = some ρ2 ∧ evE c ee ρ2 κ = .ok (g v, κ)) :
    evE c (.comp ee tg it .no own) ρ κ = .ok (.lst (l.map g), κ) := by
  show (evI c it ρ κ).bind _ = _
  rw [hi, R.bind_ok]
  dsimp only
  rw [compL_map (g := g) fun v hv => ?_]
  · simp only [R.bind_ok, List.length_map]
    rw [if_pos hl]
  · obtain ⟨ρ2, h1, h2⟩ := h v hv
    rw [h1, R.ofO_some, R.bind_ok]
    show noExc ((R.ok (true, κ)).bind fun b => if b.1 = true then (evE c ee ρ2 b.2).bind fun x => R.ok (some x.1, x.2) else R.ok (none, b.2)) = _
    rw [R.bind_ok]
    simp only [if_true]
    rw [h2]
    rfl
theorem ev_compF {c : CB} {ee : E} {tg : Tg} {it : It} {own : List Nat} {ρ : Rho} {κ : Ks} {l : List Val} {g : Val → Val} (hi : evI c it ρ κ = .ok (l, κ)) (hl : l.length < LINE) (h : ∀ v ∈ l, ∃ ρ2, setTg tg v (wipeR ρ own) = some ρ2 ∧ evE c ee ρ2 κ = .ok (g v, κ)) :
    evE c (.comp ee tg it .no own) ρ κ = .ok (.lst (l.map g), κ) := ev_comp hi hl h
theorem all_bls : ∀ (l : List Bool), blsOf (l.map .bl) = some l
  | [] => rfl
  | b :: l => by
    show (blsOf (l.map .bl)).map (b :: ·) = _
    rw [all_bls l]; rfl
theorem bi_all (l : List Bool) : biV .all [.lst (l.map .bl)] = some (.bl (l.all id)) := by
  show (blsOf (l.map .bl)).map (fun bs => Val.bl (bs.all id)) = _
  rw [all_bls]; rfl
/-- a loop that only moves a state along -/
theorem loopL_inv {f : Val → Rho → Ks → O} {I : Nat → Rho → Ks → Prop} {l : List Val} : ∀ {n : Nat} {ρ : Rho} {κ : Ks}, n ≤ l.length → I n ρ κ → (∀ i v ρ κ, l[i]? = some v → I i ρ κ → ∃ ρ' κ', f v ρ κ = .nx ρ' κ' ∧ I (i + 1) ρ' κ') → ∃ ρ' κ', loopL (l.drop n) f ρ κ = .nx ρ' κ' ∧ I l.length ρ' κ' := by
  intro n
  generalize hm : l.length - n = m
  induction m generalizing n with
  | zero =>
    intro ρ κ hn h0 _
    have : n = l.length := by omega
    subst this
    rw [List.drop_length]
    exact ⟨ρ, κ, rfl, h0⟩
  | succ m ih =>
    intro ρ κ hn h0 st
    have hlt : n < l.length := by omega
    obtain ⟨ρ1, κ1, e1, h1⟩ := st n _ ρ κ (List.getElem?_eq_getElem hlt) h0
    obtain ⟨ρ2, κ2, e2, h2⟩ := ih (n := n + 1) (by omega) (by omega) h1 st
    refine ⟨ρ2, κ2, ?_, h2⟩
    rw [List.drop_eq_getElem_cons hlt]
    show (f _ ρ κ).then _ = _
    rw [e1]
    exact e2
theorem loop_inv {c : CB} {tg : Tg} {it : It} {b : Ss} {ρ : Rho} {κ κ1 : Ks} {l : List Val} (I : Nat → Rho → Ks → Prop) (hi : evI c it ρ κ = .ok (l, κ1)) (h0 : I 0 ρ κ1) (st : ∀ i v ρ κ, l[i]? = some v → I i ρ κ → ∃ ρ1 ρ' κ', setTg tg v ρ = some ρ1 ∧ exSs c b ρ1 κ = .nx ρ' κ' ∧ I (i + 1) ρ' κ') :
    ∃ ρ' κ', exS c (.loop tg it b) ρ κ = .nx ρ' κ' ∧ I l.length ρ' κ' := by
  have := loopL_inv (f := fun v ρ' κ' => match setTg tg v ρ' with
    | some ρ2 => exSs c b ρ2 κ'
    | none => .bad) (I := I) (l := l) (n := 0) (Nat.zero_le _) h0 (fun i v ρ κ hv hI => by
      obtain ⟨ρ1, ρ', κ', h1, h2, h3⟩ := st i v ρ κ hv hI
      exact ⟨ρ', κ', by rw [h1]; exact h2, h3⟩)
  obtain ⟨ρ', κ', e, h⟩ := this
  refine ⟨ρ', κ', ?_, h⟩
  show (evI c it ρ κ).toO _ = _
  rw [hi]
  exact e
end PL
end
section
namespace PL
open PySem
theorem mulOk1 {a b : Int} (h : a.natAbs < 2 ^ 64) : mulOk a b = true := by
  unfold mulOk
  rw [decide_eq_true h]; rfl
theorem mulOk2 {a b : Int} (h : b.natAbs < 2 ^ 64) : mulOk a b = true := by
  unfold mulOk
  rw [decide_eq_true h, Bool.or_true]; rfl
theorem big_of {n : Nat} (h : n < 2 ^ 9000) : n < BIG := by
  rw [BIG_eq]
  exact Nat.lt_of_lt_of_le h (Nat.pow_le_pow_right (by decide) (by decide))
theorem mulOk3 {a b : Int} (h : a.natAbs < 2 ^ 9000) (h2 : b.natAbs < 2 ^ 9000) : mulOk a b = true := by
  unfold mulOk
  rw [decide_eq_true (big_of h), decide_eq_true (big_of h2)]
  simp
theorem ix_tup {κ : Ks} {l : List Val} {i : Int} {v : Val} (h : L2.atI l i = some v) : ixV κ (.tup l) (.int i) = some v := h
theorem ix_lst {κ : Ks} {l : List Val} {i : Int} {v : Val} (h : L2.atI l i = some v) : ixV κ (.lst l) (.int i) = some v := h
/-- a fraction in its lowest terms -/
def gcdI (t b : Int) : Int := (Nat.gcd t.natAbs b.natAbs : Nat)
def lowP (t b : Int) : Val := .tup [.int (t / gcdI t b), .int (b / gcdI t b)]
theorem gcdI_pos {t b : Int} (h : 0 < b) : 0 < gcdI t b := by
  unfold gcdI
  have : 0 < Nat.gcd t.natAbs b.natAbs := Nat.gcd_pos_of_pos_right _ (by omega)
  omega
theorem gcdI_le {t b : Int} (h : 0 < b) : gcdI t b ≤ b := by
  unfold gcdI
  have : Nat.gcd t.natAbs b.natAbs ≤ b.natAbs := Nat.gcd_le_right _ (by omega)
  omega
theorem gcdI_bd {t b : Int} (h : 0 < b) {n : Nat} (hb : b.natAbs < n) : (gcdI t b).natAbs < n := by
  have h1 := gcdI_pos (t := t) h
  have h2 := gcdI_le (t := t) h
  omega
end PL
namespace K01
open PySem PL
end K01
end
section
namespace PL
open PySem
theorem gcdI_mul {g x y : Int} (h : 0 < g) : gcdI (g * x) (g * y) = g * gcdI x y := by
  unfold gcdI
  rw [Int.natAbs_mul, Int.natAbs_mul, Nat.gcd_mul_left]
  rw [Int.natCast_mul, Int.natAbs_of_nonneg (by omega : 0 ≤ g)]
theorem lowP_mul {g x y : Int} (h : 0 < g) : lowP (g * x) (g * y) = lowP x y := by
  unfold lowP
  rw [gcdI_mul h, Int.mul_ediv_mul_of_pos _ _ h, Int.mul_ediv_mul_of_pos _ _ h]
theorem gcdI_dvd1 (x y : Int) : gcdI x y ∣ x := by
  unfold gcdI
  exact Int.ofNat_dvd_left.mpr (Nat.gcd_dvd_left _ _)
theorem gcdI_dvd2 (x y : Int) : gcdI x y ∣ y := by
  unfold gcdI
  exact Int.ofNat_dvd_left.mpr (Nat.gcd_dvd_right _ _)
/-- a sum of a reduced fraction is told by the fraction that was reduced -/
theorem lowP_add {t b m d : Int} (hb : 0 < b) : lowP (t / gcdI t b * d + m * (b / gcdI t b)) (b / gcdI t b * d) = lowP (t * d + m * b) (b * d) := by
  have hg := gcdI_pos (t := t) hb
  obtain ⟨x, hx⟩ := gcdI_dvd1 t b
  obtain ⟨y, hy⟩ := gcdI_dvd2 t b
  generalize gcdI t b = g at *
  have e1 : t / g = x := by rw [hx]; exact Int.mul_ediv_cancel_left _ (by omega)
  have e2 : b / g = y := by rw [hy]; exact Int.mul_ediv_cancel_left _ (by omega)
  rw [e1, e2]
  have h1 : t * d + m * b = g * (x * d + m * y) := by rw [hx, hy, Int.mul_add]; congr 1 <;> ac_rfl
  have h2 : b * d = g * (y * d) := by rw [hy]; ac_rfl
  rw [h1, h2, lowP_mul hg]
end PL
namespace K01
open PySem PL
abbrev iLt : T := .cm .ne (.var 3) (.con (.int 0))
abbrev iLb : Ss := .cons (.par [(2, false), (3, false)] (.cons (.var 3) (.cons (.op .mod (.var 2) (.var 3)) .nil))) .nil
theorem w_low (c : CB) (u v : Option Slot) : ∀ (n x y : Nat) (κ : Ks), y < n → whileL n (fun ρ κ => evT c iLt ρ κ) (fun ρ κ => exSs c iLb ρ κ) [u, v, some (.val (.int x)), some (.val (.int y))] κ
    = .nx [u, v, some (.val (.int (Nat.gcd x y : Nat))), some (.val (.int 0))] κ
  | 0, _, _, _, h => absurd h (Nat.not_lt_zero _)
  | n + 1, x, y, κ, h => by
    have e1 : evT c iLt [u, v, some (.val (.int x)), some (.val (.int y))] κ = .ok (!decide ((y : Int) = 0), κ) := by
      show R.ofO ((cmV .ne (.int y) (.int 0)).map fun v => (v, κ)) = _
      rw [cm_nei]; rfl
    unfold whileL
    show (evT c iLt [u, v, some (.val (.int x)), some (.val (.int y))] κ).toO _ = _
    rw [e1]
    by_cases hy : y = 0
    · subst hy
      rw [Nat.gcd_zero_right]
      rfl
    · have hp : (0 : Int) < (y : Int) := by omega
      have ih := w_low c u v n y (x % y) κ (by have := Nat.mod_lt x (show 0 < y by omega); omega)
      have e2 : exSs c iLb [u, v, some (.val (.int x)), some (.val (.int y))] κ = .nx [u, v, some (.val (.int y)), some (.val (.int ((x % y : Nat) : Int)))] κ := by
        have em : opV .mod (.int x) (.int y) = some (.int ((x % y : Nat) : Int)) := op_mod hp
        simp only [exSs, exS, evE, evT, evEs, evA, evBs, evO, evOt, evI, bw, rdV, rdB, R.bind_ok, R.bind_exc, R.bind_bad, R.ofO_some, R.ofO_none, R.toO_ok, R.toO_exc, R.toO_bad, O.then_nx, O.then_ret, O.then_exc, O.then_bad, O.fin_nx, O.fin_ret, O.fin_exc, O.fin_bad, Option.map_some, Option.map_none, List.map_cons, List.map_nil, Ar.slot, List.cons_append, List.nil_append, List.length_cons, List.length_nil, List.getElem?_cons_zero, List.getElem?_cons_succ, List.set_cons_zero, List.set_cons_succ, parR, biV, isiV, blV, ntV, ngV, intV, op_add, op_sub, cm_lt, cm_le, cm_gt, cm_ge, cm_eqi, cm_nei, tr_bl, em]
      have hd : (!decide ((y : Int) = 0)) = true := by simp; omega
      rw [hd]
      simp only [R.toO_ok, if_true, e2, O.then_nx]
      rw [ih, gcd_step]
end K01
end
section
namespace PL
open PySem
theorem lowP_zero : lowP 0 1 = .tup [.int 0, .int 1] := rfl
/-- a mark's place -/
def plX (a b m : Int) : Int := m * b / gcdI (m * b) (b + m * a)
def plY (a b m : Int) : Int := (b + m * a) / gcdI (m * b) (b + m * a)
theorem lowP_pl (a b m : Int) : lowP (m * b) (b + m * a) = .tup [.int (plX a b m), .int (plY a b m)] := rfl
/-- a lean that may be given -/
structure LeanOk (a b : Int) : Prop where
  a0 : 0 ≤ a
  a1 : a ≤ 1000000000
  b0 : 1 ≤ b
  b1 : b ≤ 1000000000
theorem LeanOk.pos {a b m : Int} (h : LeanOk a b) (hm : 0 ≤ m) : 0 < b + m * a := by
  have := Int.mul_nonneg hm h.a0
  have := h.b0
  omega
theorem LeanOk.le {a b m : Int} (h : LeanOk a b) (hm : 0 ≤ m) (hm2 : m ≤ 60) : b + m * a ≤ 61000000000 := by
  have h1 : m * a ≤ 60 * 1000000000 := Int.mul_le_mul hm2 h.a1 h.a0 (by omega)
  have := h.b1
  omega
theorem LeanOk.top {a b m : Int} (h : LeanOk a b) (hm : 0 ≤ m) (hm2 : m ≤ 60) : 0 ≤ m * b ∧ m * b ≤ 60000000000 := by
  have h1 : m * b ≤ 60 * 1000000000 := Int.mul_le_mul hm2 h.b1 (by have := h.b0; omega) (by omega)
  have h2 := Int.mul_nonneg hm (show 0 ≤ b by have := h.b0; omega)
  omega
theorem plX_bd {a b m : Int} (h : LeanOk a b) (hm : 0 ≤ m) (hm2 : m ≤ 60) : 0 ≤ plX a b m ∧ plX a b m < 2 ^ 36 := by
  have hp := gcdI_pos (t := m * b) (h.pos hm)
  obtain ⟨t0, t1⟩ := h.top hm hm2
  unfold plX
  refine ⟨Int.ediv_nonneg t0 (by omega), ?_⟩
  have := Int.ediv_le_self (b := gcdI (m * b) (b + m * a)) t0
  omega
theorem plY_bd {a b m : Int} (h : LeanOk a b) (hm : 0 ≤ m) (hm2 : m ≤ 60) : 0 < plY a b m ∧ plY a b m < 2 ^ 36 := by
  have hp := gcdI_pos (t := m * b) (h.pos hm)
  have hle := gcdI_le (t := m * b) (h.pos hm)
  have p0 := h.pos hm
  have p1 := h.le hm hm2
  unfold plY
  refine ⟨Int.ediv_pos_of_pos_of_dvd p0 (by omega) (gcdI_dvd2 _ _), ?_⟩
  have := Int.ediv_le_self (b := gcdI (m * b) (b + m * a)) (show 0 ≤ b + m * a by omega)
  omega
/-- a part of a sum: how often, from where, to where -/
abbrev Part := Int × Nat × Nat
def Part.v (x : Part) : Val := .tup [.int x.1, .int x.2.1, .int x.2.2]
/-- what a part adds -/
def moreOf (a b : Int) (q : List Int) (x : Part) : Int := x.1 * (plX a b (q.getD x.2.2 0) * plY a b (q.getD x.2.1 0) - plX a b (q.getD x.2.1 0) * plY a b (q.getD x.2.2 0))
def downOf (a b : Int) (q : List Int) (x : Part) : Int := plY a b (q.getD x.2.1 0) * plY a b (q.getD x.2.2 0)
def accL (a b : Int) (q : List Int) : List Part → Int × Int → Int × Int
  | [], z => z
  | x :: l, z => accL a b q l (z.1 * downOf a b q x + moreOf a b q x * z.2, z.2 * downOf a b q x)
/-- marks that may stand in a picture -/
def MarksOk (q : List Int) : Prop := ∀ m ∈ q, 0 ≤ m ∧ m ≤ 60
def PartOk (q : List Int) (x : Part) : Prop := 1 ≤ x.1 ∧ x.1 ≤ 9 ∧ x.2.1 < q.length ∧ x.2.2 < q.length
theorem MarksOk.at_ {q : List Int} (h : MarksOk q) {i : Nat} (hi : i < q.length) : 0 ≤ q.getD i 0 ∧ q.getD i 0 ≤ 60 := by
  rw [List.getD_eq_getElem?_getD, List.getElem?_eq_getElem hi]
  exact h _ (List.getElem_mem hi)
theorem down_bd {a b : Int} {q : List Int} {x : Part} (h : LeanOk a b) (hq : MarksOk q) (hx : PartOk q x) : 0 < downOf a b q x ∧ downOf a b q x < 2 ^ 72 := by
  obtain ⟨f0, f1⟩ := hq.at_ hx.2.2.1
  obtain ⟨l0, l1⟩ := hq.at_ hx.2.2.2
  obtain ⟨y0, y1⟩ := plY_bd h f0 f1
  obtain ⟨z0, z1⟩ := plY_bd h l0 l1
  unfold downOf
  refine ⟨Int.mul_pos y0 z0, ?_⟩
  calc plY a b (q.getD x.2.1 0) * plY a b (q.getD x.2.2 0) < 2 ^ 36 * 2 ^ 36 := Int.mul_lt_mul y1 (by omega) z0 (by decide)
    _ = 2 ^ 72 := by decide
theorem more_bd {a b : Int} {q : List Int} {x : Part} (h : LeanOk a b) (hq : MarksOk q) (hx : PartOk q x) : (moreOf a b q x).natAbs < 2 ^ 80 := by
  obtain ⟨f0, f1⟩ := hq.at_ hx.2.2.1
  obtain ⟨l0, l1⟩ := hq.at_ hx.2.2.2
  obtain ⟨y0, y1⟩ := plY_bd h f0 f1
  obtain ⟨z0, z1⟩ := plY_bd h l0 l1
  obtain ⟨u0, u1⟩ := plX_bd h f0 f1
  obtain ⟨v0, v1⟩ := plX_bd h l0 l1
  obtain ⟨o0, o1, _⟩ := hx
  unfold moreOf
  generalize plX a b (q.getD x.2.2 0) = V at *
  generalize plX a b (q.getD x.2.1 0) = U at *
  generalize plY a b (q.getD x.2.1 0) = Y at *
  generalize plY a b (q.getD x.2.2 0) = Z at *
  have h1 : V * Y ≤ 2 ^ 36 * 2 ^ 36 := Int.mul_le_mul (by omega) (by omega) (by omega) (by decide)
  have h2 : U * Z ≤ 2 ^ 36 * 2 ^ 36 := Int.mul_le_mul (by omega) (by omega) (by omega) (by decide)
  have h3 : 0 ≤ V * Y := Int.mul_nonneg v0 (by omega)
  have h4 : 0 ≤ U * Z := Int.mul_nonneg u0 (by omega)
  generalize V * Y = A at *
  generalize U * Z = B at *
  have hd : (A - B).natAbs ≤ 2 ^ 72 := by omega
  rw [Int.natAbs_mul]
  calc x.1.natAbs * (A - B).natAbs ≤ 9 * 2 ^ 72 := Nat.mul_le_mul (by omega) hd
    _ < 2 ^ 80 := by decide
end PL
end
section
namespace PL
open PySem
theorem atI_nat {α : Type} {l : List α} {n : Nat} (h : n < l.length) : L2.atI l (n : Int) = l[n]? := by
  unfold L2.atI L2.ixN
  have h1 : ¬ ((n : Int) < 0) := by omega
  simp [h1, h]
theorem ix_pic {κ : Ks} {q : List Int} {n : Nat} (h : n < q.length) : ixV κ (.tup (q.map .int)) (.int n) = some (.int (q.getD n 0)) := by
  show L2.atI (q.map Val.int) (n : Int) = _
  rw [atI_nat (by rw [List.length_map]; exact h), List.getElem?_map, List.getD_eq_getElem?_getD, List.getElem?_eq_getElem h]
  rfl
end PL
namespace K01
open PySem PL
end K01
end
section
namespace PL
open PySem
def stepL (a b : Int) (q : List Int) (z : Int × Int) (x : Part) : Int × Int := (z.1 * downOf a b q x + moreOf a b q x * z.2, z.2 * downOf a b q x)
def sumL (a b : Int) (q : List Int) (l : List Part) : Int × Int := l.foldl (stepL a b q) (0, 1)
theorem sumL_succ {a b : Int} {q : List Int} {l : List Part} {n : Nat} {x : Part} (h : l[n]? = some x) : sumL a b q (l.take (n + 1)) = stepL a b q (sumL a b q (l.take n)) x := by
  unfold sumL
  rw [List.take_add_one, h, List.foldl_append]
  rfl
/-- how great a sum may be -/
theorem sumL_bd {a b : Int} {q : List Int} (hl : LeanOk a b) (hq : MarksOk q) {l : List Part} (h : ∀ x ∈ l, PartOk q x) : ∀ n, n ≤ l.length → 0 < (sumL a b q (l.take n)).2 ∧ (sumL a b q (l.take n)).2 ≤ 2 ^ (72 * n) ∧ (sumL a b q (l.take n)).1.natAbs ≤ n * 2 ^ (80 * n)
  | 0, _ => ⟨show (0 : Int) < 1 by decide, show (1 : Int) ≤ 2 ^ 0 by decide, show (0 : Int).natAbs ≤ 0 * 2 ^ 0 by decide⟩
  | n + 1, hn => by
    obtain ⟨h1, h2, h3⟩ := sumL_bd hl hq h n (by omega)
    have hlt : n < l.length := by omega
    have gx := List.getElem?_eq_getElem hlt
    have hx := h _ (List.getElem_mem hlt)
    generalize l[n] = x at *
    obtain ⟨d0, d1⟩ := down_bd hl hq hx
    have mb := more_bd hl hq hx
    rw [sumL_succ gx]
    unfold stepL
    generalize sumL a b q (l.take n) = z at *
    generalize downOf a b q x = D at *
    generalize moreOf a b q x = M at *
    obtain ⟨t, w⟩ := z
    dsimp only at *
    have p72 : (2 : Int) ^ (72 * (n + 1)) = 2 ^ (72 * n) * 2 ^ 72 := by rw [Nat.mul_add, Int.pow_add]
    refine ⟨Int.mul_pos h1 d0, ?_, ?_⟩
    · rw [p72]
      exact Int.mul_le_mul h2 (by omega) (by omega) (by have : (0:Int) < 2 ^ (72 * n) := Int.pow_pos (by decide); omega)
    · have p80 : 2 ^ (80 * (n + 1)) = 2 ^ (80 * n) * 2 ^ 80 := by rw [Nat.mul_add, Nat.pow_add]
      have hD : D.natAbs ≤ 2 ^ 80 := by
        have : (2:Int)^72 ≤ 2^80 := by decide
        omega
      have hW : w.natAbs ≤ 2 ^ (80 * n) := by
        have h4 : (2 : Int) ^ (72 * n) = ((2 ^ (72 * n) : Nat) : Int) := by push_cast; rfl
        have h5 : 2 ^ (72 * n) ≤ 2 ^ (80 * n) := Nat.pow_le_pow_right (by decide) (by omega)
        omega
      have a1 : (t * D).natAbs ≤ n * 2 ^ (80 * n) * 2 ^ 80 := by rw [Int.natAbs_mul]; exact Nat.mul_le_mul h3 hD
      have a2 : (M * w).natAbs ≤ 2 ^ 80 * 2 ^ (80 * n) := by rw [Int.natAbs_mul]; exact Nat.mul_le_mul (by omega) hW
      have a3 : (t * D + M * w).natAbs ≤ (t * D).natAbs + (M * w).natAbs := Int.natAbs_add_le _ _
      rw [p80]
      calc (t * D + M * w).natAbs ≤ n * 2 ^ (80 * n) * 2 ^ 80 + 2 ^ 80 * 2 ^ (80 * n) := by omega
        _ = (n + 1) * (2 ^ (80 * n) * 2 ^ 80) := by rw [Nat.add_mul, Nat.one_mul, Nat.mul_assoc, Nat.mul_comm (2 ^ 80)]
end PL
namespace K01
open PySem PL
def parV (l : List Part) : Val := .tup (l.map Part.v)
def picV (q : List Int) : Val := .tup (q.map .int)
theorem pow_le {n k : Nat} (h : n ≤ 8) (hk : k ≤ n * 2 ^ (80 * n)) : k < 2 ^ 8000 := by
  have h1 : n * 2 ^ (80 * n) ≤ 8 * 2 ^ 640 := Nat.mul_le_mul h (Nat.pow_le_pow_right (by decide) (by omega))
  have h2 : 8 * 2 ^ 640 < 2 ^ 700 := by decide
  have h3 : (2:Nat) ^ 700 ≤ 2 ^ 8000 := Nat.pow_le_pow_right (by decide) (by decide)
  exact Nat.lt_of_le_of_lt hk (Nat.lt_of_le_of_lt h1 (Nat.lt_of_lt_of_le h2 h3))
end K01
end
section
namespace K01
open PySem PL
end K01
end
section
namespace K01
open PySem PL
end K01
end
section
namespace K01
open PySem PL
end K01
end
section
namespace PL
open PySem
/-- whether a claim of two lengths is kept -/
def fitB (w : Str) (m y : Int) : Bool := if (w == ("same" : Str)) = true then decide (m = y) else decide (m < y) || ((w == ("upto" : Str)) && decide (m = y))
def WordOk (w : Str) : Prop := w = "less" ∨ w = "upto" ∨ w = "same"
theorem cm_ltB (a b : Int) : decide (a - b < 0) = decide (a < b) := by
  by_cases h : a < b <;> simp [h] <;> omega
theorem cm_gtB (a b : Int) : decide (0 < a - b) = decide (b < a) := by
  by_cases h : b < a <;> simp [h] <;> omega
/-- a claim -/
structure Clm where
  w : Str
  l : List Part
  r : List Part
end PL
namespace K01
open PySem PL
def Clm.v (c : Clm) : Val := .tup [.str c.w, parV c.l, parV c.r]
/-- the lengths of a sum: told in lowest terms -/
def numL (a b : Int) (q : List Int) (l : List Part) : Int := (sumL a b q l).1 / gcdI (sumL a b q l).1 (sumL a b q l).2
def denL (a b : Int) (q : List Int) (l : List Part) : Int := (sumL a b q l).2 / gcdI (sumL a b q l).1 (sumL a b q l).2
theorem lowL (a b : Int) (q : List Int) (l : List Part) : lowP (sumL a b q l).1 (sumL a b q l).2 = .tup [.int (numL a b q l), .int (denL a b q l)] := rfl
theorem num_bd {a b : Int} {q : List Int} {l : List Part} (hl : LeanOk a b) (hq : MarksOk q) (hp : ∀ x ∈ l, PartOk q x) (hn : l.length ≤ 8) : (numL a b q l).natAbs < 2 ^ 8000 ∧ 0 < denL a b q l ∧ (denL a b q l).natAbs < 2 ^ 8000 := by
  obtain ⟨w0, w1, w2⟩ := sumL_bd hl hq hp l.length (Nat.le_refl _)
  have full : l.take l.length = l := List.take_length
  rw [full] at w0 w1 w2
  have b1 := pow_le hn w2
  have b2 : (sumL a b q l).2.natAbs < 2 ^ 8000 := by
    have h4 : (2 : Int) ^ (72 * l.length) = ((2 ^ (72 * l.length) : Nat) : Int) := by push_cast; rfl
    have h5 : (2:Nat) ^ (72 * l.length) < 2 ^ 8000 := Nat.pow_lt_pow_right (by decide) (by omega)
    omega
  unfold numL denL
  generalize sumL a b q l = z at *
  obtain ⟨t, w⟩ := z
  dsimp only at *
  have hg := gcdI_pos (t := t) w0
  have yp : 0 < w / gcdI t w := Int.ediv_pos_of_pos_of_dvd w0 (by omega) (gcdI_dvd2 _ _)
  have yle : w / gcdI t w ≤ w := Int.ediv_le_self _ (by omega)
  have xle : (t / gcdI t w).natAbs ≤ t.natAbs := by
    obtain ⟨k, hk⟩ := gcdI_dvd1 t w
    have e1 : t / gcdI t w = k := by
      generalize gcdI t w = g at *
      rw [hk]; exact Int.mul_ediv_cancel_left _ (by omega)
    rw [e1]
    have : t.natAbs = (gcdI t w).natAbs * k.natAbs := by rw [← Int.natAbs_mul, ← hk]
    rw [this]
    exact Nat.le_mul_of_pos_left _ (by omega)
  refine ⟨by omega, yp, by omega⟩
/-- whether a claim is kept -/
def keptB (a b : Int) (q : List Int) (c : Clm) : Bool := fitB c.w (numL a b q c.l * denL a b q c.r) (numL a b q c.r * denL a b q c.l)
theorem mul_ok {x y : Int} (h : x.natAbs < 2 ^ 8000) (h2 : y.natAbs < 2 ^ 8000) : opV .mul (.int x) (.int y) = some (.int (x * y)) :=
  op_mul (mulOk3 (Nat.lt_of_lt_of_le h (Nat.pow_le_pow_right (by decide) (by decide))) (Nat.lt_of_lt_of_le h2 (Nat.pow_le_pow_right (by decide) (by decide))))
end K01
end
section
namespace PL
open PySem
/-- the spring of drawn numbers -/
def Spr (κ : Ks) (i : Nat) : Prop := ∃ a b : Int, κ[i]? = some (.lst [.int a, .int b]) ∧ 0 ≤ a ∧ 0 ≤ b ∧ b ≤ 2147483587
theorem ix_cell {κ : Ks} {i : Nat} {l : List Val} {n : Int} (h : κ[i]? = some (.lst l)) : ixV κ (.cell i) (.int n) = L2.atI l n := by
  show (match κ[i]? with | some (.lst l) => L2.atI l n | _ => none) = _
  rw [h]
theorem spr_set {κ : Ks} {i : Nat} {l : List Val} (h : κ[i]? = some (.lst l)) {a b : Int} (ha : 0 ≤ a) (hb : 0 ≤ b) (hb2 : b ≤ 2147483587) : Spr (κ.set i (.lst [.int a, .int b])) i := by
  refine ⟨a, b, ?_, ha, hb, hb2⟩
  have := (List.getElem?_eq_some_iff.mp h).1
  rw [List.getElem?_set_self this]
theorem ixN2_0 : L2.ixN (0 + 1 + 1) 0 = some 0 := rfl
theorem ixN2_1 : L2.ixN (0 + 1 + 1) 1 = some 1 := rfl
end PL
namespace K01
open PySem PL
theorem s_pick (d : Nat) {κ : Ks} {i : Nat} (hS : Spr κ i) {m : Int} (h1 : 1 ≤ m) (h2 : m ≤ 2 ^ 200) : ∃ r κ', (cb tab (d + 1)).cf 13 [.v (.cell i), .v (.int m)] κ = .ok (.int r, κ') ∧ 0 ≤ r ∧ r < m ∧ Spr κ' i ∧ κ'.length = κ.length := by
  obtain ⟨a, b, hk, ha, hb, hb2⟩ := hS
  rw [cf_succ _ _ _ _ _ rfl rfl]
  have i0 : ixV κ (.cell i) (.int 0) = some (.int a) := by rw [ix_cell hk]; rfl
  have i1 : ixV κ (.cell i) (.int 1) = some (.int b) := by rw [ix_cell hk]; rfl
  have mm : ∀ z : Int, opV .mod (.int z) (.int m) = some (.int (z % m)) := fun z => op_mod (by omega)
  have fm : ∀ z : Int, opV .fdiv (.int z) (.int m) = some (.int (z / m)) := fun z => op_fdiv (by omega) (Nat.lt_of_le_of_lt (show m.natAbs ≤ 2 ^ 200 by omega) (Nat.pow_lt_pow_right (by decide) (by decide)))
  have lt := (List.getElem?_eq_some_iff.mp hk).1
  by_cases h0 : 0 < a
  · refine ⟨a % m, κ.set i (.lst [.int (a / m), .int b]), ?_, Int.emod_nonneg _ (by omega), Int.emod_lt_of_pos _ (by omega), spr_set hk (Int.ediv_nonneg ha (by omega)) hb hb2, List.length_set ..⟩
    simp only [ir__law_pick, List.replicate, Nat.reduceSub, exSs, exS, evE, evT, evEs, evA, evBs, evO, evOt, evI, bw, rdV, rdB, R.bind_ok, R.bind_exc, R.bind_bad, R.ofO_some, R.ofO_none, R.toO_ok, R.toO_exc, R.toO_bad, O.then_nx, O.then_ret, O.then_exc, O.then_bad, O.fin_nx, O.fin_ret, O.fin_exc, O.fin_bad, Option.map_some, Option.map_none, List.map_cons, List.map_nil, Ar.slot, List.cons_append, List.nil_append, List.length_cons, List.length_nil, List.getElem?_cons_zero, List.getElem?_cons_succ, List.set_cons_zero, List.set_cons_succ, parR, bi_abs, bi_inti, bi_intb, bi_lent, bi_lenl, bi_lens, bi_max, bi_min, bi_tupt, bi_tupl, bi_lstt, bi_lstl, isi_t, isi_l, isi_i, isi_b, isi_n, isi_s, reduceCtorEq, decide_true, decide_false, Bool.or_true, Bool.or_false, Bool.true_or, Bool.false_or, blV, ntV, ngV, intV, op_add, op_sub, cm_lt, cm_le, cm_gt, cm_ge, cm_eqi, cm_nei, tr_bl, i0, h0, decide_true, if_true, mm, fm, hk, ixN2_0]
  · have a0 : a = 0 := by omega
    have f7 : ∀ z : Int, opV .fdiv (.int z) (.int 7) = some (.int (z / 7)) := fun z => op_fdiv (by decide) (Nat.lt_of_lt_of_le (show 7 < 2 ^ 3 by decide) (Nat.pow_le_pow_right (by decide) (by decide)))
    have f64 : ∀ z : Int, opV .fdiv (.int z) (.int 64) = some (.int (z / 64)) := fun z => op_fdiv (by decide) (Nat.lt_of_lt_of_le (show 64 < 2 ^ 8 by decide) (Nat.pow_le_pow_right (by decide) (by decide)))
    have m1 : opV .mul (.int b) (.int 44021) = some (.int (b * 44021)) := op_mul (mulOk2 (by decide))
    have n1 : ∀ z : Int, opV .mod (.int z) (.int 2147483587) = some (.int (z % 2147483587)) := fun z => op_mod (by decide)
    have n2 : ∀ z : Int, opV .mod (.int z) (.int 2147483563) = some (.int (z % 2147483563)) := fun z => op_mod (by decide)
    have c0 : 0 ≤ (b * 44021 + 97) % 2147483587 := Int.emod_nonneg _ (by decide)
    have c1 : (b * 44021 + 97) % 2147483587 < 2147483587 := Int.emod_lt_of_pos _ (by decide)
    generalize hc : (b * 44021 + 97) % 2147483587 = c at *
    have m2 : ∀ z : Int, opV .mul (.int c) (.int z) = some (.int (c * z)) := fun z => op_mul (mulOk1 (by omega))
    have hk2 : (κ.set i (.lst [.int a, .int c]))[i]? = some (.lst [.int a, .int c]) := by rw [List.getElem?_set_self lt]
    have j1 : ixV (κ.set i (.lst [.int a, .int c])) (.cell i) (.int 1) = some (.int c) := by rw [ix_cell hk2]; rfl
    refine ⟨(c * (c / 7 + 3)) % 2147483563 / 64 % m, κ.set i (.lst [.int a, .int c]), ?_, Int.emod_nonneg _ (by omega), Int.emod_lt_of_pos _ (by omega), spr_set hk ha c0 (by omega), List.length_set ..⟩
    simp only [ir__law_pick, List.replicate, Nat.reduceSub, exSs, exS, evE, evT, evEs, evA, evBs, evO, evOt, evI, bw, rdV, rdB, R.bind_ok, R.bind_exc, R.bind_bad, R.ofO_some, R.ofO_none, R.toO_ok, R.toO_exc, R.toO_bad, O.then_nx, O.then_ret, O.then_exc, O.then_bad, O.fin_nx, O.fin_ret, O.fin_exc, O.fin_bad, Option.map_some, Option.map_none, List.map_cons, List.map_nil, Ar.slot, List.cons_append, List.nil_append, List.length_cons, List.length_nil, List.getElem?_cons_zero, List.getElem?_cons_succ, List.set_cons_zero, List.set_cons_succ, parR, bi_abs, bi_inti, bi_intb, bi_lent, bi_lenl, bi_lens, bi_max, bi_min, bi_tupt, bi_tupl, bi_lstt, bi_lstl, isi_t, isi_l, isi_i, isi_b, isi_n, isi_s, reduceCtorEq, decide_true, decide_false, Bool.or_true, Bool.or_false, Bool.true_or, Bool.false_or, blV, ntV, ngV, intV, op_add, op_sub, cm_lt, cm_le, cm_gt, cm_ge, cm_eqi, cm_nei, tr_bl, i0, i1, h0, decide_false, if_false, m1, n1, hc, hk, ixN2_1, j1, f7, m2, n2, f64, mm, Bool.false_eq_true]
theorem s_chosen (d : Nat) {κ : Ks} {i : Nat} (hS : Spr κ i) {l : List Val} (h1 : 1 ≤ l.length) (h2 : l.length ≤ 1000) : ∃ v κ', (cb tab (d + 2)).cf 14 [.v (.cell i), .v (.lst l)] κ = .ok (v, κ') ∧ v ∈ l ∧ Spr κ' i ∧ κ'.length = κ.length := by
  obtain ⟨r, κ', e, r0, r1, hS', hl⟩ := s_pick d hS (m := (l.length : Int)) (by omega) (by omega)
  have hr : r.toNat < l.length := by omega
  have er : r = (r.toNat : Int) := by omega
  have ix : ixV κ' (.lst l) (.int r) = some l[r.toNat] := by
    have := ix_lst (κ := κ') (l := l) (i := (r.toNat : Int)) (by rw [atI_nat hr]; exact List.getElem?_eq_getElem hr)
    rwa [← er] at this
  refine ⟨l[r.toNat], κ', ?_, List.getElem_mem hr, hS', hl⟩
  rw [cf_succ _ _ _ _ _ rfl rfl]
  simp only [ir__law_chosen, List.replicate, Nat.reduceSub, List.append_nil, exSs, exS, evE, evT, evEs, evA, evBs, evO, evOt, evI, bw, rdV, rdB, R.bind_ok, R.bind_exc, R.bind_bad, R.ofO_some, R.ofO_none, R.toO_ok, R.toO_exc, R.toO_bad, O.then_nx, O.then_ret, O.then_exc, O.then_bad, O.fin_nx, O.fin_ret, O.fin_exc, O.fin_bad, Option.map_some, Option.map_none, List.map_cons, List.map_nil, Ar.slot, List.cons_append, List.nil_append, List.length_cons, List.length_nil, List.getElem?_cons_zero, List.getElem?_cons_succ, List.set_cons_zero, List.set_cons_succ, parR, bi_abs, bi_inti, bi_intb, bi_lent, bi_lenl, bi_lens, bi_max, bi_min, bi_tupt, bi_tupl, bi_lstt, bi_lstl, isi_t, isi_l, isi_i, isi_b, isi_n, isi_s, reduceCtorEq, decide_true, decide_false, Bool.or_true, Bool.or_false, Bool.true_or, Bool.false_or, blV, ntV, ngV, intV, op_add, op_sub, cm_lt, cm_le, cm_gt, cm_ge, cm_eqi, cm_nei, tr_bl, evBs, e, ix]
theorem s_spring (d : Nat) {κ : Ks} {ns : List Int} {k : Nat} : ∃ a b : Int, (cb tab (d + 1)).cf 12 [.v (.scr ns), .v (.int k)] κ = .ok (.lst [.int a, .int b], κ) ∧ 0 ≤ a ∧ 0 ≤ b ∧ b ≤ 2147483587 := by
  rw [cf_succ _ _ _ _ _ rfl rfl]
  have ab : ∀ z : Int, (if z < 0 then -z else z) = (z.natAbs : Int) := fun z => by split <;> omega
  have m1 : ∀ z : Int, opV .mul (.int z) (.int 48611) = some (.int (z * 48611)) := fun z => op_mul (mulOk2 (by decide))
  have m2 : ∀ z : Int, opV .mul (.int 7907) (.int z) = some (.int (7907 * z)) := fun z => op_mul (mulOk1 (by decide))
  have m3 : ∀ z : Int, opV .mul (.int 6007) (.int z) = some (.int (6007 * z)) := fun z => op_mul (mulOk1 (by decide))
  have n1 : ∀ z : Int, opV .mod (.int z) (.int 2147483587) = some (.int (z % 2147483587)) := fun z => op_mod (by decide)
  have pw : opV .pow (.int 10) (.int 15) = some (.int 1000000000000000) := rfl
  have two : (0 + 1 + 1 ≤ LINE) = True := eq_true (by decide)
  have lenE : biV .len [.scr ns] = some (.int ns.length) := rfl
  have key : ∀ z : Int, 0 ≤ z → ∃ a b : Int, exSs (cb tab d) (.cons (.ret (.lst (.cons (.ite (.cm .gt (.var 2) (.op .pow (.con (.int (10))) (.con (.int (15))))) (.var 2) (.con (.int (0)))) (.cons (.op .add (.op .mod (.bi .int (.cons (.op .add (.op .add (.op .mul (.var 2) (.con (.int (48611)))) (.op .mul (.con (.int (7907))) (.var 1))) (.con (.int (13)))) .nil)) (.con (.int (2147483587)))) (.con (.int (1)))) .nil)))) .nil) [some (.val (.scr ns)), some (.val (.int k)), some (.val (.int z))] κ = .ret (.lst [.int a, .int b]) κ ∧ 0 ≤ a ∧ 0 ≤ b ∧ b ≤ 2147483587 := by
    intro z hz
    have c0 : 0 ≤ (z * 48611 + 7907 * (k : Int) + 13) % 2147483587 := Int.emod_nonneg _ (by decide)
    have c1 : (z * 48611 + 7907 * (k : Int) + 13) % 2147483587 < 2147483587 := Int.emod_lt_of_pos _ (by decide)
    refine ⟨if decide (1000000000000000 < z) = true then z else 0, (z * 48611 + 7907 * (k : Int) + 13) % 2147483587 + 1, ?_, by split <;> omega, by omega, by omega⟩
    by_cases hc : 1000000000000000 < z
    · simp only [exSs, exS, evE, evT, evEs, evA, evBs, evO, evOt, evI, bw, rdV, rdB, R.bind_ok, R.bind_exc, R.bind_bad, R.ofO_some, R.ofO_none, R.toO_ok, R.toO_exc, R.toO_bad, O.then_nx, O.then_ret, O.then_exc, O.then_bad, O.fin_nx, O.fin_ret, O.fin_exc, O.fin_bad, Option.map_some, Option.map_none, List.map_cons, List.map_nil, Ar.slot, List.cons_append, List.nil_append, List.length_cons, List.length_nil, List.getElem?_cons_zero, List.getElem?_cons_succ, List.set_cons_zero, List.set_cons_succ, parR, bi_abs, bi_inti, bi_intb, bi_lent, bi_lenl, bi_lens, bi_max, bi_min, bi_tupt, bi_tupl, bi_lstt, bi_lstl, isi_t, isi_l, isi_i, isi_b, isi_n, isi_s, reduceCtorEq, decide_true, decide_false, Bool.or_true, Bool.or_false, Bool.true_or, Bool.false_or, blV, ntV, ngV, intV, op_add, op_sub, cm_lt, cm_le, cm_gt, cm_ge, cm_eqi, cm_nei, tr_bl, evBs, m1, m2, n1, pw, two, hc, decide_true, if_true]
    · simp only [exSs, exS, evE, evT, evEs, evA, evBs, evO, evOt, evI, bw, rdV, rdB, R.bind_ok, R.bind_exc, R.bind_bad, R.ofO_some, R.ofO_none, R.toO_ok, R.toO_exc, R.toO_bad, O.then_nx, O.then_ret, O.then_exc, O.then_bad, O.fin_nx, O.fin_ret, O.fin_exc, O.fin_bad, Option.map_some, Option.map_none, List.map_cons, List.map_nil, Ar.slot, List.cons_append, List.nil_append, List.length_cons, List.length_nil, List.getElem?_cons_zero, List.getElem?_cons_succ, List.set_cons_zero, List.set_cons_succ, parR, bi_abs, bi_inti, bi_intb, bi_lent, bi_lenl, bi_lens, bi_max, bi_min, bi_tupt, bi_tupl, bi_lstt, bi_lstl, isi_t, isi_l, isi_i, isi_b, isi_n, isi_s, reduceCtorEq, decide_true, decide_false, Bool.or_true, Bool.or_false, Bool.true_or, Bool.false_or, blV, ntV, ngV, intV, op_add, op_sub, cm_lt, cm_le, cm_gt, cm_ge, cm_eqi, cm_nei, tr_bl, evBs, m1, m2, n1, pw, two, hc, decide_false, if_false, if_true, Bool.false_eq_true]
  by_cases hk : (k : Int) < (ns.length : Int)
  · have hk' : k < ns.length := by omega
    have ix : ixV κ (.scr ns) (.int (k : Int)) = some (.int ns[k]) := by
      show (L2.atI ns (k : Int)).map Val.int = _
      rw [atI_nat hk', List.getElem?_eq_getElem hk']; rfl
    obtain ⟨a, b, e, r⟩ := key ((ns[k].natAbs : Nat) : Int) (by omega)
    refine ⟨a, b, ?_, r⟩
    have e1 : exS (cb tab d) (.set 2 (.ite (.cm .lt (.var 1) (.bi .len (.cons (.var 0) .nil))) (.bi .abs (.cons (.bi .int (.cons (.ix (.var 0) (.var 1)) .nil)) .nil)) (.op .add (.op .mul (.con (.int (6007))) (.var 1)) (.con (.int (29)))))) [some (.val (.scr ns)), some (.val (.int k)), none] κ = .nx [some (.val (.scr ns)), some (.val (.int k)), some (.val (.int ((ns[k].natAbs : Nat) : Int)))] κ := by
      simp only [exSs, exS, evE, evT, evEs, evA, evBs, evO, evOt, evI, bw, rdV, rdB, R.bind_ok, R.bind_exc, R.bind_bad, R.ofO_some, R.ofO_none, R.toO_ok, R.toO_exc, R.toO_bad, O.then_nx, O.then_ret, O.then_exc, O.then_bad, O.fin_nx, O.fin_ret, O.fin_exc, O.fin_bad, Option.map_some, Option.map_none, List.map_cons, List.map_nil, Ar.slot, List.cons_append, List.nil_append, List.length_cons, List.length_nil, List.getElem?_cons_zero, List.getElem?_cons_succ, List.set_cons_zero, List.set_cons_succ, parR, bi_abs, bi_inti, bi_intb, bi_lent, bi_lenl, bi_lens, bi_max, bi_min, bi_tupt, bi_tupl, bi_lstt, bi_lstl, isi_t, isi_l, isi_i, isi_b, isi_n, isi_s, reduceCtorEq, decide_true, decide_false, Bool.or_true, Bool.or_false, Bool.true_or, Bool.false_or, blV, ntV, ngV, intV, op_add, op_sub, cm_lt, cm_le, cm_gt, cm_ge, cm_eqi, cm_nei, tr_bl, evBs, hk, decide_true, if_true, ix, ab]
    show ((exS (cb tab d) _ [some (.val (.scr ns)), some (.val (.int k)), none] κ).then _).fin = _
    refine (congrArg (fun o => (O.then o _).fin) e1).trans ?_
    exact congrArg O.fin e
  · obtain ⟨a, b, e, r⟩ := key (6007 * (k : Int) + 29) (by omega)
    refine ⟨a, b, ?_, r⟩
    have e1 : exS (cb tab d) (.set 2 (.ite (.cm .lt (.var 1) (.bi .len (.cons (.var 0) .nil))) (.bi .abs (.cons (.bi .int (.cons (.ix (.var 0) (.var 1)) .nil)) .nil)) (.op .add (.op .mul (.con (.int (6007))) (.var 1)) (.con (.int (29)))))) [some (.val (.scr ns)), some (.val (.int k)), none] κ = .nx [some (.val (.scr ns)), some (.val (.int k)), some (.val (.int (6007 * (k : Int) + 29)))] κ := by
      simp only [exSs, exS, evE, evT, evEs, evA, evBs, evO, evOt, evI, bw, rdV, rdB, R.bind_ok, R.bind_exc, R.bind_bad, R.ofO_some, R.ofO_none, R.toO_ok, R.toO_exc, R.toO_bad, O.then_nx, O.then_ret, O.then_exc, O.then_bad, O.fin_nx, O.fin_ret, O.fin_exc, O.fin_bad, Option.map_some, Option.map_none, List.map_cons, List.map_nil, Ar.slot, List.cons_append, List.nil_append, List.length_cons, List.length_nil, List.getElem?_cons_zero, List.getElem?_cons_succ, List.set_cons_zero, List.set_cons_succ, parR, bi_abs, bi_inti, bi_intb, bi_lent, bi_lenl, bi_lens, bi_max, bi_min, bi_tupt, bi_tupl, bi_lstt, bi_lstl, isi_t, isi_l, isi_i, isi_b, isi_n, isi_s, reduceCtorEq, decide_true, decide_false, Bool.or_true, Bool.or_false, Bool.true_or, Bool.false_or, blV, ntV, ngV, intV, op_add, op_sub, cm_lt, cm_le, cm_gt, cm_ge, cm_eqi, cm_nei, tr_bl, evBs, hk, decide_false, if_false, m3, Bool.false_eq_true]
    show ((exS (cb tab d) _ [some (.val (.scr ns)), some (.val (.int k)), none] κ).then _).fin = _
    refine (congrArg (fun o => (O.then o _).fin) e1).trans ?_
    exact congrArg O.fin e
end K01
end
section
namespace PL
open PySem
/-- a picture -/
structure PicOk (q : List Int) : Prop where
  l3 : 3 ≤ q.length
  l5 : q.length ≤ 5
  head : q[0]? = some 0
  asc : q.Pairwise (· < ·)
  marks : MarksOk q
theorem op_tup {x y : List Val} (h : x.length + y.length ≤ 1000) : opV .add (.tup x) (.tup y) = some (.tup (x ++ y)) := by
  show (if x.length + y.length ≤ LINE then some (Val.tup (x ++ y)) else none) = _
  rw [if_pos (Nat.le_trans h (by decide))]
theorem op_lst {x y : List Val} (h : x.length + y.length ≤ 1000) : opV .add (.lst x) (.lst y) = some (.lst (x ++ y)) := by
  show (if x.length + y.length ≤ LINE then some (Val.lst (x ++ y)) else none) = _
  rw [if_pos (Nat.le_trans h (by decide))]
theorem rng1_ok {r : Int} (h0 : 0 ≤ r) (h1 : r ≤ 1000) : rngV1 [.int r] = some (rngL 0 r) := by
  show (if rngOk 0 r then some (rngL 0 r) else none) = _
  unfold rngOk
  rw [decide_eq_true (show (-1000000 : Int) ≤ 0 by decide), decide_eq_true (show (0 : Int) ≤ 1000000 by decide), decide_eq_true (show (-1000000 : Int) ≤ r by omega), decide_eq_true (show r ≤ 1000000 by omega)]
  rfl
theorem rngL_len (r : Int) : (rngL 0 r).length = r.toNat := by
  unfold rngL; simp
theorem rngL_at {r : Int} {n : Nat} {v : Val} (h : (rngL 0 r)[n]? = some v) : v = .int (n : Int) ∧ n < r.toNat := by
  unfold rngL at h
  rw [List.getElem?_map] at h
  have hn : n < r.toNat := by
    by_cases hn : n < r.toNat
    · exact hn
    · rw [List.getElem?_eq_none (by simp; omega)] at h; cases h
  rw [List.getElem?_range (by simpa using hn)] at h
  simp at h
  exact ⟨h.symm, hn⟩
theorem le1 : (0 + 1 ≤ LINE) = True := eq_true (by decide)
theorem le2 : (0 + 1 + 1 ≤ LINE) = True := eq_true (by decide)
theorem le3 : (0 + 1 + 1 + 1 ≤ LINE) = True := eq_true (by decide)
theorem le4 : (0 + 1 + 1 + 1 + 1 ≤ LINE) = True := eq_true (by decide)
theorem le5 : (0 + 1 + 1 + 1 + 1 + 1 ≤ LINE) = True := eq_true (by decide)
theorem le6 : (0 + 1 + 1 + 1 + 1 + 1 + 1 ≤ LINE) = True := eq_true (by decide)
theorem le7 : (0 + 1 + 1 + 1 + 1 + 1 + 1 + 1 ≤ LINE) = True := eq_true (by decide)
end PL
namespace K01
open PySem PL
theorem s_shot (d : Nat) {κ : Ks} {i : Nat} (hS : Spr κ i) : ∃ q κ', (cb tab (d + 3)).cf 15 [.v (.cell i), .v (.int 5)] κ = .ok (picV q, κ') ∧ PicOk q ∧ Spr κ' i ∧ κ'.length = κ.length := by
  rw [cf_succ _ _ _ _ _ rfl rfl]
  obtain ⟨r, κ1, e1, r0, r1, hS1, hl1⟩ := s_pick (d + 1) hS (m := 3) (by decide) (by decide)
  have hi : evI (cb tab (d + 2)) (.rng1 (.cons (.op .add (.con (.int (2))) (.call 13 (.cons (.var 0) (.cons (.op .sub (.var 1) (.con (.int (2)))) .nil)))) .nil)) [some (.val (.cell i)), some (.val (.int 5)), some (.val (picV ([] ++ [0]))), none] κ = .ok (rngL 0 (2 + r), κ1) := by
    simp only [exSs, exS, evE, evT, evEs, evA, evBs, evO, evOt, evI, bw, rdV, rdB, R.bind_ok, R.bind_exc, R.bind_bad, R.ofO_some, R.ofO_none, R.toO_ok, R.toO_exc, R.toO_bad, O.then_nx, O.then_ret, O.then_exc, O.then_bad, O.fin_nx, O.fin_ret, O.fin_exc, O.fin_bad, Option.map_some, Option.map_none, List.map_cons, List.map_nil, Ar.slot, List.cons_append, List.nil_append, List.length_cons, List.length_nil, List.getElem?_cons_zero, List.getElem?_cons_succ, List.set_cons_zero, List.set_cons_succ, parR, bi_abs, bi_inti, bi_intb, bi_lent, bi_lenl, bi_lens, bi_max, bi_min, bi_tupt, bi_tupl, bi_lstt, bi_lstl, isi_t, isi_l, isi_i, isi_b, isi_n, isi_s, reduceCtorEq, decide_true, decide_false, Bool.or_true, Bool.or_false, Bool.true_or, Bool.false_or, blV, ntV, ngV, intV, op_add, op_sub, cm_lt, cm_le, cm_gt, cm_ge, cm_eqi, cm_nei, tr_bl, show (5 : Int) - 2 = 3 from rfl, e1]
    rw [rng1_ok (by omega) (by omega)]
    rfl
  obtain ⟨ρ', κ', e, hS', hl', q0, x, e3, er, hlen, hh, hp, hb⟩ := loop_inv (c := cb tab (d + 2)) (tg := .nm 3)
    (b := .cons (.set 2 (.op .add (.var 2) (.tup (.cons (.op .add (.op .add (.ix (.var 2) (.neg (.con (.int (1))))) (.con (.int (1)))) (.call 13 (.cons (.var 0) (.cons (.call 14 (.cons (.var 0) (.cons (.lst (.cons (.con (.int (2))) (.cons (.con (.int (4))) (.cons (.con (.int (14))) .nil)))) .nil))) .nil)))) .nil)))) .nil)
    (fun n ρ k => Spr k i ∧ k.length = κ.length ∧ ∃ q0 x e3, ρ = [some (.val (.cell i)), some (.val (.int 5)), some (.val (picV (q0 ++ [x]))), e3] ∧ q0.length = n ∧ (q0 ++ [x])[0]? = some 0 ∧ (q0 ++ [x]).Pairwise (· < ·) ∧ ∀ m ∈ q0 ++ [x], 0 ≤ m ∧ m ≤ 14 * (n : Int))
    hi ⟨hS1, hl1, [], 0, none, rfl, rfl, rfl, by simp, by simp⟩ (fun n v ρ k hv ⟨hSk, hlk, q0, x, e3, er, hlen, hh, hp, hb⟩ => by
      obtain ⟨ev, hn⟩ := rngL_at hv
      subst ev
      subst er
      obtain ⟨c, k2, ec, hc, hS2, hl2⟩ := s_chosen d hSk (l := [.int 2, .int 4, .int 14]) (by decide) (by decide)
      have hcb : ∃ z : Int, c = .int z ∧ 1 ≤ z ∧ z ≤ 14 := by
        simp only [List.mem_cons, List.mem_nil_iff, or_false] at hc
        rcases hc with h | h | h <;> subst h
        · exact ⟨2, rfl, by decide, by decide⟩
        · exact ⟨4, rfl, by decide, by decide⟩
        · exact ⟨14, rfl, by decide, by decide⟩
      obtain ⟨z, ez, z1, z14⟩ := hcb
      subst ez
      obtain ⟨p, k3, ep, p0, p1, hS3, hl3⟩ := s_pick (d + 1) hS2 (m := z) z1 (by omega)
      have ix : ∀ k : Ks, ixV k (picV (q0 ++ [x])) (.int (-1)) = some (.int x) := fun k => by
        show L2.atI ((q0 ++ [x]).map Val.int) (-1) = _
        rw [List.map_append]
        exact L2.atI_last _ _
      have ad : opV .add (picV (q0 ++ [x])) (.tup [.int (x + 1 + p)]) = some (picV ((q0 ++ [x]) ++ [x + 1 + p])) := by
        show opV .add (.tup _) _ = _
        rw [op_tup (by simp; omega)]
        simp [picV]
      have hx := hb x (by simp)
      refine ⟨[some (.val (.cell i)), some (.val (.int 5)), some (.val (picV (q0 ++ [x]))), some (.val (.int (n : Int)))], [some (.val (.cell i)), some (.val (.int 5)), some (.val (picV ((q0 ++ [x]) ++ [x + 1 + p]))), some (.val (.int (n : Int)))], k3, rfl, ?_, hS3, by omega, q0 ++ [x], x + 1 + p, _, rfl, by simp; omega, ?_, ?_, ?_⟩
      · simp only [exSs, exS, evE, evT, evEs, evA, evBs, evO, evOt, evI, bw, rdV, rdB, R.bind_ok, R.bind_exc, R.bind_bad, R.ofO_some, R.ofO_none, R.toO_ok, R.toO_exc, R.toO_bad, O.then_nx, O.then_ret, O.then_exc, O.then_bad, O.fin_nx, O.fin_ret, O.fin_exc, O.fin_bad, Option.map_some, Option.map_none, List.map_cons, List.map_nil, Ar.slot, List.cons_append, List.nil_append, List.length_cons, List.length_nil, List.getElem?_cons_zero, List.getElem?_cons_succ, List.set_cons_zero, List.set_cons_succ, parR, bi_abs, bi_inti, bi_intb, bi_lent, bi_lenl, bi_lens, bi_max, bi_min, bi_tupt, bi_tupl, bi_lstt, bi_lstl, isi_t, isi_l, isi_i, isi_b, isi_n, isi_s, reduceCtorEq, decide_true, decide_false, Bool.or_true, Bool.or_false, Bool.true_or, Bool.false_or, blV, ntV, ngV, intV, op_add, op_sub, cm_lt, cm_le, cm_gt, cm_ge, cm_eqi, cm_nei, tr_bl, le1, le3, if_true, ix, ec, ep, ad]
      · rw [List.getElem?_append_left (by simp)]; exact hh
      · rw [List.pairwise_append]
        refine ⟨hp, by simp, fun a ha b hb' => ?_⟩
        simp only [List.mem_singleton] at hb'
        subst hb'
        have : a ≤ x := by
          rcases List.mem_append.mp ha with h | h
          · have := (List.pairwise_append.mp hp).2.2 a h x (by simp); omega
          · simp only [List.mem_singleton] at h; omega
        omega
      · intro m hm
        rcases List.mem_append.mp hm with h | h
        · have := hb m h; omega
        · simp only [List.mem_singleton] at h
          subst h
          constructor <;> omega)
  rw [rngL_len] at hlen hb
  have hn : ((2 + r).toNat : Int) = 2 + r := by omega
  refine ⟨q0 ++ [x], κ', ?_, ⟨by simp; omega, by simp; omega, hh, hp, fun m hm => by have := hb m hm; omega⟩, hS', hl'⟩
  have e0 : exS (cb tab (d + 2)) (.set 2 (.tup (.cons (.con (.int (0))) .nil))) [some (.val (.cell i)), some (.val (.int 5)), none, none] κ = .nx [some (.val (.cell i)), some (.val (.int 5)), some (.val (picV ([] ++ [0]))), none] κ := by
    simp only [exSs, exS, evE, evT, evEs, evA, evBs, evO, evOt, evI, bw, rdV, rdB, R.bind_ok, R.bind_exc, R.bind_bad, R.ofO_some, R.ofO_none, R.toO_ok, R.toO_exc, R.toO_bad, O.then_nx, O.then_ret, O.then_exc, O.then_bad, O.fin_nx, O.fin_ret, O.fin_exc, O.fin_bad, Option.map_some, Option.map_none, List.map_cons, List.map_nil, Ar.slot, List.cons_append, List.nil_append, List.length_cons, List.length_nil, List.getElem?_cons_zero, List.getElem?_cons_succ, List.set_cons_zero, List.set_cons_succ, parR, bi_abs, bi_inti, bi_intb, bi_lent, bi_lenl, bi_lens, bi_max, bi_min, bi_tupt, bi_tupl, bi_lstt, bi_lstl, isi_t, isi_l, isi_i, isi_b, isi_n, isi_s, reduceCtorEq, decide_true, decide_false, Bool.or_true, Bool.or_false, Bool.true_or, Bool.false_or, blV, ntV, ngV, intV, op_add, op_sub, cm_lt, cm_le, cm_gt, cm_ge, cm_eqi, cm_nei, tr_bl, le1, if_true]
    rfl
  show ((exS (cb tab (d + 2)) (.set 2 _) [some (.val (.cell i)), some (.val (.int 5)), none, none] κ).then fun ρ κ => (exS (cb tab (d + 2)) (.loop _ _ _) ρ κ).then _).fin = _
  rw [e0, O.then_nx]
  refine (congrArg (fun o => (O.then o _).fin) e).trans ?_
  rw [er]
  simp only [exSs, exS, evE, evT, evEs, evA, evBs, evO, evOt, evI, bw, rdV, rdB, R.bind_ok, R.bind_exc, R.bind_bad, R.ofO_some, R.ofO_none, R.toO_ok, R.toO_exc, R.toO_bad, O.then_nx, O.then_ret, O.then_exc, O.then_bad, O.fin_nx, O.fin_ret, O.fin_exc, O.fin_bad, Option.map_some, Option.map_none, List.map_cons, List.map_nil, Ar.slot, List.cons_append, List.nil_append, List.length_cons, List.length_nil, List.getElem?_cons_zero, List.getElem?_cons_succ, List.set_cons_zero, List.set_cons_succ, parR, bi_abs, bi_inti, bi_intb, bi_lent, bi_lenl, bi_lens, bi_max, bi_min, bi_tupt, bi_tupl, bi_lstt, bi_lstl, isi_t, isi_l, isi_i, isi_b, isi_n, isi_s, reduceCtorEq, decide_true, decide_false, Bool.or_true, Bool.or_false, Bool.true_or, Bool.false_or, blV, ntV, ngV, intV, op_add, op_sub, cm_lt, cm_le, cm_gt, cm_ge, cm_eqi, cm_nei, tr_bl]
end K01
end
section
namespace PL
open PySem
/-- a part of a sum that may be given -/
def PartS (q : List Int) (x : Part) : Prop := 1 ≤ x.1 ∧ x.1 ≤ 9 ∧ x.2.1 < x.2.2 ∧ x.2.2 < q.length
theorem PartS.ok {q : List Int} {x : Part} (h : PartS q x) : PartOk q x := ⟨h.1, h.2.1, by have := h.2.2; omega, h.2.2.2⟩
structure SumOk (q : List Int) (l : List Part) : Prop where
  l1 : 1 ≤ l.length
  l3 : l.length ≤ 3
  parts : ∀ x ∈ l, PartS q x
structure ClaimOk (q : List Int) (c : Clm) : Prop where
  w : WordOk c.w
  l : SumOk q c.l
  r : SumOk q c.r
theorem noExcOk {α : Type} (a : α) : noExc (.ok a) = .ok a := rfl
theorem len_tup (l : List Val) : biV .len [.tup l] = some (.int l.length) := rfl
end PL
namespace K01
open PySem PL
theorem len_pic (q : List Int) : biV .len [picV q] = some (.int q.length) := by
  show some (Val.int (q.map Val.int).length) = _
  rw [List.length_map]
theorem s_lengths (d : Nat) {κ : Ks} {i : Nat} (hS : Spr κ i) {q : List Int} (hq : PicOk q) {m : Int} (m1 : 1 ≤ m) (m3 : m ≤ 3) : ∃ l κ', (cb tab (d + 3)).cf 16 [.v (.cell i), .v (picV q), .v (.int m)] κ = .ok (parV l, κ') ∧ SumOk q l ∧ (l.length : Int) ≤ m ∧ Spr κ' i ∧ κ'.length = κ.length := by
  rw [cf_succ _ _ _ _ _ rfl rfl]
  have hq3 := hq.l3
  have hq5 := hq.l5
  obtain ⟨r, κ1, e1, r0, r1, hS1, hl1⟩ := s_pick (d + 1) hS (m := m) m1 (by omega)
  have hi : evI (cb tab (d + 2)) (.rng1 (.cons (.op .add (.con (.int (1))) (.call 13 (.cons (.var 0) (.cons (.var 2) .nil)))) .nil)) [some (.val (.cell i)), some (.val (picV q)), some (.val (.int m)), some (.val (parV [])), none, none, none] κ = .ok (rngL 0 (1 + r), κ1) := by
    simp only [exSs, exS, evE, evT, evEs, evA, evBs, evO, evOt, evI, bw, rdV, rdB, R.bind_ok, R.bind_exc, R.bind_bad, R.ofO_some, R.ofO_none, R.toO_ok, R.toO_exc, R.toO_bad, O.then_nx, O.then_ret, O.then_exc, O.then_bad, O.fin_nx, O.fin_ret, O.fin_exc, O.fin_bad, Option.map_some, Option.map_none, List.map_cons, List.map_nil, Ar.slot, List.cons_append, List.nil_append, List.length_cons, List.length_nil, List.getElem?_cons_zero, List.getElem?_cons_succ, List.set_cons_zero, List.set_cons_succ, parR, bi_abs, bi_inti, bi_intb, bi_lent, bi_lenl, bi_lens, bi_max, bi_min, bi_tupt, bi_tupl, bi_lstt, bi_lstl, isi_t, isi_l, isi_i, isi_b, isi_n, isi_s, reduceCtorEq, decide_true, decide_false, Bool.or_true, Bool.or_false, Bool.true_or, Bool.false_or, blV, ntV, ngV, intV, op_add, op_sub, cm_lt, cm_le, cm_gt, cm_ge, cm_eqi, cm_nei, tr_bl, e1]
    rw [rng1_ok (by omega) (by omega)]
    rfl
  obtain ⟨ρ', κ', e, hS', hl', l, e4, e5, e6, er, hlen, hb⟩ := loop_inv (c := cb tab (d + 2)) (tg := .nm 4)
    (b := .cons (.set 5 (.call 13 (.cons (.var 0) (.cons (.op .sub (.bi .len (.cons (.var 1) .nil)) (.con (.int (1)))) .nil))))
  (.cons (.set 6 (.op .add (.op .add (.var 5) (.con (.int (1)))) (.call 13 (.cons (.var 0) (.cons (.op .sub (.op .sub (.bi .len (.cons (.var 1) .nil)) (.con (.int (1)))) (.var 5)) .nil)))))
  (.cons (.set 3 (.op .add (.var 3) (.tup (.cons (.tup (.cons (.op .add (.con (.int (1))) (.call 13 (.cons (.var 0) (.cons (.call 14 (.cons (.var 0) (.cons (.lst (.cons (.con (.int (1))) (.cons (.con (.int (3))) (.cons (.con (.int (9))) .nil)))) .nil))) .nil)))) (.cons (.var 5) (.cons (.var 6) .nil)))) .nil)))) .nil)))
    (fun n ρ k => Spr k i ∧ k.length = κ.length ∧ ∃ l e4 e5 e6, ρ = [some (.val (.cell i)), some (.val (picV q)), some (.val (.int m)), some (.val (parV l)), e4, e5, e6] ∧ l.length = n ∧ ∀ x ∈ l, PartS q x)
    hi ⟨hS1, hl1, [], none, none, none, rfl, rfl, by simp⟩ (fun n v ρ k hv ⟨hSk, hlk, l, e4, e5, e6, er, hlen, hb⟩ => by
      obtain ⟨ev, hn⟩ := rngL_at hv
      subst ev
      subst er
      obtain ⟨f, k2, ef, f0, f1, hS2, hl2⟩ := s_pick (d + 1) hSk (m := (q.length : Int) - 1) (by omega) (by omega)
      obtain ⟨g, k3, eg, g0, g1, hS3, hl3⟩ := s_pick (d + 1) hS2 (m := (q.length : Int) - 1 - f) (by omega) (by omega)
      obtain ⟨c, k4, ec, hc, hS4, hl4⟩ := s_chosen d hS3 (l := [.int 1, .int 3, .int 9]) (by decide) (by decide)
      have hcb : ∃ z : Int, c = .int z ∧ 1 ≤ z ∧ z ≤ 9 := by
        simp only [List.mem_cons, List.mem_nil_iff, or_false] at hc
        rcases hc with h | h | h <;> subst h
        · exact ⟨1, rfl, by decide, by decide⟩
        · exact ⟨3, rfl, by decide, by decide⟩
        · exact ⟨9, rfl, by decide, by decide⟩
      obtain ⟨z, ez, z1, z9⟩ := hcb
      subst ez
      obtain ⟨p, k5, ep, p0, p1, hS5, hl5⟩ := s_pick (d + 1) hS4 (m := z) z1 (by omega)
      have ad : opV .add (parV l) (.tup [.tup [.int (1 + p), .int f, .int (f + 1 + g)]]) = some (parV (l ++ [(1 + p, f.toNat, (f + 1 + g).toNat)])) := by
        show opV .add (.tup _) _ = _
        rw [op_tup (by simp; omega)]
        have t1 : ((f.toNat : Nat) : Int) = f := by omega
        have t2 : (((f + 1 + g).toNat : Nat) : Int) = f + 1 + g := by omega
        simp [parV, Part.v, t1]
        omega
      refine ⟨[some (.val (.cell i)), some (.val (picV q)), some (.val (.int m)), some (.val (parV l)), some (.val (.int (n : Int))), e5, e6], [some (.val (.cell i)), some (.val (picV q)), some (.val (.int m)), some (.val (parV (l ++ [(1 + p, f.toNat, (f + 1 + g).toNat)]))), some (.val (.int (n : Int))), some (.val (.int f)), some (.val (.int (f + 1 + g)))], k5, rfl, ?_, hS5, by omega, l ++ [(1 + p, f.toNat, (f + 1 + g).toNat)], _, _, _, rfl, by simp; omega, ?_⟩
      · simp only [exSs, exS, evE, evT, evEs, evA, evBs, evO, evOt, evI, bw, rdV, rdB, R.bind_ok, R.bind_exc, R.bind_bad, R.ofO_some, R.ofO_none, R.toO_ok, R.toO_exc, R.toO_bad, O.then_nx, O.then_ret, O.then_exc, O.then_bad, O.fin_nx, O.fin_ret, O.fin_exc, O.fin_bad, Option.map_some, Option.map_none, List.map_cons, List.map_nil, Ar.slot, List.cons_append, List.nil_append, List.length_cons, List.length_nil, List.getElem?_cons_zero, List.getElem?_cons_succ, List.set_cons_zero, List.set_cons_succ, parR, bi_abs, bi_inti, bi_intb, bi_lent, bi_lenl, bi_lens, bi_max, bi_min, bi_tupt, bi_tupl, bi_lstt, bi_lstl, isi_t, isi_l, isi_i, isi_b, isi_n, isi_s, reduceCtorEq, decide_true, decide_false, Bool.or_true, Bool.or_false, Bool.true_or, Bool.false_or, blV, ntV, ngV, intV, op_add, op_sub, cm_lt, cm_le, cm_gt, cm_ge, cm_eqi, cm_nei, tr_bl, evBs, len_pic, le1, le3, if_true, ef, eg, ec, ep, ad]
      · intro x hx
        rcases List.mem_append.mp hx with h | h
        · exact hb x h
        · simp only [List.mem_singleton] at h
          subst h
          refine ⟨?_, ?_, ?_, ?_⟩ <;> dsimp only <;> omega)
  rw [rngL_len] at hlen
  refine ⟨l, κ', ?_, ⟨by omega, by omega, hb⟩, by omega, hS', hl'⟩
  show ((exS (cb tab (d + 2)) (.set 3 (.tup .nil)) [some (.val (.cell i)), some (.val (picV q)), some (.val (.int m)), none, none, none, none] κ).then fun ρ κ => (exS (cb tab (d + 2)) (.loop _ _ _) ρ κ).then _).fin = _
  have e0 : exS (cb tab (d + 2)) (.set 3 (.tup .nil)) [some (.val (.cell i)), some (.val (picV q)), some (.val (.int m)), none, none, none, none] κ = .nx [some (.val (.cell i)), some (.val (picV q)), some (.val (.int m)), some (.val (parV [])), none, none, none] κ := rfl
  rw [e0, O.then_nx]
  refine (congrArg (fun o => (O.then o _).fin) e).trans ?_
  rw [er]
  simp only [exSs, exS, evE, evT, evEs, evA, evBs, evO, evOt, evI, bw, rdV, rdB, R.bind_ok, R.bind_exc, R.bind_bad, R.ofO_some, R.ofO_none, R.toO_ok, R.toO_exc, R.toO_bad, O.then_nx, O.then_ret, O.then_exc, O.then_bad, O.fin_nx, O.fin_ret, O.fin_exc, O.fin_bad, Option.map_some, Option.map_none, List.map_cons, List.map_nil, Ar.slot, List.cons_append, List.nil_append, List.length_cons, List.length_nil, List.getElem?_cons_zero, List.getElem?_cons_succ, List.set_cons_zero, List.set_cons_succ, parR, bi_abs, bi_inti, bi_intb, bi_lent, bi_lenl, bi_lens, bi_max, bi_min, bi_tupt, bi_tupl, bi_lstt, bi_lstl, isi_t, isi_l, isi_i, isi_b, isi_n, isi_s, reduceCtorEq, decide_true, decide_false, Bool.or_true, Bool.or_false, Bool.true_or, Bool.false_or, blV, ntV, ngV, intV, op_add, op_sub, cm_lt, cm_le, cm_gt, cm_ge, cm_eqi, cm_nei, tr_bl]
theorem s_saying (d : Nat) {κ : Ks} {i : Nat} (hS : Spr κ i) {q : List Int} (hq : PicOk q) : ∃ c κ', (cb tab (d + 4)).cf 17 [.v (.cell i), .v (picV q)] κ = .ok (Clm.v c, κ') ∧ ClaimOk q c ∧ Spr κ' i ∧ κ'.length = κ.length := by
  rw [cf_succ _ _ _ _ _ rfl rfl]
  obtain ⟨w, k1, e1, hw, hS1, hl1⟩ := s_chosen (d + 1) hS (l := [.str "less", .str "less", .str "upto", .str "same"]) (by decide) (by decide)
  have hwb : ∃ z : Str, w = .str z ∧ WordOk z := by
    simp only [List.mem_cons, List.mem_nil_iff, or_false] at hw
    rcases hw with h | h | h | h <;> subst h
    · exact ⟨_, rfl, .inl rfl⟩
    · exact ⟨_, rfl, .inl rfl⟩
    · exact ⟨_, rfl, .inr (.inl rfl)⟩
    · exact ⟨_, rfl, .inr (.inr rfl)⟩
  obtain ⟨z, ez, hz⟩ := hwb
  subst ez
  obtain ⟨l, k2, e2, hl, _, hS2, hl2⟩ := s_lengths d hS1 hq (m := 2) (by decide) (by decide)
  obtain ⟨r, k3, e3, hr, _, hS3, hl3⟩ := s_lengths d hS2 hq (m := 2) (by decide) (by decide)
  refine ⟨⟨z, l, r⟩, k3, ?_, ⟨hz, hl, hr⟩, hS3, by omega⟩
  simp only [ir__law_saying, List.replicate, Nat.reduceSub, exSs, exS, evE, evT, evEs, evA, evBs, evO, evOt, evI, bw, rdV, rdB, R.bind_ok, R.bind_exc, R.bind_bad, R.ofO_some, R.ofO_none, R.toO_ok, R.toO_exc, R.toO_bad, O.then_nx, O.then_ret, O.then_exc, O.then_bad, O.fin_nx, O.fin_ret, O.fin_exc, O.fin_bad, Option.map_some, Option.map_none, List.map_cons, List.map_nil, Ar.slot, List.cons_append, List.nil_append, List.length_cons, List.length_nil, List.getElem?_cons_zero, List.getElem?_cons_succ, List.set_cons_zero, List.set_cons_succ, parR, bi_abs, bi_inti, bi_intb, bi_lent, bi_lenl, bi_lens, bi_max, bi_min, bi_tupt, bi_tupl, bi_lstt, bi_lstl, isi_t, isi_l, isi_i, isi_b, isi_n, isi_s, reduceCtorEq, decide_true, decide_false, Bool.or_true, Bool.or_false, Bool.true_or, Bool.false_or, blV, ntV, ngV, intV, op_add, op_sub, cm_lt, cm_le, cm_gt, cm_ge, cm_eqi, cm_nei, tr_bl, le3, le4, if_true, e1, e2, e3]
  rfl
theorem comp_draw {c : CB} {ee : E} {tg : Tg} {own : List Nat} {ρ : Rho} {i n : Nat} {P : Clm → Prop} (h : ∀ v κ, Spr κ i → κ.length = n → ∃ ρ2 x κ', setTg tg v (wipeR ρ own) = some ρ2 ∧ evE c ee ρ2 κ = .ok (Clm.v x, κ') ∧ P x ∧ Spr κ' i ∧ κ'.length = n) :
    ∀ (l : List Val) (κ : Ks), Spr κ i → κ.length = n → ∃ (xs : List Clm) (κ' : Ks), compL l (fun v κ' => noExc ((R.ofO (setTg tg v (wipeR ρ own))).bind fun ρ2 => (evOt c .no ρ2 κ').bind fun b =>
      if b.1 = true then (evE c ee ρ2 b.2).bind fun x => .ok (some x.1, x.2) else .ok (none, b.2))) κ = .ok (xs.map Clm.v, κ') ∧ xs.length = l.length ∧ (∀ x ∈ xs, P x) ∧ Spr κ' i ∧ κ'.length = n
  | [], κ, hS, hn => ⟨[], κ, rfl, rfl, by simp, hS, hn⟩
  | v :: l, κ, hS, hn => by
    obtain ⟨ρ2, x, κ1, h1, h2, h3, h4, h5⟩ := h v κ hS hn
    obtain ⟨xs, κ', e, hl, hP, hS', hn'⟩ := comp_draw h l κ1 h4 h5
    refine ⟨x :: xs, κ', ?_, by simp [hl], ?_, hS', hn'⟩
    · show ((noExc ((R.ofO (setTg tg v (wipeR ρ own))).bind _)).bind _) = _
      rw [h1, R.ofO_some, R.bind_ok]
      show (noExc ((R.ok (true, κ)).bind _)).bind _ = _
      rw [R.bind_ok]
      simp only [if_true, h2, R.bind_ok, noExcOk]
      rw [e]
      rfl
    · intro y hy
      rcases List.mem_cons.mp hy with h | h
      · subst h; exact h3
      · exact hP y h
def factsV (l : List Clm) : Val := .tup (l.map Clm.v)
theorem s_sayings (d : Nat) {κ : Ks} {i : Nat} (hS : Spr κ i) {q : List Int} (hq : PicOk q) {m : Int} (m0 : 0 ≤ m) (m9 : m ≤ 9) : ∃ l κ', (cb tab (d + 5)).cf 18 [.v (.cell i), .v (picV q), .v (.int m)] κ = .ok (factsV l, κ') ∧ (l.length : Int) ≤ m ∧ (∀ c ∈ l, ClaimOk q c) ∧ Spr κ' i ∧ κ'.length = κ.length := by
  rw [cf_succ _ _ _ _ _ rfl rfl]
  obtain ⟨r, κ1, e1, r0, r1, hS1, hl1⟩ := s_pick (d + 3) hS (m := m + 1) (by omega) (by omega)
  obtain ⟨xs, κ', e, hl, hP, hS', hn'⟩ := comp_draw (c := cb tab (d + 4)) (ee := .call 17 (.cons (.var 0) (.cons (.var 1) .nil))) (tg := .nm 3) (own := [3]) (ρ := [some (.val (.cell i)), some (.val (picV q)), some (.val (.int m)), none]) (i := i) (n := κ.length) (P := ClaimOk q) (fun v k hSk hk => by
    obtain ⟨x, k', ex, hx, hSx, hkx⟩ := s_saying d hSk hq
    refine ⟨[some (.val (.cell i)), some (.val (picV q)), some (.val (.int m)), some (.val v)], x, k', rfl, ?_, hx, hSx, by omega⟩
    simp only [exSs, exS, evE, evT, evEs, evA, evBs, evO, evOt, evI, bw, rdV, rdB, R.bind_ok, R.bind_exc, R.bind_bad, R.ofO_some, R.ofO_none, R.toO_ok, R.toO_exc, R.toO_bad, O.then_nx, O.then_ret, O.then_exc, O.then_bad, O.fin_nx, O.fin_ret, O.fin_exc, O.fin_bad, Option.map_some, Option.map_none, List.map_cons, List.map_nil, Ar.slot, List.cons_append, List.nil_append, List.length_cons, List.length_nil, List.getElem?_cons_zero, List.getElem?_cons_succ, List.set_cons_zero, List.set_cons_succ, parR, bi_abs, bi_inti, bi_intb, bi_lent, bi_lenl, bi_lens, bi_max, bi_min, bi_tupt, bi_tupl, bi_lstt, bi_lstl, isi_t, isi_l, isi_i, isi_b, isi_n, isi_s, reduceCtorEq, decide_true, decide_false, Bool.or_true, Bool.or_false, Bool.true_or, Bool.false_or, blV, ntV, ngV, intV, op_add, op_sub, cm_lt, cm_le, cm_gt, cm_ge, cm_eqi, cm_nei, tr_bl, ex]) (rngL 0 r) κ1 hS1 hl1
  refine ⟨xs, κ', ?_, by rw [rngL_len] at hl; omega, hP, hS', hn'⟩
  have hlen : xs.length < LINE := by
    rw [rngL_len] at hl
    have : xs.length ≤ 9 := by omega
    exact Nat.lt_of_le_of_lt this (by decide)
  have ec : evE (cb tab (d + 4)) (.comp (.call 17 (.cons (.var 0) (.cons (.var 1) .nil))) (.nm 3) (.rng1 (.cons (.call 13 (.cons (.var 0) (.cons (.op .add (.var 2) (.con (.int (1)))) .nil))) .nil)) .no [3]) [some (.val (.cell i)), some (.val (picV q)), some (.val (.int m)), none] κ = .ok (.lst (xs.map Clm.v), κ') := by
    show (evI (cb tab (d + 4)) (.rng1 (.cons (.call 13 (.cons (.var 0) (.cons (.op .add (.var 2) (.con (.int (1)))) .nil))) .nil)) [some (.val (.cell i)), some (.val (picV q)), some (.val (.int m)), none] κ).bind _ = _
    have hi : evI (cb tab (d + 4)) (.rng1 (.cons (.call 13 (.cons (.var 0) (.cons (.op .add (.var 2) (.con (.int (1)))) .nil))) .nil)) [some (.val (.cell i)), some (.val (picV q)), some (.val (.int m)), none] κ = .ok (rngL 0 r, κ1) := by
      simp only [exSs, exS, evE, evT, evEs, evA, evBs, evO, evOt, evI, bw, rdV, rdB, R.bind_ok, R.bind_exc, R.bind_bad, R.ofO_some, R.ofO_none, R.toO_ok, R.toO_exc, R.toO_bad, O.then_nx, O.then_ret, O.then_exc, O.then_bad, O.fin_nx, O.fin_ret, O.fin_exc, O.fin_bad, Option.map_some, Option.map_none, List.map_cons, List.map_nil, Ar.slot, List.cons_append, List.nil_append, List.length_cons, List.length_nil, List.getElem?_cons_zero, List.getElem?_cons_succ, List.set_cons_zero, List.set_cons_succ, parR, bi_abs, bi_inti, bi_intb, bi_lent, bi_lenl, bi_lens, bi_max, bi_min, bi_tupt, bi_tupl, bi_lstt, bi_lstl, isi_t, isi_l, isi_i, isi_b, isi_n, isi_s, reduceCtorEq, decide_true, decide_false, Bool.or_true, Bool.or_false, Bool.true_or, Bool.false_or, blV, ntV, ngV, intV, op_add, op_sub, cm_lt, cm_le, cm_gt, cm_ge, cm_eqi, cm_nei, tr_bl, e1]
      rw [rng1_ok r0 (by omega)]
      rfl
    rw [hi, R.bind_ok]
    dsimp only
    rw [e, R.bind_ok]
    simp only [List.length_map, hlen, if_true]
  show ((exS (cb tab (d + 4)) (.ret (.bi .tuple (.cons (.comp _ _ _ _ _) .nil))) [some (.val (.cell i)), some (.val (picV q)), some (.val (.int m)), none] κ).then _).fin = _
  have e2 : exS (cb tab (d + 4)) (.ret (.bi .tuple (.cons (.comp (.call 17 (.cons (.var 0) (.cons (.var 1) .nil))) (.nm 3) (.rng1 (.cons (.call 13 (.cons (.var 0) (.cons (.op .add (.var 2) (.con (.int (1)))) .nil))) .nil)) .no [3]) .nil))) [some (.val (.cell i)), some (.val (picV q)), some (.val (.int m)), none] κ = .ret (factsV xs) κ' := by
    simp only [exS, evE, evBs, bw] at ec ⊢
    rw [ec]
    rfl
  rw [e2]
  rfl
end K01
end
section
namespace PL
open PySem
theorem ty_tup (l : List Val) : isiV .tuple (.tup l) = some true := rfl
theorem ty_str (l : Str) : isiV .str (.str l) = some true := rfl
theorem pow9 : opV .pow (.int 10) (.int 9) = some (.int 1000000000) := rfl
theorem ix_t0 {κ : Ks} (a : Val) (l : List Val) : ixV κ (.tup (a :: l)) (.int 0) = some a := by
  show L2.atI (a :: l) 0 = _
  rw [show (0 : Int) = ((0 : Nat) : Int) from rfl, atI_nat (by simp)]
  rfl
theorem ix_t1 {κ : Ks} (a b : Val) (l : List Val) : ixV κ (.tup (a :: b :: l)) (.int 1) = some b := by
  show L2.atI (a :: b :: l) 1 = _
  rw [show (1 : Int) = ((1 : Nat) : Int) from rfl, atI_nat (by simp)]
  rfl
theorem ix_t2 {κ : Ks} (a b c : Val) (l : List Val) : ixV κ (.tup (a :: b :: c :: l)) (.int 2) = some c := by
  show L2.atI (a :: b :: c :: l) 2 = _
  rw [show (2 : Int) = ((2 : Nat) : Int) from rfl, atI_nat (by simp)]
  rfl
theorem PicOk.shape {q : List Int} (h : PicOk q) : (∃ a b, q = [0, a, b]) ∨ (∃ a b c, q = [0, a, b, c]) ∨ (∃ a b c e, q = [0, a, b, c, e]) := by
  obtain ⟨h3, h5, h0, _, _⟩ := h
  match q, h3, h5, h0 with
  | [x, a, b], _, _, h0 => cases h0; exact .inl ⟨a, b, rfl⟩
  | [x, a, b, c], _, _, h0 => cases h0; exact .inr (.inl ⟨a, b, c, rfl⟩)
  | [x, a, b, c, e], _, _, h0 => cases h0; exact .inr (.inr ⟨a, b, c, e, rfl⟩)
  | [], h3, _, _ => exact absurd h3 (by decide)
  | [_], h3, _, _ => exact absurd h3 (by simp)
  | [_, _], h3, _, _ => exact absurd h3 (by simp)
  | _ :: _ :: _ :: _ :: _ :: _ :: _, _, h5, _ => exact absurd h5 (by simp)
theorem map_true {α : Type} (l : List α) (f : α → Val) (h : ∀ v ∈ l, f v = .bl true) : ∃ bs : List Bool, l.map f = bs.map .bl ∧ bs.all id = true := by
  refine ⟨l.map fun _ => true, ?_, by simp⟩
  rw [List.map_map]
  exact List.map_congr_left h
/-- a drawn lean -/
def gOne (a b : Int) : Prop := gcdI a b = 1
theorem gcd_low {t b : Int} (h : 0 < b) : gcdI (t / gcdI t b) (b / gcdI t b) = 1 := by
  have hg := gcdI_pos (t := t) h
  obtain ⟨x, hx⟩ := gcdI_dvd1 t b
  obtain ⟨y, hy⟩ := gcdI_dvd2 t b
  have e1 : t / gcdI t b = x := by rw [show t / gcdI t b = gcdI t b * x / gcdI t b by rw [← hx]]; exact Int.mul_ediv_cancel_left _ (by omega)
  have e2 : b / gcdI t b = y := by rw [show b / gcdI t b = gcdI t b * y / gcdI t b by rw [← hy]]; exact Int.mul_ediv_cancel_left _ (by omega)
  rw [e1, e2]
  have := gcdI_mul (x := x) (y := y) hg
  rw [← hx, ← hy] at this
  have h2 : gcdI t b * 1 = gcdI t b * gcdI x y := by omega
  exact (Int.eq_of_mul_eq_mul_left (by omega) h2).symm
end PL
namespace K01
open PySem PL
def leanV (a b : Int) : Val := .tup [.int a, .int b]
theorem s_is_lean (d : Nat) {a b : Int} (κ : Ks) (h : LeanOk a b) (hg : gOne a b) : (cb tab (d + 2)).cf 6 [.v (leanV a b)] κ = .ok (.bl true, κ) := by
  rw [cf_succ _ _ _ _ _ rfl rfl]
  have w1 := s_whole d a 0 1000000000 κ
  have w2 := s_whole d b 1 1000000000 κ
  rw [decide_eq_true h.a0, decide_eq_true h.a1] at w1
  rw [decide_eq_true h.b0, decide_eq_true h.b1] at w2
  have e := s_measure d a b κ (big_of (Nat.lt_of_lt_of_le (show b.natAbs < 2 ^ 40 by have := h.b0; have := h.b1; omega) (Nat.pow_le_pow_right (by decide) (by decide))))
  have eg : ((Nat.gcd a.natAbs b.natAbs : Nat) : Int) = 1 := hg
  rw [eg] at e
  unfold leanV
  simp only [ir_is_lean, List.replicate, Nat.reduceSub, List.append_nil, exSs, exS, evE, evT, evEs, evA, evBs, evO, evOt, evI, bw, rdV, rdB, R.bind_ok, R.bind_exc, R.bind_bad, R.ofO_some, R.ofO_none, R.toO_ok, R.toO_exc, R.toO_bad, O.then_nx, O.then_ret, O.then_exc, O.then_bad, O.fin_nx, O.fin_ret, O.fin_exc, O.fin_bad, Option.map_some, Option.map_none, List.map_cons, List.map_nil, Ar.slot, List.cons_append, List.nil_append, List.length_cons, List.length_nil, List.getElem?_cons_zero, List.getElem?_cons_succ, List.set_cons_zero, List.set_cons_succ, parR, bi_abs, bi_inti, bi_intb, bi_lent, bi_lenl, bi_lens, bi_max, bi_min, bi_tupt, bi_tupl, bi_lstt, bi_lstl, isi_t, isi_l, isi_i, isi_b, isi_n, isi_s, reduceCtorEq, decide_true, decide_false, Bool.or_true, Bool.or_false, Bool.true_or, Bool.false_or, blV, ntV, ngV, intV, op_add, op_sub, cm_lt, cm_le, cm_gt, cm_ge, cm_eqi, cm_nei, tr_bl, evBs, ty_tup, len_tup, ix_t0, ix_t1, pow9, w1, w2, e, Bool.and_self, Bool.not_true, if_false, Bool.false_eq_true, Nat.zero_add, Nat.reduceAdd, Int.cast_ofNat_Int, decide_true]
theorem s_right_picture (d : Nat) {q : List Int} (κ : Ks) (h : PicOk q) : (cb tab (d + 2)).cf 2 [.v (picV q)] κ = .ok (.bl true, κ) := by
  rw [cf_succ _ _ _ _ _ rfl rfl]
  have wh : ∀ m : Int, 0 ≤ m ∧ m ≤ 60 → (cb tab (d + 1)).cf 1 [.v (.int m), .v (.int 0), .v (.int 60)] κ = .ok (.bl true, κ) := fun m hm => by
    rw [s_whole, decide_eq_true hm.1, decide_eq_true hm.2]; rfl
  have c1 : ∀ e1 e2 e3, ∃ bs : List Bool, evE (cb tab (d + 1)) (.comp (.call 1 (.cons (.var 1) (.cons (.con (.int (0))) (.cons (.con (.int (60))) .nil)))) (.nm 1) (.seq (.var 0)) .no [1]) [some (.val (picV q)), e1, e2, e3] κ = .ok (.lst (bs.map .bl), κ) ∧ bs.all id = true := fun e1 e2 e3 => by
    obtain ⟨bs, eb, hb⟩ := map_true (q.map Val.int) (fun _ => .bl true) (fun _ _ => rfl)
    refine ⟨bs, ?_, hb⟩
    rw [← eb]
    refine ev_comp (l := q.map Val.int) rfl (by rw [List.length_map]; exact Nat.lt_of_le_of_lt h.l5 (by decide)) fun v hv => ?_
    obtain ⟨m, hm, e⟩ := List.mem_map.mp hv
    subst e
    refine ⟨[some (.val (picV q)), some (.val (.int m)), e2, e3], rfl, ?_⟩
    simp only [exSs, exS, evE, evT, evEs, evA, evBs, evO, evOt, evI, bw, rdV, rdB, R.bind_ok, R.bind_exc, R.bind_bad, R.ofO_some, R.ofO_none, R.toO_ok, R.toO_exc, R.toO_bad, O.then_nx, O.then_ret, O.then_exc, O.then_bad, O.fin_nx, O.fin_ret, O.fin_exc, O.fin_bad, Option.map_some, Option.map_none, List.map_cons, List.map_nil, Ar.slot, List.cons_append, List.nil_append, List.length_cons, List.length_nil, List.getElem?_cons_zero, List.getElem?_cons_succ, List.set_cons_zero, List.set_cons_succ, parR, bi_abs, bi_inti, bi_intb, bi_lent, bi_lenl, bi_lens, bi_max, bi_min, bi_tupt, bi_tupl, bi_lstt, bi_lstl, isi_t, isi_l, isi_i, isi_b, isi_n, isi_s, reduceCtorEq, decide_true, decide_false, Bool.or_true, Bool.or_false, Bool.true_or, Bool.false_or, blV, ntV, ngV, intV, op_add, op_sub, cm_lt, cm_le, cm_gt, cm_ge, cm_eqi, cm_nei, tr_bl, wh m (h.marks m hm)]
  have c2 : ∀ e1 e2 e3, ∃ bs : List Bool, evE (cb tab (d + 1)) (.comp (.cm .lt (.var 2) (.var 3)) (.tp (.cons (.nm 2) (.cons (.nm 3) .nil))) (.zip (.var 0) (.sl (.var 0) (.yes (.con (.int (1)))) .no)) .no [2, 3]) [some (.val (picV q)), e1, e2, e3] κ = .ok (.lst (bs.map .bl), κ) ∧ bs.all id = true := fun e1 e2 e3 => by
    have hz : ∃ l, zipV (picV q) (.tup (cutL (q.map .int) (some 1) none)) = some l ∧ l.length < LINE ∧ ∀ v ∈ l, ∃ x y : Int, v = .tup [.int x, .int y] ∧ x < y := by
      have asc := h.asc
      rcases h.shape with ⟨a, b, e⟩ | ⟨a, b, c, e⟩ | ⟨a, b, c, f, e⟩ <;> subst e <;> simp only [List.pairwise_cons, List.mem_cons, List.mem_nil_iff, or_false, forall_eq_or_imp, forall_eq] at asc
      · exact ⟨[.tup [.int 0, .int a], .tup [.int a, .int b]], rfl, (show 2 < LINE by decide), by
          simp only [List.mem_cons, List.mem_nil_iff, or_false, forall_eq_or_imp, forall_eq]
          exact ⟨⟨_, _, rfl, by omega⟩, ⟨_, _, rfl, by omega⟩⟩⟩
      · exact ⟨[.tup [.int 0, .int a], .tup [.int a, .int b], .tup [.int b, .int c]], rfl, (show 3 < LINE by decide), by
          simp only [List.mem_cons, List.mem_nil_iff, or_false, forall_eq_or_imp, forall_eq]
          exact ⟨⟨_, _, rfl, by omega⟩, ⟨_, _, rfl, by omega⟩, ⟨_, _, rfl, by omega⟩⟩⟩
      · exact ⟨[.tup [.int 0, .int a], .tup [.int a, .int b], .tup [.int b, .int c], .tup [.int c, .int f]], rfl, (show 4 < LINE by decide), by
          simp only [List.mem_cons, List.mem_nil_iff, or_false, forall_eq_or_imp, forall_eq]
          exact ⟨⟨_, _, rfl, by omega⟩, ⟨_, _, rfl, by omega⟩, ⟨_, _, rfl, by omega⟩, ⟨_, _, rfl, by omega⟩⟩⟩
    obtain ⟨l, e, hl, hv⟩ := hz
    obtain ⟨bs, eb, hb⟩ := map_true l (fun _ => .bl true) (fun _ _ => rfl)
    refine ⟨bs, ?_, hb⟩
    rw [← eb]
    refine ev_comp (l := l) ?_ hl fun v hm => ?_
    · have sl : slV (picV q) (some 1) none = some (.tup (cutL (q.map .int) (some 1) none)) := rfl
      simp only [exSs, exS, evE, evT, evEs, evA, evBs, evO, evOt, evI, bw, rdV, rdB, R.bind_ok, R.bind_exc, R.bind_bad, R.ofO_some, R.ofO_none, R.toO_ok, R.toO_exc, R.toO_bad, O.then_nx, O.then_ret, O.then_exc, O.then_bad, O.fin_nx, O.fin_ret, O.fin_exc, O.fin_bad, Option.map_some, Option.map_none, List.map_cons, List.map_nil, Ar.slot, List.cons_append, List.nil_append, List.length_cons, List.length_nil, List.getElem?_cons_zero, List.getElem?_cons_succ, List.set_cons_zero, List.set_cons_succ, parR, bi_abs, bi_inti, bi_intb, bi_lent, bi_lenl, bi_lens, bi_max, bi_min, bi_tupt, bi_tupl, bi_lstt, bi_lstl, isi_t, isi_l, isi_i, isi_b, isi_n, isi_s, reduceCtorEq, decide_true, decide_false, Bool.or_true, Bool.or_false, Bool.true_or, Bool.false_or, blV, ntV, ngV, intV, op_add, op_sub, cm_lt, cm_le, cm_gt, cm_ge, cm_eqi, cm_nei, tr_bl, sl, e]
    · obtain ⟨x, y, e, hxy⟩ := hv v hm
      subst e
      refine ⟨[some (.val (picV q)), e1, some (.val (.int x)), some (.val (.int y))], rfl, ?_⟩
      simp only [exSs, exS, evE, evT, evEs, evA, evBs, evO, evOt, evI, bw, rdV, rdB, R.bind_ok, R.bind_exc, R.bind_bad, R.ofO_some, R.ofO_none, R.toO_ok, R.toO_exc, R.toO_bad, O.then_nx, O.then_ret, O.then_exc, O.then_bad, O.fin_nx, O.fin_ret, O.fin_exc, O.fin_bad, Option.map_some, Option.map_none, List.map_cons, List.map_nil, Ar.slot, List.cons_append, List.nil_append, List.length_cons, List.length_nil, List.getElem?_cons_zero, List.getElem?_cons_succ, List.set_cons_zero, List.set_cons_succ, parR, bi_abs, bi_inti, bi_intb, bi_lent, bi_lenl, bi_lens, bi_max, bi_min, bi_tupt, bi_tupl, bi_lstt, bi_lstl, isi_t, isi_l, isi_i, isi_b, isi_n, isi_s, reduceCtorEq, decide_true, decide_false, Bool.or_true, Bool.or_false, Bool.true_or, Bool.false_or, blV, ntV, ngV, intV, op_add, op_sub, cm_lt, cm_le, cm_gt, cm_ge, cm_eqi, cm_nei, tr_bl, hxy, decide_true]
  obtain ⟨b1, f1, g1⟩ := c1 none none none
  obtain ⟨b2, f2, g2⟩ := c2 none none none
  have len3 : decide ((3 : Int) ≤ (q.length : Int)) = true := decide_eq_true (by have := h.l3; omega)
  have len5 : decide ((q.length : Int) ≤ 5) = true := decide_eq_true (by have := h.l5; omega)
  have tt : isiV .tuple (picV q) = some true := rfl
  have ix : ixV κ (picV q) (.int 0) = some (.int 0) := by
    show L2.atI (q.map Val.int) ((0 : Nat) : Int) = _
    rw [atI_nat (by rw [List.length_map]; have := h.l3; omega), List.getElem?_map, h.head]
    rfl
  have p1 : exS (cb tab (d + 1)) (.ite (.or (.not (.val (.isi .tuple (.var 0)))) (.not (.chain .le .le (.con (.int (3))) (.bi .len (.cons (.var 0) .nil)) (.con (.int (5)))))) (.cons (.ret (.con (.bl false))) .nil) .nil) [some (.val (picV q)), none, none, none] κ = .nx [some (.val (picV q)), none, none, none] κ := by
    simp only [exSs, exS, evE, evT, evEs, evA, evBs, evO, evOt, evI, bw, rdV, rdB, R.bind_ok, R.bind_exc, R.bind_bad, R.ofO_some, R.ofO_none, R.toO_ok, R.toO_exc, R.toO_bad, O.then_nx, O.then_ret, O.then_exc, O.then_bad, O.fin_nx, O.fin_ret, O.fin_exc, O.fin_bad, Option.map_some, Option.map_none, List.map_cons, List.map_nil, Ar.slot, List.cons_append, List.nil_append, List.length_cons, List.length_nil, List.getElem?_cons_zero, List.getElem?_cons_succ, List.set_cons_zero, List.set_cons_succ, parR, bi_abs, bi_inti, bi_intb, bi_lent, bi_lenl, bi_lens, bi_max, bi_min, bi_tupt, bi_tupl, bi_lstt, bi_lstl, isi_t, isi_l, isi_i, isi_b, isi_n, isi_s, reduceCtorEq, decide_true, decide_false, Bool.or_true, Bool.or_false, Bool.true_or, Bool.false_or, blV, ntV, ngV, intV, op_add, op_sub, cm_lt, cm_le, cm_gt, cm_ge, cm_eqi, cm_nei, tr_bl, evBs, len_pic, tt, len3, len5, Bool.not_true, if_true, if_false, Bool.false_eq_true]
  have p2 : exS (cb tab (d + 1)) (.ite (.or (.not (.val (.bi .all (.cons (.comp (.call 1 (.cons (.var 1) (.cons (.con (.int (0))) (.cons (.con (.int (60))) .nil)))) (.nm 1) (.seq (.var 0)) .no [1]) .nil)))) (.cm .ne (.ix (.var 0) (.con (.int (0)))) (.con (.int (0))))) (.cons (.ret (.con (.bl false))) .nil) .nil) [some (.val (picV q)), none, none, none] κ = .nx [some (.val (picV q)), none, none, none] κ := by
    show ((evT _ _ _ _).toO _) = _
    have : evT (cb tab (d + 1)) (.or (.not (.val (.bi .all (.cons (.comp (.call 1 (.cons (.var 1) (.cons (.con (.int (0))) (.cons (.con (.int (60))) .nil)))) (.nm 1) (.seq (.var 0)) .no [1]) .nil)))) (.cm .ne (.ix (.var 0) (.con (.int (0)))) (.con (.int (0))))) [some (.val (picV q)), none, none, none] κ = .ok (false, κ) := by
      show ((evT _ _ _ _).bind _) = _
      have a1 : evT (cb tab (d + 1)) (.not (.val (.bi .all (.cons (.comp (.call 1 (.cons (.var 1) (.cons (.con (.int (0))) (.cons (.con (.int (60))) .nil)))) (.nm 1) (.seq (.var 0)) .no [1]) .nil)))) [some (.val (picV q)), none, none, none] κ = .ok (false, κ) := by
        show (((((evE _ _ _ _).bind fun p => (R.ok ([], p.2)).bind fun q => R.ok (p.1 :: q.1, q.2)).bind _).bind _).bind _) = _
        rw [f1]
        simp only [R.bind_ok, bi_all, g1, R.ofO_some, Option.map_some, tr_bl, Bool.not_true]
      rw [a1]
      simp only [exSs, exS, evE, evT, evEs, evA, evBs, evO, evOt, evI, bw, rdV, rdB, R.bind_ok, R.bind_exc, R.bind_bad, R.ofO_some, R.ofO_none, R.toO_ok, R.toO_exc, R.toO_bad, O.then_nx, O.then_ret, O.then_exc, O.then_bad, O.fin_nx, O.fin_ret, O.fin_exc, O.fin_bad, Option.map_some, Option.map_none, List.map_cons, List.map_nil, Ar.slot, List.cons_append, List.nil_append, List.length_cons, List.length_nil, List.getElem?_cons_zero, List.getElem?_cons_succ, List.set_cons_zero, List.set_cons_succ, parR, bi_abs, bi_inti, bi_intb, bi_lent, bi_lenl, bi_lens, bi_max, bi_min, bi_tupt, bi_tupl, bi_lstt, bi_lstl, isi_t, isi_l, isi_i, isi_b, isi_n, isi_s, reduceCtorEq, decide_true, decide_false, Bool.or_true, Bool.or_false, Bool.true_or, Bool.false_or, blV, ntV, ngV, intV, op_add, op_sub, cm_lt, cm_le, cm_gt, cm_ge, cm_eqi, cm_nei, tr_bl, ix, if_false, Bool.false_eq_true, decide_true, Bool.not_true]
    rw [this]
    simp only [exSs, exS, evE, evT, evEs, evA, evBs, evO, evOt, evI, bw, rdV, rdB, R.bind_ok, R.bind_exc, R.bind_bad, R.ofO_some, R.ofO_none, R.toO_ok, R.toO_exc, R.toO_bad, O.then_nx, O.then_ret, O.then_exc, O.then_bad, O.fin_nx, O.fin_ret, O.fin_exc, O.fin_bad, Option.map_some, Option.map_none, List.map_cons, List.map_nil, Ar.slot, List.cons_append, List.nil_append, List.length_cons, List.length_nil, List.getElem?_cons_zero, List.getElem?_cons_succ, List.set_cons_zero, List.set_cons_succ, parR, bi_abs, bi_inti, bi_intb, bi_lent, bi_lenl, bi_lens, bi_max, bi_min, bi_tupt, bi_tupl, bi_lstt, bi_lstl, isi_t, isi_l, isi_i, isi_b, isi_n, isi_s, reduceCtorEq, decide_true, decide_false, Bool.or_true, Bool.or_false, Bool.true_or, Bool.false_or, blV, ntV, ngV, intV, op_add, op_sub, cm_lt, cm_le, cm_gt, cm_ge, cm_eqi, cm_nei, tr_bl, if_false, Bool.false_eq_true]
  have p3 : exS (cb tab (d + 1)) (.ret (.bi .all (.cons (.comp (.cm .lt (.var 2) (.var 3)) (.tp (.cons (.nm 2) (.cons (.nm 3) .nil))) (.zip (.var 0) (.sl (.var 0) (.yes (.con (.int (1)))) .no)) .no [2, 3]) .nil))) [some (.val (picV q)), none, none, none] κ = .ret (.bl true) κ := by
    show ((((evE _ _ _ _).bind fun p => (R.ok ([], p.2)).bind fun q => R.ok (p.1 :: q.1, q.2)).bind _).toO _) = _
    rw [f2]
    simp only [R.bind_ok, bi_all, g2, R.ofO_some, Option.map_some, R.toO_ok]
  show ((exS (cb tab (d + 1)) _ [some (.val (picV q)), none, none, none] κ).then fun ρ κ => (exS (cb tab (d + 1)) _ ρ κ).then fun ρ κ => (exS (cb tab (d + 1)) _ ρ κ).then _).fin = _
  rw [p1, O.then_nx, p2, O.then_nx, p3]
  rfl
theorem s_need_picture (d : Nat) {q : List Int} (κ : Ks) (h : PicOk q) : (cb tab (d + 3)).cf 7 [.v (picV q)] κ = .ok (.non, κ) := by
  rw [cf_succ _ _ _ _ _ rfl rfl]
  simp only [ir_need_picture, List.replicate, Nat.reduceSub, List.append_nil, exSs, exS, evE, evT, evEs, evA, evBs, evO, evOt, evI, bw, rdV, rdB, R.bind_ok, R.bind_exc, R.bind_bad, R.ofO_some, R.ofO_none, R.toO_ok, R.toO_exc, R.toO_bad, O.then_nx, O.then_ret, O.then_exc, O.then_bad, O.fin_nx, O.fin_ret, O.fin_exc, O.fin_bad, Option.map_some, Option.map_none, List.map_cons, List.map_nil, Ar.slot, List.cons_append, List.nil_append, List.length_cons, List.length_nil, List.getElem?_cons_zero, List.getElem?_cons_succ, List.set_cons_zero, List.set_cons_succ, parR, bi_abs, bi_inti, bi_intb, bi_lent, bi_lenl, bi_lens, bi_max, bi_min, bi_tupt, bi_tupl, bi_lstt, bi_lstl, isi_t, isi_l, isi_i, isi_b, isi_n, isi_s, reduceCtorEq, decide_true, decide_false, Bool.or_true, Bool.or_false, Bool.true_or, Bool.false_or, blV, ntV, ngV, intV, op_add, op_sub, cm_lt, cm_le, cm_gt, cm_ge, cm_eqi, cm_nei, tr_bl, s_right_picture d κ h, Bool.not_true, if_false, Bool.false_eq_true]
end K01
end
section
namespace PL
open PySem
theorem map_bl {α : Type} (l : List α) (f : α → Bool) (g : α → Val) (h : ∀ v ∈ l, g v = .bl (f v)) : l.map g = (l.map f).map .bl := by
  rw [List.map_map]
  exact List.map_congr_left h
theorem ix_lf {κ : Ks} {l : List Val} {n : Nat} (h : n < l.length) : ixV κ (.tup l) (.int n) = some l[n] := by
  show L2.atI l n = _
  rw [atI_nat h, List.getElem?_eq_getElem h]
end PL
namespace K01
open PySem PL
theorem len_par (l : List Part) : biV .len [parV l] = some (.int l.length) := by
  show some (Val.int (l.map Part.v).length) = _
  rw [List.length_map]
theorem len_facts (l : List Clm) : biV .len [factsV l] = some (.int l.length) := by
  show some (Val.int (l.map Clm.v).length) = _
  rw [List.length_map]
theorem s_right_sum (d : Nat) {q : List Int} {l : List Part} (κ : Ks) (h : SumOk q l) : (cb tab (d + 2)).cf 3 [.v (picV q), .v (parV l)] κ = .ok (.bl true, κ) := by
  rw [cf_succ _ _ _ _ _ rfl rfl]
  have len1 : decide ((1 : Int) ≤ (l.length : Int)) = true := decide_eq_true (by have := h.l1; omega)
  have len3 : decide ((l.length : Int) ≤ 3) = true := decide_eq_true (by have := h.l3; omega)
  have tt : isiV .tuple (parV l) = some true := rfl
  obtain ⟨ρ', κ', e, es, e2, er⟩ := loop_inv (c := cb tab (d + 1)) (tg := .nm 2) (it := .seq (.var 1)) (l := l.map Part.v)
    (b := .cons (.ite (.or (.not (.val (.isi .tuple (.var 2)))) (.or (.cm .ne (.bi .len (.cons (.var 2) .nil)) (.con (.int (3)))) (.not (.val (.call 1 (.cons (.ix (.var 2) (.con (.int (0)))) (.cons (.con (.int (1))) (.cons (.con (.int (9))) .nil)))))))) (.cons (.ret (.con (.bl false)))
  .nil) .nil)
  (.cons (.ite (.or (.not (.val (.call 1 (.cons (.ix (.var 2) (.con (.int (1)))) (.cons (.con (.int (0))) (.cons (.op .sub (.bi .len (.cons (.var 0) .nil)) (.con (.int (2)))) .nil)))))) (.not (.val (.call 1 (.cons (.ix (.var 2) (.con (.int (2)))) (.cons (.op .add (.ix (.var 2) (.con (.int (1)))) (.con (.int (1)))) (.cons (.op .sub (.bi .len (.cons (.var 0) .nil)) (.con (.int (1)))) .nil))))))) (.cons (.ret (.con (.bl false)))
  .nil) .nil) .nil))
    (ρ := [some (.val (picV q)), some (.val (parV l)), none]) (κ := κ) (κ1 := κ)
    (fun n ρ k => k = κ ∧ ∃ e2, ρ = [some (.val (picV q)), some (.val (parV l)), e2])
    rfl ⟨rfl, none, rfl⟩ (fun n v ρ k hv ⟨ek, e2, er⟩ => by
      subst ek
      subst er
      rw [List.getElem?_map] at hv
      cases gx : l[n]? with
      | none => rw [gx] at hv; cases hv
      | some x =>
        rw [gx] at hv
        cases hv
        obtain ⟨o0, o1, o2, o3⟩ := h.parts x (List.mem_of_getElem? gx)
        refine ⟨[some (.val (picV q)), some (.val (parV l)), some (.val (Part.v x))], [some (.val (picV q)), some (.val (parV l)), some (.val (Part.v x))], _, rfl, ?_, rfl, _, rfl⟩
        have w1 := s_whole d x.1 1 9 k
        have w2 := s_whole d (x.2.1 : Int) 0 ((q.length : Int) - 2) k
        have w3 := s_whole d (x.2.2 : Int) ((x.2.1 : Int) + 1) ((q.length : Int) - 1) k
        rw [decide_eq_true (by omega), decide_eq_true (by omega)] at w1 w2 w3
        have t1 : ((0 + 1 + 1 + 1 : Nat) : Int) = 3 := rfl
        simp only [exSs, exS, evE, evT, evEs, evA, evBs, evO, evOt, evI, bw, rdV, rdB, R.bind_ok, R.bind_exc, R.bind_bad, R.ofO_some, R.ofO_none, R.toO_ok, R.toO_exc, R.toO_bad, O.then_nx, O.then_ret, O.then_exc, O.then_bad, O.fin_nx, O.fin_ret, O.fin_exc, O.fin_bad, Option.map_some, Option.map_none, List.map_cons, List.map_nil, Ar.slot, List.cons_append, List.nil_append, List.length_cons, List.length_nil, List.getElem?_cons_zero, List.getElem?_cons_succ, List.set_cons_zero, List.set_cons_succ, parR, bi_abs, bi_inti, bi_intb, bi_lent, bi_lenl, bi_lens, bi_max, bi_min, bi_tupt, bi_tupl, bi_lstt, bi_lstl, isi_t, isi_l, isi_i, isi_b, isi_n, isi_s, reduceCtorEq, decide_true, decide_false, Bool.or_true, Bool.or_false, Bool.true_or, Bool.false_or, blV, ntV, ngV, intV, op_add, op_sub, cm_lt, cm_le, cm_gt, cm_ge, cm_eqi, cm_nei, tr_bl, evBs, Part.v, len_pic, ix_t0, ix_t1, ix_t2, w1, w2, w3, t1, Bool.and_self, Bool.not_true, if_true, if_false, Bool.false_eq_true])
  subst es
  have p1 : exS (cb tab (d + 1)) (.ite (.or (.not (.val (.isi .tuple (.var 1)))) (.not (.chain .le .le (.con (.int (1))) (.bi .len (.cons (.var 1) .nil)) (.con (.int (3)))))) (.cons (.ret (.con (.bl false))) .nil) .nil) [some (.val (picV q)), some (.val (parV l)), none] κ' = .nx [some (.val (picV q)), some (.val (parV l)), none] κ' := by
    simp only [exSs, exS, evE, evT, evEs, evA, evBs, evO, evOt, evI, bw, rdV, rdB, R.bind_ok, R.bind_exc, R.bind_bad, R.ofO_some, R.ofO_none, R.toO_ok, R.toO_exc, R.toO_bad, O.then_nx, O.then_ret, O.then_exc, O.then_bad, O.fin_nx, O.fin_ret, O.fin_exc, O.fin_bad, Option.map_some, Option.map_none, List.map_cons, List.map_nil, Ar.slot, List.cons_append, List.nil_append, List.length_cons, List.length_nil, List.getElem?_cons_zero, List.getElem?_cons_succ, List.set_cons_zero, List.set_cons_succ, parR, bi_abs, bi_inti, bi_intb, bi_lent, bi_lenl, bi_lens, bi_max, bi_min, bi_tupt, bi_tupl, bi_lstt, bi_lstl, isi_t, isi_l, isi_i, isi_b, isi_n, isi_s, reduceCtorEq, decide_true, decide_false, Bool.or_true, Bool.or_false, Bool.true_or, Bool.false_or, blV, ntV, ngV, intV, op_add, op_sub, cm_lt, cm_le, cm_gt, cm_ge, cm_eqi, cm_nei, tr_bl, evBs, len_par, tt, len1, len3, Bool.not_true, if_true, if_false, Bool.false_eq_true]
  show ((exS (cb tab (d + 1)) _ [some (.val (picV q)), some (.val (parV l)), none] κ').then fun ρ κ => (exS (cb tab (d + 1)) (.loop _ _ _) ρ κ).then _).fin = _
  rw [p1, O.then_nx]
  refine (congrArg (fun o => (O.then o _).fin) e).trans ?_
  rw [er]
  rfl
theorem s_right_claim (d : Nat) {q : List Int} {c : Clm} (κ : Ks) (h : ClaimOk q c) : (cb tab (d + 3)).cf 4 [.v (picV q), .v (Clm.v c)] κ = .ok (.bl true, κ) := by
  rw [cf_succ _ _ _ _ _ rfl rfl]
  have a1 := s_right_sum d κ h.l
  have a2 := s_right_sum d κ h.r
  have wd : ∀ s : Str, WordOk s → cmV .notin (.str s) (.tup [.str "less", .str "upto", .str "same"]) = some false := by rintro s (rfl | rfl | rfl) <;> decide +kernel
  have t1 : ((0 + 1 + 1 + 1 : Nat) : Int) = 3 := rfl
  simp only [ir_is_right_claim, List.replicate, Nat.reduceSub, List.append_nil, exSs, exS, evE, evT, evEs, evA, evBs, evO, evOt, evI, bw, rdV, rdB, R.bind_ok, R.bind_exc, R.bind_bad, R.ofO_some, R.ofO_none, R.toO_ok, R.toO_exc, R.toO_bad, O.then_nx, O.then_ret, O.then_exc, O.then_bad, O.fin_nx, O.fin_ret, O.fin_exc, O.fin_bad, Option.map_some, Option.map_none, List.map_cons, List.map_nil, Ar.slot, List.cons_append, List.nil_append, List.length_cons, List.length_nil, List.getElem?_cons_zero, List.getElem?_cons_succ, List.set_cons_zero, List.set_cons_succ, parR, bi_abs, bi_inti, bi_intb, bi_lent, bi_lenl, bi_lens, bi_max, bi_min, bi_tupt, bi_tupl, bi_lstt, bi_lstl, isi_t, isi_l, isi_i, isi_b, isi_n, isi_s, reduceCtorEq, decide_true, decide_false, Bool.or_true, Bool.or_false, Bool.true_or, Bool.false_or, blV, ntV, ngV, intV, op_add, op_sub, cm_lt, cm_le, cm_gt, cm_ge, cm_eqi, cm_nei, tr_bl, evBs, Clm.v, ix_t0, ix_t1, ix_t2, t1, wd _ h.w, a1, a2, Bool.not_true, if_true, if_false, Bool.false_eq_true]
theorem s_right_facts (d : Nat) {q : List Int} {l : List Clm} (κ : Ks) (hl : l.length ≤ 4) (h : ∀ c ∈ l, ClaimOk q c) : (cb tab (d + 4)).cf 5 [.v (picV q), .v (factsV l)] κ = .ok (.bl true, κ) := by
  rw [cf_succ _ _ _ _ _ rfl rfl]
  have tt : isiV .tuple (factsV l) = some true := rfl
  have c1 : evE (cb tab (d + 3)) (.comp (.call 4 (.cons (.var 0) (.cons (.var 2) .nil))) (.nm 2) (.seq (.var 1)) .no [2]) [some (.val (picV q)), some (.val (factsV l)), none] κ = .ok (.lst ((l.map fun _ => true).map .bl), κ) := by
    rw [List.map_map, ← show (l.map Clm.v).map (fun _ => Val.bl true) = l.map (Val.bl ∘ fun _ => true) by rw [List.map_map]; rfl]
    refine ev_comp (l := l.map Clm.v) rfl (by rw [List.length_map]; exact Nat.lt_of_le_of_lt hl (by decide)) fun v hv => ?_
    obtain ⟨c, hc, e⟩ := List.mem_map.mp hv
    subst e
    refine ⟨[some (.val (picV q)), some (.val (factsV l)), some (.val (Clm.v c))], rfl, ?_⟩
    simp only [exSs, exS, evE, evT, evEs, evA, evBs, evO, evOt, evI, bw, rdV, rdB, R.bind_ok, R.bind_exc, R.bind_bad, R.ofO_some, R.ofO_none, R.toO_ok, R.toO_exc, R.toO_bad, O.then_nx, O.then_ret, O.then_exc, O.then_bad, O.fin_nx, O.fin_ret, O.fin_exc, O.fin_bad, Option.map_some, Option.map_none, List.map_cons, List.map_nil, Ar.slot, List.cons_append, List.nil_append, List.length_cons, List.length_nil, List.getElem?_cons_zero, List.getElem?_cons_succ, List.set_cons_zero, List.set_cons_succ, parR, bi_abs, bi_inti, bi_intb, bi_lent, bi_lenl, bi_lens, bi_max, bi_min, bi_tupt, bi_tupl, bi_lstt, bi_lstl, isi_t, isi_l, isi_i, isi_b, isi_n, isi_s, reduceCtorEq, decide_true, decide_false, Bool.or_true, Bool.or_false, Bool.true_or, Bool.false_or, blV, ntV, ngV, intV, op_add, op_sub, cm_lt, cm_le, cm_gt, cm_ge, cm_eqi, cm_nei, tr_bl, s_right_claim d κ (h c hc)]
  have ha : ((l.map fun _ => true).all id) = true := by simp
  have gt : decide ((4 : Int) < (l.length : Int)) = false := decide_eq_false (by omega)
  have p1 : exS (cb tab (d + 3)) (.ite (.or (.not (.val (.isi .tuple (.var 1)))) (.cm .gt (.bi .len (.cons (.var 1) .nil)) (.glob 0 (.int 4)))) (.cons (.ret (.con (.bl false))) .nil) .nil) [some (.val (picV q)), some (.val (factsV l)), none] κ = .nx [some (.val (picV q)), some (.val (factsV l)), none] κ := by
    simp only [exSs, exS, evE, evT, evEs, evA, evBs, evO, evOt, evI, bw, rdV, rdB, R.bind_ok, R.bind_exc, R.bind_bad, R.ofO_some, R.ofO_none, R.toO_ok, R.toO_exc, R.toO_bad, O.then_nx, O.then_ret, O.then_exc, O.then_bad, O.fin_nx, O.fin_ret, O.fin_exc, O.fin_bad, Option.map_some, Option.map_none, List.map_cons, List.map_nil, Ar.slot, List.cons_append, List.nil_append, List.length_cons, List.length_nil, List.getElem?_cons_zero, List.getElem?_cons_succ, List.set_cons_zero, List.set_cons_succ, parR, bi_abs, bi_inti, bi_intb, bi_lent, bi_lenl, bi_lens, bi_max, bi_min, bi_tupt, bi_tupl, bi_lstt, bi_lstl, isi_t, isi_l, isi_i, isi_b, isi_n, isi_s, reduceCtorEq, decide_true, decide_false, Bool.or_true, Bool.or_false, Bool.true_or, Bool.false_or, blV, ntV, ngV, intV, op_add, op_sub, cm_lt, cm_le, cm_gt, cm_ge, cm_eqi, cm_nei, tr_bl, evBs, len_facts, tt, gt, Bool.not_true, if_true, if_false, Bool.false_eq_true]
  have p3 : exS (cb tab (d + 3)) (.ret (.bi .all (.cons (.comp (.call 4 (.cons (.var 0) (.cons (.var 2) .nil))) (.nm 2) (.seq (.var 1)) .no [2]) .nil))) [some (.val (picV q)), some (.val (factsV l)), none] κ = .ret (.bl true) κ := by
    show ((((evE _ _ _ _).bind fun p => (R.ok ([], p.2)).bind fun q => R.ok (p.1 :: q.1, q.2)).bind _).toO _) = _
    rw [c1]
    simp only [R.bind_ok, bi_all, ha, R.ofO_some, Option.map_some, R.toO_ok]
  show ((exS (cb tab (d + 3)) _ [some (.val (picV q)), some (.val (factsV l)), none] κ).then fun ρ κ => (exS (cb tab (d + 3)) _ ρ κ).then _).fin = _
  rw [p1, O.then_nx, p3]
  rfl
end K01
end
section
namespace PL
open PySem
theorem compL_none {f : Val → Ks → R (Option Val × Ks)} {κ : Ks} : ∀ {l : List Val}, (∀ v ∈ l, f v κ = .ok (none, κ)) → compL l f κ = .ok ([], κ)
  | [], _ => rfl
  | v :: l, h => by
    unfold compL
    rw [h v List.mem_cons_self, R.bind_ok, compL_none fun u hu => h u (List.mem_cons_of_mem _ hu)]
    rfl
theorem ev_comp_none {c : CB} {ee : E} {t : T} {tg : Tg} {it : It} {own : List Nat} {ρ : Rho} {κ : Ks} {l : List Val} (hi : evI c it ρ κ = .ok (l, κ)) (h : ∀ v ∈ l, ∃ ρ2, setTg tg v (wipeR ρ own) = some ρ2 ∧ evT c t ρ2 κ = .ok (false, κ)) :
    evE c (.comp ee tg it (.yes t) own) ρ κ = .ok (.lst [], κ) := by
  show (evI c it ρ κ).bind _ = _
  rw [hi, R.bind_ok]
  dsimp only
  rw [compL_none fun v hv => ?_]
  · simp only [R.bind_ok]
    rw [if_pos (show ([] : List Val).length < LINE by decide)]
  · obtain ⟨ρ2, h1, h2⟩ := h v hv
    rw [h1, R.ofO_some, R.bind_ok]
    show noExc ((evT c t ρ2 κ).bind fun b => if b.1 = true then (evE c ee ρ2 b.2).bind fun x => R.ok (some x.1, x.2) else R.ok (none, b.2)) = _
    rw [h2, R.bind_ok]
    rfl
theorem zipL_mem {l : List Val} {v : Val} (h : v ∈ zipL l l) : ∃ x ∈ l, v = .tup [x, x] := by
  unfold zipL at h
  obtain ⟨p, hp, e⟩ := List.mem_map.mp h
  subst e
  have : p.1 = p.2 ∧ p.1 ∈ l := by
    clear h
    induction l with
    | nil => cases hp
    | cons a l ih =>
      rw [List.zip_cons_cons, List.mem_cons] at hp
      rcases hp with h | h
      · subst h; exact ⟨rfl, by simp⟩
      · have := ih h; exact ⟨this.1, List.mem_cons_of_mem _ this.2⟩
  exact ⟨p.1, this.2, by rw [← this.1]⟩
theorem in23 (n : Int) : cmV .in_ (.int n) (.lst [.int 2, .int 3]) = some (decide (n = 2) || decide (n = 3)) := by
  show some (((2 : Int) == n) || (((3 : Int) == n) || false)) = _
  have h : ∀ k : Int, (k == n) = decide (n = k) := fun k => by
    rw [Bool.eq_iff_iff, beq_iff_eq, decide_eq_true_iff]
    exact ⟨Eq.symm, Eq.symm⟩
  rw [Bool.or_false, h, h]
theorem le0 : (0 ≤ LINE) = True := eq_true (by decide)
theorem eqd_nil : cmV .eq (.lst []) (.lst []) = some true := by decide +kernel
theorem cm_eqb (a : Bool) : cmV .eq (.bl a) (.bl a) = some true := by cases a <;> decide +kernel
theorem notin_bl (l : List Bool) : cmV .notin (.bl false) (.lst (l.map .bl)) = some (l.all id) := by
  have h : (isFlat (.bl false) && (l.map Val.bl).all isFlat) = true := by
    rw [List.all_map]
    simp [Function.comp_def, isFlat]
  show (if isFlat (.bl false) && (l.map Val.bl).all isFlat then some (!(l.map Val.bl).any fun y => eqF y (.bl false)) else none) = _
  rw [if_pos h, List.any_map]
  congr 1
  induction l with
  | nil => rfl
  | cons b l ih =>
    have ih := ih (by rw [List.all_map]; simp [Function.comp_def, isFlat])
    rw [List.any_cons, List.all_cons, Bool.not_or, ih]
    cases b <;> rfl
end PL
namespace K01
open PySem PL
end K01
end
section
namespace PL
open PySem
theorem ss_nx {c : CB} {s : S} {l : Ss} {ρ ρ' : Rho} {κ κ' : Ks} (h : exS c s ρ κ = .nx ρ' κ') : exSs c (.cons s l) ρ κ = exSs c l ρ' κ' := by
  show (exS c s ρ κ).then _ = _
  rw [h]
  rfl
theorem ss_ret {c : CB} {s : S} {l : Ss} {ρ : Rho} {v : Val} {κ κ' : Ks} (h : exS c s ρ κ = .ret v κ') : exSs c (.cons s l) ρ κ = .ret v κ' := by
  show (exS c s ρ κ).then _ = _
  rw [h]
  rfl
theorem ss_exc {c : CB} {s : S} {l : Ss} {ρ : Rho} {e : Nat} {v : Val} {κ κ' : Ks} (h : exS c s ρ κ = .exc e v κ') : exSs c (.cons s l) ρ κ = .exc e v κ' := by
  show (exS c s ρ κ).then _ = _
  rw [h]
  rfl
/-- tuple([..]) -/
theorem ev_tupc {c : CB} {e : E} {ρ : Rho} {κ κ' : Ks} {l : List Val} (h : evE c e ρ κ = .ok (.lst l, κ')) (hb : ∀ r, bw e ρ κ r = r) : evE c (.bi .tuple (.cons e .nil)) ρ κ = .ok (.tup l, κ') := by
  show (((bw e ρ κ (evE c e ρ κ)).bind fun p => (R.ok ([], p.2)).bind fun q => R.ok (p.1 :: q.1, q.2)).bind _) = _
  rw [hb, h]
  rfl
theorem ev_allc {c : CB} {e : E} {ρ : Rho} {κ κ' : Ks} {l : List Bool} (h : evE c e ρ κ = .ok (.lst (l.map .bl), κ')) (hb : ∀ r, bw e ρ κ r = r) : evE c (.bi .all (.cons e .nil)) ρ κ = .ok (.bl (l.all id), κ') := by
  show (((bw e ρ κ (evE c e ρ κ)).bind fun p => (R.ok ([], p.2)).bind fun q => R.ok (p.1 :: q.1, q.2)).bind _) = _
  rw [hb, h]
  simp only [R.bind_ok, bi_all, R.ofO_some, Option.map_some]
theorem ev_retE {c : CB} {e : E} {ρ : Rho} {κ κ' : Ks} {v : Val} (h : evE c e ρ κ = .ok (v, κ')) : exS c (.ret e) ρ κ = .ret v κ' := by
  show (evE c e ρ κ).toO _ = _
  rw [h]
  rfl
theorem ev_exprE {c : CB} {e : E} {ρ : Rho} {κ κ' : Ks} {v : Val} (h : evE c e ρ κ = .ok (v, κ')) : exS c (.expr e) ρ κ = .nx ρ κ' := by
  show (evE c e ρ κ).toO _ = _
  rw [h]
  rfl
theorem ev_exprX {c : CB} {e : E} {ρ : Rho} {κ κ' : Ks} {k : Nat} {v : Val} (h : evE c e ρ κ = .exc k v κ') : exS c (.expr e) ρ κ = .exc k v κ' := by
  show (evE c e ρ κ).toO _ = _
  rw [h]
  rfl
end PL
namespace K01
open PySem PL
def placesV (a b : Int) (q : List Int) : Val := .tup (q.map fun m => lowP (m * b) (b + m * a))
theorem small9 {n : Int} (h1 : 0 < n) (h2 : n ≤ 61000000000) : n.natAbs < 2 ^ 9000 := Nat.lt_of_lt_of_le (show n.natAbs < 2 ^ 40 by omega) (Nat.pow_le_pow_right (by decide) (by decide))
theorem map_pic (f : Int → Val) (q : List Int) (g : Val → Val) (h : ∀ m, g (.int m) = f m) : (q.map Val.int).map g = q.map f := by
  rw [List.map_map]
  exact List.map_congr_left fun m _ => h m
def gPl (a b : Int) : Val → Val
  | .int m => lowP (m * b) (b + m * a)
  | v => v
theorem cl_map (f : Clm → Val) (l : List Clm) (g : Val → Val) (h : ∀ c ∈ l, g (Clm.v c) = f c) : (l.map Clm.v).map g = l.map f := by
  rw [List.map_map]
  exact List.map_congr_left fun m hm => h m hm
theorem comp_facts {c : CB} {ee : E} {i j : Nat} {ρ : Rho} {κ : Ks} {l : List Clm} {f : Clm → Bool} (hi : rdB ρ j = some (factsV l)) (hl : l.length ≤ 9) (he : ∀ x ∈ l, evE c ee ((wipeR ρ [i]).set i (some (.val (Clm.v x)))) κ = .ok (.bl (f x), κ)) (hlen : i < (wipeR ρ [i]).length) (h0 : rdV ρ j = some (factsV l)) : evE c (.comp ee (.nm i) (.seq (.var j)) .no [i]) ρ κ = .ok (.lst ((l.map f).map .bl), κ) := by
  have key : ∀ (xs : List Clm), (∀ x ∈ xs, x ∈ l) → compL (xs.map Clm.v) (fun v κ' => noExc ((R.ofO (setTg (.nm i) v (wipeR ρ [i]))).bind fun ρ2 => (evOt c .no ρ2 κ').bind fun b =>
      if b.1 = true then (evE c ee ρ2 b.2).bind fun x => .ok (some x.1, x.2) else .ok (none, b.2))) κ = .ok ((xs.map f).map .bl, κ) := by
    intro xs
    induction xs with
    | nil => intro _; rfl
    | cons x xs ih =>
      intro hx
      have h1 : setTg (.nm i) (Clm.v x) (wipeR ρ [i]) = some ((wipeR ρ [i]).set i (some (.val (Clm.v x)))) := by
        unfold setTg
        rw [if_pos hlen]
      show ((noExc ((R.ofO (setTg (.nm i) (Clm.v x) (wipeR ρ [i]))).bind _)).bind _) = _
      rw [h1, R.ofO_some, R.bind_ok]
      show (noExc ((R.ok (true, κ)).bind _)).bind _ = _
      rw [R.bind_ok]
      simp only [if_true, he x (hx x (by simp)), R.bind_ok, noExcOk]
      rw [ih fun y hy => hx y (by simp [hy])]
      rfl
  show ((evI c (.seq (.var j)) ρ κ).bind _) = _
  have h2 : evI c (.seq (.var j)) ρ κ = .ok (l.map Clm.v, κ) := by
    show ((R.ofO ((rdV ρ j).map fun v => (v, κ))).bind _) = _
    rw [h0]
    rfl
  rw [h2, R.bind_ok]
  dsimp only
  rw [key l fun _ h => h, R.bind_ok]
  rw [if_pos (by simp only [List.length_map]; exact Nat.lt_of_le_of_lt hl (by decide))]
end K01
namespace PL
open PySem
theorem ev_callE {c : CB} {f : Nat} {es : As} {ρ : Rho} {κ κ1 : Ks} {vs : List Ar} (h : evA c es ρ κ = .ok (vs, κ1)) : evE c (.call f es) ρ κ = c.cf f vs κ1 := by
  show (evA c es ρ κ).bind _ = _
  rw [h]
  rfl
theorem ev_args2 {c : CB} {a b : E} {ρ : Rho} {κ κ1 κ2 : Ks} {x y : Val} (h1 : evE c a ρ κ = .ok (x, κ1)) (h2 : evE c b ρ κ1 = .ok (y, κ2)) : evA c (.cons a (.cons b .nil)) ρ κ = .ok ([.v x, .v y], κ2) := by
  show ((evE c a ρ κ).bind _) = _
  rw [h1, R.bind_ok]
  show (((evE c b ρ κ1).bind _).bind _) = _
  rw [h2]
  rfl
theorem ite_no {c : CB} {t : T} {a b : Ss} {ρ : Rho} {κ κ1 : Ks} (h : evT c t ρ κ = .ok (false, κ1)) : exS c (.ite t a b) ρ κ = exSs c b ρ κ1 := by
  show (evT c t ρ κ).toO _ = _
  rw [h]
  rfl
theorem ite_yes {c : CB} {t : T} {a b : Ss} {ρ : Rho} {κ κ1 : Ks} (h : evT c t ρ κ = .ok (true, κ1)) : exS c (.ite t a b) ρ κ = exSs c a ρ κ1 := by
  show (evT c t ρ κ).toO _ = _
  rw [h]
  rfl
theorem not_val {c : CB} {e : E} {b : Bool} {ρ : Rho} {κ κ1 : Ks} (h : evE c e ρ κ = .ok (.bl b, κ1)) : evT c (.not (.val e)) ρ κ = .ok (!b, κ1) := by
  show (((evE c e ρ κ).bind _).bind _) = _
  rw [h]
  rfl
theorem spr_new {κ : Ks} {a b : Int} (ha : 0 ≤ a) (hb : 0 ≤ b) (hb2 : b ≤ 2147483587) : Spr (κ ++ [.lst [.int a, .int b]]) κ.length := ⟨a, b, by simp, ha, hb, hb2⟩
end PL
namespace K01
open PySem PL
end K01
end
section
namespace PL
open PySem
theorem op_str {x y : Str} (h : decide (x.length + y.length ≤ LINE) = true) : opV .add (.str x) (.str y) = some (.str (x ++ y)) := by
  show (if x.length + y.length ≤ LINE then some (Val.str (x ++ y)) else none) = _
  rw [if_pos (of_decide_eq_true h)]
theorem filtL_ok {f : Nat → List Val → Ks → R (Bool × Ks)} {κ : Ks} : ∀ {l : List (Nat × List Val)}, (∀ p ∈ l, f p.1 p.2 κ = .ok (false, κ)) → filtL l f κ = .ok κ
  | [], _ => rfl
  | p :: l, h => by
    show ((f p.1 p.2 κ).bind _) = _
    rw [h p List.mem_cons_self, R.bind_ok]
    exact filtL_ok fun q hq => h q (List.mem_cons_of_mem _ hq)
end PL
namespace K01
open PySem PL
/-- a lambda that ends in an error -/
def Bad (d : Nat) (c : Nat) (p : Nat × List Val) : Prop := ∀ κ, (cb tab d).cl p.1 p.2 κ = .exc c .non κ
theorem s_all_say (d : Nat) {L : List (Nat × List Val)} {w w2 : Str} {c : Nat} (κ : Ks) (h : ∀ p ∈ L, Bad d c p) (hw : opV .add (.str w) (.str " value") = some (.str w2)) (hk : cmV .ne (.tup [.non, .str (kinS c)]) (.tup [.non, .str w2]) = some false) :
    (cb tab (d + 2)).cf 21 [.x (.many L), .v (.str w)] κ = .ok (.bl true, κ) := by
  rw [cf_succ _ _ _ _ _ rfl rfl]
  have f1 : filtL L (fun k caps κ' => noExc (evT (cb tab (d + 1)) (.cm .ne (.call 20 (.ext 2 .nil)) (.tup (.cons (.con (.non)) (.cons (.op .add (.var 1) (.con (.str " value"))) .nil)))) ([some (.ext (.many L)), some (.val (.str w)), (none : Option PL.Slot)].set 2 (some (.ext (.one k caps)))) κ')) κ = .ok κ := by
    refine filtL_ok fun p hp => ?_
    have hb := h p hp κ
    have hc : (cb tab (d + 1)).cf 20 [.x (.one p.1 p.2)] κ = .ok (.tup [.non, .str (kinS c)], κ) := by
      rw [cf_succ _ _ _ _ _ rfl rfl]
      show ((cameO (cb tab d).cl (cb tab d).kin 0 [some (.ext (.one p.1 p.2)), none] κ).then _).fin = _
      have : cameO (cb tab d).cl (cb tab d).kin 0 [some (.ext (.one p.1 p.2)), none] κ = .ret (.tup [.non, .str (kinS c)]) κ := by
        show (match (cb tab d).cl p.1 p.2 κ with
          | .ok p => O.ret (.tup [p.1, .str ⟨#[]⟩]) p.2
          | .exc c .non κ' => .ret (.tup [.non, .str ((cb tab d).kin c)]) κ'
          | _ => .bad) = _
        rw [hb]
        cases d <;> rfl
      rw [this]
      rfl
    have he : evT (cb tab (d + 1)) (.cm .ne (.call 20 (.ext 2 .nil)) (.tup (.cons (.con (.non)) (.cons (.op .add (.var 1) (.con (.str " value"))) .nil)))) ([some (.ext (.many L)), some (.val (.str w)), (none : Option PL.Slot)].set 2 (some (.ext (.one p.1 p.2)))) κ = .ok (false, κ) := by
      have rx : rdX [some (.ext (.many L)), some (.val (.str w)), some (.ext (.one p.1 p.2))] 2 = some (.one p.1 p.2) := rfl
      simp only [exSs, exS, evE, evT, evEs, evA, evBs, evO, evOt, evI, bw, rdV, rdB, R.bind_ok, R.bind_exc, R.bind_bad, R.ofO_some, R.ofO_none, R.toO_ok, R.toO_exc, R.toO_bad, O.then_nx, O.then_ret, O.then_exc, O.then_bad, O.fin_nx, O.fin_ret, O.fin_exc, O.fin_bad, Option.map_some, Option.map_none, List.map_cons, List.map_nil, Ar.slot, List.cons_append, List.nil_append, List.length_cons, List.length_nil, List.getElem?_cons_zero, List.getElem?_cons_succ, List.set_cons_zero, List.set_cons_succ, parR, bi_abs, bi_inti, bi_intb, bi_lent, bi_lenl, bi_lens, bi_max, bi_min, bi_tupt, bi_tupl, bi_lstt, bi_lstl, isi_t, isi_l, isi_i, isi_b, isi_n, isi_s, reduceCtorEq, decide_true, decide_false, Bool.or_true, Bool.or_false, Bool.true_or, Bool.false_or, blV, ntV, ngV, intV, op_add, op_sub, cm_lt, cm_le, cm_gt, cm_ge, cm_eqi, cm_nei, tr_bl, rx, hc, hw, le2, if_true, hk]
    rw [he]
    rfl
  have f2 : evE (cb tab (d + 1)) (.filt 2 0 (.cm .ne (.call 20 (.ext 2 .nil)) (.tup (.cons (.con (.non)) (.cons (.op .add (.var 1) (.con (.str " value"))) .nil))))) [some (.ext (.many L)), some (.val (.str w)), none] κ = .ok (.lst [], κ) := by
    show ((filtL L _ κ).bind _) = _
    exact (congrArg (fun r => R.bind r _) f1).trans rfl
  show ((exS (cb tab (d + 1)) (.ret (.cm .eq (.filt _ _ _) (.lst .nil))) [some (.ext (.many L)), some (.val (.str w)), none] κ).then _).fin = _
  have f3 : exS (cb tab (d + 1)) (.ret (.cm .eq (.filt 2 0 (.cm .ne (.call 20 (.ext 2 .nil)) (.tup (.cons (.con (.non)) (.cons (.op .add (.var 1) (.con (.str " value"))) .nil))))) (.lst .nil))) [some (.ext (.many L)), some (.val (.str w)), none] κ = .ret (.bl true) κ := by
    refine ev_retE ?_
    show ((evE _ _ _ _).bind _) = _
    rw [f2]
    simp only [exSs, exS, evE, evT, evEs, evA, evBs, evO, evOt, evI, bw, rdV, rdB, R.bind_ok, R.bind_exc, R.bind_bad, R.ofO_some, R.ofO_none, R.toO_ok, R.toO_exc, R.toO_bad, O.then_nx, O.then_ret, O.then_exc, O.then_bad, O.fin_nx, O.fin_ret, O.fin_exc, O.fin_bad, Option.map_some, Option.map_none, List.map_cons, List.map_nil, Ar.slot, List.cons_append, List.nil_append, List.length_cons, List.length_nil, List.getElem?_cons_zero, List.getElem?_cons_succ, List.set_cons_zero, List.set_cons_succ, parR, bi_abs, bi_inti, bi_intb, bi_lent, bi_lenl, bi_lens, bi_max, bi_min, bi_tupt, bi_tupl, bi_lstt, bi_lstl, isi_t, isi_l, isi_i, isi_b, isi_n, isi_s, reduceCtorEq, decide_true, decide_false, Bool.or_true, Bool.or_false, Bool.true_or, Bool.false_or, blV, ntV, ngV, intV, op_add, op_sub, cm_lt, cm_le, cm_gt, cm_ge, cm_eqi, cm_nei, tr_bl, le0, if_true, eqd_nil]
  rw [f3]
  rfl
/-! ### odd values -/
def OddLean (d : Nat) (v : Val) : Prop := ∀ κ, (cb tab d).cf 6 [.v v] κ = .ok (.bl false, κ)
def OddSum (d : Nat) (q : List Int) (v : Val) : Prop := ∀ κ, (cb tab d).cf 3 [.v (picV q), .v v] κ = .ok (.bl false, κ)
def OddPic (d : Nat) (v : Val) : Prop := ∀ κ, (cb tab d).cf 2 [.v v] κ = .ok (.bl false, κ)
theorem x_need_pic (d : Nat) {v : Val} (h : OddPic d v) (κ : Ks) : (cb tab (d + 1)).cf 7 [.v v] κ = .exc (0) .non κ := by
  rw [cf_succ _ _ _ _ _ rfl rfl]
  simp only [ir_need_picture, List.replicate, Nat.reduceSub, List.append_nil, exSs, exS, evE, evT, evEs, evA, evBs, evO, evOt, evI, bw, rdV, rdB, R.bind_ok, R.bind_exc, R.bind_bad, R.ofO_some, R.ofO_none, R.toO_ok, R.toO_exc, R.toO_bad, O.then_nx, O.then_ret, O.then_exc, O.then_bad, O.fin_nx, O.fin_ret, O.fin_exc, O.fin_bad, Option.map_some, Option.map_none, List.map_cons, List.map_nil, Ar.slot, List.cons_append, List.nil_append, List.length_cons, List.length_nil, List.getElem?_cons_zero, List.getElem?_cons_succ, List.set_cons_zero, List.set_cons_succ, parR, bi_abs, bi_inti, bi_intb, bi_lent, bi_lenl, bi_lens, bi_max, bi_min, bi_tupt, bi_tupl, bi_lstt, bi_lstl, isi_t, isi_l, isi_i, isi_b, isi_n, isi_s, reduceCtorEq, decide_true, decide_false, Bool.or_true, Bool.or_false, Bool.true_or, Bool.false_or, blV, ntV, ngV, intV, op_add, op_sub, cm_lt, cm_le, cm_gt, cm_ge, cm_eqi, cm_nei, tr_bl, h κ, Bool.not_false, if_true]
end K01
namespace PL
open PySem
theorem cls_lams {ρ : Rho} {l : List (Nat × List Nat)} (h : l.length ≤ 1000) : clsOf ρ (.lams l) = some l := by
  show (if l.length ≤ LINE then some l else none) = _
  rw [if_pos (Nat.le_trans h (by decide))]
theorem cls_var {ρ : Rho} {i : Nat} {l : List (Nat × List Nat)} (h : ρ[i]? = some (some (.cls l))) : clsOf ρ (.var i) = some l := by
  unfold clsOf
  rw [h]
theorem cls_add {ρ : Rho} {a b : Cl} {x y : List (Nat × List Nat)} (h1 : clsOf ρ a = some x) (h2 : clsOf ρ b = some y) (h : x.length + y.length ≤ 1000) : clsOf ρ (.add a b) = some (x ++ y) := by
  unfold clsOf
  rw [h1, h2]
  show (if x.length + y.length ≤ LINE then some (x ++ y) else none) = _
  rw [if_pos (Nat.le_trans h (by decide))]
theorem setC_nx {c : CB} {ρ : Rho} {κ : Ks} {d : Cl} {i : Nat} {l : List (Nat × List Nat)} (h : clsOf ρ d = some l) : exS c (.setC i d) ρ κ = .nx (ρ.set i (some (.cls l))) κ := by
  show (match clsOf ρ d with
    | some l => O.nx (ρ.set i (some (.cls l))) κ
    | none => .bad) = _
  rw [h]
theorem ev_clos {c : CB} {ρ : Rho} {κ : Ks} {d : Cl} {w : Str} {l : List (Nat × List Nat)} {L : List (Nat × List Val)} (h : clsOf ρ d = some l) (h2 : eclosOf ρ l = some L) : evA c (.clos d (.cons (.con (.str w)) .nil)) ρ κ = .ok ([.x (.many L), .v (.str w)], κ) := by
  show ((R.ofO (((clsOf ρ d).bind (eclosOf ρ)).map fun l => Ar.x (.many l))).bind _) = _
  rw [h]
  show ((R.ofO (((eclosOf ρ l)).map fun l => Ar.x (.many l))).bind _) = _
  rw [h2]
  rfl
end PL
namespace K01
open PySem PL
theorem cl_succ (d k : Nat) (e : E) (h : lamE k = some e) (caps : List Val) (κ : Ks) : (cb tab (d + 1)).cl k caps κ = evE (cb tab d) e (caps.map fun v => some (.val v)) κ := by
  show (match lamE k with
      | some e => evE (cb tab d) e (caps.map fun v => some (.val v)) κ
      | none => .bad) = _
  rw [h]
theorem say_lean : opV .add (.str "lean") (.str " value") = some (.str "lean value") := op_str (by decide +kernel)
theorem say_sum : opV .add (.str "sum") (.str " value") = some (.str "sum value") := op_str (by decide +kernel)
theorem say_claim : opV .add (.str "claim") (.str " value") = some (.str "claim value") := op_str (by decide +kernel)
theorem say_facts : opV .add (.str "facts") (.str " value") = some (.str "facts value") := op_str (by decide +kernel)
theorem say_picture : opV .add (.str "picture") (.str " value") = some (.str "picture value") := op_str (by decide +kernel)
theorem all_no {c : CB} {t : Cl} {w : Str} {ρ : Rho} {κ : Ks} {L : List (Nat × List Val)} {x : Ss} (ha : evA c (.clos t (.cons (.con (.str w)) .nil)) ρ κ = .ok ([.x (.many L), .v (.str w)], κ)) (hc : c.cf 21 [.x (.many L), .v (.str w)] κ = .ok (.bl true, κ)) : exS c (.ite (.not (.val (.call 21 (.clos t (.cons (.con (.str w)) .nil))))) x .nil) ρ κ = .nx ρ κ := by
  have := not_val ((ev_callE ha).trans hc)
  rw [ite_no this]
  rfl
end K01
end
section
namespace PL
open PySem
/-- a value that is data, at the top -/
def topD : Val → Bool
  | .fn _ => false | .cell _ => false | .scr _ => false
  | _ => true
def wholeV (v : Val) (lo hi : Int) : Bool := match v with
  | .int n => decide (lo ≤ n) && decide (n ≤ hi)
  | _ => false
end PL
namespace K01
open PySem PL
theorem s_wholeV (d : Nat) {v : Val} (h : topD v = true) (lo hi : Int) (κ : Ks) : (cb tab (d + 1)).cf 1 [.v v, .v (.int lo), .v (.int hi)] κ = .ok (.bl (wholeV v lo hi), κ) := by
  cases v with
  | int n => exact s_whole d n lo hi κ
  | non => rfl
  | bl b => rfl
  | str x => rfl
  | tup l => rfl
  | lst l => rfl
  | fn i => cases h
  | cell i => cases h
  | scr i => cases h
theorem odd_leans (d : Nat) : ∀ v ∈ ([.non, .tup [.int 0, .int 2], .tup [.int 1, .int (-1)], .lst [.int 0, .int 1], .tup [.bl true, .int 1], .tup [.int (1000000000 + 1), .int 2], .int 1] : List Val), OddLean (d + 2) v := by
  intro v hv κ
  rw [cf_succ _ _ _ _ _ rfl rfl]
  have w := fun v (h : topD v = true) lo hi => s_wholeV d h lo hi κ
  have e := s_measure d 0 2 κ (by rw [BIG_eq]; exact Nat.lt_of_lt_of_le (show (2 : Int).natAbs < 2 ^ 2 by decide) (Nat.pow_le_pow_right (by decide) (by decide)))
  have t2 : ((0 + 1 + 1 : Nat) : Int) = 2 := rfl
  simp only [List.mem_cons, List.mem_nil_iff, or_false] at hv
  rcases hv with h | h | h | h | h | h | h <;> subst h
  · simp only [ir_is_lean, List.replicate, Nat.reduceSub, List.append_nil, exSs, exS, evE, evT, evEs, evA, evBs, evO, evOt, evI, bw, rdV, rdB, R.bind_ok, R.bind_exc, R.bind_bad, R.ofO_some, R.ofO_none, R.toO_ok, R.toO_exc, R.toO_bad, O.then_nx, O.then_ret, O.then_exc, O.then_bad, O.fin_nx, O.fin_ret, O.fin_exc, O.fin_bad, Option.map_some, Option.map_none, List.map_cons, List.map_nil, Ar.slot, List.cons_append, List.nil_append, List.length_cons, List.length_nil, List.getElem?_cons_zero, List.getElem?_cons_succ, List.set_cons_zero, List.set_cons_succ, parR, bi_abs, bi_inti, bi_intb, bi_lent, bi_lenl, bi_lens, bi_max, bi_min, bi_tupt, bi_tupl, bi_lstt, bi_lstl, isi_t, isi_l, isi_i, isi_b, isi_n, isi_s, reduceCtorEq, decide_true, decide_false, Bool.or_true, Bool.or_false, Bool.true_or, Bool.false_or, blV, ntV, ngV, intV, op_add, op_sub, cm_lt, cm_le, cm_gt, cm_ge, cm_eqi, cm_nei, tr_bl, evBs, Bool.not_false, if_true]
  · simp only [ir_is_lean, List.replicate, Nat.reduceSub, List.append_nil, exSs, exS, evE, evT, evEs, evA, evBs, evO, evOt, evI, bw, rdV, rdB, R.bind_ok, R.bind_exc, R.bind_bad, R.ofO_some, R.ofO_none, R.toO_ok, R.toO_exc, R.toO_bad, O.then_nx, O.then_ret, O.then_exc, O.then_bad, O.fin_nx, O.fin_ret, O.fin_exc, O.fin_bad, Option.map_some, Option.map_none, List.map_cons, List.map_nil, Ar.slot, List.cons_append, List.nil_append, List.length_cons, List.length_nil, List.getElem?_cons_zero, List.getElem?_cons_succ, List.set_cons_zero, List.set_cons_succ, parR, bi_abs, bi_inti, bi_intb, bi_lent, bi_lenl, bi_lens, bi_max, bi_min, bi_tupt, bi_tupl, bi_lstt, bi_lstl, isi_t, isi_l, isi_i, isi_b, isi_n, isi_s, reduceCtorEq, decide_true, decide_false, Bool.or_true, Bool.or_false, Bool.true_or, Bool.false_or, blV, ntV, ngV, intV, op_add, op_sub, cm_lt, cm_le, cm_gt, cm_ge, cm_eqi, cm_nei, tr_bl, evBs, Bool.not_false, Bool.not_true, if_true, if_false, Bool.false_eq_true, ix_t0, ix_t1, t2, pow9, w (.int 0) rfl, w (.int 2) rfl, wholeV, Int.le_refl, show (0 : Int) ≤ 1000000000 from by decide, show (1 : Int) ≤ 2 from by decide, show (2 : Int) ≤ 1000000000 from by decide, Bool.and_self, e]
    rfl
  · simp only [ir_is_lean, List.replicate, Nat.reduceSub, List.append_nil, exSs, exS, evE, evT, evEs, evA, evBs, evO, evOt, evI, bw, rdV, rdB, R.bind_ok, R.bind_exc, R.bind_bad, R.ofO_some, R.ofO_none, R.toO_ok, R.toO_exc, R.toO_bad, O.then_nx, O.then_ret, O.then_exc, O.then_bad, O.fin_nx, O.fin_ret, O.fin_exc, O.fin_bad, Option.map_some, Option.map_none, List.map_cons, List.map_nil, Ar.slot, List.cons_append, List.nil_append, List.length_cons, List.length_nil, List.getElem?_cons_zero, List.getElem?_cons_succ, List.set_cons_zero, List.set_cons_succ, parR, bi_abs, bi_inti, bi_intb, bi_lent, bi_lenl, bi_lens, bi_max, bi_min, bi_tupt, bi_tupl, bi_lstt, bi_lstl, isi_t, isi_l, isi_i, isi_b, isi_n, isi_s, reduceCtorEq, decide_true, decide_false, Bool.or_true, Bool.or_false, Bool.true_or, Bool.false_or, blV, ntV, ngV, intV, op_add, op_sub, cm_lt, cm_le, cm_gt, cm_ge, cm_eqi, cm_nei, tr_bl, evBs, Bool.not_false, Bool.not_true, if_true, if_false, Bool.false_eq_true, ix_t0, ix_t1, t2, pow9, w (.int 1) rfl, w (.int (-1)) rfl, wholeV, show ((1 : Int) ≤ -1) = False from eq_false (by decide), show (0 : Int) ≤ 1 from by decide, show (1 : Int) ≤ 1000000000 from by decide, Bool.and_self, Bool.false_and]
  · simp only [ir_is_lean, List.replicate, Nat.reduceSub, List.append_nil, exSs, exS, evE, evT, evEs, evA, evBs, evO, evOt, evI, bw, rdV, rdB, R.bind_ok, R.bind_exc, R.bind_bad, R.ofO_some, R.ofO_none, R.toO_ok, R.toO_exc, R.toO_bad, O.then_nx, O.then_ret, O.then_exc, O.then_bad, O.fin_nx, O.fin_ret, O.fin_exc, O.fin_bad, Option.map_some, Option.map_none, List.map_cons, List.map_nil, Ar.slot, List.cons_append, List.nil_append, List.length_cons, List.length_nil, List.getElem?_cons_zero, List.getElem?_cons_succ, List.set_cons_zero, List.set_cons_succ, parR, bi_abs, bi_inti, bi_intb, bi_lent, bi_lenl, bi_lens, bi_max, bi_min, bi_tupt, bi_tupl, bi_lstt, bi_lstl, isi_t, isi_l, isi_i, isi_b, isi_n, isi_s, reduceCtorEq, decide_true, decide_false, Bool.or_true, Bool.or_false, Bool.true_or, Bool.false_or, blV, ntV, ngV, intV, op_add, op_sub, cm_lt, cm_le, cm_gt, cm_ge, cm_eqi, cm_nei, tr_bl, evBs, Bool.not_false, if_true]
  · simp only [ir_is_lean, List.replicate, Nat.reduceSub, List.append_nil, exSs, exS, evE, evT, evEs, evA, evBs, evO, evOt, evI, bw, rdV, rdB, R.bind_ok, R.bind_exc, R.bind_bad, R.ofO_some, R.ofO_none, R.toO_ok, R.toO_exc, R.toO_bad, O.then_nx, O.then_ret, O.then_exc, O.then_bad, O.fin_nx, O.fin_ret, O.fin_exc, O.fin_bad, Option.map_some, Option.map_none, List.map_cons, List.map_nil, Ar.slot, List.cons_append, List.nil_append, List.length_cons, List.length_nil, List.getElem?_cons_zero, List.getElem?_cons_succ, List.set_cons_zero, List.set_cons_succ, parR, bi_abs, bi_inti, bi_intb, bi_lent, bi_lenl, bi_lens, bi_max, bi_min, bi_tupt, bi_tupl, bi_lstt, bi_lstl, isi_t, isi_l, isi_i, isi_b, isi_n, isi_s, reduceCtorEq, decide_true, decide_false, Bool.or_true, Bool.or_false, Bool.true_or, Bool.false_or, blV, ntV, ngV, intV, op_add, op_sub, cm_lt, cm_le, cm_gt, cm_ge, cm_eqi, cm_nei, tr_bl, evBs, Bool.not_false, Bool.not_true, if_true, if_false, Bool.false_eq_true, ix_t0, ix_t1, t2, pow9, w (.bl true) rfl, wholeV]
  · simp only [ir_is_lean, List.replicate, Nat.reduceSub, List.append_nil, exSs, exS, evE, evT, evEs, evA, evBs, evO, evOt, evI, bw, rdV, rdB, R.bind_ok, R.bind_exc, R.bind_bad, R.ofO_some, R.ofO_none, R.toO_ok, R.toO_exc, R.toO_bad, O.then_nx, O.then_ret, O.then_exc, O.then_bad, O.fin_nx, O.fin_ret, O.fin_exc, O.fin_bad, Option.map_some, Option.map_none, List.map_cons, List.map_nil, Ar.slot, List.cons_append, List.nil_append, List.length_cons, List.length_nil, List.getElem?_cons_zero, List.getElem?_cons_succ, List.set_cons_zero, List.set_cons_succ, parR, bi_abs, bi_inti, bi_intb, bi_lent, bi_lenl, bi_lens, bi_max, bi_min, bi_tupt, bi_tupl, bi_lstt, bi_lstl, isi_t, isi_l, isi_i, isi_b, isi_n, isi_s, reduceCtorEq, decide_true, decide_false, Bool.or_true, Bool.or_false, Bool.true_or, Bool.false_or, blV, ntV, ngV, intV, op_add, op_sub, cm_lt, cm_le, cm_gt, cm_ge, cm_eqi, cm_nei, tr_bl, evBs, Bool.not_false, Bool.not_true, if_true, if_false, Bool.false_eq_true, ix_t0, ix_t1, t2, pow9, w (.int (1000000000 + 1)) rfl, wholeV, show ((1000000000 + 1 : Int) ≤ 1000000000) = False from eq_false (by decide), Bool.and_false]
  · simp only [ir_is_lean, List.replicate, Nat.reduceSub, List.append_nil, exSs, exS, evE, evT, evEs, evA, evBs, evO, evOt, evI, bw, rdV, rdB, R.bind_ok, R.bind_exc, R.bind_bad, R.ofO_some, R.ofO_none, R.toO_ok, R.toO_exc, R.toO_bad, O.then_nx, O.then_ret, O.then_exc, O.then_bad, O.fin_nx, O.fin_ret, O.fin_exc, O.fin_bad, Option.map_some, Option.map_none, List.map_cons, List.map_nil, Ar.slot, List.cons_append, List.nil_append, List.length_cons, List.length_nil, List.getElem?_cons_zero, List.getElem?_cons_succ, List.set_cons_zero, List.set_cons_succ, parR, bi_abs, bi_inti, bi_intb, bi_lent, bi_lenl, bi_lens, bi_max, bi_min, bi_tupt, bi_tupl, bi_lstt, bi_lstl, isi_t, isi_l, isi_i, isi_b, isi_n, isi_s, reduceCtorEq, decide_true, decide_false, Bool.or_true, Bool.or_false, Bool.true_or, Bool.false_or, blV, ntV, ngV, intV, op_add, op_sub, cm_lt, cm_le, cm_gt, cm_ge, cm_eqi, cm_nei, tr_bl, evBs, Bool.not_false, if_true]
/-! ### odd sums -/
theorem os_shape (d : Nat) {q : List Int} {v : Val} (h : ∀ l, v ≠ .tup l) (ht : topD v = true) : OddSum (d + 1) q v := by
  intro κ
  rw [cf_succ _ _ _ _ _ rfl rfl]
  cases v with
  | tup l => exact absurd rfl (h l)
  | fn i => cases ht
  | cell i => cases ht
  | scr i => cases ht
  | _ => simp only [ir_is_right_sum, List.replicate, Nat.reduceSub, List.append_nil, exSs, exS, evE, evT, evEs, evA, evBs, evO, evOt, evI, bw, rdV, rdB, R.bind_ok, R.bind_exc, R.bind_bad, R.ofO_some, R.ofO_none, R.toO_ok, R.toO_exc, R.toO_bad, O.then_nx, O.then_ret, O.then_exc, O.then_bad, O.fin_nx, O.fin_ret, O.fin_exc, O.fin_bad, Option.map_some, Option.map_none, List.map_cons, List.map_nil, Ar.slot, List.cons_append, List.nil_append, List.length_cons, List.length_nil, List.getElem?_cons_zero, List.getElem?_cons_succ, List.set_cons_zero, List.set_cons_succ, parR, bi_abs, bi_inti, bi_intb, bi_lent, bi_lenl, bi_lens, bi_max, bi_min, bi_tupt, bi_tupl, bi_lstt, bi_lstl, isi_t, isi_l, isi_i, isi_b, isi_n, isi_s, reduceCtorEq, decide_true, decide_false, Bool.or_true, Bool.or_false, Bool.true_or, Bool.false_or, blV, ntV, ngV, intV, op_add, op_sub, cm_lt, cm_le, cm_gt, cm_ge, cm_eqi, cm_nei, tr_bl, evBs, Bool.not_false, if_true]
theorem os_len (d : Nat) {q : List Int} {l : List Val} (h : l.length < 1 ∨ 3 < l.length) : OddSum (d + 1) q (.tup l) := by
  intro κ
  rw [cf_succ _ _ _ _ _ rfl rfl]
  by_cases h1 : (1 : Int) ≤ (l.length : Int)
  · have h3 : ¬ ((l.length : Int) ≤ 3) := by omega
    simp only [ir_is_right_sum, List.replicate, Nat.reduceSub, List.append_nil, exSs, exS, evE, evT, evEs, evA, evBs, evO, evOt, evI, bw, rdV, rdB, R.bind_ok, R.bind_exc, R.bind_bad, R.ofO_some, R.ofO_none, R.toO_ok, R.toO_exc, R.toO_bad, O.then_nx, O.then_ret, O.then_exc, O.then_bad, O.fin_nx, O.fin_ret, O.fin_exc, O.fin_bad, Option.map_some, Option.map_none, List.map_cons, List.map_nil, Ar.slot, List.cons_append, List.nil_append, List.length_cons, List.length_nil, List.getElem?_cons_zero, List.getElem?_cons_succ, List.set_cons_zero, List.set_cons_succ, parR, bi_abs, bi_inti, bi_intb, bi_lent, bi_lenl, bi_lens, bi_max, bi_min, bi_tupt, bi_tupl, bi_lstt, bi_lstl, isi_t, isi_l, isi_i, isi_b, isi_n, isi_s, reduceCtorEq, decide_true, decide_false, Bool.or_true, Bool.or_false, Bool.true_or, Bool.false_or, blV, ntV, ngV, intV, op_add, op_sub, cm_lt, cm_le, cm_gt, cm_ge, cm_eqi, cm_nei, tr_bl, evBs, Bool.not_false, Bool.not_true, if_true, if_false, Bool.false_eq_true, h1, h3]
  · simp only [ir_is_right_sum, List.replicate, Nat.reduceSub, List.append_nil, exSs, exS, evE, evT, evEs, evA, evBs, evO, evOt, evI, bw, rdV, rdB, R.bind_ok, R.bind_exc, R.bind_bad, R.ofO_some, R.ofO_none, R.toO_ok, R.toO_exc, R.toO_bad, O.then_nx, O.then_ret, O.then_exc, O.then_bad, O.fin_nx, O.fin_ret, O.fin_exc, O.fin_bad, Option.map_some, Option.map_none, List.map_cons, List.map_nil, Ar.slot, List.cons_append, List.nil_append, List.length_cons, List.length_nil, List.getElem?_cons_zero, List.getElem?_cons_succ, List.set_cons_zero, List.set_cons_succ, parR, bi_abs, bi_inti, bi_intb, bi_lent, bi_lenl, bi_lens, bi_max, bi_min, bi_tupt, bi_tupl, bi_lstt, bi_lstl, isi_t, isi_l, isi_i, isi_b, isi_n, isi_s, reduceCtorEq, decide_true, decide_false, Bool.or_true, Bool.or_false, Bool.true_or, Bool.false_or, blV, ntV, ngV, intV, op_add, op_sub, cm_lt, cm_le, cm_gt, cm_ge, cm_eqi, cm_nei, tr_bl, evBs, Bool.not_false, Bool.not_true, if_true, if_false, Bool.false_eq_true, h1]
/-- the one part of a sum is not one -/
theorem os_one (d : Nat) {q : List Int} {x : Val} (h : ∀ κ, exSs (cb tab d) (.cons (.ite (.or (.not (.val (.isi .tuple (.var 2)))) (.or (.cm .ne (.bi .len (.cons (.var 2) .nil)) (.con (.int (3)))) (.not (.val (.call 1 (.cons (.ix (.var 2) (.con (.int (0)))) (.cons (.con (.int (1))) (.cons (.con (.int (9))) .nil)))))))) (.cons (.ret (.con (.bl false)))
  .nil) .nil)
  (.cons (.ite (.or (.not (.val (.call 1 (.cons (.ix (.var 2) (.con (.int (1)))) (.cons (.con (.int (0))) (.cons (.op .sub (.bi .len (.cons (.var 0) .nil)) (.con (.int (2)))) .nil)))))) (.not (.val (.call 1 (.cons (.ix (.var 2) (.con (.int (2)))) (.cons (.op .add (.ix (.var 2) (.con (.int (1)))) (.con (.int (1)))) (.cons (.op .sub (.bi .len (.cons (.var 0) .nil)) (.con (.int (1)))) .nil))))))) (.cons (.ret (.con (.bl false)))
  .nil) .nil) .nil)) [some (.val (picV q)), some (.val (.tup [x])), some (.val x)] κ = .ret (.bl false) κ) : OddSum (d + 1) q (.tup [x]) := by
  intro κ
  rw [cf_succ _ _ _ _ _ rfl rfl]
  have p1 : exS (cb tab d) (.ite (.or (.not (.val (.isi .tuple (.var 1)))) (.not (.chain .le .le (.con (.int (1))) (.bi .len (.cons (.var 1) .nil)) (.con (.int (3)))))) (.cons (.ret (.con (.bl false))) .nil) .nil) [some (.val (picV q)), some (.val (.tup [x])), none] κ = .nx [some (.val (picV q)), some (.val (.tup [x])), none] κ := by
    have t1 : ((0 + 1 : Nat) : Int) = 1 := rfl
    simp only [exSs, exS, evE, evT, evEs, evA, evBs, evO, evOt, evI, bw, rdV, rdB, R.bind_ok, R.bind_exc, R.bind_bad, R.ofO_some, R.ofO_none, R.toO_ok, R.toO_exc, R.toO_bad, O.then_nx, O.then_ret, O.then_exc, O.then_bad, O.fin_nx, O.fin_ret, O.fin_exc, O.fin_bad, Option.map_some, Option.map_none, List.map_cons, List.map_nil, Ar.slot, List.cons_append, List.nil_append, List.length_cons, List.length_nil, List.getElem?_cons_zero, List.getElem?_cons_succ, List.set_cons_zero, List.set_cons_succ, parR, bi_abs, bi_inti, bi_intb, bi_lent, bi_lenl, bi_lens, bi_max, bi_min, bi_tupt, bi_tupl, bi_lstt, bi_lstl, isi_t, isi_l, isi_i, isi_b, isi_n, isi_s, reduceCtorEq, decide_true, decide_false, Bool.or_true, Bool.or_false, Bool.true_or, Bool.false_or, blV, ntV, ngV, intV, op_add, op_sub, cm_lt, cm_le, cm_gt, cm_ge, cm_eqi, cm_nei, tr_bl, evBs, t1, Int.le_refl, show (1 : Int) ≤ 3 from by decide, Bool.not_true, if_true, if_false, Bool.false_eq_true]
  have p2 : exS (cb tab d) (.loop (.nm 2) (.seq (.var 1)) (.cons (.ite (.or (.not (.val (.isi .tuple (.var 2)))) (.or (.cm .ne (.bi .len (.cons (.var 2) .nil)) (.con (.int (3)))) (.not (.val (.call 1 (.cons (.ix (.var 2) (.con (.int (0)))) (.cons (.con (.int (1))) (.cons (.con (.int (9))) .nil)))))))) (.cons (.ret (.con (.bl false)))
  .nil) .nil)
  (.cons (.ite (.or (.not (.val (.call 1 (.cons (.ix (.var 2) (.con (.int (1)))) (.cons (.con (.int (0))) (.cons (.op .sub (.bi .len (.cons (.var 0) .nil)) (.con (.int (2)))) .nil)))))) (.not (.val (.call 1 (.cons (.ix (.var 2) (.con (.int (2)))) (.cons (.op .add (.ix (.var 2) (.con (.int (1)))) (.con (.int (1)))) (.cons (.op .sub (.bi .len (.cons (.var 0) .nil)) (.con (.int (1)))) .nil))))))) (.cons (.ret (.con (.bl false)))
  .nil) .nil) .nil))) [some (.val (picV q)), some (.val (.tup [x])), none] κ = .ret (.bl false) κ := by
    show ((exSs (cb tab d) _ [some (.val (picV q)), some (.val (.tup [x])), some (.val x)] κ).then _) = _
    exact (congrArg (fun o => O.then o _) (h κ)).trans rfl
  have e : exSs (cb tab d) ir_is_right_sum [some (.val (picV q)), some (.val (.tup [x])), none] κ = .ret (.bl false) κ := by
    unfold ir_is_right_sum
    rw [ss_nx p1, ss_ret p2]
  exact congrArg O.fin e
/-- the values that a sum is made odd to -/
def oddS (l : List Part) (x : Part) : List Val := [.non, .tup [], .tup (List.replicate 4 (l.map Part.v)).flatten, .tup [.tup [.int x.1, .int x.2.1]], .lst [Part.v x], .tup [.tup [.int 1, .int 4, .int 5]], .tup [.tup [.int 0, .int 0, .int 1]]]
theorem odd_sums (d : Nat) {q : List Int} (hq : PicOk q) {l : List Part} (h1 : 1 ≤ l.length) (x : Part) : ∀ v ∈ oddS l x, OddSum (d + 2) q v := by
  intro v hv
  have h5 := hq.l5
  have w := fun v (h : topD v = true) lo hi κ => s_wholeV d h lo hi κ
  unfold oddS at hv
  simp only [List.mem_cons, List.mem_nil_iff, or_false] at hv
  rcases hv with h | h | h | h | h | h | h <;> subst h
  · exact os_shape _ (fun _ => by simp) rfl
  · exact os_len _ (.inl (by decide))
  · exact os_len _ (.inr (by simp [List.replicate]; omega))
  · refine os_one _ fun κ => ?_
    simp only [exSs, exS, evE, evT, evEs, evA, evBs, evO, evOt, evI, bw, rdV, rdB, R.bind_ok, R.bind_exc, R.bind_bad, R.ofO_some, R.ofO_none, R.toO_ok, R.toO_exc, R.toO_bad, O.then_nx, O.then_ret, O.then_exc, O.then_bad, O.fin_nx, O.fin_ret, O.fin_exc, O.fin_bad, Option.map_some, Option.map_none, List.map_cons, List.map_nil, Ar.slot, List.cons_append, List.nil_append, List.length_cons, List.length_nil, List.getElem?_cons_zero, List.getElem?_cons_succ, List.set_cons_zero, List.set_cons_succ, parR, bi_abs, bi_inti, bi_intb, bi_lent, bi_lenl, bi_lens, bi_max, bi_min, bi_tupt, bi_tupl, bi_lstt, bi_lstl, isi_t, isi_l, isi_i, isi_b, isi_n, isi_s, reduceCtorEq, decide_true, decide_false, Bool.or_true, Bool.or_false, Bool.true_or, Bool.false_or, blV, ntV, ngV, intV, op_add, op_sub, cm_lt, cm_le, cm_gt, cm_ge, cm_eqi, cm_nei, tr_bl, evBs, Bool.not_false, Bool.not_true, if_true, if_false, Bool.false_eq_true, show ((0 + 1 + 1 : Nat) : Int) = 2 from rfl, show ((2 : Int) = 3) = False from eq_false (by decide)]
  · exact os_shape _ (fun _ => by simp) rfl
  · refine os_one _ fun κ => ?_
    have hw : wholeV (.int 4) 0 ((q.length : Int) - 2) = false := by
      show (decide ((0 : Int) ≤ 4) && decide ((4 : Int) ≤ (q.length : Int) - 2)) = false
      rw [decide_eq_false (show ¬ ((4 : Int) ≤ (q.length : Int) - 2) by omega), Bool.and_false]
    have hw1 : wholeV (.int 1) 1 9 = true := rfl
    simp only [exSs, exS, evE, evT, evEs, evA, evBs, evO, evOt, evI, bw, rdV, rdB, R.bind_ok, R.bind_exc, R.bind_bad, R.ofO_some, R.ofO_none, R.toO_ok, R.toO_exc, R.toO_bad, O.then_nx, O.then_ret, O.then_exc, O.then_bad, O.fin_nx, O.fin_ret, O.fin_exc, O.fin_bad, Option.map_some, Option.map_none, List.map_cons, List.map_nil, Ar.slot, List.cons_append, List.nil_append, List.length_cons, List.length_nil, List.getElem?_cons_zero, List.getElem?_cons_succ, List.set_cons_zero, List.set_cons_succ, parR, bi_abs, bi_inti, bi_intb, bi_lent, bi_lenl, bi_lens, bi_max, bi_min, bi_tupt, bi_tupl, bi_lstt, bi_lstl, isi_t, isi_l, isi_i, isi_b, isi_n, isi_s, reduceCtorEq, decide_true, decide_false, Bool.or_true, Bool.or_false, Bool.true_or, Bool.false_or, blV, ntV, ngV, intV, op_add, op_sub, cm_lt, cm_le, cm_gt, cm_ge, cm_eqi, cm_nei, tr_bl, evBs, len_pic, Bool.not_false, Bool.not_true, if_true, if_false, Bool.false_eq_true, show ((0 + 1 + 1 + 1 : Nat) : Int) = 3 from rfl, ix_t0, ix_t1, ix_t2, w (.int 1) rfl, w (.int 4) rfl, hw, hw1]
  · refine os_one _ fun κ => ?_
    have hw1 : wholeV (.int 0) 1 9 = false := rfl
    simp only [exSs, exS, evE, evT, evEs, evA, evBs, evO, evOt, evI, bw, rdV, rdB, R.bind_ok, R.bind_exc, R.bind_bad, R.ofO_some, R.ofO_none, R.toO_ok, R.toO_exc, R.toO_bad, O.then_nx, O.then_ret, O.then_exc, O.then_bad, O.fin_nx, O.fin_ret, O.fin_exc, O.fin_bad, Option.map_some, Option.map_none, List.map_cons, List.map_nil, Ar.slot, List.cons_append, List.nil_append, List.length_cons, List.length_nil, List.getElem?_cons_zero, List.getElem?_cons_succ, List.set_cons_zero, List.set_cons_succ, parR, bi_abs, bi_inti, bi_intb, bi_lent, bi_lenl, bi_lens, bi_max, bi_min, bi_tupt, bi_tupl, bi_lstt, bi_lstl, isi_t, isi_l, isi_i, isi_b, isi_n, isi_s, reduceCtorEq, decide_true, decide_false, Bool.or_true, Bool.or_false, Bool.true_or, Bool.false_or, blV, ntV, ngV, intV, op_add, op_sub, cm_lt, cm_le, cm_gt, cm_ge, cm_eqi, cm_nei, tr_bl, evBs, len_pic, Bool.not_false, Bool.not_true, if_true, if_false, Bool.false_eq_true, show ((0 + 1 + 1 + 1 : Nat) : Int) = 3 from rfl, ix_t0, ix_t1, ix_t2, w (.int 0) rfl, hw1]
end K01
end
section
namespace K01
open PySem PL
theorem x_right_claim (d : Nat) {q : List Int} {w : Str} {v u : Val} (hw : WordOk w) (h : (∃ l, SumOk q l ∧ v = parV l ∧ OddSum (d + 2) q u) ∨ OddSum (d + 2) q v) (κ : Ks) : (cb tab (d + 3)).cf 4 [.v (picV q), .v (.tup [.str w, v, u])] κ = .ok (.bl false, κ) := by
  rw [cf_succ _ _ _ _ _ rfl rfl]
  have wd : ∀ s : Str, WordOk s → cmV .notin (.str s) (.tup [.str "less", .str "upto", .str "same"]) = some false := by rintro s (rfl | rfl | rfl) <;> decide +kernel
  have t1 : ((0 + 1 + 1 + 1 : Nat) : Int) = 3 := rfl
  rcases h with ⟨l, hl, e, ho⟩ | ho
  · subst e
    simp only [ir_is_right_claim, List.replicate, Nat.reduceSub, List.append_nil, exSs, exS, evE, evT, evEs, evA, evBs, evO, evOt, evI, bw, rdV, rdB, R.bind_ok, R.bind_exc, R.bind_bad, R.ofO_some, R.ofO_none, R.toO_ok, R.toO_exc, R.toO_bad, O.then_nx, O.then_ret, O.then_exc, O.then_bad, O.fin_nx, O.fin_ret, O.fin_exc, O.fin_bad, Option.map_some, Option.map_none, List.map_cons, List.map_nil, Ar.slot, List.cons_append, List.nil_append, List.length_cons, List.length_nil, List.getElem?_cons_zero, List.getElem?_cons_succ, List.set_cons_zero, List.set_cons_succ, parR, bi_abs, bi_inti, bi_intb, bi_lent, bi_lenl, bi_lens, bi_max, bi_min, bi_tupt, bi_tupl, bi_lstt, bi_lstl, isi_t, isi_l, isi_i, isi_b, isi_n, isi_s, reduceCtorEq, decide_true, decide_false, Bool.or_true, Bool.or_false, Bool.true_or, Bool.false_or, blV, ntV, ngV, intV, op_add, op_sub, cm_lt, cm_le, cm_gt, cm_ge, cm_eqi, cm_nei, tr_bl, evBs, ix_t0, ix_t1, ix_t2, t1, wd _ hw, s_right_sum d κ hl, ho κ, Bool.not_true, if_true, if_false, Bool.false_eq_true]
  · simp only [ir_is_right_claim, List.replicate, Nat.reduceSub, List.append_nil, exSs, exS, evE, evT, evEs, evA, evBs, evO, evOt, evI, bw, rdV, rdB, R.bind_ok, R.bind_exc, R.bind_bad, R.ofO_some, R.ofO_none, R.toO_ok, R.toO_exc, R.toO_bad, O.then_nx, O.then_ret, O.then_exc, O.then_bad, O.fin_nx, O.fin_ret, O.fin_exc, O.fin_bad, Option.map_some, Option.map_none, List.map_cons, List.map_nil, Ar.slot, List.cons_append, List.nil_append, List.length_cons, List.length_nil, List.getElem?_cons_zero, List.getElem?_cons_succ, List.set_cons_zero, List.set_cons_succ, parR, bi_abs, bi_inti, bi_intb, bi_lent, bi_lenl, bi_lens, bi_max, bi_min, bi_tupt, bi_tupl, bi_lstt, bi_lstl, isi_t, isi_l, isi_i, isi_b, isi_n, isi_s, reduceCtorEq, decide_true, decide_false, Bool.or_true, Bool.or_false, Bool.true_or, Bool.false_or, blV, ntV, ngV, intV, op_add, op_sub, cm_lt, cm_le, cm_gt, cm_ge, cm_eqi, cm_nei, tr_bl, evBs, ix_t0, ix_t1, ix_t2, t1, wd _ hw, ho κ, Bool.not_true, if_true, if_false, Bool.false_eq_true]
end K01
end
section
namespace K01
open PySem PL
/-! ### calls with odd values -/
theorem op_short (d : Nat) {v : Val} (h : (∀ l, v ≠ .tup l)) (ht : topD v = true) : OddPic (d + 1) v := by
  intro κ
  rw [cf_succ _ _ _ _ _ rfl rfl]
  have p1 : exS (cb tab d) (.ite (.or (.not (.val (.isi .tuple (.var 0)))) (.not (.chain .le .le (.con (.int (3))) (.bi .len (.cons (.var 0) .nil)) (.con (.int (5)))))) (.cons (.ret (.con (.bl false))) .nil) .nil) [some (.val v), none, none, none] κ = .ret (.bl false) κ := by
    cases v with
    | tup l => exact absurd rfl (h l)
    | fn i => cases ht
    | cell i => cases ht
    | scr i => cases ht
    | _ => simp only [exSs, exS, evE, evT, evEs, evA, evBs, evO, evOt, evI, bw, rdV, rdB, R.bind_ok, R.bind_exc, R.bind_bad, R.ofO_some, R.ofO_none, R.toO_ok, R.toO_exc, R.toO_bad, O.then_nx, O.then_ret, O.then_exc, O.then_bad, O.fin_nx, O.fin_ret, O.fin_exc, O.fin_bad, Option.map_some, Option.map_none, List.map_cons, List.map_nil, Ar.slot, List.cons_append, List.nil_append, List.length_cons, List.length_nil, List.getElem?_cons_zero, List.getElem?_cons_succ, List.set_cons_zero, List.set_cons_succ, parR, bi_abs, bi_inti, bi_intb, bi_lent, bi_lenl, bi_lens, bi_max, bi_min, bi_tupt, bi_tupl, bi_lstt, bi_lstl, isi_t, isi_l, isi_i, isi_b, isi_n, isi_s, reduceCtorEq, decide_true, decide_false, Bool.or_true, Bool.or_false, Bool.true_or, Bool.false_or, blV, ntV, ngV, intV, op_add, op_sub, cm_lt, cm_le, cm_gt, cm_ge, cm_eqi, cm_nei, tr_bl, evBs, Bool.not_false, if_true]
  have e : exSs (cb tab d) ir_is_right_picture [some (.val v), none, none, none] κ = .ret (.bl false) κ := by
    unfold ir_is_right_picture
    rw [ss_ret p1]
  exact congrArg O.fin e
theorem op_len (d : Nat) {l : List Val} (h : l.length < 3) : OddPic (d + 1) (.tup l) := by
  intro κ
  rw [cf_succ _ _ _ _ _ rfl rfl]
  have h3 : ¬ ((3 : Int) ≤ (l.length : Int)) := by omega
  have p1 : exS (cb tab d) (.ite (.or (.not (.val (.isi .tuple (.var 0)))) (.not (.chain .le .le (.con (.int (3))) (.bi .len (.cons (.var 0) .nil)) (.con (.int (5)))))) (.cons (.ret (.con (.bl false))) .nil) .nil) [some (.val (.tup l)), none, none, none] κ = .ret (.bl false) κ := by
    simp only [exSs, exS, evE, evT, evEs, evA, evBs, evO, evOt, evI, bw, rdV, rdB, R.bind_ok, R.bind_exc, R.bind_bad, R.ofO_some, R.ofO_none, R.toO_ok, R.toO_exc, R.toO_bad, O.then_nx, O.then_ret, O.then_exc, O.then_bad, O.fin_nx, O.fin_ret, O.fin_exc, O.fin_bad, Option.map_some, Option.map_none, List.map_cons, List.map_nil, Ar.slot, List.cons_append, List.nil_append, List.length_cons, List.length_nil, List.getElem?_cons_zero, List.getElem?_cons_succ, List.set_cons_zero, List.set_cons_succ, parR, bi_abs, bi_inti, bi_intb, bi_lent, bi_lenl, bi_lens, bi_max, bi_min, bi_tupt, bi_tupl, bi_lstt, bi_lstl, isi_t, isi_l, isi_i, isi_b, isi_n, isi_s, reduceCtorEq, decide_true, decide_false, Bool.or_true, Bool.or_false, Bool.true_or, Bool.false_or, blV, ntV, ngV, intV, op_add, op_sub, cm_lt, cm_le, cm_gt, cm_ge, cm_eqi, cm_nei, tr_bl, evBs, Bool.not_false, Bool.not_true, if_true, if_false, Bool.false_eq_true, h3]
  have e : exSs (cb tab d) ir_is_right_picture [some (.val (.tup l)), none, none, none] κ = .ret (.bl false) κ := by
    unfold ir_is_right_picture
    rw [ss_ret p1]
  exact congrArg O.fin e
theorem op_123 (d : Nat) : OddPic (d + 2) (.tup [.int 1, .int 2, .int 3]) := by
  intro κ
  rw [cf_succ _ _ _ _ _ rfl rfl]
  have wh : ∀ m : Int, 0 ≤ m ∧ m ≤ 60 → (cb tab (d + 1)).cf 1 [.v (.int m), .v (.int 0), .v (.int 60)] κ = .ok (.bl true, κ) := fun m hm => by
    rw [s_whole, decide_eq_true hm.1, decide_eq_true hm.2]; rfl
  have f1 : evE (cb tab (d + 1)) (.comp (.call 1 (.cons (.var 1) (.cons (.con (.int (0))) (.cons (.con (.int (60))) .nil)))) (.nm 1) (.seq (.var 0)) .no [1]) [some (.val (.tup [.int 1, .int 2, .int 3])), none, none, none] κ = .ok (.lst ([true, true, true].map .bl), κ) := by
    refine ev_comp (l := [.int 1, .int 2, .int 3]) (g := fun _ => .bl true) rfl (show 3 < LINE by decide) fun v hv => ?_
    refine ⟨[some (.val (.tup [.int 1, .int 2, .int 3])), some (.val v), none, none], rfl, ?_⟩
    simp only [List.mem_cons, List.mem_nil_iff, or_false] at hv
    rcases hv with h | h | h <;> subst h
    · simp only [exSs, exS, evE, evT, evEs, evA, evBs, evO, evOt, evI, bw, rdV, rdB, R.bind_ok, R.bind_exc, R.bind_bad, R.ofO_some, R.ofO_none, R.toO_ok, R.toO_exc, R.toO_bad, O.then_nx, O.then_ret, O.then_exc, O.then_bad, O.fin_nx, O.fin_ret, O.fin_exc, O.fin_bad, Option.map_some, Option.map_none, List.map_cons, List.map_nil, Ar.slot, List.cons_append, List.nil_append, List.length_cons, List.length_nil, List.getElem?_cons_zero, List.getElem?_cons_succ, List.set_cons_zero, List.set_cons_succ, parR, bi_abs, bi_inti, bi_intb, bi_lent, bi_lenl, bi_lens, bi_max, bi_min, bi_tupt, bi_tupl, bi_lstt, bi_lstl, isi_t, isi_l, isi_i, isi_b, isi_n, isi_s, reduceCtorEq, decide_true, decide_false, Bool.or_true, Bool.or_false, Bool.true_or, Bool.false_or, blV, ntV, ngV, intV, op_add, op_sub, cm_lt, cm_le, cm_gt, cm_ge, cm_eqi, cm_nei, tr_bl, wh 1 (by decide)]
    · simp only [exSs, exS, evE, evT, evEs, evA, evBs, evO, evOt, evI, bw, rdV, rdB, R.bind_ok, R.bind_exc, R.bind_bad, R.ofO_some, R.ofO_none, R.toO_ok, R.toO_exc, R.toO_bad, O.then_nx, O.then_ret, O.then_exc, O.then_bad, O.fin_nx, O.fin_ret, O.fin_exc, O.fin_bad, Option.map_some, Option.map_none, List.map_cons, List.map_nil, Ar.slot, List.cons_append, List.nil_append, List.length_cons, List.length_nil, List.getElem?_cons_zero, List.getElem?_cons_succ, List.set_cons_zero, List.set_cons_succ, parR, bi_abs, bi_inti, bi_intb, bi_lent, bi_lenl, bi_lens, bi_max, bi_min, bi_tupt, bi_tupl, bi_lstt, bi_lstl, isi_t, isi_l, isi_i, isi_b, isi_n, isi_s, reduceCtorEq, decide_true, decide_false, Bool.or_true, Bool.or_false, Bool.true_or, Bool.false_or, blV, ntV, ngV, intV, op_add, op_sub, cm_lt, cm_le, cm_gt, cm_ge, cm_eqi, cm_nei, tr_bl, wh 2 (by decide)]
    · simp only [exSs, exS, evE, evT, evEs, evA, evBs, evO, evOt, evI, bw, rdV, rdB, R.bind_ok, R.bind_exc, R.bind_bad, R.ofO_some, R.ofO_none, R.toO_ok, R.toO_exc, R.toO_bad, O.then_nx, O.then_ret, O.then_exc, O.then_bad, O.fin_nx, O.fin_ret, O.fin_exc, O.fin_bad, Option.map_some, Option.map_none, List.map_cons, List.map_nil, Ar.slot, List.cons_append, List.nil_append, List.length_cons, List.length_nil, List.getElem?_cons_zero, List.getElem?_cons_succ, List.set_cons_zero, List.set_cons_succ, parR, bi_abs, bi_inti, bi_intb, bi_lent, bi_lenl, bi_lens, bi_max, bi_min, bi_tupt, bi_tupl, bi_lstt, bi_lstl, isi_t, isi_l, isi_i, isi_b, isi_n, isi_s, reduceCtorEq, decide_true, decide_false, Bool.or_true, Bool.or_false, Bool.true_or, Bool.false_or, blV, ntV, ngV, intV, op_add, op_sub, cm_lt, cm_le, cm_gt, cm_ge, cm_eqi, cm_nei, tr_bl, wh 3 (by decide)]
  have p1 : exS (cb tab (d + 1)) (.ite (.or (.not (.val (.isi .tuple (.var 0)))) (.not (.chain .le .le (.con (.int (3))) (.bi .len (.cons (.var 0) .nil)) (.con (.int (5)))))) (.cons (.ret (.con (.bl false))) .nil) .nil) [some (.val (.tup [.int 1, .int 2, .int 3])), none, none, none] κ = .nx [some (.val (.tup [.int 1, .int 2, .int 3])), none, none, none] κ := by
    simp only [exSs, exS, evE, evT, evEs, evA, evBs, evO, evOt, evI, bw, rdV, rdB, R.bind_ok, R.bind_exc, R.bind_bad, R.ofO_some, R.ofO_none, R.toO_ok, R.toO_exc, R.toO_bad, O.then_nx, O.then_ret, O.then_exc, O.then_bad, O.fin_nx, O.fin_ret, O.fin_exc, O.fin_bad, Option.map_some, Option.map_none, List.map_cons, List.map_nil, Ar.slot, List.cons_append, List.nil_append, List.length_cons, List.length_nil, List.getElem?_cons_zero, List.getElem?_cons_succ, List.set_cons_zero, List.set_cons_succ, parR, bi_abs, bi_inti, bi_intb, bi_lent, bi_lenl, bi_lens, bi_max, bi_min, bi_tupt, bi_tupl, bi_lstt, bi_lstl, isi_t, isi_l, isi_i, isi_b, isi_n, isi_s, reduceCtorEq, decide_true, decide_false, Bool.or_true, Bool.or_false, Bool.true_or, Bool.false_or, blV, ntV, ngV, intV, op_add, op_sub, cm_lt, cm_le, cm_gt, cm_ge, cm_eqi, cm_nei, tr_bl, evBs, Bool.not_false, Bool.not_true, if_true, if_false, Bool.false_eq_true, show ((0 + 1 + 1 + 1 : Nat) : Int) = 3 from rfl, show (3 : Int) ≤ 3 from by decide, show (3 : Int) ≤ 5 from by decide]
  have p2 : exS (cb tab (d + 1)) (.ite (.or (.not (.val (.bi .all (.cons (.comp (.call 1 (.cons (.var 1) (.cons (.con (.int (0))) (.cons (.con (.int (60))) .nil)))) (.nm 1) (.seq (.var 0)) .no [1]) .nil)))) (.cm .ne (.ix (.var 0) (.con (.int (0)))) (.con (.int (0))))) (.cons (.ret (.con (.bl false))) .nil) .nil) [some (.val (.tup [.int 1, .int 2, .int 3])), none, none, none] κ = .ret (.bl false) κ := by
    have a1 := not_val (ev_allc f1 fun _ => rfl)
    have a2 : evT (cb tab (d + 1)) (.or (.not (.val (.bi .all (.cons (.comp (.call 1 (.cons (.var 1) (.cons (.con (.int (0))) (.cons (.con (.int (60))) .nil)))) (.nm 1) (.seq (.var 0)) .no [1]) .nil)))) (.cm .ne (.ix (.var 0) (.con (.int (0)))) (.con (.int (0))))) [some (.val (.tup [.int 1, .int 2, .int 3])), none, none, none] κ = .ok (true, κ) := by
      show ((evT _ _ _ _).bind _) = _
      rw [a1]
      simp only [exSs, exS, evE, evT, evEs, evA, evBs, evO, evOt, evI, bw, rdV, rdB, R.bind_ok, R.bind_exc, R.bind_bad, R.ofO_some, R.ofO_none, R.toO_ok, R.toO_exc, R.toO_bad, O.then_nx, O.then_ret, O.then_exc, O.then_bad, O.fin_nx, O.fin_ret, O.fin_exc, O.fin_bad, Option.map_some, Option.map_none, List.map_cons, List.map_nil, Ar.slot, List.cons_append, List.nil_append, List.length_cons, List.length_nil, List.getElem?_cons_zero, List.getElem?_cons_succ, List.set_cons_zero, List.set_cons_succ, parR, bi_abs, bi_inti, bi_intb, bi_lent, bi_lenl, bi_lens, bi_max, bi_min, bi_tupt, bi_tupl, bi_lstt, bi_lstl, isi_t, isi_l, isi_i, isi_b, isi_n, isi_s, reduceCtorEq, decide_true, decide_false, Bool.or_true, Bool.or_false, Bool.true_or, Bool.false_or, blV, ntV, ngV, intV, op_add, op_sub, cm_lt, cm_le, cm_gt, cm_ge, cm_eqi, cm_nei, tr_bl, ix_t0, List.all_cons, List.all_nil, id, Bool.and_self, Bool.not_true, if_false, Bool.false_eq_true, show ((1 : Int) = 0) = False from eq_false (by decide), Bool.not_false]
    rw [ite_yes a2]
    rfl
  have e : exSs (cb tab (d + 1)) ir_is_right_picture [some (.val (.tup [.int 1, .int 2, .int 3])), none, none, none] κ = .ret (.bl false) κ := by
    unfold ir_is_right_picture
    rw [ss_nx p1, ss_ret p2]
  exact congrArg O.fin e
end K01
end
section
namespace PL
open PySem
/-! == of values, by their shape -/
mutual
def eqT : Val → Val → Bool
  | .non, .non => true
  | .bl a, .bl b => a == b
  | .bl a, .int j => (if a then 1 else 0) == j
  | .int i, .bl b => i == (if b then 1 else 0)
  | .int i, .int j => i == j
  | .str x, .str y => x == y
  | .lst x, .lst y => eqTs x y
  | .tup x, .tup y => eqTs x y
  | _, _ => false
def eqTs : List Val → List Val → Bool
  | [], [] => true
  | x :: xs, y :: ys => eqT x y && eqTs xs ys
  | _, _ => false
end
mutual
/-- data of a depth -/
def datB : Nat → Val → Bool
  | _, .non => true
  | _, .bl _ => true
  | _, .int _ => true
  | _, .str x => PyData.strOk x
  | n + 1, .tup l => datBs n l
  | n + 1, .lst l => datBs n l
  | _, _ => false
def datBs : Nat → List Val → Bool
  | _, [] => true
  | n, v :: l => datB n v && datBs n l
end
mutual
theorem dat_to : ∀ (v : Val) (n : Nat), datB n v = true → ∃ d, toData v = some d ∧ d.canLay0 = true ∧ d.depth ≤ n
  | .non, _, _ => ⟨_, rfl, rfl, Nat.zero_le _⟩
  | .bl _, _, _ => ⟨_, rfl, rfl, Nat.zero_le _⟩
  | .int _, _, _ => ⟨_, rfl, rfl, Nat.zero_le _⟩
  | .str x, n, h => ⟨_, rfl, by cases n <;> exact h, Nat.zero_le _⟩
  | .tup l, n + 1, h => by
    obtain ⟨ds, e, c, b⟩ := dats_to l n h
    refine ⟨.tuple ds, ?_, c, ?_⟩
    · show (toDatas l).map PyData.tuple = _
      rw [e]; rfl
    · show PyData.depthAll ds + 1 ≤ n + 1
      omega
  | .lst l, n + 1, h => by
    obtain ⟨ds, e, c, b⟩ := dats_to l n h
    refine ⟨.list ds, ?_, c, ?_⟩
    · show (toDatas l).map PyData.list = _
      rw [e]; rfl
    · show PyData.depthAll ds + 1 ≤ n + 1
      omega
  | .tup _, 0, h => by cases h
  | .lst _, 0, h => by cases h
  | .fn _, n, h => by cases n <;> cases h
  | .cell _, n, h => by cases n <;> cases h
  | .scr _, n, h => by cases n <;> cases h
theorem dats_to : ∀ (l : List Val) (n : Nat), datBs n l = true → ∃ ds, toDatas l = some ds ∧ PyData.canLayAll0 ds = true ∧ PyData.depthAll ds ≤ n
  | [], n, _ => ⟨[], rfl, rfl, Nat.zero_le _⟩
  | v :: l, n, h => by
    have h : (datB n v && datBs n l) = true := by cases n <;> exact h
    obtain ⟨h1, h2⟩ := Bool.and_eq_true_iff.mp h
    obtain ⟨d, e, c, b⟩ := dat_to v n h1
    obtain ⟨ds, e2, c2, b2⟩ := dats_to l n h2
    refine ⟨d :: ds, ?_, ?_, ?_⟩
    · show (match toData v, toDatas l with
        | some d, some ds => some (d :: ds)
        | _, _ => none) = _
      rw [e, e2]
    · show (d.canLay0 && PyData.canLayAll0 ds) = true
      rw [c, c2]; rfl
    · show max d.depth (PyData.depthAll ds) ≤ n
      omega
end
mutual
theorem eqv_T : ∀ (v w : Val) (d e : PyData), toData v = some d → toData w = some e → PyData.eqv d e = eqT v w
  | .non, w, d, e, h, h2 => by cases w <;> first | (cases h; cases h2; rfl) | (cases h; simp only [toData, Option.map_eq_some_iff] at h2; obtain ⟨ys, ey, rfl⟩ := h2; rfl) | cases h2
  | .bl _, w, d, e, h, h2 => by cases w <;> first | (cases h; cases h2; rfl) | (cases h; simp only [toData, Option.map_eq_some_iff] at h2; obtain ⟨ys, ey, rfl⟩ := h2; rfl) | cases h2
  | .int _, w, d, e, h, h2 => by cases w <;> first | (cases h; cases h2; rfl) | (cases h; simp only [toData, Option.map_eq_some_iff] at h2; obtain ⟨ys, ey, rfl⟩ := h2; rfl) | cases h2
  | .str _, w, d, e, h, h2 => by cases w <;> first | (cases h; cases h2; rfl) | (cases h; simp only [toData, Option.map_eq_some_iff] at h2; obtain ⟨ys, ey, rfl⟩ := h2; rfl) | cases h2
  | .tup x, w, d, e, h, h2 => by
    simp only [toData, Option.map_eq_some_iff] at h
    obtain ⟨xs, ex, rfl⟩ := h
    cases w with
    | tup y =>
      simp only [toData, Option.map_eq_some_iff] at h2
      obtain ⟨ys, ey, rfl⟩ := h2
      exact eqvs_T x y xs ys ex ey
    | lst y =>
      simp only [toData, Option.map_eq_some_iff] at h2
      obtain ⟨ys, ey, rfl⟩ := h2
      rfl
    | fn _ => cases h2
    | cell _ => cases h2
    | scr _ => cases h2
    | _ => cases h2; rfl
  | .lst x, w, d, e, h, h2 => by
    simp only [toData, Option.map_eq_some_iff] at h
    obtain ⟨xs, ex, rfl⟩ := h
    cases w with
    | lst y =>
      simp only [toData, Option.map_eq_some_iff] at h2
      obtain ⟨ys, ey, rfl⟩ := h2
      exact eqvs_T x y xs ys ex ey
    | tup y =>
      simp only [toData, Option.map_eq_some_iff] at h2
      obtain ⟨ys, ey, rfl⟩ := h2
      rfl
    | fn _ => cases h2
    | cell _ => cases h2
    | scr _ => cases h2
    | _ => cases h2; rfl
  | .fn _, w, d, e, h, h2 => by cases h
  | .cell _, w, d, e, h, h2 => by cases h
  | .scr _, w, d, e, h, h2 => by cases h
theorem eqvs_T : ∀ (v w : List Val) (d e : List PyData), toDatas v = some d → toDatas w = some e → PyData.eqvAll d e = eqTs v w
  | [], [], d, e, h, h2 => by cases h; cases h2; rfl
  | [], y :: ys, d, e, h, h2 => by
    cases h
    simp only [toDatas] at h2
    cases hy : toData y with
    | none => rw [hy] at h2; cases h2
    | some a =>
      cases hys : toDatas ys with
      | none => rw [hy, hys] at h2; cases h2
      | some as =>
        rw [hy, hys] at h2
        cases h2
        rfl
  | x :: xs, [], d, e, h, h2 => by
    cases h2
    simp only [toDatas] at h
    cases hy : toData x with
    | none => rw [hy] at h; cases h
    | some a =>
      cases hys : toDatas xs with
      | none => rw [hy, hys] at h; cases h
      | some as =>
        rw [hy, hys] at h
        cases h
        rfl
  | x :: xs, y :: ys, d, e, h, h2 => by
    simp only [toDatas] at h h2
    cases hx : toData x with
    | none => rw [hx] at h; cases h
    | some a =>
      cases hxs : toDatas xs with
      | none => rw [hx, hxs] at h; cases h
      | some as =>
        rw [hx, hxs] at h
        cases h
        cases hy : toData y with
        | none => rw [hy] at h2; cases h2
        | some b =>
          cases hys : toDatas ys with
          | none => rw [hy, hys] at h2; cases h2
          | some bs =>
            rw [hy, hys] at h2
            cases h2
            show (PyData.eqv a b && PyData.eqvAll as bs) = (eqT x y && eqTs xs ys)
            rw [eqv_T x y a b hx hy, eqvs_T xs ys as bs hxs hys]
end
theorem eqD_T {v w : Val} (h1 : datB 64 v = true) (h2 : datB 64 w = true) : eqD v w = some (eqT v w) := by
  obtain ⟨d, e1, c1, b1⟩ := dat_to v 64 h1
  obtain ⟨e, e2, c2, b2⟩ := dat_to w 64 h2
  have s : ∀ {x : PyData}, x.canLay0 = true → x.depth ≤ 64 → SeqAt.shaped x = true := fun {x} c b => by
    show (x.canLay0 && decide (x.depth ≤ 64)) = true
    rw [c, decide_eq_true b]; rfl
  unfold eqD
  rw [e1, e2]
  show (if SeqAt.shaped d && SeqAt.shaped e then some (PyData.eqv d e) else none) = _
  rw [s c1 b1, s c2 b2, eqv_T v w d e e1 e2]
  rfl
theorem cm_eqT {v w : Val} (h1 : datB 64 v = true) (h2 : datB 64 w = true) : cmV .eq v w = some (eqT v w) := eqD_T h1 h2
theorem cm_neT {v w : Val} (h1 : datB 64 v = true) (h2 : datB 64 w = true) : cmV .ne v w = some (!eqT v w) := by
  show (eqD v w).map (!·) = _
  rw [eqD_T h1 h2]; rfl
mutual
/-- no truths in it -/
def noB : Val → Bool
  | .non => true
  | .int _ => true
  | .str _ => true
  | .tup l => noBs l
  | .lst l => noBs l
  | _ => false
def noBs : List Val → Bool
  | [] => true
  | v :: l => noB v && noBs l
end
mutual
theorem eqT_iff : ∀ (v w : Val), noB v = true → noB w = true → (eqT v w = true ↔ v = w)
  | .non, w, _, h2 => by cases w <;> first | (cases h2; done) | simp [eqT]
  | .int a, w, _, h2 => by cases w <;> first | (cases h2; done) | simp [eqT]
  | .str a, w, _, h2 => by cases w <;> first | (cases h2; done) | simp [eqT]
  | .tup a, w, h1, h2 => by
    cases w with
    | tup b =>
      have := eqTs_iff a b h1 h2
      show eqTs a b = true ↔ _
      rw [this]
      exact ⟨fun h => by rw [h], fun h => by cases h; rfl⟩
    | bl _ => cases h2
    | fn _ => cases h2
    | cell _ => cases h2
    | scr _ => cases h2
    | _ => simp [eqT]
  | .lst a, w, h1, h2 => by
    cases w with
    | lst b =>
      have := eqTs_iff a b h1 h2
      show eqTs a b = true ↔ _
      rw [this]
      exact ⟨fun h => by rw [h], fun h => by cases h; rfl⟩
    | bl _ => cases h2
    | fn _ => cases h2
    | cell _ => cases h2
    | scr _ => cases h2
    | _ => simp [eqT]
  | .bl _, w, h, _ => by cases h
  | .fn _, w, h, _ => by cases h
  | .cell _, w, h, _ => by cases h
  | .scr _, w, h, _ => by cases h
theorem eqTs_iff : ∀ (v w : List Val), noBs v = true → noBs w = true → (eqTs v w = true ↔ v = w)
  | [], [], _, _ => by simp [eqTs]
  | [], _ :: _, _, _ => by simp [eqTs]
  | _ :: _, [], _, _ => by simp [eqTs]
  | x :: xs, y :: ys, h1, h2 => by
    obtain ⟨a1, a2⟩ := Bool.and_eq_true_iff.mp h1
    obtain ⟨b1, b2⟩ := Bool.and_eq_true_iff.mp h2
    show (eqT x y && eqTs xs ys) = true ↔ _
    rw [Bool.and_eq_true_iff, eqT_iff x y a1 b1, eqTs_iff xs ys a2 b2, List.cons.injEq]
end
theorem datBs_of {n : Nat} : ∀ {l : List Val}, (∀ v ∈ l, datB n v = true) → datBs n l = true
  | [], _ => by cases n <;> rfl
  | v :: l, h => by
    have e : datBs n (v :: l) = (datB n v && datBs n l) := by cases n <;> rfl
    rw [e, h v List.mem_cons_self, datBs_of fun u hu => h u (List.mem_cons_of_mem _ hu)]
    rfl
theorem noBs_of : ∀ {l : List Val}, (∀ v ∈ l, noB v = true) → noBs l = true
  | [], _ => rfl
  | v :: l, h => by
    show (noB v && noBs l) = true
    rw [h v List.mem_cons_self, noBs_of fun u hu => h u (List.mem_cons_of_mem _ hu)]
    rfl
/-- a list of equal things -/
theorem eq_rep {α : Type} {x : α} {l : List α} : x :: l = List.replicate (l.length + 1) x ↔ ∀ y ∈ l, y = x := by
  rw [List.replicate_succ, List.cons.injEq]
  constructor
  · intro ⟨_, h⟩ y hy
    rw [h] at hy
    exact (List.mem_replicate.mp hy).2
  · intro h
    exact ⟨rfl, List.eq_replicate_iff.mpr ⟨rfl, h⟩⟩
theorem mulL_rep {v : Val} {n : Nat} (h : n < 1000) : opV .mul (.lst [v]) (.int n) = some (.lst (List.replicate n v)) := by
  show (if decide ((n : Int) < 1000) && decide (-1000 < (n : Int)) && decide ([v].length ≤ 1000) then some (Val.lst (List.replicate (n : Int).toNat [v]).flatten) else none) = _
  rw [decide_eq_true (show (n : Int) < 1000 by omega), decide_eq_true (show -1000 < (n : Int) by omega)]
  show some (Val.lst (List.replicate (n : Int).toNat [v]).flatten) = _
  rw [Int.toNat_natCast]
  congr 2
  clear h
  induction n with
  | zero => rfl
  | succ n ih => rw [List.replicate_succ, List.flatten_cons, ih]; rfl
end PL
end
section
/-! Generic: loops, comprehensions, slices, lists of lambdas. -/
namespace PL
open PySem
theorem sl_from {l : List Val} {i : Nat} (h : i ≤ l.length) : slV (.tup l) (some (i : Int)) none = some (.tup (l.drop i)) := by
  show some (Val.tup (cutL l (some (i : Int)) none)) = _
  unfold cutL
  rw [HT.sIx_nat, HT.sIx_none, Nat.min_eq_left h, List.take_of_length_le (by rw [List.length_drop]; omega)]
theorem sl_to {l : List Val} {i : Nat} (h : i ≤ l.length) : slV (.tup l) none (some (i : Int)) = some (.tup (l.take i)) := by
  show some (Val.tup (cutL l none (some (i : Int)))) = _
  unfold cutL
  rw [HT.sIx_nat, HT.sIx_none, Nat.min_eq_left h]
  rfl
theorem sIx_m1 (n d : Nat) : HT.sIx n d (some (-1)) = n - 1 := by
  show (if (-1 : Int) < 0 then ((-1 : Int) + (n : Int)).toNat else min (-1 : Int).toNat n) = _
  rw [if_pos (by decide)]
  omega
theorem sl_last {l : List Val} : slV (.tup l) none (some (-1)) = some (.tup l.dropLast) := by
  show some (Val.tup (cutL l none (some (-1)))) = _
  unfold cutL
  rw [sIx_m1, HT.sIx_none, List.dropLast_eq_take]
  rfl
theorem sl_tail1 {l : List Val} : slV (.tup l) (some (-1)) none = some (.tup (l.drop (l.length - 1))) := by
  show some (Val.tup (cutL l (some (-1)) none)) = _
  unfold cutL
  rw [sIx_m1, HT.sIx_none, List.take_of_length_le (by rw [List.length_drop]; omega)]
theorem sl_froml {l : List Val} {i : Nat} (h : i ≤ l.length) : slV (.lst l) (some (i : Int)) none = some (.lst (l.drop i)) := by
  show some (Val.lst (cutL l (some (i : Int)) none)) = _
  unfold cutL
  rw [HT.sIx_nat, HT.sIx_none, Nat.min_eq_left h, List.take_of_length_le (by rw [List.length_drop]; omega)]
theorem sl_tol {l : List Val} {i : Nat} (h : i ≤ l.length) : slV (.lst l) none (some (i : Int)) = some (.lst (l.take i)) := by
  show some (Val.lst (cutL l none (some (i : Int)))) = _
  unfold cutL
  rw [HT.sIx_nat, HT.sIx_none, Nat.min_eq_left h]
  rfl
/-- a loop over a test that may end it -/
theorem loopL_all {f : Val → Rho → Ks → O} {I : Rho → Prop} {P : Val → Bool} {w : Val} {κ : Ks} : ∀ {l : List Val}, (∀ v ∈ l, ∀ ρ, I ρ → (P v = true → ∃ ρ', f v ρ κ = .nx ρ' κ ∧ I ρ') ∧ (P v = false → f v ρ κ = .ret w κ)) → ∀ ρ, I ρ → (l.all P = true → ∃ ρ', loopL l f ρ κ = .nx ρ' κ ∧ I ρ') ∧ (l.all P = false → loopL l f ρ κ = .ret w κ)
  | [], _, ρ, hI => ⟨fun _ => ⟨ρ, rfl, hI⟩, fun h => (by cases h)⟩
  | v :: l, h, ρ, hI => by
    obtain ⟨h1, h2⟩ := h v List.mem_cons_self ρ hI
    rw [List.all_cons]
    show (_ → ∃ ρ', (f v ρ κ).then _ = _ ∧ _) ∧ (_ → (f v ρ κ).then _ = _)
    cases hp : P v with
    | false =>
      refine ⟨fun h => (by cases h), fun _ => ?_⟩
      rw [h2 hp]
      rfl
    | true =>
      obtain ⟨ρ1, e1, hI1⟩ := h1 hp
      rw [e1, Bool.true_and]
      exact loopL_all (fun u hu => h u (List.mem_cons_of_mem _ hu)) ρ1 hI1
theorem loop_of {c : CB} {tg : Tg} {it : It} {b : Ss} {ρ : Rho} {κ κ1 : Ks} {l : List Val} {o : O} (hi : evI c it ρ κ = .ok (l, κ1)) (h : loopL l (fun v ρ' κ' => match setTg tg v ρ' with
    | some ρ2 => exSs c b ρ2 κ'
    | none => .bad) ρ κ1 = o) : exS c (.loop tg it b) ρ κ = o := by
  show (evI c it ρ κ).toO _ = _
  rw [hi]
  exact h
/-- .. told of the statement: a test on each item; the frame is R with one slot that moves -/
theorem loop_all {c : CB} {tg : Tg} {it : It} {b : Ss} {ρ : Rho} {κ : Ks} {l : List Val} {I : Rho → Prop} {P : Val → Bool} {w : Val} (hi : evI c it ρ κ = .ok (l, κ)) (h0 : I ρ)
    (h : ∀ v ∈ l, ∀ ρ, I ρ → ∃ ρ1, setTg tg v ρ = some ρ1 ∧ (P v = true → ∃ ρ', exSs c b ρ1 κ = .nx ρ' κ ∧ I ρ') ∧ (P v = false → exSs c b ρ1 κ = .ret w κ)) :
    (l.all P = true → ∃ ρ', exS c (.loop tg it b) ρ κ = .nx ρ' κ ∧ I ρ') ∧ (l.all P = false → exS c (.loop tg it b) ρ κ = .ret w κ) := by
  have key := loopL_all (f := fun v ρ' κ' => match setTg tg v ρ' with
    | some ρ2 => exSs c b ρ2 κ'
    | none => .bad) (I := I) (P := P) (w := w) (κ := κ) (l := l) (fun v hv ρ hI => by
      obtain ⟨ρ1, e1, h1, h2⟩ := h v hv ρ hI
      rw [e1]
      exact ⟨h1, h2⟩) ρ h0
  constructor
  · intro ha
    obtain ⟨ρ', e, hI⟩ := key.1 ha
    exact ⟨ρ', loop_of hi e, hI⟩
  · intro ha
    exact loop_of hi (key.2 ha)
theorem whileL_run {t : Rho → Ks → R (Bool × Ks)} {b : Rho → Ks → O} {I : Nat → Rho → Ks → Prop} (h0 : ∀ ρ κ, I 0 ρ κ → t ρ κ = .ok (false, κ)) (h1 : ∀ n ρ κ, I (n + 1) ρ κ → ∃ κ1 ρ' κ', t ρ κ = .ok (true, κ1) ∧ b ρ κ1 = .nx ρ' κ' ∧ I n ρ' κ') : ∀ (n fuel : Nat) (ρ : Rho) (κ : Ks), n < fuel → I n ρ κ → ∃ ρ' κ', whileL fuel t b ρ κ = .nx ρ' κ' ∧ I 0 ρ' κ'
  | _, 0, _, _, h, _ => absurd h (Nat.not_lt_zero _)
  | 0, fuel + 1, ρ, κ, _, hI => by
    refine ⟨ρ, κ, ?_, hI⟩
    unfold whileL
    rw [h0 ρ κ hI]
    rfl
  | n + 1, fuel + 1, ρ, κ, h, hI => by
    obtain ⟨κ1, ρ', κ', e1, e2, hI'⟩ := h1 n ρ κ hI
    obtain ⟨ρ2, κ2, e3, hI2⟩ := whileL_run h0 h1 n fuel ρ' κ' (by omega) hI'
    refine ⟨ρ2, κ2, ?_, hI2⟩
    unfold whileL
    rw [e1]
    simp only [R.toO_ok, if_true, e2, O.then_nx]
    exact e3
theorem big_small {n : Nat} (h : n ≤ 1000) : n < BIG := big_of (Nat.lt_of_le_of_lt h (Nat.lt_of_lt_of_le (show 1000 < 2 ^ 10 by decide) (Nat.pow_le_pow_right (by decide) (by decide))))
/-- the loop of Euclid, in any frame -/
theorem w_gcd {t : Rho → Ks → R (Bool × Ks)} {b : Rho → Ks → O} {κ : Ks} (mk : Int → Int → Rho) (ht : ∀ x y, t (mk x y) κ = .ok (!decide (y = 0), κ)) (hb : ∀ x y : Int, 0 < y → b (mk x y) κ = .nx (mk y (x % y)) κ) : ∀ (n x y : Nat), y < n → whileL n t b (mk x y) κ = .nx (mk (Nat.gcd x y : Nat) 0) κ
  | 0, _, _, h => absurd h (Nat.not_lt_zero _)
  | n + 1, x, y, h => by
    unfold whileL
    rw [ht]
    by_cases hy : y = 0
    · subst hy
      rw [Nat.gcd_zero_right]
      rfl
    · have hd : (!decide ((y : Int) = 0)) = true := by simp; omega
      rw [hd]
      simp only [R.toO_ok, if_true]
      rw [hb x y (by omega), O.then_nx]
      have e : ((x : Int) % (y : Int)) = ((x % y : Nat) : Int) := by omega
      rw [e, w_gcd mk ht hb n y (x % y) (by have := Nat.mod_lt x (show 0 < y by omega); omega)]
      have : Nat.gcd y (x % y) = Nat.gcd x y := by rw [Nat.gcd_comm x y, Nat.gcd_rec y x, Nat.gcd_comm]
      rw [this]
theorem compL_ex {f : Val → Ks → R (Option Val × Ks)} {P : Val → Val → Prop} {κ : Ks} : ∀ {l : List Val}, (∀ v ∈ l, ∃ w, f v κ = .ok (some w, κ) ∧ P v w) → ∃ ws, compL l f κ = .ok (ws, κ) ∧ ws.length = l.length ∧ ∀ (i : Nat) (v w : Val), l[i]? = some v → ws[i]? = some w → P v w
  | [], _ => ⟨[], rfl, rfl, fun i v w h => by cases h⟩
  | v :: l, h => by
    obtain ⟨w, e, p⟩ := h v List.mem_cons_self
    obtain ⟨ws, es, el, hp⟩ := compL_ex (l := l) fun u hu => h u (List.mem_cons_of_mem _ hu)
    refine ⟨w :: ws, ?_, by simp [el], fun i v' w' h1 h2 => ?_⟩
    · unfold compL
      rw [e, R.bind_ok, es]
      rfl
    · cases i with
      | zero => cases h1; cases h2; exact p
      | succ i => exact hp i v' w' h1 h2
theorem ev_comp_ex {c : CB} {ee : E} {tg : Tg} {it : It} {own : List Nat} {ρ : Rho} {κ : Ks} {l : List Val} (P : Val → Val → Prop) (hi : evI c it ρ κ = .ok (l, κ)) (hl : l.length < LINE) (h : ∀ v ∈ l, ∃ ρ2 w, setTg tg v (wipeR ρ own) = some ρ2 ∧ evE c ee ρ2 κ = .ok (w, κ) ∧ P v w) :
    ∃ ws, evE c (.comp ee tg it .no own) ρ κ = .ok (.lst ws, κ) ∧ ws.length = l.length ∧ ∀ (i : Nat) (v w : Val), l[i]? = some v → ws[i]? = some w → P v w := by
  obtain ⟨ws, e, el, hp⟩ := compL_ex (f := fun v κ' => noExc ((R.ofO (setTg tg v (wipeR ρ own))).bind fun ρ2 => (evOt c .no ρ2 κ').bind fun b =>
      if b.1 = true then (evE c ee ρ2 b.2).bind fun x => .ok (some x.1, x.2) else .ok (none, b.2))) (P := P) (κ := κ) (l := l) fun v hv => by
    obtain ⟨ρ2, w, h1, h2, h3⟩ := h v hv
    refine ⟨w, ?_, h3⟩
    rw [h1, R.ofO_some, R.bind_ok]
    show noExc ((R.ok (true, κ)).bind fun b => if b.1 = true then (evE c ee ρ2 b.2).bind fun x => R.ok (some x.1, x.2) else R.ok (none, b.2)) = _
    rw [R.bind_ok]
    simp only [if_true]
    rw [h2]
    rfl
  refine ⟨ws, ?_, el, hp⟩
  show (evI c it ρ κ).bind _ = _
  rw [hi, R.bind_ok]
  dsimp only
  rw [e, R.bind_ok]
  dsimp only
  rw [if_pos (by omega)]
theorem compL_filt {f : Val → Ks → R (Option Val × Ks)} {g : Val → Val} {P : Val → Bool} {κ : Ks} : ∀ {l : List Val}, (∀ v ∈ l, f v κ = .ok (if P v = true then some (g v) else none, κ)) → compL l f κ = .ok ((l.filter P).map g, κ)
  | [], _ => rfl
  | v :: l, h => by
    unfold compL
    rw [h v List.mem_cons_self, R.bind_ok, compL_filt fun u hu => h u (List.mem_cons_of_mem _ hu)]
    rw [List.filter_cons]
    cases hp : P v with
    | true => simp
    | false => simp
/-- [elt for .. in it if t] -/
theorem ev_compP {c : CB} {ee : E} {t : T} {tg : Tg} {it : It} {own : List Nat} {ρ : Rho} {κ : Ks} {l : List Val} {g : Val → Val} {P : Val → Bool} (hi : evI c it ρ κ = .ok (l, κ)) (hl : l.length < LINE)
    (h : ∀ v ∈ l, ∃ ρ2, setTg tg v (wipeR ρ own) = some ρ2 ∧ evT c t ρ2 κ = .ok (P v, κ) ∧ (P v = true → evE c ee ρ2 κ = .ok (g v, κ))) :
    evE c (.comp ee tg it (.yes t) own) ρ κ = .ok (.lst ((l.filter P).map g), κ) := by
  show (evI c it ρ κ).bind _ = _
  rw [hi, R.bind_ok]
  dsimp only
  rw [compL_filt (g := g) (P := P) fun v hv => ?_]
  · simp only [R.bind_ok, List.length_map]
    rw [if_pos (Nat.lt_of_le_of_lt (List.length_filter_le _ _) hl)]
  · obtain ⟨ρ2, h1, h2, h3⟩ := h v hv
    rw [h1, R.ofO_some, R.bind_ok]
    show noExc ((evT c t ρ2 κ).bind fun b => if b.1 = true then (evE c ee ρ2 b.2).bind fun x => R.ok (some x.1, x.2) else R.ok (none, b.2)) = _
    rw [h2, R.bind_ok]
    cases hp : P v with
    | true =>
      simp only [if_true]
      rw [h3 hp]
      rfl
    | false => rfl
theorem filt_nil {P : Val → Bool} {l : List Val} : (l.filter fun v => !P v).isEmpty = l.all P := by
  induction l with
  | nil => rfl
  | cons v l ih =>
    rw [List.filter_cons, List.all_cons]
    cases hp : P v with
    | true => simpa using ih
    | false => simp
theorem cm_eq_nil {L : List Val} (h : datBs 63 L = true) : cmV .eq (.lst L) (.lst []) = some L.isEmpty := by
  rw [cm_eqT (v := .lst L) (w := .lst []) h rfl]
  cases L <;> rfl
theorem cm_ne_nil {L : List Val} (h : datBs 63 L = true) : cmV .ne (.lst L) (.lst []) = some (!L.isEmpty) := by
  rw [cm_neT (v := .lst L) (w := .lst []) h rfl]
  cases L <;> rfl
theorem all_n {α : Type} {P : α → Prop} : ∀ p ∈ ([] : List α), P p := fun _ h => by cases h
theorem all_c {α : Type} {P : α → Prop} {a : α} {l : List α} (h : P a) (h2 : ∀ p ∈ l, P p) : ∀ p ∈ a :: l, P p := fun p hp => by
  rcases List.mem_cons.mp hp with e | e
  · subst e; exact h
  · exact h2 p e
theorem clsOf_lams (ρ : Rho) (l : List (Nat × List Nat)) : clsOf ρ (.lams l) = if l.length ≤ LINE then some l else none := rfl
theorem clsOf_var (ρ : Rho) (i : Nat) : clsOf ρ (.var i) = match ρ[i]? with
    | some (some (.cls l)) => some l
    | _ => none := rfl
theorem clsOf_add (ρ : Rho) (a b : Cl) : clsOf ρ (.add a b) = match clsOf ρ a, clsOf ρ b with
    | some x, some y => if x.length + y.length ≤ LINE then some (x ++ y) else none
    | _, _ => none := rfl
theorem lp1 : (0 + 1 + (0 + 1) ≤ LINE) = True := eq_true (by decide)
theorem lp2 : (0 + 1 + 1 + (0 + 1) ≤ LINE) = True := eq_true (by decide)
theorem lp3 : (0 + 1 + 1 + 1 + (0 + 1) ≤ LINE) = True := eq_true (by decide)
theorem lp4 : (0 + 1 + 1 + 1 + 1 + (0 + 1) ≤ LINE) = True := eq_true (by decide)
theorem datBs_mem {n : Nat} : ∀ {l : List Val}, datBs n l = true → ∀ v ∈ l, datB n v = true
  | [], _, v, h => by cases h
  | u :: l, h, v, hv => by
    have e : datBs n (u :: l) = (datB n u && datBs n l) := by cases n <;> rfl
    rw [e] at h
    obtain ⟨h1, h2⟩ := Bool.and_eq_true_iff.mp h
    rcases List.mem_cons.mp hv with q | q
    · subst q; exact h1
    · exact datBs_mem h2 v q
theorem datB_topD {n : Nat} {v : Val} (h : datB n v = true) : topD v = true := by
  cases v <;> first | rfl | (cases n <;> cases h)
mutual
theorem datB_mono : ∀ {n m : Nat} (v : Val), n ≤ m → datB n v = true → datB m v = true
  | n, m, .non, _, _ => by cases m <;> rfl
  | n, m, .bl _, _, _ => by cases m <;> rfl
  | n, m, .int _, _, _ => by cases m <;> rfl
  | n, m, .str x, _, h => by
    have : PyData.strOk x = true := by cases n <;> exact h
    cases m <;> exact this
  | 0, m, .tup l, _, h => by cases h
  | 0, m, .lst l, _, h => by cases h
  | n + 1, 0, .tup l, hn, _ => absurd hn (by omega)
  | n + 1, 0, .lst l, hn, _ => absurd hn (by omega)
  | n + 1, m + 1, .tup l, hn, h => datBs_mono l (show n ≤ m by omega) h
  | n + 1, m + 1, .lst l, hn, h => datBs_mono l (show n ≤ m by omega) h
  | n, m, .fn _, _, h => by cases n <;> cases h
  | n, m, .cell _, _, h => by cases n <;> cases h
  | n, m, .scr _, _, h => by cases n <;> cases h
theorem datBs_mono : ∀ {n m : Nat} (l : List Val), n ≤ m → datBs n l = true → datBs m l = true
  | n, m, [], _, _ => by cases m <;> rfl
  | n, m, v :: l, hn, h => by
    have e1 : datBs n (v :: l) = (datB n v && datBs n l) := by cases n <;> rfl
    have e2 : datBs m (v :: l) = (datB m v && datBs m l) := by cases m <;> rfl
    rw [e1] at h
    obtain ⟨h1, h2⟩ := Bool.and_eq_true_iff.mp h
    rw [e2, datB_mono v hn h1, datBs_mono l hn h2]
    rfl
end
theorem cm_ne_same {v : Val} (h1 : datB 64 v = true) (h2 : noB v = true) : cmV .ne v v = some false := by
  rw [cm_neT h1 h1, (eqT_iff v v h2 h2).mpr rfl]
  rfl
theorem isi_v {n : Nat} {v : Val} (h : datB n v = true) (t : Ty) : ∃ b, isiV t v = some b := by
  cases v <;> first | exact ⟨_, rfl⟩ | (cases n <;> cases h)
end PL
namespace K01
open PySem PL
theorem bad_of {k : Nat} {e : E} {caps : List Val} {c : Nat} {d : Nat} (h : lamE k = some e) (h2 : ∀ κ, evE (cb tab d) e (caps.map fun v => some (.val v)) κ = .exc c .non κ) : Bad (d + 1) c (k, caps) := fun κ => (cl_succ d k e h caps κ).trans (h2 κ)
end K01
end
section
namespace PL
open PySem
/-! what may be handed in, of any data -/
def partB (n : Int) : Val → Bool
  | .tup [x, y, z] => wholeV x 1 9 && (match y with
    | .int b => wholeV y 0 (n - 2) && wholeV z (b + 1) (n - 1)
    | _ => false)
  | _ => false
def sumB (n : Int) : Val → Bool
  | .tup l => (decide ((1 : Int) ≤ l.length) && decide ((l.length : Int) ≤ 3)) && l.all (partB n)
  | _ => false
def wordsL : List Val := [.str "less", .str "upto", .str "same"]
def wordB : Val → Bool
  | .str w => wordsL.any fun y => eqF y (.str w)
  | _ => false
def claimB (n : Int) : Val → Bool
  | .tup [w, u, v] => wordB w && (sumB n u && sumB n v)
  | _ => false
def factsB (n : Int) : Val → Bool
  | .tup l => decide ((l.length : Int) ≤ 4) && l.all (claimB n)
  | _ => false
def leanB : Val → Bool
  | .tup [.int a, .int b] => wholeV (.int a) 0 1000000000 && (wholeV (.int b) 1 1000000000 && decide (gcdI a b = 1))
  | _ => false
def picB : Val → Bool
  | .tup l => (decide ((3 : Int) ≤ l.length) && decide ((l.length : Int) ≤ 5)) && (l.all (wholeV · 0 60) && (match intsOf l with
    | some ns => decide (ns[0]? = some 0) && decide (sdd ns = ns)
    | none => false))
  | _ => false
theorem whole_int {v : Val} {lo hi : Int} (h : wholeV v lo hi = true) : ∃ n, v = .int n ∧ lo ≤ n ∧ n ≤ hi := by
  cases v with
  | int n =>
    obtain ⟨h1, h2⟩ := Bool.and_eq_true_iff.mp h
    exact ⟨n, rfl, of_decide_eq_true h1, of_decide_eq_true h2⟩
  | _ => cases h
theorem wholes_ints {lo hi : Int} : ∀ {l : List Val}, l.all (wholeV · lo hi) = true → ∃ ns : List Int, l = ns.map .int ∧ intsOf l = some ns ∧ ∀ n ∈ ns, lo ≤ n ∧ n ≤ hi
  | [], _ => ⟨[], rfl, rfl, by simp⟩
  | v :: l, h => by
    rw [List.all_cons] at h
    obtain ⟨h1, h2⟩ := Bool.and_eq_true_iff.mp h
    obtain ⟨n, rfl, b⟩ := whole_int h1
    obtain ⟨ns, rfl, e, c⟩ := wholes_ints h2
    refine ⟨n :: ns, rfl, ?_, fun m hm => ?_⟩
    · show (intsOf (ns.map .int)).map (n :: ·) = _
      rw [e]; rfl
    · rcases List.mem_cons.mp hm with q | q
      · subst q; exact b
      · exact c m q
theorem part_len {n : Int} {m : List Val} (h : m.length ≠ 3) : partB n (.tup m) = false := by
  match m, h with
  | [], _ => rfl
  | [_], _ => rfl
  | [_, _], _ => rfl
  | [_, _, _], h => exact absurd rfl h
  | _ :: _ :: _ :: _ :: _, _ => rfl
theorem claim_len {n : Int} {m : List Val} (h : m.length ≠ 3) : claimB n (.tup m) = false := by
  match m, h with
  | [], _ => rfl
  | [_], _ => rfl
  | [_, _], _ => rfl
  | [_, _, _], h => exact absurd rfl h
  | _ :: _ :: _ :: _ :: _, _ => rfl
theorem lean_len {m : List Val} (h : m.length ≠ 2) : leanB (.tup m) = false := by
  match m, h with
  | [], _ => rfl
  | [a], _ => cases a <;> rfl
  | [_, _], h => exact absurd rfl h
  | a :: b :: _ :: _, _ => cases a <;> first | rfl | (cases b <;> rfl)
theorem len3 {m : List Val} (h : m.length = 3) : ∃ x y z, m = [x, y, z] := by
  match m, h with
  | [x, y, z], _ => exact ⟨x, y, z, rfl⟩
theorem len2 {m : List Val} (h : m.length = 2) : ∃ x y, m = [x, y] := by
  match m, h with
  | [x, y], _ => exact ⟨x, y, rfl⟩
theorem dat_tup {n : Nat} {l : List Val} (h : datB n (.tup l) = true) : ∃ m, n = m + 1 ∧ datBs m l = true := by
  cases n with
  | zero => cases h
  | succ m => exact ⟨m, rfl, h⟩
theorem dat_mem {n : Nat} {l : List Val} (h : datB n (.tup l) = true) : ∀ v ∈ l, datB n v = true := by
  obtain ⟨m, rfl, h⟩ := dat_tup h
  exact fun v hv => datB_mono v (Nat.le_succ m) (datBs_mem h v hv)
theorem notin_v {a : Val} {l : List Val} (h : isFlat a = true) (h2 : l.all isFlat = true) : cmV .notin a (.tup l) = some (!l.any fun y => eqF y a) := by
  show (if isFlat a && l.all isFlat then some (!l.any fun y => eqF y a) else none) = _
  rw [h, h2]; rfl
theorem notin_l {a : Val} {l : List Val} (h : isFlat a = true) (h2 : l.all isFlat = true) : cmV .notin a (.lst l) = some (!l.any fun y => eqF y a) := by
  show (if isFlat a && l.all isFlat then some (!l.any fun y => eqF y a) else none) = _
  rw [h, h2]; rfl
end PL
namespace K01
open PySem PL
abbrev suB : Ss := (.cons (.ite (.or (.not (.val (.isi .tuple (.var 2)))) (.or (.cm .ne (.bi .len (.cons (.var 2) .nil)) (.con (.int (3)))) (.not (.val (.call 1 (.cons (.ix (.var 2) (.con (.int (0)))) (.cons (.con (.int (1))) (.cons (.con (.int (9))) .nil)))))))) (.cons (.ret (.con (.bl false)))
  .nil) .nil)
  (.cons (.ite (.or (.not (.val (.call 1 (.cons (.ix (.var 2) (.con (.int (1)))) (.cons (.con (.int (0))) (.cons (.op .sub (.bi .len (.cons (.var 0) .nil)) (.con (.int (2)))) .nil)))))) (.not (.val (.call 1 (.cons (.ix (.var 2) (.con (.int (2)))) (.cons (.op .add (.ix (.var 2) (.con (.int (1)))) (.con (.int (1)))) (.cons (.op .sub (.bi .len (.cons (.var 0) .nil)) (.con (.int (1)))) .nil))))))) (.cons (.ret (.con (.bl false)))
  .nil) .nil)
  .nil))
theorem su_step (d : Nat) {q : List Int} {v u : Val} {n : Nat} (κ : Ks) (hu : datB n u = true) : (partB q.length u = true → exSs (cb tab (d + 1)) suB [some (.val (picV q)), some (.val v), some (.val u)] κ = .nx [some (.val (picV q)), some (.val v), some (.val u)] κ) ∧ (partB q.length u = false → exSs (cb tab (d + 1)) suB [some (.val (picV q)), some (.val v), some (.val u)] κ = .ret (.bl false) κ) := by
  have w := fun v (h : topD v = true) lo hi => s_wholeV d h lo hi κ
  have nt : ∀ b, isiV .tuple u = some b → b = false → exSs (cb tab (d + 1)) suB [some (.val (picV q)), some (.val v), some (.val u)] κ = .ret (.bl false) κ := fun b hb e => by
    subst e
    simp only [suB, exSs, exS, evT, evE, bw, rdV, hb, exSs, exS, evE, evT, evEs, evA, evBs, evO, evOt, evI, bw, rdV, rdB, R.bind_ok, R.bind_exc, R.bind_bad, R.ofO_some, R.ofO_none, R.toO_ok, R.toO_exc, R.toO_bad, O.then_nx, O.then_ret, O.then_exc, O.then_bad, O.fin_nx, O.fin_ret, O.fin_exc, O.fin_bad, Option.map_some, Option.map_none, List.map_cons, List.map_nil, Ar.slot, List.cons_append, List.nil_append, List.length_cons, List.length_nil, List.getElem?_cons_zero, List.getElem?_cons_succ, List.set_cons_zero, List.set_cons_succ, parR, bi_abs, bi_inti, bi_intb, bi_lent, bi_lenl, bi_lens, bi_max, bi_min, bi_tupt, bi_tupl, bi_lstt, bi_lstl, isi_t, isi_l, isi_i, isi_b, isi_n, isi_s, reduceCtorEq, decide_true, decide_false, Bool.or_true, Bool.or_false, Bool.true_or, Bool.false_or, blV, ntV, ngV, intV, op_add, op_sub, cm_lt, cm_le, cm_gt, cm_ge, cm_eqi, cm_nei, tr_bl, Bool.not_false, if_true]
  cases u with
  | tup m =>
    by_cases hm : m.length = 3
    · obtain ⟨x, y, z, rfl⟩ := len3 hm
      have hx := datB_topD (dat_mem hu x (by simp))
      have hy := datB_topD (dat_mem hu y (by simp))
      have hz := datB_topD (dat_mem hu z (by simp))
      have lm : ((0 + 1 + 1 + 1 : Nat) : Int) = 3 := rfl
      cases c1 : wholeV x 1 9 with
      | false =>
        have pf : partB q.length (.tup [x, y, z]) = false := by
          show (wholeV x 1 9 && _) = false
          rw [c1]; rfl
        refine ⟨fun h => (by rw [pf] at h; cases h), fun _ => ?_⟩
        simp only [suB, exSs, exS, evE, evT, evEs, evA, evBs, evO, evOt, evI, bw, rdV, rdB, R.bind_ok, R.bind_exc, R.bind_bad, R.ofO_some, R.ofO_none, R.toO_ok, R.toO_exc, R.toO_bad, O.then_nx, O.then_ret, O.then_exc, O.then_bad, O.fin_nx, O.fin_ret, O.fin_exc, O.fin_bad, Option.map_some, Option.map_none, List.map_cons, List.map_nil, Ar.slot, List.cons_append, List.nil_append, List.length_cons, List.length_nil, List.getElem?_cons_zero, List.getElem?_cons_succ, List.set_cons_zero, List.set_cons_succ, parR, bi_abs, bi_inti, bi_intb, bi_lent, bi_lenl, bi_lens, bi_max, bi_min, bi_tupt, bi_tupl, bi_lstt, bi_lstl, isi_t, isi_l, isi_i, isi_b, isi_n, isi_s, reduceCtorEq, decide_true, decide_false, Bool.or_true, Bool.or_false, Bool.true_or, Bool.false_or, blV, ntV, ngV, intV, op_add, op_sub, cm_lt, cm_le, cm_gt, cm_ge, cm_eqi, cm_nei, tr_bl, evBs, lm, Bool.not_true, Bool.not_false, decide_true, if_true, if_false, Bool.false_eq_true, ix_t0, w x hx, c1]
      | true =>
        cases c2 : wholeV y 0 ((q.length : Int) - 2) with
        | false =>
          have pf : partB q.length (.tup [x, y, z]) = false := by
            cases y with
            | int b =>
              show (wholeV x 1 9 && (wholeV (.int b) 0 ((q.length : Int) - 2) && _)) = false
              rw [c1, c2]; rfl
            | _ =>
              show (wholeV x 1 9 && false) = false
              rw [Bool.and_false]
          refine ⟨fun h => (by rw [pf] at h; cases h), fun _ => ?_⟩
          simp only [suB, exSs, exS, evE, evT, evEs, evA, evBs, evO, evOt, evI, bw, rdV, rdB, R.bind_ok, R.bind_exc, R.bind_bad, R.ofO_some, R.ofO_none, R.toO_ok, R.toO_exc, R.toO_bad, O.then_nx, O.then_ret, O.then_exc, O.then_bad, O.fin_nx, O.fin_ret, O.fin_exc, O.fin_bad, Option.map_some, Option.map_none, List.map_cons, List.map_nil, Ar.slot, List.cons_append, List.nil_append, List.length_cons, List.length_nil, List.getElem?_cons_zero, List.getElem?_cons_succ, List.set_cons_zero, List.set_cons_succ, parR, bi_abs, bi_inti, bi_intb, bi_lent, bi_lenl, bi_lens, bi_max, bi_min, bi_tupt, bi_tupl, bi_lstt, bi_lstl, isi_t, isi_l, isi_i, isi_b, isi_n, isi_s, reduceCtorEq, decide_true, decide_false, Bool.or_true, Bool.or_false, Bool.true_or, Bool.false_or, blV, ntV, ngV, intV, op_add, op_sub, cm_lt, cm_le, cm_gt, cm_ge, cm_eqi, cm_nei, tr_bl, evBs, len_pic, lm, Bool.not_true, Bool.not_false, decide_true, if_true, if_false, Bool.false_eq_true, ix_t0, ix_t1, w x hx, c1, w y hy, c2]
        | true =>
          obtain ⟨b, rfl, b1, b2⟩ := whole_int c2
          have pf : partB q.length (.tup [x, .int b, z]) = wholeV z (b + 1) ((q.length : Int) - 1) := by
            show (wholeV x 1 9 && (wholeV (.int b) 0 ((q.length : Int) - 2) && wholeV z (b + 1) ((q.length : Int) - 1))) = _
            rw [c1, c2]; rfl
          rw [pf]
          cases c3 : wholeV z (b + 1) ((q.length : Int) - 1) with
          | false =>
            refine ⟨fun h => (by cases h), fun _ => ?_⟩
            simp only [suB, exSs, exS, evE, evT, evEs, evA, evBs, evO, evOt, evI, bw, rdV, rdB, R.bind_ok, R.bind_exc, R.bind_bad, R.ofO_some, R.ofO_none, R.toO_ok, R.toO_exc, R.toO_bad, O.then_nx, O.then_ret, O.then_exc, O.then_bad, O.fin_nx, O.fin_ret, O.fin_exc, O.fin_bad, Option.map_some, Option.map_none, List.map_cons, List.map_nil, Ar.slot, List.cons_append, List.nil_append, List.length_cons, List.length_nil, List.getElem?_cons_zero, List.getElem?_cons_succ, List.set_cons_zero, List.set_cons_succ, parR, bi_abs, bi_inti, bi_intb, bi_lent, bi_lenl, bi_lens, bi_max, bi_min, bi_tupt, bi_tupl, bi_lstt, bi_lstl, isi_t, isi_l, isi_i, isi_b, isi_n, isi_s, reduceCtorEq, decide_true, decide_false, Bool.or_true, Bool.or_false, Bool.true_or, Bool.false_or, blV, ntV, ngV, intV, op_add, op_sub, cm_lt, cm_le, cm_gt, cm_ge, cm_eqi, cm_nei, tr_bl, evBs, len_pic, lm, Bool.not_true, Bool.not_false, decide_true, if_true, if_false, Bool.false_eq_true, ix_t0, ix_t1, ix_t2, w x hx, c1, w (.int b) rfl, c2, w z hz, c3]
          | true =>
            refine ⟨fun _ => ?_, fun h => (by cases h)⟩
            simp only [suB, exSs, exS, evE, evT, evEs, evA, evBs, evO, evOt, evI, bw, rdV, rdB, R.bind_ok, R.bind_exc, R.bind_bad, R.ofO_some, R.ofO_none, R.toO_ok, R.toO_exc, R.toO_bad, O.then_nx, O.then_ret, O.then_exc, O.then_bad, O.fin_nx, O.fin_ret, O.fin_exc, O.fin_bad, Option.map_some, Option.map_none, List.map_cons, List.map_nil, Ar.slot, List.cons_append, List.nil_append, List.length_cons, List.length_nil, List.getElem?_cons_zero, List.getElem?_cons_succ, List.set_cons_zero, List.set_cons_succ, parR, bi_abs, bi_inti, bi_intb, bi_lent, bi_lenl, bi_lens, bi_max, bi_min, bi_tupt, bi_tupl, bi_lstt, bi_lstl, isi_t, isi_l, isi_i, isi_b, isi_n, isi_s, reduceCtorEq, decide_true, decide_false, Bool.or_true, Bool.or_false, Bool.true_or, Bool.false_or, blV, ntV, ngV, intV, op_add, op_sub, cm_lt, cm_le, cm_gt, cm_ge, cm_eqi, cm_nei, tr_bl, evBs, len_pic, lm, Bool.not_true, Bool.not_false, decide_true, if_true, if_false, Bool.false_eq_true, ix_t0, ix_t1, ix_t2, w x hx, c1, w (.int b) rfl, c2, w z hz, c3]
    · refine ⟨fun h => (by rw [part_len hm] at h; cases h), fun _ => ?_⟩
      have lm : ((m.length : Int) = 3) = False := eq_false (by omega)
      simp only [suB, exSs, exS, evE, evT, evEs, evA, evBs, evO, evOt, evI, bw, rdV, rdB, R.bind_ok, R.bind_exc, R.bind_bad, R.ofO_some, R.ofO_none, R.toO_ok, R.toO_exc, R.toO_bad, O.then_nx, O.then_ret, O.then_exc, O.then_bad, O.fin_nx, O.fin_ret, O.fin_exc, O.fin_bad, Option.map_some, Option.map_none, List.map_cons, List.map_nil, Ar.slot, List.cons_append, List.nil_append, List.length_cons, List.length_nil, List.getElem?_cons_zero, List.getElem?_cons_succ, List.set_cons_zero, List.set_cons_succ, parR, bi_abs, bi_inti, bi_intb, bi_lent, bi_lenl, bi_lens, bi_max, bi_min, bi_tupt, bi_tupl, bi_lstt, bi_lstl, isi_t, isi_l, isi_i, isi_b, isi_n, isi_s, reduceCtorEq, decide_true, decide_false, Bool.or_true, Bool.or_false, Bool.true_or, Bool.false_or, blV, ntV, ngV, intV, op_add, op_sub, cm_lt, cm_le, cm_gt, cm_ge, cm_eqi, cm_nei, tr_bl, evBs, lm, Bool.not_true, Bool.not_false, decide_true, decide_false, if_true, if_false, Bool.false_eq_true]
  | non => exact ⟨fun h => (by cases h), fun _ => nt _ rfl rfl⟩
  | bl _ => exact ⟨fun h => (by cases h), fun _ => nt _ rfl rfl⟩
  | int _ => exact ⟨fun h => (by cases h), fun _ => nt _ rfl rfl⟩
  | str _ => exact ⟨fun h => (by cases h), fun _ => nt _ rfl rfl⟩
  | lst _ => exact ⟨fun h => (by cases h), fun _ => nt _ rfl rfl⟩
  | fn _ => cases n <;> cases hu
  | cell _ => cases n <;> cases hu
  | scr _ => cases n <;> cases hu
theorem b_sum (d : Nat) {q : List Int} {v : Val} {n : Nat} (κ : Ks) (hv : datB n v = true) : (cb tab (d + 2)).cf 3 [.v (picV q), .v v] κ = .ok (.bl (sumB q.length v), κ) := by
  rw [cf_succ _ _ _ _ _ rfl rfl]
  cases v with
  | tup l =>
    cases c1 : (decide ((1 : Int) ≤ l.length) && decide ((l.length : Int) ≤ 3)) with
    | false =>
      have sf : sumB q.length (.tup l) = false := by
        show ((decide ((1 : Int) ≤ l.length) && decide ((l.length : Int) ≤ 3)) && _) = false
        rw [c1]; rfl
      rw [sf]
      by_cases h1 : (1 : Int) ≤ l.length
      · have h2 : ¬ ((l.length : Int) ≤ 3) := fun h => by
          rw [decide_eq_true h1, decide_eq_true h] at c1
          cases c1
        simp only [ir_is_right_sum, List.replicate, Nat.reduceSub, exSs, exS, evE, evT, evEs, evA, evBs, evO, evOt, evI, bw, rdV, rdB, R.bind_ok, R.bind_exc, R.bind_bad, R.ofO_some, R.ofO_none, R.toO_ok, R.toO_exc, R.toO_bad, O.then_nx, O.then_ret, O.then_exc, O.then_bad, O.fin_nx, O.fin_ret, O.fin_exc, O.fin_bad, Option.map_some, Option.map_none, List.map_cons, List.map_nil, Ar.slot, List.cons_append, List.nil_append, List.length_cons, List.length_nil, List.getElem?_cons_zero, List.getElem?_cons_succ, List.set_cons_zero, List.set_cons_succ, parR, bi_abs, bi_inti, bi_intb, bi_lent, bi_lenl, bi_lens, bi_max, bi_min, bi_tupt, bi_tupl, bi_lstt, bi_lstl, isi_t, isi_l, isi_i, isi_b, isi_n, isi_s, reduceCtorEq, decide_true, decide_false, Bool.or_true, Bool.or_false, Bool.true_or, Bool.false_or, blV, ntV, ngV, intV, op_add, op_sub, cm_lt, cm_le, cm_gt, cm_ge, cm_eqi, cm_nei, tr_bl, evBs, h1, h2, Bool.not_true, Bool.not_false, decide_true, decide_false, if_true, if_false, Bool.false_eq_true]
      · simp only [ir_is_right_sum, List.replicate, Nat.reduceSub, exSs, exS, evE, evT, evEs, evA, evBs, evO, evOt, evI, bw, rdV, rdB, R.bind_ok, R.bind_exc, R.bind_bad, R.ofO_some, R.ofO_none, R.toO_ok, R.toO_exc, R.toO_bad, O.then_nx, O.then_ret, O.then_exc, O.then_bad, O.fin_nx, O.fin_ret, O.fin_exc, O.fin_bad, Option.map_some, Option.map_none, List.map_cons, List.map_nil, Ar.slot, List.cons_append, List.nil_append, List.length_cons, List.length_nil, List.getElem?_cons_zero, List.getElem?_cons_succ, List.set_cons_zero, List.set_cons_succ, parR, bi_abs, bi_inti, bi_intb, bi_lent, bi_lenl, bi_lens, bi_max, bi_min, bi_tupt, bi_tupl, bi_lstt, bi_lstl, isi_t, isi_l, isi_i, isi_b, isi_n, isi_s, reduceCtorEq, decide_true, decide_false, Bool.or_true, Bool.or_false, Bool.true_or, Bool.false_or, blV, ntV, ngV, intV, op_add, op_sub, cm_lt, cm_le, cm_gt, cm_ge, cm_eqi, cm_nei, tr_bl, evBs, h1, Bool.not_true, Bool.not_false, decide_true, decide_false, if_true, if_false, Bool.false_eq_true]
    | true =>
      obtain ⟨h1, h2⟩ := Bool.and_eq_true_iff.mp c1
      have h1 := of_decide_eq_true h1
      have h2 := of_decide_eq_true h2
      have sf : sumB q.length (.tup l) = l.all (partB q.length) := by
        show ((decide ((1 : Int) ≤ l.length) && decide ((l.length : Int) ≤ 3)) && _) = _
        rw [c1]; rfl
      rw [sf]
      have p1 : exS (cb tab (d + 1)) (.ite (.or (.not (.val (.isi .tuple (.var 1)))) (.not (.chain .le .le (.con (.int (1))) (.bi .len (.cons (.var 1) .nil)) (.con (.int (3)))))) (.cons (.ret (.con (.bl false)))
  .nil) .nil) [some (.val (picV q)), some (.val (.tup l)), none] κ = .nx [some (.val (picV q)), some (.val (.tup l)), none] κ := by
        simp only [exSs, exS, evE, evT, evEs, evA, evBs, evO, evOt, evI, bw, rdV, rdB, R.bind_ok, R.bind_exc, R.bind_bad, R.ofO_some, R.ofO_none, R.toO_ok, R.toO_exc, R.toO_bad, O.then_nx, O.then_ret, O.then_exc, O.then_bad, O.fin_nx, O.fin_ret, O.fin_exc, O.fin_bad, Option.map_some, Option.map_none, List.map_cons, List.map_nil, Ar.slot, List.cons_append, List.nil_append, List.length_cons, List.length_nil, List.getElem?_cons_zero, List.getElem?_cons_succ, List.set_cons_zero, List.set_cons_succ, parR, bi_abs, bi_inti, bi_intb, bi_lent, bi_lenl, bi_lens, bi_max, bi_min, bi_tupt, bi_tupl, bi_lstt, bi_lstl, isi_t, isi_l, isi_i, isi_b, isi_n, isi_s, reduceCtorEq, decide_true, decide_false, Bool.or_true, Bool.or_false, Bool.true_or, Bool.false_or, blV, ntV, ngV, intV, op_add, op_sub, cm_lt, cm_le, cm_gt, cm_ge, cm_eqi, cm_nei, tr_bl, evBs, h1, h2, Bool.not_true, Bool.not_false, decide_true, decide_false, if_true, if_false, Bool.false_eq_true]
      have key := loop_all (c := cb tab (d + 1)) (tg := .nm 2) (it := .seq (.var 1)) (b := suB) (ρ := [some (.val (picV q)), some (.val (.tup l)), none]) (κ := κ) (l := l) (I := fun ρ => ∃ e, ρ = [some (.val (picV q)), some (.val (.tup l)), e]) (P := partB q.length) (w := .bl false) rfl ⟨none, rfl⟩ (fun u hu ρ ⟨e, er⟩ => by
        subst er
        obtain ⟨g1, g2⟩ := su_step d (q := q) (v := .tup l) κ (dat_mem hv u hu)
        exact ⟨_, rfl, fun h => ⟨_, g1 h, _, rfl⟩, g2⟩)
      have hd : ∀ o, exS (cb tab (d + 1)) (.loop (.nm 2) (.seq (.var 1)) suB) [some (.val (picV q)), some (.val (.tup l)), none] κ = o → exSs (cb tab (d + 1)) ir_is_right_sum [some (.val (picV q)), some (.val (.tup l)), none] κ = o.then fun ρ κ => exSs (cb tab (d + 1)) (.cons (.ret (.con (.bl true))) .nil) ρ κ := fun o ho => by
        unfold ir_is_right_sum
        rw [ss_nx p1, ← ho]
        rfl
      cases ha : l.all (partB q.length) with
      | true =>
        obtain ⟨ρ', e, x, er⟩ := key.1 ha
        subst er
        exact congrArg O.fin ((hd _ e).trans rfl)
      | false => exact congrArg O.fin ((hd _ (key.2 ha)).trans rfl)
  | non => simp only [ir_is_right_sum, List.replicate, Nat.reduceSub, exSs, exS, evE, evT, evEs, evA, evBs, evO, evOt, evI, bw, rdV, rdB, R.bind_ok, R.bind_exc, R.bind_bad, R.ofO_some, R.ofO_none, R.toO_ok, R.toO_exc, R.toO_bad, O.then_nx, O.then_ret, O.then_exc, O.then_bad, O.fin_nx, O.fin_ret, O.fin_exc, O.fin_bad, Option.map_some, Option.map_none, List.map_cons, List.map_nil, Ar.slot, List.cons_append, List.nil_append, List.length_cons, List.length_nil, List.getElem?_cons_zero, List.getElem?_cons_succ, List.set_cons_zero, List.set_cons_succ, parR, bi_abs, bi_inti, bi_intb, bi_lent, bi_lenl, bi_lens, bi_max, bi_min, bi_tupt, bi_tupl, bi_lstt, bi_lstl, isi_t, isi_l, isi_i, isi_b, isi_n, isi_s, reduceCtorEq, decide_true, decide_false, Bool.or_true, Bool.or_false, Bool.true_or, Bool.false_or, blV, ntV, ngV, intV, op_add, op_sub, cm_lt, cm_le, cm_gt, cm_ge, cm_eqi, cm_nei, tr_bl, evBs, Bool.not_false, if_true, sumB]
  | bl _ => simp only [ir_is_right_sum, List.replicate, Nat.reduceSub, exSs, exS, evE, evT, evEs, evA, evBs, evO, evOt, evI, bw, rdV, rdB, R.bind_ok, R.bind_exc, R.bind_bad, R.ofO_some, R.ofO_none, R.toO_ok, R.toO_exc, R.toO_bad, O.then_nx, O.then_ret, O.then_exc, O.then_bad, O.fin_nx, O.fin_ret, O.fin_exc, O.fin_bad, Option.map_some, Option.map_none, List.map_cons, List.map_nil, Ar.slot, List.cons_append, List.nil_append, List.length_cons, List.length_nil, List.getElem?_cons_zero, List.getElem?_cons_succ, List.set_cons_zero, List.set_cons_succ, parR, bi_abs, bi_inti, bi_intb, bi_lent, bi_lenl, bi_lens, bi_max, bi_min, bi_tupt, bi_tupl, bi_lstt, bi_lstl, isi_t, isi_l, isi_i, isi_b, isi_n, isi_s, reduceCtorEq, decide_true, decide_false, Bool.or_true, Bool.or_false, Bool.true_or, Bool.false_or, blV, ntV, ngV, intV, op_add, op_sub, cm_lt, cm_le, cm_gt, cm_ge, cm_eqi, cm_nei, tr_bl, evBs, Bool.not_false, if_true, sumB]
  | int _ => simp only [ir_is_right_sum, List.replicate, Nat.reduceSub, exSs, exS, evE, evT, evEs, evA, evBs, evO, evOt, evI, bw, rdV, rdB, R.bind_ok, R.bind_exc, R.bind_bad, R.ofO_some, R.ofO_none, R.toO_ok, R.toO_exc, R.toO_bad, O.then_nx, O.then_ret, O.then_exc, O.then_bad, O.fin_nx, O.fin_ret, O.fin_exc, O.fin_bad, Option.map_some, Option.map_none, List.map_cons, List.map_nil, Ar.slot, List.cons_append, List.nil_append, List.length_cons, List.length_nil, List.getElem?_cons_zero, List.getElem?_cons_succ, List.set_cons_zero, List.set_cons_succ, parR, bi_abs, bi_inti, bi_intb, bi_lent, bi_lenl, bi_lens, bi_max, bi_min, bi_tupt, bi_tupl, bi_lstt, bi_lstl, isi_t, isi_l, isi_i, isi_b, isi_n, isi_s, reduceCtorEq, decide_true, decide_false, Bool.or_true, Bool.or_false, Bool.true_or, Bool.false_or, blV, ntV, ngV, intV, op_add, op_sub, cm_lt, cm_le, cm_gt, cm_ge, cm_eqi, cm_nei, tr_bl, evBs, Bool.not_false, if_true, sumB]
  | str _ => simp only [ir_is_right_sum, List.replicate, Nat.reduceSub, exSs, exS, evE, evT, evEs, evA, evBs, evO, evOt, evI, bw, rdV, rdB, R.bind_ok, R.bind_exc, R.bind_bad, R.ofO_some, R.ofO_none, R.toO_ok, R.toO_exc, R.toO_bad, O.then_nx, O.then_ret, O.then_exc, O.then_bad, O.fin_nx, O.fin_ret, O.fin_exc, O.fin_bad, Option.map_some, Option.map_none, List.map_cons, List.map_nil, Ar.slot, List.cons_append, List.nil_append, List.length_cons, List.length_nil, List.getElem?_cons_zero, List.getElem?_cons_succ, List.set_cons_zero, List.set_cons_succ, parR, bi_abs, bi_inti, bi_intb, bi_lent, bi_lenl, bi_lens, bi_max, bi_min, bi_tupt, bi_tupl, bi_lstt, bi_lstl, isi_t, isi_l, isi_i, isi_b, isi_n, isi_s, reduceCtorEq, decide_true, decide_false, Bool.or_true, Bool.or_false, Bool.true_or, Bool.false_or, blV, ntV, ngV, intV, op_add, op_sub, cm_lt, cm_le, cm_gt, cm_ge, cm_eqi, cm_nei, tr_bl, evBs, Bool.not_false, if_true, sumB]
  | lst _ => simp only [ir_is_right_sum, List.replicate, Nat.reduceSub, exSs, exS, evE, evT, evEs, evA, evBs, evO, evOt, evI, bw, rdV, rdB, R.bind_ok, R.bind_exc, R.bind_bad, R.ofO_some, R.ofO_none, R.toO_ok, R.toO_exc, R.toO_bad, O.then_nx, O.then_ret, O.then_exc, O.then_bad, O.fin_nx, O.fin_ret, O.fin_exc, O.fin_bad, Option.map_some, Option.map_none, List.map_cons, List.map_nil, Ar.slot, List.cons_append, List.nil_append, List.length_cons, List.length_nil, List.getElem?_cons_zero, List.getElem?_cons_succ, List.set_cons_zero, List.set_cons_succ, parR, bi_abs, bi_inti, bi_intb, bi_lent, bi_lenl, bi_lens, bi_max, bi_min, bi_tupt, bi_tupl, bi_lstt, bi_lstl, isi_t, isi_l, isi_i, isi_b, isi_n, isi_s, reduceCtorEq, decide_true, decide_false, Bool.or_true, Bool.or_false, Bool.true_or, Bool.false_or, blV, ntV, ngV, intV, op_add, op_sub, cm_lt, cm_le, cm_gt, cm_ge, cm_eqi, cm_nei, tr_bl, evBs, Bool.not_false, if_true, sumB]
  | fn _ => cases n <;> cases hv
  | cell _ => cases n <;> cases hv
  | scr _ => cases n <;> cases hv
theorem b_claim (d : Nat) {q : List Int} {v : Val} {n : Nat} (κ : Ks) (hv : datB n v = true) : (cb tab (d + 3)).cf 4 [.v (picV q), .v v] κ = .ok (.bl (claimB q.length v), κ) := by
  rw [cf_succ _ _ _ _ _ rfl rfl]
  cases v with
  | tup m =>
    by_cases hm : m.length = 3
    · obtain ⟨x, y, z, rfl⟩ := len3 hm
      have lm : ((0 + 1 + 1 + 1 : Nat) : Int) = 3 := rfl
      have s1 := b_sum d (q := q) κ (dat_mem hv y (by simp))
      have s2 := b_sum d (q := q) κ (dat_mem hv z (by simp))
      cases x with
      | str w =>
        have ni : cmV .notin (.str w) (.tup [.str "less", .str "upto", .str "same"]) = some (!wordB (.str w)) := notin_v rfl rfl
        have cf : claimB q.length (.tup [.str w, y, z]) = (wordB (.str w) && (sumB q.length y && sumB q.length z)) := rfl
        rw [cf]
        cases hw : wordB (.str w) with
        | false =>
          rw [hw] at ni
          simp only [ir_is_right_claim, List.replicate, Nat.reduceSub, List.append_nil, exSs, exS, evE, evT, evEs, evA, evBs, evO, evOt, evI, bw, rdV, rdB, R.bind_ok, R.bind_exc, R.bind_bad, R.ofO_some, R.ofO_none, R.toO_ok, R.toO_exc, R.toO_bad, O.then_nx, O.then_ret, O.then_exc, O.then_bad, O.fin_nx, O.fin_ret, O.fin_exc, O.fin_bad, Option.map_some, Option.map_none, List.map_cons, List.map_nil, Ar.slot, List.cons_append, List.nil_append, List.length_cons, List.length_nil, List.getElem?_cons_zero, List.getElem?_cons_succ, List.set_cons_zero, List.set_cons_succ, parR, bi_abs, bi_inti, bi_intb, bi_lent, bi_lenl, bi_lens, bi_max, bi_min, bi_tupt, bi_tupl, bi_lstt, bi_lstl, isi_t, isi_l, isi_i, isi_b, isi_n, isi_s, reduceCtorEq, decide_true, decide_false, Bool.or_true, Bool.or_false, Bool.true_or, Bool.false_or, blV, ntV, ngV, intV, op_add, op_sub, cm_lt, cm_le, cm_gt, cm_ge, cm_eqi, cm_nei, tr_bl, evBs, lm, ix_t0, ni, Bool.not_true, Bool.not_false, decide_true, if_true, if_false, Bool.false_eq_true, Bool.false_and]
        | true =>
          rw [hw] at ni
          cases h1 : sumB q.length y with
          | false =>
            rw [h1] at s1
            simp only [ir_is_right_claim, List.replicate, Nat.reduceSub, List.append_nil, exSs, exS, evE, evT, evEs, evA, evBs, evO, evOt, evI, bw, rdV, rdB, R.bind_ok, R.bind_exc, R.bind_bad, R.ofO_some, R.ofO_none, R.toO_ok, R.toO_exc, R.toO_bad, O.then_nx, O.then_ret, O.then_exc, O.then_bad, O.fin_nx, O.fin_ret, O.fin_exc, O.fin_bad, Option.map_some, Option.map_none, List.map_cons, List.map_nil, Ar.slot, List.cons_append, List.nil_append, List.length_cons, List.length_nil, List.getElem?_cons_zero, List.getElem?_cons_succ, List.set_cons_zero, List.set_cons_succ, parR, bi_abs, bi_inti, bi_intb, bi_lent, bi_lenl, bi_lens, bi_max, bi_min, bi_tupt, bi_tupl, bi_lstt, bi_lstl, isi_t, isi_l, isi_i, isi_b, isi_n, isi_s, reduceCtorEq, decide_true, decide_false, Bool.or_true, Bool.or_false, Bool.true_or, Bool.false_or, blV, ntV, ngV, intV, op_add, op_sub, cm_lt, cm_le, cm_gt, cm_ge, cm_eqi, cm_nei, tr_bl, evBs, lm, ix_t0, ix_t1, ni, s1, Bool.not_true, Bool.not_false, decide_true, if_true, if_false, Bool.false_eq_true, Bool.false_and, Bool.true_and]
          | true =>
            rw [h1] at s1
            simp only [ir_is_right_claim, List.replicate, Nat.reduceSub, List.append_nil, exSs, exS, evE, evT, evEs, evA, evBs, evO, evOt, evI, bw, rdV, rdB, R.bind_ok, R.bind_exc, R.bind_bad, R.ofO_some, R.ofO_none, R.toO_ok, R.toO_exc, R.toO_bad, O.then_nx, O.then_ret, O.then_exc, O.then_bad, O.fin_nx, O.fin_ret, O.fin_exc, O.fin_bad, Option.map_some, Option.map_none, List.map_cons, List.map_nil, Ar.slot, List.cons_append, List.nil_append, List.length_cons, List.length_nil, List.getElem?_cons_zero, List.getElem?_cons_succ, List.set_cons_zero, List.set_cons_succ, parR, bi_abs, bi_inti, bi_intb, bi_lent, bi_lenl, bi_lens, bi_max, bi_min, bi_tupt, bi_tupl, bi_lstt, bi_lstl, isi_t, isi_l, isi_i, isi_b, isi_n, isi_s, reduceCtorEq, decide_true, decide_false, Bool.or_true, Bool.or_false, Bool.true_or, Bool.false_or, blV, ntV, ngV, intV, op_add, op_sub, cm_lt, cm_le, cm_gt, cm_ge, cm_eqi, cm_nei, tr_bl, evBs, lm, ix_t0, ix_t1, ix_t2, ni, s1, s2, Bool.not_true, Bool.not_false, decide_true, if_true, if_false, Bool.false_eq_true, Bool.false_and, Bool.true_and]
      | non => simp only [ir_is_right_claim, List.replicate, Nat.reduceSub, List.append_nil, exSs, exS, evE, evT, evEs, evA, evBs, evO, evOt, evI, bw, rdV, rdB, R.bind_ok, R.bind_exc, R.bind_bad, R.ofO_some, R.ofO_none, R.toO_ok, R.toO_exc, R.toO_bad, O.then_nx, O.then_ret, O.then_exc, O.then_bad, O.fin_nx, O.fin_ret, O.fin_exc, O.fin_bad, Option.map_some, Option.map_none, List.map_cons, List.map_nil, Ar.slot, List.cons_append, List.nil_append, List.length_cons, List.length_nil, List.getElem?_cons_zero, List.getElem?_cons_succ, List.set_cons_zero, List.set_cons_succ, parR, bi_abs, bi_inti, bi_intb, bi_lent, bi_lenl, bi_lens, bi_max, bi_min, bi_tupt, bi_tupl, bi_lstt, bi_lstl, isi_t, isi_l, isi_i, isi_b, isi_n, isi_s, reduceCtorEq, decide_true, decide_false, Bool.or_true, Bool.or_false, Bool.true_or, Bool.false_or, blV, ntV, ngV, intV, op_add, op_sub, cm_lt, cm_le, cm_gt, cm_ge, cm_eqi, cm_nei, tr_bl, evBs, lm, ix_t0, Bool.not_true, Bool.not_false, decide_true, if_true, if_false, Bool.false_eq_true, claimB, wordB, Bool.false_and]
      | bl _ => simp only [ir_is_right_claim, List.replicate, Nat.reduceSub, List.append_nil, exSs, exS, evE, evT, evEs, evA, evBs, evO, evOt, evI, bw, rdV, rdB, R.bind_ok, R.bind_exc, R.bind_bad, R.ofO_some, R.ofO_none, R.toO_ok, R.toO_exc, R.toO_bad, O.then_nx, O.then_ret, O.then_exc, O.then_bad, O.fin_nx, O.fin_ret, O.fin_exc, O.fin_bad, Option.map_some, Option.map_none, List.map_cons, List.map_nil, Ar.slot, List.cons_append, List.nil_append, List.length_cons, List.length_nil, List.getElem?_cons_zero, List.getElem?_cons_succ, List.set_cons_zero, List.set_cons_succ, parR, bi_abs, bi_inti, bi_intb, bi_lent, bi_lenl, bi_lens, bi_max, bi_min, bi_tupt, bi_tupl, bi_lstt, bi_lstl, isi_t, isi_l, isi_i, isi_b, isi_n, isi_s, reduceCtorEq, decide_true, decide_false, Bool.or_true, Bool.or_false, Bool.true_or, Bool.false_or, blV, ntV, ngV, intV, op_add, op_sub, cm_lt, cm_le, cm_gt, cm_ge, cm_eqi, cm_nei, tr_bl, evBs, lm, ix_t0, Bool.not_true, Bool.not_false, decide_true, if_true, if_false, Bool.false_eq_true, claimB, wordB, Bool.false_and]
      | int _ => simp only [ir_is_right_claim, List.replicate, Nat.reduceSub, List.append_nil, exSs, exS, evE, evT, evEs, evA, evBs, evO, evOt, evI, bw, rdV, rdB, R.bind_ok, R.bind_exc, R.bind_bad, R.ofO_some, R.ofO_none, R.toO_ok, R.toO_exc, R.toO_bad, O.then_nx, O.then_ret, O.then_exc, O.then_bad, O.fin_nx, O.fin_ret, O.fin_exc, O.fin_bad, Option.map_some, Option.map_none, List.map_cons, List.map_nil, Ar.slot, List.cons_append, List.nil_append, List.length_cons, List.length_nil, List.getElem?_cons_zero, List.getElem?_cons_succ, List.set_cons_zero, List.set_cons_succ, parR, bi_abs, bi_inti, bi_intb, bi_lent, bi_lenl, bi_lens, bi_max, bi_min, bi_tupt, bi_tupl, bi_lstt, bi_lstl, isi_t, isi_l, isi_i, isi_b, isi_n, isi_s, reduceCtorEq, decide_true, decide_false, Bool.or_true, Bool.or_false, Bool.true_or, Bool.false_or, blV, ntV, ngV, intV, op_add, op_sub, cm_lt, cm_le, cm_gt, cm_ge, cm_eqi, cm_nei, tr_bl, evBs, lm, ix_t0, Bool.not_true, Bool.not_false, decide_true, if_true, if_false, Bool.false_eq_true, claimB, wordB, Bool.false_and]
      | tup _ => simp only [ir_is_right_claim, List.replicate, Nat.reduceSub, List.append_nil, exSs, exS, evE, evT, evEs, evA, evBs, evO, evOt, evI, bw, rdV, rdB, R.bind_ok, R.bind_exc, R.bind_bad, R.ofO_some, R.ofO_none, R.toO_ok, R.toO_exc, R.toO_bad, O.then_nx, O.then_ret, O.then_exc, O.then_bad, O.fin_nx, O.fin_ret, O.fin_exc, O.fin_bad, Option.map_some, Option.map_none, List.map_cons, List.map_nil, Ar.slot, List.cons_append, List.nil_append, List.length_cons, List.length_nil, List.getElem?_cons_zero, List.getElem?_cons_succ, List.set_cons_zero, List.set_cons_succ, parR, bi_abs, bi_inti, bi_intb, bi_lent, bi_lenl, bi_lens, bi_max, bi_min, bi_tupt, bi_tupl, bi_lstt, bi_lstl, isi_t, isi_l, isi_i, isi_b, isi_n, isi_s, reduceCtorEq, decide_true, decide_false, Bool.or_true, Bool.or_false, Bool.true_or, Bool.false_or, blV, ntV, ngV, intV, op_add, op_sub, cm_lt, cm_le, cm_gt, cm_ge, cm_eqi, cm_nei, tr_bl, evBs, lm, ix_t0, Bool.not_true, Bool.not_false, decide_true, if_true, if_false, Bool.false_eq_true, claimB, wordB, Bool.false_and]
      | lst _ => simp only [ir_is_right_claim, List.replicate, Nat.reduceSub, List.append_nil, exSs, exS, evE, evT, evEs, evA, evBs, evO, evOt, evI, bw, rdV, rdB, R.bind_ok, R.bind_exc, R.bind_bad, R.ofO_some, R.ofO_none, R.toO_ok, R.toO_exc, R.toO_bad, O.then_nx, O.then_ret, O.then_exc, O.then_bad, O.fin_nx, O.fin_ret, O.fin_exc, O.fin_bad, Option.map_some, Option.map_none, List.map_cons, List.map_nil, Ar.slot, List.cons_append, List.nil_append, List.length_cons, List.length_nil, List.getElem?_cons_zero, List.getElem?_cons_succ, List.set_cons_zero, List.set_cons_succ, parR, bi_abs, bi_inti, bi_intb, bi_lent, bi_lenl, bi_lens, bi_max, bi_min, bi_tupt, bi_tupl, bi_lstt, bi_lstl, isi_t, isi_l, isi_i, isi_b, isi_n, isi_s, reduceCtorEq, decide_true, decide_false, Bool.or_true, Bool.or_false, Bool.true_or, Bool.false_or, blV, ntV, ngV, intV, op_add, op_sub, cm_lt, cm_le, cm_gt, cm_ge, cm_eqi, cm_nei, tr_bl, evBs, lm, ix_t0, Bool.not_true, Bool.not_false, decide_true, if_true, if_false, Bool.false_eq_true, claimB, wordB, Bool.false_and]
      | fn _ =>
        have h := dat_mem hv _ List.mem_cons_self
        cases n <;> cases h
      | cell _ =>
        have h := dat_mem hv _ List.mem_cons_self
        cases n <;> cases h
      | scr _ =>
        have h := dat_mem hv _ List.mem_cons_self
        cases n <;> cases h
    · rw [claim_len hm]
      have lm : ((m.length : Int) = 3) = False := eq_false (by omega)
      simp only [ir_is_right_claim, List.replicate, Nat.reduceSub, List.append_nil, exSs, exS, evE, evT, evEs, evA, evBs, evO, evOt, evI, bw, rdV, rdB, R.bind_ok, R.bind_exc, R.bind_bad, R.ofO_some, R.ofO_none, R.toO_ok, R.toO_exc, R.toO_bad, O.then_nx, O.then_ret, O.then_exc, O.then_bad, O.fin_nx, O.fin_ret, O.fin_exc, O.fin_bad, Option.map_some, Option.map_none, List.map_cons, List.map_nil, Ar.slot, List.cons_append, List.nil_append, List.length_cons, List.length_nil, List.getElem?_cons_zero, List.getElem?_cons_succ, List.set_cons_zero, List.set_cons_succ, parR, bi_abs, bi_inti, bi_intb, bi_lent, bi_lenl, bi_lens, bi_max, bi_min, bi_tupt, bi_tupl, bi_lstt, bi_lstl, isi_t, isi_l, isi_i, isi_b, isi_n, isi_s, reduceCtorEq, decide_true, decide_false, Bool.or_true, Bool.or_false, Bool.true_or, Bool.false_or, blV, ntV, ngV, intV, op_add, op_sub, cm_lt, cm_le, cm_gt, cm_ge, cm_eqi, cm_nei, tr_bl, evBs, lm, Bool.not_true, Bool.not_false, decide_true, decide_false, if_true, if_false, Bool.false_eq_true]
  | non => simp only [ir_is_right_claim, List.replicate, Nat.reduceSub, List.append_nil, exSs, exS, evE, evT, evEs, evA, evBs, evO, evOt, evI, bw, rdV, rdB, R.bind_ok, R.bind_exc, R.bind_bad, R.ofO_some, R.ofO_none, R.toO_ok, R.toO_exc, R.toO_bad, O.then_nx, O.then_ret, O.then_exc, O.then_bad, O.fin_nx, O.fin_ret, O.fin_exc, O.fin_bad, Option.map_some, Option.map_none, List.map_cons, List.map_nil, Ar.slot, List.cons_append, List.nil_append, List.length_cons, List.length_nil, List.getElem?_cons_zero, List.getElem?_cons_succ, List.set_cons_zero, List.set_cons_succ, parR, bi_abs, bi_inti, bi_intb, bi_lent, bi_lenl, bi_lens, bi_max, bi_min, bi_tupt, bi_tupl, bi_lstt, bi_lstl, isi_t, isi_l, isi_i, isi_b, isi_n, isi_s, reduceCtorEq, decide_true, decide_false, Bool.or_true, Bool.or_false, Bool.true_or, Bool.false_or, blV, ntV, ngV, intV, op_add, op_sub, cm_lt, cm_le, cm_gt, cm_ge, cm_eqi, cm_nei, tr_bl, evBs, Bool.not_false, if_true, claimB]
  | bl _ => simp only [ir_is_right_claim, List.replicate, Nat.reduceSub, List.append_nil, exSs, exS, evE, evT, evEs, evA, evBs, evO, evOt, evI, bw, rdV, rdB, R.bind_ok, R.bind_exc, R.bind_bad, R.ofO_some, R.ofO_none, R.toO_ok, R.toO_exc, R.toO_bad, O.then_nx, O.then_ret, O.then_exc, O.then_bad, O.fin_nx, O.fin_ret, O.fin_exc, O.fin_bad, Option.map_some, Option.map_none, List.map_cons, List.map_nil, Ar.slot, List.cons_append, List.nil_append, List.length_cons, List.length_nil, List.getElem?_cons_zero, List.getElem?_cons_succ, List.set_cons_zero, List.set_cons_succ, parR, bi_abs, bi_inti, bi_intb, bi_lent, bi_lenl, bi_lens, bi_max, bi_min, bi_tupt, bi_tupl, bi_lstt, bi_lstl, isi_t, isi_l, isi_i, isi_b, isi_n, isi_s, reduceCtorEq, decide_true, decide_false, Bool.or_true, Bool.or_false, Bool.true_or, Bool.false_or, blV, ntV, ngV, intV, op_add, op_sub, cm_lt, cm_le, cm_gt, cm_ge, cm_eqi, cm_nei, tr_bl, evBs, Bool.not_false, if_true, claimB]
  | int _ => simp only [ir_is_right_claim, List.replicate, Nat.reduceSub, List.append_nil, exSs, exS, evE, evT, evEs, evA, evBs, evO, evOt, evI, bw, rdV, rdB, R.bind_ok, R.bind_exc, R.bind_bad, R.ofO_some, R.ofO_none, R.toO_ok, R.toO_exc, R.toO_bad, O.then_nx, O.then_ret, O.then_exc, O.then_bad, O.fin_nx, O.fin_ret, O.fin_exc, O.fin_bad, Option.map_some, Option.map_none, List.map_cons, List.map_nil, Ar.slot, List.cons_append, List.nil_append, List.length_cons, List.length_nil, List.getElem?_cons_zero, List.getElem?_cons_succ, List.set_cons_zero, List.set_cons_succ, parR, bi_abs, bi_inti, bi_intb, bi_lent, bi_lenl, bi_lens, bi_max, bi_min, bi_tupt, bi_tupl, bi_lstt, bi_lstl, isi_t, isi_l, isi_i, isi_b, isi_n, isi_s, reduceCtorEq, decide_true, decide_false, Bool.or_true, Bool.or_false, Bool.true_or, Bool.false_or, blV, ntV, ngV, intV, op_add, op_sub, cm_lt, cm_le, cm_gt, cm_ge, cm_eqi, cm_nei, tr_bl, evBs, Bool.not_false, if_true, claimB]
  | str _ => simp only [ir_is_right_claim, List.replicate, Nat.reduceSub, List.append_nil, exSs, exS, evE, evT, evEs, evA, evBs, evO, evOt, evI, bw, rdV, rdB, R.bind_ok, R.bind_exc, R.bind_bad, R.ofO_some, R.ofO_none, R.toO_ok, R.toO_exc, R.toO_bad, O.then_nx, O.then_ret, O.then_exc, O.then_bad, O.fin_nx, O.fin_ret, O.fin_exc, O.fin_bad, Option.map_some, Option.map_none, List.map_cons, List.map_nil, Ar.slot, List.cons_append, List.nil_append, List.length_cons, List.length_nil, List.getElem?_cons_zero, List.getElem?_cons_succ, List.set_cons_zero, List.set_cons_succ, parR, bi_abs, bi_inti, bi_intb, bi_lent, bi_lenl, bi_lens, bi_max, bi_min, bi_tupt, bi_tupl, bi_lstt, bi_lstl, isi_t, isi_l, isi_i, isi_b, isi_n, isi_s, reduceCtorEq, decide_true, decide_false, Bool.or_true, Bool.or_false, Bool.true_or, Bool.false_or, blV, ntV, ngV, intV, op_add, op_sub, cm_lt, cm_le, cm_gt, cm_ge, cm_eqi, cm_nei, tr_bl, evBs, Bool.not_false, if_true, claimB]
  | lst _ => simp only [ir_is_right_claim, List.replicate, Nat.reduceSub, List.append_nil, exSs, exS, evE, evT, evEs, evA, evBs, evO, evOt, evI, bw, rdV, rdB, R.bind_ok, R.bind_exc, R.bind_bad, R.ofO_some, R.ofO_none, R.toO_ok, R.toO_exc, R.toO_bad, O.then_nx, O.then_ret, O.then_exc, O.then_bad, O.fin_nx, O.fin_ret, O.fin_exc, O.fin_bad, Option.map_some, Option.map_none, List.map_cons, List.map_nil, Ar.slot, List.cons_append, List.nil_append, List.length_cons, List.length_nil, List.getElem?_cons_zero, List.getElem?_cons_succ, List.set_cons_zero, List.set_cons_succ, parR, bi_abs, bi_inti, bi_intb, bi_lent, bi_lenl, bi_lens, bi_max, bi_min, bi_tupt, bi_tupl, bi_lstt, bi_lstl, isi_t, isi_l, isi_i, isi_b, isi_n, isi_s, reduceCtorEq, decide_true, decide_false, Bool.or_true, Bool.or_false, Bool.true_or, Bool.false_or, blV, ntV, ngV, intV, op_add, op_sub, cm_lt, cm_le, cm_gt, cm_ge, cm_eqi, cm_nei, tr_bl, evBs, Bool.not_false, if_true, claimB]
  | fn _ => cases n <;> cases hv
  | cell _ => cases n <;> cases hv
  | scr _ => cases n <;> cases hv
end K01
end
section
namespace PL
open PySem
theorem adj_sdd : ∀ ns : List Int, (sdd ns = ns) ↔ ns.Pairwise (· < ·) := fun ns => ⟨fun h => by rw [← h]; exact sdd_pw ns, fun h => pw_uniq (sdd_pw ns) h fun y => sdd_mem y ns⟩
/-- each below the next one -/
def adjB : List Int → Bool
  | a :: b :: l => decide (a < b) && adjB (b :: l)
  | _ => true
theorem adj_pw : ∀ ns : List Int, adjB ns = true ↔ ns.Pairwise (· < ·)
  | [] => by simp [adjB]
  | [a] => by simp [adjB]
  | a :: b :: l => by
    show (decide (a < b) && adjB (b :: l)) = true ↔ _
    rw [Bool.and_eq_true, decide_eq_true_iff, adj_pw (b :: l)]
    constructor
    · rintro ⟨h1, h2⟩
      refine List.pairwise_cons.mpr ⟨fun y hy => ?_, h2⟩
      rcases List.mem_cons.mp hy with e | e
      · subst e; exact h1
      · have := (List.pairwise_cons.mp h2).1 y e
        omega
    · intro h
      obtain ⟨h1, h2⟩ := List.pairwise_cons.mp h
      exact ⟨h1 b List.mem_cons_self, h2⟩
theorem adj_sddB (ns : List Int) : adjB ns = decide (sdd ns = ns) := by
  rw [Bool.eq_iff_iff, adj_pw, decide_eq_true_iff, adj_sdd]
/-- the pairs of neighbours -/
theorem zip_adj (g : Val → Val) (hg : ∀ a b : Int, g (.tup [.int a, .int b]) = .bl (decide (a < b))) : ∀ ns : List Int, ∃ bs : List Bool, (zipL (ns.map .int) ((ns.map Val.int).drop 1)).map g = bs.map .bl ∧ bs.all id = adjB ns
  | [] => ⟨[], rfl, rfl⟩
  | [a] => ⟨[], rfl, rfl⟩
  | a :: b :: l => by
    obtain ⟨bs, e, ha⟩ := zip_adj g hg (b :: l)
    refine ⟨decide (a < b) :: bs, ?_, ?_⟩
    · show (zipL (.int a :: .int b :: l.map .int) (.int b :: l.map .int)).map g = _
      have z : zipL (.int a :: .int b :: l.map .int) (.int b :: l.map .int) = .tup [.int a, .int b] :: zipL (.int b :: l.map .int) (l.map .int) := rfl
      rw [z, List.map_cons, hg]
      have e : (zipL (.int b :: l.map .int) (l.map .int)).map g = bs.map .bl := e
      rw [e]
      rfl
    · show (decide (a < b) && bs.all id) = (decide (a < b) && adjB (b :: l))
      rw [ha]
def ltV (v : Val) : Val := match v with
  | .tup [.int a, .int b] => .bl (decide (a < b))
  | _ => .non
theorem zip_pairs : ∀ (ns : List Int) (v : Val), v ∈ zipL (ns.map .int) ((ns.map Val.int).drop 1) → ∃ a b : Int, v = .tup [.int a, .int b] := fun ns v hv => by
  unfold zipL at hv
  obtain ⟨p, hp, e⟩ := List.mem_map.mp hv
  obtain ⟨h1, h2⟩ := List.of_mem_zip hp
  obtain ⟨a, _, ea⟩ := List.mem_map.mp h1
  obtain ⟨b, _, eb⟩ := List.mem_map.mp (List.mem_of_mem_drop h2)
  exact ⟨a, b, by rw [← e, ← ea, ← eb]⟩
theorem int_of_dat {n : Nat} {v : Val} (h : datB n v = true) : topD v = true := datB_topD h
theorem lean_ff {x y : Val} (h : wholeV x 0 1000000000 = false) : leanB (.tup [x, y]) = false := by
  cases x with
  | int a =>
    cases y with
    | int b =>
      show (wholeV (.int a) 0 1000000000 && _) = false
      rw [h]; rfl
    | _ => rfl
  | _ => rfl
theorem lean_ff2 {x y : Val} (h : wholeV y 1 1000000000 = false) : leanB (.tup [x, y]) = false := by
  cases x with
  | int a =>
    cases y with
    | int b =>
      show (wholeV (.int a) 0 1000000000 && (wholeV (.int b) 1 1000000000 && _)) = false
      rw [h, Bool.false_and, Bool.and_false]
    | _ => rfl
  | _ => rfl
end PL
namespace K01
open PySem PL
theorem b_facts (d : Nat) {q : List Int} {v : Val} {n : Nat} (κ : Ks) (hv : datB n v = true) : (cb tab (d + 4)).cf 5 [.v (picV q), .v v] κ = .ok (.bl (factsB q.length v), κ) := by
  rw [cf_succ _ _ _ _ _ rfl rfl]
  cases v with
  | tup l =>
    by_cases h4 : (4 : Int) < l.length
    · have ff : factsB q.length (.tup l) = false := by
        show (decide ((l.length : Int) ≤ 4) && _) = false
        rw [decide_eq_false (by omega)]; rfl
      rw [ff]
      simp only [ir_are_right_facts, List.replicate, Nat.reduceSub, exSs, exS, evE, evT, evEs, evA, evBs, evO, evOt, evI, bw, rdV, rdB, R.bind_ok, R.bind_exc, R.bind_bad, R.ofO_some, R.ofO_none, R.toO_ok, R.toO_exc, R.toO_bad, O.then_nx, O.then_ret, O.then_exc, O.then_bad, O.fin_nx, O.fin_ret, O.fin_exc, O.fin_bad, Option.map_some, Option.map_none, List.map_cons, List.map_nil, Ar.slot, List.cons_append, List.nil_append, List.length_cons, List.length_nil, List.getElem?_cons_zero, List.getElem?_cons_succ, List.set_cons_zero, List.set_cons_succ, parR, bi_abs, bi_inti, bi_intb, bi_lent, bi_lenl, bi_lens, bi_max, bi_min, bi_tupt, bi_tupl, bi_lstt, bi_lstl, isi_t, isi_l, isi_i, isi_b, isi_n, isi_s, reduceCtorEq, decide_true, decide_false, Bool.or_true, Bool.or_false, Bool.true_or, Bool.false_or, blV, ntV, ngV, intV, op_add, op_sub, cm_lt, cm_le, cm_gt, cm_ge, cm_eqi, cm_nei, tr_bl, evBs, h4, Bool.not_true, decide_true, if_true, if_false, Bool.false_eq_true]
    · have ff : factsB q.length (.tup l) = l.all (claimB q.length) := by
        show (decide ((l.length : Int) ≤ 4) && _) = _
        rw [decide_eq_true (by omega)]; rfl
      rw [ff]
      have p1 : exS (cb tab (d + 3)) (.ite (.or (.not (.val (.isi .tuple (.var 1)))) (.cm .gt (.bi .len (.cons (.var 1) .nil)) (.glob 0 (.int 4)))) (.cons (.ret (.con (.bl false)))
  .nil) .nil) [some (.val (picV q)), some (.val (.tup l)), none] κ = .nx [some (.val (picV q)), some (.val (.tup l)), none] κ := by
        simp only [exSs, exS, evE, evT, evEs, evA, evBs, evO, evOt, evI, bw, rdV, rdB, R.bind_ok, R.bind_exc, R.bind_bad, R.ofO_some, R.ofO_none, R.toO_ok, R.toO_exc, R.toO_bad, O.then_nx, O.then_ret, O.then_exc, O.then_bad, O.fin_nx, O.fin_ret, O.fin_exc, O.fin_bad, Option.map_some, Option.map_none, List.map_cons, List.map_nil, Ar.slot, List.cons_append, List.nil_append, List.length_cons, List.length_nil, List.getElem?_cons_zero, List.getElem?_cons_succ, List.set_cons_zero, List.set_cons_succ, parR, bi_abs, bi_inti, bi_intb, bi_lent, bi_lenl, bi_lens, bi_max, bi_min, bi_tupt, bi_tupl, bi_lstt, bi_lstl, isi_t, isi_l, isi_i, isi_b, isi_n, isi_s, reduceCtorEq, decide_true, decide_false, Bool.or_true, Bool.or_false, Bool.true_or, Bool.false_or, blV, ntV, ngV, intV, op_add, op_sub, cm_lt, cm_le, cm_gt, cm_ge, cm_eqi, cm_nei, tr_bl, evBs, h4, Bool.not_true, decide_true, decide_false, if_true, if_false, Bool.false_eq_true]
      have c1 : evE (cb tab (d + 3)) (.comp (.call 4 (.cons (.var 0) (.cons (.var 2) .nil))) (.nm 2) (.seq (.var 1)) .no [2]) [some (.val (picV q)), some (.val (.tup l)), none] κ = .ok (.lst ((l.map (claimB q.length)).map .bl), κ) := by
        rw [List.map_map]
        refine ev_comp (l := l) (g := fun u => .bl (claimB q.length u)) rfl (Nat.lt_of_le_of_lt (show l.length ≤ 4 by omega) (by decide)) fun u hu => ⟨[some (.val (picV q)), some (.val (.tup l)), some (.val u)], rfl, ?_⟩
        simp only [exSs, exS, evE, evT, evEs, evA, evBs, evO, evOt, evI, bw, rdV, rdB, R.bind_ok, R.bind_exc, R.bind_bad, R.ofO_some, R.ofO_none, R.toO_ok, R.toO_exc, R.toO_bad, O.then_nx, O.then_ret, O.then_exc, O.then_bad, O.fin_nx, O.fin_ret, O.fin_exc, O.fin_bad, Option.map_some, Option.map_none, List.map_cons, List.map_nil, Ar.slot, List.cons_append, List.nil_append, List.length_cons, List.length_nil, List.getElem?_cons_zero, List.getElem?_cons_succ, List.set_cons_zero, List.set_cons_succ, parR, bi_abs, bi_inti, bi_intb, bi_lent, bi_lenl, bi_lens, bi_max, bi_min, bi_tupt, bi_tupl, bi_lstt, bi_lstl, isi_t, isi_l, isi_i, isi_b, isi_n, isi_s, reduceCtorEq, decide_true, decide_false, Bool.or_true, Bool.or_false, Bool.true_or, Bool.false_or, blV, ntV, ngV, intV, op_add, op_sub, cm_lt, cm_le, cm_gt, cm_ge, cm_eqi, cm_nei, tr_bl, b_claim d κ (dat_mem hv u hu)]
      have p2 : exS (cb tab (d + 3)) (.ret (.bi .all (.cons (.comp (.call 4 (.cons (.var 0) (.cons (.var 2) .nil))) (.nm 2) (.seq (.var 1)) .no [2]) .nil))) [some (.val (picV q)), some (.val (.tup l)), none] κ = .ret (.bl (l.all (claimB q.length))) κ := by
        refine ev_retE ?_
        rw [ev_allc c1 (fun _ => rfl), List.all_map]
        rfl
      show (exSs (cb tab (d + 3)) ir_are_right_facts [some (.val (picV q)), some (.val (.tup l)), none] κ).fin = _
      unfold ir_are_right_facts
      rw [ss_nx p1, ss_ret p2]
      rfl
  | non => simp only [ir_are_right_facts, List.replicate, Nat.reduceSub, exSs, exS, evE, evT, evEs, evA, evBs, evO, evOt, evI, bw, rdV, rdB, R.bind_ok, R.bind_exc, R.bind_bad, R.ofO_some, R.ofO_none, R.toO_ok, R.toO_exc, R.toO_bad, O.then_nx, O.then_ret, O.then_exc, O.then_bad, O.fin_nx, O.fin_ret, O.fin_exc, O.fin_bad, Option.map_some, Option.map_none, List.map_cons, List.map_nil, Ar.slot, List.cons_append, List.nil_append, List.length_cons, List.length_nil, List.getElem?_cons_zero, List.getElem?_cons_succ, List.set_cons_zero, List.set_cons_succ, parR, bi_abs, bi_inti, bi_intb, bi_lent, bi_lenl, bi_lens, bi_max, bi_min, bi_tupt, bi_tupl, bi_lstt, bi_lstl, isi_t, isi_l, isi_i, isi_b, isi_n, isi_s, reduceCtorEq, decide_true, decide_false, Bool.or_true, Bool.or_false, Bool.true_or, Bool.false_or, blV, ntV, ngV, intV, op_add, op_sub, cm_lt, cm_le, cm_gt, cm_ge, cm_eqi, cm_nei, tr_bl, evBs, Bool.not_false, if_true, factsB]
  | bl _ => simp only [ir_are_right_facts, List.replicate, Nat.reduceSub, exSs, exS, evE, evT, evEs, evA, evBs, evO, evOt, evI, bw, rdV, rdB, R.bind_ok, R.bind_exc, R.bind_bad, R.ofO_some, R.ofO_none, R.toO_ok, R.toO_exc, R.toO_bad, O.then_nx, O.then_ret, O.then_exc, O.then_bad, O.fin_nx, O.fin_ret, O.fin_exc, O.fin_bad, Option.map_some, Option.map_none, List.map_cons, List.map_nil, Ar.slot, List.cons_append, List.nil_append, List.length_cons, List.length_nil, List.getElem?_cons_zero, List.getElem?_cons_succ, List.set_cons_zero, List.set_cons_succ, parR, bi_abs, bi_inti, bi_intb, bi_lent, bi_lenl, bi_lens, bi_max, bi_min, bi_tupt, bi_tupl, bi_lstt, bi_lstl, isi_t, isi_l, isi_i, isi_b, isi_n, isi_s, reduceCtorEq, decide_true, decide_false, Bool.or_true, Bool.or_false, Bool.true_or, Bool.false_or, blV, ntV, ngV, intV, op_add, op_sub, cm_lt, cm_le, cm_gt, cm_ge, cm_eqi, cm_nei, tr_bl, evBs, Bool.not_false, if_true, factsB]
  | int _ => simp only [ir_are_right_facts, List.replicate, Nat.reduceSub, exSs, exS, evE, evT, evEs, evA, evBs, evO, evOt, evI, bw, rdV, rdB, R.bind_ok, R.bind_exc, R.bind_bad, R.ofO_some, R.ofO_none, R.toO_ok, R.toO_exc, R.toO_bad, O.then_nx, O.then_ret, O.then_exc, O.then_bad, O.fin_nx, O.fin_ret, O.fin_exc, O.fin_bad, Option.map_some, Option.map_none, List.map_cons, List.map_nil, Ar.slot, List.cons_append, List.nil_append, List.length_cons, List.length_nil, List.getElem?_cons_zero, List.getElem?_cons_succ, List.set_cons_zero, List.set_cons_succ, parR, bi_abs, bi_inti, bi_intb, bi_lent, bi_lenl, bi_lens, bi_max, bi_min, bi_tupt, bi_tupl, bi_lstt, bi_lstl, isi_t, isi_l, isi_i, isi_b, isi_n, isi_s, reduceCtorEq, decide_true, decide_false, Bool.or_true, Bool.or_false, Bool.true_or, Bool.false_or, blV, ntV, ngV, intV, op_add, op_sub, cm_lt, cm_le, cm_gt, cm_ge, cm_eqi, cm_nei, tr_bl, evBs, Bool.not_false, if_true, factsB]
  | str _ => simp only [ir_are_right_facts, List.replicate, Nat.reduceSub, exSs, exS, evE, evT, evEs, evA, evBs, evO, evOt, evI, bw, rdV, rdB, R.bind_ok, R.bind_exc, R.bind_bad, R.ofO_some, R.ofO_none, R.toO_ok, R.toO_exc, R.toO_bad, O.then_nx, O.then_ret, O.then_exc, O.then_bad, O.fin_nx, O.fin_ret, O.fin_exc, O.fin_bad, Option.map_some, Option.map_none, List.map_cons, List.map_nil, Ar.slot, List.cons_append, List.nil_append, List.length_cons, List.length_nil, List.getElem?_cons_zero, List.getElem?_cons_succ, List.set_cons_zero, List.set_cons_succ, parR, bi_abs, bi_inti, bi_intb, bi_lent, bi_lenl, bi_lens, bi_max, bi_min, bi_tupt, bi_tupl, bi_lstt, bi_lstl, isi_t, isi_l, isi_i, isi_b, isi_n, isi_s, reduceCtorEq, decide_true, decide_false, Bool.or_true, Bool.or_false, Bool.true_or, Bool.false_or, blV, ntV, ngV, intV, op_add, op_sub, cm_lt, cm_le, cm_gt, cm_ge, cm_eqi, cm_nei, tr_bl, evBs, Bool.not_false, if_true, factsB]
  | lst _ => simp only [ir_are_right_facts, List.replicate, Nat.reduceSub, exSs, exS, evE, evT, evEs, evA, evBs, evO, evOt, evI, bw, rdV, rdB, R.bind_ok, R.bind_exc, R.bind_bad, R.ofO_some, R.ofO_none, R.toO_ok, R.toO_exc, R.toO_bad, O.then_nx, O.then_ret, O.then_exc, O.then_bad, O.fin_nx, O.fin_ret, O.fin_exc, O.fin_bad, Option.map_some, Option.map_none, List.map_cons, List.map_nil, Ar.slot, List.cons_append, List.nil_append, List.length_cons, List.length_nil, List.getElem?_cons_zero, List.getElem?_cons_succ, List.set_cons_zero, List.set_cons_succ, parR, bi_abs, bi_inti, bi_intb, bi_lent, bi_lenl, bi_lens, bi_max, bi_min, bi_tupt, bi_tupl, bi_lstt, bi_lstl, isi_t, isi_l, isi_i, isi_b, isi_n, isi_s, reduceCtorEq, decide_true, decide_false, Bool.or_true, Bool.or_false, Bool.true_or, Bool.false_or, blV, ntV, ngV, intV, op_add, op_sub, cm_lt, cm_le, cm_gt, cm_ge, cm_eqi, cm_nei, tr_bl, evBs, Bool.not_false, if_true, factsB]
  | fn _ => cases n <;> cases hv
  | cell _ => cases n <;> cases hv
  | scr _ => cases n <;> cases hv
theorem b_lean (d : Nat) {v : Val} {n : Nat} (κ : Ks) (hv : datB n v = true) : (cb tab (d + 2)).cf 6 [.v v] κ = .ok (.bl (leanB v), κ) := by
  rw [cf_succ _ _ _ _ _ rfl rfl]
  have w := fun v (h : topD v = true) lo hi => s_wholeV d h lo hi κ
  cases v with
  | tup m =>
    by_cases hm : m.length = 2
    · obtain ⟨x, y, rfl⟩ := len2 hm
      have lm : ((0 + 1 + 1 : Nat) : Int) = 2 := rfl
      have hx := datB_topD (dat_mem hv x (by simp))
      have hy := datB_topD (dat_mem hv y (by simp))
      cases c1 : wholeV x 0 1000000000 with
      | false =>
        rw [lean_ff c1]
        simp only [ir_is_lean, List.replicate, Nat.reduceSub, List.append_nil, exSs, exS, evE, evT, evEs, evA, evBs, evO, evOt, evI, bw, rdV, rdB, R.bind_ok, R.bind_exc, R.bind_bad, R.ofO_some, R.ofO_none, R.toO_ok, R.toO_exc, R.toO_bad, O.then_nx, O.then_ret, O.then_exc, O.then_bad, O.fin_nx, O.fin_ret, O.fin_exc, O.fin_bad, Option.map_some, Option.map_none, List.map_cons, List.map_nil, Ar.slot, List.cons_append, List.nil_append, List.length_cons, List.length_nil, List.getElem?_cons_zero, List.getElem?_cons_succ, List.set_cons_zero, List.set_cons_succ, parR, bi_abs, bi_inti, bi_intb, bi_lent, bi_lenl, bi_lens, bi_max, bi_min, bi_tupt, bi_tupl, bi_lstt, bi_lstl, isi_t, isi_l, isi_i, isi_b, isi_n, isi_s, reduceCtorEq, decide_true, decide_false, Bool.or_true, Bool.or_false, Bool.true_or, Bool.false_or, blV, ntV, ngV, intV, op_add, op_sub, cm_lt, cm_le, cm_gt, cm_ge, cm_eqi, cm_nei, tr_bl, evBs, lm, pow9, ix_t0, w x hx, c1, Bool.not_true, Bool.not_false, decide_true, if_true, if_false, Bool.false_eq_true]
      | true =>
        cases c2 : wholeV y 1 1000000000 with
        | false =>
          rw [lean_ff2 c2]
          simp only [ir_is_lean, List.replicate, Nat.reduceSub, List.append_nil, exSs, exS, evE, evT, evEs, evA, evBs, evO, evOt, evI, bw, rdV, rdB, R.bind_ok, R.bind_exc, R.bind_bad, R.ofO_some, R.ofO_none, R.toO_ok, R.toO_exc, R.toO_bad, O.then_nx, O.then_ret, O.then_exc, O.then_bad, O.fin_nx, O.fin_ret, O.fin_exc, O.fin_bad, Option.map_some, Option.map_none, List.map_cons, List.map_nil, Ar.slot, List.cons_append, List.nil_append, List.length_cons, List.length_nil, List.getElem?_cons_zero, List.getElem?_cons_succ, List.set_cons_zero, List.set_cons_succ, parR, bi_abs, bi_inti, bi_intb, bi_lent, bi_lenl, bi_lens, bi_max, bi_min, bi_tupt, bi_tupl, bi_lstt, bi_lstl, isi_t, isi_l, isi_i, isi_b, isi_n, isi_s, reduceCtorEq, decide_true, decide_false, Bool.or_true, Bool.or_false, Bool.true_or, Bool.false_or, blV, ntV, ngV, intV, op_add, op_sub, cm_lt, cm_le, cm_gt, cm_ge, cm_eqi, cm_nei, tr_bl, evBs, lm, pow9, ix_t0, ix_t1, w x hx, c1, w y hy, c2, Bool.not_true, Bool.not_false, decide_true, if_true, if_false, Bool.false_eq_true]
        | true =>
          obtain ⟨a, rfl, a0, a1⟩ := whole_int c1
          obtain ⟨b, rfl, b0, b1⟩ := whole_int c2
          have lf : leanB (.tup [.int a, .int b]) = decide (gcdI a b = 1) := by
            show (wholeV (.int a) 0 1000000000 && (wholeV (.int b) 1 1000000000 && _)) = _
            rw [c1, c2]; rfl
          have e := s_measure d a b κ (big_of (Nat.lt_of_lt_of_le (show b.natAbs < 2 ^ 40 by omega) (Nat.pow_le_pow_right (by decide) (by decide))))
          rw [lf]
          simp only [ir_is_lean, List.replicate, Nat.reduceSub, List.append_nil, exSs, exS, evE, evT, evEs, evA, evBs, evO, evOt, evI, bw, rdV, rdB, R.bind_ok, R.bind_exc, R.bind_bad, R.ofO_some, R.ofO_none, R.toO_ok, R.toO_exc, R.toO_bad, O.then_nx, O.then_ret, O.then_exc, O.then_bad, O.fin_nx, O.fin_ret, O.fin_exc, O.fin_bad, Option.map_some, Option.map_none, List.map_cons, List.map_nil, Ar.slot, List.cons_append, List.nil_append, List.length_cons, List.length_nil, List.getElem?_cons_zero, List.getElem?_cons_succ, List.set_cons_zero, List.set_cons_succ, parR, bi_abs, bi_inti, bi_intb, bi_lent, bi_lenl, bi_lens, bi_max, bi_min, bi_tupt, bi_tupl, bi_lstt, bi_lstl, isi_t, isi_l, isi_i, isi_b, isi_n, isi_s, reduceCtorEq, decide_true, decide_false, Bool.or_true, Bool.or_false, Bool.true_or, Bool.false_or, blV, ntV, ngV, intV, op_add, op_sub, cm_lt, cm_le, cm_gt, cm_ge, cm_eqi, cm_nei, tr_bl, evBs, lm, pow9, ix_t0, ix_t1, w (.int a) rfl, c1, w (.int b) rfl, c2, e, Bool.not_true, Bool.not_false, decide_true, if_true, if_false, Bool.false_eq_true]
          rfl
    · rw [lean_len hm]
      have lm : ((m.length : Int) = 2) = False := eq_false (by omega)
      simp only [ir_is_lean, List.replicate, Nat.reduceSub, List.append_nil, exSs, exS, evE, evT, evEs, evA, evBs, evO, evOt, evI, bw, rdV, rdB, R.bind_ok, R.bind_exc, R.bind_bad, R.ofO_some, R.ofO_none, R.toO_ok, R.toO_exc, R.toO_bad, O.then_nx, O.then_ret, O.then_exc, O.then_bad, O.fin_nx, O.fin_ret, O.fin_exc, O.fin_bad, Option.map_some, Option.map_none, List.map_cons, List.map_nil, Ar.slot, List.cons_append, List.nil_append, List.length_cons, List.length_nil, List.getElem?_cons_zero, List.getElem?_cons_succ, List.set_cons_zero, List.set_cons_succ, parR, bi_abs, bi_inti, bi_intb, bi_lent, bi_lenl, bi_lens, bi_max, bi_min, bi_tupt, bi_tupl, bi_lstt, bi_lstl, isi_t, isi_l, isi_i, isi_b, isi_n, isi_s, reduceCtorEq, decide_true, decide_false, Bool.or_true, Bool.or_false, Bool.true_or, Bool.false_or, blV, ntV, ngV, intV, op_add, op_sub, cm_lt, cm_le, cm_gt, cm_ge, cm_eqi, cm_nei, tr_bl, evBs, lm, Bool.not_true, Bool.not_false, decide_true, decide_false, if_true, if_false, Bool.false_eq_true]
  | non => simp only [ir_is_lean, List.replicate, Nat.reduceSub, List.append_nil, exSs, exS, evE, evT, evEs, evA, evBs, evO, evOt, evI, bw, rdV, rdB, R.bind_ok, R.bind_exc, R.bind_bad, R.ofO_some, R.ofO_none, R.toO_ok, R.toO_exc, R.toO_bad, O.then_nx, O.then_ret, O.then_exc, O.then_bad, O.fin_nx, O.fin_ret, O.fin_exc, O.fin_bad, Option.map_some, Option.map_none, List.map_cons, List.map_nil, Ar.slot, List.cons_append, List.nil_append, List.length_cons, List.length_nil, List.getElem?_cons_zero, List.getElem?_cons_succ, List.set_cons_zero, List.set_cons_succ, parR, bi_abs, bi_inti, bi_intb, bi_lent, bi_lenl, bi_lens, bi_max, bi_min, bi_tupt, bi_tupl, bi_lstt, bi_lstl, isi_t, isi_l, isi_i, isi_b, isi_n, isi_s, reduceCtorEq, decide_true, decide_false, Bool.or_true, Bool.or_false, Bool.true_or, Bool.false_or, blV, ntV, ngV, intV, op_add, op_sub, cm_lt, cm_le, cm_gt, cm_ge, cm_eqi, cm_nei, tr_bl, evBs, Bool.not_false, if_true, leanB]
  | bl _ => simp only [ir_is_lean, List.replicate, Nat.reduceSub, List.append_nil, exSs, exS, evE, evT, evEs, evA, evBs, evO, evOt, evI, bw, rdV, rdB, R.bind_ok, R.bind_exc, R.bind_bad, R.ofO_some, R.ofO_none, R.toO_ok, R.toO_exc, R.toO_bad, O.then_nx, O.then_ret, O.then_exc, O.then_bad, O.fin_nx, O.fin_ret, O.fin_exc, O.fin_bad, Option.map_some, Option.map_none, List.map_cons, List.map_nil, Ar.slot, List.cons_append, List.nil_append, List.length_cons, List.length_nil, List.getElem?_cons_zero, List.getElem?_cons_succ, List.set_cons_zero, List.set_cons_succ, parR, bi_abs, bi_inti, bi_intb, bi_lent, bi_lenl, bi_lens, bi_max, bi_min, bi_tupt, bi_tupl, bi_lstt, bi_lstl, isi_t, isi_l, isi_i, isi_b, isi_n, isi_s, reduceCtorEq, decide_true, decide_false, Bool.or_true, Bool.or_false, Bool.true_or, Bool.false_or, blV, ntV, ngV, intV, op_add, op_sub, cm_lt, cm_le, cm_gt, cm_ge, cm_eqi, cm_nei, tr_bl, evBs, Bool.not_false, if_true, leanB]
  | int _ => simp only [ir_is_lean, List.replicate, Nat.reduceSub, List.append_nil, exSs, exS, evE, evT, evEs, evA, evBs, evO, evOt, evI, bw, rdV, rdB, R.bind_ok, R.bind_exc, R.bind_bad, R.ofO_some, R.ofO_none, R.toO_ok, R.toO_exc, R.toO_bad, O.then_nx, O.then_ret, O.then_exc, O.then_bad, O.fin_nx, O.fin_ret, O.fin_exc, O.fin_bad, Option.map_some, Option.map_none, List.map_cons, List.map_nil, Ar.slot, List.cons_append, List.nil_append, List.length_cons, List.length_nil, List.getElem?_cons_zero, List.getElem?_cons_succ, List.set_cons_zero, List.set_cons_succ, parR, bi_abs, bi_inti, bi_intb, bi_lent, bi_lenl, bi_lens, bi_max, bi_min, bi_tupt, bi_tupl, bi_lstt, bi_lstl, isi_t, isi_l, isi_i, isi_b, isi_n, isi_s, reduceCtorEq, decide_true, decide_false, Bool.or_true, Bool.or_false, Bool.true_or, Bool.false_or, blV, ntV, ngV, intV, op_add, op_sub, cm_lt, cm_le, cm_gt, cm_ge, cm_eqi, cm_nei, tr_bl, evBs, Bool.not_false, if_true, leanB]
  | str _ => simp only [ir_is_lean, List.replicate, Nat.reduceSub, List.append_nil, exSs, exS, evE, evT, evEs, evA, evBs, evO, evOt, evI, bw, rdV, rdB, R.bind_ok, R.bind_exc, R.bind_bad, R.ofO_some, R.ofO_none, R.toO_ok, R.toO_exc, R.toO_bad, O.then_nx, O.then_ret, O.then_exc, O.then_bad, O.fin_nx, O.fin_ret, O.fin_exc, O.fin_bad, Option.map_some, Option.map_none, List.map_cons, List.map_nil, Ar.slot, List.cons_append, List.nil_append, List.length_cons, List.length_nil, List.getElem?_cons_zero, List.getElem?_cons_succ, List.set_cons_zero, List.set_cons_succ, parR, bi_abs, bi_inti, bi_intb, bi_lent, bi_lenl, bi_lens, bi_max, bi_min, bi_tupt, bi_tupl, bi_lstt, bi_lstl, isi_t, isi_l, isi_i, isi_b, isi_n, isi_s, reduceCtorEq, decide_true, decide_false, Bool.or_true, Bool.or_false, Bool.true_or, Bool.false_or, blV, ntV, ngV, intV, op_add, op_sub, cm_lt, cm_le, cm_gt, cm_ge, cm_eqi, cm_nei, tr_bl, evBs, Bool.not_false, if_true, leanB]
  | lst _ => simp only [ir_is_lean, List.replicate, Nat.reduceSub, List.append_nil, exSs, exS, evE, evT, evEs, evA, evBs, evO, evOt, evI, bw, rdV, rdB, R.bind_ok, R.bind_exc, R.bind_bad, R.ofO_some, R.ofO_none, R.toO_ok, R.toO_exc, R.toO_bad, O.then_nx, O.then_ret, O.then_exc, O.then_bad, O.fin_nx, O.fin_ret, O.fin_exc, O.fin_bad, Option.map_some, Option.map_none, List.map_cons, List.map_nil, Ar.slot, List.cons_append, List.nil_append, List.length_cons, List.length_nil, List.getElem?_cons_zero, List.getElem?_cons_succ, List.set_cons_zero, List.set_cons_succ, parR, bi_abs, bi_inti, bi_intb, bi_lent, bi_lenl, bi_lens, bi_max, bi_min, bi_tupt, bi_tupl, bi_lstt, bi_lstl, isi_t, isi_l, isi_i, isi_b, isi_n, isi_s, reduceCtorEq, decide_true, decide_false, Bool.or_true, Bool.or_false, Bool.true_or, Bool.false_or, blV, ntV, ngV, intV, op_add, op_sub, cm_lt, cm_le, cm_gt, cm_ge, cm_eqi, cm_nei, tr_bl, evBs, Bool.not_false, if_true, leanB]
  | fn _ => cases n <;> cases hv
  | cell _ => cases n <;> cases hv
  | scr _ => cases n <;> cases hv
theorem b_pic (d : Nat) {v : Val} {n : Nat} (κ : Ks) (hv : datB n v = true) : (cb tab (d + 2)).cf 2 [.v v] κ = .ok (.bl (picB v), κ) := by
  rw [cf_succ _ _ _ _ _ rfl rfl]
  have w := fun v (h : topD v = true) lo hi => s_wholeV d h lo hi κ
  cases v with
  | tup l =>
    by_cases h3 : (3 : Int) ≤ l.length
    · by_cases h5 : (l.length : Int) ≤ 5
      · have pf : picB (.tup l) = (l.all (wholeV · 0 60) && (match intsOf l with
            | some ns => decide (ns[0]? = some 0) && decide (sdd ns = ns)
            | none => false)) := by
          show ((decide ((3 : Int) ≤ l.length) && decide ((l.length : Int) ≤ 5)) && _) = _
          rw [decide_eq_true h3, decide_eq_true h5]; rfl
        have hl : l.length < LINE := Nat.lt_of_le_of_lt (show l.length ≤ 5 by omega) (by decide)
        have p1 : exS (cb tab (d + 1)) (.ite (.or (.not (.val (.isi .tuple (.var 0)))) (.not (.chain .le .le (.con (.int (3))) (.bi .len (.cons (.var 0) .nil)) (.con (.int (5)))))) (.cons (.ret (.con (.bl false)))
  .nil) .nil) [some (.val (.tup l)), none, none, none] κ = .nx [some (.val (.tup l)), none, none, none] κ := by
          simp only [exSs, exS, evE, evT, evEs, evA, evBs, evO, evOt, evI, bw, rdV, rdB, R.bind_ok, R.bind_exc, R.bind_bad, R.ofO_some, R.ofO_none, R.toO_ok, R.toO_exc, R.toO_bad, O.then_nx, O.then_ret, O.then_exc, O.then_bad, O.fin_nx, O.fin_ret, O.fin_exc, O.fin_bad, Option.map_some, Option.map_none, List.map_cons, List.map_nil, Ar.slot, List.cons_append, List.nil_append, List.length_cons, List.length_nil, List.getElem?_cons_zero, List.getElem?_cons_succ, List.set_cons_zero, List.set_cons_succ, parR, bi_abs, bi_inti, bi_intb, bi_lent, bi_lenl, bi_lens, bi_max, bi_min, bi_tupt, bi_tupl, bi_lstt, bi_lstl, isi_t, isi_l, isi_i, isi_b, isi_n, isi_s, reduceCtorEq, decide_true, decide_false, Bool.or_true, Bool.or_false, Bool.true_or, Bool.false_or, blV, ntV, ngV, intV, op_add, op_sub, cm_lt, cm_le, cm_gt, cm_ge, cm_eqi, cm_nei, tr_bl, evBs, h3, h5, Bool.not_true, decide_true, if_true, if_false, Bool.false_eq_true]
        have c1 : evE (cb tab (d + 1)) (.comp (.call 1 (.cons (.var 1) (.cons (.con (.int (0))) (.cons (.con (.int (60))) .nil)))) (.nm 1) (.seq (.var 0)) .no [1]) [some (.val (.tup l)), none, none, none] κ = .ok (.lst ((l.map (wholeV · 0 60)).map .bl), κ) := by
          rw [List.map_map]
          refine ev_comp (l := l) (g := fun u => .bl (wholeV u 0 60)) rfl hl fun u hu => ⟨[some (.val (.tup l)), some (.val u), none, none], rfl, ?_⟩
          simp only [exSs, exS, evE, evT, evEs, evA, evBs, evO, evOt, evI, bw, rdV, rdB, R.bind_ok, R.bind_exc, R.bind_bad, R.ofO_some, R.ofO_none, R.toO_ok, R.toO_exc, R.toO_bad, O.then_nx, O.then_ret, O.then_exc, O.then_bad, O.fin_nx, O.fin_ret, O.fin_exc, O.fin_bad, Option.map_some, Option.map_none, List.map_cons, List.map_nil, Ar.slot, List.cons_append, List.nil_append, List.length_cons, List.length_nil, List.getElem?_cons_zero, List.getElem?_cons_succ, List.set_cons_zero, List.set_cons_succ, parR, bi_abs, bi_inti, bi_intb, bi_lent, bi_lenl, bi_lens, bi_max, bi_min, bi_tupt, bi_tupl, bi_lstt, bi_lstl, isi_t, isi_l, isi_i, isi_b, isi_n, isi_s, reduceCtorEq, decide_true, decide_false, Bool.or_true, Bool.or_false, Bool.true_or, Bool.false_or, blV, ntV, ngV, intV, op_add, op_sub, cm_lt, cm_le, cm_gt, cm_ge, cm_eqi, cm_nei, tr_bl, w u (datB_topD (dat_mem hv u hu))]
        have a1 := not_val (ev_allc c1 fun _ => rfl)
        have ea : ((l.map (wholeV · 0 60)).all id) = l.all (wholeV · 0 60) := by rw [List.all_map]; rfl
        rw [ea] at a1
        rw [pf]
        show (exSs (cb tab (d + 1)) ir_is_right_picture [some (.val (.tup l)), none, none, none] κ).fin = _
        cases hw : l.all (wholeV · 0 60) with
        | false =>
          rw [hw] at a1
          have t : evT (cb tab (d + 1)) (.or (.not (.val (.bi .all (.cons (.comp (.call 1 (.cons (.var 1) (.cons (.con (.int (0))) (.cons (.con (.int (60))) .nil)))) (.nm 1) (.seq (.var 0)) .no [1]) .nil)))) (.cm .ne (.ix (.var 0) (.con (.int (0)))) (.con (.int (0))))) [some (.val (.tup l)), none, none, none] κ = .ok (true, κ) := by
            rw [evT, a1]
            rfl
          unfold ir_is_right_picture
          rw [ss_nx p1]
          have p2 := (ite_yes (a := .cons (.ret (.con (.bl false))) .nil) (b := .nil) t)
          refine (congrArg O.fin (ss_ret (v := .bl false) (κ' := κ) (p2.trans rfl))).trans rfl
        | true =>
          rw [hw] at a1
          obtain ⟨ns, rfl, hi, hb⟩ := wholes_ints hw
          rw [hi]
          rw [List.length_map] at h3 h5
          obtain ⟨m, ms, rfl⟩ : ∃ m ms, ns = m :: ms := by
            cases ns with
            | nil => simp at h3
            | cons m ms => exact ⟨m, ms, rfl⟩
          have i0 : ixV κ (.tup ((m :: ms).map .int)) (.int 0) = some (.int m) := ix_t0 (κ := κ) _ _
          have e0 : decide ((m :: ms)[0]? = some 0) = decide (m = 0) := by simp
          show _ = R.ok (Val.bl (true && (decide ((m :: ms)[0]? = some 0) && decide (sdd (m :: ms) = m :: ms))), κ)
          rw [e0, Bool.true_and]
          by_cases hm : m = 0
          · have t : evT (cb tab (d + 1)) (.or (.not (.val (.bi .all (.cons (.comp (.call 1 (.cons (.var 1) (.cons (.con (.int (0))) (.cons (.con (.int (60))) .nil)))) (.nm 1) (.seq (.var 0)) .no [1]) .nil)))) (.cm .ne (.ix (.var 0) (.con (.int (0)))) (.con (.int (0))))) [some (.val (.tup ((m :: ms).map .int))), none, none, none] κ = .ok (false, κ) := by
              rw [evT, a1]
              have t2 : evT (cb tab (d + 1)) (.cm .ne (.ix (.var 0) (.con (.int (0)))) (.con (.int (0)))) [some (.val (.tup ((m :: ms).map .int))), none, none, none] κ = .ok (!decide (m = 0), κ) := by
                generalize (m :: ms).map Val.int = L at *
                simp only [exSs, exS, evE, evT, evEs, evA, evBs, evO, evOt, evI, bw, rdV, rdB, R.bind_ok, R.bind_exc, R.bind_bad, R.ofO_some, R.ofO_none, R.toO_ok, R.toO_exc, R.toO_bad, O.then_nx, O.then_ret, O.then_exc, O.then_bad, O.fin_nx, O.fin_ret, O.fin_exc, O.fin_bad, Option.map_some, Option.map_none, List.map_cons, List.map_nil, Ar.slot, List.cons_append, List.nil_append, List.length_cons, List.length_nil, List.getElem?_cons_zero, List.getElem?_cons_succ, List.set_cons_zero, List.set_cons_succ, parR, bi_abs, bi_inti, bi_intb, bi_lent, bi_lenl, bi_lens, bi_max, bi_min, bi_tupt, bi_tupl, bi_lstt, bi_lstl, isi_t, isi_l, isi_i, isi_b, isi_n, isi_s, reduceCtorEq, decide_true, decide_false, Bool.or_true, Bool.or_false, Bool.true_or, Bool.false_or, blV, ntV, ngV, intV, op_add, op_sub, cm_lt, cm_le, cm_gt, cm_ge, cm_eqi, cm_nei, tr_bl, i0]
              show R.bind (R.ok (!true, κ)) _ = _
              rw [decide_eq_true hm] at t2
              simp only [R.bind_ok, Bool.not_true, Bool.false_eq_true, if_false, t2]
            have p2 := (ite_no (a := .cons (.ret (.con (.bl false))) .nil) (b := .nil) t)
            have sl : slV (.tup ((m :: ms).map .int)) (some 1) none = some (.tup (((m :: ms).map Val.int).drop 1)) := sl_from (i := 1) (by simp)
            obtain ⟨bs, eb, hbs⟩ := zip_adj ltV (fun _ _ => rfl) (m :: ms)
            have c2 : evE (cb tab (d + 1)) (.comp (.cm .lt (.var 2) (.var 3)) (.tp (.cons (.nm 2) (.cons (.nm 3) .nil))) (.zip (.var 0) (.sl (.var 0) (.yes (.con (.int (1)))) .no)) .no [2, 3]) [some (.val (.tup ((m :: ms).map .int))), none, none, none] κ = .ok (.lst (bs.map .bl), κ) := by
              rw [← eb]
              refine ev_comp (l := zipL ((m :: ms).map .int) (((m :: ms).map Val.int).drop 1)) ?_ ?_ fun u hu => ?_
              · have z : ∀ A : List Val, zipV (.tup A) (.tup (A.drop 1)) = some (zipL A (A.drop 1)) := fun _ => rfl
                have z := z ((m :: ms).map Val.int)
                generalize (m :: ms).map Val.int = L at *
                simp only [exSs, exS, evE, evT, evEs, evA, evBs, evO, evOt, evI, bw, rdV, rdB, R.bind_ok, R.bind_exc, R.bind_bad, R.ofO_some, R.ofO_none, R.toO_ok, R.toO_exc, R.toO_bad, O.then_nx, O.then_ret, O.then_exc, O.then_bad, O.fin_nx, O.fin_ret, O.fin_exc, O.fin_bad, Option.map_some, Option.map_none, List.map_cons, List.map_nil, Ar.slot, List.cons_append, List.nil_append, List.length_cons, List.length_nil, List.getElem?_cons_zero, List.getElem?_cons_succ, List.set_cons_zero, List.set_cons_succ, parR, bi_abs, bi_inti, bi_intb, bi_lent, bi_lenl, bi_lens, bi_max, bi_min, bi_tupt, bi_tupl, bi_lstt, bi_lstl, isi_t, isi_l, isi_i, isi_b, isi_n, isi_s, reduceCtorEq, decide_true, decide_false, Bool.or_true, Bool.or_false, Bool.true_or, Bool.false_or, blV, ntV, ngV, intV, op_add, op_sub, cm_lt, cm_le, cm_gt, cm_ge, cm_eqi, cm_nei, tr_bl, sl, z]
              · unfold zipL
                rw [List.length_map, List.length_zip]
                exact Nat.lt_of_le_of_lt (Nat.min_le_left _ _) hl
              · obtain ⟨x, y, rfl⟩ := zip_pairs _ u hu
                refine ⟨[some (.val (.tup ((m :: ms).map .int))), none, some (.val (.int x)), some (.val (.int y))], rfl, ?_⟩
                simp only [exSs, exS, evE, evT, evEs, evA, evBs, evO, evOt, evI, bw, rdV, rdB, R.bind_ok, R.bind_exc, R.bind_bad, R.ofO_some, R.ofO_none, R.toO_ok, R.toO_exc, R.toO_bad, O.then_nx, O.then_ret, O.then_exc, O.then_bad, O.fin_nx, O.fin_ret, O.fin_exc, O.fin_bad, Option.map_some, Option.map_none, List.map_cons, List.map_nil, Ar.slot, List.cons_append, List.nil_append, List.length_cons, List.length_nil, List.getElem?_cons_zero, List.getElem?_cons_succ, List.set_cons_zero, List.set_cons_succ, parR, bi_abs, bi_inti, bi_intb, bi_lent, bi_lenl, bi_lens, bi_max, bi_min, bi_tupt, bi_tupl, bi_lstt, bi_lstl, isi_t, isi_l, isi_i, isi_b, isi_n, isi_s, reduceCtorEq, decide_true, decide_false, Bool.or_true, Bool.or_false, Bool.true_or, Bool.false_or, blV, ntV, ngV, intV, op_add, op_sub, cm_lt, cm_le, cm_gt, cm_ge, cm_eqi, cm_nei, tr_bl]
                rfl
            have p3 : exS (cb tab (d + 1)) (.ret (.bi .all (.cons (.comp (.cm .lt (.var 2) (.var 3)) (.tp (.cons (.nm 2) (.cons (.nm 3) .nil))) (.zip (.var 0) (.sl (.var 0) (.yes (.con (.int (1)))) .no)) .no [2, 3]) .nil))) [some (.val (.tup ((m :: ms).map .int))), none, none, none] κ = .ret (.bl (adjB (m :: ms))) κ := by
              refine ev_retE ?_
              rw [ev_allc c2 (fun _ => rfl), hbs]
            unfold ir_is_right_picture
            rw [ss_nx p1, ss_nx (p2.trans rfl), ss_ret p3, adj_sddB, decide_eq_true hm, Bool.true_and]
            rfl
          · have t : evT (cb tab (d + 1)) (.or (.not (.val (.bi .all (.cons (.comp (.call 1 (.cons (.var 1) (.cons (.con (.int (0))) (.cons (.con (.int (60))) .nil)))) (.nm 1) (.seq (.var 0)) .no [1]) .nil)))) (.cm .ne (.ix (.var 0) (.con (.int (0)))) (.con (.int (0))))) [some (.val (.tup ((m :: ms).map .int))), none, none, none] κ = .ok (true, κ) := by
              rw [evT, a1]
              have t2 : evT (cb tab (d + 1)) (.cm .ne (.ix (.var 0) (.con (.int (0)))) (.con (.int (0)))) [some (.val (.tup ((m :: ms).map .int))), none, none, none] κ = .ok (!decide (m = 0), κ) := by
                generalize (m :: ms).map Val.int = L at *
                simp only [exSs, exS, evE, evT, evEs, evA, evBs, evO, evOt, evI, bw, rdV, rdB, R.bind_ok, R.bind_exc, R.bind_bad, R.ofO_some, R.ofO_none, R.toO_ok, R.toO_exc, R.toO_bad, O.then_nx, O.then_ret, O.then_exc, O.then_bad, O.fin_nx, O.fin_ret, O.fin_exc, O.fin_bad, Option.map_some, Option.map_none, List.map_cons, List.map_nil, Ar.slot, List.cons_append, List.nil_append, List.length_cons, List.length_nil, List.getElem?_cons_zero, List.getElem?_cons_succ, List.set_cons_zero, List.set_cons_succ, parR, bi_abs, bi_inti, bi_intb, bi_lent, bi_lenl, bi_lens, bi_max, bi_min, bi_tupt, bi_tupl, bi_lstt, bi_lstl, isi_t, isi_l, isi_i, isi_b, isi_n, isi_s, reduceCtorEq, decide_true, decide_false, Bool.or_true, Bool.or_false, Bool.true_or, Bool.false_or, blV, ntV, ngV, intV, op_add, op_sub, cm_lt, cm_le, cm_gt, cm_ge, cm_eqi, cm_nei, tr_bl, i0]
              show R.bind (R.ok (!true, κ)) _ = _
              rw [decide_eq_false hm] at t2
              simp only [R.bind_ok, Bool.not_true, Bool.false_eq_true, if_false, t2, Bool.not_false]
            have p2 := (ite_yes (a := .cons (.ret (.con (.bl false))) .nil) (b := .nil) t)
            unfold ir_is_right_picture
            rw [ss_nx p1, decide_eq_false hm, Bool.false_and]
            exact (congrArg O.fin (ss_ret (v := .bl false) (κ' := κ) (p2.trans rfl))).trans rfl
      · have pf : picB (.tup l) = false := by
          show ((decide ((3 : Int) ≤ l.length) && decide ((l.length : Int) ≤ 5)) && _) = _
          rw [decide_eq_false h5, Bool.and_false]; rfl
        rw [pf]
        simp only [ir_is_right_picture, List.replicate, Nat.reduceSub, exSs, exS, evE, evT, evEs, evA, evBs, evO, evOt, evI, bw, rdV, rdB, R.bind_ok, R.bind_exc, R.bind_bad, R.ofO_some, R.ofO_none, R.toO_ok, R.toO_exc, R.toO_bad, O.then_nx, O.then_ret, O.then_exc, O.then_bad, O.fin_nx, O.fin_ret, O.fin_exc, O.fin_bad, Option.map_some, Option.map_none, List.map_cons, List.map_nil, Ar.slot, List.cons_append, List.nil_append, List.length_cons, List.length_nil, List.getElem?_cons_zero, List.getElem?_cons_succ, List.set_cons_zero, List.set_cons_succ, parR, bi_abs, bi_inti, bi_intb, bi_lent, bi_lenl, bi_lens, bi_max, bi_min, bi_tupt, bi_tupl, bi_lstt, bi_lstl, isi_t, isi_l, isi_i, isi_b, isi_n, isi_s, reduceCtorEq, decide_true, decide_false, Bool.or_true, Bool.or_false, Bool.true_or, Bool.false_or, blV, ntV, ngV, intV, op_add, op_sub, cm_lt, cm_le, cm_gt, cm_ge, cm_eqi, cm_nei, tr_bl, evBs, h3, h5, Bool.not_true, Bool.not_false, decide_true, decide_false, if_true, if_false, Bool.false_eq_true]
    · have pf : picB (.tup l) = false := by
        show ((decide ((3 : Int) ≤ l.length) && decide ((l.length : Int) ≤ 5)) && _) = _
        rw [decide_eq_false h3]; rfl
      rw [pf]
      simp only [ir_is_right_picture, List.replicate, Nat.reduceSub, exSs, exS, evE, evT, evEs, evA, evBs, evO, evOt, evI, bw, rdV, rdB, R.bind_ok, R.bind_exc, R.bind_bad, R.ofO_some, R.ofO_none, R.toO_ok, R.toO_exc, R.toO_bad, O.then_nx, O.then_ret, O.then_exc, O.then_bad, O.fin_nx, O.fin_ret, O.fin_exc, O.fin_bad, Option.map_some, Option.map_none, List.map_cons, List.map_nil, Ar.slot, List.cons_append, List.nil_append, List.length_cons, List.length_nil, List.getElem?_cons_zero, List.getElem?_cons_succ, List.set_cons_zero, List.set_cons_succ, parR, bi_abs, bi_inti, bi_intb, bi_lent, bi_lenl, bi_lens, bi_max, bi_min, bi_tupt, bi_tupl, bi_lstt, bi_lstl, isi_t, isi_l, isi_i, isi_b, isi_n, isi_s, reduceCtorEq, decide_true, decide_false, Bool.or_true, Bool.or_false, Bool.true_or, Bool.false_or, blV, ntV, ngV, intV, op_add, op_sub, cm_lt, cm_le, cm_gt, cm_ge, cm_eqi, cm_nei, tr_bl, evBs, h3, Bool.not_true, Bool.not_false, decide_true, decide_false, if_true, if_false, Bool.false_eq_true]
  | non => simp only [ir_is_right_picture, List.replicate, Nat.reduceSub, exSs, exS, evE, evT, evEs, evA, evBs, evO, evOt, evI, bw, rdV, rdB, R.bind_ok, R.bind_exc, R.bind_bad, R.ofO_some, R.ofO_none, R.toO_ok, R.toO_exc, R.toO_bad, O.then_nx, O.then_ret, O.then_exc, O.then_bad, O.fin_nx, O.fin_ret, O.fin_exc, O.fin_bad, Option.map_some, Option.map_none, List.map_cons, List.map_nil, Ar.slot, List.cons_append, List.nil_append, List.length_cons, List.length_nil, List.getElem?_cons_zero, List.getElem?_cons_succ, List.set_cons_zero, List.set_cons_succ, parR, bi_abs, bi_inti, bi_intb, bi_lent, bi_lenl, bi_lens, bi_max, bi_min, bi_tupt, bi_tupl, bi_lstt, bi_lstl, isi_t, isi_l, isi_i, isi_b, isi_n, isi_s, reduceCtorEq, decide_true, decide_false, Bool.or_true, Bool.or_false, Bool.true_or, Bool.false_or, blV, ntV, ngV, intV, op_add, op_sub, cm_lt, cm_le, cm_gt, cm_ge, cm_eqi, cm_nei, tr_bl, evBs, Bool.not_false, if_true, picB]
  | bl _ => simp only [ir_is_right_picture, List.replicate, Nat.reduceSub, exSs, exS, evE, evT, evEs, evA, evBs, evO, evOt, evI, bw, rdV, rdB, R.bind_ok, R.bind_exc, R.bind_bad, R.ofO_some, R.ofO_none, R.toO_ok, R.toO_exc, R.toO_bad, O.then_nx, O.then_ret, O.then_exc, O.then_bad, O.fin_nx, O.fin_ret, O.fin_exc, O.fin_bad, Option.map_some, Option.map_none, List.map_cons, List.map_nil, Ar.slot, List.cons_append, List.nil_append, List.length_cons, List.length_nil, List.getElem?_cons_zero, List.getElem?_cons_succ, List.set_cons_zero, List.set_cons_succ, parR, bi_abs, bi_inti, bi_intb, bi_lent, bi_lenl, bi_lens, bi_max, bi_min, bi_tupt, bi_tupl, bi_lstt, bi_lstl, isi_t, isi_l, isi_i, isi_b, isi_n, isi_s, reduceCtorEq, decide_true, decide_false, Bool.or_true, Bool.or_false, Bool.true_or, Bool.false_or, blV, ntV, ngV, intV, op_add, op_sub, cm_lt, cm_le, cm_gt, cm_ge, cm_eqi, cm_nei, tr_bl, evBs, Bool.not_false, if_true, picB]
  | int _ => simp only [ir_is_right_picture, List.replicate, Nat.reduceSub, exSs, exS, evE, evT, evEs, evA, evBs, evO, evOt, evI, bw, rdV, rdB, R.bind_ok, R.bind_exc, R.bind_bad, R.ofO_some, R.ofO_none, R.toO_ok, R.toO_exc, R.toO_bad, O.then_nx, O.then_ret, O.then_exc, O.then_bad, O.fin_nx, O.fin_ret, O.fin_exc, O.fin_bad, Option.map_some, Option.map_none, List.map_cons, List.map_nil, Ar.slot, List.cons_append, List.nil_append, List.length_cons, List.length_nil, List.getElem?_cons_zero, List.getElem?_cons_succ, List.set_cons_zero, List.set_cons_succ, parR, bi_abs, bi_inti, bi_intb, bi_lent, bi_lenl, bi_lens, bi_max, bi_min, bi_tupt, bi_tupl, bi_lstt, bi_lstl, isi_t, isi_l, isi_i, isi_b, isi_n, isi_s, reduceCtorEq, decide_true, decide_false, Bool.or_true, Bool.or_false, Bool.true_or, Bool.false_or, blV, ntV, ngV, intV, op_add, op_sub, cm_lt, cm_le, cm_gt, cm_ge, cm_eqi, cm_nei, tr_bl, evBs, Bool.not_false, if_true, picB]
  | str _ => simp only [ir_is_right_picture, List.replicate, Nat.reduceSub, exSs, exS, evE, evT, evEs, evA, evBs, evO, evOt, evI, bw, rdV, rdB, R.bind_ok, R.bind_exc, R.bind_bad, R.ofO_some, R.ofO_none, R.toO_ok, R.toO_exc, R.toO_bad, O.then_nx, O.then_ret, O.then_exc, O.then_bad, O.fin_nx, O.fin_ret, O.fin_exc, O.fin_bad, Option.map_some, Option.map_none, List.map_cons, List.map_nil, Ar.slot, List.cons_append, List.nil_append, List.length_cons, List.length_nil, List.getElem?_cons_zero, List.getElem?_cons_succ, List.set_cons_zero, List.set_cons_succ, parR, bi_abs, bi_inti, bi_intb, bi_lent, bi_lenl, bi_lens, bi_max, bi_min, bi_tupt, bi_tupl, bi_lstt, bi_lstl, isi_t, isi_l, isi_i, isi_b, isi_n, isi_s, reduceCtorEq, decide_true, decide_false, Bool.or_true, Bool.or_false, Bool.true_or, Bool.false_or, blV, ntV, ngV, intV, op_add, op_sub, cm_lt, cm_le, cm_gt, cm_ge, cm_eqi, cm_nei, tr_bl, evBs, Bool.not_false, if_true, picB]
  | lst _ => simp only [ir_is_right_picture, List.replicate, Nat.reduceSub, exSs, exS, evE, evT, evEs, evA, evBs, evO, evOt, evI, bw, rdV, rdB, R.bind_ok, R.bind_exc, R.bind_bad, R.ofO_some, R.ofO_none, R.toO_ok, R.toO_exc, R.toO_bad, O.then_nx, O.then_ret, O.then_exc, O.then_bad, O.fin_nx, O.fin_ret, O.fin_exc, O.fin_bad, Option.map_some, Option.map_none, List.map_cons, List.map_nil, Ar.slot, List.cons_append, List.nil_append, List.length_cons, List.length_nil, List.getElem?_cons_zero, List.getElem?_cons_succ, List.set_cons_zero, List.set_cons_succ, parR, bi_abs, bi_inti, bi_intb, bi_lent, bi_lenl, bi_lens, bi_max, bi_min, bi_tupt, bi_tupl, bi_lstt, bi_lstl, isi_t, isi_l, isi_i, isi_b, isi_n, isi_s, reduceCtorEq, decide_true, decide_false, Bool.or_true, Bool.or_false, Bool.true_or, Bool.false_or, blV, ntV, ngV, intV, op_add, op_sub, cm_lt, cm_le, cm_gt, cm_ge, cm_eqi, cm_nei, tr_bl, evBs, Bool.not_false, if_true, picB]
  | fn _ => cases n <;> cases hv
  | cell _ => cases n <;> cases hv
  | scr _ => cases n <;> cases hv
end K01
end
section
namespace PL
open PySem
theorem map_int_inj : ∀ {p q : List Int}, p.map Val.int = q.map Val.int → p = q
  | [], [], _ => rfl
  | [], _ :: _, h => by cases h
  | _ :: _, [], h => by cases h
  | a :: p, b :: q, h => by
    rw [List.map_cons, List.map_cons, List.cons.injEq] at h
    cases h.1
    rw [map_int_inj h.2]
theorem ints_dat (n : Nat) (ns : List Int) : datBs n (ns.map .int) = true := datBs_of fun v hv => by
  obtain ⟨m, _, rfl⟩ := List.mem_map.mp hv
  cases n <;> rfl
theorem ints_noB (ns : List Int) : noBs (ns.map .int) = true := noBs_of fun v hv => by
  obtain ⟨m, _, rfl⟩ := List.mem_map.mp hv
  rfl
theorem eq_ints (p q : List Int) : cmV .eq (.lst (p.map .int)) (.lst (q.map .int)) = some (decide (p = q)) := by
  rw [cm_eqT (v := .lst (p.map .int)) (w := .lst (q.map .int)) (ints_dat 63 p) (ints_dat 63 q)]
  congr 1
  rw [Bool.eq_iff_iff, eqT_iff (.lst (p.map .int)) (.lst (q.map .int)) (ints_noB p) (ints_noB q), decide_eq_true_iff, Val.lst.injEq]
  exact ⟨map_int_inj, fun h => by rw [h]⟩
theorem ones_dat {α : Type} (n : Nat) (l : List α) : datBs n (l.map fun _ => Val.int 1) = true := datBs_of fun v hv => by
  obtain ⟨m, _, rfl⟩ := List.mem_map.mp hv
  cases n <;> rfl
theorem isE_map {α β : Type} (l : List α) (f : α → β) : (l.map f).isEmpty = l.isEmpty := by cases l <;> rfl
theorem notin123 (n : Nat) : cmV .notin (.int n) (.lst [.int 1, .int 2, .int 3]) = some (!(decide ((1 : Int) ≤ n) && decide ((n : Int) ≤ 3))) := by
  rw [notin_l rfl rfl]
  congr 2
  show ((1 : Int) == n || ((2 : Int) == n || ((3 : Int) == n || false))) = _
  rw [Bool.eq_iff_iff]
  simp
  omega
theorem part_le {n : Int} (hn : n ≤ 5) {x y z : Val} (h : partB n (.tup [x, y, z]) = true) : [x, y, z].all (wholeV · 0 9) = true := by
  cases y with
  | int b =>
    have h : (wholeV x 1 9 && (wholeV (.int b) 0 (n - 2) && wholeV z (b + 1) (n - 1))) = true := h
    obtain ⟨h1, h2⟩ := Bool.and_eq_true_iff.mp h
    obtain ⟨a, rfl, a0, a1⟩ := whole_int h1
    obtain ⟨h3, h4⟩ := Bool.and_eq_true_iff.mp h2
    obtain ⟨b', e, b0, b1⟩ := whole_int h3
    cases e
    obtain ⟨c, rfl, c0, c1⟩ := whole_int h4
    show (wholeV (.int a) 0 9 && (wholeV (.int b) 0 9 && (wholeV (.int c) 0 9 && true))) = true
    simp only [wholeV, Bool.and_eq_true, decide_eq_true_eq, and_true]
    omega
  | _ =>
    have h : (wholeV x 1 9 && false) = true := h
    rw [Bool.and_false] at h
    cases h
theorem part_ints (n a b c : Int) : partB n (.tup [.int a, .int b, .int c]) = (decide (1 ≤ a) && decide (a ≤ 9) && (decide (0 ≤ b) && decide (b ≤ n - 2) && (decide (b + 1 ≤ c) && decide (c ≤ n - 1)))) := rfl
end PL
namespace K01
open PySem PL
theorem l_wholeV (d : Nat) {v : Val} (h : topD v = true) (lo hi : Int) (κ : Ks) : (cb tab (d + 1)).cf 22 [.v v, .v (.int lo), .v (.int hi)] κ = .ok (.bl (wholeV v lo hi), κ) := by
  cases v with
  | int n =>
    rw [cf_succ _ _ _ _ _ rfl rfl]
    simp only [ir__law_whole, exSs, exS, evE, evT, evEs, evA, evBs, evO, evOt, evI, bw, rdV, rdB, R.bind_ok, R.bind_exc, R.bind_bad, R.ofO_some, R.ofO_none, R.toO_ok, R.toO_exc, R.toO_bad, O.then_nx, O.then_ret, O.then_exc, O.then_bad, O.fin_nx, O.fin_ret, O.fin_exc, O.fin_bad, Option.map_some, Option.map_none, List.map_cons, List.map_nil, Ar.slot, List.cons_append, List.nil_append, List.length_cons, List.length_nil, List.getElem?_cons_zero, List.getElem?_cons_succ, List.set_cons_zero, List.set_cons_succ, parR, biV, isiV, blV, ntV, ngV, intV, op_add, op_sub, cm_lt, cm_le, cm_gt, cm_ge, cm_eqi, cm_nei, tr_bl]
    cases h : decide (lo ≤ n) <;> simp [h, wholeV]
  | non => rfl
  | bl b => rfl
  | str x => rfl
  | tup l => rfl
  | lst l => rfl
  | fn _ => cases h
  | cell _ => cases h
  | scr _ => cases h
theorem l_pic (d : Nat) {v : Val} {n : Nat} (κ : Ks) (hv : datB n v = true) : (cb tab (d + 2)).cf 23 [.v v] κ = .ok (.bl (picB v), κ) := by
  rw [cf_succ _ _ _ _ _ rfl rfl]
  have w := fun v (h : topD v = true) lo hi => l_wholeV d h lo hi κ
  cases v with
  | tup l =>
    by_cases h3 : (3 : Int) ≤ l.length
    · by_cases h5 : (l.length : Int) ≤ 5
      · have pf : picB (.tup l) = (l.all (wholeV · 0 60) && (match intsOf l with
            | some ns => decide (ns[0]? = some 0) && decide (sdd ns = ns)
            | none => false)) := by
          show ((decide ((3 : Int) ≤ l.length) && decide ((l.length : Int) ≤ 5)) && _) = _
          rw [decide_eq_true h3, decide_eq_true h5]; rfl
        have hl : l.length < LINE := Nat.lt_of_le_of_lt (show l.length ≤ 5 by omega) (by decide)
        have p1 : exS (cb tab (d + 1)) (.ite (.or (.not (.val (.isi .tuple (.var 0)))) (.not (.chain .le .le (.con (.int (3))) (.bi .len (.cons (.var 0) .nil)) (.con (.int (5)))))) (.cons (.ret (.con (.bl false)))
  .nil) .nil) [some (.val (.tup l)), none] κ = .nx [some (.val (.tup l)), none] κ := by
          simp only [exSs, exS, evE, evT, evEs, evA, evBs, evO, evOt, evI, bw, rdV, rdB, R.bind_ok, R.bind_exc, R.bind_bad, R.ofO_some, R.ofO_none, R.toO_ok, R.toO_exc, R.toO_bad, O.then_nx, O.then_ret, O.then_exc, O.then_bad, O.fin_nx, O.fin_ret, O.fin_exc, O.fin_bad, Option.map_some, Option.map_none, List.map_cons, List.map_nil, Ar.slot, List.cons_append, List.nil_append, List.length_cons, List.length_nil, List.getElem?_cons_zero, List.getElem?_cons_succ, List.set_cons_zero, List.set_cons_succ, parR, bi_abs, bi_inti, bi_intb, bi_lent, bi_lenl, bi_lens, bi_max, bi_min, bi_tupt, bi_tupl, bi_lstt, bi_lstl, isi_t, isi_l, isi_i, isi_b, isi_n, isi_s, reduceCtorEq, decide_true, decide_false, Bool.or_true, Bool.or_false, Bool.true_or, Bool.false_or, blV, ntV, ngV, intV, op_add, op_sub, cm_lt, cm_le, cm_gt, cm_ge, cm_eqi, cm_nei, tr_bl, evBs, h3, h5, Bool.not_true, decide_true, if_true, if_false, Bool.false_eq_true]
        have c1 : evE (cb tab (d + 1)) (.comp (.con (.int (1))) (.nm 1) (.seq (.var 0)) (.yes (.not (.val (.call 22 (.cons (.var 1) (.cons (.con (.int (0))) (.cons (.con (.int (60))) .nil))))))) [1]) [some (.val (.tup l)), none] κ = .ok (.lst ((l.filter fun u => !wholeV u 0 60).map fun _ => .int 1), κ) := by
          refine ev_compP (l := l) (g := fun _ => .int 1) (P := fun u => !wholeV u 0 60) rfl hl fun u hu => ⟨[some (.val (.tup l)), some (.val u)], rfl, ?_, fun _ => rfl⟩
          simp only [exSs, exS, evE, evT, evEs, evA, evBs, evO, evOt, evI, bw, rdV, rdB, R.bind_ok, R.bind_exc, R.bind_bad, R.ofO_some, R.ofO_none, R.toO_ok, R.toO_exc, R.toO_bad, O.then_nx, O.then_ret, O.then_exc, O.then_bad, O.fin_nx, O.fin_ret, O.fin_exc, O.fin_bad, Option.map_some, Option.map_none, List.map_cons, List.map_nil, Ar.slot, List.cons_append, List.nil_append, List.length_cons, List.length_nil, List.getElem?_cons_zero, List.getElem?_cons_succ, List.set_cons_zero, List.set_cons_succ, parR, bi_abs, bi_inti, bi_intb, bi_lent, bi_lenl, bi_lens, bi_max, bi_min, bi_tupt, bi_tupl, bi_lstt, bi_lstl, isi_t, isi_l, isi_i, isi_b, isi_n, isi_s, reduceCtorEq, decide_true, decide_false, Bool.or_true, Bool.or_false, Bool.true_or, Bool.false_or, blV, ntV, ngV, intV, op_add, op_sub, cm_lt, cm_le, cm_gt, cm_ge, cm_eqi, cm_nei, tr_bl, w u (datB_topD (dat_mem hv u hu))]
        have ne : cmV .ne (.lst ((l.filter fun u => !wholeV u 0 60).map fun _ => .int 1)) (.lst []) = some (!l.all (wholeV · 0 60)) := by
          rw [cm_ne_nil (ones_dat 63 _), isE_map, filt_nil]
        have t1 : evT (cb tab (d + 1)) (.cm .ne (.comp (.con (.int (1))) (.nm 1) (.seq (.var 0)) (.yes (.not (.val (.call 22 (.cons (.var 1) (.cons (.con (.int (0))) (.cons (.con (.int (60))) .nil))))))) [1]) (.lst .nil)) [some (.val (.tup l)), none] κ = .ok (!l.all (wholeV · 0 60), κ) := by
          show (R.bind (evE (cb tab (d + 1)) (.comp _ _ _ _ _) _ κ) _) = _
          rw [c1]
          simp only [exSs, exS, evE, evT, evEs, evA, evBs, evO, evOt, evI, bw, rdV, rdB, R.bind_ok, R.bind_exc, R.bind_bad, R.ofO_some, R.ofO_none, R.toO_ok, R.toO_exc, R.toO_bad, O.then_nx, O.then_ret, O.then_exc, O.then_bad, O.fin_nx, O.fin_ret, O.fin_exc, O.fin_bad, Option.map_some, Option.map_none, List.map_cons, List.map_nil, Ar.slot, List.cons_append, List.nil_append, List.length_cons, List.length_nil, List.getElem?_cons_zero, List.getElem?_cons_succ, List.set_cons_zero, List.set_cons_succ, parR, bi_abs, bi_inti, bi_intb, bi_lent, bi_lenl, bi_lens, bi_max, bi_min, bi_tupt, bi_tupl, bi_lstt, bi_lstl, isi_t, isi_l, isi_i, isi_b, isi_n, isi_s, reduceCtorEq, decide_true, decide_false, Bool.or_true, Bool.or_false, Bool.true_or, Bool.false_or, blV, ntV, ngV, intV, op_add, op_sub, cm_lt, cm_le, cm_gt, cm_ge, cm_eqi, cm_nei, tr_bl, le0, if_true, ne]
        rw [pf]
        show (exSs (cb tab (d + 1)) ir__law_is_picture [some (.val (.tup l)), none] κ).fin = _
        cases hw : l.all (wholeV · 0 60) with
        | false =>
          rw [hw] at t1
          have t : evT (cb tab (d + 1)) (.or (.cm .ne (.comp (.con (.int (1))) (.nm 1) (.seq (.var 0)) (.yes (.not (.val (.call 22 (.cons (.var 1) (.cons (.con (.int (0))) (.cons (.con (.int (60))) .nil))))))) [1]) (.lst .nil)) (.cm .ne (.ix (.var 0) (.con (.int (0)))) (.con (.int (0))))) [some (.val (.tup l)), none] κ = .ok (true, κ) := by
            rw [evT, t1]
            rfl
          unfold ir__law_is_picture
          rw [ss_nx p1]
          have p2 := (ite_yes (a := .cons (.ret (.con (.bl false))) .nil) (b := .nil) t)
          exact (congrArg O.fin (ss_ret (v := .bl false) (κ' := κ) (p2.trans rfl))).trans rfl
        | true =>
          rw [hw] at t1
          obtain ⟨ns, rfl, hi, hb⟩ := wholes_ints hw
          rw [hi]
          rw [List.length_map] at h3 h5
          obtain ⟨m, ms, rfl⟩ : ∃ m ms, ns = m :: ms := by
            cases ns with
            | nil => simp at h3
            | cons m ms => exact ⟨m, ms, rfl⟩
          have i0 : ixV κ (.tup ((m :: ms).map .int)) (.int 0) = some (.int m) := ix_t0 (κ := κ) _ _
          have e0 : decide ((m :: ms)[0]? = some 0) = decide (m = 0) := by simp
          show _ = R.ok (Val.bl (true && (decide ((m :: ms)[0]? = some 0) && decide (sdd (m :: ms) = m :: ms))), κ)
          rw [e0, Bool.true_and]
          have t2 : evT (cb tab (d + 1)) (.cm .ne (.ix (.var 0) (.con (.int (0)))) (.con (.int (0)))) [some (.val (.tup ((m :: ms).map .int))), none] κ = .ok (!decide (m = 0), κ) := by
            generalize (m :: ms).map Val.int = L at *
            simp only [exSs, exS, evE, evT, evEs, evA, evBs, evO, evOt, evI, bw, rdV, rdB, R.bind_ok, R.bind_exc, R.bind_bad, R.ofO_some, R.ofO_none, R.toO_ok, R.toO_exc, R.toO_bad, O.then_nx, O.then_ret, O.then_exc, O.then_bad, O.fin_nx, O.fin_ret, O.fin_exc, O.fin_bad, Option.map_some, Option.map_none, List.map_cons, List.map_nil, Ar.slot, List.cons_append, List.nil_append, List.length_cons, List.length_nil, List.getElem?_cons_zero, List.getElem?_cons_succ, List.set_cons_zero, List.set_cons_succ, parR, bi_abs, bi_inti, bi_intb, bi_lent, bi_lenl, bi_lens, bi_max, bi_min, bi_tupt, bi_tupl, bi_lstt, bi_lstl, isi_t, isi_l, isi_i, isi_b, isi_n, isi_s, reduceCtorEq, decide_true, decide_false, Bool.or_true, Bool.or_false, Bool.true_or, Bool.false_or, blV, ntV, ngV, intV, op_add, op_sub, cm_lt, cm_le, cm_gt, cm_ge, cm_eqi, cm_nei, tr_bl, i0]
          have t : evT (cb tab (d + 1)) (.or (.cm .ne (.comp (.con (.int (1))) (.nm 1) (.seq (.var 0)) (.yes (.not (.val (.call 22 (.cons (.var 1) (.cons (.con (.int (0))) (.cons (.con (.int (60))) .nil))))))) [1]) (.lst .nil)) (.cm .ne (.ix (.var 0) (.con (.int (0)))) (.con (.int (0))))) [some (.val (.tup ((m :: ms).map .int))), none] κ = .ok (!decide (m = 0), κ) := by
            rw [evT, t1]
            show R.bind (R.ok (!true, κ)) _ = _
            simp only [R.bind_ok, Bool.not_true, Bool.false_eq_true, if_false, t2]
          by_cases hm : m = 0
          · rw [decide_eq_true hm] at t
            have p2 := (ite_no (a := .cons (.ret (.con (.bl false))) .nil) (b := .nil) t)
            have ss : ssV (.tup ((m :: ms).map .int)) = some (.lst ((sdd (m :: ms)).map .int)) := by
              show (match intsOf ((m :: ms).map .int) with
                | some ns => if ns.length ≤ 60 then some (Val.lst ((sdd ns).map .int)) else none
                | none => none) = _
              rw [hi]
              dsimp only
              rw [if_pos (by omega)]
            have li : biV .list [.tup ((m :: ms).map .int)] = some (.lst ((m :: ms).map .int)) := rfl
            have eqi := eq_ints (sdd (m :: ms)) (m :: ms)
            have p3 : exS (cb tab (d + 1)) (.ret (.cm .eq (.sset (.var 0)) (.bi .list (.cons (.var 0) .nil)))) [some (.val (.tup ((m :: ms).map .int))), none] κ = .ret (.bl (decide (sdd (m :: ms) = m :: ms))) κ := by
              generalize (m :: ms).map Val.int = L at *
              simp only [exSs, exS, evE, evT, evEs, evA, evBs, evO, evOt, evI, bw, rdV, rdB, R.bind_ok, R.bind_exc, R.bind_bad, R.ofO_some, R.ofO_none, R.toO_ok, R.toO_exc, R.toO_bad, O.then_nx, O.then_ret, O.then_exc, O.then_bad, O.fin_nx, O.fin_ret, O.fin_exc, O.fin_bad, Option.map_some, Option.map_none, List.map_cons, List.map_nil, Ar.slot, List.cons_append, List.nil_append, List.length_cons, List.length_nil, List.getElem?_cons_zero, List.getElem?_cons_succ, List.set_cons_zero, List.set_cons_succ, parR, bi_abs, bi_inti, bi_intb, bi_lent, bi_lenl, bi_lens, bi_max, bi_min, bi_tupt, bi_tupl, bi_lstt, bi_lstl, isi_t, isi_l, isi_i, isi_b, isi_n, isi_s, reduceCtorEq, decide_true, decide_false, Bool.or_true, Bool.or_false, Bool.true_or, Bool.false_or, blV, ntV, ngV, intV, op_add, op_sub, cm_lt, cm_le, cm_gt, cm_ge, cm_eqi, cm_nei, tr_bl, evBs, ss, li, eqi]
            unfold ir__law_is_picture
            rw [ss_nx p1, ss_nx (p2.trans rfl), ss_ret p3, decide_eq_true hm, Bool.true_and]
            rfl
          · rw [decide_eq_false hm] at t
            have p2 := (ite_yes (a := .cons (.ret (.con (.bl false))) .nil) (b := .nil) t)
            unfold ir__law_is_picture
            rw [ss_nx p1, decide_eq_false hm, Bool.false_and]
            exact (congrArg O.fin (ss_ret (v := .bl false) (κ' := κ) (p2.trans rfl))).trans rfl
      · have pf : picB (.tup l) = false := by
          show ((decide ((3 : Int) ≤ l.length) && decide ((l.length : Int) ≤ 5)) && _) = _
          rw [decide_eq_false h5, Bool.and_false]; rfl
        rw [pf]
        simp only [ir__law_is_picture, List.replicate, Nat.reduceSub, exSs, exS, evE, evT, evEs, evA, evBs, evO, evOt, evI, bw, rdV, rdB, R.bind_ok, R.bind_exc, R.bind_bad, R.ofO_some, R.ofO_none, R.toO_ok, R.toO_exc, R.toO_bad, O.then_nx, O.then_ret, O.then_exc, O.then_bad, O.fin_nx, O.fin_ret, O.fin_exc, O.fin_bad, Option.map_some, Option.map_none, List.map_cons, List.map_nil, Ar.slot, List.cons_append, List.nil_append, List.length_cons, List.length_nil, List.getElem?_cons_zero, List.getElem?_cons_succ, List.set_cons_zero, List.set_cons_succ, parR, bi_abs, bi_inti, bi_intb, bi_lent, bi_lenl, bi_lens, bi_max, bi_min, bi_tupt, bi_tupl, bi_lstt, bi_lstl, isi_t, isi_l, isi_i, isi_b, isi_n, isi_s, reduceCtorEq, decide_true, decide_false, Bool.or_true, Bool.or_false, Bool.true_or, Bool.false_or, blV, ntV, ngV, intV, op_add, op_sub, cm_lt, cm_le, cm_gt, cm_ge, cm_eqi, cm_nei, tr_bl, evBs, h3, h5, Bool.not_true, Bool.not_false, decide_true, decide_false, if_true, if_false, Bool.false_eq_true]
    · have pf : picB (.tup l) = false := by
        show ((decide ((3 : Int) ≤ l.length) && decide ((l.length : Int) ≤ 5)) && _) = _
        rw [decide_eq_false h3]; rfl
      rw [pf]
      simp only [ir__law_is_picture, List.replicate, Nat.reduceSub, exSs, exS, evE, evT, evEs, evA, evBs, evO, evOt, evI, bw, rdV, rdB, R.bind_ok, R.bind_exc, R.bind_bad, R.ofO_some, R.ofO_none, R.toO_ok, R.toO_exc, R.toO_bad, O.then_nx, O.then_ret, O.then_exc, O.then_bad, O.fin_nx, O.fin_ret, O.fin_exc, O.fin_bad, Option.map_some, Option.map_none, List.map_cons, List.map_nil, Ar.slot, List.cons_append, List.nil_append, List.length_cons, List.length_nil, List.getElem?_cons_zero, List.getElem?_cons_succ, List.set_cons_zero, List.set_cons_succ, parR, bi_abs, bi_inti, bi_intb, bi_lent, bi_lenl, bi_lens, bi_max, bi_min, bi_tupt, bi_tupl, bi_lstt, bi_lstl, isi_t, isi_l, isi_i, isi_b, isi_n, isi_s, reduceCtorEq, decide_true, decide_false, Bool.or_true, Bool.or_false, Bool.true_or, Bool.false_or, blV, ntV, ngV, intV, op_add, op_sub, cm_lt, cm_le, cm_gt, cm_ge, cm_eqi, cm_nei, tr_bl, evBs, h3, Bool.not_true, Bool.not_false, decide_true, decide_false, if_true, if_false, Bool.false_eq_true]
  | non => simp only [ir__law_is_picture, List.replicate, Nat.reduceSub, exSs, exS, evE, evT, evEs, evA, evBs, evO, evOt, evI, bw, rdV, rdB, R.bind_ok, R.bind_exc, R.bind_bad, R.ofO_some, R.ofO_none, R.toO_ok, R.toO_exc, R.toO_bad, O.then_nx, O.then_ret, O.then_exc, O.then_bad, O.fin_nx, O.fin_ret, O.fin_exc, O.fin_bad, Option.map_some, Option.map_none, List.map_cons, List.map_nil, Ar.slot, List.cons_append, List.nil_append, List.length_cons, List.length_nil, List.getElem?_cons_zero, List.getElem?_cons_succ, List.set_cons_zero, List.set_cons_succ, parR, bi_abs, bi_inti, bi_intb, bi_lent, bi_lenl, bi_lens, bi_max, bi_min, bi_tupt, bi_tupl, bi_lstt, bi_lstl, isi_t, isi_l, isi_i, isi_b, isi_n, isi_s, reduceCtorEq, decide_true, decide_false, Bool.or_true, Bool.or_false, Bool.true_or, Bool.false_or, blV, ntV, ngV, intV, op_add, op_sub, cm_lt, cm_le, cm_gt, cm_ge, cm_eqi, cm_nei, tr_bl, evBs, Bool.not_false, if_true, picB]
  | bl _ => simp only [ir__law_is_picture, List.replicate, Nat.reduceSub, exSs, exS, evE, evT, evEs, evA, evBs, evO, evOt, evI, bw, rdV, rdB, R.bind_ok, R.bind_exc, R.bind_bad, R.ofO_some, R.ofO_none, R.toO_ok, R.toO_exc, R.toO_bad, O.then_nx, O.then_ret, O.then_exc, O.then_bad, O.fin_nx, O.fin_ret, O.fin_exc, O.fin_bad, Option.map_some, Option.map_none, List.map_cons, List.map_nil, Ar.slot, List.cons_append, List.nil_append, List.length_cons, List.length_nil, List.getElem?_cons_zero, List.getElem?_cons_succ, List.set_cons_zero, List.set_cons_succ, parR, bi_abs, bi_inti, bi_intb, bi_lent, bi_lenl, bi_lens, bi_max, bi_min, bi_tupt, bi_tupl, bi_lstt, bi_lstl, isi_t, isi_l, isi_i, isi_b, isi_n, isi_s, reduceCtorEq, decide_true, decide_false, Bool.or_true, Bool.or_false, Bool.true_or, Bool.false_or, blV, ntV, ngV, intV, op_add, op_sub, cm_lt, cm_le, cm_gt, cm_ge, cm_eqi, cm_nei, tr_bl, evBs, Bool.not_false, if_true, picB]
  | int _ => simp only [ir__law_is_picture, List.replicate, Nat.reduceSub, exSs, exS, evE, evT, evEs, evA, evBs, evO, evOt, evI, bw, rdV, rdB, R.bind_ok, R.bind_exc, R.bind_bad, R.ofO_some, R.ofO_none, R.toO_ok, R.toO_exc, R.toO_bad, O.then_nx, O.then_ret, O.then_exc, O.then_bad, O.fin_nx, O.fin_ret, O.fin_exc, O.fin_bad, Option.map_some, Option.map_none, List.map_cons, List.map_nil, Ar.slot, List.cons_append, List.nil_append, List.length_cons, List.length_nil, List.getElem?_cons_zero, List.getElem?_cons_succ, List.set_cons_zero, List.set_cons_succ, parR, bi_abs, bi_inti, bi_intb, bi_lent, bi_lenl, bi_lens, bi_max, bi_min, bi_tupt, bi_tupl, bi_lstt, bi_lstl, isi_t, isi_l, isi_i, isi_b, isi_n, isi_s, reduceCtorEq, decide_true, decide_false, Bool.or_true, Bool.or_false, Bool.true_or, Bool.false_or, blV, ntV, ngV, intV, op_add, op_sub, cm_lt, cm_le, cm_gt, cm_ge, cm_eqi, cm_nei, tr_bl, evBs, Bool.not_false, if_true, picB]
  | str _ => simp only [ir__law_is_picture, List.replicate, Nat.reduceSub, exSs, exS, evE, evT, evEs, evA, evBs, evO, evOt, evI, bw, rdV, rdB, R.bind_ok, R.bind_exc, R.bind_bad, R.ofO_some, R.ofO_none, R.toO_ok, R.toO_exc, R.toO_bad, O.then_nx, O.then_ret, O.then_exc, O.then_bad, O.fin_nx, O.fin_ret, O.fin_exc, O.fin_bad, Option.map_some, Option.map_none, List.map_cons, List.map_nil, Ar.slot, List.cons_append, List.nil_append, List.length_cons, List.length_nil, List.getElem?_cons_zero, List.getElem?_cons_succ, List.set_cons_zero, List.set_cons_succ, parR, bi_abs, bi_inti, bi_intb, bi_lent, bi_lenl, bi_lens, bi_max, bi_min, bi_tupt, bi_tupl, bi_lstt, bi_lstl, isi_t, isi_l, isi_i, isi_b, isi_n, isi_s, reduceCtorEq, decide_true, decide_false, Bool.or_true, Bool.or_false, Bool.true_or, Bool.false_or, blV, ntV, ngV, intV, op_add, op_sub, cm_lt, cm_le, cm_gt, cm_ge, cm_eqi, cm_nei, tr_bl, evBs, Bool.not_false, if_true, picB]
  | lst _ => simp only [ir__law_is_picture, List.replicate, Nat.reduceSub, exSs, exS, evE, evT, evEs, evA, evBs, evO, evOt, evI, bw, rdV, rdB, R.bind_ok, R.bind_exc, R.bind_bad, R.ofO_some, R.ofO_none, R.toO_ok, R.toO_exc, R.toO_bad, O.then_nx, O.then_ret, O.then_exc, O.then_bad, O.fin_nx, O.fin_ret, O.fin_exc, O.fin_bad, Option.map_some, Option.map_none, List.map_cons, List.map_nil, Ar.slot, List.cons_append, List.nil_append, List.length_cons, List.length_nil, List.getElem?_cons_zero, List.getElem?_cons_succ, List.set_cons_zero, List.set_cons_succ, parR, bi_abs, bi_inti, bi_intb, bi_lent, bi_lenl, bi_lens, bi_max, bi_min, bi_tupt, bi_tupl, bi_lstt, bi_lstl, isi_t, isi_l, isi_i, isi_b, isi_n, isi_s, reduceCtorEq, decide_true, decide_false, Bool.or_true, Bool.or_false, Bool.true_or, Bool.false_or, blV, ntV, ngV, intV, op_add, op_sub, cm_lt, cm_le, cm_gt, cm_ge, cm_eqi, cm_nei, tr_bl, evBs, Bool.not_false, if_true, picB]
  | fn _ => cases n <;> cases hv
  | cell _ => cases n <;> cases hv
  | scr _ => cases n <;> cases hv
theorem l_lean (d : Nat) {v : Val} {n : Nat} (κ : Ks) (hv : datB n v = true) : (cb tab (d + 2)).cf 24 [.v v] κ = .ok (.bl (leanB v), κ) := by
  rw [cf_succ _ _ _ _ _ rfl rfl]
  have w := fun v (h : topD v = true) lo hi => l_wholeV d h lo hi κ
  cases v with
  | tup m =>
    by_cases hm : m.length = 2
    · obtain ⟨x, y, rfl⟩ := len2 hm
      have lm : ((0 + 1 + 1 : Nat) : Int) = 2 := rfl
      have hx := datB_topD (dat_mem hv x (by simp))
      have hy := datB_topD (dat_mem hv y (by simp))
      cases c1 : wholeV x 0 1000000000 with
      | false =>
        rw [lean_ff c1]
        simp only [ir__law_is_lean, List.replicate, Nat.reduceSub, List.append_nil, exSs, exS, evE, evT, evEs, evA, evBs, evO, evOt, evI, bw, rdV, rdB, R.bind_ok, R.bind_exc, R.bind_bad, R.ofO_some, R.ofO_none, R.toO_ok, R.toO_exc, R.toO_bad, O.then_nx, O.then_ret, O.then_exc, O.then_bad, O.fin_nx, O.fin_ret, O.fin_exc, O.fin_bad, Option.map_some, Option.map_none, List.map_cons, List.map_nil, Ar.slot, List.cons_append, List.nil_append, List.length_cons, List.length_nil, List.getElem?_cons_zero, List.getElem?_cons_succ, List.set_cons_zero, List.set_cons_succ, parR, bi_abs, bi_inti, bi_intb, bi_lent, bi_lenl, bi_lens, bi_max, bi_min, bi_tupt, bi_tupl, bi_lstt, bi_lstl, isi_t, isi_l, isi_i, isi_b, isi_n, isi_s, reduceCtorEq, decide_true, decide_false, Bool.or_true, Bool.or_false, Bool.true_or, Bool.false_or, blV, ntV, ngV, intV, op_add, op_sub, cm_lt, cm_le, cm_gt, cm_ge, cm_eqi, cm_nei, tr_bl, evBs, lm, pow9, ix_t0, w x hx, c1, Bool.not_true, Bool.not_false, decide_true, if_true, if_false, Bool.false_eq_true]
      | true =>
        cases c2 : wholeV y 1 1000000000 with
        | false =>
          rw [lean_ff2 c2]
          simp only [ir__law_is_lean, List.replicate, Nat.reduceSub, List.append_nil, exSs, exS, evE, evT, evEs, evA, evBs, evO, evOt, evI, bw, rdV, rdB, R.bind_ok, R.bind_exc, R.bind_bad, R.ofO_some, R.ofO_none, R.toO_ok, R.toO_exc, R.toO_bad, O.then_nx, O.then_ret, O.then_exc, O.then_bad, O.fin_nx, O.fin_ret, O.fin_exc, O.fin_bad, Option.map_some, Option.map_none, List.map_cons, List.map_nil, Ar.slot, List.cons_append, List.nil_append, List.length_cons, List.length_nil, List.getElem?_cons_zero, List.getElem?_cons_succ, List.set_cons_zero, List.set_cons_succ, parR, bi_abs, bi_inti, bi_intb, bi_lent, bi_lenl, bi_lens, bi_max, bi_min, bi_tupt, bi_tupl, bi_lstt, bi_lstl, isi_t, isi_l, isi_i, isi_b, isi_n, isi_s, reduceCtorEq, decide_true, decide_false, Bool.or_true, Bool.or_false, Bool.true_or, Bool.false_or, blV, ntV, ngV, intV, op_add, op_sub, cm_lt, cm_le, cm_gt, cm_ge, cm_eqi, cm_nei, tr_bl, evBs, lm, pow9, ix_t0, ix_t1, w x hx, c1, w y hy, c2, Bool.not_true, Bool.not_false, decide_true, if_true, if_false, Bool.false_eq_true]
        | true =>
          obtain ⟨a, rfl, a0, a1⟩ := whole_int c1
          obtain ⟨b, rfl, b0, b1⟩ := whole_int c2
          obtain ⟨A, rfl⟩ : ∃ A : Nat, a = (A : Int) := ⟨a.toNat, by omega⟩
          obtain ⟨B, rfl⟩ : ∃ B : Nat, b = (B : Int) := ⟨b.toNat, by omega⟩
          have lf : leanB (.tup [.int A, .int B]) = decide (gcdI A B = 1) := by
            show (wholeV (.int A) 0 1000000000 && (wholeV (.int B) 1 1000000000 && _)) = _
            rw [c1, c2]; rfl
          have p1 : exS (cb tab (d + 1)) (.ite (.or (.not (.val (.isi .tuple (.var 0)))) (.or (.cm .ne (.bi .len (.cons (.var 0) .nil)) (.con (.int (2)))) (.not (.val (.call 22 (.cons (.ix (.var 0) (.con (.int (0)))) (.cons (.con (.int (0))) (.cons (.op .pow (.con (.int (10))) (.con (.int (9)))) .nil)))))))) (.cons (.ret (.con (.bl false)))
  .nil) .nil) [some (.val (.tup [.int A, .int B])), none, none] κ = .nx [some (.val (.tup [.int A, .int B])), none, none] κ := by
            simp only [exSs, exS, evE, evT, evEs, evA, evBs, evO, evOt, evI, bw, rdV, rdB, R.bind_ok, R.bind_exc, R.bind_bad, R.ofO_some, R.ofO_none, R.toO_ok, R.toO_exc, R.toO_bad, O.then_nx, O.then_ret, O.then_exc, O.then_bad, O.fin_nx, O.fin_ret, O.fin_exc, O.fin_bad, Option.map_some, Option.map_none, List.map_cons, List.map_nil, Ar.slot, List.cons_append, List.nil_append, List.length_cons, List.length_nil, List.getElem?_cons_zero, List.getElem?_cons_succ, List.set_cons_zero, List.set_cons_succ, parR, bi_abs, bi_inti, bi_intb, bi_lent, bi_lenl, bi_lens, bi_max, bi_min, bi_tupt, bi_tupl, bi_lstt, bi_lstl, isi_t, isi_l, isi_i, isi_b, isi_n, isi_s, reduceCtorEq, decide_true, decide_false, Bool.or_true, Bool.or_false, Bool.true_or, Bool.false_or, blV, ntV, ngV, intV, op_add, op_sub, cm_lt, cm_le, cm_gt, cm_ge, cm_eqi, cm_nei, tr_bl, evBs, lm, pow9, ix_t0, w (.int A) rfl, c1, Bool.not_true, decide_true, if_true, if_false, Bool.false_eq_true]
          have p2 : exS (cb tab (d + 1)) (.ite (.not (.val (.call 22 (.cons (.ix (.var 0) (.con (.int (1)))) (.cons (.con (.int (1))) (.cons (.op .pow (.con (.int (10))) (.con (.int (9)))) .nil)))))) (.cons (.ret (.con (.bl false)))
  .nil) .nil) [some (.val (.tup [.int A, .int B])), none, none] κ = .nx [some (.val (.tup [.int A, .int B])), none, none] κ := by
            simp only [exSs, exS, evE, evT, evEs, evA, evBs, evO, evOt, evI, bw, rdV, rdB, R.bind_ok, R.bind_exc, R.bind_bad, R.ofO_some, R.ofO_none, R.toO_ok, R.toO_exc, R.toO_bad, O.then_nx, O.then_ret, O.then_exc, O.then_bad, O.fin_nx, O.fin_ret, O.fin_exc, O.fin_bad, Option.map_some, Option.map_none, List.map_cons, List.map_nil, Ar.slot, List.cons_append, List.nil_append, List.length_cons, List.length_nil, List.getElem?_cons_zero, List.getElem?_cons_succ, List.set_cons_zero, List.set_cons_succ, parR, bi_abs, bi_inti, bi_intb, bi_lent, bi_lenl, bi_lens, bi_max, bi_min, bi_tupt, bi_tupl, bi_lstt, bi_lstl, isi_t, isi_l, isi_i, isi_b, isi_n, isi_s, reduceCtorEq, decide_true, decide_false, Bool.or_true, Bool.or_false, Bool.true_or, Bool.false_or, blV, ntV, ngV, intV, op_add, op_sub, cm_lt, cm_le, cm_gt, cm_ge, cm_eqi, cm_nei, tr_bl, evBs, lm, pow9, ix_t1, w (.int B) rfl, c2, Bool.not_true, decide_true, if_true, if_false, Bool.false_eq_true]
          have p3 : exS (cb tab (d + 1)) (.asg (.tp (.cons (.nm 1) (.cons (.nm 2) .nil))) (.var 0)) [some (.val (.tup [.int A, .int B])), none, none] κ = .nx [some (.val (.tup [.int A, .int B])), some (.val (.int A)), some (.val (.int B))] κ := rfl
          have wl := w_gcd (t := fun ρ κ => evT (cb tab (d + 1)) (.cm .ne (.var 2) (.con (.int (0)))) ρ κ) (b := fun ρ κ => exSs (cb tab (d + 1)) (.cons (.par [(1, false), (2, false)] (.cons (.var 2) (.cons (.op .mod (.var 1) (.var 2)) .nil))) .nil) ρ κ) (κ := κ) (fun x y => [some (.val (.tup [.int A, .int B])), some (.val (.int x)), some (.val (.int y))]) (fun x y => by simp only [exSs, exS, evE, evT, evEs, evA, evBs, evO, evOt, evI, bw, rdV, rdB, R.bind_ok, R.bind_exc, R.bind_bad, R.ofO_some, R.ofO_none, R.toO_ok, R.toO_exc, R.toO_bad, O.then_nx, O.then_ret, O.then_exc, O.then_bad, O.fin_nx, O.fin_ret, O.fin_exc, O.fin_bad, Option.map_some, Option.map_none, List.map_cons, List.map_nil, Ar.slot, List.cons_append, List.nil_append, List.length_cons, List.length_nil, List.getElem?_cons_zero, List.getElem?_cons_succ, List.set_cons_zero, List.set_cons_succ, parR, bi_abs, bi_inti, bi_intb, bi_lent, bi_lenl, bi_lens, bi_max, bi_min, bi_tupt, bi_tupl, bi_lstt, bi_lstl, isi_t, isi_l, isi_i, isi_b, isi_n, isi_s, reduceCtorEq, decide_true, decide_false, Bool.or_true, Bool.or_false, Bool.true_or, Bool.false_or, blV, ntV, ngV, intV, op_add, op_sub, cm_lt, cm_le, cm_gt, cm_ge, cm_eqi, cm_nei, tr_bl]) (fun x y hy => by
            have em : opV .mod (.int x) (.int y) = some (.int (x % y)) := op_mod hy
            simp only [exSs, exS, evE, evT, evEs, evA, evBs, evO, evOt, evI, bw, rdV, rdB, R.bind_ok, R.bind_exc, R.bind_bad, R.ofO_some, R.ofO_none, R.toO_ok, R.toO_exc, R.toO_bad, O.then_nx, O.then_ret, O.then_exc, O.then_bad, O.fin_nx, O.fin_ret, O.fin_exc, O.fin_bad, Option.map_some, Option.map_none, List.map_cons, List.map_nil, Ar.slot, List.cons_append, List.nil_append, List.length_cons, List.length_nil, List.getElem?_cons_zero, List.getElem?_cons_succ, List.set_cons_zero, List.set_cons_succ, parR, bi_abs, bi_inti, bi_intb, bi_lent, bi_lenl, bi_lens, bi_max, bi_min, bi_tupt, bi_tupl, bi_lstt, bi_lstl, isi_t, isi_l, isi_i, isi_b, isi_n, isi_s, reduceCtorEq, decide_true, decide_false, Bool.or_true, Bool.or_false, Bool.true_or, Bool.false_or, blV, ntV, ngV, intV, op_add, op_sub, cm_lt, cm_le, cm_gt, cm_ge, cm_eqi, cm_nei, tr_bl, em]) BIG A B (big_of (Nat.lt_of_le_of_lt (show B ≤ 1000000000 by omega) (Nat.lt_of_lt_of_le (show 1000000000 < 2 ^ 40 by decide) (Nat.pow_le_pow_right (by decide) (by decide)))))
          have p4 : exS (cb tab (d + 1)) (.while (.cm .ne (.var 2) (.con (.int (0)))) (.cons (.par [(1, false), (2, false)] (.cons (.var 2) (.cons (.op .mod (.var 1) (.var 2)) .nil))) .nil)) [some (.val (.tup [.int A, .int B])), some (.val (.int A)), some (.val (.int B))] κ = .nx [some (.val (.tup [.int A, .int B])), some (.val (.int (Nat.gcd A B : Nat))), some (.val (.int 0))] κ := wl
          rw [lf]
          show (exSs (cb tab (d + 1)) ir__law_is_lean [some (.val (.tup [.int A, .int B])), none, none] κ).fin = _
          unfold ir__law_is_lean
          rw [ss_nx p1, ss_nx p2, ss_nx p3, ss_nx p4]
          simp only [exSs, exS, evE, evT, evEs, evA, evBs, evO, evOt, evI, bw, rdV, rdB, R.bind_ok, R.bind_exc, R.bind_bad, R.ofO_some, R.ofO_none, R.toO_ok, R.toO_exc, R.toO_bad, O.then_nx, O.then_ret, O.then_exc, O.then_bad, O.fin_nx, O.fin_ret, O.fin_exc, O.fin_bad, Option.map_some, Option.map_none, List.map_cons, List.map_nil, Ar.slot, List.cons_append, List.nil_append, List.length_cons, List.length_nil, List.getElem?_cons_zero, List.getElem?_cons_succ, List.set_cons_zero, List.set_cons_succ, parR, bi_abs, bi_inti, bi_intb, bi_lent, bi_lenl, bi_lens, bi_max, bi_min, bi_tupt, bi_tupl, bi_lstt, bi_lstl, isi_t, isi_l, isi_i, isi_b, isi_n, isi_s, reduceCtorEq, decide_true, decide_false, Bool.or_true, Bool.or_false, Bool.true_or, Bool.false_or, blV, ntV, ngV, intV, op_add, op_sub, cm_lt, cm_le, cm_gt, cm_ge, cm_eqi, cm_nei, tr_bl]
          rfl
    · rw [lean_len hm]
      have lm : ((m.length : Int) = 2) = False := eq_false (by omega)
      simp only [ir__law_is_lean, List.replicate, Nat.reduceSub, List.append_nil, exSs, exS, evE, evT, evEs, evA, evBs, evO, evOt, evI, bw, rdV, rdB, R.bind_ok, R.bind_exc, R.bind_bad, R.ofO_some, R.ofO_none, R.toO_ok, R.toO_exc, R.toO_bad, O.then_nx, O.then_ret, O.then_exc, O.then_bad, O.fin_nx, O.fin_ret, O.fin_exc, O.fin_bad, Option.map_some, Option.map_none, List.map_cons, List.map_nil, Ar.slot, List.cons_append, List.nil_append, List.length_cons, List.length_nil, List.getElem?_cons_zero, List.getElem?_cons_succ, List.set_cons_zero, List.set_cons_succ, parR, bi_abs, bi_inti, bi_intb, bi_lent, bi_lenl, bi_lens, bi_max, bi_min, bi_tupt, bi_tupl, bi_lstt, bi_lstl, isi_t, isi_l, isi_i, isi_b, isi_n, isi_s, reduceCtorEq, decide_true, decide_false, Bool.or_true, Bool.or_false, Bool.true_or, Bool.false_or, blV, ntV, ngV, intV, op_add, op_sub, cm_lt, cm_le, cm_gt, cm_ge, cm_eqi, cm_nei, tr_bl, evBs, lm, Bool.not_true, Bool.not_false, decide_true, decide_false, if_true, if_false, Bool.false_eq_true]
  | non => simp only [ir__law_is_lean, List.replicate, Nat.reduceSub, List.append_nil, exSs, exS, evE, evT, evEs, evA, evBs, evO, evOt, evI, bw, rdV, rdB, R.bind_ok, R.bind_exc, R.bind_bad, R.ofO_some, R.ofO_none, R.toO_ok, R.toO_exc, R.toO_bad, O.then_nx, O.then_ret, O.then_exc, O.then_bad, O.fin_nx, O.fin_ret, O.fin_exc, O.fin_bad, Option.map_some, Option.map_none, List.map_cons, List.map_nil, Ar.slot, List.cons_append, List.nil_append, List.length_cons, List.length_nil, List.getElem?_cons_zero, List.getElem?_cons_succ, List.set_cons_zero, List.set_cons_succ, parR, bi_abs, bi_inti, bi_intb, bi_lent, bi_lenl, bi_lens, bi_max, bi_min, bi_tupt, bi_tupl, bi_lstt, bi_lstl, isi_t, isi_l, isi_i, isi_b, isi_n, isi_s, reduceCtorEq, decide_true, decide_false, Bool.or_true, Bool.or_false, Bool.true_or, Bool.false_or, blV, ntV, ngV, intV, op_add, op_sub, cm_lt, cm_le, cm_gt, cm_ge, cm_eqi, cm_nei, tr_bl, evBs, Bool.not_false, if_true, leanB]
  | bl _ => simp only [ir__law_is_lean, List.replicate, Nat.reduceSub, List.append_nil, exSs, exS, evE, evT, evEs, evA, evBs, evO, evOt, evI, bw, rdV, rdB, R.bind_ok, R.bind_exc, R.bind_bad, R.ofO_some, R.ofO_none, R.toO_ok, R.toO_exc, R.toO_bad, O.then_nx, O.then_ret, O.then_exc, O.then_bad, O.fin_nx, O.fin_ret, O.fin_exc, O.fin_bad, Option.map_some, Option.map_none, List.map_cons, List.map_nil, Ar.slot, List.cons_append, List.nil_append, List.length_cons, List.length_nil, List.getElem?_cons_zero, List.getElem?_cons_succ, List.set_cons_zero, List.set_cons_succ, parR, bi_abs, bi_inti, bi_intb, bi_lent, bi_lenl, bi_lens, bi_max, bi_min, bi_tupt, bi_tupl, bi_lstt, bi_lstl, isi_t, isi_l, isi_i, isi_b, isi_n, isi_s, reduceCtorEq, decide_true, decide_false, Bool.or_true, Bool.or_false, Bool.true_or, Bool.false_or, blV, ntV, ngV, intV, op_add, op_sub, cm_lt, cm_le, cm_gt, cm_ge, cm_eqi, cm_nei, tr_bl, evBs, Bool.not_false, if_true, leanB]
  | int _ => simp only [ir__law_is_lean, List.replicate, Nat.reduceSub, List.append_nil, exSs, exS, evE, evT, evEs, evA, evBs, evO, evOt, evI, bw, rdV, rdB, R.bind_ok, R.bind_exc, R.bind_bad, R.ofO_some, R.ofO_none, R.toO_ok, R.toO_exc, R.toO_bad, O.then_nx, O.then_ret, O.then_exc, O.then_bad, O.fin_nx, O.fin_ret, O.fin_exc, O.fin_bad, Option.map_some, Option.map_none, List.map_cons, List.map_nil, Ar.slot, List.cons_append, List.nil_append, List.length_cons, List.length_nil, List.getElem?_cons_zero, List.getElem?_cons_succ, List.set_cons_zero, List.set_cons_succ, parR, bi_abs, bi_inti, bi_intb, bi_lent, bi_lenl, bi_lens, bi_max, bi_min, bi_tupt, bi_tupl, bi_lstt, bi_lstl, isi_t, isi_l, isi_i, isi_b, isi_n, isi_s, reduceCtorEq, decide_true, decide_false, Bool.or_true, Bool.or_false, Bool.true_or, Bool.false_or, blV, ntV, ngV, intV, op_add, op_sub, cm_lt, cm_le, cm_gt, cm_ge, cm_eqi, cm_nei, tr_bl, evBs, Bool.not_false, if_true, leanB]
  | str _ => simp only [ir__law_is_lean, List.replicate, Nat.reduceSub, List.append_nil, exSs, exS, evE, evT, evEs, evA, evBs, evO, evOt, evI, bw, rdV, rdB, R.bind_ok, R.bind_exc, R.bind_bad, R.ofO_some, R.ofO_none, R.toO_ok, R.toO_exc, R.toO_bad, O.then_nx, O.then_ret, O.then_exc, O.then_bad, O.fin_nx, O.fin_ret, O.fin_exc, O.fin_bad, Option.map_some, Option.map_none, List.map_cons, List.map_nil, Ar.slot, List.cons_append, List.nil_append, List.length_cons, List.length_nil, List.getElem?_cons_zero, List.getElem?_cons_succ, List.set_cons_zero, List.set_cons_succ, parR, bi_abs, bi_inti, bi_intb, bi_lent, bi_lenl, bi_lens, bi_max, bi_min, bi_tupt, bi_tupl, bi_lstt, bi_lstl, isi_t, isi_l, isi_i, isi_b, isi_n, isi_s, reduceCtorEq, decide_true, decide_false, Bool.or_true, Bool.or_false, Bool.true_or, Bool.false_or, blV, ntV, ngV, intV, op_add, op_sub, cm_lt, cm_le, cm_gt, cm_ge, cm_eqi, cm_nei, tr_bl, evBs, Bool.not_false, if_true, leanB]
  | lst _ => simp only [ir__law_is_lean, List.replicate, Nat.reduceSub, List.append_nil, exSs, exS, evE, evT, evEs, evA, evBs, evO, evOt, evI, bw, rdV, rdB, R.bind_ok, R.bind_exc, R.bind_bad, R.ofO_some, R.ofO_none, R.toO_ok, R.toO_exc, R.toO_bad, O.then_nx, O.then_ret, O.then_exc, O.then_bad, O.fin_nx, O.fin_ret, O.fin_exc, O.fin_bad, Option.map_some, Option.map_none, List.map_cons, List.map_nil, Ar.slot, List.cons_append, List.nil_append, List.length_cons, List.length_nil, List.getElem?_cons_zero, List.getElem?_cons_succ, List.set_cons_zero, List.set_cons_succ, parR, bi_abs, bi_inti, bi_intb, bi_lent, bi_lenl, bi_lens, bi_max, bi_min, bi_tupt, bi_tupl, bi_lstt, bi_lstl, isi_t, isi_l, isi_i, isi_b, isi_n, isi_s, reduceCtorEq, decide_true, decide_false, Bool.or_true, Bool.or_false, Bool.true_or, Bool.false_or, blV, ntV, ngV, intV, op_add, op_sub, cm_lt, cm_le, cm_gt, cm_ge, cm_eqi, cm_nei, tr_bl, evBs, Bool.not_false, if_true, leanB]
  | fn _ => cases n <;> cases hv
  | cell _ => cases n <;> cases hv
  | scr _ => cases n <;> cases hv
abbrev lsB : Ss := (.cons (.ite (.or (.not (.val (.isi .tuple (.var 2)))) (.cm .ne (.bi .len (.cons (.var 2) .nil)) (.con (.int (3))))) (.cons (.ret (.con (.bl false)))
  .nil) .nil)
  (.cons (.ite (.or (.cm .ne (.comp (.con (.int (1))) (.nm 3) (.seq (.var 2)) (.yes (.not (.val (.call 22 (.cons (.var 3) (.cons (.con (.int (0))) (.cons (.con (.int (9))) .nil))))))) [3]) (.lst .nil)) (.cm .eq (.ix (.var 2) (.con (.int (0)))) (.con (.int (0))))) (.cons (.ret (.con (.bl false)))
  .nil) .nil)
  (.cons (.ite (.or (.cm .ge (.ix (.var 2) (.con (.int (1)))) (.ix (.var 2) (.con (.int (2))))) (.cm .ge (.ix (.var 2) (.con (.int (2)))) (.bi .len (.cons (.var 0) .nil)))) (.cons (.ret (.con (.bl false)))
  .nil) .nil)
  .nil)))
theorem ls_step (d : Nat) {q : List Int} {v u : Val} {n : Nat} (κ : Ks) (hq5 : q.length ≤ 5) (hu : datB n u = true) : (partB q.length u = true → exSs (cb tab (d + 1)) lsB [some (.val (picV q)), some (.val v), some (.val u), none] κ = .nx [some (.val (picV q)), some (.val v), some (.val u), none] κ) ∧ (partB q.length u = false → exSs (cb tab (d + 1)) lsB [some (.val (picV q)), some (.val v), some (.val u), none] κ = .ret (.bl false) κ) := by
  have w := fun v (h : topD v = true) lo hi => l_wholeV d h lo hi κ
  have nt : ∀ b, isiV .tuple u = some b → b = false → exSs (cb tab (d + 1)) lsB [some (.val (picV q)), some (.val v), some (.val u), none] κ = .ret (.bl false) κ := fun b hb e => by
    subst e
    simp only [lsB, exSs, exS, evT, evE, bw, rdV, hb, exSs, exS, evE, evT, evEs, evA, evBs, evO, evOt, evI, bw, rdV, rdB, R.bind_ok, R.bind_exc, R.bind_bad, R.ofO_some, R.ofO_none, R.toO_ok, R.toO_exc, R.toO_bad, O.then_nx, O.then_ret, O.then_exc, O.then_bad, O.fin_nx, O.fin_ret, O.fin_exc, O.fin_bad, Option.map_some, Option.map_none, List.map_cons, List.map_nil, Ar.slot, List.cons_append, List.nil_append, List.length_cons, List.length_nil, List.getElem?_cons_zero, List.getElem?_cons_succ, List.set_cons_zero, List.set_cons_succ, parR, bi_abs, bi_inti, bi_intb, bi_lent, bi_lenl, bi_lens, bi_max, bi_min, bi_tupt, bi_tupl, bi_lstt, bi_lstl, isi_t, isi_l, isi_i, isi_b, isi_n, isi_s, reduceCtorEq, decide_true, decide_false, Bool.or_true, Bool.or_false, Bool.true_or, Bool.false_or, blV, ntV, ngV, intV, op_add, op_sub, cm_lt, cm_le, cm_gt, cm_ge, cm_eqi, cm_nei, tr_bl, Bool.not_false, if_true]
  cases u with
  | tup m =>
    by_cases hm : m.length = 3
    · obtain ⟨x, y, z, rfl⟩ := len3 hm
      have lm : ((0 + 1 + 1 + 1 : Nat) : Int) = 3 := rfl
      have p1 : exS (cb tab (d + 1)) (.ite (.or (.not (.val (.isi .tuple (.var 2)))) (.cm .ne (.bi .len (.cons (.var 2) .nil)) (.con (.int (3))))) (.cons (.ret (.con (.bl false)))
  .nil) .nil) [some (.val (picV q)), some (.val v), some (.val (.tup [x, y, z])), none] κ = .nx [some (.val (picV q)), some (.val v), some (.val (.tup [x, y, z])), none] κ := by
        simp only [exSs, exS, evE, evT, evEs, evA, evBs, evO, evOt, evI, bw, rdV, rdB, R.bind_ok, R.bind_exc, R.bind_bad, R.ofO_some, R.ofO_none, R.toO_ok, R.toO_exc, R.toO_bad, O.then_nx, O.then_ret, O.then_exc, O.then_bad, O.fin_nx, O.fin_ret, O.fin_exc, O.fin_bad, Option.map_some, Option.map_none, List.map_cons, List.map_nil, Ar.slot, List.cons_append, List.nil_append, List.length_cons, List.length_nil, List.getElem?_cons_zero, List.getElem?_cons_succ, List.set_cons_zero, List.set_cons_succ, parR, bi_abs, bi_inti, bi_intb, bi_lent, bi_lenl, bi_lens, bi_max, bi_min, bi_tupt, bi_tupl, bi_lstt, bi_lstl, isi_t, isi_l, isi_i, isi_b, isi_n, isi_s, reduceCtorEq, decide_true, decide_false, Bool.or_true, Bool.or_false, Bool.true_or, Bool.false_or, blV, ntV, ngV, intV, op_add, op_sub, cm_lt, cm_le, cm_gt, cm_ge, cm_eqi, cm_nei, tr_bl, evBs, lm, Bool.not_true, decide_true, if_true, if_false, Bool.false_eq_true]
      have c1 : evE (cb tab (d + 1)) (.comp (.con (.int (1))) (.nm 3) (.seq (.var 2)) (.yes (.not (.val (.call 22 (.cons (.var 3) (.cons (.con (.int (0))) (.cons (.con (.int (9))) .nil))))))) [3]) [some (.val (picV q)), some (.val v), some (.val (.tup [x, y, z])), none] κ = .ok (.lst (([x, y, z].filter fun u => !wholeV u 0 9).map fun _ => .int 1), κ) := by
        refine ev_compP (l := [x, y, z]) (g := fun _ => .int 1) (P := fun u => !wholeV u 0 9) rfl (by show 3 < LINE; decide) fun u hu' => ⟨[some (.val (picV q)), some (.val v), some (.val (.tup [x, y, z])), some (.val u)], rfl, ?_, fun _ => rfl⟩
        simp only [exSs, exS, evE, evT, evEs, evA, evBs, evO, evOt, evI, bw, rdV, rdB, R.bind_ok, R.bind_exc, R.bind_bad, R.ofO_some, R.ofO_none, R.toO_ok, R.toO_exc, R.toO_bad, O.then_nx, O.then_ret, O.then_exc, O.then_bad, O.fin_nx, O.fin_ret, O.fin_exc, O.fin_bad, Option.map_some, Option.map_none, List.map_cons, List.map_nil, Ar.slot, List.cons_append, List.nil_append, List.length_cons, List.length_nil, List.getElem?_cons_zero, List.getElem?_cons_succ, List.set_cons_zero, List.set_cons_succ, parR, bi_abs, bi_inti, bi_intb, bi_lent, bi_lenl, bi_lens, bi_max, bi_min, bi_tupt, bi_tupl, bi_lstt, bi_lstl, isi_t, isi_l, isi_i, isi_b, isi_n, isi_s, reduceCtorEq, decide_true, decide_false, Bool.or_true, Bool.or_false, Bool.true_or, Bool.false_or, blV, ntV, ngV, intV, op_add, op_sub, cm_lt, cm_le, cm_gt, cm_ge, cm_eqi, cm_nei, tr_bl, w u (datB_topD (dat_mem hu u hu'))]
      have ne : cmV .ne (.lst (([x, y, z].filter fun u => !wholeV u 0 9).map fun _ => .int 1)) (.lst []) = some (![x, y, z].all (wholeV · 0 9)) := by
        rw [cm_ne_nil (ones_dat 63 _), isE_map, filt_nil]
      have t1 : evT (cb tab (d + 1)) (.cm .ne (.comp (.con (.int (1))) (.nm 3) (.seq (.var 2)) (.yes (.not (.val (.call 22 (.cons (.var 3) (.cons (.con (.int (0))) (.cons (.con (.int (9))) .nil))))))) [3]) (.lst .nil)) [some (.val (picV q)), some (.val v), some (.val (.tup [x, y, z])), none] κ = .ok (![x, y, z].all (wholeV · 0 9), κ) := by
        show (R.bind (evE (cb tab (d + 1)) (.comp _ _ _ _ _) _ κ) _) = _
        rw [c1]
        simp only [exSs, exS, evE, evT, evEs, evA, evBs, evO, evOt, evI, bw, rdV, rdB, R.bind_ok, R.bind_exc, R.bind_bad, R.ofO_some, R.ofO_none, R.toO_ok, R.toO_exc, R.toO_bad, O.then_nx, O.then_ret, O.then_exc, O.then_bad, O.fin_nx, O.fin_ret, O.fin_exc, O.fin_bad, Option.map_some, Option.map_none, List.map_cons, List.map_nil, Ar.slot, List.cons_append, List.nil_append, List.length_cons, List.length_nil, List.getElem?_cons_zero, List.getElem?_cons_succ, List.set_cons_zero, List.set_cons_succ, parR, bi_abs, bi_inti, bi_intb, bi_lent, bi_lenl, bi_lens, bi_max, bi_min, bi_tupt, bi_tupl, bi_lstt, bi_lstl, isi_t, isi_l, isi_i, isi_b, isi_n, isi_s, reduceCtorEq, decide_true, decide_false, Bool.or_true, Bool.or_false, Bool.true_or, Bool.false_or, blV, ntV, ngV, intV, op_add, op_sub, cm_lt, cm_le, cm_gt, cm_ge, cm_eqi, cm_nei, tr_bl, le0, if_true, ne]
      cases hw : [x, y, z].all (wholeV · 0 9) with
      | false =>
        rw [hw] at t1
        have pf : partB q.length (.tup [x, y, z]) = false := by
          cases h : partB q.length (.tup [x, y, z]) with
          | false => rfl
          | true =>
            have := part_le (show (q.length : Int) ≤ 5 by omega) h
            rw [hw] at this
            cases this
        refine ⟨fun h => (by rw [pf] at h; cases h), fun _ => ?_⟩
        have t : evT (cb tab (d + 1)) (.or (.cm .ne (.comp (.con (.int (1))) (.nm 3) (.seq (.var 2)) (.yes (.not (.val (.call 22 (.cons (.var 3) (.cons (.con (.int (0))) (.cons (.con (.int (9))) .nil))))))) [3]) (.lst .nil)) (.cm .eq (.ix (.var 2) (.con (.int (0)))) (.con (.int (0))))) [some (.val (picV q)), some (.val v), some (.val (.tup [x, y, z])), none] κ = .ok (true, κ) := by
          rw [evT, t1]
          rfl
        unfold lsB
        rw [ss_nx p1]
        exact ss_ret (v := .bl false) (κ' := κ) ((ite_yes (a := .cons (.ret (.con (.bl false))) .nil) (b := .nil) t).trans rfl)
      | true =>
        rw [hw] at t1
        obtain ⟨ns, en, _, hb⟩ := wholes_ints hw
        obtain ⟨a, b, c, rfl⟩ : ∃ a b c, ns = [a, b, c] := by
          have := congrArg List.length en
          rw [List.length_map] at this
          match ns, this with
          | [a, b, c], _ => exact ⟨a, b, c, rfl⟩
        cases en
        have ha := hb a (by simp)
        have hbb := hb b (by simp)
        have hc := hb c (by simp)
        rw [part_ints]
        have t : evT (cb tab (d + 1)) (.or (.cm .ne (.comp (.con (.int (1))) (.nm 3) (.seq (.var 2)) (.yes (.not (.val (.call 22 (.cons (.var 3) (.cons (.con (.int (0))) (.cons (.con (.int (9))) .nil))))))) [3]) (.lst .nil)) (.cm .eq (.ix (.var 2) (.con (.int (0)))) (.con (.int (0))))) [some (.val (picV q)), some (.val v), some (.val (.tup [.int a, .int b, .int c])), none] κ = .ok (decide (a = 0), κ) := by
          rw [evT, t1]
          show R.bind (R.ok (!true, κ)) _ = _
          simp only [R.bind_ok, Bool.not_true, Bool.false_eq_true, if_false, exSs, exS, evE, evT, evEs, evA, evBs, evO, evOt, evI, bw, rdV, rdB, R.bind_ok, R.bind_exc, R.bind_bad, R.ofO_some, R.ofO_none, R.toO_ok, R.toO_exc, R.toO_bad, O.then_nx, O.then_ret, O.then_exc, O.then_bad, O.fin_nx, O.fin_ret, O.fin_exc, O.fin_bad, Option.map_some, Option.map_none, List.map_cons, List.map_nil, Ar.slot, List.cons_append, List.nil_append, List.length_cons, List.length_nil, List.getElem?_cons_zero, List.getElem?_cons_succ, List.set_cons_zero, List.set_cons_succ, parR, bi_abs, bi_inti, bi_intb, bi_lent, bi_lenl, bi_lens, bi_max, bi_min, bi_tupt, bi_tupl, bi_lstt, bi_lstl, isi_t, isi_l, isi_i, isi_b, isi_n, isi_s, reduceCtorEq, decide_true, decide_false, Bool.or_true, Bool.or_false, Bool.true_or, Bool.false_or, blV, ntV, ngV, intV, op_add, op_sub, cm_lt, cm_le, cm_gt, cm_ge, cm_eqi, cm_nei, tr_bl, ix_t0]
        by_cases h0 : a = 0
        · rw [decide_eq_true h0] at t
          refine ⟨fun h => ?_, fun _ => ?_⟩
          · simp only [Bool.and_eq_true, decide_eq_true_eq] at h
            omega
          · unfold lsB
            rw [ss_nx p1]
            exact ss_ret (v := .bl false) (κ' := κ) ((ite_yes (a := .cons (.ret (.con (.bl false))) .nil) (b := .nil) t).trans rfl)
        · rw [decide_eq_false h0] at t
          have p2 := (ite_no (a := .cons (.ret (.con (.bl false))) .nil) (b := .nil) t).trans rfl
          unfold lsB
          rw [ss_nx p1, ss_nx p2]
          by_cases h1 : c ≤ b
          · refine ⟨fun h => ?_, fun _ => ?_⟩
            · simp only [Bool.and_eq_true, decide_eq_true_eq] at h
              omega
            · simp only [exSs, exS, evE, evT, evEs, evA, evBs, evO, evOt, evI, bw, rdV, rdB, R.bind_ok, R.bind_exc, R.bind_bad, R.ofO_some, R.ofO_none, R.toO_ok, R.toO_exc, R.toO_bad, O.then_nx, O.then_ret, O.then_exc, O.then_bad, O.fin_nx, O.fin_ret, O.fin_exc, O.fin_bad, Option.map_some, Option.map_none, List.map_cons, List.map_nil, Ar.slot, List.cons_append, List.nil_append, List.length_cons, List.length_nil, List.getElem?_cons_zero, List.getElem?_cons_succ, List.set_cons_zero, List.set_cons_succ, parR, bi_abs, bi_inti, bi_intb, bi_lent, bi_lenl, bi_lens, bi_max, bi_min, bi_tupt, bi_tupl, bi_lstt, bi_lstl, isi_t, isi_l, isi_i, isi_b, isi_n, isi_s, reduceCtorEq, decide_true, decide_false, Bool.or_true, Bool.or_false, Bool.true_or, Bool.false_or, blV, ntV, ngV, intV, op_add, op_sub, cm_lt, cm_le, cm_gt, cm_ge, cm_eqi, cm_nei, tr_bl, ix_t1, ix_t2, h1, decide_true, if_true]
          · by_cases h2 : (q.length : Int) ≤ c
            · refine ⟨fun h => ?_, fun _ => ?_⟩
              · simp only [Bool.and_eq_true, decide_eq_true_eq] at h
                omega
              · simp only [exSs, exS, evE, evT, evEs, evA, evBs, evO, evOt, evI, bw, rdV, rdB, R.bind_ok, R.bind_exc, R.bind_bad, R.ofO_some, R.ofO_none, R.toO_ok, R.toO_exc, R.toO_bad, O.then_nx, O.then_ret, O.then_exc, O.then_bad, O.fin_nx, O.fin_ret, O.fin_exc, O.fin_bad, Option.map_some, Option.map_none, List.map_cons, List.map_nil, Ar.slot, List.cons_append, List.nil_append, List.length_cons, List.length_nil, List.getElem?_cons_zero, List.getElem?_cons_succ, List.set_cons_zero, List.set_cons_succ, parR, bi_abs, bi_inti, bi_intb, bi_lent, bi_lenl, bi_lens, bi_max, bi_min, bi_tupt, bi_tupl, bi_lstt, bi_lstl, isi_t, isi_l, isi_i, isi_b, isi_n, isi_s, reduceCtorEq, decide_true, decide_false, Bool.or_true, Bool.or_false, Bool.true_or, Bool.false_or, blV, ntV, ngV, intV, op_add, op_sub, cm_lt, cm_le, cm_gt, cm_ge, cm_eqi, cm_nei, tr_bl, evBs, len_pic, ix_t1, ix_t2, h1, h2, decide_true, decide_false, if_true, if_false, Bool.false_eq_true]
            · refine ⟨fun _ => ?_, fun h => ?_⟩
              · simp only [exSs, exS, evE, evT, evEs, evA, evBs, evO, evOt, evI, bw, rdV, rdB, R.bind_ok, R.bind_exc, R.bind_bad, R.ofO_some, R.ofO_none, R.toO_ok, R.toO_exc, R.toO_bad, O.then_nx, O.then_ret, O.then_exc, O.then_bad, O.fin_nx, O.fin_ret, O.fin_exc, O.fin_bad, Option.map_some, Option.map_none, List.map_cons, List.map_nil, Ar.slot, List.cons_append, List.nil_append, List.length_cons, List.length_nil, List.getElem?_cons_zero, List.getElem?_cons_succ, List.set_cons_zero, List.set_cons_succ, parR, bi_abs, bi_inti, bi_intb, bi_lent, bi_lenl, bi_lens, bi_max, bi_min, bi_tupt, bi_tupl, bi_lstt, bi_lstl, isi_t, isi_l, isi_i, isi_b, isi_n, isi_s, reduceCtorEq, decide_true, decide_false, Bool.or_true, Bool.or_false, Bool.true_or, Bool.false_or, blV, ntV, ngV, intV, op_add, op_sub, cm_lt, cm_le, cm_gt, cm_ge, cm_eqi, cm_nei, tr_bl, evBs, len_pic, ix_t1, ix_t2, h1, h2, decide_true, decide_false, if_true, if_false, Bool.false_eq_true]
              · exfalso
                rw [decide_eq_true (show 1 ≤ a by omega), decide_eq_true (show a ≤ 9 by omega), decide_eq_true (show 0 ≤ b by omega), decide_eq_true (show b ≤ (q.length : Int) - 2 by omega), decide_eq_true (show b + 1 ≤ c by omega), decide_eq_true (show c ≤ (q.length : Int) - 1 by omega)] at h
                cases h
    · refine ⟨fun h => (by rw [part_len hm] at h; cases h), fun _ => ?_⟩
      have lm : ((m.length : Int) = 3) = False := eq_false (by omega)
      simp only [lsB, exSs, exS, evE, evT, evEs, evA, evBs, evO, evOt, evI, bw, rdV, rdB, R.bind_ok, R.bind_exc, R.bind_bad, R.ofO_some, R.ofO_none, R.toO_ok, R.toO_exc, R.toO_bad, O.then_nx, O.then_ret, O.then_exc, O.then_bad, O.fin_nx, O.fin_ret, O.fin_exc, O.fin_bad, Option.map_some, Option.map_none, List.map_cons, List.map_nil, Ar.slot, List.cons_append, List.nil_append, List.length_cons, List.length_nil, List.getElem?_cons_zero, List.getElem?_cons_succ, List.set_cons_zero, List.set_cons_succ, parR, bi_abs, bi_inti, bi_intb, bi_lent, bi_lenl, bi_lens, bi_max, bi_min, bi_tupt, bi_tupl, bi_lstt, bi_lstl, isi_t, isi_l, isi_i, isi_b, isi_n, isi_s, reduceCtorEq, decide_true, decide_false, Bool.or_true, Bool.or_false, Bool.true_or, Bool.false_or, blV, ntV, ngV, intV, op_add, op_sub, cm_lt, cm_le, cm_gt, cm_ge, cm_eqi, cm_nei, tr_bl, evBs, lm, Bool.not_true, Bool.not_false, decide_true, decide_false, if_true, if_false, Bool.false_eq_true]
  | non => exact ⟨fun h => (by cases h), fun _ => nt _ rfl rfl⟩
  | bl _ => exact ⟨fun h => (by cases h), fun _ => nt _ rfl rfl⟩
  | int _ => exact ⟨fun h => (by cases h), fun _ => nt _ rfl rfl⟩
  | str _ => exact ⟨fun h => (by cases h), fun _ => nt _ rfl rfl⟩
  | lst _ => exact ⟨fun h => (by cases h), fun _ => nt _ rfl rfl⟩
  | fn _ => cases n <;> cases hu
  | cell _ => cases n <;> cases hu
  | scr _ => cases n <;> cases hu
theorem l_sum (d : Nat) {q : List Int} {v : Val} {n : Nat} (κ : Ks) (hq5 : q.length ≤ 5) (hv : datB n v = true) : (cb tab (d + 2)).cf 25 [.v (picV q), .v v] κ = .ok (.bl (sumB q.length v), κ) := by
  rw [cf_succ _ _ _ _ _ rfl rfl]
  cases v with
  | tup l =>
    have ni := notin123 l.length
    cases c1 : (decide ((1 : Int) ≤ l.length) && decide ((l.length : Int) ≤ 3)) with
    | false =>
      have sf : sumB q.length (.tup l) = false := by
        show ((decide ((1 : Int) ≤ l.length) && decide ((l.length : Int) ≤ 3)) && _) = false
        rw [c1]; rfl
      rw [sf]
      rw [c1] at ni
      simp only [ir__law_is_sum, List.replicate, Nat.reduceSub, exSs, exS, evE, evT, evEs, evA, evBs, evO, evOt, evI, bw, rdV, rdB, R.bind_ok, R.bind_exc, R.bind_bad, R.ofO_some, R.ofO_none, R.toO_ok, R.toO_exc, R.toO_bad, O.then_nx, O.then_ret, O.then_exc, O.then_bad, O.fin_nx, O.fin_ret, O.fin_exc, O.fin_bad, Option.map_some, Option.map_none, List.map_cons, List.map_nil, Ar.slot, List.cons_append, List.nil_append, List.length_cons, List.length_nil, List.getElem?_cons_zero, List.getElem?_cons_succ, List.set_cons_zero, List.set_cons_succ, parR, bi_abs, bi_inti, bi_intb, bi_lent, bi_lenl, bi_lens, bi_max, bi_min, bi_tupt, bi_tupl, bi_lstt, bi_lstl, isi_t, isi_l, isi_i, isi_b, isi_n, isi_s, reduceCtorEq, decide_true, decide_false, Bool.or_true, Bool.or_false, Bool.true_or, Bool.false_or, blV, ntV, ngV, intV, op_add, op_sub, cm_lt, cm_le, cm_gt, cm_ge, cm_eqi, cm_nei, tr_bl, evBs, le3, ni, Bool.not_true, Bool.not_false, decide_true, decide_false, if_true, if_false, Bool.false_eq_true]
    | true =>
      rw [c1] at ni
      have sf : sumB q.length (.tup l) = l.all (partB q.length) := by
        show ((decide ((1 : Int) ≤ l.length) && decide ((l.length : Int) ≤ 3)) && _) = _
        rw [c1]; rfl
      rw [sf]
      have p1 : exS (cb tab (d + 1)) (.ite (.or (.not (.val (.isi .tuple (.var 1)))) (.cm .notin (.bi .len (.cons (.var 1) .nil)) (.lst (.cons (.con (.int (1))) (.cons (.con (.int (2))) (.cons (.con (.int (3))) .nil)))))) (.cons (.ret (.con (.bl false)))
  .nil) .nil) [some (.val (picV q)), some (.val (.tup l)), none, none] κ = .nx [some (.val (picV q)), some (.val (.tup l)), none, none] κ := by
        simp only [exSs, exS, evE, evT, evEs, evA, evBs, evO, evOt, evI, bw, rdV, rdB, R.bind_ok, R.bind_exc, R.bind_bad, R.ofO_some, R.ofO_none, R.toO_ok, R.toO_exc, R.toO_bad, O.then_nx, O.then_ret, O.then_exc, O.then_bad, O.fin_nx, O.fin_ret, O.fin_exc, O.fin_bad, Option.map_some, Option.map_none, List.map_cons, List.map_nil, Ar.slot, List.cons_append, List.nil_append, List.length_cons, List.length_nil, List.getElem?_cons_zero, List.getElem?_cons_succ, List.set_cons_zero, List.set_cons_succ, parR, bi_abs, bi_inti, bi_intb, bi_lent, bi_lenl, bi_lens, bi_max, bi_min, bi_tupt, bi_tupl, bi_lstt, bi_lstl, isi_t, isi_l, isi_i, isi_b, isi_n, isi_s, reduceCtorEq, decide_true, decide_false, Bool.or_true, Bool.or_false, Bool.true_or, Bool.false_or, blV, ntV, ngV, intV, op_add, op_sub, cm_lt, cm_le, cm_gt, cm_ge, cm_eqi, cm_nei, tr_bl, evBs, le3, ni, Bool.not_true, Bool.not_false, decide_true, decide_false, if_true, if_false, Bool.false_eq_true]
      have key := loop_all (c := cb tab (d + 1)) (tg := .nm 2) (it := .seq (.var 1)) (b := lsB) (ρ := [some (.val (picV q)), some (.val (.tup l)), none, none]) (κ := κ) (l := l) (I := fun ρ => ∃ e, ρ = [some (.val (picV q)), some (.val (.tup l)), e, none]) (P := partB q.length) (w := .bl false) rfl ⟨none, rfl⟩ (fun u hu ρ ⟨e, er⟩ => by
        subst er
        obtain ⟨g1, g2⟩ := ls_step d (q := q) (v := .tup l) κ hq5 (dat_mem hv u hu)
        exact ⟨_, rfl, fun h => ⟨_, g1 h, _, rfl⟩, g2⟩)
      have hd : ∀ o, exS (cb tab (d + 1)) (.loop (.nm 2) (.seq (.var 1)) lsB) [some (.val (picV q)), some (.val (.tup l)), none, none] κ = o → exSs (cb tab (d + 1)) ir__law_is_sum [some (.val (picV q)), some (.val (.tup l)), none, none] κ = o.then fun ρ κ => exSs (cb tab (d + 1)) (.cons (.ret (.con (.bl true))) .nil) ρ κ := fun o ho => by
        unfold ir__law_is_sum
        rw [ss_nx p1, ← ho]
        rfl
      cases ha : l.all (partB q.length) with
      | true =>
        obtain ⟨ρ', e, x, er⟩ := key.1 ha
        subst er
        exact congrArg O.fin ((hd _ e).trans rfl)
      | false => exact congrArg O.fin ((hd _ (key.2 ha)).trans rfl)
  | non => simp only [ir__law_is_sum, List.replicate, Nat.reduceSub, exSs, exS, evE, evT, evEs, evA, evBs, evO, evOt, evI, bw, rdV, rdB, R.bind_ok, R.bind_exc, R.bind_bad, R.ofO_some, R.ofO_none, R.toO_ok, R.toO_exc, R.toO_bad, O.then_nx, O.then_ret, O.then_exc, O.then_bad, O.fin_nx, O.fin_ret, O.fin_exc, O.fin_bad, Option.map_some, Option.map_none, List.map_cons, List.map_nil, Ar.slot, List.cons_append, List.nil_append, List.length_cons, List.length_nil, List.getElem?_cons_zero, List.getElem?_cons_succ, List.set_cons_zero, List.set_cons_succ, parR, bi_abs, bi_inti, bi_intb, bi_lent, bi_lenl, bi_lens, bi_max, bi_min, bi_tupt, bi_tupl, bi_lstt, bi_lstl, isi_t, isi_l, isi_i, isi_b, isi_n, isi_s, reduceCtorEq, decide_true, decide_false, Bool.or_true, Bool.or_false, Bool.true_or, Bool.false_or, blV, ntV, ngV, intV, op_add, op_sub, cm_lt, cm_le, cm_gt, cm_ge, cm_eqi, cm_nei, tr_bl, evBs, Bool.not_false, if_true, sumB]
  | bl _ => simp only [ir__law_is_sum, List.replicate, Nat.reduceSub, exSs, exS, evE, evT, evEs, evA, evBs, evO, evOt, evI, bw, rdV, rdB, R.bind_ok, R.bind_exc, R.bind_bad, R.ofO_some, R.ofO_none, R.toO_ok, R.toO_exc, R.toO_bad, O.then_nx, O.then_ret, O.then_exc, O.then_bad, O.fin_nx, O.fin_ret, O.fin_exc, O.fin_bad, Option.map_some, Option.map_none, List.map_cons, List.map_nil, Ar.slot, List.cons_append, List.nil_append, List.length_cons, List.length_nil, List.getElem?_cons_zero, List.getElem?_cons_succ, List.set_cons_zero, List.set_cons_succ, parR, bi_abs, bi_inti, bi_intb, bi_lent, bi_lenl, bi_lens, bi_max, bi_min, bi_tupt, bi_tupl, bi_lstt, bi_lstl, isi_t, isi_l, isi_i, isi_b, isi_n, isi_s, reduceCtorEq, decide_true, decide_false, Bool.or_true, Bool.or_false, Bool.true_or, Bool.false_or, blV, ntV, ngV, intV, op_add, op_sub, cm_lt, cm_le, cm_gt, cm_ge, cm_eqi, cm_nei, tr_bl, evBs, Bool.not_false, if_true, sumB]
  | int _ => simp only [ir__law_is_sum, List.replicate, Nat.reduceSub, exSs, exS, evE, evT, evEs, evA, evBs, evO, evOt, evI, bw, rdV, rdB, R.bind_ok, R.bind_exc, R.bind_bad, R.ofO_some, R.ofO_none, R.toO_ok, R.toO_exc, R.toO_bad, O.then_nx, O.then_ret, O.then_exc, O.then_bad, O.fin_nx, O.fin_ret, O.fin_exc, O.fin_bad, Option.map_some, Option.map_none, List.map_cons, List.map_nil, Ar.slot, List.cons_append, List.nil_append, List.length_cons, List.length_nil, List.getElem?_cons_zero, List.getElem?_cons_succ, List.set_cons_zero, List.set_cons_succ, parR, bi_abs, bi_inti, bi_intb, bi_lent, bi_lenl, bi_lens, bi_max, bi_min, bi_tupt, bi_tupl, bi_lstt, bi_lstl, isi_t, isi_l, isi_i, isi_b, isi_n, isi_s, reduceCtorEq, decide_true, decide_false, Bool.or_true, Bool.or_false, Bool.true_or, Bool.false_or, blV, ntV, ngV, intV, op_add, op_sub, cm_lt, cm_le, cm_gt, cm_ge, cm_eqi, cm_nei, tr_bl, evBs, Bool.not_false, if_true, sumB]
  | str _ => simp only [ir__law_is_sum, List.replicate, Nat.reduceSub, exSs, exS, evE, evT, evEs, evA, evBs, evO, evOt, evI, bw, rdV, rdB, R.bind_ok, R.bind_exc, R.bind_bad, R.ofO_some, R.ofO_none, R.toO_ok, R.toO_exc, R.toO_bad, O.then_nx, O.then_ret, O.then_exc, O.then_bad, O.fin_nx, O.fin_ret, O.fin_exc, O.fin_bad, Option.map_some, Option.map_none, List.map_cons, List.map_nil, Ar.slot, List.cons_append, List.nil_append, List.length_cons, List.length_nil, List.getElem?_cons_zero, List.getElem?_cons_succ, List.set_cons_zero, List.set_cons_succ, parR, bi_abs, bi_inti, bi_intb, bi_lent, bi_lenl, bi_lens, bi_max, bi_min, bi_tupt, bi_tupl, bi_lstt, bi_lstl, isi_t, isi_l, isi_i, isi_b, isi_n, isi_s, reduceCtorEq, decide_true, decide_false, Bool.or_true, Bool.or_false, Bool.true_or, Bool.false_or, blV, ntV, ngV, intV, op_add, op_sub, cm_lt, cm_le, cm_gt, cm_ge, cm_eqi, cm_nei, tr_bl, evBs, Bool.not_false, if_true, sumB]
  | lst _ => simp only [ir__law_is_sum, List.replicate, Nat.reduceSub, exSs, exS, evE, evT, evEs, evA, evBs, evO, evOt, evI, bw, rdV, rdB, R.bind_ok, R.bind_exc, R.bind_bad, R.ofO_some, R.ofO_none, R.toO_ok, R.toO_exc, R.toO_bad, O.then_nx, O.then_ret, O.then_exc, O.then_bad, O.fin_nx, O.fin_ret, O.fin_exc, O.fin_bad, Option.map_some, Option.map_none, List.map_cons, List.map_nil, Ar.slot, List.cons_append, List.nil_append, List.length_cons, List.length_nil, List.getElem?_cons_zero, List.getElem?_cons_succ, List.set_cons_zero, List.set_cons_succ, parR, bi_abs, bi_inti, bi_intb, bi_lent, bi_lenl, bi_lens, bi_max, bi_min, bi_tupt, bi_tupl, bi_lstt, bi_lstl, isi_t, isi_l, isi_i, isi_b, isi_n, isi_s, reduceCtorEq, decide_true, decide_false, Bool.or_true, Bool.or_false, Bool.true_or, Bool.false_or, blV, ntV, ngV, intV, op_add, op_sub, cm_lt, cm_le, cm_gt, cm_ge, cm_eqi, cm_nei, tr_bl, evBs, Bool.not_false, if_true, sumB]
  | fn _ => cases n <;> cases hv
  | cell _ => cases n <;> cases hv
  | scr _ => cases n <;> cases hv
end K01
end
section
namespace PL
open PySem
theorem strOk_of (s : String) : PyData.strOk (Str.ofString s) = true := by
  rw [Str.ofString_eq_toList]
  unfold PyData.strOk
  rw [Array.all_eq_true]
  intro i hi
  have : (s.toList.map Char.toNat).toArray[i] ∈ (s.toList.map Char.toNat).toArray := Array.getElem_mem hi
  rw [List.mem_toArray] at this
  obtain ⟨c, _, e⟩ := List.mem_map.mp this
  rw [← e]
  have hv := c.valid
  have : c.toNat < 0x110000 := by
    show c.val.toNat < 0x110000
    rcases hv with h | h
    · have : c.val.toNat < 0xd800 := h
      omega
    · exact h.2
  exact decide_eq_true this
mutual
/-- data that was bent k times, of a depth -/
def okV (k : Nat) : Nat → Val → Bool
  | _, .non => true
  | _, .bl _ => true
  | _, .int i => decide (i.natAbs ≤ 100 + k * 2000000000)
  | _, .str x => PyData.strOk x
  | n + 1, .tup l => decide (l.length ≤ 20 + k) && okVs k n l
  | n + 1, .lst l => datBs n l
  | _, _ => false
def okVs (k : Nat) : Nat → List Val → Bool
  | _, [] => true
  | n, v :: l => okV k n v && okVs k n l
end
theorem okVs_cons (k n : Nat) (v : Val) (l : List Val) : okVs k n (v :: l) = (okV k n v && okVs k n l) := by cases n <;> rfl
theorem okVs_iff {k n : Nat} : ∀ {l : List Val}, okVs k n l = true ↔ ∀ v ∈ l, okV k n v = true
  | [] => by
    constructor
    · intro _ v hv; cases hv
    · intro _; cases n <;> rfl
  | v :: l => by
    rw [okVs_cons, Bool.and_eq_true, okVs_iff (l := l)]
    constructor
    · rintro ⟨h1, h2⟩ u hu
      rcases List.mem_cons.mp hu with e | e
      · subst e; exact h1
      · exact h2 u e
    · intro h
      exact ⟨h v List.mem_cons_self, fun u hu => h u (List.mem_cons_of_mem _ hu)⟩
theorem okV_tup {k n : Nat} {l : List Val} (h : okV k n (.tup l) = true) : ∃ m, n = m + 1 ∧ l.length ≤ 20 + k ∧ ∀ v ∈ l, okV k m v = true := by
  cases n with
  | zero => cases h
  | succ m =>
    have h : (decide (l.length ≤ 20 + k) && okVs k m l) = true := h
    obtain ⟨h1, h2⟩ := Bool.and_eq_true_iff.mp h
    exact ⟨m, rfl, of_decide_eq_true h1, okVs_iff.mp h2⟩
theorem tup_ok {k n : Nat} {l : List Val} (h : l.length ≤ 20 + k) (h2 : ∀ v ∈ l, okV k n v = true) : okV k (n + 1) (.tup l) = true := by
  show (decide (l.length ≤ 20 + k) && okVs k n l) = true
  rw [decide_eq_true h, okVs_iff.mpr h2]; rfl
mutual
theorem ok_dat : ∀ {k n : Nat} (v : Val), okV k n v = true → datB n v = true
  | k, n, .non, _ => by cases n <;> rfl
  | k, n, .bl _, _ => by cases n <;> rfl
  | k, n, .int _, _ => by cases n <;> rfl
  | k, n, .str x, h => by
    have : PyData.strOk x = true := by cases n <;> exact h
    cases n <;> exact this
  | k, 0, .tup l, h => by cases h
  | k, 0, .lst l, h => by cases h
  | k, n + 1, .tup l, h => by
    have h : (decide (l.length ≤ 20 + k) && okVs k n l) = true := h
    exact oks_dat l (Bool.and_eq_true_iff.mp h).2
  | k, n + 1, .lst l, h => h
  | k, n, .fn _, h => by cases n <;> cases h
  | k, n, .cell _, h => by cases n <;> cases h
  | k, n, .scr _, h => by cases n <;> cases h
theorem oks_dat : ∀ {k n : Nat} (l : List Val), okVs k n l = true → datBs n l = true
  | k, n, [], _ => by cases n <;> rfl
  | k, n, v :: l, h => by
    rw [okVs_cons] at h
    obtain ⟨h1, h2⟩ := Bool.and_eq_true_iff.mp h
    have e1 : datBs n (v :: l) = (datB n v && datBs n l) := by cases n <;> rfl
    rw [e1, ok_dat v h1, oks_dat l h2]; rfl
end
mutual
theorem ok_mono : ∀ {k k' n n' : Nat} (v : Val), k ≤ k' → n ≤ n' → okV k n v = true → okV k' n' v = true
  | k, k', n, n', .non, _, _, _ => by cases n' <;> rfl
  | k, k', n, n', .bl _, _, _, _ => by cases n' <;> rfl
  | k, k', n, n', .int i, hk, _, h => by
    have h : decide (i.natAbs ≤ 100 + k * 2000000000) = true := by cases n <;> exact h
    have : decide (i.natAbs ≤ 100 + k' * 2000000000) = true := by
      rw [decide_eq_true_iff] at h ⊢
      exact Nat.le_trans h (Nat.add_le_add_left (Nat.mul_le_mul_right _ hk) _)
    cases n' <;> exact this
  | k, k', n, n', .str x, _, _, h => by
    have : PyData.strOk x = true := by cases n <;> exact h
    cases n' <;> exact this
  | k, k', 0, n', .tup l, _, _, h => by cases h
  | k, k', 0, n', .lst l, _, _, h => by cases h
  | k, k', n + 1, 0, .tup l, _, hn, _ => absurd hn (by omega)
  | k, k', n + 1, 0, .lst l, _, hn, _ => absurd hn (by omega)
  | k, k', n + 1, n' + 1, .tup l, hk, hn, h => by
    have h : (decide (l.length ≤ 20 + k) && okVs k n l) = true := h
    obtain ⟨h1, h2⟩ := Bool.and_eq_true_iff.mp h
    show (decide (l.length ≤ 20 + k') && okVs k' n' l) = true
    rw [decide_eq_true (by have := of_decide_eq_true h1; omega), oks_mono l hk (show n ≤ n' by omega) h2]; rfl
  | k, k', n + 1, n' + 1, .lst l, _, hn, h => datBs_mono l (show n ≤ n' by omega) h
  | k, k', n, n', .fn _, _, _, h => by cases n <;> cases h
  | k, k', n, n', .cell _, _, _, h => by cases n <;> cases h
  | k, k', n, n', .scr _, _, _, h => by cases n <;> cases h
theorem oks_mono : ∀ {k k' n n' : Nat} (l : List Val), k ≤ k' → n ≤ n' → okVs k n l = true → okVs k' n' l = true
  | k, k', n, n', [], _, _, _ => by cases n' <;> rfl
  | k, k', n, n', v :: l, hk, hn, h => by
    rw [okVs_cons] at h
    obtain ⟨h1, h2⟩ := Bool.and_eq_true_iff.mp h
    rw [okVs_cons, ok_mono v hk hn h1, oks_mono l hk hn h2]; rfl
end
theorem small {k n : Nat} (i : Int) (h : i.natAbs ≤ 100) : okV k n (.int i) = true := by
  have : decide (i.natAbs ≤ 100 + k * 2000000000) = true := decide_eq_true (Nat.le_trans h (Nat.le_add_right _ _))
  cases n <;> exact this
theorem sl_from1 (l : List Val) : slV (.tup l) (some 1) none = some (.tup (l.drop 1)) := by
  cases l with
  | nil => rfl
  | cons a l => exact sl_from (l := a :: l) (i := 1) (by simp)
theorem rv_tup (l : List Val) : rvV (.tup l) = some (.tup l.reverse) := rfl
theorem le8 : (0 + 1 + 1 + 1 + 1 + 1 + 1 + 1 + 1 ≤ LINE) = True := eq_true (by decide)
theorem ne_unit {n : Nat} {l : List Val} (h : datB n (.tup l) = true) (hn : n ≤ 64) : cmV .ne (.tup l) (.tup []) = some (!l.isEmpty) := by
  rw [cm_neT (v := .tup l) (w := .tup []) (datB_mono _ hn h) rfl]
  cases l <;> rfl
theorem bi_str {i : Int} (h : i.natAbs < 2 ^ 64) : biV .str [.int i] = some (.str (toString i)) := by
  show (if i.natAbs < 2 ^ 64 then some (Val.str (toString i)) else none) = _
  rw [if_pos h]
theorem okc {k n : Nat} {l : List Val} (h : okVs k n l = true) : ∀ v ∈ l, okV k n v = true := okVs_iff.mp h
mutual
theorem eqT_refl : ∀ (v : Val) (n : Nat), datB n v = true → eqT v v = true
  | .non, _, _ => rfl
  | .bl b, _, _ => by cases b <;> rfl
  | .int i, _, _ => by simp [eqT]
  | .str x, _, _ => by simp [eqT]
  | .tup l, n + 1, h => eqTs_refl l n h
  | .lst l, n + 1, h => eqTs_refl l n h
  | .tup l, 0, h => by cases h
  | .lst l, 0, h => by cases h
  | .fn _, n, h => by cases n <;> cases h
  | .cell _, n, h => by cases n <;> cases h
  | .scr _, n, h => by cases n <;> cases h
theorem eqTs_refl : ∀ (l : List Val) (n : Nat), datBs n l = true → eqTs l l = true
  | [], _, _ => rfl
  | v :: l, n, h => by
    have e1 : datBs n (v :: l) = (datB n v && datBs n l) := by cases n <;> rfl
    rw [e1] at h
    obtain ⟨h1, h2⟩ := Bool.and_eq_true_iff.mp h
    show (eqT v v && eqTs l l) = true
    rw [eqT_refl v n h1, eqTs_refl l n h2]; rfl
end
end PL
namespace K01
open PySem PL
theorem bent_leaf (k d : Nat) {n : Nat} {v : Val} {κ : Ks} {i : Nat} (hk : k ≤ 50) (hS : Spr κ i) (hv : okV k n v = true) (ht : ∀ l, v ≠ .tup l) : ∃ w κ', (cb tab (d + 4)).cf 28 [.v (.cell i), .v v] κ = .ok (w, κ') ∧ okV (k + 1) (n + 1) w = true ∧ Spr κ' i ∧ κ'.length = κ.length := by
  rw [cf_succ _ _ _ _ _ rfl rfl]
  have up : ∀ w, okV (k + 1) 1 w = true → okV (k + 1) (n + 1) w = true := fun w h => ok_mono w (Nat.le_refl _) (by omega) h
  have other : ∀ b, isiV .tuple v = some false → isiV .str v = some false → isiV .bool v = some b → (b = true ∨ isiV .int v = some false) → ∃ w κ', (exSs (cb tab (d + 3)) ir__law_bent [some (.val (.cell i)), some (.val v), none] κ).fin = .ok (w, κ') ∧ okV (k + 1) (n + 1) w = true ∧ Spr κ' i ∧ κ'.length = κ.length := by
    intro b h1 h2 h3 h4
    obtain ⟨w, κ', e, hw, hS', hl⟩ := s_chosen (d + 1) hS (l := [.non, .int 0, .bl true, .tup [], .str "same", .lst [.int 1, .int 2]]) (by decide) (by decide)
    refine ⟨w, κ', ?_, up w (okc (n := 1) (by simp only [okVs, okV, datBs, datB, Bool.and_eq_true, decide_eq_true_eq]; refine ⟨trivial, by simp, trivial, ⟨by simp, trivial⟩, by decide +kernel, ⟨trivial, trivial, trivial⟩, trivial⟩) w hw), hS', hl⟩
    rcases h4 with h4 | h4
    · subst h4
      simp only [ir__law_bent, exSs, exS, evT, evE, evA, evEs, evI, bw, rdV, R.bind_ok, R.ofO_some, R.toO_ok, O.then_nx, O.then_ret, O.fin_ret, Option.map_some, List.getElem?_cons_zero, List.getElem?_cons_succ, List.length_cons, List.length_nil, h1, h2, h3, tr_bl, if_true, if_false, Bool.false_eq_true, le0, le2, le6, e]
    · cases b with
      | true => simp only [ir__law_bent, exSs, exS, evT, evE, evA, evEs, evI, bw, rdV, R.bind_ok, R.ofO_some, R.toO_ok, O.then_nx, O.then_ret, O.fin_ret, Option.map_some, List.getElem?_cons_zero, List.getElem?_cons_succ, List.length_cons, List.length_nil, h1, h2, h3, tr_bl, if_true, if_false, Bool.false_eq_true, le0, le2, le6, e]
      | false => simp only [ir__law_bent, exSs, exS, evT, evE, evA, evEs, evI, bw, rdV, R.bind_ok, R.ofO_some, R.toO_ok, O.then_nx, O.then_ret, O.fin_ret, Option.map_some, List.getElem?_cons_zero, List.getElem?_cons_succ, List.length_cons, List.length_nil, h1, h2, h3, h4, tr_bl, Bool.not_false, if_true, if_false, Bool.false_eq_true, le0, le2, le6, e]
  cases v with
  | tup l => exact absurd rfl (ht l)
  | fn _ => cases n <;> cases hv
  | cell _ => cases n <;> cases hv
  | scr _ => cases n <;> cases hv
  | non => exact other false rfl rfl rfl (.inr rfl)
  | bl b => exact other true rfl rfl rfl (.inl rfl)
  | lst l => exact other false rfl rfl rfl (.inr rfl)
  | str x =>
    obtain ⟨w, κ', e, hw, hS', hl⟩ := s_chosen (d + 1) hS (l := [.str "less", .str "more", .str "upto", .str "", .str "Same", .int 0]) (by decide) (by decide)
    refine ⟨w, κ', ?_, up w (okc (n := 1) (by simp only [okVs, okV, Bool.and_eq_true, decide_eq_true_eq]; refine ⟨by decide +kernel, by decide +kernel, by decide +kernel, by decide +kernel, by decide +kernel, by simp, trivial⟩) w hw), hS', hl⟩
    simp only [ir__law_bent, List.replicate, Nat.reduceSub, exSs, exS, evE, evT, evEs, evA, evBs, evO, evOt, evI, bw, rdV, rdB, R.bind_ok, R.bind_exc, R.bind_bad, R.ofO_some, R.ofO_none, R.toO_ok, R.toO_exc, R.toO_bad, O.then_nx, O.then_ret, O.then_exc, O.then_bad, O.fin_nx, O.fin_ret, O.fin_exc, O.fin_bad, Option.map_some, Option.map_none, List.map_cons, List.map_nil, Ar.slot, List.cons_append, List.nil_append, List.length_cons, List.length_nil, List.getElem?_cons_zero, List.getElem?_cons_succ, List.set_cons_zero, List.set_cons_succ, parR, bi_abs, bi_inti, bi_intb, bi_lent, bi_lenl, bi_lens, bi_max, bi_min, bi_tupt, bi_tupl, bi_lstt, bi_lstl, isi_t, isi_l, isi_i, isi_b, isi_n, isi_s, reduceCtorEq, decide_true, decide_false, Bool.or_true, Bool.or_false, Bool.true_or, Bool.false_or, blV, ntV, ngV, intV, op_add, op_sub, cm_lt, cm_le, cm_gt, cm_ge, cm_eqi, cm_nei, tr_bl, if_true, if_false, Bool.false_eq_true, le6, e]
  | int x =>
    have hx : x.natAbs ≤ 100 + k * 2000000000 := by
      have h : decide (x.natAbs ≤ 100 + k * 2000000000) = true := by cases n <;> exact hv
      rwa [decide_eq_true_iff] at h
    have st := bi_str (i := x) (by omega)
    obtain ⟨w, κ', e, hw, hS', hl⟩ := s_chosen (d + 1) hS (l := [.int (x + 1), .int (x - 1), .int (-x), .bl true, .str (toString x), .int (x + 58), .int (1000000000 + x), .non]) (by simp) (by simp)
    refine ⟨w, κ', ?_, up w (okc (n := 1) (by simp only [okVs, okV, Bool.and_eq_true, decide_eq_true_eq]; refine ⟨by omega, by omega, by omega, trivial, strOk_of _, by omega, by omega, trivial, trivial⟩) w hw), hS', hl⟩
    simp only [ir__law_bent, List.replicate, Nat.reduceSub, exSs, exS, evE, evT, evEs, evA, evBs, evO, evOt, evI, bw, rdV, rdB, R.bind_ok, R.bind_exc, R.bind_bad, R.ofO_some, R.ofO_none, R.toO_ok, R.toO_exc, R.toO_bad, O.then_nx, O.then_ret, O.then_exc, O.then_bad, O.fin_nx, O.fin_ret, O.fin_exc, O.fin_bad, Option.map_some, Option.map_none, List.map_cons, List.map_nil, Ar.slot, List.cons_append, List.nil_append, List.length_cons, List.length_nil, List.getElem?_cons_zero, List.getElem?_cons_succ, List.set_cons_zero, List.set_cons_succ, parR, bi_abs, bi_inti, bi_intb, bi_lent, bi_lenl, bi_lens, bi_max, bi_min, bi_tupt, bi_tupl, bi_lstt, bi_lstl, isi_t, isi_l, isi_i, isi_b, isi_n, isi_s, reduceCtorEq, decide_true, decide_false, Bool.or_true, Bool.or_false, Bool.true_or, Bool.false_or, blV, ntV, ngV, intV, op_add, op_sub, cm_lt, cm_le, cm_gt, cm_ge, cm_eqi, cm_nei, tr_bl, evBs, st, pow9, Bool.not_true, if_true, if_false, Bool.false_eq_true, le8, e]
abbrev bnR (i : Nat) (v : Val) (e : Option PL.Slot) : Rho := [some (.val (.cell i)), some (.val v), e]
abbrev bnI : S := (.ite (.and (.val (.isi .tuple (.var 1))) (.and (.cm .ne (.var 1) (.tup .nil)) (.cm .gt (.call 13 (.cons (.var 0) (.cons (.con (.int (5))) .nil))) (.con (.int (0)))))) (.cons (.set 2 (.call 13 (.cons (.var 0) (.cons (.bi .len (.cons (.var 1) .nil)) .nil))))
  (.cons (.ret (.op .add (.op .add (.sl (.var 1) .no (.yes (.var 2))) (.tup (.cons (.call 28 (.cons (.var 0) (.cons (.ix (.var 1) (.var 2)) .nil))) .nil))) (.sl (.var 1) (.yes (.op .add (.var 2) (.con (.int (1))))) .no)))
  .nil)) .nil)
/-- the second way of a tuple -/
theorem bent_way2 (k d : Nat) {n : Nat} {l : List Val} {κ κ0 : Ks} {i : Nat} (hk : k ≤ 50) (hS : Spr κ i) (hv : okV k (n + 1) (.tup l) = true) (h1 : exS (cb tab (d + 3)) bnI (bnR i (.tup l) none) κ0 = .nx (bnR i (.tup l) none) κ) : ∃ w κ', (exSs (cb tab (d + 3)) ir__law_bent (bnR i (.tup l) none) κ0).fin = .ok (w, κ') ∧ okV (k + 1) (n + 2) w = true ∧ Spr κ' i ∧ κ'.length = κ.length := by
  obtain ⟨m, em, hl, hm⟩ := okV_tup hv
  cases em
  have up : ∀ v ∈ l, okV (k + 1) (n + 1) v = true := fun v hv => ok_mono v (Nat.le_succ k) (Nat.le_succ n) (hm v hv)
  have ad : opV .add (.tup l) (.tup (l.drop (l.length - 1))) = some (.tup (l ++ l.drop (l.length - 1))) := op_tup (by rw [List.length_drop]; omega)
  obtain ⟨w, κ', e, hw, hS', hl2⟩ := s_chosen (d + 1) hS (l := [.lst l, .tup (l.drop 1), .tup (l ++ l.drop (l.length - 1)), .tup l.reverse, .tup [], .tup [.int 1, .int 0, .int 1], .tup [.int 0, .int 1]]) (by simp) (by simp)
  refine ⟨w, κ', ?_, ?_, hS', hl2⟩
  · have z1 : evE (cb tab (d + 3)) (.lst (.cons (.bi .list (.cons (.var 1) .nil)) (.cons (.sl (.var 1) (.yes (.con (.int (1)))) .no) (.cons (.op .add (.var 1) (.sl (.var 1) (.yes (.neg (.con (.int (1))))) .no)) (.cons (.rev (.var 1)) (.cons (.tup .nil) (.cons (.tup (.cons (.con (.int (1))) (.cons (.con (.int (0))) (.cons (.con (.int (1))) .nil)))) (.cons (.tup (.cons (.con (.int (0))) (.cons (.con (.int (1))) .nil))) .nil)))))))) (bnR i (.tup l) none) κ = .ok (.lst [.lst l, .tup (l.drop 1), .tup (l ++ l.drop (l.length - 1)), .tup l.reverse, .tup [], .tup [.int 1, .int 0, .int 1], .tup [.int 0, .int 1]], κ) := by
      have s1 := sl_from1 l
      have s2 := sl_tail1 (l := l)
      simp only [exSs, exS, evE, evT, evEs, evA, evBs, evO, evOt, evI, bw, rdV, rdB, R.bind_ok, R.bind_exc, R.bind_bad, R.ofO_some, R.ofO_none, R.toO_ok, R.toO_exc, R.toO_bad, O.then_nx, O.then_ret, O.then_exc, O.then_bad, O.fin_nx, O.fin_ret, O.fin_exc, O.fin_bad, Option.map_some, Option.map_none, List.map_cons, List.map_nil, Ar.slot, List.cons_append, List.nil_append, List.length_cons, List.length_nil, List.getElem?_cons_zero, List.getElem?_cons_succ, List.set_cons_zero, List.set_cons_succ, parR, bi_abs, bi_inti, bi_intb, bi_lent, bi_lenl, bi_lens, bi_max, bi_min, bi_tupt, bi_tupl, bi_lstt, bi_lstl, isi_t, isi_l, isi_i, isi_b, isi_n, isi_s, reduceCtorEq, decide_true, decide_false, Bool.or_true, Bool.or_false, Bool.true_or, Bool.false_or, blV, ntV, ngV, intV, op_add, op_sub, cm_lt, cm_le, cm_gt, cm_ge, cm_eqi, cm_nei, tr_bl, evBs, s1, s2, ad, rv_tup, le0, le2, le3, le7, if_true]
    unfold ir__law_bent
    rw [ss_nx h1]
    have h2 : exS (cb tab (d + 3)) (.ite (.val (.isi .tuple (.var 1))) (.cons (.ret (.call 14 (.cons (.var 0) (.cons (.lst (.cons (.bi .list (.cons (.var 1) .nil)) (.cons (.sl (.var 1) (.yes (.con (.int (1)))) .no) (.cons (.op .add (.var 1) (.sl (.var 1) (.yes (.neg (.con (.int (1))))) .no)) (.cons (.rev (.var 1)) (.cons (.tup .nil) (.cons (.tup (.cons (.con (.int (1))) (.cons (.con (.int (0))) (.cons (.con (.int (1))) .nil)))) (.cons (.tup (.cons (.con (.int (0))) (.cons (.con (.int (1))) .nil))) .nil)))))))) .nil))))
  .nil) .nil) (bnR i (.tup l) none) κ = .ret w κ' := by
      have t : evT (cb tab (d + 3)) (.val (.isi .tuple (.var 1))) (bnR i (.tup l) none) κ = .ok (true, κ) := by
        simp only [exSs, exS, evE, evT, evEs, evA, evBs, evO, evOt, evI, bw, rdV, rdB, R.bind_ok, R.bind_exc, R.bind_bad, R.ofO_some, R.ofO_none, R.toO_ok, R.toO_exc, R.toO_bad, O.then_nx, O.then_ret, O.then_exc, O.then_bad, O.fin_nx, O.fin_ret, O.fin_exc, O.fin_bad, Option.map_some, Option.map_none, List.map_cons, List.map_nil, Ar.slot, List.cons_append, List.nil_append, List.length_cons, List.length_nil, List.getElem?_cons_zero, List.getElem?_cons_succ, List.set_cons_zero, List.set_cons_succ, parR, bi_abs, bi_inti, bi_intb, bi_lent, bi_lenl, bi_lens, bi_max, bi_min, bi_tupt, bi_tupl, bi_lstt, bi_lstl, isi_t, isi_l, isi_i, isi_b, isi_n, isi_s, reduceCtorEq, decide_true, decide_false, Bool.or_true, Bool.or_false, Bool.true_or, Bool.false_or, blV, ntV, ngV, intV, op_add, op_sub, cm_lt, cm_le, cm_gt, cm_ge, cm_eqi, cm_nei, tr_bl]
      rw [ite_yes t]
      refine ss_ret (ev_retE ?_)
      rw [ev_callE (ev_args2 (x := .cell i) rfl z1)]
      exact e
    rw [ss_ret h2]
    rfl
  · refine okc (n := n + 2) (okVs_iff.mpr ?_) w hw
    refine all_c ?_ (all_c ?_ (all_c ?_ (all_c ?_ (all_c ?_ (all_c ?_ (all_c ?_ all_n))))))
    · have := ok_dat _ hv
      exact datBs_mono l (Nat.le_succ n) (show datBs n l = true from this)
    · exact tup_ok (by rw [List.length_drop]; omega) fun v hv => up v (List.mem_of_mem_drop hv)
    · refine tup_ok (by rw [List.length_append, List.length_drop]; omega) fun v hv => ?_
      rcases List.mem_append.mp hv with h | h
      · exact up v h
      · exact up v (List.mem_of_mem_drop h)
    · exact tup_ok (by rw [List.length_reverse]; omega) fun v hv => up v (List.mem_reverse.mp hv)
    · exact tup_ok (by simp) fun v hv => by cases hv
    · exact tup_ok (by simp only [List.length_cons, List.length_nil]; omega) (all_c (small _ (by decide)) (all_c (small _ (by decide)) (all_c (small _ (by decide)) all_n)))
    · exact tup_ok (by simp only [List.length_cons, List.length_nil]; omega) (all_c (small _ (by decide)) (all_c (small _ (by decide)) all_n))
theorem s_bent (k : Nat) (hk : k ≤ 50) : ∀ (n : Nat) (v : Val) (κ : Ks) (i d : Nat), Spr κ i → okV k n v = true → n ≤ 60 → n ≤ d → ∃ w κ', (cb tab (d + 4)).cf 28 [.v (.cell i), .v v] κ = .ok (w, κ') ∧ okV (k + 1) (n + 1) w = true ∧ Spr κ' i ∧ κ'.length = κ.length
  | 0, v, κ, i, d, hS, hv, _, _ => bent_leaf k d hk hS hv fun l e => by subst e; cases hv
  | n + 1, v, κ, i, d, hS, hv, hn, hd => by
    cases v with
    | tup l =>
      obtain ⟨m, em, hl, hm⟩ := okV_tup hv
      cases em
      have ne := ne_unit (ok_dat _ hv) (by omega)
      obtain ⟨d', rfl⟩ : ∃ d', d = d' + 1 := ⟨d - 1, by omega⟩
      rw [cf_succ _ _ _ _ _ rfl rfl]
      show ∃ w κ', (exSs (cb tab (d' + 4)) ir__law_bent (bnR i (.tup l) none) κ).fin = _ ∧ _
      cases l with
      | nil =>
        exact bent_way2 k (d' + 1) hk hS hv (by
          have t : evT (cb tab (d' + 4)) (.and (.val (.isi .tuple (.var 1))) (.and (.cm .ne (.var 1) (.tup .nil)) (.cm .gt (.call 13 (.cons (.var 0) (.cons (.con (.int (5))) .nil))) (.con (.int (0)))))) (bnR i (.tup []) none) κ = .ok (false, κ) := by
            have ne : cmV .ne (.tup []) (.tup []) = some false := ne
            simp only [exSs, exS, evE, evT, evEs, evA, evBs, evO, evOt, evI, bw, rdV, rdB, R.bind_ok, R.bind_exc, R.bind_bad, R.ofO_some, R.ofO_none, R.toO_ok, R.toO_exc, R.toO_bad, O.then_nx, O.then_ret, O.then_exc, O.then_bad, O.fin_nx, O.fin_ret, O.fin_exc, O.fin_bad, Option.map_some, Option.map_none, List.map_cons, List.map_nil, Ar.slot, List.cons_append, List.nil_append, List.length_cons, List.length_nil, List.getElem?_cons_zero, List.getElem?_cons_succ, List.set_cons_zero, List.set_cons_succ, parR, bi_abs, bi_inti, bi_intb, bi_lent, bi_lenl, bi_lens, bi_max, bi_min, bi_tupt, bi_tupl, bi_lstt, bi_lstl, isi_t, isi_l, isi_i, isi_b, isi_n, isi_s, reduceCtorEq, decide_true, decide_false, Bool.or_true, Bool.or_false, Bool.true_or, Bool.false_or, blV, ntV, ngV, intV, op_add, op_sub, cm_lt, cm_le, cm_gt, cm_ge, cm_eqi, cm_nei, tr_bl, le0, if_true, ne, if_false, Bool.false_eq_true]
          exact (ite_no t).trans rfl)
      | cons u us =>
        obtain ⟨r, κ1, e1, r0, r1, hS1, hl1⟩ := s_pick (d' + 3) hS (m := 5) (by decide) (by decide)
        have ne : cmV .ne (.tup (u :: us)) (.tup []) = some true := ne
        by_cases h0 : 0 < r
        · have t : evT (cb tab (d' + 4)) (.and (.val (.isi .tuple (.var 1))) (.and (.cm .ne (.var 1) (.tup .nil)) (.cm .gt (.call 13 (.cons (.var 0) (.cons (.con (.int (5))) .nil))) (.con (.int (0)))))) (bnR i (.tup (u :: us)) none) κ = .ok (true, κ1) := by
            simp only [exSs, exS, evE, evT, evEs, evA, evBs, evO, evOt, evI, bw, rdV, rdB, R.bind_ok, R.bind_exc, R.bind_bad, R.ofO_some, R.ofO_none, R.toO_ok, R.toO_exc, R.toO_bad, O.then_nx, O.then_ret, O.then_exc, O.then_bad, O.fin_nx, O.fin_ret, O.fin_exc, O.fin_bad, Option.map_some, Option.map_none, List.map_cons, List.map_nil, Ar.slot, List.cons_append, List.nil_append, List.length_cons, List.length_nil, List.getElem?_cons_zero, List.getElem?_cons_succ, List.set_cons_zero, List.set_cons_succ, parR, bi_abs, bi_inti, bi_intb, bi_lent, bi_lenl, bi_lens, bi_max, bi_min, bi_tupt, bi_tupl, bi_lstt, bi_lstl, isi_t, isi_l, isi_i, isi_b, isi_n, isi_s, reduceCtorEq, decide_true, decide_false, Bool.or_true, Bool.or_false, Bool.true_or, Bool.false_or, blV, ntV, ngV, intV, op_add, op_sub, cm_lt, cm_le, cm_gt, cm_ge, cm_eqi, cm_nei, tr_bl, le0, if_true, ne, e1, h0, decide_true]
          generalize hL : u :: us = L at *
          have L1 : 1 ≤ L.length := by rw [← hL]; simp
          obtain ⟨p, κ2, e2, p0, p1, hS2, hl2⟩ := s_pick (d' + 3) hS1 (m := (L.length : Int)) (by omega) (by omega)
          obtain ⟨P, rfl⟩ : ∃ P : Nat, p = (P : Int) := ⟨p.toNat, by omega⟩
          have hP : P < L.length := by omega
          obtain ⟨w, κ3, e3, hw, hS3, hl3⟩ := s_bent k hk n L[P] κ2 i d' hS2 (hm _ (List.getElem_mem hP)) (by omega) (by omega)
          have ix : ixV κ2 (.tup L) (.int (P : Int)) = some L[P] := ix_tup (by rw [atI_nat hP]; exact List.getElem?_eq_getElem hP)
          have c1 := sl_to (l := L) (i := P) (by omega)
          have c2 : slV (.tup L) (some ((P : Int) + 1)) none = some (.tup (L.drop (P + 1))) := by
            have := sl_from (l := L) (i := P + 1) (by omega)
            rwa [show ((P + 1 : Nat) : Int) = (P : Int) + 1 by omega] at this
          have a1 : opV .add (.tup (L.take P)) (.tup [w]) = some (.tup (L.take P ++ [w])) := op_tup (by rw [List.length_take]; simp; omega)
          have a2 : opV .add (.tup (L.take P ++ [w])) (.tup (L.drop (P + 1))) = some (.tup (L.take P ++ [w] ++ L.drop (P + 1))) := op_tup (by rw [List.length_append, List.length_take, List.length_drop]; simp; omega)
          refine ⟨.tup (L.take P ++ [w] ++ L.drop (P + 1)), κ3, ?_, tup_ok (by rw [List.length_append, List.length_append, List.length_take, List.length_drop]; simp; omega) fun v hv => ?_, hS3, by omega⟩
          · unfold ir__law_bent
            refine (congrArg O.fin (ss_ret (v := .tup (L.take P ++ [w] ++ L.drop (P + 1))) (κ' := κ3) ((ite_yes t).trans ?_))).trans rfl
            simp only [exSs, exS, evE, evT, evEs, evA, evBs, evO, evOt, evI, bw, rdV, rdB, R.bind_ok, R.bind_exc, R.bind_bad, R.ofO_some, R.ofO_none, R.toO_ok, R.toO_exc, R.toO_bad, O.then_nx, O.then_ret, O.then_exc, O.then_bad, O.fin_nx, O.fin_ret, O.fin_exc, O.fin_bad, Option.map_some, Option.map_none, List.map_cons, List.map_nil, Ar.slot, List.cons_append, List.nil_append, List.length_cons, List.length_nil, List.getElem?_cons_zero, List.getElem?_cons_succ, List.set_cons_zero, List.set_cons_succ, parR, bi_abs, bi_inti, bi_intb, bi_lent, bi_lenl, bi_lens, bi_max, bi_min, bi_tupt, bi_tupl, bi_lstt, bi_lstl, isi_t, isi_l, isi_i, isi_b, isi_n, isi_s, reduceCtorEq, decide_true, decide_false, Bool.or_true, Bool.or_false, Bool.true_or, Bool.false_or, blV, ntV, ngV, intV, op_add, op_sub, cm_lt, cm_le, cm_gt, cm_ge, cm_eqi, cm_nei, tr_bl, evBs, e2, c1, c2, ix, e3, le1, if_true, a1, a2]
          · rcases List.mem_append.mp hv with h | h
            · rcases List.mem_append.mp h with h | h
              · exact ok_mono v (Nat.le_succ k) (Nat.le_succ n) (hm v (List.mem_of_mem_take h))
              · cases List.mem_singleton.mp h
                exact hw
            · exact ok_mono v (Nat.le_succ k) (Nat.le_succ n) (hm v (List.mem_of_mem_drop h))
        · have t : evT (cb tab (d' + 4)) (.and (.val (.isi .tuple (.var 1))) (.and (.cm .ne (.var 1) (.tup .nil)) (.cm .gt (.call 13 (.cons (.var 0) (.cons (.con (.int (5))) .nil))) (.con (.int (0)))))) (bnR i (.tup (u :: us)) none) κ = .ok (false, κ1) := by
            simp only [exSs, exS, evE, evT, evEs, evA, evBs, evO, evOt, evI, bw, rdV, rdB, R.bind_ok, R.bind_exc, R.bind_bad, R.ofO_some, R.ofO_none, R.toO_ok, R.toO_exc, R.toO_bad, O.then_nx, O.then_ret, O.then_exc, O.then_bad, O.fin_nx, O.fin_ret, O.fin_exc, O.fin_bad, Option.map_some, Option.map_none, List.map_cons, List.map_nil, Ar.slot, List.cons_append, List.nil_append, List.length_cons, List.length_nil, List.getElem?_cons_zero, List.getElem?_cons_succ, List.set_cons_zero, List.set_cons_succ, parR, bi_abs, bi_inti, bi_intb, bi_lent, bi_lenl, bi_lens, bi_max, bi_min, bi_tupt, bi_tupl, bi_lstt, bi_lstl, isi_t, isi_l, isi_i, isi_b, isi_n, isi_s, reduceCtorEq, decide_true, decide_false, Bool.or_true, Bool.or_false, Bool.true_or, Bool.false_or, blV, ntV, ngV, intV, op_add, op_sub, cm_lt, cm_le, cm_gt, cm_ge, cm_eqi, cm_nei, tr_bl, le0, if_true, ne, e1, h0, decide_false]
          obtain ⟨w, κ2, e, hw, hS2, hl2⟩ := bent_way2 k (d' + 1) hk hS1 hv (κ0 := κ) ((ite_no t).trans rfl)
          exact ⟨w, κ2, e, hw, hS2, by omega⟩
    | _ => exact bent_leaf k d hk hS hv fun l e => by cases e
end K01
end
section
namespace K01
open PySem PL
theorem l_claim (d : Nat) {q : List Int} {v : Val} {n : Nat} (κ : Ks) (hq5 : q.length ≤ 5) (hv : datB n v = true) : (cb tab (d + 3)).cf 26 [.v (picV q), .v v] κ = .ok (.bl (claimB q.length v), κ) := by
  rw [cf_succ _ _ _ _ _ rfl rfl]
  cases v with
  | tup m =>
    by_cases hm : m.length = 3
    · obtain ⟨x, y, z, rfl⟩ := len3 hm
      have lm : ((0 + 1 + 1 + 1 : Nat) : Int) = 3 := rfl
      have s1 := l_sum d (q := q) κ hq5 (dat_mem hv y (by simp))
      have s2 := l_sum d (q := q) κ hq5 (dat_mem hv z (by simp))
      cases x with
      | str w =>
        have ni : cmV .notin (.str w) (.lst [.str "less", .str "upto", .str "same"]) = some (!wordB (.str w)) := notin_l rfl rfl
        have cf : claimB q.length (.tup [.str w, y, z]) = (wordB (.str w) && (sumB q.length y && sumB q.length z)) := rfl
        rw [cf]
        cases hw : wordB (.str w) with
        | false =>
          rw [hw] at ni
          simp only [ir__law_is_claim, List.replicate, Nat.reduceSub, List.append_nil, exSs, exS, evE, evT, evEs, evA, evBs, evO, evOt, evI, bw, rdV, rdB, R.bind_ok, R.bind_exc, R.bind_bad, R.ofO_some, R.ofO_none, R.toO_ok, R.toO_exc, R.toO_bad, O.then_nx, O.then_ret, O.then_exc, O.then_bad, O.fin_nx, O.fin_ret, O.fin_exc, O.fin_bad, Option.map_some, Option.map_none, List.map_cons, List.map_nil, Ar.slot, List.cons_append, List.nil_append, List.length_cons, List.length_nil, List.getElem?_cons_zero, List.getElem?_cons_succ, List.set_cons_zero, List.set_cons_succ, parR, bi_abs, bi_inti, bi_intb, bi_lent, bi_lenl, bi_lens, bi_max, bi_min, bi_tupt, bi_tupl, bi_lstt, bi_lstl, isi_t, isi_l, isi_i, isi_b, isi_n, isi_s, reduceCtorEq, decide_true, decide_false, Bool.or_true, Bool.or_false, Bool.true_or, Bool.false_or, blV, ntV, ngV, intV, op_add, op_sub, cm_lt, cm_le, cm_gt, cm_ge, cm_eqi, cm_nei, tr_bl, evBs, lm, ix_t0, le3, ni, Bool.not_true, Bool.not_false, decide_true, if_true, if_false, Bool.false_eq_true, Bool.false_and]
        | true =>
          rw [hw] at ni
          cases h1 : sumB q.length y with
          | false =>
            rw [h1] at s1
            simp only [ir__law_is_claim, List.replicate, Nat.reduceSub, List.append_nil, exSs, exS, evE, evT, evEs, evA, evBs, evO, evOt, evI, bw, rdV, rdB, R.bind_ok, R.bind_exc, R.bind_bad, R.ofO_some, R.ofO_none, R.toO_ok, R.toO_exc, R.toO_bad, O.then_nx, O.then_ret, O.then_exc, O.then_bad, O.fin_nx, O.fin_ret, O.fin_exc, O.fin_bad, Option.map_some, Option.map_none, List.map_cons, List.map_nil, Ar.slot, List.cons_append, List.nil_append, List.length_cons, List.length_nil, List.getElem?_cons_zero, List.getElem?_cons_succ, List.set_cons_zero, List.set_cons_succ, parR, bi_abs, bi_inti, bi_intb, bi_lent, bi_lenl, bi_lens, bi_max, bi_min, bi_tupt, bi_tupl, bi_lstt, bi_lstl, isi_t, isi_l, isi_i, isi_b, isi_n, isi_s, reduceCtorEq, decide_true, decide_false, Bool.or_true, Bool.or_false, Bool.true_or, Bool.false_or, blV, ntV, ngV, intV, op_add, op_sub, cm_lt, cm_le, cm_gt, cm_ge, cm_eqi, cm_nei, tr_bl, evBs, lm, ix_t0, ix_t1, le3, ni, s1, Bool.not_true, Bool.not_false, decide_true, if_true, if_false, Bool.false_eq_true, Bool.false_and, Bool.true_and]
          | true =>
            rw [h1] at s1
            simp only [ir__law_is_claim, List.replicate, Nat.reduceSub, List.append_nil, exSs, exS, evE, evT, evEs, evA, evBs, evO, evOt, evI, bw, rdV, rdB, R.bind_ok, R.bind_exc, R.bind_bad, R.ofO_some, R.ofO_none, R.toO_ok, R.toO_exc, R.toO_bad, O.then_nx, O.then_ret, O.then_exc, O.then_bad, O.fin_nx, O.fin_ret, O.fin_exc, O.fin_bad, Option.map_some, Option.map_none, List.map_cons, List.map_nil, Ar.slot, List.cons_append, List.nil_append, List.length_cons, List.length_nil, List.getElem?_cons_zero, List.getElem?_cons_succ, List.set_cons_zero, List.set_cons_succ, parR, bi_abs, bi_inti, bi_intb, bi_lent, bi_lenl, bi_lens, bi_max, bi_min, bi_tupt, bi_tupl, bi_lstt, bi_lstl, isi_t, isi_l, isi_i, isi_b, isi_n, isi_s, reduceCtorEq, decide_true, decide_false, Bool.or_true, Bool.or_false, Bool.true_or, Bool.false_or, blV, ntV, ngV, intV, op_add, op_sub, cm_lt, cm_le, cm_gt, cm_ge, cm_eqi, cm_nei, tr_bl, evBs, lm, ix_t0, ix_t1, ix_t2, le3, ni, s1, s2, Bool.not_true, Bool.not_false, decide_true, if_true, if_false, Bool.false_eq_true, Bool.false_and, Bool.true_and]
      | fn _ =>
        have h := dat_mem hv _ List.mem_cons_self
        cases n <;> cases h
      | cell _ =>
        have h := dat_mem hv _ List.mem_cons_self
        cases n <;> cases h
      | scr _ =>
        have h := dat_mem hv _ List.mem_cons_self
        cases n <;> cases h
      | _ => simp only [ir__law_is_claim, List.replicate, Nat.reduceSub, List.append_nil, exSs, exS, evE, evT, evEs, evA, evBs, evO, evOt, evI, bw, rdV, rdB, R.bind_ok, R.bind_exc, R.bind_bad, R.ofO_some, R.ofO_none, R.toO_ok, R.toO_exc, R.toO_bad, O.then_nx, O.then_ret, O.then_exc, O.then_bad, O.fin_nx, O.fin_ret, O.fin_exc, O.fin_bad, Option.map_some, Option.map_none, List.map_cons, List.map_nil, Ar.slot, List.cons_append, List.nil_append, List.length_cons, List.length_nil, List.getElem?_cons_zero, List.getElem?_cons_succ, List.set_cons_zero, List.set_cons_succ, parR, bi_abs, bi_inti, bi_intb, bi_lent, bi_lenl, bi_lens, bi_max, bi_min, bi_tupt, bi_tupl, bi_lstt, bi_lstl, isi_t, isi_l, isi_i, isi_b, isi_n, isi_s, reduceCtorEq, decide_true, decide_false, Bool.or_true, Bool.or_false, Bool.true_or, Bool.false_or, blV, ntV, ngV, intV, op_add, op_sub, cm_lt, cm_le, cm_gt, cm_ge, cm_eqi, cm_nei, tr_bl, evBs, lm, ix_t0, Bool.not_true, Bool.not_false, decide_true, if_true, if_false, Bool.false_eq_true, claimB, wordB, Bool.false_and]
    · rw [claim_len hm]
      have lm : ((m.length : Int) = 3) = False := eq_false (by omega)
      simp only [ir__law_is_claim, List.replicate, Nat.reduceSub, List.append_nil, exSs, exS, evE, evT, evEs, evA, evBs, evO, evOt, evI, bw, rdV, rdB, R.bind_ok, R.bind_exc, R.bind_bad, R.ofO_some, R.ofO_none, R.toO_ok, R.toO_exc, R.toO_bad, O.then_nx, O.then_ret, O.then_exc, O.then_bad, O.fin_nx, O.fin_ret, O.fin_exc, O.fin_bad, Option.map_some, Option.map_none, List.map_cons, List.map_nil, Ar.slot, List.cons_append, List.nil_append, List.length_cons, List.length_nil, List.getElem?_cons_zero, List.getElem?_cons_succ, List.set_cons_zero, List.set_cons_succ, parR, bi_abs, bi_inti, bi_intb, bi_lent, bi_lenl, bi_lens, bi_max, bi_min, bi_tupt, bi_tupl, bi_lstt, bi_lstl, isi_t, isi_l, isi_i, isi_b, isi_n, isi_s, reduceCtorEq, decide_true, decide_false, Bool.or_true, Bool.or_false, Bool.true_or, Bool.false_or, blV, ntV, ngV, intV, op_add, op_sub, cm_lt, cm_le, cm_gt, cm_ge, cm_eqi, cm_nei, tr_bl, evBs, lm, Bool.not_true, Bool.not_false, decide_true, decide_false, if_true, if_false, Bool.false_eq_true]
  | fn _ => cases n <;> cases hv
  | cell _ => cases n <;> cases hv
  | scr _ => cases n <;> cases hv
  | _ => simp only [ir__law_is_claim, List.replicate, Nat.reduceSub, List.append_nil, exSs, exS, evE, evT, evEs, evA, evBs, evO, evOt, evI, bw, rdV, rdB, R.bind_ok, R.bind_exc, R.bind_bad, R.ofO_some, R.ofO_none, R.toO_ok, R.toO_exc, R.toO_bad, O.then_nx, O.then_ret, O.then_exc, O.then_bad, O.fin_nx, O.fin_ret, O.fin_exc, O.fin_bad, Option.map_some, Option.map_none, List.map_cons, List.map_nil, Ar.slot, List.cons_append, List.nil_append, List.length_cons, List.length_nil, List.getElem?_cons_zero, List.getElem?_cons_succ, List.set_cons_zero, List.set_cons_succ, parR, bi_abs, bi_inti, bi_intb, bi_lent, bi_lenl, bi_lens, bi_max, bi_min, bi_tupt, bi_tupl, bi_lstt, bi_lstl, isi_t, isi_l, isi_i, isi_b, isi_n, isi_s, reduceCtorEq, decide_true, decide_false, Bool.or_true, Bool.or_false, Bool.true_or, Bool.false_or, blV, ntV, ngV, intV, op_add, op_sub, cm_lt, cm_le, cm_gt, cm_ge, cm_eqi, cm_nei, tr_bl, evBs, Bool.not_false, if_true, claimB]
theorem l_facts (d : Nat) {q : List Int} {v : Val} {n : Nat} (κ : Ks) (hq5 : q.length ≤ 5) (hv : datB n v = true) (hn : n ≤ 60) : (cb tab (d + 4)).cf 27 [.v (picV q), .v v] κ = .ok (.bl (factsB q.length v), κ) := by
  rw [cf_succ _ _ _ _ _ rfl rfl]
  cases v with
  | tup l =>
    by_cases h4 : (4 : Int) < l.length
    · have ff : factsB q.length (.tup l) = false := by
        show (decide ((l.length : Int) ≤ 4) && _) = false
        rw [decide_eq_false (by omega)]; rfl
      rw [ff]
      simp only [ir__law_are_facts, List.replicate, Nat.reduceSub, exSs, exS, evE, evT, evEs, evA, evBs, evO, evOt, evI, bw, rdV, rdB, R.bind_ok, R.bind_exc, R.bind_bad, R.ofO_some, R.ofO_none, R.toO_ok, R.toO_exc, R.toO_bad, O.then_nx, O.then_ret, O.then_exc, O.then_bad, O.fin_nx, O.fin_ret, O.fin_exc, O.fin_bad, Option.map_some, Option.map_none, List.map_cons, List.map_nil, Ar.slot, List.cons_append, List.nil_append, List.length_cons, List.length_nil, List.getElem?_cons_zero, List.getElem?_cons_succ, List.set_cons_zero, List.set_cons_succ, parR, bi_abs, bi_inti, bi_intb, bi_lent, bi_lenl, bi_lens, bi_max, bi_min, bi_tupt, bi_tupl, bi_lstt, bi_lstl, isi_t, isi_l, isi_i, isi_b, isi_n, isi_s, reduceCtorEq, decide_true, decide_false, Bool.or_true, Bool.or_false, Bool.true_or, Bool.false_or, blV, ntV, ngV, intV, op_add, op_sub, cm_lt, cm_le, cm_gt, cm_ge, cm_eqi, cm_nei, tr_bl, evBs, h4, Bool.not_true, decide_true, if_true, if_false, Bool.false_eq_true]
    · have ff : factsB q.length (.tup l) = l.all (claimB q.length) := by
        show (decide ((l.length : Int) ≤ 4) && _) = _
        rw [decide_eq_true (by omega)]; rfl
      rw [ff]
      have p1 : exS (cb tab (d + 3)) (.ite (.or (.not (.val (.isi .tuple (.var 1)))) (.cm .gt (.bi .len (.cons (.var 1) .nil)) (.con (.int (4))))) (.cons (.ret (.con (.bl false)))
  .nil) .nil) [some (.val (picV q)), some (.val (.tup l)), none] κ = .nx [some (.val (picV q)), some (.val (.tup l)), none] κ := by
        simp only [exSs, exS, evE, evT, evEs, evA, evBs, evO, evOt, evI, bw, rdV, rdB, R.bind_ok, R.bind_exc, R.bind_bad, R.ofO_some, R.ofO_none, R.toO_ok, R.toO_exc, R.toO_bad, O.then_nx, O.then_ret, O.then_exc, O.then_bad, O.fin_nx, O.fin_ret, O.fin_exc, O.fin_bad, Option.map_some, Option.map_none, List.map_cons, List.map_nil, Ar.slot, List.cons_append, List.nil_append, List.length_cons, List.length_nil, List.getElem?_cons_zero, List.getElem?_cons_succ, List.set_cons_zero, List.set_cons_succ, parR, bi_abs, bi_inti, bi_intb, bi_lent, bi_lenl, bi_lens, bi_max, bi_min, bi_tupt, bi_tupl, bi_lstt, bi_lstl, isi_t, isi_l, isi_i, isi_b, isi_n, isi_s, reduceCtorEq, decide_true, decide_false, Bool.or_true, Bool.or_false, Bool.true_or, Bool.false_or, blV, ntV, ngV, intV, op_add, op_sub, cm_lt, cm_le, cm_gt, cm_ge, cm_eqi, cm_nei, tr_bl, evBs, h4, Bool.not_true, decide_true, decide_false, if_true, if_false, Bool.false_eq_true]
      have c1 : evE (cb tab (d + 3)) (.comp (.var 2) (.nm 2) (.seq (.var 1)) (.yes (.not (.val (.call 26 (.cons (.var 0) (.cons (.var 2) .nil)))))) [2]) [some (.val (picV q)), some (.val (.tup l)), none] κ = .ok (.lst ((l.filter fun u => !claimB q.length u).map id), κ) := by
        refine ev_compP (l := l) (g := id) (P := fun u => !claimB q.length u) rfl (Nat.lt_of_le_of_lt (show l.length ≤ 4 by omega) (by decide)) fun u hu => ⟨[some (.val (picV q)), some (.val (.tup l)), some (.val u)], rfl, ?_, fun _ => rfl⟩
        simp only [exSs, exS, evE, evT, evEs, evA, evBs, evO, evOt, evI, bw, rdV, rdB, R.bind_ok, R.bind_exc, R.bind_bad, R.ofO_some, R.ofO_none, R.toO_ok, R.toO_exc, R.toO_bad, O.then_nx, O.then_ret, O.then_exc, O.then_bad, O.fin_nx, O.fin_ret, O.fin_exc, O.fin_bad, Option.map_some, Option.map_none, List.map_cons, List.map_nil, Ar.slot, List.cons_append, List.nil_append, List.length_cons, List.length_nil, List.getElem?_cons_zero, List.getElem?_cons_succ, List.set_cons_zero, List.set_cons_succ, parR, bi_abs, bi_inti, bi_intb, bi_lent, bi_lenl, bi_lens, bi_max, bi_min, bi_tupt, bi_tupl, bi_lstt, bi_lstl, isi_t, isi_l, isi_i, isi_b, isi_n, isi_s, reduceCtorEq, decide_true, decide_false, Bool.or_true, Bool.or_false, Bool.true_or, Bool.false_or, blV, ntV, ngV, intV, op_add, op_sub, cm_lt, cm_le, cm_gt, cm_ge, cm_eqi, cm_nei, tr_bl, l_claim d κ hq5 (dat_mem hv u hu)]
      rw [List.map_id] at c1
      have fd : datBs 63 (l.filter fun u => !claimB q.length u) = true := datBs_of fun u hu => datB_mono u (show n ≤ 63 by omega) (dat_mem hv u (List.mem_filter.mp hu).1)
      have e0 := cm_eq_nil fd
      rw [filt_nil] at e0
      have p2 : exS (cb tab (d + 3)) (.ret (.cm .eq (.comp (.var 2) (.nm 2) (.seq (.var 1)) (.yes (.not (.val (.call 26 (.cons (.var 0) (.cons (.var 2) .nil)))))) [2]) (.lst .nil))) [some (.val (picV q)), some (.val (.tup l)), none] κ = .ret (.bl (l.all (claimB q.length))) κ := by
        refine ev_retE ?_
        show (R.bind (evE (cb tab (d + 3)) (.comp _ _ _ _ _) _ κ) _) = _
        rw [c1]
        simp only [exSs, exS, evE, evT, evEs, evA, evBs, evO, evOt, evI, bw, rdV, rdB, R.bind_ok, R.bind_exc, R.bind_bad, R.ofO_some, R.ofO_none, R.toO_ok, R.toO_exc, R.toO_bad, O.then_nx, O.then_ret, O.then_exc, O.then_bad, O.fin_nx, O.fin_ret, O.fin_exc, O.fin_bad, Option.map_some, Option.map_none, List.map_cons, List.map_nil, Ar.slot, List.cons_append, List.nil_append, List.length_cons, List.length_nil, List.getElem?_cons_zero, List.getElem?_cons_succ, List.set_cons_zero, List.set_cons_succ, parR, bi_abs, bi_inti, bi_intb, bi_lent, bi_lenl, bi_lens, bi_max, bi_min, bi_tupt, bi_tupl, bi_lstt, bi_lstl, isi_t, isi_l, isi_i, isi_b, isi_n, isi_s, reduceCtorEq, decide_true, decide_false, Bool.or_true, Bool.or_false, Bool.true_or, Bool.false_or, blV, ntV, ngV, intV, op_add, op_sub, cm_lt, cm_le, cm_gt, cm_ge, cm_eqi, cm_nei, tr_bl, le0, if_true, e0]
      show (exSs (cb tab (d + 3)) ir__law_are_facts [some (.val (picV q)), some (.val (.tup l)), none] κ).fin = _
      unfold ir__law_are_facts
      rw [ss_nx p1, ss_ret p2]
      rfl
  | fn _ => cases n <;> cases hv
  | cell _ => cases n <;> cases hv
  | scr _ => cases n <;> cases hv
  | _ => simp only [ir__law_are_facts, List.replicate, Nat.reduceSub, exSs, exS, evE, evT, evEs, evA, evBs, evO, evOt, evI, bw, rdV, rdB, R.bind_ok, R.bind_exc, R.bind_bad, R.ofO_some, R.ofO_none, R.toO_ok, R.toO_exc, R.toO_bad, O.then_nx, O.then_ret, O.then_exc, O.then_bad, O.fin_nx, O.fin_ret, O.fin_exc, O.fin_bad, Option.map_some, Option.map_none, List.map_cons, List.map_nil, Ar.slot, List.cons_append, List.nil_append, List.length_cons, List.length_nil, List.getElem?_cons_zero, List.getElem?_cons_succ, List.set_cons_zero, List.set_cons_succ, parR, bi_abs, bi_inti, bi_intb, bi_lent, bi_lenl, bi_lens, bi_max, bi_min, bi_tupt, bi_tupl, bi_lstt, bi_lstl, isi_t, isi_l, isi_i, isi_b, isi_n, isi_s, reduceCtorEq, decide_true, decide_false, Bool.or_true, Bool.or_false, Bool.true_or, Bool.false_or, blV, ntV, ngV, intV, op_add, op_sub, cm_lt, cm_le, cm_gt, cm_ge, cm_eqi, cm_nei, tr_bl, evBs, Bool.not_false, if_true, factsB]
section
variable (d : Nat) {q : List Int} {v : Val} {n : Nat} (κ : Ks)
theorem w_pic (hv : datB n v = true) : (cb tab (d + 3)).cf 8 [.v v] κ = .ok (.bl (picB v), κ) := by
  rw [cf_succ _ _ _ _ _ rfl rfl]
  simp only [ir_is_picture, List.replicate, Nat.reduceSub, List.append_nil, exSs, exS, evE, evT, evEs, evA, evBs, evO, evOt, evI, bw, rdV, rdB, R.bind_ok, R.bind_exc, R.bind_bad, R.ofO_some, R.ofO_none, R.toO_ok, R.toO_exc, R.toO_bad, O.then_nx, O.then_ret, O.then_exc, O.then_bad, O.fin_nx, O.fin_ret, O.fin_exc, O.fin_bad, Option.map_some, Option.map_none, List.map_cons, List.map_nil, Ar.slot, List.cons_append, List.nil_append, List.length_cons, List.length_nil, List.getElem?_cons_zero, List.getElem?_cons_succ, List.set_cons_zero, List.set_cons_succ, parR, bi_abs, bi_inti, bi_intb, bi_lent, bi_lenl, bi_lens, bi_max, bi_min, bi_tupt, bi_tupl, bi_lstt, bi_lstl, isi_t, isi_l, isi_i, isi_b, isi_n, isi_s, reduceCtorEq, decide_true, decide_false, Bool.or_true, Bool.or_false, Bool.true_or, Bool.false_or, blV, ntV, ngV, intV, op_add, op_sub, cm_lt, cm_le, cm_gt, cm_ge, cm_eqi, cm_nei, tr_bl, b_pic d κ hv]
theorem w_sum (hq : PicOk q) (hv : datB n v = true) : (cb tab (d + 4)).cf 9 [.v (picV q), .v v] κ = .ok (.bl (sumB q.length v), κ) := by
  rw [cf_succ _ _ _ _ _ rfl rfl]
  simp only [ir_is_sum, List.replicate, Nat.reduceSub, List.append_nil, exSs, exS, evE, evT, evEs, evA, evBs, evO, evOt, evI, bw, rdV, rdB, R.bind_ok, R.bind_exc, R.bind_bad, R.ofO_some, R.ofO_none, R.toO_ok, R.toO_exc, R.toO_bad, O.then_nx, O.then_ret, O.then_exc, O.then_bad, O.fin_nx, O.fin_ret, O.fin_exc, O.fin_bad, Option.map_some, Option.map_none, List.map_cons, List.map_nil, Ar.slot, List.cons_append, List.nil_append, List.length_cons, List.length_nil, List.getElem?_cons_zero, List.getElem?_cons_succ, List.set_cons_zero, List.set_cons_succ, parR, bi_abs, bi_inti, bi_intb, bi_lent, bi_lenl, bi_lens, bi_max, bi_min, bi_tupt, bi_tupl, bi_lstt, bi_lstl, isi_t, isi_l, isi_i, isi_b, isi_n, isi_s, reduceCtorEq, decide_true, decide_false, Bool.or_true, Bool.or_false, Bool.true_or, Bool.false_or, blV, ntV, ngV, intV, op_add, op_sub, cm_lt, cm_le, cm_gt, cm_ge, cm_eqi, cm_nei, tr_bl, s_need_picture d κ hq, b_sum (d + 1) κ hv]
theorem w_claim (hq : PicOk q) (hv : datB n v = true) : (cb tab (d + 4)).cf 10 [.v (picV q), .v v] κ = .ok (.bl (claimB q.length v), κ) := by
  rw [cf_succ _ _ _ _ _ rfl rfl]
  simp only [ir_is_claim, List.replicate, Nat.reduceSub, List.append_nil, exSs, exS, evE, evT, evEs, evA, evBs, evO, evOt, evI, bw, rdV, rdB, R.bind_ok, R.bind_exc, R.bind_bad, R.ofO_some, R.ofO_none, R.toO_ok, R.toO_exc, R.toO_bad, O.then_nx, O.then_ret, O.then_exc, O.then_bad, O.fin_nx, O.fin_ret, O.fin_exc, O.fin_bad, Option.map_some, Option.map_none, List.map_cons, List.map_nil, Ar.slot, List.cons_append, List.nil_append, List.length_cons, List.length_nil, List.getElem?_cons_zero, List.getElem?_cons_succ, List.set_cons_zero, List.set_cons_succ, parR, bi_abs, bi_inti, bi_intb, bi_lent, bi_lenl, bi_lens, bi_max, bi_min, bi_tupt, bi_tupl, bi_lstt, bi_lstl, isi_t, isi_l, isi_i, isi_b, isi_n, isi_s, reduceCtorEq, decide_true, decide_false, Bool.or_true, Bool.or_false, Bool.true_or, Bool.false_or, blV, ntV, ngV, intV, op_add, op_sub, cm_lt, cm_le, cm_gt, cm_ge, cm_eqi, cm_nei, tr_bl, s_need_picture d κ hq, b_claim d κ hv]
theorem w_facts (hq : PicOk q) (hv : datB n v = true) : (cb tab (d + 5)).cf 11 [.v (picV q), .v v] κ = .ok (.bl (factsB q.length v), κ) := by
  rw [cf_succ _ _ _ _ _ rfl rfl]
  simp only [ir_are_facts, List.replicate, Nat.reduceSub, List.append_nil, exSs, exS, evE, evT, evEs, evA, evBs, evO, evOt, evI, bw, rdV, rdB, R.bind_ok, R.bind_exc, R.bind_bad, R.ofO_some, R.ofO_none, R.toO_ok, R.toO_exc, R.toO_bad, O.then_nx, O.then_ret, O.then_exc, O.then_bad, O.fin_nx, O.fin_ret, O.fin_exc, O.fin_bad, Option.map_some, Option.map_none, List.map_cons, List.map_nil, Ar.slot, List.cons_append, List.nil_append, List.length_cons, List.length_nil, List.getElem?_cons_zero, List.getElem?_cons_succ, List.set_cons_zero, List.set_cons_succ, parR, bi_abs, bi_inti, bi_intb, bi_lent, bi_lenl, bi_lens, bi_max, bi_min, bi_tupt, bi_tupl, bi_lstt, bi_lstl, isi_t, isi_l, isi_i, isi_b, isi_n, isi_s, reduceCtorEq, decide_true, decide_false, Bool.or_true, Bool.or_false, Bool.true_or, Bool.false_or, blV, ntV, ngV, intV, op_add, op_sub, cm_lt, cm_le, cm_gt, cm_ge, cm_eqi, cm_nei, tr_bl, s_need_picture (d + 1) κ hq, b_facts d κ hv]
theorem odd_pic (hv : datB n v = true) (h : picB v = false) : OddPic (d + 2) v := fun κ => by rw [b_pic d κ hv, h]
theorem x_sum (hv : OddPic (d + 2) v) (u : Val) : (cb tab (d + 4)).cf 9 [.v v, .v u] κ = .exc (0) .non κ := by
  rw [cf_succ _ _ _ _ _ rfl rfl]
  simp only [ir_is_sum, List.replicate, Nat.reduceSub, List.append_nil, exSs, exS, evE, evT, evEs, evA, evBs, evO, evOt, evI, bw, rdV, rdB, R.bind_ok, R.bind_exc, R.bind_bad, R.ofO_some, R.ofO_none, R.toO_ok, R.toO_exc, R.toO_bad, O.then_nx, O.then_ret, O.then_exc, O.then_bad, O.fin_nx, O.fin_ret, O.fin_exc, O.fin_bad, Option.map_some, Option.map_none, List.map_cons, List.map_nil, Ar.slot, List.cons_append, List.nil_append, List.length_cons, List.length_nil, List.getElem?_cons_zero, List.getElem?_cons_succ, List.set_cons_zero, List.set_cons_succ, parR, bi_abs, bi_inti, bi_intb, bi_lent, bi_lenl, bi_lens, bi_max, bi_min, bi_tupt, bi_tupl, bi_lstt, bi_lstl, isi_t, isi_l, isi_i, isi_b, isi_n, isi_s, reduceCtorEq, decide_true, decide_false, Bool.or_true, Bool.or_false, Bool.true_or, Bool.false_or, blV, ntV, ngV, intV, op_add, op_sub, cm_lt, cm_le, cm_gt, cm_ge, cm_eqi, cm_nei, tr_bl, x_need_pic (d + 2) hv κ]
theorem x_claim (hv : OddPic (d + 2) v) (u : Val) : (cb tab (d + 4)).cf 10 [.v v, .v u] κ = .exc (0) .non κ := by
  rw [cf_succ _ _ _ _ _ rfl rfl]
  simp only [ir_is_claim, List.replicate, Nat.reduceSub, List.append_nil, exSs, exS, evE, evT, evEs, evA, evBs, evO, evOt, evI, bw, rdV, rdB, R.bind_ok, R.bind_exc, R.bind_bad, R.ofO_some, R.ofO_none, R.toO_ok, R.toO_exc, R.toO_bad, O.then_nx, O.then_ret, O.then_exc, O.then_bad, O.fin_nx, O.fin_ret, O.fin_exc, O.fin_bad, Option.map_some, Option.map_none, List.map_cons, List.map_nil, Ar.slot, List.cons_append, List.nil_append, List.length_cons, List.length_nil, List.getElem?_cons_zero, List.getElem?_cons_succ, List.set_cons_zero, List.set_cons_succ, parR, bi_abs, bi_inti, bi_intb, bi_lent, bi_lenl, bi_lens, bi_max, bi_min, bi_tupt, bi_tupl, bi_lstt, bi_lstl, isi_t, isi_l, isi_i, isi_b, isi_n, isi_s, reduceCtorEq, decide_true, decide_false, Bool.or_true, Bool.or_false, Bool.true_or, Bool.false_or, blV, ntV, ngV, intV, op_add, op_sub, cm_lt, cm_le, cm_gt, cm_ge, cm_eqi, cm_nei, tr_bl, x_need_pic (d + 2) hv κ]
theorem x_facts (hv : OddPic (d + 2) v) (u : Val) : (cb tab (d + 4)).cf 11 [.v v, .v u] κ = .exc (0) .non κ := by
  rw [cf_succ _ _ _ _ _ rfl rfl]
  simp only [ir_are_facts, List.replicate, Nat.reduceSub, List.append_nil, exSs, exS, evE, evT, evEs, evA, evBs, evO, evOt, evI, bw, rdV, rdB, R.bind_ok, R.bind_exc, R.bind_bad, R.ofO_some, R.ofO_none, R.toO_ok, R.toO_exc, R.toO_bad, O.then_nx, O.then_ret, O.then_exc, O.then_bad, O.fin_nx, O.fin_ret, O.fin_exc, O.fin_bad, Option.map_some, Option.map_none, List.map_cons, List.map_nil, Ar.slot, List.cons_append, List.nil_append, List.length_cons, List.length_nil, List.getElem?_cons_zero, List.getElem?_cons_succ, List.set_cons_zero, List.set_cons_succ, parR, bi_abs, bi_inti, bi_intb, bi_lent, bi_lenl, bi_lens, bi_max, bi_min, bi_tupt, bi_tupl, bi_lstt, bi_lstl, isi_t, isi_l, isi_i, isi_b, isi_n, isi_s, reduceCtorEq, decide_true, decide_false, Bool.or_true, Bool.or_false, Bool.true_or, Bool.false_or, blV, ntV, ngV, intV, op_add, op_sub, cm_lt, cm_le, cm_gt, cm_ge, cm_eqi, cm_nei, tr_bl, x_need_pic (d + 2) hv κ]
end
abbrev jdR (A v : Val) (e2 e3 e4 : Option PL.Slot) : Rho := [some (.val A), some (.val v), e2, e3, e4, none]
theorem s_judged {q : List Int} {v : Val} {n : Nat} (κ : Ks) (hq : PicOk q) (hv : datB n v = true) (hn : n ≤ 60) : (cb tab 20).cf 29 [.v (picV q), .v v] κ = .ok (.bl true, κ) := by
  have hq5 := hq.l5
  have a1 : (cb tab 19).cf 8 _ κ = _ := w_pic 16 κ hv
  have a2 : (cb tab 19).cf 6 _ κ = _ := b_lean 17 κ hv
  have a3 : (cb tab 19).cf 9 _ κ = _ := w_sum 15 κ hq hv
  have a4 : (cb tab 19).cf 10 _ κ = _ := w_claim 15 κ hq hv
  have a5 : (cb tab 19).cf 11 _ κ = _ := w_facts 14 κ hq hv
  have b1 : (cb tab 19).cf 23 _ κ = _ := l_pic 17 κ hv
  have b2 : (cb tab 19).cf 24 _ κ = _ := l_lean 17 κ hv
  have b3 : (cb tab 19).cf 25 _ κ = _ := l_sum 17 κ hq5 hv
  have b4 : (cb tab 19).cf 26 _ κ = _ := l_claim 16 κ hq5 hv
  have b5 : (cb tab 19).cf 27 _ κ = _ := l_facts 15 κ hq5 hv hn
  rw [cf_succ 19 _ _ _ _ rfl rfl]
  show (exSs (cb tab 19) ir__law_judged (jdR (picV q) v none none none) κ).fin = _
  have op := fun h => odd_pic 12 (v := v) hv h
  generalize picB v = c1 at *
  generalize leanB v = c2 at *
  generalize sumB q.length v = c3 at *
  generalize claimB q.length v = c4 at *
  generalize factsB q.length v = c5 at *
  generalize hA : picV q = A at *
  have p1 : exS (cb tab 19) (.set 2 (.lst (.cons (.call 8 (.cons (.var 1) .nil)) (.cons (.call 6 (.cons (.var 1) .nil)) (.cons (.call 9 (.cons (.var 0) (.cons (.var 1) .nil))) (.cons (.call 10 (.cons (.var 0) (.cons (.var 1) .nil))) .nil)))))) (jdR A v none none none) κ = .nx (jdR A v (some (.val (.lst [.bl c1, .bl c2, .bl c3, .bl c4]))) none none) κ := by
    simp only [exSs, exS, evE, evT, evEs, evA, evBs, evO, evOt, evI, bw, rdV, rdB, R.bind_ok, R.bind_exc, R.bind_bad, R.ofO_some, R.ofO_none, R.toO_ok, R.toO_exc, R.toO_bad, O.then_nx, O.then_ret, O.then_exc, O.then_bad, O.fin_nx, O.fin_ret, O.fin_exc, O.fin_bad, Option.map_some, Option.map_none, List.map_cons, List.map_nil, Ar.slot, List.cons_append, List.nil_append, List.length_cons, List.length_nil, List.getElem?_cons_zero, List.getElem?_cons_succ, List.set_cons_zero, List.set_cons_succ, parR, bi_abs, bi_inti, bi_intb, bi_lent, bi_lenl, bi_lens, bi_max, bi_min, bi_tupt, bi_tupl, bi_lstt, bi_lstl, isi_t, isi_l, isi_i, isi_b, isi_n, isi_s, reduceCtorEq, decide_true, decide_false, Bool.or_true, Bool.or_false, Bool.true_or, Bool.false_or, blV, ntV, ngV, intV, op_add, op_sub, cm_lt, cm_le, cm_gt, cm_ge, cm_eqi, cm_nei, tr_bl, a1, a2, a3, a4, le4, if_true]
  have p2 : exS (cb tab 19) (.set 3 (.lst (.cons (.call 23 (.cons (.var 1) .nil)) (.cons (.call 24 (.cons (.var 1) .nil)) (.cons (.call 25 (.cons (.var 0) (.cons (.var 1) .nil))) (.cons (.call 26 (.cons (.var 0) (.cons (.var 1) .nil))) .nil)))))) (jdR A v (some (.val (.lst [.bl c1, .bl c2, .bl c3, .bl c4]))) none none) κ = .nx (jdR A v (some (.val (.lst [.bl c1, .bl c2, .bl c3, .bl c4]))) (some (.val (.lst [.bl c1, .bl c2, .bl c3, .bl c4]))) none) κ := by
    simp only [exSs, exS, evE, evT, evEs, evA, evBs, evO, evOt, evI, bw, rdV, rdB, R.bind_ok, R.bind_exc, R.bind_bad, R.ofO_some, R.ofO_none, R.toO_ok, R.toO_exc, R.toO_bad, O.then_nx, O.then_ret, O.then_exc, O.then_bad, O.fin_nx, O.fin_ret, O.fin_exc, O.fin_bad, Option.map_some, Option.map_none, List.map_cons, List.map_nil, Ar.slot, List.cons_append, List.nil_append, List.length_cons, List.length_nil, List.getElem?_cons_zero, List.getElem?_cons_succ, List.set_cons_zero, List.set_cons_succ, parR, bi_abs, bi_inti, bi_intb, bi_lent, bi_lenl, bi_lens, bi_max, bi_min, bi_tupt, bi_tupl, bi_lstt, bi_lstl, isi_t, isi_l, isi_i, isi_b, isi_n, isi_s, reduceCtorEq, decide_true, decide_false, Bool.or_true, Bool.or_false, Bool.true_or, Bool.false_or, blV, ntV, ngV, intV, op_add, op_sub, cm_lt, cm_le, cm_gt, cm_ge, cm_eqi, cm_nei, tr_bl, b1, b2, b3, b4, le4, if_true]
  have ad : opV .add (.lst [.bl c1, .bl c2, .bl c3, .bl c4]) (.lst [.bl c5]) = some (.lst [.bl c1, .bl c2, .bl c3, .bl c4, .bl c5]) := op_lst (by simp)
  have p3 : exS (cb tab 19) (.par [(2, false), (3, false)] (.cons (.op .add (.var 2) (.lst (.cons (.call 11 (.cons (.var 0) (.cons (.var 1) .nil))) .nil))) (.cons (.op .add (.var 3) (.lst (.cons (.call 27 (.cons (.var 0) (.cons (.var 1) .nil))) .nil))) .nil))) (jdR A v (some (.val (.lst [.bl c1, .bl c2, .bl c3, .bl c4]))) (some (.val (.lst [.bl c1, .bl c2, .bl c3, .bl c4]))) none) κ = .nx (jdR A v (some (.val (.lst [.bl c1, .bl c2, .bl c3, .bl c4, .bl c5]))) (some (.val (.lst [.bl c1, .bl c2, .bl c3, .bl c4, .bl c5]))) none) κ := by
    simp only [exSs, exS, evE, evT, evEs, evA, evBs, evO, evOt, evI, bw, rdV, rdB, R.bind_ok, R.bind_exc, R.bind_bad, R.ofO_some, R.ofO_none, R.toO_ok, R.toO_exc, R.toO_bad, O.then_nx, O.then_ret, O.then_exc, O.then_bad, O.fin_nx, O.fin_ret, O.fin_exc, O.fin_bad, Option.map_some, Option.map_none, List.map_cons, List.map_nil, Ar.slot, List.cons_append, List.nil_append, List.length_cons, List.length_nil, List.getElem?_cons_zero, List.getElem?_cons_succ, List.set_cons_zero, List.set_cons_succ, parR, bi_abs, bi_inti, bi_intb, bi_lent, bi_lenl, bi_lens, bi_max, bi_min, bi_tupt, bi_tupl, bi_lstt, bi_lstl, isi_t, isi_l, isi_i, isi_b, isi_n, isi_s, reduceCtorEq, decide_true, decide_false, Bool.or_true, Bool.or_false, Bool.true_or, Bool.false_or, blV, ntV, ngV, intV, op_add, op_sub, cm_lt, cm_le, cm_gt, cm_ge, cm_eqi, cm_nei, tr_bl, a5, b5, le1, ad, if_true]
  have c0 : evE (cb tab 19) (.comp (.var 5) (.nm 5) (.seq (.var 2)) (.yes (.not (.val (.isi .bool (.var 5))))) [5]) (jdR A v (some (.val (.lst [.bl c1, .bl c2, .bl c3, .bl c4, .bl c5]))) (some (.val (.lst [.bl c1, .bl c2, .bl c3, .bl c4, .bl c5]))) none) κ = .ok (.lst [], κ) := by
    refine ev_comp_none (l := [.bl c1, .bl c2, .bl c3, .bl c4, .bl c5]) rfl fun u hu => ?_
    have : ∃ b, u = .bl b := by
      simp only [List.mem_cons, List.mem_nil_iff, or_false] at hu
      rcases hu with h | h | h | h | h <;> exact ⟨_, h⟩
    obtain ⟨b, rfl⟩ := this
    refine ⟨[some (.val A), some (.val v), some (.val (.lst [.bl c1, .bl c2, .bl c3, .bl c4, .bl c5])), some (.val (.lst [.bl c1, .bl c2, .bl c3, .bl c4, .bl c5])), none, some (.val (.bl b))], rfl, ?_⟩
    simp only [exSs, exS, evE, evT, evEs, evA, evBs, evO, evOt, evI, bw, rdV, rdB, R.bind_ok, R.bind_exc, R.bind_bad, R.ofO_some, R.ofO_none, R.toO_ok, R.toO_exc, R.toO_bad, O.then_nx, O.then_ret, O.then_exc, O.then_bad, O.fin_nx, O.fin_ret, O.fin_exc, O.fin_bad, Option.map_some, Option.map_none, List.map_cons, List.map_nil, Ar.slot, List.cons_append, List.nil_append, List.length_cons, List.length_nil, List.getElem?_cons_zero, List.getElem?_cons_succ, List.set_cons_zero, List.set_cons_succ, parR, bi_abs, bi_inti, bi_intb, bi_lent, bi_lenl, bi_lens, bi_max, bi_min, bi_tupt, bi_tupl, bi_lstt, bi_lstl, isi_t, isi_l, isi_i, isi_b, isi_n, isi_s, reduceCtorEq, decide_true, decide_false, Bool.or_true, Bool.or_false, Bool.true_or, Bool.false_or, blV, ntV, ngV, intV, op_add, op_sub, cm_lt, cm_le, cm_gt, cm_ge, cm_eqi, cm_nei, tr_bl, Bool.not_true]
  have nn : cmV .ne (.lst []) (.lst []) = some false := by decide +kernel
  have ns : cmV .ne (.lst [.bl c1, .bl c2, .bl c3, .bl c4, .bl c5]) (.lst [.bl c1, .bl c2, .bl c3, .bl c4, .bl c5]) = some false := by
    rw [cm_neT rfl rfl, eqT_refl _ 64 rfl]; rfl
  have p4 : exS (cb tab 19) (.ite (.or (.cm .ne (.comp (.var 5) (.nm 5) (.seq (.var 2)) (.yes (.not (.val (.isi .bool (.var 5))))) [5]) (.lst .nil)) (.cm .ne (.var 2) (.var 3))) (.cons (.ret (.con (.bl false)))
  .nil) .nil) (jdR A v (some (.val (.lst [.bl c1, .bl c2, .bl c3, .bl c4, .bl c5]))) (some (.val (.lst [.bl c1, .bl c2, .bl c3, .bl c4, .bl c5]))) none) κ = .nx (jdR A v (some (.val (.lst [.bl c1, .bl c2, .bl c3, .bl c4, .bl c5]))) (some (.val (.lst [.bl c1, .bl c2, .bl c3, .bl c4, .bl c5]))) none) κ := by
    have t1 : evT (cb tab 19) (.cm .ne (.comp (.var 5) (.nm 5) (.seq (.var 2)) (.yes (.not (.val (.isi .bool (.var 5))))) [5]) (.lst .nil)) (jdR A v (some (.val (.lst [.bl c1, .bl c2, .bl c3, .bl c4, .bl c5]))) (some (.val (.lst [.bl c1, .bl c2, .bl c3, .bl c4, .bl c5]))) none) κ = .ok (false, κ) := by
      show (R.bind (evE (cb tab 19) (.comp _ _ _ _ _) _ κ) _) = _
      rw [c0]
      simp only [exSs, exS, evE, evT, evEs, evA, evBs, evO, evOt, evI, bw, rdV, rdB, R.bind_ok, R.bind_exc, R.bind_bad, R.ofO_some, R.ofO_none, R.toO_ok, R.toO_exc, R.toO_bad, O.then_nx, O.then_ret, O.then_exc, O.then_bad, O.fin_nx, O.fin_ret, O.fin_exc, O.fin_bad, Option.map_some, Option.map_none, List.map_cons, List.map_nil, Ar.slot, List.cons_append, List.nil_append, List.length_cons, List.length_nil, List.getElem?_cons_zero, List.getElem?_cons_succ, List.set_cons_zero, List.set_cons_succ, parR, bi_abs, bi_inti, bi_intb, bi_lent, bi_lenl, bi_lens, bi_max, bi_min, bi_tupt, bi_tupl, bi_lstt, bi_lstl, isi_t, isi_l, isi_i, isi_b, isi_n, isi_s, reduceCtorEq, decide_true, decide_false, Bool.or_true, Bool.or_false, Bool.true_or, Bool.false_or, blV, ntV, ngV, intV, op_add, op_sub, cm_lt, cm_le, cm_gt, cm_ge, cm_eqi, cm_nei, tr_bl, le0, if_true, nn]
    have t : evT (cb tab 19) (.or (.cm .ne (.comp (.var 5) (.nm 5) (.seq (.var 2)) (.yes (.not (.val (.isi .bool (.var 5))))) [5]) (.lst .nil)) (.cm .ne (.var 2) (.var 3))) (jdR A v (some (.val (.lst [.bl c1, .bl c2, .bl c3, .bl c4, .bl c5]))) (some (.val (.lst [.bl c1, .bl c2, .bl c3, .bl c4, .bl c5]))) none) κ = .ok (false, κ) := by
      rw [evT, t1]
      simp only [exSs, exS, evE, evT, evEs, evA, evBs, evO, evOt, evI, bw, rdV, rdB, R.bind_ok, R.bind_exc, R.bind_bad, R.ofO_some, R.ofO_none, R.toO_ok, R.toO_exc, R.toO_bad, O.then_nx, O.then_ret, O.then_exc, O.then_bad, O.fin_nx, O.fin_ret, O.fin_exc, O.fin_bad, Option.map_some, Option.map_none, List.map_cons, List.map_nil, Ar.slot, List.cons_append, List.nil_append, List.length_cons, List.length_nil, List.getElem?_cons_zero, List.getElem?_cons_succ, List.set_cons_zero, List.set_cons_succ, parR, bi_abs, bi_inti, bi_intb, bi_lent, bi_lenl, bi_lens, bi_max, bi_min, bi_tupt, bi_tupl, bi_lstt, bi_lstl, isi_t, isi_l, isi_i, isi_b, isi_n, isi_s, reduceCtorEq, decide_true, decide_false, Bool.or_true, Bool.or_false, Bool.true_or, Bool.false_or, blV, ntV, ngV, intV, op_add, op_sub, cm_lt, cm_le, cm_gt, cm_ge, cm_eqi, cm_nei, tr_bl, ns, if_false, Bool.false_eq_true]
    exact (ite_no t).trans rfl
  unfold ir__law_judged
  rw [ss_nx p1, ss_nx p2, ss_nx p3, ss_nx p4]
  cases c1 with
  | true =>
    have p5 : exS (cb tab 19) (.ite (.val (.call 23 (.cons (.var 1) .nil))) (.cons (.ret (.con (.bl true)))
  .nil) .nil) (jdR A v (some (.val (.lst [.bl true, .bl c2, .bl c3, .bl c4, .bl c5]))) (some (.val (.lst [.bl true, .bl c2, .bl c3, .bl c4, .bl c5]))) none) κ = .ret (.bl true) κ := by
      simp only [exSs, exS, evE, evT, evEs, evA, evBs, evO, evOt, evI, bw, rdV, rdB, R.bind_ok, R.bind_exc, R.bind_bad, R.ofO_some, R.ofO_none, R.toO_ok, R.toO_exc, R.toO_bad, O.then_nx, O.then_ret, O.then_exc, O.then_bad, O.fin_nx, O.fin_ret, O.fin_exc, O.fin_bad, Option.map_some, Option.map_none, List.map_cons, List.map_nil, Ar.slot, List.cons_append, List.nil_append, List.length_cons, List.length_nil, List.getElem?_cons_zero, List.getElem?_cons_succ, List.set_cons_zero, List.set_cons_succ, parR, bi_abs, bi_inti, bi_intb, bi_lent, bi_lenl, bi_lens, bi_max, bi_min, bi_tupt, bi_tupl, bi_lstt, bi_lstl, isi_t, isi_l, isi_i, isi_b, isi_n, isi_s, reduceCtorEq, decide_true, decide_false, Bool.or_true, Bool.or_false, Bool.true_or, Bool.false_or, blV, ntV, ngV, intV, op_add, op_sub, cm_lt, cm_le, cm_gt, cm_ge, cm_eqi, cm_nei, tr_bl, b1, if_true]
    rw [ss_ret p5]
    rfl
  | false =>
    have p5 : exS (cb tab 19) (.ite (.val (.call 23 (.cons (.var 1) .nil))) (.cons (.ret (.con (.bl true)))
  .nil) .nil) (jdR A v (some (.val (.lst [.bl false, .bl c2, .bl c3, .bl c4, .bl c5]))) (some (.val (.lst [.bl false, .bl c2, .bl c3, .bl c4, .bl c5]))) none) κ = .nx (jdR A v (some (.val (.lst [.bl false, .bl c2, .bl c3, .bl c4, .bl c5]))) (some (.val (.lst [.bl false, .bl c2, .bl c3, .bl c4, .bl c5]))) none) κ := by
      simp only [exSs, exS, evE, evT, evEs, evA, evBs, evO, evOt, evI, bw, rdV, rdB, R.bind_ok, R.bind_exc, R.bind_bad, R.ofO_some, R.ofO_none, R.toO_ok, R.toO_exc, R.toO_bad, O.then_nx, O.then_ret, O.then_exc, O.then_bad, O.fin_nx, O.fin_ret, O.fin_exc, O.fin_bad, Option.map_some, Option.map_none, List.map_cons, List.map_nil, Ar.slot, List.cons_append, List.nil_append, List.length_cons, List.length_nil, List.getElem?_cons_zero, List.getElem?_cons_succ, List.set_cons_zero, List.set_cons_succ, parR, bi_abs, bi_inti, bi_intb, bi_lent, bi_lenl, bi_lens, bi_max, bi_min, bi_tupt, bi_tupl, bi_lstt, bi_lstl, isi_t, isi_l, isi_i, isi_b, isi_n, isi_s, reduceCtorEq, decide_true, decide_false, Bool.or_true, Bool.or_false, Bool.true_or, Bool.false_or, blV, ntV, ngV, intV, op_add, op_sub, cm_lt, cm_le, cm_gt, cm_ge, cm_eqi, cm_nei, tr_bl, b1, if_false, Bool.false_eq_true]
    have al := s_all_say 17 (L := [(2, [v]), (1, [v]), (0, [v])]) (w := "picture") (w2 := "picture value") (c := 0) κ (all_c (bad_of (d := 16) rfl fun κ => by
      have h : (cb tab 16).cf 9 [.v v, .v .non] κ = _ := x_sum 12 κ (op rfl) .non
      simp only [irl2, exSs, exS, evE, evT, evEs, evA, evBs, evO, evOt, evI, bw, rdV, rdB, R.bind_ok, R.bind_exc, R.bind_bad, R.ofO_some, R.ofO_none, R.toO_ok, R.toO_exc, R.toO_bad, O.then_nx, O.then_ret, O.then_exc, O.then_bad, O.fin_nx, O.fin_ret, O.fin_exc, O.fin_bad, Option.map_some, Option.map_none, List.map_cons, List.map_nil, Ar.slot, List.cons_append, List.nil_append, List.length_cons, List.length_nil, List.getElem?_cons_zero, List.getElem?_cons_succ, List.set_cons_zero, List.set_cons_succ, parR, bi_abs, bi_inti, bi_intb, bi_lent, bi_lenl, bi_lens, bi_max, bi_min, bi_tupt, bi_tupl, bi_lstt, bi_lstl, isi_t, isi_l, isi_i, isi_b, isi_n, isi_s, reduceCtorEq, decide_true, decide_false, Bool.or_true, Bool.or_false, Bool.true_or, Bool.false_or, blV, ntV, ngV, intV, op_add, op_sub, cm_lt, cm_le, cm_gt, cm_ge, cm_eqi, cm_nei, tr_bl, h]) (all_c (bad_of (d := 16) rfl fun κ => by
      have h : (cb tab 16).cf 10 [.v v, .v .non] κ = _ := x_claim 12 κ (op rfl) .non
      simp only [irl1, exSs, exS, evE, evT, evEs, evA, evBs, evO, evOt, evI, bw, rdV, rdB, R.bind_ok, R.bind_exc, R.bind_bad, R.ofO_some, R.ofO_none, R.toO_ok, R.toO_exc, R.toO_bad, O.then_nx, O.then_ret, O.then_exc, O.then_bad, O.fin_nx, O.fin_ret, O.fin_exc, O.fin_bad, Option.map_some, Option.map_none, List.map_cons, List.map_nil, Ar.slot, List.cons_append, List.nil_append, List.length_cons, List.length_nil, List.getElem?_cons_zero, List.getElem?_cons_succ, List.set_cons_zero, List.set_cons_succ, parR, bi_abs, bi_inti, bi_intb, bi_lent, bi_lenl, bi_lens, bi_max, bi_min, bi_tupt, bi_tupl, bi_lstt, bi_lstl, isi_t, isi_l, isi_i, isi_b, isi_n, isi_s, reduceCtorEq, decide_true, decide_false, Bool.or_true, Bool.or_false, Bool.true_or, Bool.false_or, blV, ntV, ngV, intV, op_add, op_sub, cm_lt, cm_le, cm_gt, cm_ge, cm_eqi, cm_nei, tr_bl, h]) (all_c (bad_of (d := 16) rfl fun κ => by
      have h : (cb tab 16).cf 11 [.v v, .v .non] κ = _ := x_facts 12 κ (op rfl) .non
      simp only [irl0, exSs, exS, evE, evT, evEs, evA, evBs, evO, evOt, evI, bw, rdV, rdB, R.bind_ok, R.bind_exc, R.bind_bad, R.ofO_some, R.ofO_none, R.toO_ok, R.toO_exc, R.toO_bad, O.then_nx, O.then_ret, O.then_exc, O.then_bad, O.fin_nx, O.fin_ret, O.fin_exc, O.fin_bad, Option.map_some, Option.map_none, List.map_cons, List.map_nil, Ar.slot, List.cons_append, List.nil_append, List.length_cons, List.length_nil, List.getElem?_cons_zero, List.getElem?_cons_succ, List.set_cons_zero, List.set_cons_succ, parR, bi_abs, bi_inti, bi_intb, bi_lent, bi_lenl, bi_lens, bi_max, bi_min, bi_tupt, bi_tupl, bi_lstt, bi_lstl, isi_t, isi_l, isi_i, isi_b, isi_n, isi_s, reduceCtorEq, decide_true, decide_false, Bool.or_true, Bool.or_false, Bool.true_or, Bool.false_or, blV, ntV, ngV, intV, op_add, op_sub, cm_lt, cm_le, cm_gt, cm_ge, cm_eqi, cm_nei, tr_bl, h]) all_n))) (op_str (by decide +kernel)) (by decide +kernel)
    change (cb tab 19).cf _ _ _ = _ at al
    rw [ss_nx p5]
    simp only [exSs, exS, evE, evT, evEs, evA, evBs, evO, evOt, evI, bw, rdV, rdB, R.bind_ok, R.bind_exc, R.bind_bad, R.ofO_some, R.ofO_none, R.toO_ok, R.toO_exc, R.toO_bad, O.then_nx, O.then_ret, O.then_exc, O.then_bad, O.fin_nx, O.fin_ret, O.fin_exc, O.fin_bad, Option.map_some, Option.map_none, List.map_cons, List.map_nil, Ar.slot, List.cons_append, List.nil_append, List.length_cons, List.length_nil, List.getElem?_cons_zero, List.getElem?_cons_succ, List.set_cons_zero, List.set_cons_succ, parR, bi_abs, bi_inti, bi_intb, bi_lent, bi_lenl, bi_lens, bi_max, bi_min, bi_tupt, bi_tupl, bi_lstt, bi_lstl, isi_t, isi_l, isi_i, isi_b, isi_n, isi_s, reduceCtorEq, decide_true, decide_false, Bool.or_true, Bool.or_false, Bool.true_or, Bool.false_or, blV, ntV, ngV, intV, op_add, op_sub, cm_lt, cm_le, cm_gt, cm_ge, cm_eqi, cm_nei, tr_bl, clsOf_lams, clsOf_var, clsOf_add, eclosOf, capsOf, Option.bind_some, le1, lp1, lp2, lp3, lp4, if_true, al]
end K01
end
section
namespace K01
open PySem PL
theorem pic_okV {q : List Int} (hq : PicOk q) : okV 0 1 (picV q) = true := by
  have h5 := hq.l5
  refine tup_ok (by rw [List.length_map]; omega) fun v hv => ?_
  obtain ⟨m, hm, rfl⟩ := List.mem_map.mp hv
  have := hq.marks m hm
  exact small m (by omega)
theorem part_okV {q : List Int} {x : Part} (h : PartS q x) (h5 : q.length ≤ 5) : okV 0 1 (Part.v x) = true := by
  obtain ⟨h1, h2, h3, h4⟩ := h
  exact tup_ok (by simp) (all_c (small _ (by omega)) (all_c (small _ (by omega)) (all_c (small _ (by omega)) all_n)))
theorem par_okV {q : List Int} {l : List Part} (hq : PicOk q) (h : SumOk q l) : okV 0 2 (parV l) = true := by
  have l3 := h.l3
  refine tup_ok (by rw [List.length_map]; omega) fun v hv => ?_
  obtain ⟨x, hx, rfl⟩ := List.mem_map.mp hv
  exact part_okV (h.parts x hx) hq.l5
theorem clm_okV {q : List Int} {c : Clm} (hq : PicOk q) (h : ClaimOk q c) : okV 0 3 (Clm.v c) = true := by
  have hw : okV 0 2 (.str c.w) = true := by
    rcases h.w with e | e | e <;> rw [e] <;> decide +kernel
  exact tup_ok (by simp) (all_c hw (all_c (par_okV hq h.l) (all_c (par_okV hq h.r) all_n)))
theorem facts_okV {q : List Int} {l : List Clm} (hq : PicOk q) (h4 : l.length ≤ 4) (h : ∀ c ∈ l, ClaimOk q c) : okV 0 4 (factsV l) = true := by
  refine tup_ok (by rw [List.length_map]; omega) fun v hv => ?_
  obtain ⟨c, hc, rfl⟩ := List.mem_map.mp hv
  exact clm_okV hq (h c hc)
theorem s_written (κ : Ks) : (cb tab 20).cf 30 [] κ = .ok (.bl true, κ) := by
  kernel_rfl
abbrev lwR (ns : List Int) (e1 e2 e3 e4 e5 e6 : Option PL.Slot) : Rho := [some (.val (.scr ns)), e1, e2, e3, e4, e5, e6]
abbrev tnB : Ss := (.cons (.set 5 (.call 28 (.cons (.var 2) (.cons (.ite (.cm .eq (.op .mod (.var 6) (.con (.int (3)))) (.con (.int (0)))) (.var 4) (.var 5)) .nil))))
  (.cons (.ite (.not (.val (.call 29 (.cons (.var 3) (.cons (.var 5) .nil))))) (.cons (.ret (.con (.bl false)))
  .nil) .nil)
  .nil))
abbrev vB : Ss := (.cons (.ite (.not (.val (.call 29 (.cons (.var 3) (.cons (.var 4) .nil))))) (.cons (.ret (.con (.bl false)))
  .nil) .nil)
  (.cons (.set 5 (.var 4))
  (.cons (.loop (.nm 6) (.rng1 (.cons (.con (.int (12))) .nil)) tnB)
  .nil)))
theorem tn_step {ns : List Int} {i : Nat} {q : List Int} {e1 : Option PL.Slot} {v u : Val} {κ : Ks} {m k : Nat} {e5 : Option PL.Slot} (hq : PicOk q) (hS : Spr κ i) (hk : k ≤ 2) (hu : okV k (4 + k) u = true) (hsel : (m % 3 = 0 ∧ u = v) ∨ (m % 3 ≠ 0 ∧ e5 = some (.val u))) : ∃ w κ', exSs (cb tab 20) tnB (lwR ns e1 (some (.val (.cell i))) (some (.val (picV q))) (some (.val v)) e5 (some (.val (.int (m : Int))))) κ = .nx (lwR ns e1 (some (.val (.cell i))) (some (.val (picV q))) (some (.val v)) (some (.val w)) (some (.val (.int (m : Int))))) κ' ∧ okV (k + 1) (4 + (k + 1)) w = true ∧ Spr κ' i ∧ κ'.length = κ.length := by
  obtain ⟨w, κ', e, hw, hS', hl⟩ := s_bent k (by omega) (4 + k) u κ i 16 hS hu (by omega) (by omega)
  change (cb tab 20).cf _ _ _ = _ at e
  have jd := s_judged κ' hq (ok_dat w hw) (by omega)
  refine ⟨w, κ', ?_, hw, hS', hl⟩
  have md : opV .mod (.int (m : Int)) (.int 3) = some (.int ((m : Int) % 3)) := op_mod (by decide)
  rcases hsel with ⟨h, rfl⟩ | ⟨h, rfl⟩
  · have h0 : ((m : Int) % 3 = 0) := by omega
    simp only [tnB, exSs, exS, evE, evT, evEs, evA, evBs, evO, evOt, evI, bw, rdV, rdB, R.bind_ok, R.bind_exc, R.bind_bad, R.ofO_some, R.ofO_none, R.toO_ok, R.toO_exc, R.toO_bad, O.then_nx, O.then_ret, O.then_exc, O.then_bad, O.fin_nx, O.fin_ret, O.fin_exc, O.fin_bad, Option.map_some, Option.map_none, List.map_cons, List.map_nil, Ar.slot, List.cons_append, List.nil_append, List.length_cons, List.length_nil, List.getElem?_cons_zero, List.getElem?_cons_succ, List.set_cons_zero, List.set_cons_succ, parR, bi_abs, bi_inti, bi_intb, bi_lent, bi_lenl, bi_lens, bi_max, bi_min, bi_tupt, bi_tupl, bi_lstt, bi_lstl, isi_t, isi_l, isi_i, isi_b, isi_n, isi_s, reduceCtorEq, decide_true, decide_false, Bool.or_true, Bool.or_false, Bool.true_or, Bool.false_or, blV, ntV, ngV, intV, op_add, op_sub, cm_lt, cm_le, cm_gt, cm_ge, cm_eqi, cm_nei, tr_bl, md, h0, decide_true, if_true, e, jd, Bool.not_true, if_false, Bool.false_eq_true]
  · have h0 : ¬ ((m : Int) % 3 = 0) := by omega
    simp only [tnB, exSs, exS, evE, evT, evEs, evA, evBs, evO, evOt, evI, bw, rdV, rdB, R.bind_ok, R.bind_exc, R.bind_bad, R.ofO_some, R.ofO_none, R.toO_ok, R.toO_exc, R.toO_bad, O.then_nx, O.then_ret, O.then_exc, O.then_bad, O.fin_nx, O.fin_ret, O.fin_exc, O.fin_bad, Option.map_some, Option.map_none, List.map_cons, List.map_nil, Ar.slot, List.cons_append, List.nil_append, List.length_cons, List.length_nil, List.getElem?_cons_zero, List.getElem?_cons_succ, List.set_cons_zero, List.set_cons_succ, parR, bi_abs, bi_inti, bi_intb, bi_lent, bi_lenl, bi_lens, bi_max, bi_min, bi_tupt, bi_tupl, bi_lstt, bi_lstl, isi_t, isi_l, isi_i, isi_b, isi_n, isi_s, reduceCtorEq, decide_true, decide_false, Bool.or_true, Bool.or_false, Bool.true_or, Bool.false_or, blV, ntV, ngV, intV, op_add, op_sub, cm_lt, cm_le, cm_gt, cm_ge, cm_eqi, cm_nei, tr_bl, md, h0, decide_false, e, jd, Bool.not_true, if_false, Bool.false_eq_true]
theorem v_step {ns : List Int} {i : Nat} {q : List Int} {e1 e5 e6 : Option PL.Slot} {v : Val} {κ : Ks} (hq : PicOk q) (hS : Spr κ i) (hv : okV 0 4 v = true) : ∃ e5' e6' κ', exSs (cb tab 20) vB (lwR ns e1 (some (.val (.cell i))) (some (.val (picV q))) (some (.val v)) e5 e6) κ = .nx (lwR ns e1 (some (.val (.cell i))) (some (.val (picV q))) (some (.val v)) e5' e6') κ' ∧ Spr κ' i := by
  have jd := s_judged κ hq (ok_dat v hv) (by omega)
  have p1 : exS (cb tab 20) (.ite (.not (.val (.call 29 (.cons (.var 3) (.cons (.var 4) .nil))))) (.cons (.ret (.con (.bl false)))
  .nil) .nil) (lwR ns e1 (some (.val (.cell i))) (some (.val (picV q))) (some (.val v)) e5 e6) κ = .nx (lwR ns e1 (some (.val (.cell i))) (some (.val (picV q))) (some (.val v)) e5 e6) κ := by
    simp only [exSs, exS, evE, evT, evEs, evA, evBs, evO, evOt, evI, bw, rdV, rdB, R.bind_ok, R.bind_exc, R.bind_bad, R.ofO_some, R.ofO_none, R.toO_ok, R.toO_exc, R.toO_bad, O.then_nx, O.then_ret, O.then_exc, O.then_bad, O.fin_nx, O.fin_ret, O.fin_exc, O.fin_bad, Option.map_some, Option.map_none, List.map_cons, List.map_nil, Ar.slot, List.cons_append, List.nil_append, List.length_cons, List.length_nil, List.getElem?_cons_zero, List.getElem?_cons_succ, List.set_cons_zero, List.set_cons_succ, parR, bi_abs, bi_inti, bi_intb, bi_lent, bi_lenl, bi_lens, bi_max, bi_min, bi_tupt, bi_tupl, bi_lstt, bi_lstl, isi_t, isi_l, isi_i, isi_b, isi_n, isi_s, reduceCtorEq, decide_true, decide_false, Bool.or_true, Bool.or_false, Bool.true_or, Bool.false_or, blV, ntV, ngV, intV, op_add, op_sub, cm_lt, cm_le, cm_gt, cm_ge, cm_eqi, cm_nei, tr_bl, jd, Bool.not_true, if_false, Bool.false_eq_true]
  have p2 : exS (cb tab 20) (.set 5 (.var 4)) (lwR ns e1 (some (.val (.cell i))) (some (.val (picV q))) (some (.val v)) e5 e6) κ = .nx (lwR ns e1 (some (.val (.cell i))) (some (.val (picV q))) (some (.val v)) (some (.val v)) e6) κ := rfl
  have i3 : evI (cb tab 20) (.rng1 (.cons (.con (.int (12))) .nil)) (lwR ns e1 (some (.val (.cell i))) (some (.val (picV q))) (some (.val v)) (some (.val v)) e6) κ = .ok (rngL 0 12, κ) := by
    simp only [exSs, exS, evE, evT, evEs, evA, evBs, evO, evOt, evI, bw, rdV, rdB, R.bind_ok, R.bind_exc, R.bind_bad, R.ofO_some, R.ofO_none, R.toO_ok, R.toO_exc, R.toO_bad, O.then_nx, O.then_ret, O.then_exc, O.then_bad, O.fin_nx, O.fin_ret, O.fin_exc, O.fin_bad, Option.map_some, Option.map_none, List.map_cons, List.map_nil, Ar.slot, List.cons_append, List.nil_append, List.length_cons, List.length_nil, List.getElem?_cons_zero, List.getElem?_cons_succ, List.set_cons_zero, List.set_cons_succ, parR, bi_abs, bi_inti, bi_intb, bi_lent, bi_lenl, bi_lens, bi_max, bi_min, bi_tupt, bi_tupl, bi_lstt, bi_lstl, isi_t, isi_l, isi_i, isi_b, isi_n, isi_s, reduceCtorEq, decide_true, decide_false, Bool.or_true, Bool.or_false, Bool.true_or, Bool.false_or, blV, ntV, ngV, intV, op_add, op_sub, cm_lt, cm_le, cm_gt, cm_ge, cm_eqi, cm_nei, tr_bl]
    rw [rng1_ok (by decide) (by decide)]
    rfl
  obtain ⟨ρ', κ', p3, hS', e5', e6', er, _⟩ := loop_inv (c := cb tab 20) (tg := .nm 6) (b := tnB) (fun m ρ k' => Spr k' i ∧ ∃ e5 e6, ρ = lwR ns e1 (some (.val (.cell i))) (some (.val (picV q))) (some (.val v)) e5 e6 ∧ (m % 3 ≠ 0 → ∃ w, e5 = some (.val w) ∧ okV (m % 3) (4 + m % 3) w = true)) i3 ⟨hS, some (.val v), e6, rfl, fun h => absurd rfl h⟩ (fun m u ρ k' hv' ⟨hS', e5, e6, er, hw⟩ => by
    subst er
    obtain ⟨ev, hm⟩ := rngL_at hv'
    subst ev
    by_cases h3 : m % 3 = 0
    · obtain ⟨w, κ', e, ho, hS2, _⟩ := tn_step (ns := ns) (i := i) (q := q) (e1 := e1) (v := v) (u := v) (m := m) (k := 0) (e5 := e5) hq hS' (by omega) hv (.inl ⟨h3, rfl⟩)
      refine ⟨_, _, κ', rfl, e, hS2, _, _, rfl, fun _ => ⟨w, rfl, ?_⟩⟩
      rw [show (m + 1) % 3 = 1 by omega]
      exact ho
    · obtain ⟨u, eu, hu⟩ := hw h3
      obtain ⟨w, κ', e, ho, hS2, _⟩ := tn_step (ns := ns) (i := i) (q := q) (e1 := e1) (v := v) (u := u) (m := m) (k := m % 3) (e5 := e5) hq hS' (by omega) hu (.inr ⟨h3, eu⟩)
      refine ⟨_, _, κ', rfl, e, hS2, _, _, rfl, fun h => ⟨w, rfl, ?_⟩⟩
      have : (m + 1) % 3 = m % 3 + 1 := by omega
      rw [this]
      exact ho)
  subst er
  refine ⟨e5', e6', κ', ?_, hS'⟩
  unfold vB
  rw [ss_nx p1, ss_nx p2, ss_nx p3]
  rfl
abbrev vsE : Es := (.cons (.var 3) (.cons (.call 16 (.cons (.var 2) (.cons (.var 3) (.cons (.con (.int (3))) .nil)))) (.cons (.call 17 (.cons (.var 2) (.cons (.var 3) .nil))) (.cons (.call 18 (.cons (.var 2) (.cons (.var 3) (.cons (.con (.int (4))) .nil)))) (.cons (.tup (.cons (.call 13 (.cons (.var 2) (.cons (.con (.int (9))) .nil))) (.cons (.op .add (.con (.int (1))) (.call 13 (.cons (.var 2) (.cons (.con (.int (9))) .nil)))) .nil))) .nil)))))
abbrev kB : Ss := (.cons (.cel 2 (.call 12 (.cons (.var 0) (.cons (.var 1) .nil))))
  (.cons (.set 3 (.call 15 (.cons (.var 2) (.cons (.con (.int (5))) .nil))))
  (.cons (.loop (.nm 4) (.seq (.lst vsE)) vB)
  .nil)))
theorem pure_law (ns : List Int) (hl : ns.length ≤ 63) (hb : ∀ z ∈ ns, Builtin.Int.intBits z ≤ 1048576) : ∃ κ', (cb tab 21).cf 31 [.v (.scr ns)] [] = .ok (.bl true, κ') := by
  have i1 : evI (cb tab 20) (.rng1 (.cons (.bi .max2 (.cons (.con (.int (4))) (.cons (.bi .min2 (.cons (.con (.int (9))) (.cons (.bi .len (.cons (.var 0) .nil)) .nil))) .nil))) .nil)) (lwR ns none none none none none none) [] = .ok (rngL 0 (if (if (ns.length : Int) < 9 then (ns.length : Int) else 9) > 4 then (if (ns.length : Int) < 9 then (ns.length : Int) else 9) else 4), []) := by
    simp only [exSs, exS, evE, evT, evEs, evA, evBs, evO, evOt, evI, bw, rdV, rdB, R.bind_ok, R.bind_exc, R.bind_bad, R.ofO_some, R.ofO_none, R.toO_ok, R.toO_exc, R.toO_bad, O.then_nx, O.then_ret, O.then_exc, O.then_bad, O.fin_nx, O.fin_ret, O.fin_exc, O.fin_bad, Option.map_some, Option.map_none, List.map_cons, List.map_nil, Ar.slot, List.cons_append, List.nil_append, List.length_cons, List.length_nil, List.getElem?_cons_zero, List.getElem?_cons_succ, List.set_cons_zero, List.set_cons_succ, parR, bi_abs, bi_inti, bi_intb, bi_lent, bi_lenl, bi_lens, bi_max, bi_min, bi_tupt, bi_tupl, bi_lstt, bi_lstl, isi_t, isi_l, isi_i, isi_b, isi_n, isi_s, reduceCtorEq, decide_true, decide_false, Bool.or_true, Bool.or_false, Bool.true_or, Bool.false_or, blV, ntV, ngV, intV, op_add, op_sub, cm_lt, cm_le, cm_gt, cm_ge, cm_eqi, cm_nei, tr_bl, evBs]
    rw [rng1_ok (by split <;> (try split at *) <;> omega) (by split <;> (try split at *) <;> omega)]
    rfl
  obtain ⟨ρ1, κ1, e1, f1, f2, f3, f4, f5, f6, er⟩ := loop_inv (c := cb tab 20) (tg := .nm 1) (b := kB) (fun n ρ k => ∃ e1 e2 e3 e4 e5 e6, ρ = lwR ns e1 e2 e3 e4 e5 e6) i1 ⟨none, none, none, none, none, none, rfl⟩ (fun n v ρ k hv ⟨e1, e2, e3, e4, e5, e6, er⟩ => by
    obtain ⟨ev, hn⟩ := rngL_at hv
    subst ev
    subst er
    obtain ⟨sa, sb, es, s0, s1, s2⟩ := s_spring 19 (κ := k) (ns := ns) (k := n)
    change (cb tab 20).cf _ _ _ = _ at es
    have hS := spr_new (κ := k) s0 s1 s2
    obtain ⟨q, k2, eq, hq, hS2, _⟩ := s_shot 17 hS
    change (cb tab 20).cf _ _ _ = _ at eq
    obtain ⟨l, k3, d3, hl3, _, hS3, _⟩ := s_lengths 17 hS2 hq (m := 3) (by decide) (by decide)
    change (cb tab 20).cf _ _ _ = _ at d3
    obtain ⟨c, k4, d4, hc, hS4, _⟩ := s_saying 16 hS3 hq
    change (cb tab 20).cf _ _ _ = _ at d4
    obtain ⟨f, k5, d5, hf4, hf, hS5, _⟩ := s_sayings 15 hS4 hq (m := 4) (by decide) (by decide)
    change (cb tab 20).cf _ _ _ = _ at d5
    obtain ⟨r1, k6, d6, r10, r11, hS6, _⟩ := s_pick 19 hS5 (m := 9) (by decide) (by decide)
    change (cb tab 20).cf _ _ _ = _ at d6
    obtain ⟨r2, k7, d7, r20, r21, hS7, _⟩ := s_pick 19 hS6 (m := 9) (by decide) (by decide)
    change (cb tab 20).cf _ _ _ = _ at d7
    have p1 : exS (cb tab 20) (.cel 2 (.call 12 (.cons (.var 0) (.cons (.var 1) .nil)))) (lwR ns (some (.val (.int (n : Int)))) e2 e3 e4 e5 e6) k = .nx (lwR ns (some (.val (.int (n : Int)))) (some (.val (.cell k.length))) e3 e4 e5 e6) (k ++ [.lst [.int sa, .int sb]]) := by
      simp only [exSs, exS, evE, evT, evEs, evA, evBs, evO, evOt, evI, bw, rdV, rdB, R.bind_ok, R.bind_exc, R.bind_bad, R.ofO_some, R.ofO_none, R.toO_ok, R.toO_exc, R.toO_bad, O.then_nx, O.then_ret, O.then_exc, O.then_bad, O.fin_nx, O.fin_ret, O.fin_exc, O.fin_bad, Option.map_some, Option.map_none, List.map_cons, List.map_nil, Ar.slot, List.cons_append, List.nil_append, List.length_cons, List.length_nil, List.getElem?_cons_zero, List.getElem?_cons_succ, List.set_cons_zero, List.set_cons_succ, parR, bi_abs, bi_inti, bi_intb, bi_lent, bi_lenl, bi_lens, bi_max, bi_min, bi_tupt, bi_tupl, bi_lstt, bi_lstl, isi_t, isi_l, isi_i, isi_b, isi_n, isi_s, reduceCtorEq, decide_true, decide_false, Bool.or_true, Bool.or_false, Bool.true_or, Bool.false_or, blV, ntV, ngV, intV, op_add, op_sub, cm_lt, cm_le, cm_gt, cm_ge, cm_eqi, cm_nei, tr_bl, es]
    have p2 : exS (cb tab 20) (.set 3 (.call 15 (.cons (.var 2) (.cons (.con (.int (5))) .nil)))) (lwR ns (some (.val (.int (n : Int)))) (some (.val (.cell k.length))) e3 e4 e5 e6) (k ++ [.lst [.int sa, .int sb]]) = .nx (lwR ns (some (.val (.int (n : Int)))) (some (.val (.cell k.length))) (some (.val (picV q))) e4 e5 e6) k2 := by
      simp only [exSs, exS, evE, evT, evEs, evA, evBs, evO, evOt, evI, bw, rdV, rdB, R.bind_ok, R.bind_exc, R.bind_bad, R.ofO_some, R.ofO_none, R.toO_ok, R.toO_exc, R.toO_bad, O.then_nx, O.then_ret, O.then_exc, O.then_bad, O.fin_nx, O.fin_ret, O.fin_exc, O.fin_bad, Option.map_some, Option.map_none, List.map_cons, List.map_nil, Ar.slot, List.cons_append, List.nil_append, List.length_cons, List.length_nil, List.getElem?_cons_zero, List.getElem?_cons_succ, List.set_cons_zero, List.set_cons_succ, parR, bi_abs, bi_inti, bi_intb, bi_lent, bi_lenl, bi_lens, bi_max, bi_min, bi_tupt, bi_tupl, bi_lstt, bi_lstl, isi_t, isi_l, isi_i, isi_b, isi_n, isi_s, reduceCtorEq, decide_true, decide_false, Bool.or_true, Bool.or_false, Bool.true_or, Bool.false_or, blV, ntV, ngV, intV, op_add, op_sub, cm_lt, cm_le, cm_gt, cm_ge, cm_eqi, cm_nei, tr_bl, eq]
    have i2 : evI (cb tab 20) (.seq (.lst vsE)) (lwR ns (some (.val (.int (n : Int)))) (some (.val (.cell k.length))) (some (.val (picV q))) e4 e5 e6) k2 = .ok ([picV q, parV l, Clm.v c, factsV f, .tup [.int r1, .int (1 + r2)]], k7) := by
      simp only [vsE, exSs, exS, evE, evT, evEs, evA, evBs, evO, evOt, evI, bw, rdV, rdB, R.bind_ok, R.bind_exc, R.bind_bad, R.ofO_some, R.ofO_none, R.toO_ok, R.toO_exc, R.toO_bad, O.then_nx, O.then_ret, O.then_exc, O.then_bad, O.fin_nx, O.fin_ret, O.fin_exc, O.fin_bad, Option.map_some, Option.map_none, List.map_cons, List.map_nil, Ar.slot, List.cons_append, List.nil_append, List.length_cons, List.length_nil, List.getElem?_cons_zero, List.getElem?_cons_succ, List.set_cons_zero, List.set_cons_succ, parR, bi_abs, bi_inti, bi_intb, bi_lent, bi_lenl, bi_lens, bi_max, bi_min, bi_tupt, bi_tupl, bi_lstt, bi_lstl, isi_t, isi_l, isi_i, isi_b, isi_n, isi_s, reduceCtorEq, decide_true, decide_false, Bool.or_true, Bool.or_false, Bool.true_or, Bool.false_or, blV, ntV, ngV, intV, op_add, op_sub, cm_lt, cm_le, cm_gt, cm_ge, cm_eqi, cm_nei, tr_bl, d3, d4, d5, d6, d7, le2, le5, if_true]
      rfl
    have oks : ∀ v ∈ [picV q, parV l, Clm.v c, factsV f, .tup [.int r1, .int (1 + r2)]], okV 0 4 v = true :=
      all_c (ok_mono _ (Nat.le_refl 0) (by omega) (pic_okV hq)) (all_c (ok_mono _ (Nat.le_refl 0) (by omega) (par_okV hq hl3)) (all_c (ok_mono _ (Nat.le_refl 0) (by omega) (clm_okV hq hc)) (all_c (facts_okV hq (by omega) hf) (all_c (tup_ok (by simp) (all_c (small _ (by omega)) (all_c (small _ (by omega)) all_n))) all_n))))
    obtain ⟨ρ3, k8, p3, hS8, h4, h5, h6, eg⟩ := loop_inv (c := cb tab 20) (tg := .nm 4) (b := vB) (fun m ρ k' => Spr k' k.length ∧ ∃ e4 e5 e6, ρ = lwR ns (some (.val (.int (n : Int)))) (some (.val (.cell k.length))) (some (.val (picV q))) e4 e5 e6) i2 ⟨hS7, e4, e5, e6, rfl⟩ (fun m v ρ k' hv ⟨hS', e4, e5, e6, er⟩ => by
      subst er
      obtain ⟨e5', e6', κ', e, hS2⟩ := v_step (ns := ns) (i := k.length) (q := q) (e1 := some (.val (.int (n : Int)))) (e5 := e5) (e6 := e6) (v := v) hq hS' (oks v (List.mem_of_getElem? hv))
      exact ⟨_, _, κ', rfl, e, hS2, _, _, _, rfl⟩)
    subst eg
    refine ⟨lwR ns (some (.val (.int (n : Int)))) e2 e3 e4 e5 e6, lwR ns (some (.val (.int (n : Int)))) (some (.val (.cell k.length))) (some (.val (picV q))) h4 h5 h6, k8, rfl, ?_, _, _, _, _, _, _, rfl⟩
    unfold kB
    rw [ss_nx p1, ss_nx p2, ss_nx p3]
    rfl)
  refine ⟨κ1, ?_⟩
  rw [cf_succ 20 _ _ _ _ rfl rfl]
  subst er
  have p5 : exS (cb tab 20) (.ret (.call 30 .nil)) (lwR ns f1 f2 f3 f4 f5 f6) κ1 = .ret (.bl true) κ1 := by
    refine ev_retE ?_
    show (cb tab 20).cf 30 [] κ1 = _
    exact s_written κ1
  have e : exSs (cb tab 20) ir_law (lwR ns none none none none none none) [] = .ret (.bl true) κ1 := by
    unfold ir_law
    rw [ss_nx e1, ss_ret p5]
  exact congrArg O.fin e
end K01
end
section
namespace K01
open PySem PySem.Spec PyProof.Rows L2 LamX NdefX PL
theorem at_ {w : World} {K : PySem.W.Frag} {mg : Str → Option Value} {fa0 : Addr} {h : Heap} (KX : K.In h) (c : He.SaysX fa fn [] tf ex w h K) (G : h.Ns mainGlobals mg) (hmg : mg ("law" : Str) = some (.ref fa0)) :
    LawAtS PySem.Challenge.rw_leanmarks_k01_what_can_be_handed_in w K (L2N.CX (PySem.Challenge.rw_leanmarks_k01_what_can_be_handed_in).prog w) 21 63 "_law_script" mg fa0 h := by
  obtain ⟨fd, D⟩ := c.t.d.defs (d := ⟨("law", none), "law", "law", defArgs (top 52), defBody (top 52), defScope (top 52), [], []⟩) (List.mem_of_getElem? (i := 31) rfl)
  have ef := hmg.symm.trans (He.glo_ok KX G (c.t.d.facts (f := .glo "law") (List.mem_append_left _ (List.mem_map.mpr ⟨"law", List.mem_of_getElem? (i := 31) rfl, rfl⟩))))
  cases ef
  refine ⟨fd, tf.map (He.cT K), (fun vs H Q _ => ∃ z ns κ', vs = [.ref z] ∧ SqL K H z (ns.map V.int) ∧ TabsN (gx K).tabs H ∧ (cb tab 21).cf 31 [.v (.scr ns)] [] = .ok (.bl true, κ') ∧ ∀ H', Q (.bl true) H'), fun p hp => ?_, fun p hp => ?_, fun p hp => ?_, fun s u => (FunD.bindsA (ps := ["_law_script"]) D (fun _ _ _ _ _ _ us hl => match us, hl with | [_], _ => rfl)) s [u] rfl, fun H a ns hlen hbits hH hS => ?_, fun base KXb Gb hT => ?_⟩
  · obtain ⟨q, hq, rfl⟩ := List.mem_map.mp hp
    exact c.empty q hq
  · obtain ⟨q, hq, rfl⟩ := List.mem_map.mp hp
    exact c.out q hq
  · obtain ⟨q, hq, rfl⟩ := List.mem_map.mp hp
    exact PySem.W.codeHd_of_K KX (c.hd q hq)
  case refine_5 =>
    have h2 := head_facts KXb Gb c hT
    obtain ⟨G2, LM, FF⟩ := all_d (P := (PySem.Challenge.rw_leanmarks_k01_what_can_be_handed_in).prog) (W := w) h2 20
    exact law_top (g := gx K) (clA := clA K) (N := N_law) (sem := (cb tab 21).cf 31) (m := exSs (cb tab 20) ir_law) D ⟨rfl, rfl, rfl, by decide +kernel, rfl, by decide +kernel, by decide +kernel⟩ (fun cd A outer s H E hcd hex hr => b_law h2 G2 LM FF cd A outer s H E hcd hex hr) (fun _ _ => rfl)
  case refine_4 =>
    obtain ⟨κ', e⟩ := pure_law ns hlen hbits
    refine ⟨a, ns, κ', rfl, hS, ?_, e, fun _ => rfl⟩
    exact fun t ht => by
      have hall : ∀ t ∈ (gx K).tabs, ∃ q ∈ tf, t.1 = (He.cT K q).2 := by
        intro t ht
        simp only [gx, List.mem_cons, List.mem_nil_iff, or_false] at ht
        subst ht; exact ⟨_, List.mem_of_getElem? (i := 0) rfl, rfl⟩
      obtain ⟨q, hq, e⟩ := hall t ht
      exact TabN.nil (by rw [e]; exact hH _ (List.mem_map.mpr ⟨q, hq, rfl⟩))
end K01
open PySem PySem.W PySem.Calls PyProof.Rows
theorem PySem.Challenge.cw_leanmarks_k01_what_can_be_handed_in_holds : PySem.Challenge.rw_leanmarks_k01_what_can_be_handed_in.Holds := by
  w_on; o_law
  refine HandSHeadRun.head_any (r := OpenLaw.row PySem.Challenge.rw_leanmarks_k01_what_can_be_handed_in) (q := view (OpenLaw.row PySem.Challenge.rw_leanmarks_k01_what_can_be_handed_in).prog [52]) (H := K01.hk) (ob := K01.ob) (M := 6000) (loose := K01.loose) (d := HandSHeadRun.topDef (OpenLaw.row PySem.Challenge.rw_leanmarks_k01_what_can_be_handed_in).prog 52) (kwd := []) K01.ob_eq
    (by kernel_rfl) (fun s => by kernel_rfl) K01.run (by kernel_rfl) (by kernel_rfl) (by kernel_rfl) (by rfl) (by first | assumption | decide +kernel) (by decide +kernel) ⟨rfl, rfl, rfl, rfl, rfl, by decide +kernel⟩ ?hw ?hc
  case hw => w_witness2
  case hc =>
    refine LamX.walk_ofTsE (l := PySem.Challenge.rw_leanmarks_k01_what_can_be_handed_in) (n := 63) (k := 21) (x := "_law_script") (CX := fun w => L2N.CX (PySem.Challenge.rw_leanmarks_k01_what_can_be_handed_in).prog w) rfl (by decide) (by kernel_rfl) ⟨rfl, by decide, by decide⟩ ?F (fun _ _ _ _ _ z => PL.no_exc z)
    intro w mg fa h Y G hmg0
    obtain ⟨K, KX, c⟩ := Y
    have hmg : mg ("law" : PySem.Str) = some (.ref fa) := by
      have e : (HandSHeadRun.topDef (OpenLaw.row PySem.Challenge.rw_leanmarks_k01_what_can_be_handed_in).prog 52).name = ("law" : PySem.Str) := by kernel_rfl
      rw [← e]
      exact hmg0
    exact ⟨K, KX, K01.at_ KX c G hmg⟩
end
