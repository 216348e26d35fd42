import PyProof.Rows.All
import Wide.All
import OpenK.AllK
import Wide.FinOn
import KE.KStateDown
import HandS.ForMost
import HandS.WordsExc
import HandS.More
import HandS.Defaults
import HandS.Wide
import HandS.IsInst
import HandS.Conv
import HandS.TupAny
import HandS.Zip
import HandS.CallSlots
import HandS.Style
import HandS.Deep
import HandS.Lambda
import HandS.EndTab
import HandS.HeadWalk
import HandS.ExcIs
import HandS.HotCalls
import HandS.SetFor
import HandS.Dict
import HandS.HeadHook1
import HandS.HeadHook4
import HandS.TupMul
import HandS.Iter
import HandS.SortInts
import HandS.Flow
import KE.GoesEnum
import HandS.ExcInit
import KE.SortData
import KE.KRevSl
import HandS.Strs
import HandS.FStr
import HandS.OwnEq
import HandS.TupSets
import HandS.HeadEnd
import HandS.Head0
import HandS.Head1
import HandS.Head2
import HandS.HeadHook2
import HandS.HeadHook3
import PySem.Challenge.RW_gunclocks_k62_posts_refused
import PyProof.ReprLen
section
set_option Elab.async false
set_option linter.all false
set_option maxRecDepth 100000
set_option maxHeartbeats 0
namespace Law
open PySem PySem.W PySem.Calls PyProof.Rows
abbrev R : PySem.W.OpenRow := PySem.W.OpenLaw.row PySem.Challenge.rw_gunclocks_k62_posts_refused
end Law
set_option Elab.async false
set_option linter.all false
set_option maxRecDepth 100000
set_option maxHeartbeats 4000000
namespace G43
open PySem
/-! ### values without addresses -/
inductive PV where
  | non
  | bl (b : Bool)
  | int (i : Int)
  | str (s : Str)
  | tup (l : List PV)
  | lst (l : List PV)
  | fn (f : Nat)
  | obj (k : Nat) (l : List PV)
  | scr (l : List PV)
  | dct (kvs : List (Str × Int))
/-- an item of a list that is never changed itself: a value, or a cell -/
inductive IT where
  | p (q : PV)
  | c (i : Nat)
  | o (k i : Nat) (j : Option Nat)
inductive RV where
  | pv (p : PV)
  | ref (i : Nat)
  | mat (is : List Nat)
  | vec (xs : List IT)
  /-- an object of the class k: the cell of its fields, the cell of its list -/
  | ob (k i : Nat) (j : Option Nat)
  /-- a tuple of such an object and a value -/
  | two (k i : Nat) (j : Option Nat) (p : PV)
abbrev Hs := List (Option (List PV))
structure XV where
  cls : Nat
  flds : List (Str × PV)
abbrev Env := List (Option RV)
abbrev QV := RV → Hs → Prop
abbrev QX := XV → Hs → Prop
abbrev CallT := Nat → List RV → Hs → QV → QX → Prop
/-! ### the small language -/
inductive BI where
  | len | abs | max | int | tuple | list | all | any | repr | str | sorted | sum | bool | set
  deriving DecidableEq
inductive Ty where
  | int | bool | tuple | str | list
  deriving DecidableEq
inductive Tg where
  | nm (i : Nat)
  | nil
  | cons (a r : Tg)
mutual
inductive E where
  | var (i : Nat)
  | cst (p : PV)
  | glo (g : Nat)
  | bin (op : Operator) (a b : E)
  | neg (a : E)
  | nt (a : E)
  | and (a b : E)
  | or (a b : E)
  | cmp (op : CmpOp) (a b : E)
  | chn (op op' : CmpOp) (a b c : E)
  | ite (t a b : E)
  | call (f : Nat) (es : EL) (dv : List PV)
  | bi (b : BI) (es : EL)
  | isi (a : E) (t : Ty)
  | idx (a i : E)
  | slo (a lo : E)
  | shi (a hi : E)
  | slh (a lo hi : E)
  | tup (es : EL)
  | lst (es : EL)
  | mls (es : EL)
  | mrp (a b : E)
  | frz (a : E)
  | comp (elt : E) (tg : Tg) (it : It) (ifs : EL)
  | word (e : E)
  | fld (a : E) (k t : Nat)
  | lfd (a : E) (k : Nat)
  | mko (k f : Nat) (es : EL) (dv : List PV)
  | mth (k f : Nat) (a : E) (es : EL) (dv : List PV)
  /-- len(e), repr(e) of an object with such a method -/
  | lno (k f : Nat) (a : E)
  /-- f'p{e}q' -/
  | fm1 (p : Str) (a : E) (q : Str)
  /-- list(zip(a, b)), both empty, a a list, b a tuple -/
  | lze (a b : E)
  /-- list(range(a)) -/
  | lrg (a : E)
inductive EL where
  | nil
  | cons (e : E) (r : EL)
inductive It where
  | seq (e : E)
  | rng1 (e : E)
  | rng2 (a b : E)
  | enm (e : E)
end
mutual
inductive S where
  | set (i : Nat) (e : E)
  | par (is : List Nat) (es : EL)
  | unp (tg : Tg) (e : E)
  | sub (o i v : E)
  | app (o v : E)
  /-- never reached -/
  | nev
  | exp (e : E)
  | iff (t : E) (a b : SL)
  | for (kl : List Nat) (tg : Tg) (it : It) (body : SL)
  | whl (kl : List Nat) (t : E) (body : SL)
  | ret (e : E)
  | retN
  | rse
  | rsx (c : Nat)
  /-- an error whose fields are whole numbers -/
  | rsf (c : Nat) (es : EL)
  | pass
  | fst (o k t : Nat) (e : E)
  | fnl (o k t : Nat) (e : E)
  | lap (o v : E)
inductive SL where
  | nil
  | cons (s : S) (r : SL)
end
def EL.len : EL → Nat
  | .nil => 0
  | .cons _ r => r.len + 1
structure Df where
  name : Str
  npar : Nat
  dfl : List PV
  N : List Str
  body : SL
  kw : Bool
  kws : List (List Str × List (Option Nat)) := []
  /-- made by its first value and the name of its second one -/
  kwx : Bool := false
  /-- a method: its class; whether it makes the object -/
  own : Option Str := none
  ini : Bool := false
def Df.at_ (d : Df) : Str × Option Str := match d.own with
  | none => (d.name, none)
  | some c => (c, some d.name)
def Df.qual (d : Df) : Str := match d.own with
  | none => d.name
  | some c => (c ++ ("." : Str)) ++ d.name
/-- a class: its name, its fields in the order in which they are made, the one that is a list ("" : none) -/
structure Cl where
  name : Str
  N : List Str
  lf : Str := ""
structure Pg where
  defs : List Df
  cons : List (Str × PV)
  blt : List Str
  exc : List (Str × Str) := []
  rai : List Nat := []
  raf : List Nat := []
  lm : Bool := false
  sd : Bool := false
  cls : List Cl := []
  dcs : List (Str × List (Str × PV)) := []
/-! ### equality, reading -/
mutual
def peq : PV → PV → Bool
  | .non, .non => true
  | .bl a, .bl b => a == b
  | .bl a, .int j => (if a then 1 else 0) == j
  | .int i, .bl b => i == (if b then 1 else 0)
  | .int i, .int j => i == j
  | .str x, .str y => x == y
  | .lst xs, .lst ys => peqL xs ys
  | .tup xs, .tup ys => peqL xs ys
  | _, _ => false
def peqL : List PV → List PV → Bool
  | [], [] => true
  | x :: xs, y :: ys => peq x y && peqL xs ys
  | [], _ :: _ => false
  | _ :: _, [] => false
end
/-- plain data, at most n deep -/
def Dt : Nat → PV → Prop
  | _, .non => True
  | _, .bl _ => True
  | _, .int _ => True
  | _, .str s => PyData.strOk s = true
  | n + 1, .tup l => ∀ x ∈ l, Dt n x
  | n + 1, .lst l => ∀ x ∈ l, Dt n x
  | _, _ => False
/-- what is read at a value -/
def val (h : Hs) : RV → Option PV
  | .pv p => some p
  | .ref i => match h[i]? with
    | some (some c) => some (.lst c)
    | _ => none
  | .mat _ => none
  | .vec _ => none
  | .ob _ _ _ => none
  | .two _ _ _ _ => none
/-- the mark of a field that is a list -/
def isMk : PV → Bool
  | .scr [] => true
  | _ => false
/-- a field of an object -/
def fldV (h : Hs) : RV → Nat → Nat → Option PV
  | .pv (.obj k' fs), k, t => if k' = k then fs[t]? else none
  | .ob k' i _, k, t => if k' = k then (match h[i]? with
    | some (some (.obj k2 [] :: fs)) => if k2 = k then (match fs[t]? with
      | some p => if isMk p = true then none else some p
      | none => none) else none
    | _ => none) else none
  | _, _, _ => none
def isK (h : Hs) (k : Nat) : RV → Prop
  | .pv (.obj k' _) => k' = k
  | .ob k' i _ => k' = k ∧ ∃ fs, h[i]? = some (some (.obj k [] :: fs))
  | _ => False
def tyOf : PV → String
  | .non => "NoneType"
  | .bl _ => "bool"
  | .int _ => "int"
  | .str _ => "str"
  | .tup _ => "tuple"
  | .lst _ => "list"
  | .fn _ => "function"
  | .obj _ _ => "object"
  | .scr _ => "list"
  | .dct _ => "dict"
def isB : PV → Ty → Option Bool
  | .fn _, _ => none
  | .obj _ _, _ => none
  | .scr _, _ => none
  | p, .int => some (tyOf p == "int" || tyOf p == "bool")
  | p, .bool => some (tyOf p == "bool")
  | p, .tuple => some (tyOf p == "tuple")
  | p, .str => some (tyOf p == "str")
  | p, .list => some (tyOf p == "list")
def atI {α : Type} (xs : List α) (i : Int) : Option α := L2.atI xs i
mutual
def dat : PV → PyData
  | .non => .none
  | .bl b => .bool b
  | .int i => .int i
  | .str x => .str x
  | .tup l => .tuple (datL l)
  | .lst l => .list (datL l)
  | .fn _ => .none
  | .obj _ _ => .none
  | .scr _ => .none
  | .dct _ => .none
def datL : List PV → List PyData
  | [] => []
  | x :: r => dat x :: datL r
end
def flat : PV → Bool
  | .non => true
  | .bl _ => true
  | .int _ => true
  | .str _ => true
  | _ => false
/-! ### operations -/
def wpBin : Operator → PV → PV → (PV → Prop) → Prop
  | .Add, .int i, .int j, Q => Q (.int (i + j))
  | .Add, .str a, .str b, Q => a.length + b.length ≤ sizeLine ∧ Q (.str (a ++ b))
  | .Add, .lst a, .lst b, Q => a.length + b.length ≤ sizeLine ∧ Q (.lst (a ++ b))
  | .Add, .tup a, .tup b, Q => a.length + b.length ≤ sizeLine ∧ Q (.tup (a ++ b))
  | .Sub, .int i, .int j, Q => Q (.int (i - j))
  | .Mult, .int i, .int j, Q => L2.CMulW i j ∧ Q (.int (i * j))
  | .Mult, .tup l, .int j, Q => (True ∧ 2 ≤ j ∧ j ≤ 1000 ∧ l.length ≤ 1000) ∧ Q (.tup (List.replicate j.toNat l).flatten)
  | .Mult, .lst l, .int j, Q => (-(2 ^ 63) ≤ j ∧ j < 2 ^ 63 ∧ l.length * j.toNat ≤ sizeLine) ∧ Q (.lst (List.replicate j.toNat l).flatten)
  | .FloorDiv, .int i, .int j, Q => L2.CDivW i j ∧ Q (.int (i / j))
  | .Mod, .int i, .int j, Q => 0 < j ∧ Q (.int (i % j))
  | .Pow, .int i, .int j, Q => L2.CPow i j ∧ Q (.int (i ^ j.toNat))
  | .LShift, .int i, .int j, Q => L2.CPow i j ∧ Q (.int (i * 2 ^ j.toNat))
  | .RShift, .int i, .int j, Q => 0 ≤ j ∧ Q (.int (i / 2 ^ j.toNat))
  | .BitAnd, .int i, .int j, Q => Q (.int (Builtin.bitAnd i j))
  | _, _, _, _ => False
def inL (x : PV) : List PV → Bool
  | [] => false
  | y :: r => peq y x || inL x r
def isNon : PV → Bool
  | .non => true
  | _ => false
def wpCmp : CmpOp → PV → PV → (Bool → Prop) → Prop
  | .Eq, .str a, .str b, Q => Q (a == b)
  | .NotEq, .str a, .str b, Q => Q (!(a == b))
  | .Eq, a, b, Q => Dt 60 a ∧ Dt 60 b ∧ Q (peq a b)
  | .NotEq, a, b, Q => Dt 60 a ∧ Dt 60 b ∧ Q (!peq a b)
  | .Lt, .int i, .int j, Q => Q (decide (i < j))
  | .LtE, .int i, .int j, Q => Q (decide (i ≤ j))
  | .Gt, .int i, .int j, Q => Q (decide (j < i))
  | .GtE, .int i, .int j, Q => Q (decide (j ≤ i))
  | .Is, a, .non, Q => Q (isNon a)
  | .IsNot, a, .non, Q => Q (!isNon a)
  | .Is, .bl a, .bl b, Q => Q (a == b)
  | .IsNot, .bl a, .bl b, Q => Q (!(a == b))
  | .In, a, .lst l, Q => Dt 60 a ∧ Dt 60 (.lst l) ∧ Q (inL a l)
  | .NotIn, a, .lst l, Q => Dt 60 a ∧ Dt 60 (.lst l) ∧ Q (!inL a l)
  | .In, .non, .tup l, Q => Dt 60 .non ∧ Dt 60 (.tup l) ∧ Q (inL .non l)
  | .In, a, .tup l, Q => flat a = true ∧ l.all flat = true ∧ Q (inL a l)
  | .NotIn, a, .tup l, Q => flat a = true ∧ l.all flat = true ∧ Q (!inL a l)
  | _, _, _, _ => False
def bools : List PV → Option (List Bool)
  | [] => some []
  | .bl b :: r => (bools r).map (b :: ·)
  | _ => none
def wpBi : BI → List PV → (PV → Prop) → Prop
  | .len, [.tup l], Q => Q (.int l.length)
  | .len, [.lst l], Q => Q (.int l.length)
  | .len, [.scr l], Q => Q (.int l.length)
  | .abs, [.int i], Q => Q (.int (if i < 0 then -i else i))
  | .max, [.int i, .int j], Q => Q (.int (if j > i then j else i))
  | .int, [.int i], Q => Q (.int i)
  | .int, [.bl b], Q => Q (.int (if b then 1 else 0))
  | .tuple, [.lst l], Q => Q (.tup l)
  | .tuple, [.tup l], Q => Q (.tup l)
  | .list, [.lst l], Q => Q (.lst l)
  | .list, [.tup l], Q => Q (.lst l)
  | .repr, [p], Q => (Dt 60 p ∧ (dat p).showable = true ∧ (dat p).shown.length ≤ sizeLine ∧ Q (.str (dat p).shown)) ∨ (p = .dct [] ∧ Q (.str (Str.ofString "{}")))
  | .str, [.int i], Q => i.natAbs.log2 < 1920 ∧ Q (.str (toString i))
  | .all, [.lst l], Q => ∃ bs, bools l = some bs ∧ Q (.bl (bs.all id))
  | .any, [.lst l], Q => ∃ bs, bools l = some bs ∧ Q (.bl (bs.any id))
  | _, _, _ => False
/-- a part of a list: as the layer's cutV -/
def cut (xs : List PV) (lo hi : Option Int) : List PV := (xs.drop (HT.sIx xs.length 0 lo)).take (HT.sIx xs.length xs.length hi - HT.sIx xs.length 0 lo)
def wpSl : PV → Option Int → Option Int → (PV → Prop) → Prop
  | .lst l, lo, hi, Q => Q (.lst (cut l lo hi))
  | .tup l, lo, hi, Q => Q (.tup (cut l lo hi))
  | .scr l, lo, hi, Q => Q (.lst (cut l lo hi))
  | _, _, _, _ => False
def wpIx : PV → PV → (PV → Prop) → Prop
  | .lst l, .int i, Q => ∃ v, atI l i = some v ∧ Q v
  | .tup l, .int i, Q => ∃ v, atI l i = some v ∧ Q v
  | .scr l, .int i, Q => ∃ v, atI l i = some v ∧ Q v
  | _, _, _ => False
def Pg.wv (P : Pg) (p : PV) : PV := if P.sd = true then p else .tup [.str "told", p]
/-- the fields of an error of that number -/
def fldN (c : Nat) : List Str := if c = 17 then ["many", "most"] else if c = 18 then ["at"] else []
def okF (x : XV) : Bool := decide (x.flds.map (·.1) = fldN x.cls) && x.flds.all fun q => match q.2 with
  | .int _ => true
  | _ => false
/-! ### targets, loops -/
def Tg.len : Tg → Nat
  | .nm _ => 0
  | .nil => 0
  | .cons _ r => r.len + 1
mutual
def bindT : Tg → PV → Env → (Env → Prop) → Prop
  | .nm i, x, ρ, k => k (ρ.set i (some (.pv x)))
  | .nil, x, ρ, k => x = .tup [] ∧ k ρ
  | .cons a r, x, ρ, k => ∃ y ys, x = .tup (y :: ys) ∧ bindT a y ρ fun ρ' => bindL r ys ρ' k
def bindL : Tg → List PV → Env → (Env → Prop) → Prop
  | .nm _, _, _, _ => False
  | .nil, l, ρ, k => l = [] ∧ k ρ
  | .cons a r, l, ρ, k => ∃ x xs, l = x :: xs ∧ bindT a x ρ fun ρ' => bindL r xs ρ' k
end
def kill (ρ : Env) : List Nat → Env
  | [] => ρ
  | v :: vs => (kill ρ vs).set v none
def compT {α : Type} (gd : Hs → Prop) (step : PV → Hs → (List α → Hs → Prop) → Prop) : List PV → Hs → (List α → Hs → Prop) → Prop
  | [], h, Q => gd h ∧ Q [] h
  | x :: r, h, Q => gd h ∧ step x h fun y h' => compT gd step r h' fun l h'' => Q (y ++ l) h''
def Tg.slots : Tg → List Nat
  | .nm i => [i]
  | .nil => []
  | .cons a r => a.slots ++ r.slots
def rngL (lo : Int) (n : Nat) : List PV := (List.range n).map fun (i : Nat) => PV.int (lo + i)
def enmL (l : List PV) : List PV := l.zipIdx.map fun p => PV.tup [.int p.2, p.1]
/-- what {e} puts into a text -/
def prtS (x : RV) (y : Str) : Prop := (x = .pv (.str y) ∧ y.length ≤ sizeLine) ∨ ∃ i : Int, x = .pv (.int i) ∧ i.natAbs.log2 < 1920 ∧ PV.str y = PV.str (toString i)
/-! ### expressions -/
section
variable (P : Pg) (C : CallT)
mutual
def wpE : E → Env → Hs → QV → QX → Prop
  | .var i, ρ, h, Q, _ => ∃ v, ρ[i]? = some (some v) ∧ Q v h
  | .cst p, _, h, Q, _ => Q (.pv p) h
  | .glo g, _, h, Q, _ => ∃ x p, P.cons[g]? = some (x, p) ∧ Q (.pv p) h
  | .bin op a b, ρ, h, Q, X => wpE a ρ h (fun x h1 => wpE b ρ h1 (fun y h2 => ∃ p q, val h2 x = some p ∧ val h2 y = some q ∧ wpBin op p q fun r => Q (.pv r) h2) X) X
  | .neg a, ρ, h, Q, X => wpE a ρ h (fun x h1 => ∃ i, x = .pv (.int i) ∧ Q (.pv (.int (-i))) h1) X
  | .nt a, ρ, h, Q, X => wpE a ρ h (fun x h1 => ∃ c, x = .pv (.bl c) ∧ Q (.pv (.bl (!c))) h1) X
  | .and a b, ρ, h, Q, X => wpE a ρ h (fun x h1 => ∃ c, x = .pv (.bl c) ∧ if c = true then wpE b ρ h1 Q X else Q (.pv (.bl false)) h1) X
  | .or a b, ρ, h, Q, X => wpE a ρ h (fun x h1 => ∃ c, x = .pv (.bl c) ∧ if c = true then Q (.pv (.bl true)) h1 else wpE b ρ h1 Q X) X
  | .cmp op a b, ρ, h, Q, X => wpE a ρ h (fun x h1 => wpE b ρ h1 (fun y h2 => ∃ p q, val h2 x = some p ∧ val h2 y = some q ∧ wpCmp op p q fun r => Q (.pv (.bl r)) h2) X) X
  | .chn op op' a b c, ρ, h, Q, X => wpE a ρ h (fun x h1 => wpE b ρ h1 (fun y h2 => ∃ p q, val h2 x = some p ∧ val h2 y = some q ∧ wpCmp op p q fun r => if r = true then
      wpE c ρ h2 (fun z h3 => ∃ p q, val h3 y = some p ∧ val h3 z = some q ∧ wpCmp op' p q fun r => Q (.pv (.bl r)) h3) X else Q (.pv (.bl false)) h2) X) X
  | .ite t a b, ρ, h, Q, X => wpE t ρ h (fun x h1 => ∃ c, x = .pv (.bl c) ∧ if c = true then wpE a ρ h1 Q X else wpE b ρ h1 Q X) X
  | .call f es dv, ρ, h, Q, X => wpL es ρ h (fun vs h1 => C f (vs ++ dv.map .pv) h1 Q X) X
  | .bi b es, ρ, h, Q, X => wpL es ρ h (fun vs h1 => ∃ ps, vs.mapM (val h1) = some ps ∧ wpBi b ps fun r => Q (.pv r) h1) X
  | .isi a t, ρ, h, Q, X => wpE a ρ h (fun x h1 => ∃ p b, val h1 x = some p ∧ isB p t = some b ∧ Q (.pv (.bl b)) h1) X
  | .idx a i, ρ, h, Q, X => wpE a ρ h (fun x h1 => wpE i ρ h1 (fun y h2 => ∃ p q, val h2 x = some p ∧ y = .pv q ∧ wpIx p q fun r => Q (.pv r) h2) X) X
  | .slo a lo, ρ, h, Q, X => wpE a ρ h (fun x h1 => wpE lo ρ h1 (fun y h2 => ∃ p i, val h2 x = some p ∧ y = .pv (.int i) ∧ wpSl p (some i) none fun r => Q (.pv r) h2) X) X
  | .shi a hi, ρ, h, Q, X => wpE a ρ h (fun x h1 => wpE hi ρ h1 (fun y h2 => ∃ p i, val h2 x = some p ∧ y = .pv (.int i) ∧ wpSl p none (some i) fun r => Q (.pv r) h2) X) X
  | .slh a lo hi, ρ, h, Q, X => wpE a ρ h (fun x h1 => wpE lo ρ h1 (fun y h2 => ∃ i, y = .pv (.int i) ∧ wpE hi ρ h2 (fun z h3 => ∃ p j, val h3 x = some p ∧ z = .pv (.int j) ∧ wpSl p (some i) (some j) fun r => Q (.pv r) h3) X) X) X
  | .tup es, ρ, h, Q, X => wpL es ρ h (fun vs h1 => ∃ ps, vs = ps.map RV.pv ∧ Q (.pv (.tup ps)) h1) X
  | .lst es, ρ, h, Q, X => wpL es ρ h (fun vs h1 => ∃ ps, vs = ps.map RV.pv ∧ Q (.pv (.lst ps)) h1) X
  | .mls es, ρ, h, Q, X => wpL es ρ h (fun vs h1 => ∃ ps, vs = ps.map RV.pv ∧ Q (.ref h1.length) (h1 ++ [some ps])) X
  | .mrp a b, ρ, h, Q, X => wpE a ρ h (fun x h1 => wpE b ρ h1 (fun y h2 => ∃ p k, val h2 x = some (.lst p) ∧ y = .pv (.int k) ∧ -(2 ^ 63) ≤ k ∧ k < 2 ^ 63 ∧ p.length * k.toNat ≤ sizeLine ∧ Q (.ref h2.length) (h2 ++ [some (List.replicate k.toNat p).flatten])) X) X
  | .frz a, ρ, h, Q, X => wpE a ρ h (fun x h1 => ∃ i c, x = .ref i ∧ h1[i]? = some (some c) ∧ Q (.pv (.lst c)) (h1.set i none)) X
  | .comp elt tg it ifs, ρ, h, Q, X => wpI it ρ h (fun l gd h1 => l.length ≤ sizeLine ∧
      compT gd (fun x h2 k => bindT tg x (kill ρ tg.slots) fun ρ1 => wpTs ifs ρ1 h2 (fun b h3 => if b = true then wpE elt ρ1 h3 (fun y h4 => ∃ p, y = .pv p ∧ k [p] h4) (fun _ _ => False) else k [] h3) (fun _ _ => False)) l h1 fun r h2 => Q (.pv (.lst r)) h2) X
  | .word e, ρ, h, Q, X => wpE e ρ h (fun v h1 => ∃ p, v = .pv p ∧ Q (.pv (P.wv p)) h1) (fun x h1 => ∃ w, P.exc[x.cls]? = some w ∧ okF x = true ∧ Q (.pv (.tup (.str w.2 :: x.flds.map (·.2)))) h1)
  | .fld a k t, ρ, h, Q, X => wpE a ρ h (fun x h1 => ∃ p, fldV h1 x k t = some p ∧ Q (.pv p) h1) X
  | .lfd a k, ρ, h, Q, X => wpE a ρ h (fun x h1 => ∃ i j, x = .ob k i (some j) ∧ Q (.ref j) h1) X
  | .lze a b, ρ, h, Q, X => wpE a ρ h (fun x h1 => wpE b ρ h1 (fun y h2 => x = .pv (.lst []) ∧ y = .pv (.tup []) ∧ Q (.pv (.lst [])) h2) X) X
  | .lrg a, ρ, h, Q, X => wpE a ρ h (fun x h1 => ∃ j : Int, x = .pv (.int j) ∧ 0 ≤ j ∧ j ≤ 1000 ∧ Q (.pv (.lst (rngL 0 j.toNat))) h1) X
  | .mko k f es dv, ρ, h, Q, X => wpL es ρ h (fun vs h1 => C f (.ob k h1.length none :: (vs ++ dv.map .pv)) (h1 ++ [some [.obj k []]]) (fun v h2 => (∃ j, v = .ob k h1.length j) ∧ Q v h2) (fun x h2 => X x (h2.take h1.length))) X
  | .mth k f a es dv, ρ, h, Q, X => wpE a ρ h (fun x h1 => isK h1 k x ∧ wpL es ρ h1 (fun vs h2 => C f (x :: (vs ++ dv.map .pv)) h2 Q X) X) X
  | .lno k f a, ρ, h, Q, X => wpE a ρ h (fun x h1 => isK h1 k x ∧ C f [x] h1 (fun v h2 => ∃ n : Int, v = .pv (.int n) ∧ (0 ≤ n ∧ n < 2 ^ 63) ∧ Q v h2) X) X
  | .fm1 p a q, ρ, h, Q, X => wpE a ρ h (fun x h1 => ∃ y, prtS x y ∧ (p ++ y).length ≤ sizeLine ∧ ((p ++ y) ++ q).length ≤ sizeLine ∧ Q (.pv (.str ((p ++ y) ++ q))) h1) X
def wpL : EL → Env → Hs → (List RV → Hs → Prop) → QX → Prop
  | .nil, _, h, Q, _ => Q [] h
  | .cons e r, ρ, h, Q, X => wpE e ρ h (fun v h1 => wpL r ρ h1 (fun vs h2 => Q (v :: vs) h2) X) X
def wpI : It → Env → Hs → (List PV → (Hs → Prop) → Hs → Prop) → QX → Prop
  | .seq e, ρ, h, Q, X => wpE e ρ h (fun x h1 => match x with
      | .pv (.lst l) => Q l (fun _ => True) h1
      | .pv (.tup l) => Q l (fun _ => True) h1
      | .pv (.scr l) => Q l (fun _ => True) h1
      | .ref i => ∃ c, h1[i]? = some (some c) ∧ Q c (fun h => h[i]? = some (some c)) h1
      | _ => False) X
  | .rng1 e, ρ, h, Q, X => wpE e ρ h (fun x h1 => ∃ j, x = .pv (.int j) ∧ -(2 ^ 62) ≤ j ∧ j < 2 ^ 62 ∧ Q (rngL 0 j.toNat) (fun _ => True) h1) X
  | .rng2 a b, ρ, h, Q, X => wpE a ρ h (fun x h1 => wpE b ρ h1 (fun y h2 => ∃ i j, x = .pv (.int i) ∧ y = .pv (.int j) ∧ (-(2 ^ 62) ≤ i ∧ i < 2 ^ 62 ∧ -(2 ^ 62) ≤ j ∧ j < 2 ^ 62) ∧ Q (rngL i (j - i).toNat) (fun _ => True) h2) X) X
  | .enm e, ρ, h, Q, X => wpE e ρ h (fun x h1 => match x with
      | .pv (.lst l) => Q (enmL l) (fun _ => True) h1
      | .pv (.tup l) => Q (enmL l) (fun _ => True) h1
      | .ref i => ∃ c, h1[i]? = some (some c) ∧ Q (enmL c) (fun h => h[i]? = some (some c)) h1
      | _ => False) X
def wpTs : EL → Env → Hs → (Bool → Hs → Prop) → QX → Prop
  | .nil, _, h, Q, _ => Q true h
  | .cons e _, ρ, h, Q, X => wpE e ρ h (fun x h1 => ∃ c, x = .pv (.bl c) ∧ Q c h1) X
end
/-! ### statements -/
end
/-! ### calls: a def's body, so many levels deep -/
end G43
set_option Elab.async false
set_option linter.all false
set_option maxRecDepth 100000
set_option maxHeartbeats 4000000
set_option Elab.async false
set_option linter.all false
set_option maxRecDepth 100000
set_option maxHeartbeats 4000000
namespace G43
open PySem
open L2 (V HO Hp SqL SqT Rd upd upd_same upd_ne)
/-! ### where things lie -/
/-- a class: where it stands, its fields, its list -/
structure OI where
  C : Addr
  N : List Str
  lf : Str
structure Ad where
  K : PySem.W.Frag
  F : Nat → Addr
  CA : Nat → Addr
  T : List (Addr × Str) := []
  O : Nat → OI := fun _ => ⟨0, [], ""⟩
/-- the fields that are lists, made once -/
def fixF (f : Str) : Bool := f == ("signals" : Str) || f == ("runs" : Str) || f == ("past" : Str)
def KL (K : PySem.W.Frag) (a : Addr) (xs : List V) : Prop :=
  ∃ (o : Obj) (its : Array Value) (n : Nat), K.lookup a = some o ∧ o.cls = .type "list" ∧ o.dict = none ∧ o.data = .seq its n ∧ its.size ≤ sizeLine ∧ L2.Vals xs its.toList
def dkL (kvs : List (Str × Int)) : List (L2.Key × V) := kvs.map fun q => (.inr q.1, .int q.2)
mutual
inductive Rp (A : Ad) (L : Addr → Prop) (H : Hp) : PV → V → Prop
  | non : Rp A L H .non .non
  | bl (b : Bool) : Rp A L H (.bl b) (.bl b)
  | int (i : Int) : Rp A L H (.int i) (.int i)
  | str (x : Str) : Rp A L H (.str x) (.str x)
  | fn (f : Nat) : Rp A L H (.fn f) (.ref (A.F f))
  | tup {a : Addr} {xs : List V} {l : List PV} : SqT A.K H a xs → RpL A L H l xs → Rp A L H (.tup l) (.ref a)
  | lst {a : Addr} {xs : List V} {l : List PV} : H a = some (.lst xs) → ¬ L a → RpL A L H l xs → Rp A L H (.lst l) (.ref a)
  | scr {a : Addr} {xs : List V} {l : List PV} : (∃ o, H a = some (.frz o (.lst xs))) ∨ KL A.K a xs → RpL A L H l xs → Rp A L H (.scr l) (.ref a)
  | dct {a : Addr} {kvs : List (Str × Int)} : H a = some (.dK (dkL kvs)) → ¬ L a → Rp A L H (.dct kvs) (.ref a)
  | obj {a dx : Addr} {k : Nat} {l : List PV} {vs : List V} : H a = some (.ins (A.O k).C dx ((A.O k).N.zip vs)) → ¬ L a → l.length = (A.O k).N.length → RpL A L H l vs → Rp A L H (.obj k l) (.ref a)
inductive RpL (A : Ad) (L : Addr → Prop) (H : Hp) : List PV → List V → Prop
  | nil : RpL A L H [] []
  | cons {p : PV} {v : V} {l : List PV} {xs : List V} : Rp A L H p v → RpL A L H l xs → RpL A L H (p :: l) (v :: xs)
end
/-- a field of an object that may change: nothing is said of its list here -/
def RpF (A : Ad) (L : Addr → Prop) (H : Hp) (p : PV) (v : V) : Prop := isMk p = true ∨ Rp A L H p v
def RpFs (A : Ad) (L : Addr → Prop) (H : Hp) (fs : List PV) (vs : List V) : Prop := vs.length = fs.length ∧ ∀ (t : Nat) (p : PV) (v : V), fs[t]? = some p → vs[t]? = some v → RpF A L H p v
def ObR (A : Ad) (L : Addr → Prop) (H : Hp) (k : Nat) (fs : List PV) (a : Addr) : Prop :=
  ∃ dx vs, H a = some (.ins (A.O k).C dx (((A.O k).N.take fs.length).zip vs)) ∧ fs.length ≤ (A.O k).N.length ∧ RpFs A L H fs vs
/-- what stands at a cell: a list, an object -/
def CellR (A : Ad) (L : Addr → Prop) (H : Hp) (c : List PV) (a : Addr) : Prop := (∃ xs, H a = some (.lst xs) ∧ RpL A L H c xs) ∨ ∃ k fs, c = .obj k [] :: fs ∧ ObR A L H k fs a
/-- the cells that may change -/
def Lv (m : List Addr) (h : Hs) (a : Addr) : Prop := ∃ (i : Nat) (c : List PV), h[i]? = some (some c) ∧ m[i]? = some a
def Xc (B : Addr → Prop) (m : List Addr) (h : Hs) (a : Addr) : Prop := B a ∨ Lv m h a
structure Sim (A : Ad) (B : Addr → Prop) (m : List Addr) (h : Hs) (H : Hp) : Prop where
  len : m.length = h.length
  cell : ∀ (i : Nat) (c : List PV) (a : Addr), h[i]? = some (some c) → m[i]? = some a → CellR A (Xc B m h) H c a
  inj : ∀ (i j : Nat) (c d : List PV) (a : Addr), h[i]? = some (some c) → h[j]? = some (some d) → m[i]? = some a → m[j]? = some a → i = j
  bn : ∀ a, B a → ¬ Lv m h a
  bt : ∀ a, B a → ∃ o, H a = some o ∧ ∀ ps, o ≠ .tbl ps
  tb : LamX.Tabs A.T H
theorem tabs_new {T : List (Addr × Str)} {H : Hp} {p : Addr} {o : HO} (t : LamX.Tabs T H) (e : H p = none) : LamX.Tabs T (upd H p o) := t.ext fun b u q => by rw [upd_ne (L2.ne_of_none q e)]; exact q
structure Mv (m : List Addr) (h : Hs) (H : Hp) (m' : List Addr) (h' : Hs) (H' : Hp) : Prop where
  pre : ∃ t, m' = m ++ t
  keep : ∀ b o, H b = some o → (∀ ps, o ≠ .tbl ps) → ¬ Lv m h b → H' b = some o ∧ ¬ Lv m' h' b
  kl : ∀ b xs, H b = some (.lst xs) → ∃ ys, H' b = some (.lst ys)
  ki : ∀ b C dx fs, H b = some (.ins C dx fs) → ∃ fs', H' b = some (.ins C dx fs') ∧ ∀ f v, fixF f = true → fs.lookup f = some v → fs'.lookup f = some v
/-- nothing but new things -/
theorem Mv.ext {m m' : List Addr} {h h' : Hs} {H H' : Hp} (p : ∃ t, m' = m ++ t) (e : ∀ b o, H b = some o → (∀ ps, o ≠ .tbl ps) → H' b = some o) (n : ∀ b o, H b = some o → ¬ Lv m h b → ¬ Lv m' h' b) : Mv m h H m' h' H' :=
  ⟨p, fun b o q t l => ⟨e b o q t, n b o q l⟩, fun b xs q => ⟨xs, e b _ q fun _ z => nomatch z⟩, fun b C dx fs q => ⟨fs, e b _ q (fun _ z => nomatch z), fun _ _ _ z => z⟩⟩
theorem Mv.refl (m : List Addr) (h : Hs) (H : Hp) : Mv m h H m h H := .ext ⟨[], by simp⟩ (fun _ _ e _ => e) fun _ _ _ n => n
theorem Mv.trans {m1 m2 m3 : List Addr} {h1 h2 h3 : Hs} {H1 H2 H3 : Hp} (a : Mv m1 h1 H1 m2 h2 H2) (b : Mv m2 h2 H2 m3 h3 H3) : Mv m1 h1 H1 m3 h3 H3 := by
  refine ⟨?_, fun c o e t n => ?_, fun c xs e => ?_, fun c C dx fs e => ?_⟩
  · obtain ⟨t1, rfl⟩ := a.pre
    obtain ⟨t2, rfl⟩ := b.pre
    exact ⟨t1 ++ t2, by rw [List.append_assoc]⟩
  · obtain ⟨e1, n1⟩ := a.keep c o e t n
    exact b.keep c o e1 t n1
  · obtain ⟨ys, e1⟩ := a.kl c xs e
    exact b.kl c ys e1
  · obtain ⟨gs, e1, k1⟩ := a.ki c C dx fs e
    obtain ⟨gs2, e2, k2⟩ := b.ki c C dx gs e1
    exact ⟨gs2, e2, fun f v q z => k2 f v q (k1 f v q z)⟩
theorem Mv.at {m m' : List Addr} {h h' : Hs} {H H' : Hp} (M : Mv m h H m' h' H') {i : Nat} {a : Addr} (e : m[i]? = some a) : m'[i]? = some a := by
  obtain ⟨t, rfl⟩ := M.pre
  have hi : i < m.length := (List.getElem?_eq_some_iff.mp e).1
  rw [List.getElem?_append_left hi]
  exact e
section
variable {A : Ad} {B : Addr → Prop} {m m' : List Addr} {h h' : Hs} {H H' : Hp}
/-- the cells hold lists and objects -/
def CL (m : List Addr) (h : Hs) (H : Hp) : Prop := ∀ (i : Nat) (c : List PV) (a : Addr), h[i]? = some (some c) → m[i]? = some a → (∃ xs, H a = some (.lst xs)) ∨ ∃ C dx fs, H a = some (.ins C dx fs)
theorem Sim.cl (S : Sim A B m h H) : CL m h H := fun i c a e1 e2 => by
  rcases S.cell i c a e1 e2 with ⟨xs, e, _⟩ | ⟨k, fs, _, dx, vs, e, _⟩
  · exact .inl ⟨xs, e⟩
  · exact .inr ⟨_, _, _, e⟩
theorem CL.notTup (S : CL m h H) {a : Addr} {o : HO} (e : H a = some o) (n : ∀ xs, o ≠ .lst xs) (n2 : ∀ C dx fs, o ≠ .ins C dx fs) : ¬ Lv m h a := fun ⟨i, c, e1, e2⟩ => by
  rcases S i c a e1 e2 with ⟨xs, e3⟩ | ⟨C, dx, fs, e3⟩
  · rw [e] at e3
    exact n xs (Option.some.inj e3)
  · rw [e] at e3
    exact n2 C dx fs (Option.some.inj e3)
theorem Sim.notTup (S : Sim A B m h H) {a : Addr} {o : HO} (e : H a = some o) (n : ∀ xs, o ≠ .lst xs) (n2 : ∀ C dx fs, o ≠ .ins C dx fs) : ¬ Lv m h a := S.cl.notTup e n n2
theorem Sim.cellL (S : Sim A B m h H) {i : Nat} {c : List PV} {a : Addr} (e1 : h[i]? = some (some c)) (e2 : m[i]? = some a) (q : ∃ xs, H a = some (.lst xs)) : ∃ xs, H a = some (.lst xs) ∧ RpL A (Xc B m h) H c xs := by
  rcases S.cell i c a e1 e2 with q | ⟨k, fs, _, dx, vs, e, _⟩
  · exact q
  · obtain ⟨xs, q⟩ := q
    rw [e] at q
    cases q
theorem sqT_move (S : CL m h H) (M : Mv m h H m' h' H') {a : Addr} {xs : List V} (q : SqT A.K H a xs) : SqT A.K H' a xs := by
  rcases q with (q | ⟨o, q⟩) | q
  · exact .inl (.inl (M.keep a _ q (fun _ e => nomatch e) (S.notTup q (fun _ e => nomatch e) fun _ _ _ e => nomatch e)).1)
  · exact .inl (.inr ⟨o, (M.keep a _ q (fun _ e => nomatch e) (S.notTup q (fun _ e => nomatch e) fun _ _ _ e => nomatch e)).1⟩)
  · exact .inr q
theorem sqLH_move (M : Mv m h H m' h' H') {a : Addr} {xs : List V} (q : H a = some (.lst xs)) (n : ¬ Xc B m h a) : H' a = some (.lst xs) ∧ ¬ Xc B m' h' a := by
  obtain ⟨e, n'⟩ := M.keep a _ q (fun _ e => nomatch e) fun z => n (.inr z)
  exact ⟨e, fun z => z.elim (fun z => n (.inl z)) n'⟩
theorem scr_move (S : CL m h H) (M : Mv m h H m' h' H') {a : Addr} {xs : List V} (q : (∃ o, H a = some (.frz o (.lst xs))) ∨ KL A.K a xs) : (∃ o, H' a = some (.frz o (.lst xs))) ∨ KL A.K a xs := by
  rcases q with ⟨o, q⟩ | q
  · exact .inl ⟨o, (M.keep a _ q (fun _ e => nomatch e) (S.notTup q (fun _ e => nomatch e) fun _ _ _ e => nomatch e)).1⟩
  · exact .inr q
mutual
theorem Rp.moveC (S : CL m h H) (M : Mv m h H m' h' H') : ∀ {p : PV} {v : V}, Rp A (Xc B m h) H p v → Rp A (Xc B m' h') H' p v
  | _, _, .non => .non
  | _, _, .bl b => .bl b
  | _, _, .int i => .int i
  | _, _, .str x => .str x
  | _, _, .fn f => .fn f
  | _, _, .tup q r => .tup (sqT_move S M q) (RpL.moveC S M r)
  | _, _, .lst q n r => .lst (sqLH_move M q n).1 (sqLH_move M q n).2 (RpL.moveC S M r)
  | _, _, .scr q r => .scr (scr_move S M q) (RpL.moveC S M r)
  | _, _, .dct q n => .dct (M.keep _ _ q (fun _ e => nomatch e) fun z => n (.inr z)).1 fun z => z.elim (fun z => n (.inl z)) (M.keep _ _ q (fun _ e => nomatch e) fun z => n (.inr z)).2
  | _, _, .obj q n l r => .obj (M.keep _ _ q (fun _ e => nomatch e) fun z => n (.inr z)).1 (fun z => z.elim (fun z => n (.inl z)) (M.keep _ _ q (fun _ e => nomatch e) fun z => n (.inr z)).2) l (RpL.moveC S M r)
theorem RpL.moveC (S : CL m h H) (M : Mv m h H m' h' H') : ∀ {l : List PV} {xs : List V}, RpL A (Xc B m h) H l xs → RpL A (Xc B m' h') H' l xs
  | _, _, .nil => .nil
  | _, _, .cons q r => .cons (Rp.moveC S M q) (RpL.moveC S M r)
end
theorem Rp.move (S : Sim A B m h H) (M : Mv m h H m' h' H') {p : PV} {v : V} (q : Rp A (Xc B m h) H p v) : Rp A (Xc B m' h') H' p v := Rp.moveC S.cl M q
theorem RpL.move (S : Sim A B m h H) (M : Mv m h H m' h' H') {l : List PV} {xs : List V} (q : RpL A (Xc B m h) H l xs) : RpL A (Xc B m' h') H' l xs := RpL.moveC S.cl M q
theorem RpFs.map {L L' : Addr → Prop} {H' : Hp} {fs : List PV} {vs : List V} (q : RpFs A L H fs vs) (f : ∀ p v, Rp A L H p v → Rp A L' H' p v) : RpFs A L' H' fs vs := ⟨q.1, fun t p v e1 e2 => (q.2 t p v e1 e2).imp id (f p v)⟩
/-- a cell whose thing stays as it is -/
theorem CellR.same {L L' : Addr → Prop} {H' : Hp} {c : List PV} {a : Addr} (q : CellR A L H c a) (e : H' a = H a) (f : ∀ p v, Rp A L H p v → Rp A L' H' p v) (g : ∀ l xs, RpL A L H l xs → RpL A L' H' l xs) : CellR A L' H' c a := by
  rcases q with ⟨xs, e1, r⟩ | ⟨k, fs, rfl, dx, vs, e1, hl, r⟩
  · exact .inl ⟨xs, e.trans e1, g _ _ r⟩
  · exact .inr ⟨k, fs, rfl, dx, vs, e.trans e1, hl, r.map f⟩
theorem CellR.some {L : Addr → Prop} {c : List PV} {a : Addr} (q : CellR A L H c a) : ∃ o, H a = some o ∧ (∀ ps, o ≠ .tbl ps) := by
  rcases q with ⟨xs, e1, r⟩ | ⟨k, fs, rfl, dx, vs, e1, hl, r⟩
  · exact ⟨_, e1, fun _ z => nomatch z⟩
  · exact ⟨_, e1, fun _ z => nomatch z⟩
theorem RpL.length {L : Addr → Prop} : ∀ {l : List PV} {xs : List V}, RpL A L H l xs → xs.length = l.length
  | _, _, .nil => rfl
  | _, _, .cons _ r => by rw [List.length_cons, List.length_cons, RpL.length r]
theorem RpL.append {L : Addr → Prop} : ∀ {l l2 : List PV} {xs ys : List V}, RpL A L H l xs → RpL A L H l2 ys → RpL A L H (l ++ l2) (xs ++ ys)
  | _, _, _, _, .nil, s => s
  | _, _, _, _, .cons q r, s => .cons q (RpL.append r s)
theorem RpL.reverse {L : Addr → Prop} : ∀ {l : List PV} {xs : List V}, RpL A L H l xs → RpL A L H l.reverse xs.reverse
  | _, _, .nil => .nil
  | _, _, .cons q r => by
    rw [List.reverse_cons, List.reverse_cons]
    exact r.reverse.append (.cons q .nil)
theorem RpL.drop {L : Addr → Prop} : ∀ (n : Nat) {l : List PV} {xs : List V}, RpL A L H l xs → RpL A L H (l.drop n) (xs.drop n)
  | 0, _, _, q => q
  | n + 1, _, _, .nil => .nil
  | n + 1, _, _, .cons _ r => RpL.drop n r
theorem RpL.take {L : Addr → Prop} : ∀ (n : Nat) {l : List PV} {xs : List V}, RpL A L H l xs → RpL A L H (l.take n) (xs.take n)
  | 0, _, _, q => .nil
  | n + 1, _, _, .nil => .nil
  | n + 1, _, _, .cons q r => .cons q (RpL.take n r)
theorem RpL.set {L : Addr → Prop} {p : PV} {v : V} (q : Rp A L H p v) : ∀ (n : Nat) {l : List PV} {xs : List V}, RpL A L H l xs → RpL A L H (l.set n p) (xs.set n v)
  | _, _, _, .nil => .nil
  | 0, _, _, .cons _ r => .cons q r
  | n + 1, _, _, .cons z r => .cons z (RpL.set q n r)
/-- a new object that is no cell -/
theorem Sim.news (S : Sim A B m h H) {p : Addr} {o : HO} (e : H p = none) : Mv m h H m h (upd H p o) ∧ Sim A B m h (upd H p o) := by
  have M : Mv m h H m h (upd H p o) := .ext ⟨[], by simp⟩ (fun b u q _ => by rw [upd_ne (L2.ne_of_none q e)]; exact q) fun _ _ _ n => n
  refine ⟨M, S.len, fun i c a h1 h2 => ?_, S.inj, S.bn, fun a q => ?_, tabs_new S.tb e⟩
  · have z := S.cell i c a h1 h2
    obtain ⟨u, hu, _⟩ := z.some
    exact z.same (by rw [upd_ne (L2.ne_of_none hu e)]) (fun _ _ r => Rp.move S M r) fun _ _ r => RpL.move S M r
  · obtain ⟨o', e', n'⟩ := S.bt a q
    exact ⟨o', by rw [upd_ne (L2.ne_of_none e' e)]; exact e', n'⟩
theorem Sim.fresh (S : Sim A B m h H) {p : Addr} (e : H p = none) : ¬ Xc B m h p := fun z => by
  rcases z with z | ⟨i, c, h1, h2⟩
  · obtain ⟨o, e', _⟩ := S.bt p z
    rw [e] at e'; cases e'
  · obtain ⟨u, h3, _⟩ := (S.cell i c p h1 h2).some
    rw [e] at h3; cases h3
theorem Sim.tup (S : Sim A B m h H) {p : Addr} {l : List PV} {xs : List V} (e : H p = none) (q : RpL A (Xc B m h) H l xs) :
    Mv m h H m h (upd H p (.tup xs)) ∧ Sim A B m h (upd H p (.tup xs)) ∧ Rp A (Xc B m h) (upd H p (.tup xs)) (.tup l) (.ref p) := by
  obtain ⟨M, S'⟩ := S.news (o := .tup xs) e
  exact ⟨M, S', .tup (SqT.of upd_same) (q.move S M)⟩
theorem Sim.lst (S : Sim A B m h H) {p : Addr} {l : List PV} {xs : List V} (e : H p = none) (q : RpL A (Xc B m h) H l xs) :
    Mv m h H m h (upd H p (.lst xs)) ∧ Sim A B m h (upd H p (.lst xs)) ∧ Rp A (Xc B m h) (upd H p (.lst xs)) (.lst l) (.ref p) := by
  obtain ⟨M, S'⟩ := S.news (o := .lst xs) e
  exact ⟨M, S', .lst upd_same (S.fresh e) (q.move S M)⟩
/-- a live object -/
def RpO (A : Ad) (m : List Addr) (H : Hp) (k i : Nat) (j : Option Nat) (v : V) : Prop := ∃ a dx gs, m[i]? = some a ∧ v = .ref a ∧ H a = some (.ins (A.O k).C dx gs) ∧ ∀ l, j = some l → ∃ b xs, fixF (A.O k).lf = true ∧ gs.lookup (A.O k).lf = some (.ref b) ∧ m[l]? = some b ∧ H b = some (.lst xs)
/-- items -/
def RpI (A : Ad) (B : Addr → Prop) (m : List Addr) (h : Hs) (H : Hp) : IT → V → Prop
  | .p q, v => Rp A (Xc B m h) H q v
  | .c i, v => ∃ a, m[i]? = some a ∧ v = .ref a ∧ ∃ xs, H a = some (.lst xs)
  | .o k i j, v => RpO A m H k i j v
/-- values of slots -/
def RpR (A : Ad) (B : Addr → Prop) (m : List Addr) (h : Hs) (H : Hp) : RV → V → Prop
  | .pv p, v => Rp A (Xc B m h) H p v
  | .ref i, v => ∃ a, m[i]? = some a ∧ v = .ref a ∧ ∃ xs, H a = some (.lst xs)
  | .mat is, v => ∃ a xs, v = .ref a ∧ H a = some (.lst xs) ∧ ¬ Xc B m h a ∧ xs.length = is.length ∧ ∀ (j i : Nat), is[j]? = some i → ∃ b, m[i]? = some b ∧ xs[j]? = some (.ref b) ∧ ∃ ys, H b = some (.lst ys)
  | .vec is, v => ∃ a xs, v = .ref a ∧ H a = some (.lst xs) ∧ ¬ Xc B m h a ∧ xs.length = is.length ∧ ∀ (j : Nat) (i : IT), is[j]? = some i → ∃ y, xs[j]? = some y ∧ RpI A B m h H i y
  | .ob k i j, v => RpO A m H k i j v
  | .two k i j p, v => ∃ a x y, v = .ref a ∧ H a = some (.tup [x, y]) ∧ RpO A m H k i j x ∧ Rp A (Xc B m h) H p y
inductive RpRs (A : Ad) (B : Addr → Prop) (m : List Addr) (h : Hs) (H : Hp) : List RV → List V → Prop
  | nil : RpRs A B m h H [] []
  | cons {x : RV} {v : V} {xs : List RV} {vs : List V} : RpR A B m h H x v → RpRs A B m h H xs vs → RpRs A B m h H (x :: xs) (v :: vs)
theorem RpRs.length : ∀ {x : List RV} {v : List V}, RpRs A B m h H x v → v.length = x.length
  | _, _, .nil => rfl
  | _, _, .cons _ r => by rw [List.length_cons, List.length_cons, RpRs.length r]
/-- what may be read: a value, or a cell's list -/
inductive Rw (A : Ad) (L : Addr → Prop) (H : Hp) : PV → V → Prop
  | p {x : PV} {v : V} : Rp A L H x v → Rw A L H x v
  | c {a : Addr} {xs : List V} {l : List PV} : H a = some (.lst xs) → RpL A L H l xs → Rw A L H (.lst l) (.ref a)
theorem RpR.rw (S : Sim A B m h H) {x : RV} {v : V} {p : PV} (q : RpR A B m h H x v) (e : val h x = some p) : Rw A (Xc B m h) H p v := by
  cases x with
  | pv y =>
    have e1 : y = p := Option.some.inj e
    subst e1
    exact .p q
  | ref i =>
    obtain ⟨a, e1, rfl, ql⟩ := q
    simp only [val] at e
    cases hc : h[i]? with
    | none => rw [hc] at e; cases e
    | some o =>
      cases o with
      | none => rw [hc] at e; cases e
      | some c =>
        rw [hc] at e
        have e2 : PV.lst c = p := Option.some.inj e
        subst e2
        obtain ⟨xs, h3, h4⟩ := S.cellL hc e1 ql
        exact .c h3 h4
  | mat is => cases e
  | vec xs => cases e
  | ob _ _ _ => cases e
  | two _ _ _ _ => cases e
theorem Rw.lst {L : Addr → Prop} {l : List PV} {v : V} (q : Rw A L H (.lst l) v) : ∃ a xs, v = .ref a ∧ H a = some (.lst xs) ∧ RpL A L H l xs := by
  cases q with
  | p q =>
    cases q with
    | lst q n r => exact ⟨_, _, rfl, q, r⟩
  | c q r => exact ⟨_, _, rfl, q, r⟩
theorem Rw.tup {L : Addr → Prop} {l : List PV} {v : V} (q : Rw A L H (.tup l) v) : ∃ a xs, v = .ref a ∧ SqT A.K H a xs ∧ RpL A L H l xs := by
  cases q with
  | p q => cases q with
    | tup q r => exact ⟨_, _, rfl, q, r⟩
theorem Rw.int {L : Addr → Prop} {i : Int} {v : V} (q : Rw A L H (.int i) v) : v = .int i := by
  cases q with
  | p q => cases q; rfl
theorem Rw.bl {L : Addr → Prop} {i : Bool} {v : V} (q : Rw A L H (.bl i) v) : v = .bl i := by
  cases q with
  | p q => cases q; rfl
theorem Rw.str {L : Addr → Prop} {i : Str} {v : V} (q : Rw A L H (.str i) v) : v = .str i := by
  cases q with
  | p q => cases q; rfl
theorem Rw.non {L : Addr → Prop} {v : V} (q : Rw A L H .non v) : v = .non := by
  cases q with
  | p q => cases q; rfl
/-- the slots -/
structure Sl (A : Ad) (B : Addr → Prop) (m : List Addr) (h : Hs) (H : Hp) (ρ : Env) (σ : L2.St) : Prop where
  len : ρ.length = σ.length
  at_ : ∀ (i : Nat) (v : RV), ρ[i]? = some (some v) → ∃ w, σ[i]? = some (some w) ∧ RpR A B m h H v w
theorem Sl.set {ρ : Env} {σ : L2.St} (s : Sl A B m h H ρ σ) (i : Nat) {v : RV} {w : V} (q : RpR A B m h H v w) : Sl A B m h H (ρ.set i (some v)) (σ.set i (some w)) := by
  refine ⟨by rw [List.length_set, List.length_set]; exact s.len, fun j u e => ?_⟩
  by_cases hj : i = j
  · subst hj
    have hi : i < ρ.length := by
      by_cases hi : i < ρ.length
      · exact hi
      · rw [List.getElem?_eq_none (by simpa using hi)] at e; cases e
    rw [List.getElem?_set_self hi] at e
    cases e
    exact ⟨w, List.getElem?_set_self (by rw [← s.len]; exact hi), q⟩
  · rw [List.getElem?_set_ne hj] at e
    obtain ⟨z, e1, e2⟩ := s.at_ j u e
    exact ⟨z, by rw [List.getElem?_set_ne hj]; exact e1, e2⟩
end
end G43
set_option Elab.async false
set_option linter.all false
set_option maxRecDepth 100000
set_option maxHeartbeats 4100000
namespace G43
open PySem PySem.Spec PyProof.Rows
open L2 (V HO Hp SqL SqT upd upd_same upd_ne Cx VK TE TA TS PE PA PS PSs XK Sp Room Vals Inv thn Un CXT exo exd OexC)
/-! ### errors with fields -/
def oexB (K : PySem.W.Frag) (C : Addr) : Bool := (match K.lookup C with
  | some ⟨.type "type", _, .cls cd, sl⟩ => (match cd.mro, sl.toList with
    | .ref C' :: bm, [_, _, _, _, some (.builtin n), _] => C' == C && n == "ValueError.__new__" && !cd.hasDel && cd.hasDict && HandSPX.refsVE bm
    | _, _ => false)
  | _ => false) && decide (PySem.W.findIn K (.ref C) "__setattr__" = some (some (.builtin "object.__setattr__"))) && decide (PySem.W.subIn K (.ref C) (.type "BaseException") = some true) && decide (PySem.W.typeIn K (.ref C) = some (.type "type")) && PySem.W.keepIn K (.ref C)
def ceB (K : PySem.W.Frag) (CE : Addr) : Bool := PySem.W.readsIn K CE (.type "type") && decide (PySem.W.specialIn K (.ref CE) "__getattribute__" = some (some (.builtin "type.__getattribute__"))) &&
  (match PySem.W.findCls K (.ref CE) (.type "type") "__init__" with
    | some (.val (.builtin n)) => n == "ValueError.__init__"
    | _ => false)
end G43
set_option Elab.async false
set_option linter.all false
set_option maxRecDepth 100000
set_option maxHeartbeats 4100000
set_option Elab.async false
set_option linter.all false
set_option maxRecDepth 100000
set_option maxHeartbeats 4000000
namespace G43
open PySem
open PySem.Spec PyProof.Rows
open L2 (V HO Hp SqL SqT Rd upd upd_same upd_ne Cx OpR R2 VK CallR IxR SlR)
/-! ### values as plain data -/
section
variable {A : Ad} {B : Addr → Prop} {m : List Addr} {h : Hs} {H : Hp} {L : Addr → Prop}
/-- what is wanted of a value that is told, the cells as they are -/
def Kp (A : Ad) (B : Addr → Prop) (m : List Addr) (h : Hs) (H : Hp) (Q : VK) : PV → Prop := fun r => ∀ H' v, Sim A B m h H' → Mv m h H m h H' → Rp A (Xc B m h) H' r v → Q v H'
theorem Kp.here {Q : VK} {r : PV} {v : V} (S : Sim A B m h H) (k : Kp A B m h H Q r) (q : Rp A (Xc B m h) H r v) : Q v H := k H v S (Mv.refl _ _ _) q
theorem Kp.tup {Q : VK} {l : List PV} {xs : List V} {p : Addr} (S : Sim A B m h H) (k : Kp A B m h H Q (.tup l)) (q : RpL A (Xc B m h) H l xs) (e : H p = none) : Q (.ref p) (upd H p (.tup xs)) := by
  obtain ⟨M, S', r⟩ := S.tup e q
  exact k _ _ S' M r
theorem Kp.lst {Q : VK} {l : List PV} {xs : List V} {p : Addr} (S : Sim A B m h H) (k : Kp A B m h H Q (.lst l)) (q : RpL A (Xc B m h) H l xs) (e : H p = none) : Q (.ref p) (upd H p (.lst xs)) := by
  obtain ⟨M, S', r⟩ := S.lst e q
  exact k _ _ S' M r
end
end G43
set_option Elab.async false
set_option linter.all false
set_option maxRecDepth 100000
set_option maxHeartbeats 4100000
set_option Elab.async false
set_option linter.all false
set_option maxRecDepth 100000
set_option maxHeartbeats 4000000
namespace G43
open PySem PySem.Spec PyProof.Rows
open L2 (V HO Hp SqL SqT Rd upd upd_same upd_ne Cx OpR R2 VK CallR IxR SlR Inv Vals)
/-! ### the handled error: isinstance -/
section
variable {X : Cx} {a D : Addr} {oe : Obj}
/-- an error's dict stands -/
def DOk (H : Hp) (d : Option Addr) : Prop := ∀ dd, d = some dd → ∃ fs, H dd = some (.xd fs)
theorem DOk.none {H : Hp} : DOk H none := fun _ z => nomatch z
theorem DOk.ext {H H' : Hp} {d : Option Addr} (k : DOk H d) (e : ∀ b o, H b = some o → H' b = some o) : DOk H' d := fun dd q => (k dd q).imp fun _ z => e _ _ z
end
/-! ### how often True stands in a list of truths -/
end G43
set_option Elab.async false
set_option linter.all false
set_option maxRecDepth 100000
set_option maxHeartbeats 4000000
namespace G43
open PySem
open L2 (V HO Hp SqL SqT Rd upd upd_same upd_ne Cx OpR R2 VK CallR IxR SlR)
section
variable {A : Ad} {B : Addr → Prop} {m : List Addr} {h : Hs} {H : Hp} {L : Addr → Prop}
inductive RwL (A : Ad) (L : Addr → Prop) (H : Hp) : List PV → List V → Prop
  | nil : RwL A L H [] []
  | cons {p : PV} {v : V} {l : List PV} {xs : List V} : Rw A L H p v → RwL A L H l xs → RwL A L H (p :: l) (v :: xs)
theorem RwL.one {p : PV} {xs : List V} (q : RwL A L H [p] xs) : ∃ v, xs = [v] ∧ Rw A L H p v := by
  cases q with
  | cons q r => cases r; exact ⟨_, rfl, q⟩
end
section
variable {X : Cx} {A : Ad}
/-! ### built-in functions -/
theorem Kp.str {B : Addr → Prop} {m : List Addr} {h : Hs} {H : Hp} {Q : VK} {x : Str} (S : Sim A B m h H) (k : Kp A B m h H Q (.str x)) : Q (.str x) H := k.here S (.str x)
/-! ### a[i], a[i:j] -/
/-! ### isinstance -/
end
end G43
set_option Elab.async false
set_option linter.all false
set_option maxRecDepth 100000
set_option maxHeartbeats 4000000
namespace G43
open PySem
open L2 (V HO Hp SqL SqT Rd upd upd_same upd_ne Cx OpR R2 VK CallR IxR SlR TE TA TS TT PE PA PS PSs PT XK Sp Room Vals)
open PySem.Spec PyProof.Rows
/-! ### a def that keeps a promise where no repr is under way -/
/-! ### names -/
/-! ### promises -/
/-- an error's dict -/
def FldR (H : Hp) (fs : List (Str × PV)) (d : Option Addr) : Prop :=
  (fs = [] ∧ d = none) ∨ ∃ (dd : Addr) (ns : List (Str × Int)), ns ≠ [] ∧ d = some dd ∧ fs = ns.map (fun q => (q.1, PV.int q.2)) ∧ H dd = some (.xd (ns.map fun q => (q.1, V.int q.2)).reverse)
def RpX (A : Ad) (B : Addr → Prop) (m : List Addr) (h : Hs) (H : Hp) (x : XV) (cls : Value) (d : Option Addr) : Prop := cls = .ref (A.CA x.cls) ∧ FldR H x.flds d
def Kv (A : Ad) (B : Addr → Prop) (m : List Addr) (h : Hs) (H : Hp) (Q : VK) : QV := fun v h' => ∀ m' H' w, Sim A B m' h' H' → Mv m h H m' h' H' → RpR A B m' h' H' v w → Q w H'
def Kx (A : Ad) (B : Addr → Prop) (m : List Addr) (h : Hs) (H : Hp) (W : XK) : QX := fun x h' => ∀ m' H' cls d, Sim A B m' h' H' → Mv m h H m' h' H' → RpX A B m' h' H' x cls d → W cls d H'
/-- the object at f is such a lambda -/
def LamO (q : Str) (cl : List (Str × Addr)) (params : Arguments) (body : Expr) (scope : Scope) (f c' : Addr) : HO :=
  HO.ext fun h => ∃ pm ctv : Value, h.get? f = some (PySem.W.kla_obj "<lambda>" q params body scope cl pm c' ctv)
end G43
set_option Elab.async false
set_option linter.all false
set_option maxRecDepth 100000
set_option maxHeartbeats 4000000
namespace G43
open PySem
open L2 (V HO Hp SqL SqT Rd upd upd_same upd_ne Cx OpR R2 VK CallR IxR SlR TE TA TS TT PE PA PS PSs PT XK Sp Room Vals)
open PySem.Spec PyProof.Rows
/-! ### does a text say what the small language says? -/
/-! ### readings -/
section
variable (A : Ad) (P : Pg) (C : CallT) (W : XK)
def tE (e : E) : TE := fun σ H Q => ∃ B m h ρ, Sim A B m h H ∧ Sl A B m h H ρ σ ∧ wpE P C e ρ h (Kv A B m h H Q) (Kx A B m h H W)
end
end G43
set_option Elab.async false
set_option linter.all false
set_option maxRecDepth 100000
set_option maxHeartbeats 4000000
set_option Elab.async false
set_option linter.all false
set_option maxRecDepth 100000
set_option maxHeartbeats 4100000
/-! enumerate over a tuple: the hand layer knows lists alone. The turn is read off the library's WalksT over Draws. -/
set_option Elab.async false
set_option linter.all false
set_option maxRecDepth 100000
set_option maxHeartbeats 4100000
set_option Elab.async false
set_option linter.all false
set_option maxRecDepth 100000
set_option maxHeartbeats 4000000
set_option Elab.async false
set_option linter.all false
set_option maxRecDepth 100000
set_option maxHeartbeats 4000000
set_option Elab.async false
set_option linter.all false
set_option maxRecDepth 100000
set_option maxHeartbeats 4000000
namespace G43
open PySem
open L2 (V HO Hp SqL SqT Rd upd upd_same upd_ne Cx OpR R2 VK CallR IxR SlR TE TA TS TT TI TG TGs PE PA PS PSs PT PI PG PGs XK Sp Room Vals)
open PySem.Spec PyProof.Rows
/-! ### targets -/
def Off (vs : List Nat) (σ σ' : L2.St) : Prop := σ'.length = σ.length ∧ ∀ i, i ∉ vs → σ'[i]? = σ[i]?
theorem Off.set (σ : L2.St) (i : Nat) (v : Option V) : Off [i] σ (σ.set i v) := ⟨List.length_set, fun j hj => List.getElem?_set_ne fun e => hj (by simp [e])⟩
end G43
set_option Elab.async false
set_option linter.all false
set_option maxRecDepth 100000
set_option maxHeartbeats 4000000
set_option Elab.async false
set_option linter.all false
set_option maxRecDepth 100000
set_option maxHeartbeats 4000000
set_option Elab.async false
set_option linter.all false
set_option maxRecDepth 100000
set_option maxHeartbeats 4100000
set_option Elab.async false
set_option linter.all false
set_option maxRecDepth 100000
set_option maxHeartbeats 4000000
set_option Elab.async false
set_option linter.all false
set_option maxRecDepth 100000
set_option maxHeartbeats 4000000
set_option Elab.async false
set_option linter.all false
set_option maxRecDepth 100000
set_option maxHeartbeats 4000000
set_option Elab.async false
set_option linter.all false
set_option maxRecDepth 100000
set_option maxHeartbeats 4000000
set_option Elab.async false
set_option linter.all false
set_option maxRecDepth 100000
set_option maxHeartbeats 4000000
set_option Elab.async false
set_option linter.all false
set_option maxRecDepth 100000
set_option maxHeartbeats 4000000
set_option Elab.async false
set_option linter.all false
set_option maxRecDepth 100000
set_option maxHeartbeats 4000000
set_option Elab.async false
set_option linter.all false
set_option maxRecDepth 100000
set_option maxHeartbeats 4000000
namespace G43
open PySem
open L2 (V HO Hp SqL SqT Rd upd upd_same upd_ne Cx OpR R2 VK CallR IxR SlR TE TA TS TT TI TG TGs PE PA PS PSs PT PI PG PGs XK Sp Room Vals Ends)
open PySem.Spec PyProof.Rows
/-! ### calls in a list, each by the law's own word -/
section
variable {A : Ad} {P : Pg} {C : CallT} {N : List Str} {sc ss : Scope} {l : Bool} {kk : Nat} {W : XK} {X : Cx}
/-- f is a lambda of e, made in the frame X -/
def Clo (A : Ad) (P : Pg) (C : CallT) (kk : Nat) (X : Cx) (H : Hp) (e : E) (f : Addr) : Prop := ∃ (c' : Addr) (params : Arguments) (body : Expr) (lsc : Scope),
  (H f = some (LamO (X.env.qual ++ ("<lambda>" : Str)) (L2.cloFrom X.env.cells lsc.names []) params body lsc f c') ∧ H c' = some (LamX.CodeO c' (X.env.qual ++ ("<lambda>" : Str)))) ∧ LamX.LamS X.env.scope lsc ∧
  (∀ (q : Str) (cl : List (Str × Addr)) (pm cv ctv : Value), bindArgs (PySem.W.kla_fn "<lambda>" q params body lsc cl pm cv ctv) ⟨[], []⟩ = pure []) ∧
  (∀ (Ar : Around) (outer : List PySem.Env) (s : Shared) (H : Hp) (E : XK) (f c' : Addr), Ar.guards = some [] → Room (kk + 1) (Ar.deeper (LamX.lamEnv X lsc s.heap.objs.size f c')) → PE (LamX.lamCx X Ar outer s H E lsc f c') body (tE A P C E e))
def CloL (A : Ad) (P : Pg) (C : CallT) (kk : Nat) (X : Cx) (H : Hp) : EL → List Addr → Prop
  | .nil, [] => True
  | .cons e r, f :: fs => Clo A P C kk X H e f ∧ CloL A P C kk X H r fs
  | _, _ => False
def EL.app : EL → EL → EL
  | .nil, b => b
  | .cons e r, b => .cons e (r.app b)
theorem CloL.len {H : Hp} : ∀ {es : EL} {fs : List Addr}, CloL A P C kk X H es fs → es.len = fs.length
  | .nil, [], _ => rfl
  | .nil, _ :: _, c => c.elim
  | .cons _ _, [], c => c.elim
  | .cons e r, f :: fs, c => by
    show r.len + 1 = fs.length + 1
    rw [CloL.len c.2]
end
end G43
set_option Elab.async false
set_option linter.all false
set_option maxRecDepth 100000
set_option maxHeartbeats 4000000
set_option Elab.async false
set_option linter.all false
set_option maxRecDepth 100000
set_option maxHeartbeats 4000000
set_option Elab.async false
set_option linter.all false
set_option maxRecDepth 100000
set_option maxHeartbeats 4000000
set_option Elab.async false
set_option linter.all false
set_option maxRecDepth 100000
set_option maxHeartbeats 4000000
set_option Elab.async false
set_option linter.all false
set_option maxRecDepth 100000
set_option maxHeartbeats 4000000
set_option Elab.async false
set_option linter.all false
set_option maxRecDepth 100000
set_option maxHeartbeats 4000000
set_option Elab.async false
set_option linter.all false
set_option maxRecDepth 100000
set_option maxHeartbeats 4000000
namespace G43
open PySem
open L2 (V HO Hp SqL SqT Vals)
/-! ### the top's constants -/
mutual
def repB (K : PySem.W.Frag) : PV → Value → Bool
  | .non, .none => true
  | .bl a, .bool b => a == b
  | .int i, .int j _ => decide (i = j)
  | .str x, .str y _ => decide (x = y)
  | .tup l, .ref a => (match K.lookup a with
    | some ⟨.type c, _, .seq its _, _⟩ => decide (c = "tuple") && decide (its.size ≤ 1000) && repBs K l its.toList
    | _ => false)
  | _, _ => false
def repBs (K : PySem.W.Frag) : List PV → List Value → Bool
  | [], [] => true
  | p :: ps, u :: us => repB K p u && repBs K ps us
  | _, _ => false
end
def conB (K : PySem.W.Frag) (q : Str × PV) : Bool := match PySem.W.nsIn K mainGlobals q.1 with
  | some (some u) => repB K q.2 u
  | _ => false
/-! ### what the head tells -/
def tfOf (P : Pg) : List He.Defn := if P.lm = true then P.defs.map fun d => d.at_ else []
def tOf (P : Pg) (K : PySem.W.Frag) : List (Addr × Str) := if P.lm = true then P.defs.map fun df => ((He.cT K df.at_).2, (df.qual ++ (".<locals>." : Str)) ++ ("<lambda>" : Str)) else []
def facBa (K : PySem.W.Frag) (P : Pg) (fn : List He.DefD) : Bool := P.defs.all (fun d => d.own.isSome || (He.Fa.glo d.name).ok K) && P.blt.all (fun x => (He.Fa.free x).ok K) && P.cons.all (conB K) && (fn.all fun d => d.ok K) &&
  (P.rai.all fun c => match P.exc[c]? with | some w => (He.Fa.glo w.1).ok K && (He.Fa.exc w.1).ok K | none => true)
def facBb (K : PySem.W.Frag) (P : Pg) : Bool := (tOf P K).all fun p => (tOf P K).all fun q => !decide (p.1 = q.1) || decide (p.2 = q.2)
/-- a class -/
def clsB (K : PySem.W.Frag) (c : Cl) : Bool := (He.Fa.glo c.name).ok K && (He.Fa.cls c.name).ok K && (c.N.all fun f => (He.Fa.noat c.name f).ok K) && decide c.N.Nodup && decide (c.N.length < 900) &&
  decide (PySem.W.findIn K (.ref (He.ga K c.name)) "__class__" = some (some (.builtin "object.__class__"))) && decide (PySem.W.specialIn K (.builtin "object.__class__") "__get__" = some (some (.builtin "getset_descriptor.__get__"))) && decide (PySem.W.takesIn K (.builtin "object.__class__") = some true) &&
  decide (PySem.W.mroIn K (He.ga K c.name) (.type "object") = some true) && decide (PySem.W.kitOne K (.ref (He.ga K c.name)) (.ref (He.ga K c.name)) = some true) && ((["NoneType", "bool", "int", "str", "tuple", "list", "dict"] : List String).all fun t => decide (PySem.W.kitOne K (.type t) (.ref (He.ga K c.name)) = some false) && PySem.W.notFirst K (He.ga K c.name) (.type t))
/-- a method -/
def metB (K : PySem.W.Frag) (P : Pg) (d : Df) : Bool := match d.own with
  | none => true
  | some x => (He.Fa.meth x d.name).ok K && (P.cls.all fun c => !decide (c.name = x) || !decide (d.name ∈ c.N)) && (!d.ini || (decide (d.name = "__init__") && (He.Fa.mkr x).ok K))
/-- a dict -/
def dicB (K : PySem.W.Frag) (q : Str × List (Str × PV)) : Bool := (He.Fa.glo q.1).ok K && q.2.all fun r => match PySem.W.nsIn K (He.ga K q.1) r.1 with
  | some (some u) => repB K r.2 u
  | _ => false
/-- the classes beside each other -/
def nfB (K : PySem.W.Frag) (P : Pg) : Bool := (List.range P.cls.length).all fun k => (List.range P.cls.length).all fun j => match P.cls[k]?, P.cls[j]? with
  | some c, some d => PySem.W.notFirst K (He.ga K c.name) (.ref (He.ga K d.name)) && decide (PySem.W.kitOne K (.ref (He.ga K d.name)) (.ref (He.ga K c.name)) = some (decide (j = k)))
  | _, _ => true
def facBc (K : PySem.W.Frag) (P : Pg) : Bool := P.cls.all (clsB K) && P.defs.all (metB K P) && P.dcs.all (dicB K) && nfB K P
def facB (K : PySem.W.Frag) (P : Pg) (fn : List He.DefD) : Bool := facBa K P fn && facBb K P && facBc K P
theorem map_and {α : Type} {x : Option α} {f g : α → Bool} (h1 : x.map f = some true) (h2 : x.map g = some true) : x.map (fun s => f s && g s) = some true := by
  cases x with
  | none => cases h1
  | some s =>
    have a := Option.some.inj h1
    have b := Option.some.inj h2
    show some (f s && g s) = some true
    rw [a, b]
    rfl
def obsP (P : Pg) (fn : List He.DefD) (ex : PySem.W.Frag → Bool) (K : PySem.W.Frag) : Bool × List He.FnW := (facB K P fn && ex K, fn.map fun d => He.fnW K d.at_)
def valP (fn : List He.DefD) : Bool × List He.FnW := (true, fn.map He.DefD.val)
def dicsK (P : Pg) (K : PySem.W.Frag) : List (Option (List (Option (Str × Int)))) := P.dcs.map fun q => He.dicW K (He.ga K q.1)
def dicsV (P : Pg) (w : World) : List (Option (List (Option (Str × Int)))) := P.dcs.map fun q => some (He.keysIn w.params (q.2.map (·.1)))
abbrev Ob : Type := ((Bool × List He.FnW) × Bool) × List (Option (List (Option (Str × Int))))
def seeP (n : (Addr → Option Obj) → List Addr) (P : Pg) (fn : List He.DefD) (ex : PySem.W.Frag → Bool) (g : Addr → Option Obj) : Ob := ((obsP P fn ex (He.frT g (n g)), He.tabsB g (tfOf P) (He.frT g (n g))), dicsK P (He.frT g (n g)))
theorem runD_no {α : Type} {x : Option α} {P : Pg} {w : World} {β : Type} {f : α → β} {b : β} {K : α → PySem.W.Frag} (h : x.map f = some b) (e : P.dcs = []) : x.map (fun s => dicsK P (K s)) = some (dicsV P w) := by
  cases x with
  | none => cases h
  | some s =>
    unfold dicsK dicsV
    rw [e]
    rfl
theorem map_l {α : Type} {x : Option α} {f g : α → Bool} (h : x.map (fun s => f s && g s) = some true) : x.map f = some true := by
  cases x with
  | none => cases h
  | some s => exact congrArg some (Bool.and_eq_true_iff.mp (Option.some.inj h)).1
theorem map_r {α : Type} {x : Option α} {f g : α → Bool} (h : x.map (fun s => f s && g s) = some true) : x.map g = some true := by
  cases x with
  | none => cases h
  | some s => exact congrArg some (Bool.and_eq_true_iff.mp (Option.some.inj h)).2
theorem map_p1 {α β γ : Type} {x : Option α} {f : α → β} {g : α → γ} {u : β} {v : γ} (h : x.map (fun s => (f s, g s)) = some (u, v)) : x.map f = some u := by
  cases x with
  | none => cases h
  | some s => exact congrArg some (Prod.mk.inj (Option.some.inj h)).1
theorem map_p2 {α β γ : Type} {x : Option α} {f : α → β} {g : α → γ} {u : β} {v : γ} (h : x.map (fun s => (f s, g s)) = some (u, v)) : x.map g = some v := by
  cases x with
  | none => cases h
  | some s => exact congrArg some (Prod.mk.inj (Option.some.inj h)).2
/-- a number, reckoned first -/
def fcN {α : Type} (n : Nat) (k : Nat → α) : α := Nat.rec (k 0) (fun m _ => k (Nat.succ m)) n
def numsK : List (Addr × Str) → (List Nat → Bool) → Bool
  | [], k => k []
  | p :: r, k => fcN p.1 fun n => numsK r fun l => k (n :: l)
def apartB : List Nat → Bool
  | [] => true
  | n :: r => (r.all fun m => !(Nat.beq n m)) && apartB r
theorem fcN_eq {α : Type} (k : Nat → α) : ∀ n, fcN n k = k n
  | 0 => rfl
  | _ + 1 => rfl
theorem numsK_eq : ∀ (l : List (Addr × Str)) (k : List Nat → Bool), numsK l k = k (l.map (·.1))
  | [], _ => rfl
  | p :: r, k => by
    show fcN p.1 _ = _
    rw [fcN_eq, numsK_eq r]
    rfl
theorem apart_same : ∀ {l : List (Addr × Str)}, apartB (l.map (·.1)) = true → ∀ p ∈ l, ∀ q ∈ l, p.1 = q.1 → p = q
  | [], _, p, hp, _, _, _ => nomatch hp
  | a :: l, h, p, hp, q, hq, e => by
    rw [List.map_cons, apartB, Bool.and_eq_true, List.all_eq_true] at h
    have far : ∀ z ∈ l, a.1 ≠ z.1 := fun z hz e => by
      have b := h.1 z.1 (List.mem_map.mpr ⟨z, hz, rfl⟩)
      rw [e, Nat.beq_refl] at b
      cases b
    rcases List.mem_cons.mp hp with e1 | h1 <;> rcases List.mem_cons.mp hq with e2 | h2
    · rw [e1, e2]
    · rw [e1] at e
      exact absurd e (far q h2)
    · rw [e2] at e
      exact absurd e.symm (far p h1)
    · exact apart_same h.2 p h1 q h2 e
theorem facBb_of {K : PySem.W.Frag} {P : Pg} (h : numsK (tOf P K) apartB = true) : facBb K P = true := by
  rw [numsK_eq] at h
  refine List.all_eq_true.mpr fun p hp => List.all_eq_true.mpr fun q hq => ?_
  by_cases e : p.1 = q.1
  · rw [apart_same h p hp q hq e]
    simp
  · simp [e]
theorem map_facBb {α : Type} {x : Option α} {K : α → PySem.W.Frag} {P : Pg} (h : x.map (fun s => numsK (tOf P (K s)) apartB) = some true) : x.map (fun s => facBb (K s) P) = some true := by
  cases x with
  | none => cases h
  | some s => exact congrArg some (facBb_of (Option.some.inj h))
theorem map_parts {α β : Type} {x : Option α} {f : α → β → Bool} {l : List β} {n : Nat} (h1 : x.map (fun s => (l.take n).all (f s)) = some true) (h2 : x.map (fun s => (l.drop n).all (f s)) = some true) : x.map (fun s => l.all (f s)) = some true := by
  cases x with
  | none => cases h1
  | some s =>
    have a := Option.some.inj h1
    have b := Option.some.inj h2
    show some (l.all (f s)) = some true
    rw [← List.take_append_drop n l, List.all_append]
    dsimp only at a b
    rw [a, b]
    rfl
end G43
set_option Elab.async false
set_option linter.all false
set_option maxRecDepth 100000
set_option maxHeartbeats 4000000
namespace G43
open PySem
open L2 (V HO Hp upd upd_same upd_ne SqT)
def excCB (K : PySem.W.Frag) (D : Addr) : Bool :=
  decide (PySem.W.findIn K (.ref D) "__getattribute__" = some (some (.builtin "BaseException.__getattribute__"))) && decide (PySem.W.findIn K (.ref D) "__getattr__" = some none) && decide (PySem.W.subIn K (.ref D) (.type "BaseException") = some true) && PySem.W.hasDictIn K D &&
  decide (PySem.W.findIn K (.ref D) "__class__" = some (some (.builtin "object.__class__"))) && decide (PySem.W.specialIn K (.builtin "object.__class__") "__get__" = some (some (.builtin "getset_descriptor.__get__"))) && decide (PySem.W.takesIn K (.builtin "object.__class__") = some true) && decide (PySem.W.mroIn K D (.type "object") = some true)
end G43
set_option Elab.async false
set_option linter.all false
set_option maxRecDepth 100000
set_option maxHeartbeats 4000000
set_option Elab.async false
set_option linter.all false
set_option maxRecDepth 100000
set_option maxHeartbeats 4000000
namespace G43
open PySem
/-! ### parts -/
/-- top and bottom are shorter than b bits -/
def Sz (b : Nat) (q : Rat) : Prop := q.num.natAbs < 2 ^ b ∧ q.den < 2 ^ b
theorem natAbs_div_le (n : Int) (g : Nat) : (n / (g : Int)).natAbs ≤ n.natAbs := Int.natAbs_ediv_le_natAbs n g
theorem sz_mk {b : Nat} {n : Int} {d : Nat} (hn : n.natAbs < 2 ^ b) (hd : d < 2 ^ b) (h1 : 1 ≤ b) : Sz b (mkRat n d) := by
  have h2 : 1 < 2 ^ b := Nat.one_lt_pow (by omega) (by decide)
  refine ⟨?_, ?_⟩
  · rw [Rat.num_mkRat]
    split
    · simp; omega
    · exact Nat.lt_of_le_of_lt (natAbs_div_le _ _) hn
  · rw [Rat.den_mkRat]
    split
    · exact h2
    · exact Nat.lt_of_le_of_lt (Nat.div_le_self _ _) hd
theorem Sz.neg {a : Nat} {p : Rat} (s : Sz a p) : Sz a (-p) := by
  refine ⟨?_, s.2⟩
  rw [Rat.neg_num, Int.natAbs_neg]
  exact s.1
theorem Sz.add {a b : Nat} {p q : Rat} (s : Sz a p) (t : Sz b q) : Sz (a + b + 1) (p + q) := by
  rw [Rat.add_def']
  refine sz_mk ?_ ?_ (by omega)
  · refine Nat.lt_of_le_of_lt (Int.natAbs_add_le _ _) ?_
    rw [Int.natAbs_mul, Int.natAbs_mul, Int.natAbs_natCast, Int.natAbs_natCast]
    have h1 := Nat.mul_lt_mul'' s.1 t.2
    have h2 := Nat.mul_lt_mul'' t.1 s.2
    rw [← Nat.pow_add] at h1 h2
    rw [Nat.pow_succ]
    rw [Nat.add_comm b a] at h2
    omega
  · have h1 := Nat.mul_lt_mul'' s.2 t.2
    rw [← Nat.pow_add] at h1
    rw [Nat.pow_succ]
    omega
theorem Sz.sub {a b : Nat} {p q : Rat} (s : Sz a p) (t : Sz b q) : Sz (a + b + 1) (p - q) := by
  rw [Rat.sub_eq_add_neg]
  exact s.add t.neg
/-! sums as the program makes them -/
end G43
set_option Elab.async false
set_option linter.all false
set_option maxRecDepth 100000
set_option maxHeartbeats 4000000
namespace G43
open PySem
/-! ### pens -/
structure Pen where
  a : Int
  b : Int
  c : Int
  ha : 0 ≤ a
  hc : 0 ≤ c
  hc2 : c < 2147483647
def penL (p : Pen) : List PV := [.int p.a, .int p.b, .int p.c]
/-- a pen stands at place i -/
def PenH (i : Nat) (h : Hs) : Prop := ∃ p, h[i]? = some (some (penL p))
theorem PenH.lt {i : Nat} {h : Hs} (P : PenH i h) : i < h.length := by
  obtain ⟨p, e⟩ := P
  exact (List.getElem?_eq_some_iff.mp e).1
theorem PenH.set {i : Nat} {h : Hs} (P : PenH i h) (p : Pen) : PenH i (h.set i (some (penL p))) := ⟨p, List.getElem?_set_self P.lt⟩
theorem PenH.app {i : Nat} {h : Hs} (P : PenH i h) (t : Hs) : PenH i (h ++ t) := by
  have l := P.lt
  obtain ⟨p, e⟩ := P
  exact ⟨p, by rw [List.getElem?_append_left l]; exact e⟩
end G43
set_option Elab.async false
set_option linter.all false
set_option maxRecDepth 100000
set_option maxHeartbeats 0
namespace Law
open PySem G43
/-! ### the same in the small language -/
def b_is_whole : SL := (.cons (.ret (.and (.isi (.var 0) .int) (.nt (.isi (.var 0) .bool)))) .nil)
def d_is_whole : Df := { name := "is_whole", npar := 1, dfl := [], N := ["thing"], body := b_is_whole, kw := false }
def b_is_from_to : SL := (.cons (.ret (.and (.call 0 (.cons (.var 0) .nil) []) (.chn .LtE .LtE (.var 1) (.var 0) (.var 2)))) .nil)
def d_is_from_to : Df := { name := "is_from_to", npar := 3, dfl := [], N := ["thing", "least", "most"], body := b_is_from_to, kw := false }
def b_shared : SL := (.cons (.set 0 (.bi .abs (.cons (.var 0) .nil))) (.cons (.whl [] (.cmp .Gt (.var 0) (.cst (.int 0))) (.cons (.par [0, 1] (.cons (.bin .Mod (.var 1) (.var 0)) (.cons (.var 0) .nil))) .nil)) (.cons (.ret (.var 1)) .nil)))
def d_shared : Df := { name := "shared", npar := 2, dfl := [], N := ["one", "other"], body := b_shared, kw := false }
def b_lowest : SL := (.cons (.iff (.cmp .Lt (.var 1) (.cst (.int 0))) (.cons (.par [0, 1] (.cons (.bin .Sub (.cst (.int 0)) (.var 0)) (.cons (.bin .Sub (.cst (.int 0)) (.var 1)) .nil))) .nil) .nil) (.cons (.set 2 (.call 2 (.cons (.var 0) (.cons (.var 1) .nil)) [])) (.cons (.ret (.tup (.cons (.bin .FloorDiv (.var 0) (.var 2)) (.cons (.bin .FloorDiv (.var 1) (.var 2)) .nil)))) .nil)))
def d_lowest : Df := { name := "lowest", npar := 2, dfl := [], N := ["top", "bottom", "factor"], body := b_lowest, kw := false }
def b_is_part : SL := (.cons (.iff (.or (.nt (.isi (.var 0) .tuple)) (.or (.cmp .NotEq (.bi .len (.cons (.var 0) .nil)) (.cst (.int 2))) (.or (.nt (.call 0 (.cons (.idx (.var 0) (.cst (.int 0))) .nil) [])) (.nt (.call 0 (.cons (.idx (.var 0) (.cst (.int 1))) .nil) []))))) (.cons (.ret (.cst (.bl false))) .nil) .nil) (.cons (.ret (.and (.cmp .Gt (.idx (.var 0) (.cst (.int 1))) (.cst (.int 0))) (.cmp .Eq (.call 2 (.cons (.idx (.var 0) (.cst (.int 0))) (.cons (.idx (.var 0) (.cst (.int 1))) .nil)) []) (.cst (.int 1))))) .nil))
def d_is_part : Df := { name := "is_part", npar := 1, dfl := [], N := ["thing"], body := b_is_part, kw := false }
def b_plus : SL := (.cons (.ret (.call 3 (.cons (.bin .Add (.bin .Mult (.idx (.var 0) (.cst (.int 0))) (.idx (.var 1) (.cst (.int 1)))) (.bin .Mult (.idx (.var 1) (.cst (.int 0))) (.idx (.var 0) (.cst (.int 1))))) (.cons (.bin .Mult (.idx (.var 0) (.cst (.int 1))) (.idx (.var 1) (.cst (.int 1)))) .nil)) [])) .nil)
def d_plus : Df := { name := "plus", npar := 2, dfl := [], N := ["one", "other"], body := b_plus, kw := false }
def b_minus : SL := (.cons (.ret (.call 3 (.cons (.bin .Sub (.bin .Mult (.idx (.var 0) (.cst (.int 0))) (.idx (.var 1) (.cst (.int 1)))) (.bin .Mult (.idx (.var 1) (.cst (.int 0))) (.idx (.var 0) (.cst (.int 1))))) (.cons (.bin .Mult (.idx (.var 0) (.cst (.int 1))) (.idx (.var 1) (.cst (.int 1)))) .nil)) [])) .nil)
def d_minus : Df := { name := "minus", npar := 2, dfl := [], N := ["one", "other"], body := b_minus, kw := false }
def b_product : SL := (.cons (.ret (.call 3 (.cons (.bin .Mult (.idx (.var 0) (.cst (.int 0))) (.idx (.var 1) (.cst (.int 0)))) (.cons (.bin .Mult (.idx (.var 0) (.cst (.int 1))) (.idx (.var 1) (.cst (.int 1)))) .nil)) [])) .nil)
def d_product : Df := { name := "product", npar := 2, dfl := [], N := ["one", "other"], body := b_product, kw := false }
def b_below : SL := (.cons (.ret (.cmp .Lt (.bin .Mult (.idx (.var 0) (.cst (.int 0))) (.idx (.var 1) (.cst (.int 1)))) (.bin .Mult (.idx (.var 1) (.cst (.int 0))) (.idx (.var 0) (.cst (.int 1)))))) .nil)
def d_below : Df := { name := "below", npar := 2, dfl := [], N := ["one", "other"], body := b_below, kw := false }
def b_turned : SL := (.cons (.ret (.tup (.cons (.bin .Sub (.cst (.int 0)) (.idx (.var 0) (.cst (.int 0)))) (.cons (.idx (.var 0) (.cst (.int 1))) .nil)))) .nil)
def d_turned : Df := { name := "turned", npar := 1, dfl := [], N := ["one"], body := b_turned, kw := false }
def b_is_gain : SL := (.cons (.ret (.and (.call 4 (.cons (.var 0) .nil) []) (.and (.nt (.call 8 (.cons (.var 0) (.cons (.glo 2) .nil)) [])) (.nt (.call 8 (.cons (.glo 1) (.cons (.var 0) .nil)) []))))) .nil)
def d_is_gain : Df := { name := "is_gain", npar := 1, dfl := [], N := ["thing"], body := b_is_gain, kw := false }
def b_is_moment : SL := (.cons (.ret (.and (.call 4 (.cons (.var 0) .nil) []) (.cmp .GtE (.idx (.var 0) (.cst (.int 0))) (.cst (.int 0))))) .nil)
def d_is_moment : Df := { name := "is_moment", npar := 1, dfl := [], N := ["thing"], body := b_is_moment, kw := false }
def b_need_moment : SL := (.cons (.iff (.nt (.call 11 (.cons (.var 0) .nil) [])) (.cons (.rsx 2) .nil) .nil) .nil)
def d_need_moment : Df := { name := "need_moment", npar := 1, dfl := [], N := ["moment"], body := b_need_moment, kw := false }
def b_jumps_till : SL := (.cons (.set 2 (.glo 0)) (.cons (.for [3, 4] (.cons (.nm 3) (.cons (.nm 4) .nil)) (.seq (.idx (.var 0) (.cst (.int 1)))) (.cons (.iff (.nt (.call 8 (.cons (.var 1) (.cons (.var 3) .nil)) [])) (.cons (.set 2 (.call 5 (.cons (.var 2) (.cons (.var 4) .nil)) [])) .nil) .nil) .nil)) (.cons (.ret (.var 2)) .nil)))
def d_jumps_till : Df := { name := "jumps_till", npar := 2, dfl := [], N := ["clock", "moment", "found", "when", "jump"], body := b_jumps_till, kw := false }
def b_drift_by : SL := (.cons (.ret (.call 5 (.cons (.call 7 (.cons (.var 1) (.cons (.idx (.var 0) (.cst (.int 0))) .nil)) []) (.cons (.call 13 (.cons (.var 0) (.cons (.var 1) .nil)) []) .nil)) [])) .nil)
def d_drift_by : Df := { name := "drift_by", npar := 2, dfl := [], N := ["clock", "moment"], body := b_drift_by, kw := false }
def b_shown_by : SL := (.cons (.ret (.call 5 (.cons (.call 5 (.cons (.call 7 (.cons (.glo 3) (.cons (.var 1) .nil)) []) (.cons (.var 2) .nil)) []) (.cons (.call 14 (.cons (.var 0) (.cons (.var 1) .nil)) []) .nil)) [])) .nil)
def d_shown_by : Df := { name := "shown_by", npar := 3, dfl := [], N := ["clock", "moment", "error"], body := b_shown_by, kw := false }
def b_is_clock_number : SL := (.cons (.ret (.call 1 (.cons (.var 0) (.cons (.cst (.int 0)) (.cons (.bin .Sub (.glo 5) (.cst (.int 1))) .nil))) [])) .nil)
def d_is_clock_number : Df := { name := "is_clock_number", npar := 1, dfl := [], N := ["thing"], body := b_is_clock_number, kw := false }
def b_need_clock_number : SL := (.cons (.iff (.nt (.call 16 (.cons (.var 0) .nil) [])) (.cons (.rsx 1) .nil) .nil) .nil)
def d_need_clock_number : Df := { name := "need_clock_number", npar := 1, dfl := [], N := ["thing"], body := b_need_clock_number, kw := false }
def b_are_bounds : SL := (.cons (.iff (.or (.cmp .Is (.var 0) (.cst .non)) (.cmp .Is (.var 1) (.cst .non))) (.cons (.ret (.or (.call 4 (.cons (.var 0) .nil) []) (.call 4 (.cons (.var 1) .nil) []))) .nil) .nil) (.cons (.ret (.and (.call 4 (.cons (.var 0) .nil) []) (.and (.call 4 (.cons (.var 1) .nil) []) (.nt (.call 8 (.cons (.var 1) (.cons (.var 0) .nil)) []))))) .nil))
def d_are_bounds : Df := { name := "are_bounds", npar := 2, dfl := [], N := ["low", "high"], body := b_are_bounds, kw := false }
def b_steps_of : SL := (.cons (.set 1 (.mls .nil)) (.cons (.for [2, 3, 4, 5, 6] (.cons (.nm 2) (.cons (.cons (.nm 3) (.cons (.nm 4) (.cons (.nm 5) (.cons (.nm 6) .nil)))) .nil)) (.enm (.var 0)) (.cons (.iff (.cmp .IsNot (.var 6) (.cst .non)) (.cons (.app (.var 1) (.tup (.cons (.var 3) (.cons (.var 4) (.cons (.var 6) (.cons (.var 2) (.cons (.cst (.int 1)) .nil))))))) .nil) .nil) (.cons (.iff (.cmp .IsNot (.var 5) (.cst .non)) (.cons (.app (.var 1) (.tup (.cons (.var 4) (.cons (.var 3) (.cons (.call 9 (.cons (.var 5) .nil) []) (.cons (.var 2) (.cons (.neg (.cst (.int 1))) .nil))))))) .nil) .nil) .nil))) (.cons (.ret (.frz (.var 1))) .nil)))
def d_steps_of : Df := { name := "steps_of", npar := 1, dfl := [], N := ["tellings", "found", "number", "one", "other", "low", "high"], body := b_steps_of, kw := false }
def b_shortest : SL := (.cons (.set 2 (.mrp (.lst (.cons (.cst .non) .nil)) (.glo 5))) (.cons (.sub (.var 2) (.var 1) (.tup (.cons (.glo 0) (.cons (.tup .nil) .nil)))) (.cons (.set 3 (.cst .non)) (.cons (.for [4] (.nm 4) (.rng1 (.glo 5)) (.cons (.set 3 (.cst .non)) (.cons (.for [5, 6, 7, 8, 9, 10] (.cons (.nm 5) (.cons (.nm 6) (.cons (.nm 7) (.cons (.nm 8) (.cons (.nm 9) .nil))))) (.seq (.var 0)) (.cons (.iff (.cmp .IsNot (.idx (.var 2) (.var 5)) (.cst .non)) (.cons (.set 10 (.call 5 (.cons (.idx (.idx (.var 2) (.var 5)) (.cst (.int 0))) (.cons (.var 7) .nil)) [])) (.cons (.iff (.or (.cmp .Is (.idx (.var 2) (.var 6)) (.cst .non)) (.call 8 (.cons (.var 10) (.cons (.idx (.idx (.var 2) (.var 6)) (.cst (.int 0))) .nil)) [])) (.cons (.sub (.var 2) (.var 6) (.tup (.cons (.var 10) (.cons (.bin .Add (.idx (.idx (.var 2) (.var 5)) (.cst (.int 1))) (.tup (.cons (.tup (.cons (.var 8) (.cons (.var 9) .nil))) .nil))) .nil)))) (.cons (.set 3 (.var 6)) .nil)) .nil) .nil)) .nil) .nil)) .nil))) (.cons (.ret (.tup (.cons (.frz (.var 2)) (.cons (.var 3) .nil)))) .nil)))))
def d_shortest : Df := { name := "shortest", npar := 2, dfl := [], N := ["steps", "begin", "found", "nearer", "turn", "one", "other", "long", "number", "sign", "here"], body := b_shortest, kw := false }
def b_ring_on : SL := (.cons (.set 3 (.mls (.cons (.var 1) .nil))) (.cons (.for [4, 5, 6, 7, 8, 9] (.cons (.nm 4) (.cons (.nm 5) .nil)) (.seq (.var 2)) (.cons (.unp (.cons (.nm 6) (.cons (.nm 7) (.cons (.nm 8) (.cons (.nm 9) .nil)))) (.idx (.var 0) (.var 4))) (.cons (.app (.var 3) (.ite (.cmp .Eq (.var 5) (.cst (.int 1))) (.var 7) (.var 6))) .nil))) (.cons (.for [10] (.nm 10) (.rng2 (.cst (.int 1)) (.bi .len (.cons (.var 3) .nil))) (.cons (.for [11] (.nm 11) (.rng1 (.var 10)) (.cons (.iff (.cmp .Eq (.idx (.var 3) (.var 11)) (.idx (.var 3) (.var 10))) (.cons (.ret (.tup (.cons (.idx (.var 3) (.var 11)) (.cons (.slh (.var 2) (.var 11) (.var 10)) .nil)))) .nil) .nil) .nil)) .nil)) (.cons (.ret (.cst .non)) .nil))))
def d_ring_on : Df := { name := "ring_on", npar := 3, dfl := [], N := ["tellings", "begin", "way", "points", "number", "sign", "one", "other", "low", "high", "last", "first"], body := b_ring_on, kw := false }
def b_ring_in : SL := (.cons (.set 1 (.call 19 (.cons (.var 0) .nil) [])) (.cons (.for [2, 3, 4] (.nm 2) (.rng1 (.glo 5)) (.cons (.unp (.cons (.nm 3) (.cons (.nm 4) .nil)) (.call 20 (.cons (.var 1) (.cons (.var 2) .nil)) [])) (.cons (.iff (.cmp .IsNot (.var 4) (.cst .non)) (.cons (.ret (.call 21 (.cons (.var 0) (.cons (.var 2) (.cons (.idx (.idx (.var 3) (.var 4)) (.cst (.int 1))) .nil))) [])) .nil) .nil) .nil))) (.cons (.ret (.cst .non)) .nil)))
def d_ring_in : Df := { name := "ring_in", npar := 1, dfl := [], N := ["tellings", "steps", "begin", "found", "nearer"], body := b_ring_in, kw := false }
def b_together : SL := (.cons (.ret (.cmp .Is (.call 22 (.cons (.var 0) .nil) []) (.cst .non))) .nil)
def d_together : Df := { name := "together", npar := 1, dfl := [], N := ["tellings"], body := b_together, kw := false }
def b_far_from : SL := (.cons (.set 3 (.idx (.idx (.call 20 (.cons (.call 19 (.cons (.var 0) .nil) []) (.cons (.var 2) .nil)) []) (.cst (.int 0))) (.var 1))) (.cons (.ret (.ite (.cmp .Is (.var 3) (.cst .non)) (.cst .non) (.idx (.var 3) (.cst (.int 0))))) .nil))
def d_far_from : Df := { name := "far_from", npar := 3, dfl := [], N := ["tellings", "clock", "other", "found"], body := b_far_from, kw := false }
def b_stretch_by : SL := (.cons (.par [3, 4] (.cons (.call 24 (.cons (.var 0) (.cons (.var 1) (.cons (.var 2) .nil))) []) (.cons (.call 24 (.cons (.var 0) (.cons (.var 2) (.cons (.var 1) .nil))) []) .nil))) (.cons (.ret (.tup (.cons (.ite (.cmp .Is (.var 4) (.cst .non)) (.cst .non) (.call 9 (.cons (.var 4) .nil) [])) (.cons (.var 3) .nil)))) .nil))
def d_stretch_by : Df := { name := "stretch_by", npar := 3, dfl := [], N := ["tellings", "clock", "other", "high", "back"], body := b_stretch_by, kw := false }
def b_need_other_clock : SL := (.cons (.iff (.nt (.call 1 (.cons (.var 0) (.cons (.cst (.int 1)) (.cons (.bin .Sub (.glo 5) (.cst (.int 1))) .nil))) [])) (.cons (.rsx 1) .nil) .nil) .nil)
def d_need_other_clock : Df := { name := "need_other_clock", npar := 1, dfl := [], N := ["clock"], body := b_need_other_clock, kw := false }
def b_are_gains : SL := (.cons (.iff (.or (.nt (.isi (.var 0) .tuple)) (.or (.cmp .NotEq (.bi .len (.cons (.var 0) .nil)) (.glo 5)) (.nt (.bi .all (.cons (.comp (.call 10 (.cons (.var 1) .nil) []) (.nm 1) (.seq (.var 0)) .nil) .nil))))) (.cons (.ret (.cst (.bl false))) .nil) .nil) (.cons (.ret (.cmp .Eq (.idx (.var 0) (.cst (.int 0))) (.glo 0))) .nil))
def d_are_gains : Df := { name := "are_gains", npar := 1, dfl := [], N := ["thing", "one"], body := b_are_gains, kw := false }
def b_moved : SL := (.cons (.ret (.ite (.cmp .Is (.var 0) (.cst .non)) (.cst .non) (.call 6 (.cons (.var 0) (.cons (.var 1) .nil)) []))) .nil)
def d_moved : Df := { name := "moved", npar := 2, dfl := [], N := ["bound", "by"], body := b_moved, kw := false }
def b__law_cell_at : SL := (.cons (.iff (.cmp .Lt (.var 1) (.bi .len (.cons (.var 0) .nil))) (.cons (.ret (.idx (.var 0) (.var 1))) .nil) .nil) (.cons (.ret (.cst (.int 0))) .nil))
def d__law_cell_at : Df := { name := "_law_cell_at", npar := 2, dfl := [], N := ["_law_script", "_law_k"], body := b__law_cell_at, kw := false }
def b__law_next : SL := (.cons (.set 0 (.bin .Mod (.bin .Add (.var 0) (.cst (.int 7919))) (.cst (.int 2147483647)))) (.cons (.ret (.bin .Mod (.bin .Add (.bin .Add (.bin .Mult (.var 0) (.var 0)) (.bin .Mult (.cst (.int 48271)) (.var 0))) (.cst (.int 12345))) (.cst (.int 2147483629)))) .nil))
def d__law_next : Df := { name := "_law_next", npar := 1, dfl := [], N := ["_law_seed"], body := b__law_next, kw := false }
def b__law_pen_of : SL := (.cons (.set 1 (.bi .max (.cons (.var 0) (.cons (.bin .Sub (.cst (.int 0)) (.var 0)) .nil)))) (.cons (.ret (.mls (.cons (.var 1) (.cons (.bi .int (.cons (.cmp .GtE (.var 1) (.bin .Pow (.cst (.int 10)) (.cst (.int 18)))) .nil)) (.cons (.bin .Mod (.var 1) (.cst (.int 1000003))) .nil))))) .nil))
def d__law_pen_of : Df := { name := "_law_pen_of", npar := 1, dfl := [], N := ["_law_cell", "_law_left"], body := b__law_pen_of, kw := false }
def b__law_draw : SL := (.cons (.iff (.and (.cmp .Eq (.idx (.var 0) (.cst (.int 1))) (.cst (.int 1))) (.cmp .Gt (.idx (.var 0) (.cst (.int 0))) (.cst (.int 0)))) (.cons (.set 2 (.bin .Mod (.idx (.var 0) (.cst (.int 0))) (.var 1))) (.cons (.sub (.var 0) (.cst (.int 0)) (.bin .FloorDiv (.idx (.var 0) (.cst (.int 0))) (.var 1))) (.cons (.ret (.var 2)) .nil))) .nil) (.cons (.sub (.var 0) (.cst (.int 2)) (.call 30 (.cons (.bin .Add (.call 30 (.cons (.idx (.var 0) (.cst (.int 2))) .nil) []) (.cst (.int 7))) .nil) [])) (.cons (.ret (.bin .Mod (.bin .FloorDiv (.idx (.var 0) (.cst (.int 2))) (.cst (.int 64))) (.var 1))) .nil)))
def d__law_draw : Df := { name := "_law_draw", npar := 2, dfl := [], N := ["_law_pen", "_law_many", "_law_found"], body := b__law_draw, kw := false }
def b__law_made : SL := (.cons (.par [2, 3] (.cons (.bi .abs (.cons (.var 0) .nil)) (.cons (.var 1) .nil))) (.cons (.whl [] (.cmp .Gt (.var 3) (.cst (.int 0))) (.cons (.par [2, 3] (.cons (.var 3) (.cons (.bin .Mod (.var 2) (.var 3)) .nil))) .nil)) (.cons (.ret (.tup (.cons (.bin .FloorDiv (.var 0) (.var 2)) (.cons (.bin .FloorDiv (.var 1) (.var 2)) .nil)))) .nil)))
def d__law_made : Df := { name := "_law_made", npar := 2, dfl := [], N := ["_law_top", "_law_bottom", "_law_one", "_law_other"], body := b__law_made, kw := false }
def b__law_sum : SL := (.cons (.ret (.call 33 (.cons (.bin .Add (.bin .Mult (.idx (.var 0) (.cst (.int 0))) (.idx (.var 1) (.cst (.int 1)))) (.bin .Mult (.idx (.var 1) (.cst (.int 0))) (.idx (.var 0) (.cst (.int 1))))) (.cons (.bin .Mult (.idx (.var 0) (.cst (.int 1))) (.idx (.var 1) (.cst (.int 1)))) .nil)) [])) .nil)
def d__law_sum : Df := { name := "_law_sum", npar := 2, dfl := [], N := ["_law_one", "_law_other"], body := b__law_sum, kw := false }
def b__law_gains : SL := (.cons (.set 1 (.mls .nil)) (.cons (.for [2, 3] (.nm 2) (.rng1 (.cst (.int 5))) (.cons (.set 3 (.call 33 (.cons (.bin .Sub (.call 32 (.cons (.var 0) (.cons (.cst (.int 25)) .nil)) []) (.cst (.int 12))) (.cons (.bin .Add (.cst (.int 1)) (.call 32 (.cons (.var 0) (.cons (.cst (.int 6)) .nil)) [])) .nil)) [])) (.cons (.app (.var 1) (.idx (.lst (.cons (.tup (.cons (.cst (.int 0)) (.cons (.cst (.int 1)) .nil))) (.cons (.var 3) .nil))) (.call 32 (.cons (.var 0) (.cons (.cst (.int 2)) .nil)) []))) .nil))) (.cons (.ret (.bin .Add (.tup (.cons (.tup (.cons (.cst (.int 0)) (.cons (.cst (.int 1)) .nil))) .nil)) (.bi .tuple (.cons (.var 1) .nil)))) .nil)))
def d__law_gains : Df := { name := "_law_gains", npar := 1, dfl := [], N := ["_law_pen", "_law_some", "_law_clock", "_law_gain"], body := b__law_gains, kw := false }
def b__law_moments_right : SL := (.cons (.for [1, 2] (.nm 1) (.seq (.lst (.cons (.cst .non) (.cons (.tup (.cons (.neg (.cst (.int 1))) (.cons (.cst (.int 2)) .nil))) (.cons (.tup (.cons (.cst (.int 2)) (.cons (.cst (.int 2)) .nil))) (.cons (.cst (.int 1)) (.cons (.cst (.bl true)) (.cons (.tup (.cons (.cst (.int 1)) (.cons (.cst (.int 0)) .nil))) (.cons (.cst (.str "0")) (.cons (.bin .Pow (.cst (.int 10)) (.cst (.int 30))) (.cons (.cst (.int 0)) (.cons (.cst (.bl false)) (.cons (.cst (.str "")) (.cons (.tup .nil) (.cons (.lst .nil) .nil))))))))))))))) (.cons (.set 2 (.mls (.cons (.word (.mth 0 44 (.var 0) (.cons (.var 1) (.cons (.cst (.int 9)) (.cons (.cst (.int 9)) (.cons (.cst (.int 0)) (.cons (.cst (.int 0)) .nil))))) [])) .nil))) (.cons (.app (.var 2) (.word (.mth 0 45 (.var 0) (.cons (.cst (.int 1)) (.cons (.var 1) (.cons (.cst .non) .nil))) []))) (.cons (.app (.var 2) (.word (.mth 0 52 (.var 0) (.cons (.cst (.int 0)) (.cons (.var 1) (.cons (.cst .non) .nil))) []))) (.cons (.iff (.cmp .NotEq (.var 2) (.bin .Mult (.lst (.cons (.tup (.cons (.cst (.str "moment")) .nil)) .nil)) (.cst (.int 3)))) (.cons (.ret (.cst (.bl false))) .nil) .nil) (.cons (.iff (.and (.cmp .IsNot (.var 1) (.cst .non)) (.cmp .NotEq (.word (.mth 0 48 (.var 0) (.cons (.cst (.int 0)) (.cons (.var 1) .nil)) [])) (.tup (.cons (.cst (.str "moment")) .nil)))) (.cons (.ret (.cst (.bl false))) .nil) .nil) .nil)))))) (.cons (.ret (.cmp .Eq (.mth 0 48 (.var 0) (.cons (.cst (.int 1)) (.cons (.cst .non) .nil)) []) (.mth 0 48 (.var 0) (.cons (.cst (.int 1)) .nil) [.non]))) .nil))
def d__law_moments_right : Df := { name := "_law_moments_right", npar := 1, dfl := [], N := ["_law_post", "_law_bad", "_law_words"], body := b__law_moments_right, kw := false }
def b__law_numbers_right : SL := (.cons (.for [1, 2] (.nm 1) (.seq (.lst (.cons (.neg (.cst (.int 1))) (.cons (.cst (.int 6)) (.cons (.cst (.bl true)) (.cons (.cst .non) (.cons (.cst (.str "0")) (.cons (.tup (.cons (.cst (.int 0)) .nil)) (.cons (.bin .Pow (.cst (.int 10)) (.cst (.int 30))) .nil))))))))) (.cons (.set 2 (.mls (.cons (.word (.mth 0 44 (.var 0) (.cons (.tup (.cons (.cst (.int 0)) (.cons (.cst (.int 1)) .nil))) (.cons (.var 1) (.cons (.cst (.int 9)) (.cons (.cst (.int 0)) (.cons (.cst (.int 0)) .nil))))) [])) .nil))) (.cons (.app (.var 2) (.word (.mth 0 44 (.var 0) (.cons (.tup (.cons (.cst (.int 0)) (.cons (.cst (.int 1)) .nil))) (.cons (.cst (.int 1)) (.cons (.var 1) (.cons (.cst (.int 0)) (.cons (.cst (.int 0)) .nil))))) []))) (.cons (.app (.var 2) (.word (.mth 0 45 (.var 0) (.cons (.var 1) (.cons (.cst .non) (.cons (.cst .non) .nil))) []))) (.cons (.app (.var 2) (.word (.mth 0 48 (.var 0) (.cons (.var 1) (.cons (.cst (.int 0)) .nil)) []))) (.cons (.app (.var 2) (.word (.mth 0 51 (.var 0) (.cons (.var 1) .nil) []))) (.cons (.app (.var 2) (.word (.mth 0 52 (.var 0) (.cons (.var 1) (.cons (.cst .non) (.cons (.cst .non) .nil))) []))) (.cons (.iff (.cmp .NotEq (.var 2) (.bin .Mult (.lst (.cons (.tup (.cons (.cst (.str "number")) .nil)) .nil)) (.cst (.int 6)))) (.cons (.ret (.cst (.bl false))) .nil) .nil) .nil)))))))) (.cons (.set 2 (.mls (.cons (.word (.mth 0 44 (.var 0) (.cons (.tup (.cons (.cst (.int 0)) (.cons (.cst (.int 1)) .nil))) (.cons (.cst (.int 2)) (.cons (.cst (.int 2)) (.cons (.cst (.int 0)) (.cons (.cst (.int 0)) .nil))))) [])) .nil))) (.cons (.app (.var 2) (.word (.mth 0 45 (.var 0) (.cons (.cst (.int 0)) (.cons (.cst .non) (.cons (.cst .non) .nil))) []))) (.cons (.ret (.cmp .Eq (.var 2) (.bin .Mult (.lst (.cons (.tup (.cons (.cst (.str "number")) .nil)) .nil)) (.cst (.int 2))))) .nil))))
def d__law_numbers_right : Df := { name := "_law_numbers_right", npar := 1, dfl := [], N := ["_law_post", "_law_bad", "_law_words"], body := b__law_numbers_right, kw := false }
def b__law_rest_right : SL := (.cons (.set 1 (.lst (.cons (.tup (.cons (.cst .non) (.cons (.cst .non) .nil))) (.cons (.tup (.cons (.cst (.int 0)) (.cons (.tup (.cons (.cst (.int 1)) (.cons (.cst (.int 1)) .nil))) .nil))) (.cons (.tup (.cons (.tup (.cons (.cst (.int 1)) (.cons (.cst (.int 1)) .nil))) (.cons (.cst (.int 0)) .nil))) (.cons (.tup (.cons (.tup (.cons (.cst (.int 1)) (.cons (.cst (.int 1)) .nil))) (.cons (.tup (.cons (.cst (.int 0)) (.cons (.cst (.int 1)) .nil))) .nil))) (.cons (.tup (.cons (.tup (.cons (.cst (.int 2)) (.cons (.cst (.int 2)) .nil))) (.cons (.cst .non) .nil))) (.cons (.tup (.cons (.cst .non) (.cons (.cst (.bl true)) .nil))) .nil)))))))) (.cons (.for [2, 3] (.cons (.nm 2) (.cons (.nm 3) .nil)) (.seq (.bin .Add (.var 1) (.lst (.cons (.tup (.cons (.cst (.str "0")) (.cons (.cst .non) .nil))) .nil)))) (.cons (.iff (.cmp .NotEq (.word (.mth 0 44 (.var 0) (.cons (.tup (.cons (.cst (.int 0)) (.cons (.cst (.int 1)) .nil))) (.cons (.cst (.int 0)) (.cons (.cst (.int 1)) (.cons (.var 2) (.cons (.var 3) .nil))))) [])) (.tup (.cons (.cst (.str "telling")) .nil))) (.cons (.ret (.cst (.bl false))) .nil) .nil) .nil)) (.cons (.iff (.cmp .NotEq (.word (.mth 0 44 (.var 0) (.cons (.tup (.cons (.cst (.int 0)) (.cons (.cst (.int 1)) .nil))) (.cons (.cst (.int 0)) (.cons (.cst (.int 1)) .nil))) [.non, .non])) (.tup (.cons (.cst (.str "telling")) .nil))) (.cons (.ret (.cst (.bl false))) .nil) .nil) (.cons (.for [4] (.nm 4) (.seq (.lst (.cons (.cst .non) (.cons (.cst (.int 0)) (.cons (.tup (.cons (.cst (.int 0)) (.cons (.cst (.int 1)) .nil))) (.cons (.tup (.cons (.cst (.int 2)) (.cons (.cst (.int 2)) .nil))) (.cons (.cst (.bl true)) (.cons (.cst (.str "1")) (.cons (.lst (.cons (.cst (.int 1)) (.cons (.cst (.int 1)) .nil))) .nil))))))))) (.cons (.iff (.cmp .NotEq (.word (.mth 0 45 (.var 0) (.cons (.cst (.int 1)) (.cons (.tup (.cons (.cst (.int 0)) (.cons (.cst (.int 1)) .nil))) (.cons (.var 4) .nil))) [])) (.tup (.cons (.cst (.str "part")) .nil))) (.cons (.ret (.cst (.bl false))) .nil) .nil) .nil)) (.cons (.for [4] (.nm 4) (.seq (.lst (.cons (.cst .non) (.cons (.cst (.int 0)) (.cons (.tup (.cons (.cst (.int 2)) (.cons (.cst (.int 2)) .nil))) (.cons (.cst (.bl true)) (.cons (.cst (.str "1")) .nil))))))) (.cons (.iff (.cmp .NotEq (.word (.mth 0 52 (.var 0) (.cons (.cst (.int 1)) (.cons (.tup (.cons (.cst (.int 0)) (.cons (.cst (.int 1)) .nil))) (.cons (.var 4) .nil))) [])) (.tup (.cons (.cst (.str "hour")) .nil))) (.cons (.ret (.cst (.bl false))) .nil) .nil) .nil)) (.cons (.for [4] (.nm 4) (.seq (.lst (.cons (.cst (.int 0)) (.cons (.neg (.cst (.int 1))) (.cons (.cst .non) (.cons (.cst (.bl true)) (.cons (.cst (.bl false)) (.cons (.cst (.str "0")) (.cons (.tup (.cons (.cst (.int 0)) .nil)) .nil))))))))) (.cons (.iff (.cmp .NotEq (.word (.mth 0 46 (.var 0) (.cons (.var 4) .nil) [])) (.tup (.cons (.cst (.str "missing")) .nil))) (.cons (.ret (.cst (.bl false))) .nil) .nil) .nil)) (.cons (.ret (.cmp .Eq (.word (.mth 0 47 (.var 0) .nil [])) (.tup (.cons (.cst (.str "deed")) .nil)))) .nil)))))))
def d__law_rest_right : Df := { name := "_law_rest_right", npar := 1, dfl := [], N := ["_law_post", "_law_ends", "_law_low", "_law_high", "_law_bad"], body := b__law_rest_right, kw := false }
def b__law_full_right : SL := (.cons (.set 2 (.tup (.cons (.bin .Add (.cst (.int 1)) (.call 32 (.cons (.var 0) (.cons (.cst (.int 30)) .nil)) [])) (.cons (.cst (.int 1)) .nil)))) (.cons (.for [3] (.nm 3) (.rng1 (.cst (.int 6))) (.cons (.exp (.mth 0 45 (.var 1) (.cons (.cst (.int 2)) (.cons (.call 34 (.cons (.var 2) (.cons (.tup (.cons (.var 3) (.cons (.cst (.int 1)) .nil))) .nil)) []) (.cons (.call 33 (.cons (.bin .Add (.cst (.int 1)) (.var 3)) (.cons (.cst (.int 3)) .nil)) []) .nil))) [])) .nil)) (.cons (.iff (.cmp .NotEq (.word (.mth 0 45 (.var 1) (.cons (.cst (.int 2)) (.cons (.var 2) (.cons (.tup (.cons (.cst (.int 5)) (.cons (.cst (.int 1)) .nil))) .nil))) [])) (.tup (.cons (.cst (.str "twice")) .nil))) (.cons (.ret (.cst (.bl false))) .nil) .nil) (.cons (.iff (.cmp .NotEq (.word (.mth 0 45 (.var 1) (.cons (.cst (.int 2)) (.cons (.tup (.cons (.cst (.int 0)) (.cons (.cst (.int 1)) .nil))) (.cons (.tup (.cons (.cst (.int 5)) (.cons (.cst (.int 1)) .nil))) .nil))) [])) (.tup (.cons (.cst (.str "many")) (.cons (.cst (.int 7)) (.cons (.cst (.int 6)) .nil))))) (.cons (.ret (.cst (.bl false))) .nil) .nil) (.cons (.set 4 (.comp (.mth 0 44 (.var 1) (.cons (.call 33 (.cons (.var 3) (.cons (.cst (.int 2)) .nil)) []) (.cons (.cst (.int 0)) (.cons (.cst (.int 1)) (.cons (.cst .non) (.cons (.tup (.cons (.cst (.int 1000)) (.cons (.cst (.int 1)) .nil))) .nil))))) []) (.nm 3) (.rng1 (.cst (.int 10))) .nil)) (.cons (.iff (.cmp .NotEq (.var 4) (.lrg (.cst (.int 10)))) (.cons (.ret (.cst (.bl false))) .nil) .nil) (.cons (.iff (.cmp .NotEq (.word (.mth 0 44 (.var 1) (.cons (.tup (.cons (.cst (.int 0)) (.cons (.cst (.int 1)) .nil))) (.cons (.cst (.int 0)) (.cons (.cst (.int 1)) (.cons (.tup (.cons (.cst (.int 9000)) (.cons (.cst (.int 1)) .nil))) (.cons (.cst .non) .nil))))) [])) (.tup (.cons (.cst (.str "many")) (.cons (.cst (.int 11)) (.cons (.cst (.int 10)) .nil))))) (.cons (.ret (.cst (.bl false))) .nil) .nil) (.cons (.exp (.mth 0 46 (.var 1) (.cons (.cst (.int 3)) .nil) [])) (.cons (.for [5] (.nm 5) (.seq (.lst (.cons (.cst (.int 3)) (.cons (.cst (.bl true)) (.cons (.cst (.bl false)) (.cons (.tup (.cons (.cst (.int 1)) .nil)) (.cons (.cst .non) .nil))))))) (.cons (.iff (.cmp .NotEq (.word (.mth 0 46 (.var 1) (.cons (.var 5) .nil) [])) (.tup (.cons (.cst (.str "missing")) .nil))) (.cons (.ret (.cst (.bl false))) .nil) .nil) .nil)) (.cons (.iff (.cmp .NotEq (.word (.mth 0 44 (.var 1) (.cons (.tup (.cons (.cst (.int 0)) (.cons (.cst (.int 1)) .nil))) (.cons (.cst (.int 0)) (.cons (.cst (.int 1)) (.cons (.tup (.cons (.cst (.int 9000)) (.cons (.cst (.int 1)) .nil))) (.cons (.cst .non) .nil))))) [])) (.tup (.cons (.cst (.str "apart")) .nil))) (.cons (.ret (.cst (.bl false))) .nil) .nil) (.cons (.ret (.and (.cmp .Eq (.lno 0 53 (.var 1)) (.cst (.int 9))) (.cmp .Eq (.mth 0 44 (.var 1) (.cons (.tup (.cons (.cst (.int 0)) (.cons (.cst (.int 1)) .nil))) (.cons (.cst (.int 0)) (.cons (.cst (.int 1)) (.cons (.tup (.cons (.neg (.cst (.int 9000))) (.cons (.cst (.int 1)) .nil))) (.cons (.cst .non) .nil))))) []) (.cst (.int 10))))) .nil)))))))))))
def d__law_full_right : Df := { name := "_law_full_right", npar := 2, dfl := [], N := ["_law_pen", "_law_post", "_law_moment", "_law_turn", "_law_numbers", "_law_bad"], body := b__law_full_right, kw := false }
def b_law : SL := (.cons (.for [1, 2, 3, 4, 5, 7] (.nm 1) (.seq (.bin .Add (.lst (.cons (.call 29 (.cons (.var 0) (.cons (.cst (.int 0)) .nil)) []) .nil)) (.slh (.var 0) (.cst (.int 1)) (.cst (.int 2))))) (.cons (.set 2 (.call 31 (.cons (.var 1) .nil) [])) (.cons (.set 3 (.call 35 (.cons (.var 2) .nil) [])) (.cons (.set 4 (.mko 0 41 (.cons (.var 3) .nil) [])) (.cons (.set 5 (.bi .repr (.cons (.tup (.cons (.mth 0 50 (.var 4) .nil []) (.cons (.comp (.mth 0 51 (.var 4) (.cons (.var 6) .nil) []) (.nm 6) (.rng1 (.cst (.int 6))) .nil) .nil))) .nil))) (.cons (.iff (.or (.nt (.call 36 (.cons (.var 4) .nil) [])) (.or (.nt (.call 37 (.cons (.var 4) .nil) [])) (.nt (.call 38 (.cons (.var 4) .nil) [])))) (.cons (.ret (.cst (.bl false))) .nil) .nil) (.cons (.iff (.cmp .NotEq (.bi .repr (.cons (.tup (.cons (.mth 0 50 (.var 4) .nil []) (.cons (.comp (.mth 0 51 (.var 4) (.cons (.var 6) .nil) []) (.nm 6) (.rng1 (.cst (.int 6))) .nil) .nil))) .nil)) (.var 5)) (.cons (.ret (.cst (.bl false))) .nil) .nil) (.cons (.set 7 (.lst (.cons (.cst .non) (.cons (.tup .nil) (.cons (.shi (.var 3) (.cst (.int 5))) (.cons (.bin .Add (.var 3) (.tup (.cons (.tup (.cons (.cst (.int 0)) (.cons (.cst (.int 1)) .nil))) .nil))) (.cons (.bi .list (.cons (.var 3) .nil)) (.cons (.bin .Add (.tup (.cons (.tup (.cons (.cst (.int 1)) (.cons (.cst (.int 1)) .nil))) .nil)) (.slo (.var 3) (.cst (.int 1)))) (.cons (.bin .Add (.shi (.var 3) (.cst (.int 5))) (.tup (.cons (.tup (.cons (.cst (.int 25)) (.cons (.cst (.int 2)) .nil))) .nil))) .nil))))))))) (.cons (.for [8] (.nm 8) (.seq (.bin .Add (.var 7) (.lst (.cons (.bin .Add (.shi (.var 3) (.cst (.int 5))) (.tup (.cons (.tup (.cons (.neg (.cst (.int 25))) (.cons (.cst (.int 2)) .nil))) .nil))) (.cons (.bin .Add (.shi (.var 3) (.cst (.int 5))) (.tup (.cons (.cst (.int 0)) .nil))) (.cons (.bin .Add (.shi (.var 3) (.cst (.int 5))) (.tup (.cons (.tup (.cons (.cst (.int 2)) (.cons (.cst (.int 2)) .nil))) .nil))) (.cons (.cst (.int 6)) .nil))))))) (.cons (.iff (.cmp .NotEq (.word (.mko 0 41 (.cons (.var 8) .nil) [])) (.tup (.cons (.cst (.str "clock")) .nil))) (.cons (.ret (.cst (.bl false))) .nil) .nil) .nil)) (.cons (.iff (.nt (.call 39 (.cons (.var 2) (.cons (.var 4) .nil)) [])) (.cons (.ret (.cst (.bl false))) .nil) .nil) .nil)))))))))) (.cons (.ret (.cst (.bl true))) .nil))
def d_law : Df := { name := "law", npar := 1, dfl := [], N := ["_law_script", "_law_cell", "_law_pen", "_law_gains_here", "_law_post", "_law_held", "_law_clock", "_law_odd", "_law_bad"], body := b_law, kw := false }
def b_Post___init__ : SL := (.cons (.iff (.nt (.call 27 (.cons (.var 1) .nil) [])) (.cons (.rsx 3) .nil) .nil) (.cons (.fst 0 0 0 (.bi .tuple (.cons (.comp (.tup (.cons (.var 2) (.cons (.tup .nil) .nil))) (.nm 2) (.seq (.var 1)) .nil) .nil))) (.cons (.fst 0 0 1 (.tup .nil)) (.cons (.fst 0 0 2 (.cst (.int 0))) (.cons (.fnl 0 0 3 (.mls .nil)) .nil)))))
def d_Post___init__ : Df := { name := "__init__", npar := 2, dfl := [], N := ["self", "gains", "gain"], body := b_Post___init__, kw := false, own := some "Post", ini := true }
def b_Post_taken_back : SL := (.cons (.set 3 (.mls .nil)) (.cons (.for [4, 5, 6, 7, 8, 9, 10] (.cons (.nm 4) (.cons (.nm 5) (.cons (.nm 6) (.cons (.nm 7) (.cons (.nm 8) (.cons (.nm 9) .nil)))))) (.seq (.var 2)) (.cons (.set 10 (.call 6 (.cons (.call 14 (.cons (.idx (.var 1) (.var 7)) (.cons (.var 5) .nil)) []) (.cons (.call 14 (.cons (.idx (.var 1) (.var 6)) (.cons (.var 5) .nil)) []) .nil)) [])) (.cons (.app (.var 3) (.tup (.cons (.var 6) (.cons (.var 7) (.cons (.call 28 (.cons (.var 8) (.cons (.var 10) .nil)) []) (.cons (.call 28 (.cons (.var 9) (.cons (.var 10) .nil)) []) .nil)))))) .nil))) (.cons (.ret (.bi .tuple (.cons (.var 3) .nil))) .nil)))
def d_Post_taken_back : Df := { name := "taken_back", npar := 3, dfl := [], N := ["self", "clocks", "told", "found", "number", "moment", "one", "other", "low", "high", "by"], body := b_Post_taken_back, kw := false, own := some "Post", ini := false }
def b_Post_become : SL := (.cons (.lap (.lfd (.var 0) 0) (.tup (.cons (.fld (.var 0) 0 0) (.cons (.fld (.var 0) 0 1) (.cons (.fld (.var 0) 0 2) .nil))))) (.cons (.fst 0 0 0 (.var 1)) (.cons (.fst 0 0 1 (.var 2)) (.cons (.fst 0 0 2 (.var 3)) .nil))))
def d_Post_become : Df := { name := "become", npar := 4, dfl := [], N := ["self", "clocks", "told", "next_number"], body := b_Post_become, kw := false, own := some "Post", ini := false }
def b_Post_tells : SL := (.cons (.exp (.call 12 (.cons (.var 1) .nil) [])) (.cons (.exp (.call 17 (.cons (.var 2) .nil) [])) (.cons (.exp (.call 17 (.cons (.var 3) .nil) [])) (.cons (.iff (.cmp .Eq (.var 2) (.var 3)) (.cons (.rsx 1) .nil) .nil) (.cons (.iff (.nt (.call 18 (.cons (.var 4) (.cons (.var 5) .nil)) [])) (.cons (.rsx 5) .nil) .nil) (.cons (.iff (.cmp .Eq (.bi .len (.cons (.fld (.var 0) 0 1) .nil)) (.glo 6)) (.cons (.rsf 17 (.cons (.bin .Add (.glo 6) (.cst (.int 1))) (.cons (.glo 6) .nil))) .nil) .nil) (.cons (.set 6 (.bin .Add (.fld (.var 0) 0 1) (.tup (.cons (.tup (.cons (.fld (.var 0) 0 2) (.cons (.var 1) (.cons (.var 2) (.cons (.var 3) (.cons (.var 4) (.cons (.var 5) .nil))))))) .nil)))) (.cons (.iff (.nt (.call 23 (.cons (.mth 0 42 (.var 0) (.cons (.fld (.var 0) 0 0) (.cons (.var 6) .nil)) []) .nil) [])) (.cons (.rsx 8) .nil) .nil) (.cons (.exp (.mth 0 43 (.var 0) (.cons (.fld (.var 0) 0 0) (.cons (.var 6) (.cons (.bin .Add (.fld (.var 0) 0 2) (.cst (.int 1))) .nil))) [])) (.cons (.ret (.bin .Sub (.fld (.var 0) 0 2) (.cst (.int 1)))) .nil))))))))))
def d_Post_tells : Df := { name := "tells", npar := 6, dfl := [.non, .non], N := ["self", "moment", "one", "other", "low", "high", "told"], body := b_Post_tells, kw := false, own := some "Post", ini := false }
def b_Post_sets : SL := (.cons (.exp (.call 26 (.cons (.var 1) .nil) [])) (.cons (.exp (.call 12 (.cons (.var 2) .nil) [])) (.cons (.iff (.or (.nt (.call 4 (.cons (.var 3) .nil) [])) (.cmp .Eq (.var 3) (.glo 0))) (.cons (.rsx 0) .nil) .nil) (.cons (.unp (.cons (.nm 4) (.cons (.nm 5) .nil)) (.idx (.fld (.var 0) 0 0) (.var 1))) (.cons (.iff (.cmp .In (.var 2) (.comp (.var 6) (.cons (.nm 6) (.cons (.nm 7) .nil)) (.seq (.var 5)) .nil)) (.cons (.rsx 9) .nil) .nil) (.cons (.iff (.cmp .Eq (.bi .len (.cons (.var 5) .nil)) (.glo 4)) (.cons (.rsf 17 (.cons (.bin .Add (.glo 4) (.cst (.int 1))) (.cons (.glo 4) .nil))) .nil) .nil) (.cons (.set 8 (.bi .len (.cons (.comp (.cst (.int 1)) (.cons (.nm 6) (.cons (.nm 7) .nil)) (.seq (.var 5)) (.cons (.call 8 (.cons (.var 6) (.cons (.var 2) .nil)) []) .nil)) .nil))) (.cons (.set 9 (.tup (.cons (.var 4) (.cons (.bin .Add (.bin .Add (.shi (.var 5) (.var 8)) (.tup (.cons (.tup (.cons (.var 2) (.cons (.var 3) .nil))) .nil))) (.slo (.var 5) (.var 8))) .nil)))) (.cons (.set 10 (.bin .Add (.bin .Add (.shi (.fld (.var 0) 0 0) (.var 1)) (.tup (.cons (.var 9) .nil))) (.slo (.fld (.var 0) 0 0) (.bin .Add (.var 1) (.cst (.int 1)))))) (.cons (.iff (.nt (.call 23 (.cons (.mth 0 42 (.var 0) (.cons (.var 10) (.cons (.fld (.var 0) 0 1) .nil)) []) .nil) [])) (.cons (.rsx 8) .nil) .nil) (.cons (.exp (.mth 0 43 (.var 0) (.cons (.var 10) (.cons (.fld (.var 0) 0 1) (.cons (.fld (.var 0) 0 2) .nil))) [])) .nil)))))))))))
def d_Post_sets : Df := { name := "sets", npar := 4, dfl := [], N := ["self", "clock", "moment", "jump", "gain", "ahead", "when", "by", "at", "own", "clocks"], body := b_Post_sets, kw := false, own := some "Post", ini := false }
def b_Post_calls_false : SL := (.cons (.iff (.or (.nt (.call 0 (.cons (.var 1) .nil) [])) (.cmp .NotIn (.var 1) (.comp (.idx (.var 2) (.cst (.int 0))) (.nm 2) (.seq (.fld (.var 0) 0 1)) .nil))) (.cons (.rsx 10) .nil) .nil) (.cons (.set 3 (.bi .tuple (.cons (.comp (.var 2) (.nm 2) (.seq (.fld (.var 0) 0 1)) (.cons (.cmp .NotEq (.idx (.var 2) (.cst (.int 0))) (.var 1)) .nil)) .nil))) (.cons (.exp (.mth 0 43 (.var 0) (.cons (.fld (.var 0) 0 0) (.cons (.var 3) (.cons (.fld (.var 0) 0 2) .nil))) [])) .nil)))
def d_Post_calls_false : Df := { name := "calls_false", npar := 2, dfl := [], N := ["self", "number", "one", "told"], body := b_Post_calls_false, kw := false, own := some "Post", ini := false }
def b_Post_back : SL := (.cons (.iff (.cmp .Eq (.lfd (.var 0) 0) (.lst .nil)) (.cons (.rsx 11) .nil) .nil) (.cons (.nev) .nil))
def d_Post_back : Df := { name := "back", npar := 1, dfl := [], N := ["self"], body := b_Post_back, kw := false, own := some "Post", ini := false }
def b_Post_stretch_at : SL := (.cons (.exp (.call 17 (.cons (.var 1) .nil) [])) (.cons (.iff (.cmp .IsNot (.var 2) (.cst .non)) (.cons (.exp (.call 12 (.cons (.var 2) .nil) [])) .nil) .nil) (.cons (.ret (.mth 0 49 (.var 0) (.cons (.var 1) (.cons (.ite (.cmp .Is (.var 2) (.cst .non)) (.glo 0) (.var 2)) .nil)) [])) .nil)))
def d_Post_stretch_at : Df := { name := "stretch_at", npar := 3, dfl := [.non], N := ["self", "clock", "moment"], body := b_Post_stretch_at, kw := false, own := some "Post", ini := false }
def b_Post_stretch_then : SL := (.cons (.unp (.cons (.nm 3) (.cons (.nm 4) .nil)) (.call 25 (.cons (.mth 0 42 (.var 0) (.cons (.fld (.var 0) 0 0) (.cons (.fld (.var 0) 0 1) .nil)) []) (.cons (.var 1) (.cons (.cst (.int 0)) .nil))) [])) (.cons (.set 5 (.call 14 (.cons (.idx (.fld (.var 0) 0 0) (.var 1)) (.cons (.var 2) .nil)) [])) (.cons (.ret (.tup (.cons (.ite (.cmp .Is (.var 3) (.cst .non)) (.cst .non) (.call 5 (.cons (.var 3) (.cons (.var 5) .nil)) [])) (.cons (.ite (.cmp .Is (.var 4) (.cst .non)) (.cst .non) (.call 5 (.cons (.var 4) (.cons (.var 5) .nil)) [])) .nil)))) .nil)))
def d_Post_stretch_then : Df := { name := "stretch_then", npar := 3, dfl := [], N := ["self", "clock", "moment", "low", "high", "by"], body := b_Post_stretch_then, kw := false, own := some "Post", ini := false }
def b_Post_standing : SL := (.cons (.set 1 (.comp (.idx (.var 2) (.cst (.int 0))) (.nm 2) (.seq (.fld (.var 0) 0 1)) .nil)) (.cons (.ret (.lze (.var 1) (.mth 0 42 (.var 0) (.cons (.fld (.var 0) 0 0) (.cons (.fld (.var 0) 0 1) .nil)) []))) .nil))
def d_Post_standing : Df := { name := "standing", npar := 1, dfl := [], N := ["self", "numbers", "one"], body := b_Post_standing, kw := false, own := some "Post", ini := false }
def b_Post_clock_now : SL := (.cons (.exp (.call 17 (.cons (.var 1) .nil) [])) (.cons (.ret (.idx (.fld (.var 0) 0 0) (.var 1))) .nil))
def d_Post_clock_now : Df := { name := "clock_now", npar := 2, dfl := [], N := ["self", "clock"], body := b_Post_clock_now, kw := false, own := some "Post", ini := false }
def b_Post_error_by : SL := (.cons (.exp (.call 17 (.cons (.var 1) .nil) [])) (.cons (.exp (.call 12 (.cons (.var 2) .nil) [])) (.cons (.iff (.nt (.call 4 (.cons (.var 3) .nil) [])) (.cons (.rsx 4) .nil) .nil) (.cons (.set 4 (.call 6 (.cons (.var 3) (.cons (.call 15 (.cons (.tup (.cons (.tup (.cons (.cst (.int 0)) (.cons (.cst (.int 1)) .nil))) (.cons (.tup .nil) .nil))) (.cons (.var 2) (.cons (.glo 0) .nil))) []) .nil)) [])) (.cons (.unp (.cons (.nm 5) (.cons (.nm 6) .nil)) (.mth 0 49 (.var 0) (.cons (.var 1) (.cons (.var 2) .nil)) [])) (.cons (.iff (.or (.and (.cmp .IsNot (.var 5) (.cst .non)) (.call 8 (.cons (.var 4) (.cons (.var 5) .nil)) [])) (.and (.cmp .IsNot (.var 6) (.cst .non)) (.call 8 (.cons (.var 6) (.cons (.var 4) .nil)) []))) (.cons (.ret (.cst (.str "no"))) .nil) .nil) (.cons (.ret (.var 4)) .nil)))))))
def d_Post_error_by : Df := { name := "error_by", npar := 4, dfl := [], N := ["self", "clock", "moment", "hour", "error", "low", "high"], body := b_Post_error_by, kw := false, own := some "Post", ini := false }
def b_Post___len__ : SL := (.cons (.ret (.bi .len (.cons (.fld (.var 0) 0 1) .nil))) .nil)
def d_Post___len__ : Df := { name := "__len__", npar := 1, dfl := [], N := ["self"], body := b_Post___len__, kw := false, own := some "Post", ini := false }
def pg : Pg := { defs := [d_is_whole, d_is_from_to, d_shared, d_lowest, d_is_part, d_plus, d_minus, d_product, d_below, d_turned, d_is_gain, d_is_moment, d_need_moment, d_jumps_till, d_drift_by, d_shown_by, d_is_clock_number, d_need_clock_number, d_are_bounds, d_steps_of, d_shortest, d_ring_on, d_ring_in, d_together, d_far_from, d_stretch_by, d_need_other_clock, d_are_gains, d_moved, d__law_cell_at, d__law_next, d__law_pen_of, d__law_draw, d__law_made, d__law_sum, d__law_gains, d__law_moments_right, d__law_numbers_right, d__law_rest_right, d__law_full_right, d_law, d_Post___init__, d_Post_taken_back, d_Post_become, d_Post_tells, d_Post_sets, d_Post_calls_false, d_Post_back, d_Post_stretch_at, d_Post_stretch_then, d_Post_standing, d_Post_clock_now, d_Post_error_by, d_Post___len__], cons := [("NOUGHT", .tup [.int 0, .int 1]), ("MOST_GAIN", .tup [.int 12, .int 1]), ("LEAST_GAIN", .tup [.int (-12), .int 1]), ("HOURS", .tup [.int 24, .int 1]), ("MOST_SETS", .int 6), ("CLOCKS", .int 6), ("MOST_STANDING", .int 10)], blt := ["abs", "enumerate", "range", "max", "isinstance", "int", "len", "tuple", "list", "sum", "repr", "bool", "all", "zip"], exc := [("NoPart", "part"), ("NoNumber", "number"), ("NoMoment", "moment"), ("NoClock", "clock"), ("NoHour", "hour"), ("NoTelling", "telling"), ("NoTellings", "tellings"), ("NoRow", "row"), ("Apart", "apart"), ("Twice", "twice"), ("Missing", "missing"), ("NoDeed", "deed"), ("NoAir", "air"), ("NoSignal", "signal"), ("NoQuarrel", "quarrel"), ("NoCarriage", "carriage"), ("NoLine", "line"), ("TooMany", "many"), ("NoText", "text")], rai := [0, 1, 2, 3, 4, 5, 8, 9, 10, 11], raf := [17], lm := true, cls := [⟨"Post", ["clocks", "told", "next_number", "past"], "past"⟩] }
end Law
set_option Elab.async false
set_option linter.all false
set_option maxRecDepth 100000
set_option maxHeartbeats 4000000
namespace Law
open PySem PySem.Spec PyProof.Rows G43
open L2 (V HO Hp SqL SqT upd upd_same upd_ne Cx VK TE TA TS PE PA PS PSs XK Sp Room Vals Inv)
def top (i : Nat) : Stmt := PySem.Challenge.pw_gunclocks_k62_posts_refused.main.body.getD i (.Pass ⟨0, 0, 0, 0⟩)
def clsN : List Str := ["NoPart", "NoNumber", "NoMoment", "NoClock", "NoHour", "NoTelling", "NoTellings", "NoRow", "Apart", "Twice", "Missing", "NoDeed", "NoAir", "NoSignal", "NoQuarrel", "NoCarriage", "NoLine", "TooMany", "NoText"]
/-! ### what the head must tell of the errors -/
def others : List Str := ["ValueError", "LookupError", "TypeError", "ArithmeticError", "RuntimeError"]
def caL (K : PySem.W.Frag) (j : Nat) : Addr := He.ga K (clsN.getD j "")
def xfB (K : PySem.W.Frag) : Bool := ceB K (He.ga K "ClockError") && (oexB K (caL K 17) && decide (PySem.W.findIn K (.ref (caL K 17)) "__init__" = some (some (.ref (He.fAd K ("TooMany", some "__init__"))))) && decide (PySem.W.typeIn K (.ref (He.fAd K ("TooMany", some "__init__"))) = some (.type "function")))
def exB (K : PySem.W.Frag) : Bool := (clsN.all fun x => (He.Fa.glo x).ok K) && (List.range 19).all (fun c => excCB K (caL K c) && (List.range 19).all (fun j => decide (PySem.W.kitOne K (.ref (caL K c)) (.ref (caL K j)) = some (decide (c = j)))) &&
    decide (PySem.W.kitOne K (.ref (caL K c)) (.type "ValueError") = some true) && decide (PySem.W.kitAny K (.ref (caL K c)) [.type "LookupError", .type "TypeError", .type "ArithmeticError", .type "RuntimeError"] = some false) &&
    decide (PySem.W.exmOne K (.ref (caL K c)) (.ref (He.ga K "ClockError")) = some true) && (fldN c).all (fun f => decide (PySem.W.findIn K (.ref (caL K c)) f = some none))) && (He.Fa.glo "ClockError").ok K && (others.all fun x => (He.Fa.free x).ok K) && (He.Fa.free "isinstance").ok K && (He.Fa.glo "_law_flags").ok K && (He.Fa.glo "_law_word").ok K && xfB K
def t__law_flags : He.DefD := ⟨("_law_flags", none), "_law_flags", "_law_flags", L2.defArgs (top 72), L2.defBody (top 72), L2.defScope (top 72), [], []⟩
def t__law_word : He.DefD := ⟨("_law_word", none), "_law_word", "_law_word", L2.defArgs (top 73), L2.defBody (top 73), L2.defScope (top 73), [], []⟩
def t_TooMany : He.DefD := ⟨("TooMany", some "__init__"), "__init__", "TooMany.__init__", L2.defArgs (L2.inClass (top 20) 0), L2.defBody (L2.inClass (top 20) 0), L2.defScope (L2.inClass (top 20) 0), [], []⟩
def fn2 : List He.DefD := [t__law_flags, t__law_word, t_TooMany]
end Law
set_option Elab.async false
set_option linter.all false
set_option maxRecDepth 100000
set_option maxHeartbeats 0
namespace Law
open PySem G43
/-! ### the text -/
def t_is_whole : He.DefD := ⟨("is_whole", none), "is_whole", "is_whole", L2.defArgs (top 24), L2.defBody (top 24), L2.defScope (top 24), [], []⟩
def t_is_from_to : He.DefD := ⟨("is_from_to", none), "is_from_to", "is_from_to", L2.defArgs (top 25), L2.defBody (top 25), L2.defScope (top 25), [], []⟩
def t_shared : He.DefD := ⟨("shared", none), "shared", "shared", L2.defArgs (top 26), L2.defBody (top 26), L2.defScope (top 26), [], []⟩
def t_lowest : He.DefD := ⟨("lowest", none), "lowest", "lowest", L2.defArgs (top 27), L2.defBody (top 27), L2.defScope (top 27), [], []⟩
def t_is_part : He.DefD := ⟨("is_part", none), "is_part", "is_part", L2.defArgs (top 28), L2.defBody (top 28), L2.defScope (top 28), [], []⟩
def t_plus : He.DefD := ⟨("plus", none), "plus", "plus", L2.defArgs (top 29), L2.defBody (top 29), L2.defScope (top 29), [], []⟩
def t_minus : He.DefD := ⟨("minus", none), "minus", "minus", L2.defArgs (top 30), L2.defBody (top 30), L2.defScope (top 30), [], []⟩
def t_product : He.DefD := ⟨("product", none), "product", "product", L2.defArgs (top 31), L2.defBody (top 31), L2.defScope (top 31), [], []⟩
def t_below : He.DefD := ⟨("below", none), "below", "below", L2.defArgs (top 32), L2.defBody (top 32), L2.defScope (top 32), [], []⟩
def t_turned : He.DefD := ⟨("turned", none), "turned", "turned", L2.defArgs (top 33), L2.defBody (top 33), L2.defScope (top 33), [], []⟩
def t_is_gain : He.DefD := ⟨("is_gain", none), "is_gain", "is_gain", L2.defArgs (top 39), L2.defBody (top 39), L2.defScope (top 39), [], []⟩
def t_is_moment : He.DefD := ⟨("is_moment", none), "is_moment", "is_moment", L2.defArgs (top 40), L2.defBody (top 40), L2.defScope (top 40), [], []⟩
def t_need_moment : He.DefD := ⟨("need_moment", none), "need_moment", "need_moment", L2.defArgs (top 41), L2.defBody (top 41), L2.defScope (top 41), [], []⟩
def t_jumps_till : He.DefD := ⟨("jumps_till", none), "jumps_till", "jumps_till", L2.defArgs (top 42), L2.defBody (top 42), L2.defScope (top 42), [], []⟩
def t_drift_by : He.DefD := ⟨("drift_by", none), "drift_by", "drift_by", L2.defArgs (top 43), L2.defBody (top 43), L2.defScope (top 43), [], []⟩
def t_shown_by : He.DefD := ⟨("shown_by", none), "shown_by", "shown_by", L2.defArgs (top 44), L2.defBody (top 44), L2.defScope (top 44), [], []⟩
def t_is_clock_number : He.DefD := ⟨("is_clock_number", none), "is_clock_number", "is_clock_number", L2.defArgs (top 47), L2.defBody (top 47), L2.defScope (top 47), [], []⟩
def t_need_clock_number : He.DefD := ⟨("need_clock_number", none), "need_clock_number", "need_clock_number", L2.defArgs (top 48), L2.defBody (top 48), L2.defScope (top 48), [], []⟩
def t_are_bounds : He.DefD := ⟨("are_bounds", none), "are_bounds", "are_bounds", L2.defArgs (top 49), L2.defBody (top 49), L2.defScope (top 49), [], []⟩
def t_steps_of : He.DefD := ⟨("steps_of", none), "steps_of", "steps_of", L2.defArgs (top 50), L2.defBody (top 50), L2.defScope (top 50), [], []⟩
def t_shortest : He.DefD := ⟨("shortest", none), "shortest", "shortest", L2.defArgs (top 52), L2.defBody (top 52), L2.defScope (top 52), [], []⟩
def t_ring_on : He.DefD := ⟨("ring_on", none), "ring_on", "ring_on", L2.defArgs (top 53), L2.defBody (top 53), L2.defScope (top 53), [], []⟩
def t_ring_in : He.DefD := ⟨("ring_in", none), "ring_in", "ring_in", L2.defArgs (top 54), L2.defBody (top 54), L2.defScope (top 54), [], []⟩
def t_together : He.DefD := ⟨("together", none), "together", "together", L2.defArgs (top 55), L2.defBody (top 55), L2.defScope (top 55), [], []⟩
def t_far_from : He.DefD := ⟨("far_from", none), "far_from", "far_from", L2.defArgs (top 56), L2.defBody (top 56), L2.defScope (top 56), [], []⟩
def t_stretch_by : He.DefD := ⟨("stretch_by", none), "stretch_by", "stretch_by", L2.defArgs (top 57), L2.defBody (top 57), L2.defScope (top 57), [], []⟩
def t_need_other_clock : He.DefD := ⟨("need_other_clock", none), "need_other_clock", "need_other_clock", L2.defArgs (top 58), L2.defBody (top 58), L2.defScope (top 58), [], []⟩
def t_are_gains : He.DefD := ⟨("are_gains", none), "are_gains", "are_gains", L2.defArgs (top 61), L2.defBody (top 61), L2.defScope (top 61), [], []⟩
def t_moved : He.DefD := ⟨("moved", none), "moved", "moved", L2.defArgs (top 62), L2.defBody (top 62), L2.defScope (top 62), [], []⟩
def t__law_cell_at : He.DefD := ⟨("_law_cell_at", none), "_law_cell_at", "_law_cell_at", L2.defArgs (top 65), L2.defBody (top 65), L2.defScope (top 65), [], []⟩
def t__law_next : He.DefD := ⟨("_law_next", none), "_law_next", "_law_next", L2.defArgs (top 66), L2.defBody (top 66), L2.defScope (top 66), [], []⟩
def t__law_pen_of : He.DefD := ⟨("_law_pen_of", none), "_law_pen_of", "_law_pen_of", L2.defArgs (top 67), L2.defBody (top 67), L2.defScope (top 67), [], []⟩
def t__law_draw : He.DefD := ⟨("_law_draw", none), "_law_draw", "_law_draw", L2.defArgs (top 68), L2.defBody (top 68), L2.defScope (top 68), [], []⟩
def t__law_made : He.DefD := ⟨("_law_made", none), "_law_made", "_law_made", L2.defArgs (top 69), L2.defBody (top 69), L2.defScope (top 69), [], []⟩
def t__law_sum : He.DefD := ⟨("_law_sum", none), "_law_sum", "_law_sum", L2.defArgs (top 70), L2.defBody (top 70), L2.defScope (top 70), [], []⟩
def t__law_gains : He.DefD := ⟨("_law_gains", none), "_law_gains", "_law_gains", L2.defArgs (top 71), L2.defBody (top 71), L2.defScope (top 71), [], []⟩
def t__law_moments_right : He.DefD := ⟨("_law_moments_right", none), "_law_moments_right", "_law_moments_right", L2.defArgs (top 74), L2.defBody (top 74), L2.defScope (top 74), [], []⟩
def t__law_numbers_right : He.DefD := ⟨("_law_numbers_right", none), "_law_numbers_right", "_law_numbers_right", L2.defArgs (top 75), L2.defBody (top 75), L2.defScope (top 75), [], []⟩
def t__law_rest_right : He.DefD := ⟨("_law_rest_right", none), "_law_rest_right", "_law_rest_right", L2.defArgs (top 76), L2.defBody (top 76), L2.defScope (top 76), [], []⟩
def t__law_full_right : He.DefD := ⟨("_law_full_right", none), "_law_full_right", "_law_full_right", L2.defArgs (top 77), L2.defBody (top 77), L2.defScope (top 77), [], []⟩
def t_law : He.DefD := ⟨("law", none), "law", "law", L2.defArgs (top 78), L2.defBody (top 78), L2.defScope (top 78), [], []⟩
def t_Post___init__ : He.DefD := ⟨("Post", some "__init__"), "__init__", "Post.__init__", L2.defArgs (L2.inClass (top 63) 0), L2.defBody (L2.inClass (top 63) 0), L2.defScope (L2.inClass (top 63) 0), [], []⟩
def t_Post_taken_back : He.DefD := ⟨("Post", some "taken_back"), "taken_back", "Post.taken_back", L2.defArgs (L2.inClass (top 63) 1), L2.defBody (L2.inClass (top 63) 1), L2.defScope (L2.inClass (top 63) 1), [], []⟩
def t_Post_become : He.DefD := ⟨("Post", some "become"), "become", "Post.become", L2.defArgs (L2.inClass (top 63) 2), L2.defBody (L2.inClass (top 63) 2), L2.defScope (L2.inClass (top 63) 2), [], []⟩
def t_Post_tells : He.DefD := ⟨("Post", some "tells"), "tells", "Post.tells", L2.defArgs (L2.inClass (top 63) 3), L2.defBody (L2.inClass (top 63) 3), L2.defScope (L2.inClass (top 63) 3), [.non, .non], []⟩
def t_Post_sets : He.DefD := ⟨("Post", some "sets"), "sets", "Post.sets", L2.defArgs (L2.inClass (top 63) 4), L2.defBody (L2.inClass (top 63) 4), L2.defScope (L2.inClass (top 63) 4), [], []⟩
def t_Post_calls_false : He.DefD := ⟨("Post", some "calls_false"), "calls_false", "Post.calls_false", L2.defArgs (L2.inClass (top 63) 5), L2.defBody (L2.inClass (top 63) 5), L2.defScope (L2.inClass (top 63) 5), [], []⟩
def t_Post_back : He.DefD := ⟨("Post", some "back"), "back", "Post.back", L2.defArgs (L2.inClass (top 63) 6), L2.defBody (L2.inClass (top 63) 6), L2.defScope (L2.inClass (top 63) 6), [], []⟩
def t_Post_stretch_at : He.DefD := ⟨("Post", some "stretch_at"), "stretch_at", "Post.stretch_at", L2.defArgs (L2.inClass (top 63) 7), L2.defBody (L2.inClass (top 63) 7), L2.defScope (L2.inClass (top 63) 7), [.non], []⟩
def t_Post_stretch_then : He.DefD := ⟨("Post", some "stretch_then"), "stretch_then", "Post.stretch_then", L2.defArgs (L2.inClass (top 63) 8), L2.defBody (L2.inClass (top 63) 8), L2.defScope (L2.inClass (top 63) 8), [], []⟩
def t_Post_standing : He.DefD := ⟨("Post", some "standing"), "standing", "Post.standing", L2.defArgs (L2.inClass (top 63) 9), L2.defBody (L2.inClass (top 63) 9), L2.defScope (L2.inClass (top 63) 9), [], []⟩
def t_Post_clock_now : He.DefD := ⟨("Post", some "clock_now"), "clock_now", "Post.clock_now", L2.defArgs (L2.inClass (top 63) 10), L2.defBody (L2.inClass (top 63) 10), L2.defScope (L2.inClass (top 63) 10), [], []⟩
def t_Post_error_by : He.DefD := ⟨("Post", some "error_by"), "error_by", "Post.error_by", L2.defArgs (L2.inClass (top 63) 12), L2.defBody (L2.inClass (top 63) 12), L2.defScope (L2.inClass (top 63) 12), [], []⟩
def t_Post___len__ : He.DefD := ⟨("Post", some "__len__"), "__len__", "Post.__len__", L2.defArgs (L2.inClass (top 63) 13), L2.defBody (L2.inClass (top 63) 13), L2.defScope (L2.inClass (top 63) 13), [], []⟩
def fn : List He.DefD := [t_is_whole, t_is_from_to, t_shared, t_lowest, t_is_part, t_plus, t_minus, t_product, t_below, t_turned, t_is_gain, t_is_moment, t_need_moment, t_jumps_till, t_drift_by, t_shown_by, t_is_clock_number, t_need_clock_number, t_are_bounds, t_steps_of, t_shortest, t_ring_on, t_ring_in, t_together, t_far_from, t_stretch_by, t_need_other_clock, t_are_gains, t_moved, t__law_cell_at, t__law_next, t__law_pen_of, t__law_draw, t__law_made, t__law_sum, t__law_gains, t__law_moments_right, t__law_numbers_right, t__law_rest_right, t__law_full_right, t_law, t_Post___init__, t_Post_taken_back, t_Post_become, t_Post_tells, t_Post_sets, t_Post_calls_false, t_Post_back, t_Post_stretch_at, t_Post_stretch_then, t_Post_standing, t_Post_clock_now, t_Post_error_by, t_Post___len__]
/-! ### the same in the small language -/
/-! ### they say the same -/
/-! ### the head -/
def nm0 : List PySem.Str := ["_wall", "ClockError", "NoPart", "NoNumber", "NoMoment", "NoClock", "NoHour", "NoTelling", "NoTellings", "NoRow", "Apart", "Twice", "Missing", "NoDeed", "NoAir", "NoSignal", "NoQuarrel", "NoCarriage", "NoLine", "TooMany", "NoText", "NOUGHT", "is_whole", "is_from_to", "shared", "lowest", "is_part", "plus", "minus", "product"]
def nm1 : List PySem.Str := ["below", "turned", "MOST_GAIN", "LEAST_GAIN", "HOURS", "MOST_SETS", "is_gain", "is_moment", "need_moment", "jumps_till", "drift_by", "shown_by", "CLOCKS", "is_clock_number", "need_clock_number", "are_bounds", "steps_of", "shortest", "ring_on", "ring_in", "together", "far_from", "stretch_by", "need_other_clock", "MOST_STANDING", "are_gains", "moved", "Post", "_law_cell_at", "_law_next"]
def nm2 : List PySem.Str := ["_law_pen_of", "_law_draw", "_law_made", "_law_sum", "_law_gains", "_law_flags", "_law_word", "_law_moments_right", "_law_numbers_right", "_law_rest_right", "_law_full_right"]
def names : List PySem.Str := nm0 ++ nm1 ++ nm2
def asF (_ : Addr → Option Obj) : List Addr := [3, 6, 4, 21, 31, 44, 56, 68, 80, 92, 104, 116, 128, 140, 152, 164, 176, 188, 200, 212, 224, 236, 255, 274, 277, 284, 291, 298, 305, 312, 319, 326, 333, 340, 347, 348, 349, 350, 357, 364, 371, 378, 385, 392, 399, 406, 413, 420, 427, 434, 441, 448, 455, 462, 469, 474, 481, 595, 606, 613, 620, 627, 634, 641, 648, 655, 662, 669, 676, 683, 688, 693, 0, 20, 30, 43, 55, 67, 79, 91, 103, 115, 127, 139, 151, 163, 175, 187, 199, 211, 223, 235, 254, 273, 283, 290, 297, 304, 311, 318, 325, 332, 339, 346, 356, 363, 370, 377, 384, 391, 398, 405, 412, 419, 426, 433, 440, 447, 454, 461, 468, 473, 480, 594, 605, 612, 619, 626, 633, 640, 647, 654, 661, 668, 675, 682, 687, 692, 15, 16, 17, 18, 19, 29, 32, 42, 54, 66, 78, 90, 102, 114, 126, 138, 150, 162, 174, 186, 198, 210, 222, 234, 252, 253, 271, 272, 278, 279, 280, 281, 282, 285, 286, 287, 288, 289, 292, 293, 294, 295, 296, 299, 300, 301, 302, 303, 306, 307, 308, 309, 310, 313, 314, 315, 316, 317, 320, 321, 322, 323, 324, 327, 328, 329, 330, 331, 334, 335, 336, 337, 338, 341, 342, 343, 344, 345, 351, 352, 353, 354, 355, 358, 359, 360, 361, 362, 365, 366, 367, 368, 369, 372, 373, 374, 375, 376, 379, 380, 381, 382, 383, 386, 387, 388, 389, 390, 393, 394, 395, 396, 397, 400, 401, 402, 403, 404, 407, 408, 409, 410, 411, 414, 415, 416, 417, 418, 421, 422, 423, 424, 425, 428, 429, 430, 431, 432, 435, 436, 437, 438, 439, 442, 443, 444, 445, 446, 449, 450, 451, 452, 453, 456, 457, 458, 459, 460, 463, 464, 465, 466, 467, 470, 471, 472, 475, 476, 477, 478, 479, 493, 500, 507, 515, 520, 525, 532, 540, 547, 552, 559, 566, 573, 580, 587, 592, 593, 596, 597, 600, 601, 602, 603, 604, 607, 608, 609, 610, 611, 614, 615, 616, 617, 618, 621, 622, 623, 624, 625, 628, 629, 630, 631, 632, 635, 636, 637, 638, 639, 642, 643, 644, 645, 646, 649, 650, 651, 652, 653, 656, 657, 658, 659, 660, 663, 664, 665, 666, 667, 670, 671, 672, 673, 674, 677, 678, 679, 680, 681, 684, 685, 686, 689, 690, 691, 251, 270, 492, 499, 506, 514, 508, 519, 524, 531, 539, 533, 546, 551, 558, 565, 572, 579, 586, 591, 2]
def obI (s : PySem.W.SharedT) : Ob := seeP asF pg (fn ++ fn2) exB (HandSHeadRun.getT s)
abbrev qv : Program := PySem.W.view R.prog [78]
def KI (s : PySem.W.SharedT) : PySem.W.Frag := He.frT (HandSHeadRun.getT s) (asF (HandSHeadRun.getT s))
theorem runU0 (w : World) (os : OsState) : (HandSHeadRun.endF (HandSHeadRun.stepQ (HandSHeadRun.denQ HandSHeadRun.tabQ) R.prog w) 60000 R.prog w os).map (fun s => (((HandSHeadRun.looksF R.prog (PySem.W.boot_heap w.params) s.abs, HandSHeadRun.seenQ qv names (PySem.importedModules R.prog.main.body) (fun s => PySem.W.xlAt qv [] s && PySem.W.recOk R.toRowW.records s) s.abs)), ((((fn ++ fn2).take 29).all fun d => d.ok (KI s), ((fn ++ fn2).take 29).map fun d => He.fnW (KI s) d.at_)))) = some (((true, PySem.W.openGood qv names)), ((true, ((fn ++ fn2).take 29).map He.DefD.val))) := by kernel_rfl
theorem runU1 (w : World) (os : OsState) : (HandSHeadRun.endF (HandSHeadRun.stepQ (HandSHeadRun.denQ HandSHeadRun.tabQ) R.prog w) 60000 R.prog w os).map (fun s => (((pg.defs.all (fun d => d.own.isSome || (He.Fa.glo d.name).ok (KI s)) && pg.blt.all (fun x => (He.Fa.free x).ok (KI s)) && pg.cons.all (conB (KI s))) && ((pg.rai.all fun c => match pg.exc[c]? with | some w => (He.Fa.glo w.1).ok (KI s) && (He.Fa.exc w.1).ok (KI s) | none => true) && ((exB (KI s))))), ((((fn ++ fn2).drop 29).all fun d => d.ok (KI s), ((fn ++ fn2).drop 29).map fun d => He.fnW (KI s) d.at_)))) = some ((true), ((true, ((fn ++ fn2).drop 29).map He.DefD.val))) := by kernel_rfl
theorem runU2 (w : World) (os : OsState) : (HandSHeadRun.endF (HandSHeadRun.stepQ (HandSHeadRun.denQ HandSHeadRun.tabQ) R.prog w) 60000 R.prog w os).map (fun s => ((numsK (tOf pg (KI s)) apartB), ((pg.cls.all (clsB (KI s))) && ((pg.defs.all (metB (KI s) pg)) && ((pg.dcs.all (dicB (KI s))) && ((nfB (KI s) pg) && (((obI s).1.2)))))))) = some ((true), (true)) := by kernel_rfl
theorem runA (w : World) (os : OsState) : (HandSHeadRun.endF (HandSHeadRun.stepQ (HandSHeadRun.denQ HandSHeadRun.tabQ) R.prog w) 60000 R.prog w os).map (fun s => (HandSHeadRun.looksF R.prog (PySem.W.boot_heap w.params) s.abs, HandSHeadRun.seenQ qv names (PySem.importedModules R.prog.main.body) (fun s => PySem.W.xlAt qv [] s && PySem.W.recOk R.toRowW.records s) s.abs)) = some (true, PySem.W.openGood qv names) := map_p1 (runU0 w os)
theorem runM1 (w : World) (os : OsState) : (HandSHeadRun.endF (HandSHeadRun.stepQ (HandSHeadRun.denQ HandSHeadRun.tabQ) R.prog w) 60000 R.prog w os).map (fun s => (pg.defs.all (fun d => d.own.isSome || (He.Fa.glo d.name).ok (KI s)) && pg.blt.all (fun x => (He.Fa.free x).ok (KI s)) && pg.cons.all (conB (KI s))) && ((pg.rai.all fun c => match pg.exc[c]? with | some w => (He.Fa.glo w.1).ok (KI s) && (He.Fa.exc w.1).ok (KI s) | none => true) && ((exB (KI s))))) = some true := map_p1 (runU1 w os)
theorem runBa (w : World) (os : OsState) : (HandSHeadRun.endF (HandSHeadRun.stepQ (HandSHeadRun.denQ HandSHeadRun.tabQ) R.prog w) 60000 R.prog w os).map (fun s => pg.defs.all (fun d => d.own.isSome || (He.Fa.glo d.name).ok (KI s)) && pg.blt.all (fun x => (He.Fa.free x).ok (KI s)) && pg.cons.all (conB (KI s))) = some true := map_l (runM1 w os)
theorem runP1 (w : World) (os : OsState) : (HandSHeadRun.endF (HandSHeadRun.stepQ (HandSHeadRun.denQ HandSHeadRun.tabQ) R.prog w) 60000 R.prog w os).map (fun s => (((fn ++ fn2).take 29).all fun d => d.ok (KI s), ((fn ++ fn2).take 29).map fun d => He.fnW (KI s) d.at_)) = some (true, ((fn ++ fn2).take 29).map He.DefD.val) := map_p2 (runU0 w os)
theorem runBp (w : World) (os : OsState) : (HandSHeadRun.endF (HandSHeadRun.stepQ (HandSHeadRun.denQ HandSHeadRun.tabQ) R.prog w) 60000 R.prog w os).map (fun s => ((fn ++ fn2).take 29).all fun d => d.ok (KI s)) = some true := map_p1 (runP1 w os)
theorem runP2 (w : World) (os : OsState) : (HandSHeadRun.endF (HandSHeadRun.stepQ (HandSHeadRun.denQ HandSHeadRun.tabQ) R.prog w) 60000 R.prog w os).map (fun s => (((fn ++ fn2).drop 29).all fun d => d.ok (KI s), ((fn ++ fn2).drop 29).map fun d => He.fnW (KI s) d.at_)) = some (true, ((fn ++ fn2).drop 29).map He.DefD.val) := map_p2 (runU1 w os)
theorem runBq (w : World) (os : OsState) : (HandSHeadRun.endF (HandSHeadRun.stepQ (HandSHeadRun.denQ HandSHeadRun.tabQ) R.prog w) 60000 R.prog w os).map (fun s => ((fn ++ fn2).drop 29).all fun d => d.ok (KI s)) = some true := map_p1 (runP2 w os)
theorem runBb (w : World) (os : OsState) : (HandSHeadRun.endF (HandSHeadRun.stepQ (HandSHeadRun.denQ HandSHeadRun.tabQ) R.prog w) 60000 R.prog w os).map (fun s => (fn ++ fn2).all fun d => d.ok (KI s)) = some true := map_parts (f := fun s d => He.DefD.ok (KI s) d) (runBp w os) (runBq w os)
theorem runBc (w : World) (os : OsState) : (HandSHeadRun.endF (HandSHeadRun.stepQ (HandSHeadRun.denQ HandSHeadRun.tabQ) R.prog w) 60000 R.prog w os).map (fun s => pg.rai.all fun c => match pg.exc[c]? with | some w => (He.Fa.glo w.1).ok (KI s) && (He.Fa.exc w.1).ok (KI s) | none => true) = some true := map_l (map_r (runM1 w os))
theorem runB1 (w : World) (os : OsState) : (HandSHeadRun.endF (HandSHeadRun.stepQ (HandSHeadRun.denQ HandSHeadRun.tabQ) R.prog w) 60000 R.prog w os).map (fun s => facBa (KI s) pg (fn ++ fn2)) = some true := map_and (map_and (runBa w os) (runBb w os)) (runBc w os)
theorem runBn (w : World) (os : OsState) : (HandSHeadRun.endF (HandSHeadRun.stepQ (HandSHeadRun.denQ HandSHeadRun.tabQ) R.prog w) 60000 R.prog w os).map (fun s => numsK (tOf pg (KI s)) apartB) = some true := map_p1 (runU2 w os)
theorem runB2 (w : World) (os : OsState) : (HandSHeadRun.endF (HandSHeadRun.stepQ (HandSHeadRun.denQ HandSHeadRun.tabQ) R.prog w) 60000 R.prog w os).map (fun s => facBb (KI s) pg) = some true := map_facBb (K := KI) (runBn w os)
theorem runB3 (w : World) (os : OsState) : (HandSHeadRun.endF (HandSHeadRun.stepQ (HandSHeadRun.denQ HandSHeadRun.tabQ) R.prog w) 60000 R.prog w os).map (fun s => exB (KI s)) = some true := (map_r (map_r (runM1 w os)))
theorem runM2 (w : World) (os : OsState) : (HandSHeadRun.endF (HandSHeadRun.stepQ (HandSHeadRun.denQ HandSHeadRun.tabQ) R.prog w) 60000 R.prog w os).map (fun s => (pg.cls.all (clsB (KI s))) && ((pg.defs.all (metB (KI s) pg)) && ((pg.dcs.all (dicB (KI s))) && ((nfB (KI s) pg) && (((obI s).1.2)))))) = some true := map_p2 (runU2 w os)
theorem runB4a (w : World) (os : OsState) : (HandSHeadRun.endF (HandSHeadRun.stepQ (HandSHeadRun.denQ HandSHeadRun.tabQ) R.prog w) 60000 R.prog w os).map (fun s => pg.cls.all (clsB (KI s))) = some true := map_l (runM2 w os)
theorem runB4b (w : World) (os : OsState) : (HandSHeadRun.endF (HandSHeadRun.stepQ (HandSHeadRun.denQ HandSHeadRun.tabQ) R.prog w) 60000 R.prog w os).map (fun s => pg.defs.all (metB (KI s) pg)) = some true := map_l (map_r (runM2 w os))
theorem runB4c (w : World) (os : OsState) : (HandSHeadRun.endF (HandSHeadRun.stepQ (HandSHeadRun.denQ HandSHeadRun.tabQ) R.prog w) 60000 R.prog w os).map (fun s => pg.dcs.all (dicB (KI s))) = some true := map_l (map_r (map_r (runM2 w os)))
theorem runB4d (w : World) (os : OsState) : (HandSHeadRun.endF (HandSHeadRun.stepQ (HandSHeadRun.denQ HandSHeadRun.tabQ) R.prog w) 60000 R.prog w os).map (fun s => nfB (KI s) pg) = some true := map_l (map_r (map_r (map_r (runM2 w os))))
theorem runB4 (w : World) (os : OsState) : (HandSHeadRun.endF (HandSHeadRun.stepQ (HandSHeadRun.denQ HandSHeadRun.tabQ) R.prog w) 60000 R.prog w os).map (fun s => facBc (KI s) pg) = some true := map_and (map_and (map_and (runB4a w os) (runB4b w os)) (runB4c w os)) (runB4d w os)
theorem runD (w : World) (os : OsState) : (HandSHeadRun.endF (HandSHeadRun.stepQ (HandSHeadRun.denQ HandSHeadRun.tabQ) R.prog w) 60000 R.prog w os).map (fun s => (obI s).2) = some (dicsV pg w) := runD_no (runB2 w os) rfl
theorem runB (w : World) (os : OsState) : (HandSHeadRun.endF (HandSHeadRun.stepQ (HandSHeadRun.denQ HandSHeadRun.tabQ) R.prog w) 60000 R.prog w os).map (fun s => (obI s).1.1.1) = some true := map_and (map_and (map_and (runB1 w os) (runB2 w os)) (runB4 w os)) (runB3 w os)
theorem runC_of {α : Type} {x : Option α} {K : α → PySem.W.Frag} {tb : α → Bool} {fa fb : List He.DefD} (h1 : x.map (fun s => fa.map fun d => He.fnW (K s) d.at_) = some (fa.map He.DefD.val)) (h2 : x.map (fun s => fb.map fun d => He.fnW (K s) d.at_) = some (fb.map He.DefD.val)) (h3 : x.map tb = some true) :
    x.map (fun s => ((fa ++ fb).map fun d => He.fnW (K s) d.at_, tb s)) = some ((fa ++ fb).map He.DefD.val, true) := by
  cases x with
  | none => cases h1
  | some s =>
    have a := Option.some.inj h1
    have b := Option.some.inj h2
    have c := Option.some.inj h3
    show some ((fa ++ fb).map (fun d => He.fnW (K s) d.at_), tb s) = _
    dsimp only at a b c
    rw [List.map_append, List.map_append, a, b, c]
def fnA : List He.DefD := (fn ++ fn2).take 29
def fnB : List He.DefD := (fn ++ fn2).drop 29
theorem fn_ab : fnA ++ fnB = fn ++ fn2 := List.take_append_drop _ _
theorem runC1 (w : World) (os : OsState) : (HandSHeadRun.endF (HandSHeadRun.stepQ (HandSHeadRun.denQ HandSHeadRun.tabQ) R.prog w) 60000 R.prog w os).map (fun s => fnA.map fun d => He.fnW (KI s) d.at_) = some (fnA.map He.DefD.val) := map_p2 (runP1 w os)
theorem runC2 (w : World) (os : OsState) : (HandSHeadRun.endF (HandSHeadRun.stepQ (HandSHeadRun.denQ HandSHeadRun.tabQ) R.prog w) 60000 R.prog w os).map (fun s => fnB.map fun d => He.fnW (KI s) d.at_) = some (fnB.map He.DefD.val) := map_p2 (runP2 w os)
theorem runC3 (w : World) (os : OsState) : (HandSHeadRun.endF (HandSHeadRun.stepQ (HandSHeadRun.denQ HandSHeadRun.tabQ) R.prog w) 60000 R.prog w os).map (fun s => (obI s).1.2) = some true := (map_r (map_r (map_r (map_r (runM2 w os)))))
theorem runC (w : World) (os : OsState) : (HandSHeadRun.endF (HandSHeadRun.stepQ (HandSHeadRun.denQ HandSHeadRun.tabQ) R.prog w) 60000 R.prog w os).map (fun s => ((obI s).1.1.2, (obI s).1.2)) = some ((valP (fn ++ fn2)).2, true) := by
  have q := runC_of (runC1 w os) (runC2 w os) (runC3 w os)
  rw [fn_ab] at q
  exact q
end Law
namespace Law
open PySem PySem.W PySem.Calls PyProof.Rows
set_option maxHeartbeats 0
theorem f_k1 : R.wellSaid = true := by k_qdec
theorem f_bare : R.prog.bare := ⟨rfl, rfl, rfl, rfl, rfl, by decide +kernel⟩
theorem f_hw : R.toRowW.promised := by w_witness2
theorem law_of (h : R.Holds) : PySem.Challenge.rw_gunclocks_k62_posts_refused.Holds := by
  w_on; o_law
  exact h
end Law
set_option Elab.async false
set_option linter.all false
set_option maxRecDepth 100000
set_option maxHeartbeats 4000000
set_option Elab.async false
set_option linter.all false
set_option maxRecDepth 100000
set_option maxHeartbeats 4000000
set_option Elab.async false
set_option linter.all false
set_option maxRecDepth 100000
set_option maxHeartbeats 4000000
set_option Elab.async false
set_option linter.all false
set_option maxRecDepth 100000
set_option maxHeartbeats 4000000
set_option Elab.async false
set_option linter.all false
set_option maxRecDepth 100000
set_option maxHeartbeats 4000000
set_option Elab.async false
set_option linter.all false
set_option maxRecDepth 100000
set_option maxHeartbeats 4000000
set_option Elab.async false
set_option linter.all false
set_option maxRecDepth 100000
set_option maxHeartbeats 4000000
set_option Elab.async false
set_option linter.all false
set_option maxRecDepth 100000
set_option maxHeartbeats 4000000
set_option Elab.async false
set_option linter.all false
set_option maxRecDepth 100000
set_option maxHeartbeats 4000000
set_option Elab.async false
set_option linter.all false
set_option maxRecDepth 100000
set_option maxHeartbeats 4000000
set_option Elab.async false
set_option linter.all false
set_option maxRecDepth 100000
set_option maxHeartbeats 4000000
set_option Elab.async false
set_option linter.all false
set_option maxRecDepth 100000
set_option maxHeartbeats 4000000
set_option Elab.async false
set_option linter.all false
set_option maxRecDepth 100000
set_option maxHeartbeats 400000
set_option Elab.async false
set_option linter.all false
set_option maxRecDepth 100000
set_option maxHeartbeats 4000000
set_option Elab.async false
set_option linter.all false
set_option maxRecDepth 100000
set_option maxHeartbeats 4000000
set_option Elab.async false
set_option linter.all false
set_option maxRecDepth 100000
set_option maxHeartbeats 4000000
set_option Elab.async false
set_option linter.all false
set_option maxRecDepth 100000
set_option maxHeartbeats 4000000
set_option Elab.async false
set_option linter.all false
set_option maxRecDepth 100000
set_option maxHeartbeats 4000000
set_option Elab.async false
set_option linter.all false
set_option maxRecDepth 100000
set_option maxHeartbeats 4000000
set_option Elab.async false
set_option linter.all false
set_option maxRecDepth 100000
set_option maxHeartbeats 4000000
set_option Elab.async false
set_option linter.all false
set_option maxRecDepth 100000
set_option maxHeartbeats 4000000
set_option Elab.async false
set_option linter.all false
set_option maxRecDepth 100000
set_option maxHeartbeats 4000000
set_option Elab.async false
set_option linter.all false
set_option maxRecDepth 100000
set_option maxHeartbeats 4000000
set_option Elab.async false
set_option linter.all false
set_option maxRecDepth 100000
set_option maxHeartbeats 4000000
set_option Elab.async false
set_option linter.all false
set_option maxRecDepth 100000
set_option maxHeartbeats 0
set_option Elab.async false
set_option linter.all false
set_option maxRecDepth 100000
set_option maxHeartbeats 0
open PySem PySem.W PySem.Calls PyProof.Rows
end
set_option Elab.async false
set_option linter.all false
set_option maxRecDepth 100000
set_option maxHeartbeats 0
namespace Law
open PySem PySem.W PySem.Calls PyProof.Rows
end Law
set_option Elab.async false
set_option linter.all false
set_option maxRecDepth 100000
set_option maxHeartbeats 4000000
namespace G43
open PySem
/-! ### values without addresses -/
/-! ### the small language -/
def EL.words : EL → EL
  | .nil => .nil
  | .cons e r => .cons (.word e) r.words
def wlsE (es : EL) : Option E → E
  | none => .lst es.words
  | some r => .cmp .Eq (.lst es.words) r
/-! ### equality, reading -/
def putN (fs : List PV) (t : Nat) (p : PV) : List PV := if t < fs.length then fs.set t p else fs ++ [p]
def isC (k : Nat) : RV → Option Bool
  | .pv (.obj k' _) => some (decide (k' = k))
  | .ob k' _ _ => some (decide (k' = k))
  | .ref _ => some false
  | .pv .non => some false
  | .pv (.bl _) => some false
  | .pv (.int _) => some false
  | .pv (.str _) => some false
  | .pv (.tup _) => some false
  | .pv (.lst _) => some false
  | .pv (.dct _) => some false
  | _ => none
/-- the cells of a list of lists, and these let go -/
def rowsAt (h : Hs) : List Nat → Option (List (List PV))
  | [] => some []
  | i :: r => match h[i]? with
    | some (some c) => (rowsAt h r).map (c :: ·)
    | _ => none
def dropAll : List Nat → Hs → Hs
  | [], h => h
  | i :: r, h => dropAll r (h.set i none)
def itemV (h : Hs) : IT → Option PV
  | .p q => some q
  | .o _ _ _ => none
  | .c i => match h[i]? with
    | some (some c) => some (.lst c)
    | _ => none
def itemsV (h : Hs) : List IT → Option (List PV)
  | [] => some []
  | x :: r => match itemV h x with
    | some p => (itemsV h r).map (p :: ·)
    | none => none
def itR : IT → RV
  | .p p => .pv p
  | .c i => .ref i
  | .o k i j => .ob k i j
def itOf : RV → Option IT
  | .pv p => some (.p p)
  | .ob k i j => some (.o k i j)
  | .ref i => some (.c i)
  | _ => none
def itsOf : List RV → Option (List IT)
  | [] => some []
  | x :: r => match itOf x with
    | some y => (itsOf r).map (y :: ·)
    | none => none
def dgetD (kvs : List (Str × Int)) (s : Str) (p : PV) : PV := match kvs.lookup s with
  | some i => .int i
  | none => p
/-! ### operations -/
def wpRv : PV → (PV → Prop) → Prop
  | .lst l, Q => Q (.lst l.reverse)
  | .tup l, Q => Q (.tup l.reverse)
  | _, _ => False
def itemsOf : PV → Option (List PV)
  | .lst l => some l
  | .tup l => some l
  | _ => none
def Pg.wn (P : Pg) : Str := if P.sd = true then "_law_said" else "_law_word"
/-! ### targets, loops -/
def setAll (ρ : Env) : List Nat → List RV → Env
  | i :: is, v :: vs => setAll (ρ.set i (some v)) is vs
  | _, _ => ρ
def loopT (gd : Hs → Prop) (step : PV → Env → Hs → (Env → Hs → Prop) → Prop) : List PV → Env → Hs → (Env → Hs → Prop) → Prop
  | [], ρ, h, nx => gd h ∧ nx ρ h
  | x :: r, ρ, h, nx => gd h ∧ step x ρ h fun ρ' h' => loopT gd step r ρ' h' nx
def loopV (step : RV → Env → Hs → (Env → Hs → Prop) → Prop) : List IT → Env → Hs → (Env → Hs → Prop) → Prop
  | [], ρ, h, nx => nx ρ h
  | x :: r, ρ, h, nx => step (itR x) ρ h fun ρ' h' => loopV step r ρ' h' nx
def compV (step : RV → Hs → (PV → Hs → Prop) → Prop) : List IT → Hs → (List PV → Hs → Prop) → Prop
  | [], h, Q => Q [] h
  | x :: r, h, Q => step (itR x) h fun p h1 => compV step r h1 fun l h2 => Q (p :: l) h2
def loopZ (step : RV → PV → Env → Hs → (Env → Hs → Prop) → Prop) : List IT → List PV → Env → Hs → (Env → Hs → Prop) → Prop
  | x :: r, p :: ps, ρ, h, nx => step (itR x) p ρ h fun ρ1 h1 => loopZ step r ps ρ1 h1 nx
  | _, _, ρ, h, nx => nx ρ h
example (a r : Tg) (x : PV) (ρ : Env) (k : Env → Prop) : bindT (.cons a r) x ρ k = ∃ y ys, x = .tup (y :: ys) ∧ bindT a y ρ fun ρ' => bindL r ys ρ' k := rfl
def zipL (a b : List PV) : List PV := (a.zip b).map fun p => PV.tup [p.1, p.2]
/-- x or y, x a tuple or None -/
def kTv (v : RV) (A B : Prop) : Prop := match v with
  | .pv .non => B
  | .pv (.tup []) => B
  | .pv (.tup (_ :: _)) => A
  | _ => False
/-- the code of ints below B -/
def codI (B : Int) : List Int → Int
  | [] => 0
  | d :: r => d * B ^ r.length + codI B r
/-- a list in order -/
def InO (L : List PV) : Prop := L.length ≤ 1 ∨ ∃ (d : Nat) (B : Int) (Ns : List (List Int)), L = Ns.map (fun n => .tup (n.map PV.int)) ∧ L.length < 64 ∧ 1 ≤ d ∧ (∀ n ∈ Ns, n.length = d ∧ ∀ m ∈ n, 0 ≤ m ∧ m < B) ∧ Ns.Pairwise (fun n m => codI B n < codI B m)
/-- no later than, in the order of data -/
def leD (a b : PV) : Bool := !PySem.W.dataLt (dat b) (dat a)
/-- plain data that can be put in order -/
def SoD (L : List PV) : Prop := (∀ x ∈ L, Dt 50 x) ∧ (∀ x ∈ L, ∀ y ∈ L, PySem.W.alike (dat x) (dat y) = true) ∧ ((∀ x ∈ L, ∃ y r, x = .tup (y :: r)) ∨ ∀ x ∈ L, ∃ s, x = .str s) ∧ L.length ≤ sizeLine
/-- x or y -/
def kTg (v : RV) (A B : Prop) : Prop := match v with
  | .pv .non => B
  | .pv (.bl b) => if b = true then A else B
  | .pv (.int i) => if i = 0 then B else A
  | .pv (.str y) => y.length ≤ sizeLine ∧ if y.length = 0 then B else A
  | .pv (.tup []) => B
  | .pv (.tup (_ :: _)) => A
  | .pv (.lst []) => B
  | .pv (.lst (_ :: _)) => A
  | .pv (.dct []) => B
  | .pv (.dct (_ :: _)) => A
  | _ => False
/-- an object that is never changed: its fields as they are -/
def kMv (P : Pg) (k n : Nat) (Q : QV) : QV := fun v h2 => v = .ob k n none ∧ ∃ fs c, h2[n]? = some (some (.obj k [] :: fs)) ∧ P.cls[k]? = some c ∧ fs.length = c.N.length ∧ fs.all (fun p => !isMk p) = true ∧ Q (.pv (.obj k fs)) (h2.take n)
/-- what was given by names, in the parameters' order -/
def selQ (vs : List RV) : List (Option Nat) → (List RV → Prop) → Prop
  | [], Q => Q []
  | some j :: r, Q => ∃ v, vs[j]? = some v ∧ selQ vs r fun as => Q (v :: as)
  | none :: r, Q => selQ vs r fun as => Q (.pv .non :: as)
/-- an object of another class of the text -/
def iscS (P : Pg) (k : Nat) : RV → Prop
  | .pv (.obj j _) => j = k ∨ P.cls[j]?.isSome = true
  | .ob j _ _ => j = k ∨ P.cls[j]?.isSome = true
  | _ => True
/-- a thing whose type asks nothing ahead of an own class -/
def okO (P : Pg) : RV → Bool
  | .pv (.fn _) => false
  | .pv (.scr _) => false
  | .pv (.obj j _) => P.cls[j]?.isSome
  | .ob j _ _ => P.cls[j]?.isSome
  | .mat _ => false
  | .vec _ => false
  | .two _ _ _ _ => false
  | _ => true
/-- two objects that are not the same -/
def difO : RV → RV → Prop
  | .ob _ i _, .ob _ j _ => i ≠ j
  | _, _ => False
/-- x in a list of objects -/
def inW (C : CallT) (k f : Nat) (x : RV) : List RV → Hs → (Bool → Hs → Prop) → QX → Prop
  | [], h, Q, _ => Q false h
  | y :: r, h, Q, X => isK h k x ∧ isK h k y ∧ difO x y ∧ C f [y, x] h (fun v h1 => ∃ c, v = .pv (.bl c) ∧ if c = true then Q true h1 else inW C k f x r h1 Q X) X
/-! ### expressions -/
section
variable (P : Pg) (C : CallT)
def wpB (e : E) (ρ : Env) (h : Hs) (Q : Bool → Hs → Prop) (X : QX) : Prop := wpE P C e ρ h (fun x h1 => ∃ c, x = .pv (.bl c) ∧ Q c h1) X
/-! ### statements -/
/-- so many values -/
def wpPL : EL → Env → Hs → (List PV → Hs → Prop) → Prop
  | .nil, _, h, Q => Q [] h
  | .cons e r, ρ, h, Q => wpE P C e ρ h (fun v h1 => ∃ p, v = .pv p ∧ wpPL r ρ h1 fun ps h2 => Q (p :: ps) h2) (fun _ _ => False)
mutual
def wpS : S → Env → Hs → (Env → Hs → Prop) → QV → QX → Prop
  | .set i e, ρ, h, nx, _, X => wpE P C e ρ h (fun v h1 => nx (ρ.set i (some v)) h1) X
  | .par is es, ρ, h, nx, _, X => wpL P C es ρ h (fun vs h1 => vs.length = is.length ∧ nx (setAll ρ is vs) h1) X
  | .unp tg e, ρ, h, nx, _, X => wpE P C e ρ h (fun v h1 => ∃ p, v = .pv p ∧ bindT tg p ρ fun ρ' => nx ρ' h1) X
  | .nev, _, _, _, _, _ => False
  | .sub o i v, ρ, h, nx, _, X => wpE P C v ρ h (fun y h1 => wpE P C o ρ h1 (fun x h2 => wpE P C i ρ h2 (fun z h3 => ∃ k c n j q, x = .ref k ∧ h3[k]? = some (some c) ∧ z = .pv (.int n) ∧ L2.ixN c.length n = some j ∧ y = .pv q ∧ nx ρ (h3.set k (some (c.set j q)))) X) X) X
  | .app o v, ρ, h, nx, _, X => wpE P C o ρ h (fun x h1 => ∃ k c0, x = .ref k ∧ h1[k]? = some (some c0) ∧ wpE P C v ρ h1 (fun y h2 => ∃ c q, h2[k]? = some (some c) ∧ y = .pv q ∧ c.length < sizeLine ∧ nx ρ (h2.set k (some (c ++ [q])))) X) X
  | .exp e, ρ, h, nx, _, X => wpE P C e ρ h (fun _ h1 => nx ρ h1) X
  | .iff t a b, ρ, h, nx, rt, X => wpB P C t ρ h (fun c h1 => if c = true then wpSL a ρ h1 nx rt X else wpSL b ρ h1 nx rt X) X
  | .for kl tg it body, ρ, h, nx, rt, X => wpI P C it ρ h (fun l gd h1 => loopT gd (fun x ρ1 h2 k => bindT tg x ρ1 fun ρ2 => wpSL body ρ2 h2 (fun ρ3 h3 => k (kill ρ3 kl) h3) rt X) l (kill ρ kl) h1 nx) X
  | .whl kl t body, ρ, h, nx, rt, X => ∃ W : Nat → Env → Hs → Prop, (∃ m, W m (kill ρ kl) h) ∧ ∀ m ρ1 h1, W m ρ1 h1 → wpB P C t ρ1 h1 (fun c h2 => if c = true then
      wpSL body ρ1 h2 (fun ρ3 h3 => ∃ m', m' < m ∧ W m' (kill ρ3 kl) h3) rt X else nx ρ1 h2) X
  | .ret e, ρ, h, _, rt, X => wpE P C e ρ h rt X
  | .retN, _, h, _, rt, _ => rt (.pv .non) h
  | .rse, _, _, _, _, _ => False
  | .rsx c, _, h, _, _, X => X ⟨c, []⟩ h
  | .rsf c es, ρ, h, _, _, X => wpL P C es ρ h (fun vs h1 => ∃ ns : List Int, vs = ns.map (fun i => RV.pv (.int i)) ∧ ns.length = (fldN c).length ∧ X ⟨c, (fldN c).zip (ns.map PV.int)⟩ h1) X
  | .pass, ρ, h, nx, _, _ => nx ρ h
  | .fst o k t e, ρ, h, nx, _, X => wpE P C e ρ h (fun y h1 => ∃ q i j fs, y = .pv q ∧ isMk q = false ∧ ρ[o]? = some (some (.ob k i j)) ∧ h1[i]? = some (some (.obj k [] :: fs)) ∧ t ≤ fs.length ∧ nx ρ (h1.set i (some (.obj k [] :: putN fs t q)))) X
  | .fnl o k t e, ρ, h, nx, _, X => wpE P C e ρ h (fun y h1 => ∃ i l fs, y = .ref l ∧ ρ[o]? = some (some (.ob k i none)) ∧ h1[i]? = some (some (.obj k [] :: fs)) ∧ t = fs.length ∧ i ≠ l ∧ nx (ρ.set o (some (.ob k i (some l)))) (h1.set i (some (.obj k [] :: (fs ++ [.scr []]))))) X
  | .lap o v, ρ, h, nx, _, X => wpE P C o ρ h (fun x h1 => ∃ k c0, x = .ref k ∧ h1[k]? = some (some c0) ∧ wpE P C v ρ h1 (fun y h2 => ∃ c q, h2[k]? = some (some c) ∧ y = .pv q ∧ c.length < sizeLine ∧ nx ρ (h2.set k (some (c ++ [q])))) X) X
def wpSL : SL → Env → Hs → (Env → Hs → Prop) → QV → QX → Prop
  | .nil, ρ, h, nx, _, _ => nx ρ h
  | .cons s r, ρ, h, nx, rt, X => wpS s ρ h (fun ρ1 h1 => wpSL r ρ1 h1 nx rt X) rt X
end
end
/-! ### calls: a def's body, so many levels deep -/
/-- what is left of the cells behind a call -/
def fin (n : Nat) (Q : QV) : QV := fun v h' => match v with
  | .pv p => Q (.pv p) (h'.take n)
  | .ref i => if i < n then Q (.ref i) (h'.take n) else ∃ c, h'[i]? = some (some c) ∧ Q (.ref n) (h'.take n ++ [some c])
  | .mat _ => False
  | .vec _ => False
  | .two _ _ none _ => False
  | .two k i (some j) p => n ≤ i ∧ n ≤ j ∧ ∃ c d, i ≠ j ∧ h'[i]? = some (some c) ∧ h'[j]? = some (some d) ∧ Q (.two k n (some (n + 1)) p) (h'.take n ++ [some c, some d])
  | .ob k i none => if i < n then Q (.ob k i none) (h'.take n) else ∃ c, h'[i]? = some (some c) ∧ Q (.ob k n none) (h'.take n ++ [some c])
  | .ob k i (some j) => if i < n then (if j < n then Q (.ob k i (some j)) (h'.take n) else ∃ d, h'[j]? = some (some d) ∧ Q (.ob k i (some n)) (h'.take n ++ [some d]))
      else n ≤ j ∧ ∃ c d, i ≠ j ∧ h'[i]? = some (some c) ∧ h'[j]? = some (some d) ∧ Q (.ob k n (some (n + 1))) (h'.take n ++ [some c, some d])
def wpC (P : Pg) : Nat → CallT
  | 0, _, _, _, _, _ => False
  | d + 1, f, vs, h, Q, X => ∃ df, P.defs[f]? = some df ∧ vs.length = df.npar ∧
      wpSL P (wpC P d) df.body (vs.map some ++ List.replicate (df.N.length - vs.length) none) h (fun ρ' h' => if df.ini = true then (∃ v, ρ'[0]? = some (some v) ∧ fin h.length Q v h') else fin h.length Q (.pv .non) h') (fun v h' => df.ini = false ∧ fin h.length Q v h') (fun x h' => X x (h'.take h.length))
example (P : Pg) (C : CallT) (ρ h Q X) (a b : E) : wpE P C (.nt a) ρ h Q X = wpE P C a ρ h (fun x h1 => ∃ c, x = .pv (.bl c) ∧ Q (.pv (.bl (!c))) h1) X := rfl
example (P : Pg) (C : CallT) (ρ h nx rt X) (e : E) : wpSL P C (.cons (.ret e) .nil) ρ h nx rt X = wpE P C e ρ h rt X := rfl
end G43
set_option Elab.async false
set_option linter.all false
set_option maxRecDepth 100000
set_option maxHeartbeats 4000000
namespace G43
open PySem
/-! ### weaker ends -/
theorem wpBin_mono {op : Operator} {p q : PV} {Q Q' : PV → Prop} (hQ : ∀ r, Q r → Q' r) (h : wpBin op p q Q) : wpBin op p q Q' := by
  unfold wpBin at h ⊢
  split at h <;> first
    | exact hQ _ h
    | exact ⟨h.1, hQ _ h.2⟩
    | exact h.elim
theorem wpCmp_mono {op : CmpOp} {p q : PV} {Q Q' : Bool → Prop} (hQ : ∀ r, Q r → Q' r) (h : wpCmp op p q Q) : wpCmp op p q Q' := by
  unfold wpCmp at h ⊢
  split at h <;> first
    | exact hQ _ h
    | exact ⟨h.1, h.2.1, hQ _ h.2.2⟩
    | exact h.elim
theorem wpBi_mono {b : BI} {ps : List PV} {Q Q' : PV → Prop} (hQ : ∀ r, Q r → Q' r) (h : wpBi b ps Q) : wpBi b ps Q' := by
  unfold wpBi at h ⊢
  split at h <;> first
    | exact hQ _ h
    | (obtain ⟨bs, e, q⟩ := h; exact ⟨bs, e, hQ _ q⟩)
    | exact h.imp (fun h => ⟨h.1, h.2.1, h.2.2.1, hQ _ h.2.2.2⟩) fun h => ⟨h.1, hQ _ h.2⟩
    | exact ⟨h.1, hQ _ h.2⟩
    | exact h.elim
theorem wpSl_mono {p : PV} {lo hi : Option Int} {Q Q' : PV → Prop} (hQ : ∀ r, Q r → Q' r) (h : wpSl p lo hi Q) : wpSl p lo hi Q' := by
  unfold wpSl at h ⊢
  split at h <;> first
    | exact hQ _ h
    | exact h.elim
theorem wpIx_mono {p q : PV} {Q Q' : PV → Prop} (hQ : ∀ r, Q r → Q' r) (h : wpIx p q Q) : wpIx p q Q' := by
  unfold wpIx at h ⊢
  split at h <;> first
    | (obtain ⟨v, e, z⟩ := h; exact ⟨v, e, hQ _ z⟩)
    | exact h.elim
mutual
theorem bindT_mono : ∀ (t : Tg) {x : PV} {ρ : Env} {k k' : Env → Prop}, (∀ r, k r → k' r) → bindT t x ρ k → bindT t x ρ k'
  | .nm i, x, ρ, k, k', hk, h => by unfold bindT at h ⊢; exact hk _ h
  | .nil, x, ρ, k, k', hk, h => by unfold bindT at h ⊢; exact ⟨h.1, hk _ h.2⟩
  | .cons a r, x, ρ, k, k', hk, h => by
    unfold bindT at h ⊢
    obtain ⟨x, xs, e, z⟩ := h
    exact ⟨x, xs, e, bindT_mono a (fun ρ' q => bindL_mono r hk q) z⟩
theorem bindL_mono : ∀ (t : Tg) {l : List PV} {ρ : Env} {k k' : Env → Prop}, (∀ r, k r → k' r) → bindL t l ρ k → bindL t l ρ k'
  | .nm i, l, ρ, k, k', hk, h => by unfold bindL at h; exact h.elim
  | .nil, l, ρ, k, k', hk, h => by unfold bindL at h ⊢; exact ⟨h.1, hk _ h.2⟩
  | .cons a r, l, ρ, k, k', hk, h => by
    unfold bindL at h ⊢
    obtain ⟨x, xs, e, z⟩ := h
    exact ⟨x, xs, e, bindT_mono a (fun ρ' q => bindL_mono r hk q) z⟩
end
mutual
theorem bindT_some : ∀ (t : Tg) {x : PV} {ρ : Env} {k : Env → Prop}, bindT t x ρ k → ∃ ρ', k ρ'
  | .nm i, x, ρ, k, h => by unfold bindT at h; exact ⟨_, h⟩
  | .nil, x, ρ, k, h => by unfold bindT at h; exact ⟨_, h.2⟩
  | .cons a r, x, ρ, k, h => by
    unfold bindT at h
    obtain ⟨x, xs, e, z⟩ := h
    obtain ⟨ρ', z⟩ := bindT_some a z
    exact bindL_some r z
theorem bindL_some : ∀ (t : Tg) {l : List PV} {ρ : Env} {k : Env → Prop}, bindL t l ρ k → ∃ ρ', k ρ'
  | .nm i, l, ρ, k, h => by unfold bindL at h; exact h.elim
  | .nil, l, ρ, k, h => by unfold bindL at h; exact ⟨_, h.2⟩
  | .cons a r, l, ρ, k, h => by
    unfold bindL at h
    obtain ⟨x, xs, e, z⟩ := h
    obtain ⟨ρ', z⟩ := bindT_some a z
    exact bindL_some r z
end
theorem loopT_mono {gd : Hs → Prop} {st st' : PV → Env → Hs → (Env → Hs → Prop) → Prop} (hs : ∀ x ρ h k k', (∀ ρ h, k ρ h → k' ρ h) → st x ρ h k → st' x ρ h k') :
    ∀ (l : List PV) {ρ : Env} {h : Hs} {nx nx' : Env → Hs → Prop}, (∀ ρ h, nx ρ h → nx' ρ h) → loopT gd st l ρ h nx → loopT gd st' l ρ h nx'
  | [], _, _, _, _, hn, z => ⟨z.1, hn _ _ z.2⟩
  | x :: r, _, _, _, _, hn, z => ⟨z.1, hs x _ _ _ _ (fun _ _ q => loopT_mono hs r hn q) z.2⟩
theorem compT_mono {α : Type} {gd : Hs → Prop} {st st' : PV → Hs → (List α → Hs → Prop) → Prop} (hs : ∀ x h k k', (∀ l h, k l h → k' l h) → st x h k → st' x h k') :
    ∀ (l : List PV) {h : Hs} {Q Q' : List α → Hs → Prop}, (∀ l h, Q l h → Q' l h) → compT gd st l h Q → compT gd st' l h Q'
  | [], _, _, _, hn, z => ⟨z.1, hn _ _ z.2⟩
  | x :: r, _, _, _, hn, z => ⟨z.1, hs x _ _ _ (fun y _ q => compT_mono hs r (fun l h q => hn _ _ q) q) z.2⟩
def MonoC (C C' : CallT) : Prop := ∀ f vs h Q Q' X X', (∀ v h, Q v h → Q' v h) → (∀ x h, X x h → X' x h) → C f vs h Q X → C' f vs h Q' X'
section
variable {P : Pg} {C C' : CallT} (hC : MonoC C C')
include hC
mutual
theorem wpE_mono : ∀ (e : E) {ρ : Env} {h : Hs} {Q Q' : QV} {X X' : QX}, (∀ v h, Q v h → Q' v h) → (∀ x h, X x h → X' x h) → wpE P C e ρ h Q X → wpE P C' e ρ h Q' X'
  | .var i, ρ, h, Q, Q', X, X', hQ, hX, z => by
    unfold wpE at z ⊢
    obtain ⟨v, e, q⟩ := z
    exact ⟨v, e, hQ _ _ q⟩
  | .cst p, ρ, h, Q, Q', X, X', hQ, hX, z => by unfold wpE at z ⊢; exact hQ _ _ z
  | .glo g, ρ, h, Q, Q', X, X', hQ, hX, z => by
    unfold wpE at z ⊢
    obtain ⟨x, p, e, q⟩ := z
    exact ⟨x, p, e, hQ _ _ q⟩
  | .bin op a b, ρ, h, Q, Q', X, X', hQ, hX, z => by
    unfold wpE at z ⊢
    refine wpE_mono a (fun x h1 q => wpE_mono b (fun y h2 q => ?_) hX q) hX z
    obtain ⟨p, r, e1, e2, q⟩ := q
    exact ⟨p, r, e1, e2, wpBin_mono (fun _ => hQ _ _) q⟩
  | .neg a, ρ, h, Q, Q', X, X', hQ, hX, z => by
    unfold wpE at z ⊢
    refine wpE_mono a (fun x h1 q => ?_) hX z
    obtain ⟨i, e, q⟩ := q
    exact ⟨i, e, hQ _ _ q⟩
  | .nt a, ρ, h, Q, Q', X, X', hQ, hX, z => by
    unfold wpE at z ⊢
    refine wpE_mono a (fun x h1 q => ?_) hX z
    obtain ⟨i, e, q⟩ := q
    exact ⟨i, e, hQ _ _ q⟩
  | .and a b, ρ, h, Q, Q', X, X', hQ, hX, z => by
    unfold wpE at z ⊢
    refine wpE_mono a (fun x h1 q => ?_) hX z
    obtain ⟨c, e, q⟩ := q
    refine ⟨c, e, ?_⟩
    cases c with
    | true => rw [if_pos rfl] at q ⊢; exact wpE_mono b hQ hX q
    | false => rw [if_neg Bool.false_ne_true] at q ⊢; exact hQ _ _ q
  | .or a b, ρ, h, Q, Q', X, X', hQ, hX, z => by
    unfold wpE at z ⊢
    refine wpE_mono a (fun x h1 q => ?_) hX z
    obtain ⟨c, e, q⟩ := q
    refine ⟨c, e, ?_⟩
    cases c with
    | true => rw [if_pos rfl] at q ⊢; exact hQ _ _ q
    | false => rw [if_neg Bool.false_ne_true] at q ⊢; exact wpE_mono b hQ hX q
  | .cmp op a b, ρ, h, Q, Q', X, X', hQ, hX, z => by
    unfold wpE at z ⊢
    refine wpE_mono a (fun x h1 q => wpE_mono b (fun y h2 q => ?_) hX q) hX z
    obtain ⟨p, r, e1, e2, q⟩ := q
    exact ⟨p, r, e1, e2, wpCmp_mono (fun _ => hQ _ _) q⟩
  | .chn op op' a b c, ρ, h, Q, Q', X, X', hQ, hX, z => by
    unfold wpE at z ⊢
    refine wpE_mono a (fun x h1 q => wpE_mono b (fun y h2 q => ?_) hX q) hX z
    obtain ⟨p, r, e1, e2, q⟩ := q
    refine ⟨p, r, e1, e2, wpCmp_mono (fun k q => ?_) q⟩
    cases k with
    | true =>
      rw [if_pos rfl] at q ⊢
      refine wpE_mono c (fun y h2 q => ?_) hX q
      obtain ⟨p, r, e1, e2, q⟩ := q
      exact ⟨p, r, e1, e2, wpCmp_mono (fun _ => hQ _ _) q⟩
    | false => rw [if_neg Bool.false_ne_true] at q ⊢; exact hQ _ _ q
  | .ite t a b, ρ, h, Q, Q', X, X', hQ, hX, z => by
    unfold wpE at z ⊢
    refine wpE_mono t (fun x h1 q => ?_) hX z
    obtain ⟨c, e, q⟩ := q
    refine ⟨c, e, ?_⟩
    cases c with
    | true => rw [if_pos rfl] at q ⊢; exact wpE_mono a hQ hX q
    | false => rw [if_neg Bool.false_ne_true] at q ⊢; exact wpE_mono b hQ hX q
  | .call f es dv, ρ, h, Q, Q', X, X', hQ, hX, z => by
    unfold wpE at z ⊢
    exact wpL_mono es (fun vs h1 q => hC _ _ _ _ _ _ _ hQ hX q) hX z
  | .bi b es, ρ, h, Q, Q', X, X', hQ, hX, z => by
    unfold wpE at z ⊢
    refine wpL_mono es (fun vs h1 q => ?_) hX z
    obtain ⟨ps, e, q⟩ := q
    exact ⟨ps, e, wpBi_mono (fun _ => hQ _ _) q⟩
  | .isi a t, ρ, h, Q, Q', X, X', hQ, hX, z => by
    unfold wpE at z ⊢
    refine wpE_mono a (fun x h1 q => ?_) hX z
    obtain ⟨p, b, e1, e2, q⟩ := q
    exact ⟨p, b, e1, e2, hQ _ _ q⟩
  | .idx a i, ρ, h, Q, Q', X, X', hQ, hX, z => by
    unfold wpE at z ⊢
    refine wpE_mono a (fun x h1 q => wpE_mono i (fun y h2 q => ?_) hX q) hX z
    obtain ⟨p, r, e1, e2, q⟩ := q
    exact ⟨p, r, e1, e2, wpIx_mono (fun _ => hQ _ _) q⟩
  | .slo a lo, ρ, h, Q, Q', X, X', hQ, hX, z => by
    unfold wpE at z ⊢
    refine wpE_mono a (fun x h1 q => wpE_mono lo (fun y h2 q => ?_) hX q) hX z
    obtain ⟨p, r, e1, e2, q⟩ := q
    exact ⟨p, r, e1, e2, wpSl_mono (fun _ => hQ _ _) q⟩
  | .shi a hi, ρ, h, Q, Q', X, X', hQ, hX, z => by
    unfold wpE at z ⊢
    refine wpE_mono a (fun x h1 q => wpE_mono hi (fun y h2 q => ?_) hX q) hX z
    obtain ⟨p, r, e1, e2, q⟩ := q
    exact ⟨p, r, e1, e2, wpSl_mono (fun _ => hQ _ _) q⟩
  | .slh a lo hi, ρ, h, Q, Q', X, X', hQ, hX, z => by
    unfold wpE at z ⊢
    refine wpE_mono a (fun x h1 q => wpE_mono lo (fun y h2 q => ?_) hX q) hX z
    obtain ⟨i, e, q⟩ := q
    refine ⟨i, e, wpE_mono hi (fun w h3 q => ?_) hX q⟩
    obtain ⟨p, j, e1, e2, q⟩ := q
    exact ⟨p, j, e1, e2, wpSl_mono (fun _ => hQ _ _) q⟩
  | .tup es, ρ, h, Q, Q', X, X', hQ, hX, z => by
    unfold wpE at z ⊢
    refine wpL_mono es (fun vs h1 q => ?_) hX z
    obtain ⟨ps, e, q⟩ := q
    exact ⟨ps, e, hQ _ _ q⟩
  | .lst es, ρ, h, Q, Q', X, X', hQ, hX, z => by
    unfold wpE at z ⊢
    refine wpL_mono es (fun vs h1 q => ?_) hX z
    obtain ⟨ps, e, q⟩ := q
    exact ⟨ps, e, hQ _ _ q⟩
  | .mls es, ρ, h, Q, Q', X, X', hQ, hX, z => by
    unfold wpE at z ⊢
    refine wpL_mono es (fun vs h1 q => ?_) hX z
    obtain ⟨ps, e, q⟩ := q
    exact ⟨ps, e, hQ _ _ q⟩
  | .mrp a b, ρ, h, Q, Q', X, X', hQ, hX, z => by
    unfold wpE at z ⊢
    refine wpE_mono a (fun x h1 q => wpE_mono b (fun y h2 q => ?_) hX q) hX z
    obtain ⟨p, r, e1, e2, e3, e4, e5, q⟩ := q
    exact ⟨p, r, e1, e2, e3, e4, e5, hQ _ _ q⟩
  | .frz a, ρ, h, Q, Q', X, X', hQ, hX, z => by
    unfold wpE at z ⊢
    refine wpE_mono a (fun x h1 q => ?_) hX z
    obtain ⟨i, c, e1, e2, q⟩ := q
    exact ⟨i, c, e1, e2, hQ _ _ q⟩
  | .comp elt tg it ifs, ρ, h, Q, Q', X, X', hQ, hX, z => by
    unfold wpE at z ⊢
    refine wpI_mono it (fun l gd h1 q => ⟨q.1, ?_⟩) hX z
    refine compT_mono (fun x h2 k k' hk q => bindT_mono tg (fun ρ1 q => wpTs_mono ifs (fun b h3 q => ?_) (fun _ _ z => z) q) q) l (fun r h q => hQ _ _ q) q.2
    cases b with
    | true =>
      rw [if_pos rfl] at q ⊢
      refine wpE_mono elt (fun y h4 q => ?_) (fun _ _ z => z) q
      obtain ⟨p, e, q⟩ := q
      exact ⟨p, e, hk _ _ q⟩
    | false => rw [if_neg Bool.false_ne_true] at q ⊢; exact hk _ _ q
  | .word e, ρ, h, Q, Q', X, X', hQ, hX, z => by
    unfold wpE at z ⊢
    exact wpE_mono e (fun x h1 ⟨p, e, q⟩ => ⟨p, e, hQ _ _ q⟩) (fun x h1 ⟨w, e1, e2, q⟩ => ⟨w, e1, e2, hQ _ _ q⟩) z
  | .fld a k t, ρ, h, Q, Q', X, X', hQ, hX, z => by
    unfold wpE at z ⊢
    refine wpE_mono a (fun x h1 q => ?_) hX z
    obtain ⟨p, e1, q⟩ := q
    exact ⟨p, e1, hQ _ _ q⟩
  | .lfd a k, ρ, h, Q, Q', X, X', hQ, hX, z => by
    unfold wpE at z ⊢
    refine wpE_mono a (fun x h1 q => ?_) hX z
    obtain ⟨i, j, e1, q⟩ := q
    exact ⟨i, j, e1, hQ _ _ q⟩
  | .lze a b, ρ, h, Q, Q', X, X', hQ, hX, z => by
    unfold wpE at z ⊢
    exact wpE_mono a (fun x h1 q => wpE_mono b (fun y h2 ⟨e, e2, q⟩ => ⟨e, e2, hQ _ _ q⟩) hX q) hX z
  | .lrg a, ρ, h, Q, Q', X, X', hQ, hX, z => by
    unfold wpE at z ⊢
    exact wpE_mono a (fun x h1 ⟨j, e, e2, e3, q⟩ => ⟨j, e, e2, e3, hQ _ _ q⟩) hX z
  | .mko k f es dv, ρ, h, Q, Q', X, X', hQ, hX, z => by
    unfold wpE at z ⊢
    exact wpL_mono es (fun vs h1 q => hC _ _ _ _ _ _ _ (fun _ _ q => ⟨q.1, hQ _ _ q.2⟩) (fun _ _ q => hX _ _ q) q) hX z
  | .mth k f a es dv, ρ, h, Q, Q', X, X', hQ, hX, z => by
    unfold wpE at z ⊢
    exact wpE_mono a (fun x h1 q => ⟨q.1, wpL_mono es (fun vs h2 q => hC _ _ _ _ _ _ _ hQ hX q) hX q.2⟩) hX z
  | .lno k f a, ρ, h, Q, Q', X, X', hQ, hX, z => by
    unfold wpE at z ⊢
    exact wpE_mono a (fun x h1 q => ⟨q.1, hC _ _ _ _ _ _ _ (fun v h2 ⟨n, e, e2, q⟩ => ⟨n, e, e2, hQ _ _ q⟩) hX q.2⟩) hX z
  | .fm1 p a q, ρ, h, Q, Q', X, X', hQ, hX, z => by
    unfold wpE at z ⊢
    exact wpE_mono a (fun x h1 ⟨y, e1, e2, e3, q⟩ => ⟨y, e1, e2, e3, hQ _ _ q⟩) hX z
theorem wpL_mono : ∀ (es : EL) {ρ : Env} {h : Hs} {Q Q' : List RV → Hs → Prop} {X X' : QX}, (∀ v h, Q v h → Q' v h) → (∀ x h, X x h → X' x h) → wpL P C es ρ h Q X → wpL P C' es ρ h Q' X'
  | .nil, ρ, h, Q, Q', X, X', hQ, hX, z => by unfold wpL at z ⊢; exact hQ _ _ z
  | .cons e r, ρ, h, Q, Q', X, X', hQ, hX, z => by
    unfold wpL at z ⊢
    exact wpE_mono e (fun v h1 q => wpL_mono r (fun vs h2 q => hQ _ _ q) hX q) hX z
theorem wpI_mono : ∀ (it : It) {ρ : Env} {h : Hs} {Q Q' : List PV → (Hs → Prop) → Hs → Prop} {X X' : QX}, (∀ l g h, Q l g h → Q' l g h) → (∀ x h, X x h → X' x h) → wpI P C it ρ h Q X → wpI P C' it ρ h Q' X'
  | .seq e, ρ, h, Q, Q', X, X', hQ, hX, z => by
    unfold wpI at z ⊢
    refine wpE_mono e (fun x h1 q => ?_) hX z
    split at q
    · exact hQ _ _ _ q
    · exact hQ _ _ _ q
    · exact hQ _ _ _ q
    · obtain ⟨c, e, q⟩ := q
      exact ⟨c, e, hQ _ _ _ q⟩
    · exact q.elim
  | .rng1 e, ρ, h, Q, Q', X, X', hQ, hX, z => by
    unfold wpI at z ⊢
    refine wpE_mono e (fun x h1 q => ?_) hX z
    obtain ⟨j, e1, e2, e3, q⟩ := q
    exact ⟨j, e1, e2, e3, hQ _ _ _ q⟩
  | .rng2 a b, ρ, h, Q, Q', X, X', hQ, hX, z => by
    unfold wpI at z ⊢
    refine wpE_mono a (fun x h1 q => wpE_mono b (fun y h2 q => ?_) hX q) hX z
    obtain ⟨i, j, e1, e2, e3, q⟩ := q
    exact ⟨i, j, e1, e2, e3, hQ _ _ _ q⟩
  | .enm e, ρ, h, Q, Q', X, X', hQ, hX, z => by
    unfold wpI at z ⊢
    refine wpE_mono e (fun x h1 q => ?_) hX z
    split at q
    · exact hQ _ _ _ q
    · exact hQ _ _ _ q
    · obtain ⟨c, e, q⟩ := q
      exact ⟨c, e, hQ _ _ _ q⟩
    · exact q.elim
theorem wpTs_mono : ∀ (es : EL) {ρ : Env} {h : Hs} {Q Q' : Bool → Hs → Prop} {X X' : QX}, (∀ v h, Q v h → Q' v h) → (∀ x h, X x h → X' x h) → wpTs P C es ρ h Q X → wpTs P C' es ρ h Q' X'
  | .nil, ρ, h, Q, Q', X, X', hQ, hX, z => by unfold wpTs at z ⊢; exact hQ _ _ z
  | .cons e r, ρ, h, Q, Q', X, X', hQ, hX, z => by
    unfold wpTs at z ⊢
    refine wpE_mono e (fun x h1 q => ?_) hX z
    obtain ⟨c, e, q⟩ := q
    exact ⟨c, e, hQ _ _ q⟩
end
theorem wpL_len (hCC : MonoC C' C') : ∀ (es : EL) {ρ : Env} {h : Hs} {Q : List RV → Hs → Prop} {X : QX}, wpL P C es ρ h Q X → wpL P C' es ρ h (fun vs h' => vs.length = es.len ∧ Q vs h') X
  | .nil, ρ, h, Q, X, z => by unfold wpL at z ⊢; exact ⟨rfl, z⟩
  | .cons e r, ρ, h, Q, X, z => by
    unfold wpL at z ⊢
    refine wpE_mono hC e (fun v h1 q => ?_) (fun _ _ z => z) z
    exact wpL_mono (C := C') (C' := C') (fun f vs h Q Q' X X' hQ hX z => hCC f vs h Q Q' X X' hQ hX z) r (fun vs h2 q => ⟨by show vs.length + 1 = r.len + 1; rw [q.1], q.2⟩) (fun _ _ z => z) (wpL_len hCC r q)
theorem wpB_mono (e : E) {ρ : Env} {h : Hs} {Q Q' : Bool → Hs → Prop} {X X' : QX} (hQ : ∀ v h, Q v h → Q' v h) (hX : ∀ x h, X x h → X' x h) (z : wpB P C e ρ h Q X) : wpB P C' e ρ h Q' X' :=
  wpE_mono hC e (fun x h1 ⟨c, e, q⟩ => ⟨c, e, hQ _ _ q⟩) hX z
mutual
theorem wpS_mono : ∀ (s : S) {ρ : Env} {h : Hs} {nx nx' : Env → Hs → Prop} {rt rt' : QV} {X X' : QX}, (∀ ρ h, nx ρ h → nx' ρ h) → (∀ v h, rt v h → rt' v h) → (∀ x h, X x h → X' x h) → wpS P C s ρ h nx rt X → wpS P C' s ρ h nx' rt' X'
  | .set i e, ρ, h, nx, nx', rt, rt', X, X', hn, hr, hX, z => by unfold wpS at z ⊢; exact wpE_mono hC e (fun v h1 q => hn _ _ q) hX z
  | .par is es, ρ, h, nx, nx', rt, rt', X, X', hn, hr, hX, z => by unfold wpS at z ⊢; exact wpL_mono hC es (fun v h1 q => ⟨q.1, hn _ _ q.2⟩) hX z
  | .unp tg e, ρ, h, nx, nx', rt, rt', X, X', hn, hr, hX, z => by
    unfold wpS at z ⊢
    refine wpE_mono hC e (fun v h1 q => ?_) hX z
    obtain ⟨p, e, q⟩ := q
    exact ⟨p, e, bindT_mono tg (fun r => hn _ _) q⟩
  | .nev, ρ, h, nx, nx', rt, rt', X, X', hn, hr, hX, z => by
    unfold wpS at z
    exact z.elim
  | .sub o i v, ρ, h, nx, nx', rt, rt', X, X', hn, hr, hX, z => by
    unfold wpS at z ⊢
    refine wpE_mono hC v (fun y h1 q => wpE_mono hC o (fun x h2 q => wpE_mono hC i (fun w h3 q => ?_) hX q) hX q) hX z
    obtain ⟨k, c, n, j, q1, e1, e2, e3, e4, e5, q⟩ := q
    exact ⟨k, c, n, j, q1, e1, e2, e3, e4, e5, hn _ _ q⟩
  | .app o v, ρ, h, nx, nx', rt, rt', X, X', hn, hr, hX, z => by
    unfold wpS at z ⊢
    refine wpE_mono hC o (fun y h1 q => ?_) hX z
    obtain ⟨k, c0, e1, e2, q⟩ := q
    refine ⟨k, c0, e1, e2, wpE_mono hC v (fun x h2 q => ?_) hX q⟩
    obtain ⟨c, q1, e3, e4, e5, q⟩ := q
    exact ⟨c, q1, e3, e4, e5, hn _ _ q⟩
  | .exp e, ρ, h, nx, nx', rt, rt', X, X', hn, hr, hX, z => by unfold wpS at z ⊢; exact wpE_mono hC e (fun v h1 q => hn _ _ q) hX z
  | .iff t a b, ρ, h, nx, nx', rt, rt', X, X', hn, hr, hX, z => by
    unfold wpS at z ⊢
    refine wpB_mono hC t (fun c h1 q => ?_) hX z
    cases c with
    | true => rw [if_pos rfl] at q ⊢; exact wpSL_mono a hn hr hX q
    | false => rw [if_neg Bool.false_ne_true] at q ⊢; exact wpSL_mono b hn hr hX q
  | .for kl tg it body, ρ, h, nx, nx', rt, rt', X, X', hn, hr, hX, z => by
    unfold wpS at z ⊢
    refine wpI_mono hC it (fun l gd h1 q => ?_) hX z
    exact loopT_mono (fun x ρ1 h2 k k' hk q => bindT_mono tg (fun ρ2 q => wpSL_mono body (fun ρ3 h3 q => hk _ _ q) hr hX q) q) l hn q
  | .whl kl t body, ρ, h, nx, nx', rt, rt', X, X', hn, hr, hX, z => by
    unfold wpS at z ⊢
    obtain ⟨W, h0, hs⟩ := z
    refine ⟨W, h0, fun m ρ1 h1 w => wpB_mono hC t (fun c h2 q => ?_) hX (hs m ρ1 h1 w)⟩
    cases c with
    | true => rw [if_pos rfl] at q ⊢; exact wpSL_mono body (fun _ _ q => q) hr hX q
    | false => rw [if_neg Bool.false_ne_true] at q ⊢; exact hn _ _ q
  | .ret e, ρ, h, nx, nx', rt, rt', X, X', hn, hr, hX, z => by unfold wpS at z ⊢; exact wpE_mono hC e hr hX z
  | .retN, ρ, h, nx, nx', rt, rt', X, X', hn, hr, hX, z => by unfold wpS at z ⊢; exact hr _ _ z
  | .rse, ρ, h, nx, nx', rt, rt', X, X', hn, hr, hX, z => by unfold wpS at z; exact z.elim
  | .rsx c, ρ, h, nx, nx', rt, rt', X, X', hn, hr, hX, z => by unfold wpS at z ⊢; exact hX _ _ z
  | .rsf c es, ρ, h, nx, nx', rt, rt', X, X', hn, hr, hX, z => by
    unfold wpS at z ⊢
    refine wpL_mono hC es (fun vs h1 q => ?_) hX z
    obtain ⟨ns, e1, e2, q⟩ := q
    exact ⟨ns, e1, e2, hX _ _ q⟩
  | .pass, ρ, h, nx, nx', rt, rt', X, X', hn, hr, hX, z => by unfold wpS at z ⊢; exact hn _ _ z
  | .fst o k t e, ρ, h, nx, nx', rt, rt', X, X', hn, hr, hX, z => by
    unfold wpS at z ⊢
    refine wpE_mono hC e (fun x h1 q => ?_) hX z
    obtain ⟨q1, i, j, fs, e1, e2, e3, e4, e5, q⟩ := q
    exact ⟨q1, i, j, fs, e1, e2, e3, e4, e5, hn _ _ q⟩
  | .fnl o k t e, ρ, h, nx, nx', rt, rt', X, X', hn, hr, hX, z => by
    unfold wpS at z ⊢
    refine wpE_mono hC e (fun x h1 q => ?_) hX z
    obtain ⟨i, l, fs, e1, e2, e3, e4, e5, q⟩ := q
    exact ⟨i, l, fs, e1, e2, e3, e4, e5, hn _ _ q⟩
  | .lap o v, ρ, h, nx, nx', rt, rt', X, X', hn, hr, hX, z => by
    unfold wpS at z ⊢
    refine wpE_mono hC o (fun y h1 q => ?_) hX z
    obtain ⟨k, c0, e1, e2, q⟩ := q
    refine ⟨k, c0, e1, e2, wpE_mono hC v (fun x h2 q => ?_) hX q⟩
    obtain ⟨c, q1, e3, e4, e5, q⟩ := q
    exact ⟨c, q1, e3, e4, e5, hn _ _ q⟩
theorem wpSL_mono : ∀ (s : SL) {ρ : Env} {h : Hs} {nx nx' : Env → Hs → Prop} {rt rt' : QV} {X X' : QX}, (∀ ρ h, nx ρ h → nx' ρ h) → (∀ v h, rt v h → rt' v h) → (∀ x h, X x h → X' x h) → wpSL P C s ρ h nx rt X → wpSL P C' s ρ h nx' rt' X'
  | .nil, ρ, h, nx, nx', rt, rt', X, X', hn, hr, hX, z => by unfold wpSL at z ⊢; exact hn _ _ z
  | .cons s r, ρ, h, nx, nx', rt, rt', X, X', hn, hr, hX, z => by
    unfold wpSL at z ⊢
    exact wpS_mono s (fun ρ1 h1 q => wpSL_mono r hn hr hX q) hr hX z
end
end
theorem fin_mono {n : Nat} {Q Q' : QV} (hQ : ∀ v h, Q v h → Q' v h) : ∀ v h, fin n Q v h → fin n Q' v h := fun v h z => by
  unfold fin at z ⊢
  split at z
  · exact hQ _ _ z
  · split at z
    · rename_i hi; rw [if_pos hi]; exact hQ _ _ z
    · rename_i hi; rw [if_neg hi]; obtain ⟨c, e, q⟩ := z; exact ⟨c, e, hQ _ _ q⟩
  · exact z.elim
  · exact z.elim
  · exact z.elim
  · obtain ⟨e0, e1, c, d, e2, e3, e4, q⟩ := z; exact ⟨e0, e1, c, d, e2, e3, e4, hQ _ _ q⟩
  · split at z
    · rename_i hi; rw [if_pos hi]; exact hQ _ _ z
    · rename_i hi; rw [if_neg hi]; obtain ⟨c, e, q⟩ := z; exact ⟨c, e, hQ _ _ q⟩
  · split at z
    · rename_i hi; rw [if_pos hi]
      split at z
      · rename_i hj; rw [if_pos hj]; exact hQ _ _ z
      · rename_i hj; rw [if_neg hj]; obtain ⟨c, e, q⟩ := z; exact ⟨c, e, hQ _ _ q⟩
    · rename_i hi; rw [if_neg hi]; obtain ⟨e0, c, d, e, e1, e2, q⟩ := z; exact ⟨e0, c, d, e, e1, e2, hQ _ _ q⟩
theorem wpC_mono (P : Pg) : ∀ d d', d ≤ d' → MonoC (wpC P d) (wpC P d')
  | 0, _, _ => fun f vs h Q Q' X X' hQ hX z => by unfold wpC at z; exact z.elim
  | d + 1, 0, hd => by omega
  | d + 1, d' + 1, hd => fun f vs h Q Q' X X' hQ hX z => by
    unfold wpC at z ⊢
    obtain ⟨df, e1, e2, q⟩ := z
    exact ⟨df, e1, e2, wpSL_mono (wpC_mono P d d' (by omega)) df.body (fun _ _ q => by
      split at q
      · rename_i hi; rw [if_pos hi]; obtain ⟨v, e, q⟩ := q; exact ⟨v, e, fin_mono hQ _ _ q⟩
      · rename_i hi; rw [if_neg hi]; exact fin_mono hQ _ _ q) (fun v h q => ⟨q.1, fin_mono hQ v h q.2⟩) (fun x h q => hX _ _ q) q⟩
end G43
set_option Elab.async false
set_option linter.all false
set_option maxRecDepth 100000
set_option maxHeartbeats 4000000
namespace G43
open PySem
open L2 (V HO Hp SqL SqT Rd upd upd_same upd_ne)
/-! ### where things lie -/
theorem tabs_lst {T : List (Addr × Str)} {H : Hp} {a : Addr} {xs ys : List V} (t : LamX.Tabs T H) (e : H a = some (.lst xs)) : LamX.Tabs T (upd H a (.lst ys)) := fun p hp => by
  obtain ⟨ps, h1, h2, h3⟩ := t p hp
  refine ⟨ps, by rw [upd_ne (L2.ne_of h1 e (fun z => nomatch z))]; exact h1, h2, fun pos cv hc => ?_⟩
  obtain ⟨c, e1, e2⟩ := h3 pos cv hc
  exact ⟨c, e1, by rw [upd_ne (L2.ne_of e2 e (fun z => nomatch z))]; exact e2⟩
theorem tabs_ins {T : List (Addr × Str)} {H : Hp} {a C dx : Addr} {fs gs : List (Str × V)} (t : LamX.Tabs T H) (e : H a = some (.ins C dx fs)) : LamX.Tabs T (upd H a (.ins C dx gs)) := fun p hp => by
  obtain ⟨ps, h1, h2, h3⟩ := t p hp
  refine ⟨ps, by rw [upd_ne (L2.ne_of h1 e (fun z => nomatch z))]; exact h1, h2, fun pos cv hc => ?_⟩
  obtain ⟨c, e1, e2⟩ := h3 pos cv hc
  exact ⟨c, e1, by rw [upd_ne (L2.ne_of e2 e (fun z => nomatch z))]; exact e2⟩
section
variable {A : Ad} {B : Addr → Prop} {m m' : List Addr} {h h' : Hs} {H H' : Hp}
theorem Sim.cellO (S : Sim A B m h H) {i : Nat} {c : List PV} {a : Addr} (e1 : h[i]? = some (some c)) (e2 : m[i]? = some a) {C dx : Addr} {gs : List (Str × V)} (q : H a = some (.ins C dx gs)) : ∃ k fs, c = .obj k [] :: fs ∧ ObR A (Xc B m h) H k fs a := by
  rcases S.cell i c a e1 e2 with ⟨xs, e, _⟩ | z
  · rw [e] at q
    cases q
  · exact z
mutual
theorem Rp.strong {B' : Addr → Prop} (w : ∀ a, B' a → B a ∨ H a = none) : ∀ {p : PV} {v : V}, Rp A (Xc B m h) H p v → Rp A (Xc B' m h) H p v
  | _, _, .non => .non
  | _, _, .bl b => .bl b
  | _, _, .int i => .int i
  | _, _, .str x => .str x
  | _, _, .fn f => .fn f
  | _, _, .tup q r => .tup q (RpL.strong w r)
  | _, _, .lst q n r => .lst q (fun z => z.elim (fun z => (w _ z).elim (fun z => n (.inl z)) fun z => by rw [q] at z; cases z) fun z => n (.inr z)) (RpL.strong w r)
  | _, _, .scr q r => .scr q (RpL.strong w r)
  | _, _, .dct q n => .dct q (fun z => z.elim (fun z => (w _ z).elim (fun z => n (.inl z)) fun z => by rw [q] at z; cases z) fun z => n (.inr z))
  | _, _, .obj q n l r => .obj q (fun z => z.elim (fun z => (w _ z).elim (fun z => n (.inl z)) fun z => by rw [q] at z; cases z) fun z => n (.inr z)) l (RpL.strong w r)
theorem RpL.strong {B' : Addr → Prop} (w : ∀ a, B' a → B a ∨ H a = none) : ∀ {l : List PV} {xs : List V}, RpL A (Xc B m h) H l xs → RpL A (Xc B' m h) H l xs
  | _, _, .nil => .nil
  | _, _, .cons q r => .cons (Rp.strong w q) (RpL.strong w r)
end
mutual
theorem Rp.weak {L L' : Addr → Prop} (w : ∀ a, L' a → L a) : ∀ {p : PV} {v : V}, Rp A L H p v → Rp A L' H p v
  | _, _, .non => .non
  | _, _, .bl b => .bl b
  | _, _, .int i => .int i
  | _, _, .str x => .str x
  | _, _, .fn f => .fn f
  | _, _, .tup q r => .tup q (RpL.weak w r)
  | _, _, .lst q n r => .lst q (fun y => n (w _ y)) (RpL.weak w r)
  | _, _, .scr q r => .scr q (RpL.weak w r)
  | _, _, .dct q n => .dct q (fun y => n (w _ y))
  | _, _, .obj q n l r => .obj q (fun y => n (w _ y)) l (RpL.weak w r)
theorem RpL.weak {L L' : Addr → Prop} (w : ∀ a, L' a → L a) : ∀ {l : List PV} {xs : List V}, RpL A L H l xs → RpL A L' H l xs
  | _, _, .nil => .nil
  | _, _, .cons q r => .cons (Rp.weak w q) (RpL.weak w r)
end
theorem RpL.get {L : Addr → Prop} : ∀ {l : List PV} {xs : List V} {i : Nat} {p : PV}, RpL A L H l xs → l[i]? = some p → ∃ v, xs[i]? = some v ∧ Rp A L H p v
  | _, _, _, _, .nil, e => by simp at e
  | _, _, 0, _, .cons q _, e => by simp at e; subst e; exact ⟨_, rfl, q⟩
  | _, _, i + 1, p, .cons _ r, e => by
    obtain ⟨v, h1, h2⟩ := RpL.get (i := i) (p := p) r (by simpa using e)
    exact ⟨v, by simpa using h1, h2⟩
theorem RpL.reps {L : Addr → Prop} {l : List PV} {xs : List V} (r : RpL A L H l xs) : ∀ n : Nat, RpL A L H (List.replicate n l).flatten (List.replicate n xs).flatten
  | 0 => .nil
  | n + 1 => by
    rw [List.replicate_succ, List.replicate_succ, List.flatten_cons, List.flatten_cons]
    exact r.append (RpL.reps r n)
/-- a new cell -/
theorem Sim.cell_newG (S : Sim A B m h H) {p : Addr} {l : List PV} {o : HO} (e : H p = none)
    (q : Mv m h H (m ++ [p]) (h ++ [some l]) (upd H p o) → CellR A (Xc B (m ++ [p]) (h ++ [some l])) (upd H p o) l p) :
    Mv m h H (m ++ [p]) (h ++ [some l]) (upd H p o) ∧ Sim A B (m ++ [p]) (h ++ [some l]) (upd H p o) := by
  have hl := S.len
  have inv : ∀ {i : Nat} {c : List PV} {a : Addr}, (h ++ [some l])[i]? = some (some c) → (m ++ [p])[i]? = some a → (h[i]? = some (some c) ∧ m[i]? = some a) ∨ (i = h.length ∧ c = l ∧ a = p) := fun {i c a} h1 h2 => by
    by_cases hi : i < h.length
    · rw [List.getElem?_append_left hi] at h1
      rw [List.getElem?_append_left (by omega)] at h2
      exact .inl ⟨h1, h2⟩
    · rw [List.getElem?_append_right (by omega)] at h1
      rw [List.getElem?_append_right (by omega)] at h2
      have hz : i - h.length = 0 := by
        by_cases hz : i - h.length = 0
        · exact hz
        · rw [List.getElem?_eq_none (by simp; omega)] at h1; cases h1
      have hz2 : i - m.length = 0 := by omega
      rw [hz] at h1
      rw [hz2] at h2
      simp at h1 h2
      exact .inr ⟨by omega, h1.symm, h2.symm⟩
  have lv : ∀ a, Lv (m ++ [p]) (h ++ [some l]) a → Lv m h a ∨ a = p := fun a ⟨i, c, h1, h2⟩ => (inv h1 h2).elim (fun z => .inl ⟨i, c, z.1, z.2⟩) fun z => .inr z.2.2
  have M : Mv m h H (m ++ [p]) (h ++ [some l]) (upd H p o) := .ext ⟨[p], rfl⟩ (fun b u r _ => by rw [upd_ne (L2.ne_of_none r e)]; exact r) fun b u r n z => (lv b z).elim n fun z => by rw [z, e] at r; cases r
  refine ⟨M, by simp [hl], fun i c a h1 h2 => ?_, fun i j c d a h1 h2 h3 h4 => ?_, fun a b z => ?_, fun a b => ?_, tabs_new S.tb e⟩
  · rcases inv h1 h2 with ⟨z1, z2⟩ | ⟨_, rfl, rfl⟩
    · have z := S.cell i c a z1 z2
      obtain ⟨u, hu, _⟩ := z.some
      exact z.same (by rw [upd_ne (L2.ne_of_none hu e)]) (fun _ _ r => Rp.move S M r) fun _ _ r => RpL.move S M r
    · exact q M
  · rcases inv h1 h3 with ⟨z1, z2⟩ | ⟨z1, _, z3⟩ <;> rcases inv h2 h4 with ⟨z4, z5⟩ | ⟨z4, _, z6⟩
    · exact S.inj i j c d a z1 z4 z2 z5
    · subst z6
      obtain ⟨ys, h5, _⟩ := (S.cell i c a z1 z2).some
      rw [e] at h5; cases h5
    · subst z3
      obtain ⟨ys, h5, _⟩ := (S.cell j d a z4 z5).some
      rw [e] at h5; cases h5
    · omega
  · rcases lv a z with z | z
    · exact S.bn a b z
    · subst z
      obtain ⟨o, e', _⟩ := S.bt a b
      rw [e] at e'; cases e'
  · obtain ⟨o', e', n'⟩ := S.bt a b
    exact ⟨o', by rw [upd_ne (L2.ne_of_none e' e)]; exact e', n'⟩
theorem Sim.cell_new (S : Sim A B m h H) {p : Addr} {l : List PV} {xs : List V} (e : H p = none) (q : RpL A (Xc B m h) H l xs) :
    Mv m h H (m ++ [p]) (h ++ [some l]) (upd H p (.lst xs)) ∧ Sim A B (m ++ [p]) (h ++ [some l]) (upd H p (.lst xs)) :=
  S.cell_newG e fun M => .inl ⟨xs, upd_same, q.move S M⟩
/-- a new object, its dict, no field yet -/
theorem Sim.obj_new (S : Sim A B m h H) {x dx : Addr} (k : Nat) (e : H x = none) (e2 : H dx = none) (ne : dx ≠ x) :
    Mv m h H (m ++ [x]) (h ++ [some [.obj k []]]) (upd (upd H dx (.own x)) x (.ins (A.O k).C dx [])) ∧ Sim A B (m ++ [x]) (h ++ [some [.obj k []]]) (upd (upd H dx (.own x)) x (.ins (A.O k).C dx [])) := by
  obtain ⟨M1, S1⟩ := S.news (o := .own x) e2
  obtain ⟨M2, S2⟩ := S1.cell_newG (p := x) (l := [.obj k []]) (o := .ins (A.O k).C dx []) (by rw [upd_ne (Ne.symm ne)]; exact e) fun M => .inr ⟨k, [], rfl, dx, [], upd_same, Nat.zero_le _, rfl, fun t p v e1 => by simp at e1⟩
  exact ⟨M1.trans M2, S2⟩
/-- fewer cells are looked at -/
theorem Sim.less (S : Sim A B m h H) {m' : List Addr} {h' : Hs} (hl : m'.length = h'.length) (w : ∀ (i : Nat) (c : List PV) (a : Addr), h'[i]? = some (some c) → m'[i]? = some a → ∃ j : Nat, h[j]? = some (some c) ∧ m[j]? = some a)
    (inj : ∀ (i j : Nat) (c d : List PV) (a : Addr), h'[i]? = some (some c) → h'[j]? = some (some d) → m'[i]? = some a → m'[j]? = some a → i = j) : Sim A B m' h' H ∧ ∀ a, Lv m' h' a → Lv m h a := by
  have lv : ∀ a, Lv m' h' a → Lv m h a := fun a ⟨i, c, e1, e2⟩ => let ⟨j, e3, e4⟩ := w i c a e1 e2; ⟨j, c, e3, e4⟩
  refine ⟨⟨hl, fun i c a e1 e2 => ?_, inj, fun a b z => S.bn a b (lv a z), S.bt, S.tb⟩, lv⟩
  obtain ⟨j, e3, e4⟩ := w i c a e1 e2
  exact (S.cell j c a e3 e4).same rfl (fun _ _ r => r.weak fun b z => z.imp id (lv b)) fun _ _ r => r.weak fun b z => z.imp id (lv b)
/-- a cell is let go, its thing stays as it is -/
theorem Sim.freezeG (S : Sim A B m h H) {i : Nat} {c : List PV} {a : Addr} (e1 : h[i]? = some (some c)) (e2 : m[i]? = some a) :
    Mv m h H m (h.set i none) H ∧ Sim A B m (h.set i none) H ∧ (∀ b, Lv m (h.set i none) b → Lv m h b) ∧ ¬ Xc B m (h.set i none) a := by
  have at_ : ∀ {j : Nat} {d : List PV}, (h.set i none)[j]? = some (some d) → j ≠ i ∧ h[j]? = some (some d) := fun {j d} q => by
    by_cases hj : i = j
    · subst hj
      by_cases hi : i < h.length
      · rw [List.getElem?_set_self hi] at q; cases q
      · rw [List.getElem?_eq_none (by simpa using hi)] at q; cases q
    · rw [List.getElem?_set_ne hj] at q
      exact ⟨fun z => hj z.symm, q⟩
  obtain ⟨S', lv⟩ := S.less (m' := m) (h' := h.set i none) (by simp [S.len]) (fun j d b q1 q2 => ⟨j, (at_ q1).2, q2⟩) (fun j k d1 d2 b q1 q2 q3 q4 => S.inj j k d1 d2 b (at_ q1).2 (at_ q2).2 q3 q4)
  refine ⟨.ext ⟨[], by simp⟩ (fun _ _ q _ => q) fun b _ _ n z => n (lv b z), S', lv, fun z => ?_⟩
  rcases z with z | ⟨j, d, z1, z2⟩
  · exact S.bn a z ⟨i, c, e1, e2⟩
  · exact (at_ z1).1 (S.inj j i d c a (at_ z1).2 e1 z2 e2)
theorem Sim.freeze (S : Sim A B m h H) {i : Nat} {c : List PV} {a : Addr} (e1 : h[i]? = some (some c)) (e2 : m[i]? = some a) (ql : ∃ xs, H a = some (.lst xs)) :
    Mv m h H m (h.set i none) H ∧ Sim A B m (h.set i none) H ∧ Rp A (Xc B m (h.set i none)) H (.lst c) (.ref a) := by
  obtain ⟨M, S', lv, nx⟩ := S.freezeG e1 e2
  obtain ⟨xs, q1, q2⟩ := S.cellL e1 e2 ql
  exact ⟨M, S', .lst q1 nx (q2.weak fun b z => z.imp id (lv b))⟩
/-- a cell's thing becomes another one of its kind -/
theorem Sim.writeG (S : Sim A B m h H) {i : Nat} {c l : List PV} {a : Addr} {o o2 : HO} (e1 : h[i]? = some (some c)) (e2 : m[i]? = some a) (ea : H a = some o) (tb : LamX.Tabs A.T (upd H a o2))
    (kl : ∀ xs, o = .lst xs → ∃ ys, o2 = .lst ys) (ki : ∀ C dx fs, o = .ins C dx fs → ∃ gs, o2 = .ins C dx gs ∧ ∀ f v, fixF f = true → fs.lookup f = some v → gs.lookup f = some v)
    (q : Mv m h H m (h.set i (some l)) (upd H a o2) → CellR A (Xc B m (h.set i (some l))) (upd H a o2) l a) :
    Mv m h H m (h.set i (some l)) (upd H a o2) ∧ Sim A B m (h.set i (some l)) (upd H a o2) := by
  have hi : i < h.length := (List.getElem?_eq_some_iff.mp e1).1
  have at_ : ∀ {j : Nat} {d : List PV}, (h.set i (some l))[j]? = some (some d) → (j = i ∧ d = l) ∨ (j ≠ i ∧ h[j]? = some (some d)) := fun {j d} q => by
    by_cases hj : i = j
    · subst hj
      rw [List.getElem?_set_self hi] at q
      cases q
      exact .inl ⟨rfl, rfl⟩
    · rw [List.getElem?_set_ne hj] at q
      exact .inr ⟨fun z => hj z.symm, q⟩
  have lv : ∀ b, Lv m (h.set i (some l)) b → Lv m h b := fun b ⟨j, d, z1, z2⟩ => (at_ z1).elim (fun z => by
    obtain ⟨rfl, rfl⟩ := z
    exact ⟨j, c, e1, z2⟩) fun z => ⟨j, d, z.2, z2⟩
  have M : Mv m h H m (h.set i (some l)) (upd H a o2) := by
    refine ⟨⟨[], by simp⟩, fun b o r _ n => ⟨by rw [upd_ne (fun z => n (by rw [z]; exact ⟨i, c, e1, e2⟩))]; exact r, fun z => n (lv b z)⟩, fun b xs r => ?_, fun b C dx fs r => ?_⟩
    · by_cases hb : b = a
      · subst hb
        rw [ea] at r
        obtain ⟨ys, rfl⟩ := kl xs (Option.some.inj r)
        exact ⟨ys, upd_same⟩
      · exact ⟨xs, by rw [upd_ne hb]; exact r⟩
    · by_cases hb : b = a
      · subst hb
        rw [ea] at r
        obtain ⟨gs, rfl, k⟩ := ki C dx fs (Option.some.inj r)
        exact ⟨gs, upd_same, k⟩
      · exact ⟨fs, by rw [upd_ne hb]; exact r, fun _ _ _ z => z⟩
  refine ⟨M, by simp [S.len], fun j d b z1 z2 => ?_, fun j k d1 d2 b z1 z2 z3 z4 => ?_, fun b z1 z2 => S.bn b z1 (lv b z2), fun b z1 => ?_, tb⟩
  · rcases at_ z1 with ⟨rfl, rfl⟩ | ⟨nj, z3⟩
    · rw [e2] at z2
      cases z2
      exact q M
    · have ne : b ≠ a := fun z => nj (S.inj j i d c a z3 e1 (by rw [← z]; exact z2) e2)
      exact (S.cell j d b z3 z2).same (by rw [upd_ne ne]) (fun _ _ r => Rp.moveC S.cl M r) fun _ _ r => RpL.moveC S.cl M r
  · have un : ∀ {j : Nat} {d : List PV}, (h.set i (some l))[j]? = some (some d) → ∃ d', h[j]? = some (some d') := fun {j d} z => (at_ z).elim (fun z => ⟨c, by rw [z.1]; exact e1⟩) fun z => ⟨d, z.2⟩
    obtain ⟨d3, z5⟩ := un z1
    obtain ⟨d4, z6⟩ := un z2
    exact S.inj j k d3 d4 b z5 z6 z3 z4
  · obtain ⟨o', e', n'⟩ := S.bt b z1
    have ne : b ≠ a := fun z => S.bn b z1 (by rw [z]; exact ⟨i, c, e1, e2⟩)
    exact ⟨o', by rw [upd_ne ne]; exact e', n'⟩
/-- a cell's list becomes another one -/
theorem Sim.write (S : Sim A B m h H) {i : Nat} {c l : List PV} {a : Addr} {xs : List V} (e1 : h[i]? = some (some c)) (e2 : m[i]? = some a) (ql : ∃ ys, H a = some (.lst ys)) (q : RpL A (Xc B m h) H l xs) :
    Mv m h H m (h.set i (some l)) (upd H a (.lst xs)) ∧ Sim A B m (h.set i (some l)) (upd H a (.lst xs)) := by
  obtain ⟨ys, ea⟩ := ql
  exact S.writeG e1 e2 ea (tabs_lst S.tb ea) (fun _ _ => ⟨_, rfl⟩) (fun _ _ _ z => nomatch z) fun M => .inl ⟨xs, upd_same, q.moveC S.cl M⟩
/-- an object's fields become others -/
theorem Sim.writeO (S : Sim A B m h H) {i k : Nat} {c fs : List PV} {a dx : Addr} {gs : List (Str × V)} {vs : List V} (e1 : h[i]? = some (some c)) (e2 : m[i]? = some a) (ea : H a = some (.ins (A.O k).C dx gs))
    (fx : ∀ f v, fixF f = true → gs.lookup f = some v → (((A.O k).N.take fs.length).zip vs).lookup f = some v) (hl : fs.length ≤ (A.O k).N.length) (q : RpFs A (Xc B m h) H fs vs) :
    Mv m h H m (h.set i (some (.obj k [] :: fs))) (upd H a (.ins (A.O k).C dx (((A.O k).N.take fs.length).zip vs))) ∧ Sim A B m (h.set i (some (.obj k [] :: fs))) (upd H a (.ins (A.O k).C dx (((A.O k).N.take fs.length).zip vs))) :=
  S.writeG e1 e2 ea (tabs_ins S.tb ea) (fun _ z => nomatch z) (fun C dx' fs' z => by cases z; exact ⟨_, rfl, fx⟩) fun M => .inr ⟨k, fs, rfl, dx, vs, upd_same, hl, q.map fun _ _ r => Rp.moveC S.cl M r⟩
theorem RpO.move {k i : Nat} {j : Option Nat} {v : V} (M : Mv m h H m' h' H') (q : RpO A m H k i j v) : RpO A m' H' k i j v := by
  obtain ⟨a, dx, gs, e, z, ea, q⟩ := q
  obtain ⟨gs', ea', fx⟩ := M.ki a _ dx gs ea
  refine ⟨a, dx, gs', M.at e, z, ea', fun l hl => ?_⟩
  obtain ⟨b, xs, q1, q2, q3, q4⟩ := q l hl
  obtain ⟨ys, q5⟩ := M.kl b xs q4
  exact ⟨b, ys, q1, fx _ _ q1 q2, M.at q3, q5⟩
theorem RpI.move (S : Sim A B m h H) (M : Mv m h H m' h' H') : ∀ {x : IT} {v : V}, RpI A B m h H x v → RpI A B m' h' H' x v
  | .p _, _, q => Rp.move S M q
  | .c _, _, ⟨a, e, z, l⟩ => ⟨a, M.at e, z, let ⟨_, q⟩ := l; M.kl _ _ q⟩
  | .o _ _ _, _, q => RpO.move M q
theorem tup_move (c : CL m h H) (M : Mv m h H m' h' H') {a : Addr} {xs : List V} (e : H a = some (.tup xs)) : H' a = some (.tup xs) := (M.keep a _ e (fun _ z => nomatch z) (c.notTup e (fun _ z => nomatch z) (fun _ _ _ z => nomatch z))).1
theorem RpR.ob_move {k i : Nat} {j : Option Nat} {v : V} (M : Mv m h H m' h' H') (q : RpR A B m h H (.ob k i j) v) {B' : Addr → Prop} : RpR A B' m' h' H' (.ob k i j) v := RpO.move M q
theorem RpI.rv : ∀ {x : IT} {v : V}, RpI A B m h H x v → RpR A B m h H (itR x) v
  | .p _, _, q => q
  | .c _, _, q => q
  | .o _ _ _, _, q => q
theorem RpR.move (S : Sim A B m h H) (M : Mv m h H m' h' H') : ∀ {x : RV} {v : V}, RpR A B m h H x v → RpR A B m' h' H' x v
  | .pv _, _, q => Rp.move S M q
  | .ref _, _, ⟨a, e, z, l⟩ => ⟨a, M.at e, z, let ⟨_, q⟩ := l; M.kl _ _ q⟩
  | .mat _, _, ⟨a, xs, e, e1, n, l, z⟩ => ⟨a, xs, e, (sqLH_move M e1 n).1, (sqLH_move M e1 n).2, l, fun j i q => let ⟨b, q1, q2, _, q3⟩ := z j i q; ⟨b, M.at q1, q2, M.kl _ _ q3⟩⟩
  | .vec _, _, ⟨a, xs, e, e1, n, l, z⟩ => ⟨a, xs, e, (sqLH_move M e1 n).1, (sqLH_move M e1 n).2, l, fun j i q => let ⟨y, q1, q2⟩ := z j i q; ⟨y, q1, q2.move S M⟩⟩
  | .ob _ _ _, _, q => RpR.ob_move M q
  | .two _ _ _ _, _, ⟨a, x, y, e, e1, q1, q2⟩ => ⟨a, x, y, e, tup_move S.cl M e1, RpO.move M q1, Rp.move S M q2⟩
theorem RpRs.move (S : Sim A B m h H) (M : Mv m h H m' h' H') : ∀ {x : List RV} {v : List V}, RpRs A B m h H x v → RpRs A B m' h' H' x v
  | _, _, .nil => .nil
  | _, _, .cons q r => .cons (q.move S M) (RpRs.move S M r)
theorem RpRs.append : ∀ {x y : List RV} {v w : List V}, RpRs A B m h H x v → RpRs A B m h H y w → RpRs A B m h H (x ++ y) (v ++ w)
  | _, _, _, _, .nil, s => s
  | _, _, _, _, .cons q r, s => .cons q (RpRs.append r s)
theorem RpRs.get : ∀ {x : List RV} {v : List V} {i : Nat} {a : RV}, RpRs A B m h H x v → x[i]? = some a → ∃ b, v[i]? = some b ∧ RpR A B m h H a b
  | _, _, _, _, .nil, e => by simp at e
  | _, _, 0, _, .cons q _, e => by simp at e; subst e; exact ⟨_, rfl, q⟩
  | _, _, i + 1, p, .cons _ r, e => by
    obtain ⟨v, h1, h2⟩ := RpRs.get (i := i) (a := p) r (by simpa using e)
    exact ⟨v, by simpa using h1, h2⟩
theorem RpRs.pvs : ∀ {ps : List PV} {v : List V}, RpRs A B m h H (ps.map RV.pv) v → RpL A (Xc B m h) H ps v
  | [], _, q => by cases q; exact .nil
  | p :: ps, _, q => by
    cases q with
    | cons q r => exact .cons q (RpRs.pvs r)
theorem Rw.scr {L : Addr → Prop} {l : List PV} {v : V} (q : Rw A L H (.scr l) v) : ∃ a xs, v = .ref a ∧ SqL A.K H a xs ∧ RpL A L H l xs := by
  cases q with
  | p q =>
    cases q with
    | scr q r =>
      rcases q with q | q
      · exact ⟨_, _, rfl, .inl (.inr q), r⟩
      · exact ⟨_, _, rfl, .inr q, r⟩
theorem Sl.move (S : Sim A B m h H) (M : Mv m h H m' h' H') {ρ : Env} {σ : L2.St} (s : Sl A B m h H ρ σ) : Sl A B m' h' H' ρ σ :=
  ⟨s.len, fun i v e => let ⟨w, e1, e2⟩ := s.at_ i v e; ⟨w, e1, e2.move S M⟩⟩
theorem kill_some {ρ : Env} {i : Nat} {x : RV} : ∀ {vs : List Nat}, (kill ρ vs)[i]? = some (some x) → ρ[i]? = some (some x) ∧ i ∉ vs
  | [], h => ⟨h, by simp⟩
  | v :: vs, h => by
    rw [kill, List.getElem?_set] at h
    split at h
    · split at h <;> cases h
    · have out := kill_some h
      refine ⟨out.1, fun m => ?_⟩
      rcases List.mem_cons.mp m with rfl | m2
      · contradiction
      · exact out.2 m2
theorem kill_length (ρ : Env) : ∀ vs : List Nat, (kill ρ vs).length = ρ.length
  | [] => rfl
  | v :: vs => by unfold kill; rw [List.length_set, kill_length ρ vs]
theorem Sl.kill {ρ : Env} {σ : L2.St} (s : Sl A B m h H ρ σ) (vs : List Nat) : Sl A B m h H (kill ρ vs) σ :=
  ⟨by rw [kill_length]; exact s.len, fun i v e => s.at_ i v (kill_some e).1⟩
theorem Sl.wipe {ρ : Env} {σ : L2.St} (s : Sl A B m h H ρ σ) (vs : List Nat) : Sl A B m h H (G43.kill ρ vs) (L2.wipe σ vs) := by
  refine ⟨by rw [kill_length, L2.wipe_length]; exact s.len, fun i v e => ?_⟩
  obtain ⟨e1, e2⟩ := kill_some e
  obtain ⟨w, e3, e4⟩ := s.at_ i v e1
  exact ⟨w, by rw [L2.wipe_out e2]; exact e3, e4⟩
end
end G43
set_option Elab.async false
set_option linter.all false
set_option maxRecDepth 100000
set_option maxHeartbeats 4100000
namespace G43
open PySem PySem.Spec PyProof.Rows
open L2 (V HO Hp SqL SqT upd upd_same upd_ne Cx VK TE TA TS PE PA PS PSs XK Sp Room Vals Inv thn Un CXT exo exd OexC)
/-! ### errors with fields -/
/-- what the head tells of such a class -/
structure ExfAt (A : Ad) (K : PySem.W.Frag) (mg : Str → Option Value) (c : Nat) (x : Str) : Prop where
  mg_ : mg x = some (.ref (A.CA c))
  ox : OexC K (A.CA c)
  no : ∀ f ∈ fldN c, PySem.W.findIn K (.ref (A.CA c)) f = some none
  ini : ∃ (fI : Addr) (fd : FuncData) (nm qual : Str) (params : Arguments) (body : List Stmt) (scope : Scope), PySem.W.findIn K (.ref (A.CA c)) "__init__" = some (some (.ref fI)) ∧ PySem.W.typeIn K (.ref fI) = some (.type "function") ∧
    L2.FunD K nm qual params body scope [] [] fI fd ∧ L2.FnScope ("self" :: fldN c) ("self" :: fldN c) scope ∧ L2.Binds K fd ("self" :: fldN c) [] ∧ scope.names.lookup ("ClockError" : Str) = some .globalImplicit ∧
    ∃ p1 p2 p3 p4 j p5 p6 m rest, body = .Expr (.Call (.Attribute (.Name "ClockError" p1) "__init__" p2) [.Name "self" p3, .Constant (.str m) j p4] [] p5) p6 :: rest ∧ (p2.endLine == p5.line) = true ∧
      ((c = 17 ∧ ∃ q1 q2 q3 q4 r1 r2 r3 r4, rest = [.Assign [.Attribute (.Name "self" q1) "many" q2] (.Name "many" q3) q4, .Assign [.Attribute (.Name "self" r1) "most" r2] (.Name "most" r3) r4]) ∨
        (c = 18 ∧ ∃ q1 q2 q3 q4, rest = [.Assign [.Attribute (.Name "self" q1) "at" q2] (.Name "at" q3) q4]))
  ce : ∃ CE, mg "ClockError" = some (.ref CE) ∧ PySem.W.readsIn K CE (.type "type") = true ∧ PySem.W.specialIn K (.ref CE) "__getattribute__" = some (some (.builtin "type.__getattribute__")) ∧
    PySem.W.findCls K (.ref CE) (.type "type") "__init__" = some (.val (.builtin "ValueError.__init__"))
/-- ClockError.__init__(self, ..) -/
theorem pe_ceini {X : Cx} {CE : Addr} {e : Expr} {es : List Expr} {ta : TA} {p1 p2 pos : Pos} (hg : L2.Gl X "ClockError") (hm : X.mg "ClockError" = some (.ref CE)) (rd : PySem.W.readsIn X.K CE (.type "type") = true) (ga : PySem.W.specialIn X.K (.ref CE) "__getattribute__" = some (some (.builtin "type.__getattribute__")))
    (vV : PySem.W.findCls X.K (.ref CE) (.type "type") "__init__" = some (.val (.builtin "ValueError.__init__"))) (ha : PA X (e :: es) ta)
    (hl : (p2.endLine == pos.line) = true) (hf : methodCallForm ((e :: es).length + ([] : List Keyword).length) (backTo pos (starEach (e :: es) X.env)) (backToKw pos (keywordEach [] X.env)) = true := by rfl)
    (he : starEach (e :: es) X.env = (false, eval e X.env) :: starEach es X.env := by rfl) (hpl : (backTo pos (starEach es X.env)).any (·.1) = false := by rfl) :
    PE X (.Call (.Attribute (.Name "ClockError" p1) "__init__" p2) (e :: es) [] pos) (L2.tVeI X.K ta) := by
  constructor
  intro pins s σ H Q I w
  have hc : eval (.Call (.Attribute (.Name "ClockError" p1) "__init__" p2) (e :: es) [] pos) X.env = (do
      let o ← eval (.Name "ClockError" p1) X.env
      standAt p2.atName
      let (f, first) ← holding [o] (getMethod o "__init__" (do return (← importBound (.Name "ClockError" p1) X.env).getD true))
      callWith pos f first (backTo pos (starEach (e :: es) X.env)) (backToKw pos (keywordEach [] X.env))) := by
    rw [PySem.arm_eval_Call]
    show (do
      let o ← eval (.Name "ClockError" p1) X.env
      standAt p2.atName
      methodCall (.Name "ClockError" p1) "__init__" p2 pos X.env o ((e :: es).length + ([] : List Keyword).length) (backTo pos (starEach (e :: es) X.env)) (backToKw pos (keywordEach [] X.env))) = _
    congr 1
    funext o
    congr 1
    funext _
    unfold methodCall
    rw [hf]
    unfold methodCallPos calleeOf
    simp [hl]
  apply PySem.W.methodCall_KW _ hc
  apply L2.ld_glob I hg hm _ (by decide)
  apply PySem.W.method_cls I.kIn ga
  apply PySem.W.cls_value I.kIn rd vV (by decide +kernel)
  show wpAny _ _ (callWith pos (Value.builtin "ValueError.__init__") [] (backTo pos (starEach (e :: es) X.env)) []) _ _ _
  apply PyProof.Rows.callWith_method1 (thn (ha.run pos pins _ σ H _ (I.tok _) w) _) he hpl
  rintro us s1 ⟨_, H1, I1, rel, a, C, ws, rfl, small, T, at_, fin⟩
  match us, rel with
  | u :: us, .cons r rs =>
    obtain rfl : u = Value.ref a := r
    refine L2.oinit_ok T I1 at_ ?_ fun s2 J => ⟨.non, H1, J, rfl, fin⟩
    rw [← Paired.length rs]
    exact Nat.le_trans small (by decide)
/-- what such an __init__ does -/
def spFi (C : Addr) (fs : List Str) : Sp := fun vs H Q _ => ∃ a ys, vs = .ref a :: ys ∧ ys.length = fs.length ∧ H a = some (exo a C none) ∧
  ∀ dx, H dx = none → dx ≠ a → ∀ H2, (∀ b, b ≠ a → b ≠ dx → H2 b = H b) → H2 a = some (exo a C (some dx)) → H2 dx = some (exd dx (fs.zip ys).reverse) → Q .non H2
theorem ini_ok {A : Ad} {K : PySem.W.Frag} {mg : Str → Option Value} {c : Nat} {x : Str} (T : ExfAt A K mg c x) : ∃ (fI : Addr) (fd : FuncData), PySem.W.findIn K (.ref (A.CA c)) "__init__" = some (some (.ref fI)) ∧ PySem.W.typeIn K (.ref fI) = some (.type "function") ∧ L2.Binds K fd ("self" :: fldN c) [] ∧
    ∀ Pr w base, L2.FnOk Pr w K mg base L2.CX0 1 fI fd ("self" :: fldN c) (spFi (A.CA c) (fldN c)) := by
  obtain ⟨fI, fd, nm, qual, params, body, scope, i1, i2, F, S, b, gc, p1, p2, p3, p4, j, p5, p6, m, rest, rfl, hl, sh⟩ := T.ini
  obtain ⟨CE, m1, m2, m3, m4⟩ := T.ce
  refine ⟨fI, fd, i1, i2, b, fun Pr w base => F.ok (N := "self" :: fldN c) S (fun vs H Q E z => ?_) fun cdv Ar outer s H vs Q E hr z => ?_⟩
  · obtain ⟨a, ys, rfl, e, _⟩ := z
    simp [e]
  · obtain ⟨a, ys, rfl, len, at_, fin⟩ := z
    have vis : ∀ y ∈ ("self" : Str) :: fldN c, L2.Vis scope y := fun y hy => S.par y hy |>.imp id fun q => .inl q
    have ce := fun {X : Cx} (hN : X.N[0]? = some ("self" : Str)) (hs : X.env.scope = scope) (hK : X.K = K) (hm : X.mg = mg) => pe_ceini (X := X) (p1 := p1) (p2 := p2) (pos := p5) (CE := CE) (show X.env.scope.names.lookup _ = _ by rw [hs]; exact gc) (by rw [hm]; exact m1) (by rw [hK]; exact m2) (by rw [hK]; exact m3) (by rw [hK]; exact m4)
      (L2.pa_cons (L2.pe_var (pos := p3) (i := 0) hN (by rw [hs]; exact vis _ (.head _))) (L2.pa_cons (L2.pe_str (x := m) (j := j) (pos := p4)) L2.pa_nil)) hl
    rcases sh with ⟨rfl, q1, q2, q3, q4, r1, r2, r3, r4, rfl⟩ | ⟨rfl, q1, q2, q3, q4, rfl⟩
    · match ys, len with
      | [y, z], _ =>
        refine ⟨_, L2.pss_cons (L2.ps_expr (ce rfl rfl rfl rfl)) (L2.pss_cons (L2.ps_ost (L2.pe_var (i := 0) rfl (vis _ (.head _))) (L2.pe_var (i := 1) rfl (vis _ (by simp [fldN])))) (L2.pss_cons (L2.ps_ost (L2.pe_var (i := 0) rfl (vis _ (.head _))) (L2.pe_var (i := 2) rfl (vis _ (by simp [fldN])))) L2.pss_nil)), ?_⟩
        refine ⟨.ref a, rfl, a, A.CA 17, [.str m], rfl, by simp, T.ox, at_, ?_⟩
        refine ⟨y, rfl, .ref a, rfl, a, A.CA 17, rfl, T.ox, T.no _ (by simp [fldN]), .inl ⟨at_, fun dx nd ne => ?_⟩⟩
        refine ⟨z, rfl, .ref a, rfl, a, A.CA 17, rfl, T.ox, T.no _ (by simp [fldN]), .inr ⟨dx, [("many", y)], upd_same, (upd_ne ne).trans upd_same, by simp, ?_⟩⟩
        refine fin dx nd ne _ (fun b h1 h2 => by rw [upd_ne h2, upd_ne h1, upd_ne h2]) (by rw [upd_ne (Ne.symm ne), upd_same]) upd_same
    · match ys, len with
      | [y], _ =>
        refine ⟨_, L2.pss_cons (L2.ps_expr (ce rfl rfl rfl rfl)) (L2.pss_cons (L2.ps_ost (L2.pe_var (i := 0) rfl (vis _ (.head _))) (L2.pe_var (i := 1) rfl (vis _ (by simp [fldN])))) L2.pss_nil), ?_⟩
        refine ⟨.ref a, rfl, a, A.CA 18, [.str m], rfl, by simp, T.ox, at_, ?_⟩
        refine ⟨y, rfl, .ref a, rfl, a, A.CA 18, rfl, T.ox, T.no _ (by simp [fldN]), .inl ⟨at_, fun dx nd ne => ?_⟩⟩
        exact fin dx nd ne _ (fun b h1 h2 => by rw [upd_ne h1, upd_ne h2]) upd_same ((upd_ne ne).trans upd_same)
/-- X(e, ..) -/
theorem pmk_fld {A : Ad} {X : Cx} {c : Nat} {x : Str} {e : Expr} {es : List Expr} {ta : TA} {p pos : Pos} (T : ExfAt A X.K X.mg c x) (hr : Room 2 X.A) (hg : L2.Gl X x) (hdb : (x == ("__debug__" : Str)) = false) (ha : PA X (e :: es) ta)
    (he : starEach (e :: es) X.env = (false, eval e X.env) :: starEach es X.env) (hpl : (backTo pos (starEach es X.env)).any (·.1) = false) :
    L2.PMk X (.Call (.Name x p) (e :: es) [] pos) (L2.tMkO (A.CA c) (spFi (A.CA c) (fldN c)) [] ta) := by
  obtain ⟨fI, fd, i1, i2, b, F⟩ := ini_ok T
  exact L2.pmk_oex (X := X) (p := p) (pos := pos) (dvs := []) T.ox i1 i2 (F X.prog X.w X.base) hr b .nil (fun _ _ _ _ _ _ _ h => h.elim) hg T.mg_ ha hdb he hpl
/-- the new error's dict alone is told -/
theorem fld_in {C : Addr} {fs : List Str} {vs : List V} {H : Hp} {Q : XK} (len : vs.length = fs.length) (small : fs.length ≤ 2) (k : ∀ d, H d = none → Q (.ref C) (some d) (upd H d (.xd (fs.zip vs).reverse))) :
    vs.length ≤ 1000 ∧ ∀ a, H a = none → spFi C fs (.ref a :: (vs ++ [])) (upd H a (exo a C none)) (fun v H2 => v = .non ∧ ∃ (d : Addr) (gs : List (Str × V)), H2 a = some (exo a C (some d)) ∧ H2 d = some (exd d gs) ∧ H d = none ∧ Q (.ref C) (some d) (upd (L2.del H2 a) d (.xd gs))) (fun _ _ _ => False) := by
  refine ⟨by omega, fun a na => ⟨a, vs, by rw [List.append_nil], len, upd_same, fun dx nd ne H2 old h1 h2 => ?_⟩⟩
  rw [upd_ne ne] at nd
  refine ⟨rfl, dx, _, h1, h2, nd, ?_⟩
  have same : upd (L2.del H2 a) dx (.xd (fs.zip vs).reverse) = upd H dx (.xd (fs.zip vs).reverse) := by
    funext b
    by_cases e : b = dx
    · rw [e, upd_same, upd_same]
    · rw [upd_ne e, upd_ne e]
      by_cases e2 : b = a
      · rw [e2, L2.del_same, na]
      · rw [L2.del_ne e2, old b e2 e, upd_ne e2]
  rw [same]
  exact k dx nd
theorem oexB_ok {K : PySem.W.Frag} {C : Addr} (h : oexB K C = true) : OexC K C := by
  unfold oexB at h
  simp only [Bool.and_eq_true, decide_eq_true_eq] at h
  obtain ⟨⟨⟨⟨h1, h2⟩, h3⟩, h4⟩, h5⟩ := h
  refine ⟨?_, h2, h3, h4, h5⟩
  split at h1
  case h_1 dd cd sl at_ =>
    split at h1
    case h_1 C' bm k0 k1 k2 k3 n k5 mro slots =>
      simp only [Bool.and_eq_true, beq_iff_eq, Bool.not_eq_true'] at h1
      obtain ⟨⟨⟨⟨rfl, rfl⟩, hdel⟩, hdict⟩, hbm⟩ := h1
      rcases cd with ⟨nm, bs, m, ns, qn, hd, sn, sub, ab, col, del⟩
      rcases sl with ⟨l⟩
      dsimp only at mro slots hdel hdict
      subst mro hdel hdict slots
      exact ⟨nm, qn, ns, bs, bm, sn, sub, ab, col, dd, k0, k1, k2, k3, k5, at_, hbm⟩
    case h_2 => cases h1
  case h_2 => cases h1
theorem ceB_ok {K : PySem.W.Frag} {CE : Addr} (h : ceB K CE = true) : PySem.W.readsIn K CE (.type "type") = true ∧ PySem.W.specialIn K (.ref CE) "__getattribute__" = some (some (.builtin "type.__getattribute__")) ∧
    PySem.W.findCls K (.ref CE) (.type "type") "__init__" = some (.val (.builtin "ValueError.__init__")) := by
  unfold ceB at h
  simp only [Bool.and_eq_true, decide_eq_true_eq] at h
  refine ⟨h.1.1, h.1.2, ?_⟩
  have h3 := h.2
  split at h3
  case h_1 n e => rw [e, eq_of_beq h3]
  case h_2 => cases h3
end G43
set_option Elab.async false
set_option linter.all false
set_option maxRecDepth 100000
set_option maxHeartbeats 4100000
namespace G43
open PySem PySem.Spec PyProof.Rows
open L2 (V HO Hp SqL SqT Rd upd upd_same upd_ne Cx OpR R2 VK)
/-! ### an empty tuple times a number: the same tuple -/
theorem nil_times (a : Addr) (m : Nat) (dd : Option Addr) (sl : Array (Option Value)) (k : Int) (u : Tok) (small : (decide (k < -(2 ^ 63)) || decide (k ≥ 2 ^ 63)) = false) :
    Meets (Builtin.«tuple.__mul__» ⟨[.ref a, .int k u], []⟩) (fun _ R s => s.heap.get? a = some { cls := .type "tuple", dict := dd, data := .seq #[] m, slots := sl } ∧ R (.ok (.ret (Value.ref a))) s) := by
  have no : ¬ ((decide (k < -(2 ^ 63)) || decide (k ≥ 2 ^ 63)) = true) := by rw [small]; decide
  refine .of_wp fun P w A R s => ?_
  rcases s with ⟨hp, g, d, tk, os⟩
  rintro ⟨cell, fin⟩
  have idx := AutoSeq1.idx_int
  wp_walk using wpAny_loadPart' cell
  repeat
    first
    | apply wpAny_ite_false (decide_eq_false no)
    | apply wpAny_ite_true (decide_eq_true rfl)
    wp_walk using wpAny_loadPart' cell
  exact ⟨_, rfl, fin⟩
def rRep0 (K : PySem.W.Frag) : R2 := fun x y H Q => ∃ l k, x = .ref l ∧ y = .int k ∧ SqT K H l [] ∧ 2 ≤ k ∧ k ≤ 1000 ∧ Q (.ref l) H
theorem op_rep0 {X : Cx} : OpR X (binaryOp .Mult) (rRep0 X.K) := by
  rintro pins s σ H x y v u Q I rx ry ⟨a, k, rfl, rfl, sq, lo, hi, fin⟩
  obtain rfl : v = Value.ref a := rx
  obtain ⟨t, rfl⟩ := ry
  obtain ⟨us, vals, ⟨⟨cls, dd, dat, sl⟩, cell, ec, m, ed⟩, _⟩ := I.tuple sq
  obtain rfl : cls = Value.type "tuple" := ec
  obtain rfl : dat = Data.seq us.toArray m := ed
  obtain rfl : us = [] := List.length_eq_zero_iff.mp vals.length.symm
  have small : (decide (k < -(2 ^ 63)) || decide (k ≥ 2 ^ 63)) = false := Bool.or_eq_false_iff.mpr ⟨decide_eq_false (by omega), decide_eq_false (by omega)⟩
  have isT : s.TypeIs (.ref a) "tuple" := ⟨_, cell, rfl⟩
  have mul := call_meets (prog := X.prog) (w := X.w) (A := X.A) (E := X.xe) (Q := L2.EP X pins σ Q) F.slot_tuple_mul isT F.entry_tuple_mul (F.args_tuple_mul_2 _ _) (nil_times a m dd sl k t small) ⟨cell, ⟨.ref a, H, I, rfl, fin⟩⟩
  exact wpAny_binaryOp_repeat_ref (T := "tuple") (U := "int") (by decide) isT (fun z => typeIs_int z k t) L2.noFill_tuple_mul F.fills_int_mul F.slot_int_rmul L2.repeat_tuple F.slot_int_index.lookup
    (call_meets F.slot_int_rmul (typeIs_int s k t) F.entry_int_rmul (F.args_int_rmul_2 _ _) (L2.int_rmul_tuple k t a #[] m dd sl) ⟨cell, rfl, isT, mul⟩)
end G43
set_option Elab.async false
set_option linter.all false
set_option maxRecDepth 100000
set_option maxHeartbeats 4000000
namespace G43
open PySem
open PySem.Spec PyProof.Rows
open L2 (V HO Hp SqL SqT Rd upd upd_same upd_ne Cx OpR R2 VK CallR IxR SlR)
/-! ### values as plain data -/
theorem Dt_up : ∀ {n : Nat} {a : PV}, Dt n a → Dt (n + 1) a
  | n, .non, _ => by simp [Dt]
  | n, .bl _, _ => by simp [Dt]
  | n, .int _, _ => by simp [Dt]
  | n, .str _, h => by
    cases n <;> simpa [Dt] using h
  | 0, .tup _, h => by simp [Dt] at h
  | 0, .lst _, h => by simp [Dt] at h
  | n + 1, .tup l, h => by
    have h' : ∀ x ∈ l, Dt n x := by simpa [Dt] using h
    simp only [Dt]
    exact fun x hx => Dt_up (h' x hx)
  | n + 1, .lst l, h => by
    have h' : ∀ x ∈ l, Dt n x := by simpa [Dt] using h
    simp only [Dt]
    exact fun x hx => Dt_up (h' x hx)
  | n, .fn _, h => by cases n <;> simp [Dt] at h
  | n, .obj _ _, h => by cases n <;> simp [Dt] at h
  | n, .scr _, h => by cases n <;> simp [Dt] at h
  | n, .dct _, h => by cases n <;> simp [Dt] at h
mutual
theorem peq_dat : ∀ (n : Nat) (a b : PV), Dt n a → Dt n b → peq a b = PyData.eqv (dat a) (dat b)
  | n, .non, b, ha, hb => by cases b <;> simp [peq, dat, PyData.eqv, Dt] at *
  | n, .bl x, b, ha, hb => by cases b <;> simp [peq, dat, PyData.eqv, Dt] at *
  | n, .int x, b, ha, hb => by cases b <;> simp [peq, dat, PyData.eqv, Dt] at *
  | n, .str x, b, ha, hb => by cases b <;> simp [peq, dat, PyData.eqv, Dt] at *
  | 0, .tup x, b, ha, hb => by simp [Dt] at ha
  | 0, .lst x, b, ha, hb => by simp [Dt] at ha
  | n + 1, .tup x, b, ha, hb => by
    cases b with
    | tup y =>
      simp only [peq, dat, PyData.eqv]
      exact peqL_dat n x y (by simpa [Dt] using ha) (by simpa [Dt] using hb)
    | _ => simp [peq, dat, PyData.eqv, Dt] at *
  | n + 1, .lst x, b, ha, hb => by
    cases b with
    | lst y =>
      simp only [peq, dat, PyData.eqv]
      exact peqL_dat n x y (by simpa [Dt] using ha) (by simpa [Dt] using hb)
    | _ => simp [peq, dat, PyData.eqv, Dt] at *
  | n, .fn x, b, ha, hb => by cases n <;> simp [Dt] at ha
  | n, .obj _ x, b, ha, hb => by cases n <;> simp [Dt] at ha
  | n, .scr x, b, ha, hb => by cases n <;> simp [Dt] at ha
  | n, .dct _, b, ha, hb => by cases n <;> simp [Dt] at ha
theorem peqL_dat : ∀ (n : Nat) (a b : List PV), (∀ x ∈ a, Dt n x) → (∀ x ∈ b, Dt n x) → peqL a b = PyData.eqvAll (datL a) (datL b)
  | n, [], [], _, _ => rfl
  | n, [], _ :: _, _, _ => rfl
  | n, _ :: _, [], _, _ => rfl
  | n, x :: xs, y :: ys, ha, hb => by
    simp only [peqL, datL, PyData.eqvAll]
    rw [peq_dat n x y (ha x (by simp)) (hb y (by simp)), peqL_dat n xs ys (fun z hz => ha z (by simp [hz])) fun z hz => hb z (by simp [hz])]
end
mutual
theorem dat_lay : ∀ (n : Nat) (a : PV), Dt n a → (dat a).canLay0 = true ∧ (dat a).depth ≤ n
  | n, .non, h => by simp [dat, PyData.canLay0, PyData.depth]
  | n, .bl x, h => by simp [dat, PyData.canLay0, PyData.depth]
  | n, .int x, h => by simp [dat, PyData.canLay0, PyData.depth]
  | n, .str x, h => by
    have h' : PyData.strOk x = true := by cases n <;> simpa [Dt] using h
    simp [dat, PyData.canLay0, PyData.depth, h']
  | 0, .tup x, ha => by simp [Dt] at ha
  | 0, .lst x, ha => by simp [Dt] at ha
  | n + 1, .tup x, ha => by
    obtain ⟨h1, h2⟩ := datL_lay n x (by simpa [Dt] using ha)
    simp only [dat, PyData.canLay0, PyData.depth]
    exact ⟨h1, by omega⟩
  | n + 1, .lst x, ha => by
    obtain ⟨h1, h2⟩ := datL_lay n x (by simpa [Dt] using ha)
    simp only [dat, PyData.canLay0, PyData.depth]
    exact ⟨h1, by omega⟩
  | n, .fn x, ha => by cases n <;> simp [Dt] at ha
  | n, .obj _ x, ha => by cases n <;> simp [Dt] at ha
  | n, .scr x, ha => by cases n <;> simp [Dt] at ha
  | n, .dct _, ha => by cases n <;> simp [Dt] at ha
theorem datL_lay : ∀ (n : Nat) (a : List PV), (∀ x ∈ a, Dt n x) → PyData.canLayAll0 (datL a) = true ∧ PyData.depthAll (datL a) ≤ n
  | n, [], _ => by simp [datL, PyData.canLayAll0, PyData.depthAll]
  | n, x :: xs, ha => by
    obtain ⟨h1, h2⟩ := dat_lay n x (ha x (by simp))
    obtain ⟨h3, h4⟩ := datL_lay n xs fun z hz => ha z (by simp [hz])
    simp only [datL, PyData.canLayAll0, PyData.depthAll]
    exact ⟨by rw [h1, h3]; rfl, by omega⟩
end
theorem dat_shaped {n : Nat} {a : PV} (hn : n ≤ 64) (h : Dt n a) : SeqAt.shaped (dat a) = true := by
  obtain ⟨h1, h2⟩ := dat_lay n a h
  unfold SeqAt.shaped
  rw [h1, decide_eq_true (by omega)]
  rfl
section
variable {A : Ad} {B : Addr → Prop} {m : List Addr} {h : Hs} {H : Hp} {L : Addr → Prop}
mutual
theorem Rp.dp : ∀ {n : Nat} {p : PV} {v : V}, Rp A L H p v → Dt n p → L2.Dp A.K H v (dat p)
  | _, _, _, .non, _ => .non
  | _, _, _, .bl b, _ => .bl b
  | _, _, _, .int i, _ => .int i
  | _, _, _, .str x, _ => .str x
  | n, _, _, .fn f, h => by cases n <;> simp [Dt] at h
  | 0, _, _, .tup q r, h => by simp [Dt] at h
  | n + 1, _, _, .tup q r, h => .tup q (RpL.dp r (by simpa [Dt] using h))
  | 0, _, _, .lst q _ r, h => by simp [Dt] at h
  | n + 1, _, _, .lst q _ r, h => .lst (SqL.of q) (RpL.dp r (by simpa [Dt] using h))
  | n, _, _, .scr _ _, h => by cases n <;> simp [Dt] at h
  | n, _, _, .dct _ _, h => by cases n <;> simp [Dt] at h
  | n, _, _, .obj _ _ _ _, h => by cases n <;> simp [Dt] at h
theorem RpL.dp : ∀ {n : Nat} {l : List PV} {xs : List V}, RpL A L H l xs → (∀ x ∈ l, Dt n x) → L2.DpAll A.K H xs (datL l)
  | _, _, _, .nil, _ => .nil
  | n, _, _, .cons q r, h => .cons (Rp.dp q (h _ (by simp))) (RpL.dp r fun z hz => h z (by simp [hz]))
end
theorem Rw.dp {n : Nat} {p : PV} {v : V} (q : Rw A L H p v) (h : Dt n p) : L2.Dp A.K H v (dat p) := by
  cases q with
  | p q => exact q.dp h
  | c q r =>
    cases n with
    | zero => simp [Dt] at h
    | succ n => exact .lst (SqL.of q) (r.dp (n := n) (by simpa [Dt] using h))
end
section
variable {X : Cx} {A : Ad}
/-! ### a op b -/
def rB (A : Ad) (op : Operator) : R2 := fun x y H Q => ∃ B m h p q, Sim A B m h H ∧ Rw A (Xc B m h) H p x ∧ Rw A (Xc B m h) H q y ∧ wpBin op p q (Kp A B m h H Q)
theorem op_bin (hK : X.K = A.K) (op : Operator) : OpR X (binaryOp op) (rB A op) := by
  intro pins s σ H x y v u Q I rx ry z
  obtain ⟨B, m, h, p, q, S, rp, rq, z⟩ := z
  unfold wpBin at z
  split at z
  · cases rp.int; cases rq.int
    exact L2.op_add pins s σ H _ _ v u Q I rx ry ⟨_, _, rfl, rfl, z.here S (.int _)⟩
  · cases rp.str; cases rq.str
    exact L2.op_add_str pins s σ H _ _ v u Q I rx ry ⟨_, _, rfl, rfl, z.1, Kp.here S z.2 (.str _)⟩
  · obtain ⟨a, xs, rfl, e1, r1⟩ := rp.lst
    obtain ⟨b, ys, rfl, e2, r2⟩ := rq.lst
    exact L2.op_cat pins s σ H _ _ v u Q I rx ry ⟨a, b, xs, ys, rfl, rfl, e1, e2, by rw [r1.length, r2.length]; exact z.1, fun c e => Kp.lst S z.2 (r1.append r2) e⟩
  · obtain ⟨a, xs, rfl, e1, r1⟩ := rp.tup
    obtain ⟨b, ys, rfl, e2, r2⟩ := rq.tup
    refine L2.op_catA pins s σ H _ _ v u Q I rx ry ⟨a, b, xs, ys, rfl, rfl, by rw [hK]; exact e1, by rw [hK]; exact e2, by rw [r1.length, r2.length]; exact z.1, fun n => ?_, fun _ n => ?_, fun _ _ c e => Kp.tup S z.2 (r1.append r2) e⟩
    · subst n
      cases r1
      exact Kp.here S z.2 (.tup e2 r2)
    · subst n
      cases r2
      rw [List.append_nil] at z
      exact Kp.here S z.2 (.tup e1 r1)
  · cases rp.int; cases rq.int
    exact L2.op_sub pins s σ H _ _ v u Q I rx ry ⟨_, _, rfl, rfl, z.here S (.int _)⟩
  · cases rp.int; cases rq.int
    exact L2.op_mulW pins s σ H _ _ v u Q I rx ry ⟨_, _, rfl, rfl, z.1, Kp.here S z.2 (.int _)⟩
  · obtain ⟨a, xs, rfl, e1, r1⟩ := rp.tup
    cases rq.int
    obtain ⟨⟨n0, n1, n2, n3⟩, z⟩ := z
    by_cases hx : xs = []
    · subst hx
      cases r1
      rw [show ∀ n, (List.replicate n ([] : List PV)).flatten = [] by intro n; simp] at z
      exact op_rep0 pins s σ H _ _ v u Q I rx ry ⟨a, _, rfl, rfl, by rw [hK]; exact e1, n1, n2, Kp.here S z (.tup e1 .nil)⟩
    · exact L2.op_repT pins s σ H _ _ v u Q I rx ry ⟨a, _, xs, rfl, rfl, by rw [hK]; exact e1, hx, n1, n2, by rw [r1.length]; exact n3, fun c e => Kp.tup S z (r1.reps _) e⟩
  · obtain ⟨a, xs, rfl, e1, r1⟩ := rp.lst
    cases rq.int
    obtain ⟨⟨n0, n1, n2⟩, z⟩ := z
    exact L2.op_rep pins s σ H _ _ v u Q I rx ry ⟨a, _, xs, rfl, rfl, e1, n0, n1, by rw [r1.length]; exact n2, fun c e => Kp.lst S z (r1.reps _) e⟩
  · cases rp.int; cases rq.int
    exact L2.op_fdivW pins s σ H _ _ v u Q I rx ry ⟨_, _, rfl, rfl, z.1, Kp.here S z.2 (.int _)⟩
  · cases rp.int; cases rq.int
    exact L2.op_mod pins s σ H _ _ v u Q I rx ry ⟨_, _, rfl, rfl, z.1, Kp.here S z.2 (.int _)⟩
  · cases rp.int; cases rq.int
    exact L2.op_pow pins s σ H _ _ v u Q I rx ry ⟨_, _, rfl, rfl, z.1, Kp.here S z.2 (.int _)⟩
  · cases rp.int; cases rq.int
    exact L2.op_shl pins s σ H _ _ v u Q I rx ry ⟨_, _, rfl, rfl, z.1, Kp.here S z.2 (.int _)⟩
  · cases rp.int; cases rq.int
    exact L2.op_shr pins s σ H _ _ v u Q I rx ry ⟨_, _, rfl, rfl, z.1, Kp.here S z.2 (.int _)⟩
  · cases rp.int; cases rq.int
    exact L2.op_and pins s σ H _ _ v u Q I rx ry ⟨_, _, rfl, rfl, z.here S (.int _)⟩
  · exact z.elim
/-! ### comparisons -/
def rC (A : Ad) (op : CmpOp) : R2 := fun x y H Q => ∃ B m h p q, Sim A B m h H ∧ Rw A (Xc B m h) H p x ∧ Rw A (Xc B m h) H q y ∧ wpCmp op p q (fun r => Q (.bl r) H)
theorem inL_dat {n : Nat} {a : PV} (ha : Dt n a) : ∀ {l : List PV}, (∀ x ∈ l, Dt n x) → inL a l = (datL l).any fun z => PyData.eqv z (dat a)
  | [], _ => rfl
  | x :: r, h => by
    simp only [inL, datL, List.any_cons]
    rw [peq_dat n x a (h x (by simp)) ha, inL_dat ha fun z hz => h z (by simp [hz])]
theorem is_non {L : Addr → Prop} {H : Hp} {p : PV} {x : V} (r : Rw A L H p x) : isNon p = decide (x = .non) := by
  cases r with
  | p r => cases r <;> simp [isNon]
  | c _ _ => simp [isNon]
/-- flat values -/
def FlR (p : PV) (v : V) : Prop := L2.flatV v = true ∧ ∀ q w, (flat q = true ∧ L2.flatV w = true ∧ ((q = .non ∧ w = .non) ∨ (∃ b, q = .bl b ∧ w = .bl b) ∨ (∃ i, q = .int i ∧ w = .int i) ∨ ∃ x, q = .str x ∧ w = .str x)) → peq q p = L2.eqV w v
theorem Rp.flat {L : Addr → Prop} {H : Hp} {p : PV} {v : V} (r : Rp A L H p v) (f : flat p = true) : FlR p v ∧ ((p = .non ∧ v = .non) ∨ (∃ b, p = .bl b ∧ v = .bl b) ∨ (∃ i, p = .int i ∧ v = .int i) ∨ ∃ x, p = .str x ∧ v = .str x) := by
  have key : ∀ (p : PV) (v : V), ((p = .non ∧ v = .non) ∨ (∃ b, p = .bl b ∧ v = .bl b) ∨ (∃ i, p = .int i ∧ v = .int i) ∨ ∃ x, p = .str x ∧ v = .str x) → FlR p v := by
    intro p v hp
    refine ⟨?_, fun q w ⟨_, _, hq⟩ => ?_⟩
    · rcases hp with ⟨_, rfl⟩ | ⟨b, _, rfl⟩ | ⟨i, _, rfl⟩ | ⟨x, _, rfl⟩ <;> rfl
    · rcases hp with ⟨rfl, rfl⟩ | ⟨b, rfl, rfl⟩ | ⟨i, rfl, rfl⟩ | ⟨x, rfl, rfl⟩ <;> rcases hq with ⟨rfl, rfl⟩ | ⟨b, rfl, rfl⟩ | ⟨i, rfl, rfl⟩ | ⟨x, rfl, rfl⟩ <;> simp [peq, L2.eqV]
  have h2 : (p = .non ∧ v = .non) ∨ (∃ b, p = .bl b ∧ v = .bl b) ∨ (∃ i, p = .int i ∧ v = .int i) ∨ ∃ x, p = .str x ∧ v = .str x := by
    cases r <;> simp [G43.flat] at f ⊢
  exact ⟨key p v h2, h2⟩
theorem Rw.flat {L : Addr → Prop} {H : Hp} {p : PV} {v : V} (r : Rw A L H p v) (f : G43.flat p = true) : FlR p v := by
  cases r with
  | p r => exact (r.flat f).1
  | c _ _ => simp [G43.flat] at f
theorem RpL.flats {L : Addr → Prop} {H : Hp} : ∀ {l : List PV} {xs : List V}, RpL A L H l xs → l.all G43.flat = true → xs.all L2.flatV = true
  | _, _, .nil, _ => rfl
  | _, _, .cons q r, h => by
    rw [List.all_cons, Bool.and_eq_true] at h ⊢
    exact ⟨(q.flat h.1).1.1, RpL.flats r h.2⟩
theorem inL_V {L : Addr → Prop} {H : Hp} {p : PV} {v : V} (fp : FlR p v) : ∀ {l : List PV} {xs : List V}, RpL A L H l xs → l.all G43.flat = true → inL p l = L2.inV v xs
  | _, _, .nil, _ => rfl
  | _, _, @RpL.cons _ _ _ q w l xs r t, h => by
    rw [List.all_cons, Bool.and_eq_true] at h
    have z := r.flat h.1
    have e : peq q p = L2.eqV w v := fp.2 q w ⟨h.1, z.1.1, z.2⟩
    simp only [inL, L2.inV, List.any_cons]
    rw [e, inL_V fp t h.2]
    rfl
theorem Dt_items {n : Nat} {l : List PV} (h : Dt (n + 1) (.lst l)) : ∀ x ∈ l, Dt (n + 1) x := by
  have h' : ∀ x ∈ l, Dt n x := by simpa [Dt] using h
  exact fun x hx => Dt_up (h' x hx)
theorem op_isB {X : Cx} : OpR X (compareOp .Is) (fun x y H Q => ∃ a b, x = .bl a ∧ y = .bl b ∧ Q (.bl (a == b)) H) := by
  intro pins s σ H x y v u Q I rx ry h
  obtain ⟨a, b, rfl, rfl, q⟩ := h
  cases rx; cases ry
  show wpAny _ _ ((isSame (.bool a) (.bool b)) >>= fun z => pure (Value.bool z)) _ _ s
  exact wpAny_bind (wpAny_isSame_plain (by rfl) (wpAny_pure (L2.fin_bl I q (by cases a <;> cases b <;> rfl))))
theorem op_notB {X : Cx} : OpR X (compareOp .IsNot) (fun x y H Q => ∃ a b, x = .bl a ∧ y = .bl b ∧ Q (.bl (!(a == b))) H) := by
  intro pins s σ H x y v u Q I rx ry h
  obtain ⟨a, b, rfl, rfl, q⟩ := h
  cases rx; cases ry
  show wpAny _ _ ((isSame (.bool a) (.bool b)) >>= fun z => pure (Value.bool (!z))) _ _ s
  exact wpAny_bind (wpAny_isSame_plain (by rfl) (wpAny_pure (L2.fin_bl I q (by cases a <;> cases b <;> rfl))))
/-- x in a tuple of data of any depth -/
theorem op_inT {X : Cx} (hu : X.A.units + 65 < cLine) : OpR X (compareOp .In) (fun x y H Q => ∃ d ds, L2.Dp X.K H x d ∧ L2.Dp X.K H y (.tuple ds) ∧ SeqAt.shaped d = true ∧ SeqAt.shaped (.tuple ds) = true ∧ Q (.bl (ds.any fun z => PyData.eqv z d)) H) := by
  rintro pins s σ H x y v u Q I rx ry ⟨d, ds, k1, k2, s1, s2, q⟩
  have a := L2.Dp.reads I d x v k1 rx
  have b := L2.Dp.reads I (.tuple ds) y u k2 ry
  obtain ⟨_, r1⟩ := a
  obtain ⟨_, r2⟩ := b
  exact SeqAt.in_tuple_reads r2 r1 (SeqAt.canLay_of_shaped s2) (SeqAt.canLay_of_shaped s1) (room_in_shaped s1 hu) ⟨.bl _, H, I, rfl, q⟩
theorem Dt_itemsT {l : List PV} (d : Dt 60 (.tup l)) : ∀ x ∈ l, Dt 60 x := Dt_items (l := l) d
theorem op_cmp (hK : X.K = A.K) (hu : X.A.units + 65 < cLine) (op : CmpOp) : OpR X (compareOp op) (rC A op) := by
  intro pins s σ H x y v u Q I rx ry z
  obtain ⟨B, m, h, p, q, S, rp, rq, z⟩ := z
  unfold wpCmp at z
  split at z
  · cases rp.str; cases rq.str
    exact L2.op_eq pins s σ H _ _ v u Q I rx ry ⟨rfl, by rw [L2.dec_str]; exact z⟩
  · cases rp.str; cases rq.str
    exact L2.op_ne pins s σ H _ _ v u Q I rx ry ⟨rfl, by rw [L2.dec_str]; exact z⟩
  · obtain ⟨d1, d2, z⟩ := z
    rw [peq_dat 60 _ _ d1 d2] at z
    exact L2.op_eqD (by omega) pins s σ H _ _ v u Q I rx ry ⟨_, _, by rw [hK]; exact rp.dp d1, by rw [hK]; exact rq.dp d2, dat_shaped (by omega) d1, dat_shaped (by omega) d2, z⟩
  · obtain ⟨d1, d2, z⟩ := z
    rw [peq_dat 60 _ _ d1 d2] at z
    exact L2.op_neD (by omega) pins s σ H _ _ v u Q I rx ry ⟨_, _, by rw [hK]; exact rp.dp d1, by rw [hK]; exact rq.dp d2, dat_shaped (by omega) d1, dat_shaped (by omega) d2, z⟩
  · cases rp.int; cases rq.int
    exact L2.op_lt pins s σ H _ _ v u Q I rx ry ⟨_, _, rfl, rfl, z⟩
  · cases rp.int; cases rq.int
    exact L2.op_le pins s σ H _ _ v u Q I rx ry ⟨_, _, rfl, rfl, z⟩
  · cases rp.int; cases rq.int
    exact L2.op_gt pins s σ H _ _ v u Q I rx ry ⟨_, _, rfl, rfl, z⟩
  · cases rp.int; cases rq.int
    exact L2.op_ge pins s σ H _ _ v u Q I rx ry ⟨_, _, rfl, rfl, z⟩
  · cases rq.non
    rw [is_non rp] at z
    exact L2.op_isN pins s σ H _ _ v u Q I rx ry ⟨rfl, z⟩
  · cases rq.non
    rw [is_non rp] at z
    exact L2.op_notN pins s σ H _ _ v u Q I rx ry ⟨rfl, z⟩
  · cases rp.bl; cases rq.bl
    exact op_isB pins s σ H _ _ v u Q I rx ry ⟨_, _, rfl, rfl, z⟩
  · cases rp.bl; cases rq.bl
    exact op_notB pins s σ H _ _ v u Q I rx ry ⟨_, _, rfl, rfl, z⟩
  · obtain ⟨d1, d2, z⟩ := z
    rw [inL_dat (n := 60) d1 (Dt_items d2)] at z
    exact L2.op_inD hu pins s σ H _ _ v u Q I rx ry ⟨_, _, by rw [hK]; exact rp.dp d1, by rw [hK]; exact rq.dp d2, dat_shaped (by omega) d1, dat_shaped (by omega) d2, z⟩
  · obtain ⟨d1, d2, z⟩ := z
    rw [inL_dat (n := 60) d1 (Dt_items d2)] at z
    exact L2.op_notInD hu pins s σ H _ _ v u Q I rx ry ⟨_, _, by rw [hK]; exact rp.dp d1, by rw [hK]; exact rq.dp d2, dat_shaped (by omega) d1, dat_shaped (by omega) d2, z⟩
  · obtain ⟨d1, d2, z⟩ := z
    rw [inL_dat (n := 60) d1 (Dt_itemsT d2)] at z
    exact op_inT hu pins s σ H _ _ v u Q I rx ry ⟨_, _, by rw [hK]; exact rp.dp d1, by rw [hK]; exact rq.dp d2, dat_shaped (by omega) d1, dat_shaped (by omega) d2, z⟩
  · obtain ⟨d1, d2, z⟩ := z
    obtain ⟨b, ys, rfl, e2, r2⟩ := rq.tup
    rw [inL_V (rp.flat d1) r2 d2] at z
    exact L2.op_in_seq pins s σ H _ _ v u Q I rx ry ⟨b, ys, rfl, .inr (by rw [hK]; exact e2), (rp.flat d1).1, r2.flats d2, z⟩
  · obtain ⟨d1, d2, z⟩ := z
    obtain ⟨b, ys, rfl, e2, r2⟩ := rq.tup
    rw [inL_V (rp.flat d1) r2 d2] at z
    exact L2.op_notIn_seq pins s σ H _ _ v u Q I rx ry ⟨b, ys, rfl, .inr (by rw [hK]; exact e2), (rp.flat d1).1, r2.flats d2, z⟩
  · exact z.elim
end
end G43
set_option Elab.async false
set_option linter.all false
set_option maxRecDepth 100000
set_option maxHeartbeats 4100000
namespace G43
open PySem PySem.Spec PySem.Calls PyProof.Rows PySem.W
/-! ### isinstance of an error that has a dict -/
section
variable {P : Program} {w : World} {K : Frag} {x D : Addr} {ox : Obj} {od : Option Obj}
theorem class_found (E : L2.ExcC K D) : findObj K D od "__class__" = some (.bind (.builtin "getset_descriptor.__get__") (.builtin "object.__class__")) := by
  obtain ⟨cd, is, _⟩ := any_some E.hd
  have some_ : (clsIn K D).isSome = true := by rw [is]; rfl
  cases od with
  | none => exact findObj_dataN some_ E.ha E.hn E.ht
  | some o => exact findObj_data some_ E.ha E.hn E.ht
/-- what BaseException.__getattribute__ tells of __class__ -/
theorem class_run (E : L2.ExcC K D) {A : Around} {s : Shared} {t : Nat} {Q : Value → Shared → Prop} {X : Value → Shared → Prop} (KX : K.In s.heap) (I : InstAt s.heap x ox D od) (fin : Q (.ref D) s) :
    wpAny (model P w) A (call (.builtin "BaseException.__getattribute__") [.ref x, .str "__class__" t]) Q X s := by
  rcases s with ⟨hp, g, d, tk, os⟩
  have ty := I.type (M := model P w)
  have fnd := looks_find (M := model P w) KX I (class_found E)
  have isB : Looks (model P w) hp (isInstance (.ref x) (.type "BaseException")) true := ty.andThen (looks_subIn KX E.hs)
  apply wpAny_call
  apply codeAny_call_builtin PySem.F.excAttr_ValueError.ga.plain PySem.F.entry_bexc_ga
  apply @check_slot (model P w) _ _ ⟨hp, g, d, tk, os⟩ "BaseException.__getattribute__" "BaseException" "__getattribute__" (.ref x) [.str "__class__" t] [] _ (by decide +kernel) (by decide +kernel) isB (PySem.F.args_bexc_ga (.ref x) (.str "__class__" t))
  unfold Builtin.«object.__getattribute__»
  apply wpAny_bind
  apply wpAny_of_eq (a := ((Value.ref x : Value), [Value.str "__class__" t])) (by first | rfl | (simp only [slotArgs]; rfl))
  apply wpAny_bind
  apply wpAny_pure
  apply wpAny_bind
  apply ty.at
  apply wpAny_bind
  apply fnd.at
  show wpAny _ _ (holding [Value.builtin "object.__class__"] (call (.builtin "getset_descriptor.__get__") [.builtin "object.__class__", .ref x, .ref D]) >>= ret) _ _ _
  apply wpAny_bind
  apply wpAny_holding
  apply wpAny_call
  apply class_get (s := ⟨hp, g, d, tk, os⟩) (ox := ox) (od := od) KX I E.hm
  exact wpAny_pure fin
theorem class_of (E : L2.ExcC K D) {A : Around} {s : Shared} {Q : Option Value → Shared → Prop} {X : Value → Shared → Prop} (KX : K.In s.heap) (I : InstAt s.heap x ox D od) (fin : Q (some (.ref D)) { s with toks := s.toks + 1 }) :
    wpAny (model P w) A (getAttr? (.ref x) "__class__") Q X s := by
  rcases s with ⟨hp, g, d, tk, os⟩
  have ty := I.type (M := model P w)
  have own := looks_findIn (M := model P w) KX E.hg
  have non := looks_findIn (M := model P w) KX E.hk
  have notO : (Value.builtin "BaseException.__getattribute__" == Value.builtin "object.__getattribute__") = false := by decide +kernel
  unfold getAttr? getAttrBy? getAttrBy
  apply wpAny_bind
  apply wpAny_mkText
  apply wpAny_bind
  apply wpAny_attempt
  apply wpAny_holding
  apply wpAny_bind
  apply ty.at
  apply wpAny_bind
  apply own.at
  show wpAny _ _ (if (onTheHeap (Value.ref D) && Value.builtin "BaseException.__getattribute__" == Value.builtin "object.__getattribute__") = true then _ else _) _ _ _
  rw [if_neg (by rw [notO, Bool.and_false]; exact Bool.false_ne_true)]
  unfold getAttrByItsOwn hookBefore
  apply wpAny_bind
  rw [if_pos (by rfl)]
  apply non.at
  apply wpAny_bind
  apply wpAny_attempt
  apply wpAny_holding
  unfold callGetattribute
  rw [if_neg (by decide)]
  unfold boundAndCalled
  rw [PySem.F.excAttr_ValueError.ga.bind (.ref x)]
  apply wpAny_bind
  apply wpAny_pure
  refine class_run E KX I ?_
  show wpAny _ _ (handedOut (.ref D)) _ _ _
  rw [handedOut_of (v := .ref D) rfl]
  first
    | exact wpAny_pure (wpAny_pure fin)
    | exact wpAny_pure fin
    | exact wpAny_pure (wpAny_bind (wpAny_pure (wpAny_pure fin)))
theorem kit_exd (E : L2.ExcC K D) : KitX K (.ref x) (.ref D) (fun h => InstAt h x ox D od) := by
  obtain ⟨cd, is, _⟩ := any_some E.hd
  unfold clsIn at is
  split at is
  case h_1 c d c2 sl at_ =>
    refine ⟨fun _ _ _ I => I.type, fun _ _ KX _ => ?_, fun h tp dd its n sl KX tup => ?_, fun KX I fin => class_of E KX I fin⟩
    · intro A Q X s old fin
      unfold isType loadHead
      exact wpAny_bind (wpAny_loadPart (old _ _ (KX _ _ at_)) (wpAny_pure fin))
    · apply Bool.eq_false_iff.mpr
      intro same
      obtain rfl := Value.ref.inj (eq_of_beq same)
      have both := (KX _ _ at_).symm.trans tup
      exact nomatch both
  all_goals cases is
end
end G43
set_option Elab.async false
set_option linter.all false
set_option maxRecDepth 100000
set_option maxHeartbeats 4000000
namespace G43
open PySem PySem.Spec PyProof.Rows
open L2 (V HO Hp SqL SqT Rd upd upd_same upd_ne Cx OpR R2 VK CallR IxR SlR Inv Vals)
/-! ### the handled error: isinstance -/
section
variable {X : Cx} {a D : Addr} {oe : Obj}
theorem DOk.up {H : Hp} {d : Option Addr} {p : Addr} {o : HO} (k : DOk H d) (n : H p = Option.none) : DOk (upd H p o) d := fun dd e => by
  obtain ⟨fs, z⟩ := k dd e
  exact ⟨fs, by rw [upd_ne (L2.ne_of_none z n)]; exact z⟩
/-- what is asked of an error that the context holds -/
def rEx (K : PySem.W.Frag) (D a : Addr) (d : Option Addr) : List V → Hp → VK → Prop := fun xs H Q => ∃ (c : V) (cv : Value) (b : Bool), DOk H d ∧ xs = [.ref a, c] ∧ (∀ u, L2.RelV c u → u = cv) ∧ PySem.W.kitOne K (.ref D) cv = some b ∧ Q (.bl b) H
def rExT (K : PySem.W.Frag) (D a : Addr) (d : Option Addr) : List V → Hp → VK → Prop := fun xs H Q => ∃ (tp : Addr) (cs : List V) (us : List Value) (b : Bool), DOk H d ∧ xs = [.ref a, .ref tp] ∧ H tp = some (.tup cs) ∧ PySem.Paired L2.ClsV cs us ∧ PySem.W.kitAny K (.ref D) us = some b ∧ Q (.bl b) H
variable {d : Option Addr}
theorem inst_pin {pins : List (Addr × Obj)} {σ : L2.St} {H : Hp} {s : Shared} (I : Inv X pins σ H s) (hp : (a, oe) ∈ X.pn) (hz : L2.Zc (.ref D) d oe) (hf : ∃ vs, oe.data = .fields vs) (k : DOk H d) : ∃ od, PySem.W.InstAt s.heap a oe D od ∧ ∀ dd fs, d = some dd → H dd = some (.xd fs) →
    ∃ (o : Obj) (mA : Str → Option Value), od = some o ∧ (∀ f, L2.RelO (fs.lookup f) (mA f)) ∧ ∀ f, PySem.W.lookIn f o = some (mA f) := by
  have g := (I.pin (a, oe) (List.mem_append.mpr (.inl hp))).1
  obtain ⟨vs, hv⟩ := hf
  rcases oe with ⟨oc, od, oda, osl⟩
  rcases hz with ⟨h1, h2⟩
  dsimp only at h1 h2 hv
  cases h1; cases h2; cases hv
  cases d with
  | none => exact ⟨Option.none, ⟨g, rfl, rfl, trivial⟩, fun dd fs z => nomatch z⟩
  | some dd =>
    obtain ⟨fs, z⟩ := k dd rfl
    have at_ : L2.ObjOk X.prog X.w H s.heap dd (.xd fs) := I.hok dd _ z
    obtain ⟨mA, ns, rel⟩ := at_
    obtain ⟨o, ho, lk⟩ := L2.lookIn_ns ns
    refine ⟨some o, ⟨g, rfl, rfl, ho⟩, fun d2 fs2 e e2 => ?_⟩
    cases e
    rw [z] at e2
    cases e2
    exact ⟨o, mA, rfl, rel, lk⟩
theorem call_ex (C : L2.ExcC X.K D) (hp : (a, oe) ∈ X.pn) (hz : L2.Zc (.ref D) d oe) (hf : ∃ vs, oe.data = .fields vs) : CallR X (.builtin "isinstance") (rEx X.K D a d) := by
  rintro pins s σ H xs us Q I r ⟨c, cv, b, dk, rfl, hcv, e, q⟩
  obtain ⟨u1, u2, rfl, r1, r2⟩ := L2.vals2 r
  obtain rfl : u1 = Value.ref a := r1
  cases hcv _ r2
  obtain ⟨od, at_, _⟩ := inst_pin I hp hz hf dk
  exact PySem.W.kia_one (kit_exd (od := od) C) I.kIn at_ e nofun fun tk => ⟨.bl b, H, I.tok tk, rfl, q⟩
theorem call_exT (C : L2.ExcC X.K D) (hp : (a, oe) ∈ X.pn) (hz : L2.Zc (.ref D) d oe) (hf : ∃ vs, oe.data = .fields vs) : CallR X (.builtin "isinstance") (rExT X.K D a d) := by
  rintro pins s σ H xs us Q I r ⟨tp, cs, ws, b, dk, rfl, hT, k, e, q⟩
  obtain ⟨u1, u2, rfl, r1, r2⟩ := L2.vals2 r
  obtain rfl : u1 = Value.ref a := r1
  obtain rfl : u2 = Value.ref tp := r2
  have ok : L2.ObjOk X.prog X.w H s.heap tp (.tup cs) := I.hok tp _ hT
  obtain ⟨_, its, rv, ⟨oc, od, dt, sl⟩, h1, h2, n, h3⟩ := ok
  cases L2.ClsV.all k rv
  cases (show oc = _ from h2)
  cases (show dt = _ from h3)
  obtain ⟨od, at_, _⟩ := inst_pin I hp hz hf dk
  exact PySem.W.kia_tup (kit_exd (od := od) C) I.kIn at_ h1 e nofun fun tk => ⟨.bl b, H, I.tok tk, rfl, q⟩
end
/-! ### how often True stands in a list of truths -/
section
variable {X : Cx}
def rCntB (K : PySem.W.Frag) : V → List V → Hp → VK → Prop := fun x xs H Q => ∃ (p : Addr) (bs : List Bool), x = .ref p ∧ xs = [.bl true] ∧ SqL K H p (bs.map V.bl) ∧ Q (.int (bs.count true : Nat)) H
def eqT : Value → Bool
  | .bool b => b
  | _ => false
theorem cnt_T : ∀ {bs : List Bool} {us : List Value}, Vals (bs.map V.bl) us → us.countP eqT = bs.count true
  | [], _, .nil => rfl
  | b :: bs, u :: _, .cons r rs => by
    cases (show u = Value.bool b from r)
    rw [List.countP_cons, List.count_cons, cnt_T rs]
    cases b <;> rfl
theorem at_T {A : Around} {s : Shared} : ∀ {bs : List Bool} {us : List Value}, Vals (bs.map V.bl) us → ∀ y ∈ us, SeqAt.EqAt A s y (.bool true) (eqT y)
  | [], _, .nil => fun y hy => by cases hy
  | b :: bs, u :: _, .cons r rs => fun y hy => by
    rcases List.mem_cons.mp hy with e | e
    · subst e
      cases (show y = Value.bool b from r)
      have := L2.eqAt_V (A := A) (s := s) (y := .bl b) (x := .bl true) (u := .bool b) (v := .bool true) rfl rfl rfl rfl
      cases b <;> exact this
    · exact at_T rs y e
theorem mt_cntB : L2.MtR X "list.count" (rCntB X.K) := by
  intro pins s σ H x xs v us Q I rx rxs h
  rcases h with ⟨p, bs, rfl, rfl, hs, q⟩
  cases rx
  obtain ⟨u, rfl, ru⟩ := L2.vals1 rxs
  cases (show u = Value.bool true from ru)
  obtain ⟨its, rv, ⟨⟨cls, dd, data, sl⟩, n, ho, hc, hdn, hd⟩, hlen⟩ := I.list hs
  dsimp only at hc hd
  cases hc; cases hd
  refine call_meets PySem.F.slot_list_count ⟨_, ho, rfl⟩ PySem.F.entry_list_count (PySem.F.args_list_count_2 _ _) (SeqAt.list_countAt p its.toArray n dd sl (.bool true) eqT) ⟨ho, ?_, ?_⟩
  · intro y hy
    exact at_T rv y (by simpa using hy)
  · refine ⟨.int (bs.count true : Nat), H, I.tok _, ⟨s.toks, ?_⟩, q⟩
    have e : its.toArray.toList.countP eqT = bs.count true := cnt_T rv
    rw [e]
end
end G43
set_option Elab.async false
set_option linter.all false
set_option maxRecDepth 100000
set_option maxHeartbeats 4000000
namespace G43
open PySem
open L2 (V HO Hp SqL SqT Rd upd upd_same upd_ne Cx OpR R2 VK CallR IxR SlR)
section
variable {A : Ad} {B : Addr → Prop} {m : List Addr} {h : Hs} {H : Hp} {L : Addr → Prop}
theorem RpRs.rws (S : Sim A B m h H) : ∀ {x : List RV} {v : List V} {ps : List PV}, RpRs A B m h H x v → x.mapM (val h) = some ps → RwL A (Xc B m h) H ps v
  | [], _, ps, .nil, e => by
    simp at e
    subst e
    exact .nil
  | a :: x, _, ps, .cons q r, e => by
    rw [List.mapM_cons] at e
    cases ea : val h a with
    | none => rw [ea] at e; simp at e
    | some p =>
      cases er : x.mapM (val h) with
      | none => rw [ea, er] at e; simp at e
      | some qs =>
        rw [ea, er] at e
        simp at e
        subst e
        exact .cons (q.rw S ea) (RpRs.rws S r er)
theorem RwL.two {p q : PV} {xs : List V} (z : RwL A L H [p, q] xs) : ∃ v w, xs = [v, w] ∧ Rw A L H p v ∧ Rw A L H q w := by
  cases z with
  | cons q r =>
    cases r with
    | cons q2 r => cases r; exact ⟨_, _, rfl, q, q2⟩
theorem bools_rep : ∀ {l : List PV} {bs : List Bool} {xs : List V}, bools l = some bs → RpL A L H l xs → xs = bs.map V.bl
  | [], bs, _, e, .nil => by
    simp [bools] at e
    subst e
    rfl
  | p :: l, bs, _, e, .cons q r => by
    cases q with
    | bl b =>
      simp only [bools] at e
      cases el : bools l with
      | none => rw [el] at e; simp at e
      | some cs =>
        rw [el] at e
        simp at e
        subst e
        rw [bools_rep el r]
        rfl
    | _ => simp [bools] at e
end
section
variable {X : Cx} {A : Ad}
/-! ### built-in functions -/
def rBi (A : Ad) (b : BI) : List V → Hp → VK → Prop := fun xs H Q => ∃ B m h ps, Sim A B m h H ∧ RwL A (Xc B m h) H ps xs ∧ wpBi b ps (Kp A B m h H Q)
def biV : BI → Value
  | .len => .builtin "len"
  | .abs => .builtin "abs"
  | .max => .builtin "max"
  | .int => .type "int"
  | .tuple => .type "tuple"
  | .list => .type "list"
  | .all => .builtin "all"
  | .any => .builtin "any"
  | .repr => .builtin "repr"
  | .str => .type "str"
  | .sorted => .builtin "sorted"
  | .sum => .builtin "sum"
  | .bool => .type "bool"
  | .set => .type "set"
theorem rep_reprD (hK : X.K = A.K) (hu : X.A.units + 65 < cLine) (hg : X.A.guards = some []) {B : Addr → Prop} {m : List Addr} {h : Hs} {pins : List (Addr × Obj)} {s : Shared} {σ : L2.St} {H : Hp} {Q : VK} {p : PV} {x : V} {u : Value}
    (I : L2.Inv X pins σ H s) (S : Sim A B m h H) (r : L2.RelV x u) (dp : L2.Dp A.K H x (dat p)) (d : Dt 60 p) (hs : (dat p).showable = true) (hz : (dat p).shown.length ≤ sizeLine) (k : Kp A B m h H Q (.str (dat p).shown)) :
    wpAny (model X.prog X.w) X.A (call (.builtin "repr") [u]) (L2.EP X pins σ Q) X.xe s := by
  have fin := k.str S
  rw [← hK] at dp
  obtain ⟨as, rd⟩ := L2.Dp.reads I (dat p) x u dp r
  obtain ⟨lay, dep⟩ := dat_lay 60 p d
  have nd : (dat p).hasDict = false := PyData.hasDict_of_canLay _ lay
  have done : ∀ (t : Tok) (s' : Shared), L2.Inv X pins σ H s' → L2.EP X pins σ Q (.str (dat p).shown t) s' := fun t s' I' => ⟨V.str _, H, I', ⟨t, rfl⟩, fin⟩
  cases u with
  | ref a => exact repr_of_reads' rd hs (PyData.noDict_hsm nd) hg (by omega) (fun b o e => e) (fun h' t tk kp => done t _ (I.kept (h' := h') (t' := tk) kp)) hz
  | int i t =>
    cases hp : p <;> rw [hp] at rd done hs <;> cases rd
    exact PySem.P.repr_of_int (by simpa [dat, PyData.showable] using hs) (done _ _ (I.tok _))
  | str z t =>
    cases hp : p <;> rw [hp] at rd done hz <;> cases rd
    exact PySem.P.repr_of_str (done _ _ (I.tok _)) hz
  | bool b =>
    cases hp : p <;> rw [hp] at rd done <;> cases rd
    exact PySem.P.repr_of_bool (done _ _ (I.tok _))
  | none =>
    have e : (dat p).shown = "None" := by
      cases hp : p <;> rw [hp] at rd <;> cases rd <;> rfl
    rw [e] at done
    exact PySem.P.repr_of_none (done _ _ (I.tok _))
  | _ => cases hp : p <;> rw [hp] at rd <;> cases rd
theorem rep_repr (hK : X.K = A.K) (hu : X.A.units + 65 < cLine) (hg : X.A.guards = some []) {B : Addr → Prop} {m : List Addr} {h : Hs} {pins : List (Addr × Obj)} {s : Shared} {σ : L2.St} {H : Hp} {Q : VK} {p : PV} {x : V} {u : Value}
    (I : L2.Inv X pins σ H s) (S : Sim A B m h H) (r : L2.RelV x u) (q : Rw A (Xc B m h) H p x) (d : Dt 60 p) (hs : (dat p).showable = true) (hz : (dat p).shown.length ≤ sizeLine) (k : Kp A B m h H Q (.str (dat p).shown)) :
    wpAny (model X.prog X.w) X.A (call (.builtin "repr") [u]) (L2.EP X pins σ Q) X.xe s := rep_reprD hK hu hg I S r (q.dp d) d hs hz k
theorem dct0 {L : Addr → Prop} {H : Hp} {v : V} (q : Rw A L H (.dct []) v) : ∃ a, v = .ref a ∧ H a = some (.dK []) := by
  cases q with
  | p q => cases q with
    | dct e n => exact ⟨_, rfl, e⟩
/-- repr({}) -/
theorem rep_empty (hu : X.A.units + 65 < cLine) (hg : X.A.guards = some []) {pins : List (Addr × Obj)} {s : Shared} {σ : L2.St} {H : Hp} {Q : VK} {a : Addr} (I : L2.Inv X pins σ H s) (e : H a = some (.dK [])) (k : Q (.str (Str.ofString "{}")) H) :
    wpAny (model X.prog X.w) X.A (call (.builtin "repr") [.ref a]) (L2.EP X pins σ Q) X.xe s := by
  obtain ⟨_, ns, vs, kv, o, es, ep, e1, e2, e3, e4, e5, _⟩ := I.hok a _ e
  cases kv
  have es0 : es.toList = [] := by
    have l := e5.length
    exact List.eq_nil_of_length_eq_zero l
  have rd : Reads s.heap (.ref a) (.dict []) (a :: [] ++ []) := .dict e1 e2.1 e3 (by rw [es0]; exact .nil) (by rw [es0]; exact .nil)
  refine repr_of_reads' rd (by decide) (fun _ z => ?_) hg (by show X.A.units + 2 < cLine; omega) (fun b o e => e) (fun h' t tk kp => ⟨V.str _, H, I.kept (h' := h') (t' := tk) kp, ⟨t, rfl⟩, k⟩) (by decide)
  simp at z
  rw [z] at ns
  simp at ns
theorem call_bi (hK : X.K = A.K) (hc : X.calm = true) (hu : X.A.units + 65 < cLine) (hg : X.A.guards = some []) (b : BI) : CallR X (biV b) (rBi A b) := by
  intro pins s σ H xs us Q I r z
  obtain ⟨B, m, h, ps, S, q, z⟩ := z
  unfold wpBi at z
  split at z
  · obtain ⟨v, rfl, w1⟩ := q.one
    obtain ⟨a, ys, rfl, e, t⟩ := w1.tup
    exact L2.call_len_seq pins s σ H _ us Q I r ⟨a, ys, rfl, .inr (by rw [hK]; exact e), by rw [t.length]; exact z.here S (.int _)⟩
  · obtain ⟨v, rfl, w1⟩ := q.one
    obtain ⟨a, ys, rfl, e, t⟩ := w1.lst
    exact L2.call_len_seq pins s σ H _ us Q I r ⟨a, ys, rfl, .inl (SqL.of e), by rw [t.length]; exact z.here S (.int _)⟩
  · obtain ⟨v, rfl, w1⟩ := q.one
    obtain ⟨a, ys, rfl, e, t⟩ := w1.scr
    exact L2.call_len_seq pins s σ H _ us Q I r ⟨a, ys, rfl, .inl (by rw [hK]; exact e), by rw [t.length]; exact z.here S (.int _)⟩
  · obtain ⟨v, rfl, w1⟩ := q.one
    cases w1.int
    exact L2.call_abs pins s σ H _ us Q I r ⟨_, rfl, z.here S (.int _)⟩
  · obtain ⟨v, w, rfl, w1, w2⟩ := q.two
    cases w1.int; cases w2.int
    exact L2.call_max2 hc pins s σ H _ us Q I r ⟨_, _, rfl, z.here S (.int _)⟩
  · obtain ⟨v, rfl, w1⟩ := q.one
    cases w1.int
    exact L2.call_int1 pins s σ H _ us Q I r (.inl ⟨_, rfl, z.here S (.int _)⟩)
  · obtain ⟨v, rfl, w1⟩ := q.one
    cases w1.bl
    exact L2.call_int1 pins s σ H _ us Q I r (.inr ⟨_, rfl, z.here S (.int _)⟩)
  · obtain ⟨v, rfl, w1⟩ := q.one
    obtain ⟨a, ys, rfl, e, t⟩ := w1.lst
    exact L2.call_tuple_of pins s σ H _ us Q I r ⟨a, ys, rfl, .inl ⟨SqL.of e, fun l hl => z.tup S t hl⟩⟩
  · obtain ⟨v, rfl, w1⟩ := q.one
    obtain ⟨a, ys, rfl, e, t⟩ := w1.tup
    exact L2.call_tuple_of pins s σ H _ us Q I r ⟨a, ys, rfl, .inr ⟨by rw [hK]; exact e, z.here S (.tup e t)⟩⟩
  · obtain ⟨v, rfl, w1⟩ := q.one
    obtain ⟨a, ys, rfl, e, t⟩ := w1.lst
    exact L2.call_list_of pins s σ H _ us Q I r ⟨a, ys, rfl, .inl (SqL.of e), fun l hl => z.lst S t hl⟩
  · obtain ⟨v, rfl, w1⟩ := q.one
    obtain ⟨a, ys, rfl, e, t⟩ := w1.tup
    exact L2.call_list_of pins s σ H _ us Q I r ⟨a, ys, rfl, .inr (by rw [hK]; exact e), fun l hl => z.lst S t hl⟩
  · obtain ⟨v, rfl, w1⟩ := q.one
    obtain ⟨u, rfl, r1⟩ := L2.vals1 r
    rcases z with z | ⟨rfl, z⟩
    · exact rep_repr hK hu hg I S r1 w1 z.1 z.2.1 z.2.2.1 z.2.2.2
    · obtain ⟨a, rfl, e⟩ := dct0 w1
      cases r1
      exact rep_empty hu hg I e (z.str S)
  · obtain ⟨v, rfl, w1⟩ := q.one
    cases w1.int
    exact L2.call_str_int pins s σ H _ us Q I r ⟨_, rfl, z.1, Kp.str S z.2⟩
  · obtain ⟨v, rfl, w1⟩ := q.one
    obtain ⟨a, ys, rfl, e, t⟩ := w1.lst
    obtain ⟨bs, eb, z⟩ := z
    have e2 := bools_rep eb t
    subst e2
    exact L2.cr_all hc pins s σ H _ us Q I r ⟨a, bs, rfl, SqL.of e, z.here S (.bl _)⟩
  · obtain ⟨v, rfl, w1⟩ := q.one
    obtain ⟨a, ys, rfl, e, t⟩ := w1.lst
    obtain ⟨bs, eb, z⟩ := z
    have e2 := bools_rep eb t
    subst e2
    exact L2.cr_any hc pins s σ H _ us Q I r ⟨a, bs, rfl, SqL.of e, z.here S (.bl _)⟩
  · exact z.elim
/-! ### a[i], a[i:j] -/
def rI (A : Ad) : R2 := fun x y H Q => ∃ B m h p q, Sim A B m h H ∧ Rw A (Xc B m h) H p x ∧ Rw A (Xc B m h) H q y ∧ wpIx p q (Kp A B m h H Q)
theorem atI_rep {L : Addr → Prop} {H : Hp} {l : List PV} {xs : List V} {i : Int} {p : PV} (r : RpL A L H l xs) (e : atI l i = some p) : ∃ v, L2.atI xs i = some v ∧ Rp A L H p v := by
  unfold atI L2.atI at e
  unfold L2.atI
  rw [r.length]
  cases hj : L2.ixN l.length i with
  | none => rw [hj] at e; cases e
  | some j =>
    rw [hj] at e
    exact r.get (i := j) e
theorem ix_ok (hK : X.K = A.K) : IxR X (rI A) := by
  intro value slice pins s σ H x y v u Q I rx ry z hs
  obtain ⟨B, m, h, p, q, S, rp, rq, z⟩ := z
  unfold wpIx at z
  split at z
  · obtain ⟨w, e, k⟩ := z
    cases rq.int
    obtain ⟨a, ys, rfl, e1, t⟩ := rp.lst
    obtain ⟨c, e2, t2⟩ := atI_rep t e
    exact L2.ix_list value slice pins s σ H _ _ v u Q I rx ry ⟨a, ys, _, c, rfl, rfl, SqL.of e1, e2, Kp.here S k t2⟩ hs
  · obtain ⟨w, e, k⟩ := z
    cases rq.int
    obtain ⟨a, ys, rfl, e1, t⟩ := rp.tup
    obtain ⟨c, e2, t2⟩ := atI_rep t e
    exact L2.ix_tup value slice pins s σ H _ _ v u Q I rx ry ⟨a, ys, _, c, rfl, rfl, by rw [hK]; exact e1, e2, Kp.here S k t2⟩ hs
  · obtain ⟨w, e, k⟩ := z
    cases rq.int
    obtain ⟨a, ys, rfl, e1, t⟩ := rp.scr
    obtain ⟨c, e2, t2⟩ := atI_rep t e
    exact L2.ix_list value slice pins s σ H _ _ v u Q I rx ry ⟨a, ys, _, c, rfl, rfl, by rw [hK]; exact e1, e2, Kp.here S k t2⟩ hs
  · exact z.elim
theorem cut_rep {L : Addr → Prop} {H : Hp} {l : List PV} {xs : List V} {lo hi : Option Int} (r : RpL A L H l xs) : RpL A L H (cut l lo hi) (L2.cutV xs lo hi) := by
  unfold cut L2.cutV
  rw [r.length]
  exact (r.drop _).take _
def rS (A : Ad) : V → Option Int → Option Int → Hp → VK → Prop := fun x lo hi H Q => ∃ B m h p, Sim A B m h H ∧ Rw A (Xc B m h) H p x ∧ wpSl p lo hi (Kp A B m h H Q)
theorem sl_ok (hK : X.K = A.K) : SlR X (rS A) := by
  intro pins s σ H x v vl vu lo hi sl Q I rx hs pl pu z
  obtain ⟨B, m, h, p, S, rp, z⟩ := z
  rcases p with _ | _ | _ | _ | l | l | _ | _ | l | _ <;> simp only [wpSl] at z
  · obtain ⟨a, ys, rfl, e1, t⟩ := rp.tup
    refine L2.sl_tupA pins s σ H _ v vl vu lo hi sl Q I rx hs pl pu ⟨a, ys, rfl, by rw [hK]; exact e1, fun hw => ?_, fun _ p hp => z.tup S (cut_rep t) hp⟩
    refine z.here S (.tup e1 ?_)
    have t2 := cut_rep (lo := lo) (hi := hi) t
    have e3 : L2.cutV ys lo hi = ys := by
      unfold L2.cutV
      rw [hw.1, hw.2]
      simp
    rw [e3] at t2
    exact t2
  · obtain ⟨a, ys, rfl, e1, t⟩ := rp.lst
    exact L2.sl_list pins s σ H _ v vl vu lo hi sl Q I rx hs pl pu ⟨a, ys, rfl, SqL.of e1, fun p hp => z.lst S (cut_rep t) hp⟩
  · obtain ⟨a, ys, rfl, e1, t⟩ := rp.scr
    exact L2.sl_list pins s σ H _ v vl vu lo hi sl Q I rx hs pl pu ⟨a, ys, rfl, by rw [hK]; exact e1, fun p hp => z.lst S (cut_rep t) hp⟩
/-! ### isinstance -/
def tyN : Ty → String
  | .int => "int"
  | .bool => "bool"
  | .tuple => "tuple"
  | .str => "str"
  | .list => "list"
theorem kit_all : ∀ (t : Ty), (L2.kitB "NoneType" (tyN t) = some false) ∧ (L2.kitB "bool" (tyN t) = some (decide (t = .int ∨ t = .bool))) ∧ (L2.kitB "int" (tyN t) = some (decide (t = .int))) ∧ (L2.kitB "str" (tyN t) = some (decide (t = .str))) ∧
    (L2.kitB "tuple" (tyN t) = some (decide (t = .tuple))) ∧ (L2.kitB "list" (tyN t) = some (decide (t = .list))) ∧ (L2.kitB "dict" (tyN t) = some false)
  | .int => by decide +kernel
  | .bool => by decide +kernel
  | .tuple => by decide +kernel
  | .str => by decide +kernel
  | .list => by decide +kernel
def rIs (A : Ad) (t : Ty) : V → Hp → VK → Prop := fun x H Q => ∃ B m h p b, Sim A B m h H ∧ Rw A (Xc B m h) H p x ∧ isB p t = some b ∧ Q (.bl b) H
theorem rIs_isi {K : PySem.W.Frag} (hK : K = A.K) {t : Ty} {x : V} {H : Hp} {Q : VK} (z : rIs A t x H Q) : L2.rIsi K [x, .ty (tyN t)] H Q := by
  obtain ⟨B, m, h, p, b, S, rp, e, k⟩ := z
  subst hK
  obtain ⟨k1, k2, k3, k4, k5, k6, k7⟩ := kit_all t
  cases p with
  | non =>
    cases rp.non
    refine ⟨_, _, _, _, false, rfl, .ty _, .base .non, L2.kit_ty k1, ?_⟩
    have : b = false := by cases t <;> simp [isB, tyOf] at e <;> exact e
    rw [← this]; exact k
  | bl y =>
    cases rp.bl
    refine ⟨_, _, _, _, _, rfl, .ty _, .base (.bl _), L2.kit_ty k2, ?_⟩
    have : b = decide (t = .int ∨ t = .bool) := by cases t <;> simp [isB, tyOf] at e <;> simp [e]
    rw [← this]; exact k
  | int y =>
    cases rp.int
    refine ⟨_, _, _, _, _, rfl, .ty _, .base (.int _), L2.kit_ty k3, ?_⟩
    have : b = decide (t = .int) := by cases t <;> simp [isB, tyOf] at e <;> simp [e]
    rw [← this]; exact k
  | str y =>
    cases rp.str
    refine ⟨_, _, _, _, _, rfl, .ty _, .base (.str _), L2.kit_ty k4, ?_⟩
    have : b = decide (t = .str) := by cases t <;> simp [isB, tyOf] at e <;> simp [e]
    rw [← this]; exact k
  | tup y =>
    have eb : b = decide (t = .tuple) := by cases t <;> simp [isB, tyOf] at e <;> simp [e]
    rw [eb] at k
    obtain ⟨a, ys, rfl, e1, _⟩ := rp.tup
    rcases e1 with (e1 | ⟨o, e1⟩) | ⟨o, its, n, e1, e2, _⟩
    · exact ⟨_, _, _, _, _, rfl, .ty _, .base (.tup e1), L2.kit_ty k5, k⟩
    · exact ⟨_, _, _, _, _, rfl, .ty _, .fTuple e1, L2.kit_ty k5, k⟩
    · exact ⟨_, _, _, _, _, rfl, .ty _, .kTuple e1 e2, L2.kit_ty k5, k⟩
  | lst y =>
    have eb : b = decide (t = .list) := by cases t <;> simp [isB, tyOf] at e <;> simp [e]
    rw [eb] at k
    obtain ⟨a, ys, rfl, e1, _⟩ := rp.lst
    exact ⟨_, _, _, _, _, rfl, .ty _, .base (.lst e1), L2.kit_ty k6, k⟩
  | fn _ => simp [isB] at e
  | obj _ _ => simp [isB] at e
  | scr _ => simp [isB] at e
  | dct _ =>
    have eb : b = false := by cases t <;> simp [isB, tyOf] at e <;> exact e
    rw [eb] at k
    cases rp with
    | p r =>
      cases r with
      | dct e1 _ => exact ⟨_, _, _, _, _, rfl, .ty _, .base (.dK e1), L2.kit_ty k7, k⟩
end
end G43
set_option Elab.async false
set_option linter.all false
set_option maxRecDepth 100000
set_option maxHeartbeats 4000000
namespace G43
open PySem
open L2 (V HO Hp SqL SqT Rd upd upd_same upd_ne Cx OpR R2 VK CallR IxR SlR TE TA TS TT PE PA PS PSs PT XK Sp Room Vals)
open PySem.Spec PyProof.Rows
/-! ### a def that keeps a promise where no repr is under way -/
structure FnG (Pr : Program) (w : World) (K : PySem.W.Frag) (mg : Str → Option Value) (base : Heap) (k : Nat) (f : Addr) (fd : FuncData) (ps : List Str) (sp : Sp) : Prop where
  len : ∀ vs H Q E, sp vs H Q E → vs.length = ps.length
  run : ∀ (Ar : Around) (outer : List PySem.Env) (s : Shared) (H : Hp) (args : Args) (us : List Value) (vs : List V) (Q : VK) (E : XK), Ar.guards = some [] → Room k Ar → L2.Env0 Pr w K mg base Ar outer s H →
    BindsTo s fd args (ps.zip us) → Vals vs us → sp vs H Q E → codeAny (model Pr w) Ar (.call (.ref f) args) (L2.CR (L2.CX Pr w) outer Pr w H s Q E) s
theorem FnG.mono {Pr : Program} {w : World} {K : PySem.W.Frag} {mg : Str → Option Value} {base : Heap} {j k : Nat} {f : Addr} {fd : FuncData} {ps : List Str} {sp : Sp} (F : FnG Pr w K mg base j f fd ps sp) (h : j ≤ k) : FnG Pr w K mg base k f fd ps sp :=
  ⟨F.len, fun Ar outer s H args us vs Q E g r => F.run Ar outer s H args us vs Q E g (r.mono h)⟩
theorem guards_deeper (Ar : Around) (env : PySem.Env) : (Ar.deeper env).guards = Ar.guards := by
  cases hg : Ar.guards <;> simp [Around.deeper, hg]
/-- by the body -/
theorem fng_of {Pr : Program} {w : World} {K : PySem.W.Frag} {mg : Str → Option Value} {base : Heap} {k : Nat} {f : Addr} {x qual : Str} {params : Arguments} {body : List Stmt} {scope : Scope} {dvs : List V} {kws : List (Str × V)} {fd : FuncData} {N ps : List Str} {sp : Sp}
    (F : L2.FunD K x qual params body scope dvs kws f fd) (S : L2.FnScope N ps scope) (len : ∀ vs H Q E, sp vs H Q E → vs.length = ps.length)
    (hb : ∀ (cdv : Value), (∃ oc od dV kV doc pm an ct osl, K.lookup f = some ⟨oc, od, .func (PySem.W.fnOf x qual params body scope dV kV doc pm an cdv ct), osl⟩) → PySem.W.codeIn K cdv qual = true → ∀ (Ar : Around) (outer : List PySem.Env) (s : Shared) (H : Hp) (vs : List V) (Q : VK) (E : XK), Ar.guards = some [] → Room k (Ar.deeper (envOfC qual scope s.heap.objs.size f cdv)) → sp vs H Q E →
      ∃ t, PSs (L2.cxOf (L2.CX Pr w) Pr w K mg base N qual scope f cdv Ar outer s H E) body t ∧ t { nx := fun _ H' => Q .non H', rt := Q } (L2.start N vs) H) : FnG Pr w K mg base (k + 1) f fd ps sp := by
  obtain ⟨oc, od, dV, kV, doc, pm, an, cdv, ct, osl, rfl, lk, hcd, -, -⟩ := F.ex
  refine ⟨len, ?_⟩
  intro Ar outer s H args us vs Q E hg hr e0 hbd r hsp
  have hl := len _ _ _ _ hsp
  have kept : ∀ b o, base.get? b = some o → s.heap.get? b = some o := fun b o e => (e0.bs b o e).1
  have KX : K.In s.heap := e0.mod.kin.keeps kept
  have lim : s.heap.NoLimit := e0.mod.nolimit.keeps kept
  have hk : ∀ y ∈ ps.zip us, scope.names.lookup y.1 = some .local ∨ (scope.names.lookup y.1 = some .cell ∧ ((cellsFrom (s.heap.objs.size + 1) scope.names []).lookup y.1).isSome = true) := by
    rintro ⟨n, v⟩ hy
    exact (S.par n (List.of_mem_zip hy).1).imp id fun q => ⟨q, PySem.W.cellsFrom_some _ _ _ (.inl q)⟩
  refine codeAny_call_function hr.depth (KX _ _ lk) rfl S.co S.gen rfl (PySem.W.codeRec_of KX hcd) (hbd _ _ _ _ ?_)
  refine wpAny_newFunctionEnv_cells S.kind hk ?_
  rintro env rfl s1 x
  refine ⟨lim.keeps x.toInCall.keep, codeAny_func ?_⟩
  obtain ⟨t, ht, hq⟩ := hb cdv ⟨_, _, _, _, _, _, _, _, _, lk⟩ hcd Ar outer s H vs Q E hg (hr.deeper _) hsp
  refine wpAny_mono (ht.run [] s1 (L2.start N vs) H _ (L2.inv_start S hr.hd e0 hl r x) hq) (fun fl s' hs => ?_) (fun _ _ z => z)
  rcases fl with _ | _ | _ | u
  · obtain ⟨σ', H', J, q⟩ := hs
    exact ⟨V.non, H', J.os, J.bare, J.base, J.hok, rfl, q⟩
  · obtain ⟨_, _, _, q⟩ := hs
    exact q.elim
  · obtain ⟨_, _, _, q⟩ := hs
    exact q.elim
  · obtain ⟨v, σ', H', J, rv, q⟩ := hs
    exact ⟨v, H', J.os, J.bare, J.base, J.hok, rv, q⟩
section
variable {X : Cx}
/-- called from a body -/
theorem runG {k : Nat} {f : Addr} {fd : FuncData} {ps : List Str} {sp : Sp} {dvs : List V} {ds : List Value} {W : XK} {pins : List (Addr × Obj)} {σ : L2.St} {H : Hp} {s : Shared} {Q : VK} {us : List Value} {vs : List V}
    (F : FnG X.prog X.w X.K X.mg X.base k f fd ps sp) (hg : X.A.guards = some []) (hr : Room k X.A) (hb : L2.Binds X.K fd ps ds) (hd : Vals dvs ds) (tk : L2.Takes X fun c d _ H => W c d H)
    (I : L2.Inv X pins σ H s) (r : Vals vs us) (h : sp (vs ++ dvs) H Q W) : wpAny (model X.prog X.w) X.A (call (.ref f) us) (L2.EP X pins σ Q) X.xe s := by
  have r2 := L2.Vals.append r hd
  have hl : (us ++ ds).length = ps.length := by
    rw [← L2.Vals.length r2]
    exact F.len _ _ _ _ h
  refine wpAny_call (codeAny_mono (F.run X.A X.stack s H ⟨us, []⟩ _ _ Q W hg hr I.env0 (hb s us I.kIn hl) r2 h) ?_)
  rintro (e | fl) s' hq
  · exact L2.passAt tk σ pins H s e s' I hq
  · rcases fl with _ | _ | _ | u
    · exact hq.elim
    · exact hq.elim
    · exact hq.elim
    · exact I.after hq
end
/-! ### names -/
def visB (sc : Scope) (x : Str) : Bool := match sc.names.lookup x with
  | some .local => true
  | some .cell => true
  | some .free => true
  | _ => false
def gloB (sc : Scope) (x : Str) : Bool := match sc.names.lookup x with
  | some .globalImplicit => true
  | _ => false
def stoB (sc : Scope) (x : Str) : Bool := match sc.names.lookup x with
  | some .local => true
  | some .cell => true
  | _ => false
def odd (x : Str) : Bool := x == ("__debug__" : Str) || x == ("__classdict__" : Str) || x == ("__name__" : Str)
theorem visB_ok {sc : Scope} {x : Str} (h : visB sc x = true) : L2.Vis sc x := by
  unfold visB at h
  split at h
  · exact .inl (by assumption)
  · exact .inr (.inl (by assumption))
  · exact .inr (.inr (by assumption))
  · cases h
theorem gloB_ok {sc : Scope} {x : Str} (h : gloB sc x = true) : sc.names.lookup x = some .globalImplicit := by
  unfold gloB at h
  split at h
  · assumption
  · cases h
theorem stoB_ok {sc : Scope} {x : Str} (h : stoB sc x = true) : sc.names.lookup x = some .local ∨ sc.names.lookup x = some .cell := by
  unfold stoB at h
  split at h
  · exact .inl (by assumption)
  · exact .inr (by assumption)
  · cases h
theorem odd_ok {x : Str} (h : odd x = false) : (x == ("__debug__" : Str)) = false ∧ (x == ("__classdict__" : Str)) = false ∧ x ≠ "__name__" := by
  unfold odd at h
  rw [Bool.or_eq_false_iff, Bool.or_eq_false_iff] at h
  exact ⟨h.1.1, h.1.2, fun e => by rw [e] at h; simp at h⟩
/-! ### promises -/
theorem Kx.move {A : Ad} {B : Addr → Prop} {m m1 : List Addr} {h h1 : Hs} {H H1 : Hp} {W : XK} (M : Mv m h H m1 h1 H1) : ∀ x h', Kx A B m h H W x h' → Kx A B m1 h1 H1 W x h' := fun x h' k m' H' cls d S M' r => k m' H' cls d S (M.trans M') r
theorem Kv.move {A : Ad} {B : Addr → Prop} {m m1 : List Addr} {h h1 : Hs} {H H1 : Hp} {Q : VK} (M : Mv m h H m1 h1 H1) : ∀ x h', Kv A B m h H Q x h' → Kv A B m1 h1 H1 Q x h' := fun x h' k m' H' w S M' r => k m' H' w S (M.trans M') r
/-- the promise of a def, as the language has it -/
def spC (A : Ad) (C : CallT) (f : Nat) : Sp := fun vs H Q E => ∃ B m h args, Sim A B m h H ∧ RpRs A B m h H args vs ∧ C f args h (Kv A B m h H Q) (Kx A B m h H E)
/-- the promise of a def that makes an object: what is told of the object -/
def spI (A : Ad) (C : CallT) (f : Nat) : Sp := fun vs H Q E => ∃ Q' : VK, spC A C f vs H Q' E ∧ ∀ w H', Q' w H' → Q .non H'
def spD (A : Ad) (C : CallT) (f : Nat) (df : Df) : Sp := if df.ini = true then spI A C f else spC A C f
theorem spD_no {A : Ad} {C : CallT} {f : Nat} {df : Df} (h : df.ini = false) : spD A C f df = spC A C f := by unfold spD; rw [h]; rfl
theorem spD_yes {A : Ad} {C : CallT} {f : Nat} {df : Df} (h : df.ini = true) : spD A C f df = spI A C f := by unfold spD; rw [h]; rfl
/-- defaults -/
def dfV : PV → Option V
  | .non => some .non
  | .int i => some (.int i)
  | .bl b => some (.bl b)
  | _ => none
theorem dfV_rep {A : Ad} {L : Addr → Prop} {H : Hp} {p : PV} {v : V} (e : dfV p = some v) : Rp A L H p v := by
  cases p <;> simp [dfV] at e <;> subst e <;> constructor
/-- called by all its parameters' names, from behind -/
def KwB (K : PySem.W.Frag) (fd : FuncData) (ps ks : List Str) : Prop := ∀ (s : Shared) (us : List Value), K.In s.heap → us.length = ks.length → BindsTo s fd ⟨[], ks.zip us⟩ (ps.zip us.reverse)
/-- an object made by all names but its own, from behind -/
def KwM (K : PySem.W.Frag) (fd : FuncData) (ps ks : List Str) : Prop := ∀ (s : Shared) (x : Value) (us : List Value), K.In s.heap → us.length = ks.length → BindsTo s fd ⟨[x], ks.zip us⟩ (ps.zip (x :: us.reverse))
/-- so many of the values given by names, in the parameters' order -/
def pickV (us : List Value) : List (Option Nat) → Option (List Value)
  | [] => some []
  | some j :: r => match us[j]? with
    | some u => (pickV us r).map (u :: ·)
    | none => none
  | none :: r => (pickV us r).map (.none :: ·)
/-- an object made by its first value and the name of its second one -/
def KwX (K : PySem.W.Frag) (fd : FuncData) (ps : List Str) (y : Str) : Prop := ∀ (s : Shared) (x a b : Value), K.In s.heap → BindsTo s fd ⟨[x, a], [(y, b)]⟩ (ps.zip [x, a, b])
/-- called by some names, the object ahead -/
def KwN (K : PySem.W.Frag) (fd : FuncData) (ps ks : List Str) (sel : List (Option Nat)) : Prop := ∀ (s : Shared) (x : Value) (us : List Value), K.In s.heap → us.length = ks.length → ∃ as, pickV us sel = some as ∧ BindsTo s fd ⟨[x], ks.zip us⟩ (ps.zip (x :: as))
def KwD (K : PySem.W.Frag) (fd : FuncData) (ps : List Str) (df : Df) : Prop := match df.own with
  | none => KwB K fd ps (df.N.take df.npar).reverse
  | some _ => KwM K fd ps ((df.N.take df.npar).drop 1).reverse
/-- a def of the text: where it stands, how it is called with the defaults dv -/
structure DefAt (A : Ad) (C : CallT) (kk : Nat) (X : Cx) (f : Nat) (df : Df) : Prop where
  nm : df.own = none → X.mg df.name = some (.ref (A.F f))
  kp : PySem.W.keepIn X.K (.ref (A.F f)) = true
  fn : ∃ (fd : FuncData) (ps : List Str), FnG X.prog X.w X.K X.mg X.base kk (A.F f) fd ps (spD A C f df) ∧ ps.length = df.npar ∧
    (∀ n, n ≤ df.dfl.length → ∃ dvs ds, (df.dfl.drop n).mapM dfV = some dvs ∧ Vals dvs ds ∧ L2.Binds X.K fd ps ds) ∧ (df.kw = true → KwD X.K fd ps df) ∧ (∀ e ∈ df.kws, KwN X.K fd ps e.1 e.2) ∧ (df.kwx = true → ∃ y, (df.N.take df.npar)[2]? = some y ∧ KwX X.K fd ps y)
/-- a class of the text -/
structure ClsAt (A : Ad) (K : PySem.W.Frag) (mg : Str → Option Value) (k : Nat) (c : Cl) : Prop where
  mg_ : mg c.name = some (.ref (A.O k).C)
  nn : (A.O k).N = c.N
  lf : (A.O k).lf = c.lf
  nd : c.N.Nodup
  sz : c.N.length < 900
  cl : L2.Cls K (A.O k).C
  na : ∀ f ∈ c.N, L2.NoAttr K (A.O k).C f
  ha : PySem.W.findIn K (.ref (A.O k).C) "__class__" = some (some (.builtin "object.__class__"))
  hn : PySem.W.specialIn K (.builtin "object.__class__") "__get__" = some (some (.builtin "getset_descriptor.__get__"))
  ht : PySem.W.takesIn K (.builtin "object.__class__") = some true
  hm : PySem.W.mroIn K (A.O k).C (.type "object") = some true
  is : PySem.W.kitOne K (.ref (A.O k).C) (.ref (A.O k).C) = some true
  no : ∀ t ∈ (["NoneType", "bool", "int", "str", "tuple", "list", "dict"] : List String), PySem.W.kitOne K (.type t) (.ref (A.O k).C) = some false
  nt : ∀ t ∈ (["NoneType", "bool", "int", "str", "tuple", "list", "dict"] : List String), PySem.W.notFirst K (A.O k).C (.type t) = true
/-- a method of a class of the text -/
structure MetAt (A : Ad) (K : PySem.W.Frag) (k : Nat) (c : Cl) (f : Nat) (df : Df) : Prop where
  me : L2.Meth K (A.O k).C df.name (A.F f)
  nf : df.name ∉ c.N
  mkr : df.ini = true → L2.Mk K (A.O k).C (A.F f)
/-- a dict of the text -/
structure DicAt (A : Ad) (K : PySem.W.Frag) (w : World) (mg : Str → Option Value) (x : Str) (kvs : List (Str × PV)) : Prop where
  ex : ∃ (d : Addr) (es : Array DictEntry) (n : Nat), mg x = some (.ref d) ∧ L2.KDict K w d es n ∧
    ∀ z : Str, match kvs.lookup z with
      | some p => ∃ u v, PySem.W.nsIn K d z = some (some u) ∧ L2.RelV v u ∧ ∀ L H, Rp A L H p v
      | none => PySem.W.nsIn K d z = some none
/-- an error class of the text that is raised -/
structure ExcAt (A : Ad) (X : Cx) (c : Nat) (x : Str) : Prop where
  mg : X.mg x = some (.ref (A.CA c))
  ei : PySem.W.excIn X.K (A.CA c) He.veBase "ValueError.__new__" = true
  kp : PySem.W.keepIn X.K (.ref (A.CA c)) = true
  rs : L2.Raises X (.ref (A.CA c))
/-- what it tells of a value -/
def Tld (P : Pg) (v : V) (H' : Hp) (Q : VK) : Prop := if P.sd = true then Q v H' else ([.str "told", v] : List V).length ≤ sizeLine ∧ ∀ p, H' p = none → Q (.ref p) (upd H' p (.tup [.str "told", v]))
/-- what the law's own word makes of a call without parameters -/
def tWd (A : Ad) (P : Pg) (t : XK → TE) : TE := fun σ H Q => LamX.Tabs A.T H ∧ ∀ H1, LamX.ExtN H H1 → LamX.Tabs A.T H1 →
  t (fun cls d H' => ∃ (x : XV) (w : Str × Str) (B : Addr → Prop) (m : List Addr) (h : Hs), P.exc[x.cls]? = some w ∧ okF x = true ∧ RpX A B m h H' x cls d ∧ Sim A B m h H' ∧ Kp A B m h H' Q (.tup (.str w.2 :: x.flds.map (·.2)))) σ H1 fun v H' => Tld P v H' Q
def TTw (A : Ad) (P : Pg) : (XK → Hp → VK → Prop) → Hp → VK → Prop := fun tl H Q => tl (fun cls d H' => ∃ (x : XV) (w : Str × Str) (B : Addr → Prop) (m : List Addr) (h : Hs), P.exc[x.cls]? = some w ∧ okF x = true ∧ RpX A B m h H' x cls d ∧ Sim A B m h H' ∧ Kp A B m h H' Q (.tup (.str w.2 :: x.flds.map (·.2)))) H fun v H' => Tld P v H' Q
section
variable {X : Cx}
/-- the value of a lambda: a new function, known from now on -/
def tLm (T : List (Addr × Str)) (q : Str) (cl : List (Str × Addr)) (params : Arguments) (body : Expr) (scope : Scope) : TE := fun σ H Q =>
  LamX.Tabs T H ∧ ∀ f c' H1, LamX.ExtN H H1 → LamX.Tabs T H1 → H f = none → H1 f = some (LamO q cl params body scope f c') → H1 c' = some (LamX.CodeO c' q) → Q (.ref f) H1
/-- f is a lambda of the frame X, tl its body's reading at σ -/
def LamG (X : Cx) (k : Nat) (σ : L2.St) (f : Addr) (HZ : Hp) (tl : L2.XK → Hp → VK → Prop) : Prop := ∃ (c' : Addr) (params : Arguments) (body : Expr) (lsc : Scope) (t : L2.XK → TE),
  (HZ f = some (LamO (X.env.qual ++ ("<lambda>" : Str)) (L2.cloFrom X.env.cells lsc.names []) params body lsc f c') ∧ HZ c' = some (LamX.CodeO c' (X.env.qual ++ ("<lambda>" : Str)))) ∧ LamX.LamS X.env.scope lsc ∧
  (∀ (q : Str) (cl : List (Str × Addr)) (pm cv ctv : Value), bindArgs (PySem.W.kla_fn "<lambda>" q params body lsc cl pm cv ctv) ⟨[], []⟩ = pure []) ∧
  (∀ (Ar : Around) (outer : List PySem.Env) (s : Shared) (H : Hp) (E : L2.XK) (f c' : Addr), Ar.guards = some [] → L2.Room k (Ar.deeper (LamX.lamEnv X lsc s.heap.objs.size f c')) → PE (LamX.lamCx X Ar outer s H E lsc f c') body (t E)) ∧
  tl = fun E H' Q' => t E σ H' Q'
/-- the law's own word, called in a block's element with the name of such a lambda -/
def tWv (X : Cx) (k : Nat) (TT : (L2.XK → Hp → VK → Prop) → Hp → VK → Prop) (iz : Nat) (σ : L2.St) : TE := fun σ2 H2 Q => ∃ f tl, σ2[iz]? = some (some (.ref f)) ∧ LamG X k σ f H2 tl ∧ TT tl H2 Q
/-- such a lambda, called in a block's element -/
def tVc (X : Cx) (k : Nat) (iz : Nat) (σ : L2.St) : TE := fun σ2 H2 Q => ∃ f tl, σ2[iz]? = some (some (.ref f)) ∧ LamG X k σ f H2 tl ∧ tl (fun _ _ _ => False) H2 Q
end
/-- no parameter -/
def noPar (ps : Arguments) : Bool := ps.posonlyargs.isEmpty && ps.args.isEmpty && ps.vararg.isNone && ps.kwonlyargs.isEmpty && ps.kw_defaults.isEmpty && ps.kwarg.isNone && ps.defaults.isEmpty
structure LamAt (A : Ad) (P : Pg) (kk : Nat) (X : Cx) : Prop where
  go : ∀ {params : Arguments} {body : Expr} {scope : Scope} {p lpos pos : Pos} {t : XK → TE}, X.env.scope.names.lookup P.wn = some .globalImplicit → LamX.lamSB X.env.scope scope = true → noPar params = true →
    (∀ (Ar : Around) (outer : List PySem.Env) (s : Shared) (H : Hp) (E : XK) (f c' : Addr), Ar.guards = some [] → Room (kk + 1) (Ar.deeper (LamX.lamEnv X scope s.heap.objs.size f c')) → PE (LamX.lamCx X Ar outer s H E scope f c') body (t E)) →
    PE X (.Call (.Name P.wn p) [.Lambda params body scope lpos] [] pos) (tWd A P t)
  lm : ∀ {params : Arguments} {body : Expr} {scope : Scope} {pos : Pos}, LamX.lamSB X.env.scope scope = true → noPar params = true → PE X (.Lambda params body scope pos) (tLm A.T (X.env.qual ++ ("<lambda>" : Str)) (L2.cloFrom X.env.cells scope.names []) params body scope)
  wv : ∀ {pins : List (Addr × Obj)} {σ : L2.St} {s : Shared} {H : Hp} {cs : Scope} {ce : PySem.Env} {fp : List Addr} {z : Str} {p pz pos : Pos} {iz : Nat}, L2.Inv X pins σ H s → (∀ b ∈ fp, L2.FpOk X pins H b) → ce.scope.names.lookup P.wn = some .globalImplicit → X.N[iz]? = some z → L2.Vis ce.scope z →
    (z == ("__debug__" : Str)) = false → (z == ("__classdict__" : Str)) = false → PE (X.blk s H cs ce fp) (.Call (.Name P.wn p) [.Name z pz] [] pos) (tWv X (kk + 1) (TTw A P) iz σ)
  vc : ∀ {pins : List (Addr × Obj)} {σ : L2.St} {s : Shared} {H : Hp} {cs : Scope} {ce : PySem.Env} {fp : List Addr} {z : Str} {p pos : Pos} {iz : Nat}, L2.Inv X pins σ H s → (∀ b ∈ fp, L2.FpOk X pins H b) → X.N[iz]? = some z → L2.Vis ce.scope z →
    (z == ("__debug__" : Str)) = false → (z == ("__classdict__" : Str)) = false → PE (X.blk s H cs ce fp) (.Call (.Name z p) [] [] pos) (tVc X (kk + 1) iz σ)
structure Ctx (A : Ad) (P : Pg) (C : CallT) (N : List Str) (sc ss : Scope) (l : Bool) (kk : Nat) (W : XK) (X : Cx) : Prop where
  eK : X.K = A.K
  eS : X.env.scope = sc
  eN : X.N = N
  kd : sc.kind = .function
  nd : N.Nodup
  calm : X.calm = true
  un : X.A.units + 65 < cLine
  gd : X.A.guards = some []
  tk : L2.Takes X fun c d _ H => W c d H
  po : PassesOwn (model X.prog X.w) X.A X.env X.xe
  st : ∀ x, stoB ss x = true → L2.Loc sc x ∧ (X.fn x = true ∨ sc.names.lookup x = some .local)
  rm : Room (kk + 1) X.A
  cal : ∀ (f : Nat) (df : Df), P.defs[f]? = some df → DefAt A C kk X f df
  con : ∀ (g : Nat) (x : Str) (p : PV), P.cons[g]? = some (x, p) → ∃ u v, X.mg x = some u ∧ L2.RelV v u ∧ ∀ L H, Rp A L H p v
  blt : ∀ x ∈ P.blt, X.mg x = none
  exc : ∀ c ∈ P.rai, ∀ w, P.exc[c]? = some w → ExcAt A X c w.1
  exf : ∀ c ∈ P.raf, ∀ w, P.exc[c]? = some w → ExfAt A X.K X.mg c w.1
  lam : l = true → LamAt A P kk X
  lmx : l = true → ∀ X' : Cx, X'.K = X.K → X'.mg = X.mg → X'.base = X.base → X'.A = X.A → X'.env.code = X.env.code → X'.env.qual = X.env.qual → LamAt A P kk X'
  cls : ∀ (k : Nat) (c : Cl), P.cls[k]? = some c → ClsAt A X.K X.mg k c
  nfo : ∀ (k : Nat) (c : Cl) (j : Nat) (d : Cl), P.cls[k]? = some c → P.cls[j]? = some d → PySem.W.notFirst X.K (A.O k).C (.ref (A.O j).C) = true ∧ PySem.W.kitOne X.K (.ref (A.O j).C) (.ref (A.O k).C) = some (decide (j = k))
  met : ∀ (k : Nat) (c : Cl) (f : Nat) (df : Df), P.cls[k]? = some c → P.defs[f]? = some df → df.own = some c.name → MetAt A X.K k c f df
  dcs : ∀ (g : Nat) (x : Str) (kvs : List (Str × PV)), P.dcs[g]? = some (x, kvs) → DicAt A X.K X.w X.mg x kvs
end G43
set_option Elab.async false
set_option linter.all false
set_option maxRecDepth 100000
set_option maxHeartbeats 4000000
namespace G43
open PySem
open L2 (V HO Hp SqL SqT Rd upd upd_same upd_ne Cx OpR R2 VK CallR IxR SlR TE TA TS TT PE PA PS PSs PT XK Sp Room Vals)
open PySem.Spec PyProof.Rows
/-! ### does a text say what the small language says? -/
def biN : BI → Str
  | .len => "len"
  | .abs => "abs"
  | .max => "max"
  | .int => "int"
  | .tuple => "tuple"
  | .list => "list"
  | .all => "all"
  | .any => "any"
  | .repr => "repr"
  | .str => "str"
  | .sorted => "sorted"
  | .sum => "sum"
  | .bool => "bool"
  | .set => "set"
def cstB : PV → Const → Bool
  | .non, .none => true
  | .bl a, .bool b => a == b
  | .int i, .int j => decide (i = j)
  | .str x, .str y => decide (x = y)
  | _, _ => false
def noStar : Expr → Bool
  | .Starred _ _ => false
  | _ => true
def noSlice : Expr → Bool
  | .Slice _ _ _ _ => false
  | _ => true
def noSet : Expr → Bool
  | .Set _ _ _ => false
  | _ => true
def samD : PV → PV → Bool
  | .non, .non => true
  | .int i, .int j => decide (i = j)
  | .bl i, .bl j => i == j
  | _, _ => false
def samDs : List PV → List PV → Bool
  | [], [] => true
  | x :: xs, y :: ys => samD x y && samDs xs ys
  | _, _ => false
mutual
def mG (N : List Str) (ss : Scope) : Tg → Expr → Bool
  | .nm i, .Name x _ => decide (N[i]? = some x) && stoB ss x
  | .nil, .Tuple [] _ _ => true
  | .cons a r, .Tuple (e :: es) _ _ => mG N ss a e && noStar e && mGL N ss r es
  | _, _ => false
def mGL (N : List Str) (ss : Scope) : Tg → List Expr → Bool
  | .nil, [] => true
  | .cons a r, e :: es => mG N ss a e && noStar e && mGL N ss r es
  | _, _ => false
end
def itT : It → Expr → Bool
  | .enm _, .Tuple _ _ _ => true
  | .enm _, _ => false
  | _, _ => true
def ownOf (N : List Str) (tg : Tg) : List (Str × Nat) := tg.slots.map fun i => (N.getD i "", i)
theorem ownOf_slots (N : List Str) (tg : Tg) : (ownOf N tg).map (·.2) = tg.slots := by
  unfold ownOf
  rw [List.map_map]
  exact List.map_id _
/-- what an attribute may be asked of -/
def plainB : Expr → Bool
  | .Name _ _ => true
  | .Attribute _ _ _ => true
  | _ => false
def nameB : Expr → Bool
  | .Name _ _ => true
  | _ => false
theorem plainB_ok {o : Expr} (h : plainB o = true) (f : Str) (env : PySem.Env) : attributeBase o f env (eval o env) = eval o env := by
  cases o <;> first | rfl | cases h
/-- a dict's display: texts and numbers -/
def dicS : List (Str × Int) → List (Option Expr) → List Expr → Bool
  | [], [], [] => true
  | (s, i) :: r, some (.Constant (.str x) _ _) :: ks, .Constant (.int j) _ _ :: vs => decide (s = x) && decide (i = j) && dicS r ks vs
  | _, _, _ => false
def dvB (df : Df) (n : Nat) (dv : List PV) : Bool := decide (n + dv.length = df.npar) && decide (dv.length ≤ df.dfl.length) && samDs (df.dfl.drop (df.dfl.length - dv.length)) dv
/-- a method of a class of the text -/
def spMB (P : Pg) (k f : Nat) (m : Str) : Bool := match P.cls[k]?, P.defs[f]? with
  | some c, some df => decide (df.own = some c.name) && decide (df.name = m) && !df.ini
  | _, _ => false
def mkqB (P : Pg) (k f : Nat) (x : Str) : Bool := match P.cls[k]?, P.defs[f]? with
  | some c, some df => decide (c.name = x) && decide (df.own = some x) && decide (df.name = "__init__") && df.ini
  | _, _ => false
def kwsB (P : Pg) (f : Nat) (ks : List Str) (sel : List (Option Nat)) : Bool := match P.defs[f]? with
  | some df => decide ((ks, sel) ∈ df.kws)
  | none => false
def kwN : List Keyword → List Str → Bool
  | [], [] => true
  | ⟨some x, _, _⟩ :: r, y :: s => decide (x = y) && kwN r s
  | _, _ => false
def mkB (P : Pg) (k f n : Nat) (dv : List PV) (x : Str) : Bool := match P.cls[k]?, P.defs[f]? with
  | some c, some df => decide (c.name = x) && decide (df.own = some x) && decide (df.name = "__init__") && df.ini && dvB df n dv
  | _, _ => false
section
variable (P : Pg) (N : List Str)
mutual
def mE : E → Bool → Scope → Expr → Bool
  | .var i, l, sc, x0 => (match x0 with
    | .Name x _ => decide (N[i]? = some x) && visB sc x && !odd x
    | _ => false)
  | .cst p, l, _, x0 => (match x0 with
    | .Constant c _ _ => cstB p c
    | _ => false)
  | .glo g, l, sc, x0 => (match x0 with
    | .Name x _ => (match P.cons[g]? with | some q => decide (q.1 = x) | none => false) && gloB sc x && !odd x
    | _ => false)
  | .bin op a b, l, sc, x0 => (match x0 with
    | .BinOp a' op' b' _ => decide (op = op') && mE a l sc a' && mE b l sc b'
    | _ => false)
  | .neg a, l, sc, x0 => (match x0 with
    | .UnaryOp .USub a' _ => mE a l sc a'
    | _ => false)
  | .nt a, l, sc, x0 => (match x0 with
    | .UnaryOp .Not a' _ => mE a l sc a'
    | _ => false)
  | .and a b, l, sc, x0 => (match x0 with
    | .BoolOp .And [x, y] _ => mE a l sc x && mE b l sc y
    | .BoolOp .And (x :: y :: z :: r) p => mE a l sc x && mE b l sc (.BoolOp .And (y :: z :: r) p)
    | _ => false)
  | .or a b, l, sc, x0 => (match x0 with
    | .BoolOp .Or [x, y] _ => mE a l sc x && mE b l sc y
    | .BoolOp .Or (x :: y :: z :: r) p => mE a l sc x && mE b l sc (.BoolOp .Or (y :: z :: r) p)
    | _ => false)
  | .cmp op a b, l, sc, x0 => (match x0 with
    | .Compare a' [op'] [b'] _ => decide (op = op') && !behindInMarks op b' && mE a l sc a' && mE b l sc b'
    | _ => false)
  | .chn o1 o2 a b c, l, sc, x0 => (match x0 with
    | .Compare a' [p1, p2] [b', c'] _ => decide (o1 = p1) && decide (o2 = p2) && !lastMarks [o1, o2] [b', c'] && mE a l sc a' && mE b l sc b' && mE c l sc c'
    | _ => false)
  | .ite t a b, l, sc, x0 => (match x0 with
    | .IfExp t' a' b' _ => mE t l sc t' && mE a l sc a' && mE b l sc b'
    | _ => false)
  | .call f es dv, l, sc, x0 => (match x0 with
    | .Call (.Name x _) args [] _ => (match P.defs[f]? with | some df => (decide (df.name = x) && df.own.isNone && !df.ini) && decide (es.len + dv.length = df.npar) && decide (dv.length ≤ df.dfl.length) && samDs (df.dfl.drop (df.dfl.length - dv.length)) dv | none => false) && gloB sc x && !odd x && mL es l sc args
    | _ => false)
  | .bi b es, l, sc, x0 => (match x0 with
    | .Call (.Name x _) args [] _ => decide (biN b = x) && decide (x ∈ P.blt) && gloB sc x && mL es l sc args && !args.isEmpty
    | _ => false)
  | .isi a t, l, sc, x0 => (match x0 with
    | .Call (.Name x _) [a', .Name y _] [] _ => decide (x = "isinstance") && decide (y = Str.ofString (tyN t)) && decide (x ∈ P.blt) && decide (y ∈ P.blt) && gloB sc x && gloB sc y && mE a l sc a' && noStar a'
    | _ => false)
  | .idx a i, l, sc, x0 => (match x0 with
    | .Subscript a' i' _ => noSlice i' && mE a l sc a' && mE i l sc i'
    | _ => false)
  | .slo a lo, l, sc, x0 => (match x0 with
    | .Subscript a' (.Slice (some l') none none _) _ => mE a l sc a' && mE lo l sc l'
    | _ => false)
  | .shi a hi, l, sc, x0 => (match x0 with
    | .Subscript a' (.Slice none (some h') none _) _ => mE a l sc a' && mE hi l sc h'
    | _ => false)
  | .slh a lo hi, l, sc, x0 => (match x0 with
    | .Subscript a' (.Slice (some l') (some h') none _) _ => mE a l sc a' && mE lo l sc l' && mE hi l sc h'
    | _ => false)
  | .tup es, l, sc, x0 => (match x0 with
    | .Tuple es' _ _ => mL es l sc es' && decide (es'.length ≤ 1000)
    | _ => false)
  | .lst es, l, sc, x0 => (match x0 with
    | .List es' _ => mL es l sc es' && decide (es'.length ≤ 1000)
    | _ => false)
  | .mls es, l, sc, x0 => (match x0 with
    | .List es' _ => mL es l sc es' && decide (es'.length ≤ 1000)
    | _ => false)
  | .mrp a b, l, sc, x0 => (match x0 with
    | .BinOp a' op' b' _ => decide (op' = .Mult) && mE a l sc a' && mE b l sc b'
    | _ => false)
  | .frz a, l, sc, e => mE a l sc e
  | .word e, l, sc, x0 => (match x0 with
    | .Call (.Name x _) [.Lambda ps body scope _] [] _ => l && decide (x = P.wn) && gloB sc x && LamX.lamSB sc scope && noPar ps && mE e false scope body
    | _ => false)
  | .comp elt tg it ifs, l, sc, x0 => (match x0 with
    | .ListComp elt' [⟨tg', it', ifs', as⟩] scope _ => decide (as = 0) && L2.blkC N sc scope (ownOf N tg) && mG N scope tg tg' && itT it tg' && noSet it' && mI it l sc it' && mTs ifs false (L2.relS scope sc) ifs' && mE elt l (L2.relS scope sc) elt'
    | _ => false)
  | .fld a k t, l, sc, x0 => (match x0 with
    | .Attribute a' f _ => (match P.cls[k]? with | some c => decide (c.N[t]? = some f) | none => false) && plainB a' && mE a l sc a'
    | _ => false)
  | .lfd a k, l, sc, x0 => (match x0 with
    | .Attribute a' f _ => (match P.cls[k]? with | some c => decide (c.lf = f) && decide (f ∈ c.N) | none => false) && plainB a' && mE a l sc a'
    | _ => false)
  | .mko k f es dv, l, sc, x0 => (match x0 with
    | .Call (.Name x _) args [] _ => mkB P k f (es.len + 1) dv x && gloB sc x && !odd x && mL es l sc args && !args.isEmpty
    | _ => false)
  | .lze a b, l, sc, x0 => (match x0 with
    | .Call (.Name x _) [.Call (.Name y _) [a', b'] [] _] [] _ => decide (x = "list") && decide (x ∈ P.blt) && gloB sc x && decide (y = "zip") && decide (y ∈ P.blt) && gloB sc y && noStar a' && noStar b' && mE a l sc a' && mE b l sc b'
    | _ => false)
  | .lrg a, l, sc, x0 => (match x0 with
    | .Call (.Name x _) [.Call (.Name y _) [a'] [] _] [] _ => decide (x = "list") && decide (x ∈ P.blt) && gloB sc x && decide (y = "range") && decide (y ∈ P.blt) && gloB sc y && noStar a' && mE a l sc a'
    | _ => false)
  | .mth k f a es dv, l, sc, x0 => (match x0 with
    | .Call (.Attribute a' m ap) args [] cp => (ap.endLine == cp.line) && decide (args.length < 30) && (match P.cls[k]?, P.defs[f]? with | some c, some df => decide (df.own = some c.name) && decide (df.name = m) && !df.ini && dvB df (es.len + 1) dv | _, _ => false) && plainB a' && mE a l sc a' && mL es l sc args
    | _ => false)
  | .lno k f a, l, sc, x0 => (match x0 with
    | .Call (.Name x _) [a'] [] _ => decide (x = "len") && spMB P k f "__len__" && decide (x ∈ P.blt) && gloB sc x && mE a l sc a' && noStar a'
    | _ => false)
  | .fm1 p a q, l, sc, x0 => (match x0 with
    | .JoinedStr [.Constant (.str p') _ _, .FormattedValue a' c none _, .Constant (.str q') _ _] _ => decide (p' = p) && decide (q' = q) && decide (c = -1) && mE a l sc a' && decide (p.length ≤ 1000)
    | _ => false)
def mL : EL → Bool → Scope → List Expr → Bool
  | .nil, l, _, [] => true
  | .cons e r, l, sc, e' :: r' => mE e l sc e' && noStar e' && mL r l sc r'
  | _, l, _, _ => false
def mI : It → Bool → Scope → Expr → Bool
  | .seq e, l, sc, x => mE e l sc x
  | .rng1 e, l, sc, .Call (.Name x _) [e'] [] _ => decide (x = "range") && decide (x ∈ P.blt) && gloB sc x && noStar e' && mE e l sc e'
  | .rng2 a b, l, sc, .Call (.Name x _) [a', b'] [] _ => decide (x = "range") && decide (x ∈ P.blt) && gloB sc x && noStar a' && noStar b' && mE a l sc a' && mE b l sc b'
  | .enm e, l, sc, .Call (.Name x _) [e'] [] _ => decide (x = "enumerate") && decide (x ∈ P.blt) && gloB sc x && noStar e' && mE e l sc e'
  | _, l, _, _ => false
def mTs : EL → Bool → Scope → List Expr → Bool
  | .nil, l, _, [] => true
  | .cons e .nil, l, sc, [e'] => mE e l sc e'
  | _, l, _, _ => false
end
end
theorem starEach_no {e : Expr} (h : noStar e = true) (es : List Expr) (env : PySem.Env) : starEach (e :: es) env = (false, eval e env) :: starEach es env := by
  cases e <;> first | rfl | cases h
theorem back_no (pos : Pos) (env : PySem.Env) : ∀ {es : List Expr}, es.all noStar = true → (backTo pos (starEach es env)).any (·.1) = false
  | [], _ => rfl
  | e :: es, h => by
    rw [List.all_cons, Bool.and_eq_true] at h
    rw [starEach_no h.1]
    have := back_no pos env h.2
    simpa [backTo] using this
/-! ### readings -/
section
variable (A : Ad) (P : Pg) (C : CallT) (W : XK)
def Kvs (A : Ad) (B : Addr → Prop) (m : List Addr) (h : Hs) (H : Hp) (Q : List V → Hp → Prop) : List RV → Hs → Prop := fun v h' => ∀ m' H' w, Sim A B m' h' H' → Mv m h H m' h' H' → RpRs A B m' h' H' v w → Q w H'
def tL (es : EL) : TA := fun σ H Q => ∃ B m h ρ, Sim A B m h H ∧ Sl A B m h H ρ σ ∧ wpL P C es ρ h (Kvs A B m h H Q) (Kx A B m h H W)
/-- as a test -/
def tQ (e : E) : TT := fun σ H Q => tE A P C W e σ H fun v H1 => ∃ c, v = .bl c ∧ Q c H1
end
section
variable {A : Ad} {P : Pg} {C : CallT} {W : XK} {B : Addr → Prop} {m : List Addr} {h : Hs} {H : Hp} {ρ : Env} {σ : L2.St}
theorem tE_of (hC : MonoC C C) {e : E} {R : QV} {T : VK} (S : Sim A B m h H) (s : Sl A B m h H ρ σ) (z : wpE P C e ρ h R (Kx A B m h H W))
    (k : ∀ v h1 m1 H1 w, R v h1 → Sim A B m1 h1 H1 → Mv m h H m1 h1 H1 → RpR A B m1 h1 H1 v w → T w H1) : tE A P C W e σ H T :=
  ⟨B, m, h, ρ, S, s, wpE_mono hC e (fun v h1 r m1 H1 w S1 M1 q => k v h1 m1 H1 w r S1 M1 q) (fun _ _ z => z) z⟩
theorem tL_of (hC : MonoC C C) {es : EL} {R : List RV → Hs → Prop} {T : List V → Hp → Prop} (S : Sim A B m h H) (s : Sl A B m h H ρ σ) (z : wpL P C es ρ h R (Kx A B m h H W))
    (k : ∀ v h1 m1 H1 w, R v h1 → Sim A B m1 h1 H1 → Mv m h H m1 h1 H1 → RpRs A B m1 h1 H1 v w → T w H1) : tL A P C W es σ H T :=
  ⟨B, m, h, ρ, S, s, wpL_mono hC es (fun v h1 r m1 H1 w S1 M1 q => k v h1 m1 H1 w r S1 M1 q) (fun _ _ z => z) z⟩
/-- the next expression, behind another -/
theorem wpE_next (hC : MonoC C C) {e : E} {R : QV} {m1 : List Addr} {h1 : Hs} {H1 : Hp} (M : Mv m h H m1 h1 H1) (z : wpE P C e ρ h1 R (Kx A B m h H W)) : wpE P C e ρ h1 R (Kx A B m1 h1 H1 W) :=
  wpE_mono hC e (fun _ _ q => q) (Kx.move M) z
theorem wpL_next (hC : MonoC C C) {e : EL} {R : List RV → Hs → Prop} {m1 : List Addr} {h1 : Hs} {H1 : Hp} (M : Mv m h H m1 h1 H1) (z : wpL P C e ρ h1 R (Kx A B m h H W)) : wpL P C e ρ h1 R (Kx A B m1 h1 H1 W) :=
  wpL_mono hC e (fun _ _ q => q) (Kx.move M) z
theorem PE_imp {X : Cx} {e : Expr} {t t' : TE} (p : PE X e t) (i : ∀ σ H Q, t' σ H Q → t σ H Q) : PE X e t' := ⟨fun pins s σ H Q I z => p.run pins s σ H Q I (i σ H Q z)⟩
theorem PT_imp {X : Cx} {e : Expr} {t t' : TT} (p : PT X e t) (i : ∀ σ H Q, t' σ H Q → t σ H Q) : PT X e t' := ⟨fun pins s σ H Q I z => p.run pins s σ H Q I (i σ H Q z)⟩
theorem PA_imp {X : Cx} {e : List Expr} {t t' : TA} (p : PA X e t) (i : ∀ σ H Q, t' σ H Q → t σ H Q) : PA X e t' := ⟨fun pos pins s σ H Q I z => p.run pos pins s σ H Q I (i σ H Q z)⟩
theorem Kp_of {Q : VK} {m1 : List Addr} {h1 : Hs} {H1 : Hp} (M : Mv m h H m1 h1 H1) {p : PV} (k : Kv A B m h H Q (.pv p) h1) : Kp A B m1 h1 H1 Q p := fun H' v S M' r => k m1 H' v S (M.trans M') r
end
end G43
set_option Elab.async false
set_option linter.all false
set_option maxRecDepth 100000
set_option maxHeartbeats 4000000
namespace G43
open PySem
open L2 (V HO Hp SqL SqT Rd upd upd_same upd_ne Cx OpR R2 VK CallR IxR SlR TE TA TS TT PE PA PS PSs PT XK Sp Room Vals)
open PySem.Spec PyProof.Rows
section
variable {A : Ad} {B : Addr → Prop} {m : List Addr} {H : Hp}
end
section
variable {A : Ad} {P : Pg} {C : CallT} {N : List Str} {sc ss : Scope} {l : Bool} {kk : Nat} {W : XK} {X : Cx}
/-! ### one by one -/
theorem s_var (cx : Ctx A P C N sc ss l kk W X) {i : Nat} {x : Str} {pos : Pos} (hN : N[i]? = some x) (hv : visB sc x = true) (ho : odd x = false) : PE X (.Name x pos) (tE A P C W (.var i)) := by
  obtain ⟨o1, o2, o3⟩ := odd_ok ho
  refine PE_imp (L2.pe_var (i := i) (by rw [cx.eN]; exact hN) (by rw [cx.eS]; exact visB_ok hv) o1 o2) fun σ H Q z => ?_
  obtain ⟨B, m, h, ρ, S, s, z⟩ := z
  unfold wpE at z
  obtain ⟨v, e, k⟩ := z
  obtain ⟨w, e1, r⟩ := s.at_ i v e
  exact ⟨w, e1, k m H w S (Mv.refl _ _ _) r⟩
theorem s_cst {p : PV} {c : Const} {j : Nat} {pos : Pos} (hc : cstB p c = true) : PE X (.Constant c j pos) (tE A P C W (.cst p)) := by
  have fin : ∀ {v : V}, (∀ L H, Rp A L H p v) → PE X (.Constant c j pos) (L2.tC v) → PE X (.Constant c j pos) (tE A P C W (.cst p)) := fun {v} r q => PE_imp q fun σ H Q z => by
    obtain ⟨B, m, h, ρ, S, s, z⟩ := z
    unfold wpE at z
    exact z m H v S (Mv.refl _ _ _) (r _ _)
  unfold cstB at hc
  split at hc
  · exact fin (fun _ _ => .non) L2.pe_non
  · cases eq_of_beq hc
    exact fin (fun _ _ => .bl _) L2.pe_bl
  · cases of_decide_eq_true hc
    exact fin (fun _ _ => .int _) L2.pe_int
  · cases of_decide_eq_true hc
    exact fin (fun _ _ => .str _) L2.pe_str
  · cases hc
theorem s_glo (cx : Ctx A P C N sc ss l kk W X) {g : Nat} {x : Str} {p : PV} {pos : Pos} (hg : P.cons[g]? = some (x, p)) (hv : gloB sc x = true) (ho : odd x = false) : PE X (.Name x pos) (tE A P C W (.glo g)) := by
  obtain ⟨o1, o2, o3⟩ := odd_ok ho
  obtain ⟨u, v, e1, e2, e3⟩ := cx.con g x p hg
  refine PE_imp (L2.pe_glob (v := v) (show X.env.scope.names.lookup x = _ by rw [cx.eS]; exact gloB_ok hv) e1 e2 o1) fun σ H Q z => ?_
  obtain ⟨B, m, h, ρ, S, s, z⟩ := z
  unfold wpE at z
  obtain ⟨y, q, e4, k⟩ := z
  rw [hg] at e4
  cases e4
  exact k m H v S (Mv.refl _ _ _) (e3 _ _)
variable (hC : MonoC C C)
include hC
theorem s_bin (cx : Ctx A P C N sc ss l kk W X) {op : Operator} {a b : E} {a' b' : Expr} {pos : Pos} (ha : PE X a' (tE A P C W a)) (hb : PE X b' (tE A P C W b)) : PE X (.BinOp a' op b' pos) (tE A P C W (.bin op a b)) := by
  refine PE_imp (L2.pe_op (op_bin cx.eK op) ha hb) fun σ H Q z => ?_
  obtain ⟨B, m, h, ρ, S, s, z⟩ := z
  unfold wpE at z
  refine tE_of hC S s z fun v h1 m1 H1 w q S1 M1 r1 => ?_
  refine tE_of hC S1 (s.move S M1) (wpE_next hC M1 q) fun v2 h2 m2 H2 w2 q2 S2 M2 r2 => ?_
  obtain ⟨p, p2, e1, e2, k⟩ := q2
  exact ⟨B, m2, h2, p, p2, S2, (r1.move S1 M2).rw S2 e1, r2.rw S2 e2, wpBin_mono (fun r k => Kp_of (M1.trans M2) k) k⟩
theorem s_neg {a : E} {a' : Expr} {pos : Pos} (ha : PE X a' (tE A P C W a)) : PE X (.UnaryOp .USub a' pos) (tE A P C W (.neg a)) := by
  refine PE_imp (L2.pe_un L2.un_neg ha) fun σ H Q z => ?_
  obtain ⟨B, m, h, ρ, S, s, z⟩ := z
  unfold wpE at z
  refine tE_of hC S s z fun v h1 m1 H1 w q S1 M1 r1 => ?_
  obtain ⟨i, rfl, k⟩ := q
  cases r1
  exact ⟨i, rfl, k m1 H1 _ S1 M1 (.int _)⟩
theorem s_nt {a : E} {a' : Expr} {pos : Pos} (ha : PE X a' (tE A P C W a)) : PE X (.UnaryOp .Not a' pos) (tE A P C W (.nt a)) := by
  refine PE_imp (L2.pe_not ha) fun σ H Q z => ?_
  obtain ⟨B, m, h, ρ, S, s, z⟩ := z
  unfold wpE at z
  refine tE_of hC S s z fun v h1 m1 H1 w q S1 M1 r1 => ?_
  obtain ⟨c, rfl, k⟩ := q
  cases r1
  exact ⟨c, rfl, k m1 H1 _ S1 M1 (.bl _)⟩
theorem i_and {a b : E} : ∀ σ H Q, tE A P C W (.and a b) σ H Q → L2.tAndV (tE A P C W a) (tE A P C W b) σ H Q := fun σ H Q z => by
  obtain ⟨B, m, h, ρ, S, s, z⟩ := z
  unfold wpE at z
  refine tE_of hC S s z fun v h1 m1 H1 w q S1 M1 r1 => ?_
  obtain ⟨c, rfl, k⟩ := q
  cases r1
  refine ⟨c, rfl, ?_⟩
  cases c with
  | true =>
    rw [if_pos rfl] at k ⊢
    exact tE_of hC S1 (s.move S M1) (wpE_next hC M1 k) fun v2 h2 m2 H2 w2 q2 S2 M2 r2 => q2 m2 H2 w2 S2 (M1.trans M2) r2
  | false =>
    rw [if_neg Bool.false_ne_true] at k ⊢
    exact k m1 H1 _ S1 M1 (.bl _)
theorem i_or {a b : E} : ∀ σ H Q, tE A P C W (.or a b) σ H Q → L2.tOrV (tE A P C W a) (tE A P C W b) σ H Q := fun σ H Q z => by
  obtain ⟨B, m, h, ρ, S, s, z⟩ := z
  unfold wpE at z
  refine tE_of hC S s z fun v h1 m1 H1 w q S1 M1 r1 => ?_
  obtain ⟨c, rfl, k⟩ := q
  cases r1
  refine ⟨c, rfl, ?_⟩
  cases c with
  | true =>
    rw [if_pos rfl] at k ⊢
    exact k m1 H1 _ S1 M1 (.bl _)
  | false =>
    rw [if_neg Bool.false_ne_true] at k ⊢
    exact tE_of hC S1 (s.move S M1) (wpE_next hC M1 k) fun v2 h2 m2 H2 w2 q2 S2 M2 r2 => q2 m2 H2 w2 S2 (M1.trans M2) r2
theorem i_cmp {op : CmpOp} {a b : E} : ∀ σ H Q, tE A P C W (.cmp op a b) σ H Q → L2.tOp (rC A op) (tE A P C W a) (tE A P C W b) σ H Q := fun σ H Q z => by
  obtain ⟨B, m, h, ρ, S, s, z⟩ := z
  unfold wpE at z
  refine tE_of hC S s z fun v h1 m1 H1 w q S1 M1 r1 => ?_
  refine tE_of hC S1 (s.move S M1) (wpE_next hC M1 q) fun v2 h2 m2 H2 w2 q2 S2 M2 r2 => ?_
  obtain ⟨p, p2, e1, e2, k⟩ := q2
  exact ⟨B, m2, h2, p, p2, S2, (r1.move S1 M2).rw S2 e1, r2.rw S2 e2, wpCmp_mono (fun r k => k m2 H2 _ S2 (M1.trans M2) (.bl _)) k⟩
theorem i_chn {o1 o2 : CmpOp} {a b c : E} : ∀ σ H Q, tE A P C W (.chn o1 o2 a b c) σ H Q → L2.tChain (rC A o1) (rC A o2) (tE A P C W a) (tE A P C W b) (tE A P C W c) σ H Q := fun σ H Q z => by
  obtain ⟨B, m, h, ρ, S, s, z⟩ := z
  unfold wpE at z
  refine tE_of hC S s z fun v h1 m1 H1 w q S1 M1 r1 => ?_
  refine tE_of hC S1 (s.move S M1) (wpE_next hC M1 q) fun v2 h2 m2 H2 w2 q2 S2 M2 r2 => ?_
  obtain ⟨p, p2, e1, e2, k⟩ := q2
  refine ⟨B, m2, h2, p, p2, S2, (r1.move S1 M2).rw S2 e1, r2.rw S2 e2, wpCmp_mono (fun r k => ⟨r, rfl, ?_⟩) k⟩
  cases r with
  | true =>
    rw [if_pos rfl] at k ⊢
    refine tE_of hC S2 ((s.move S M1).move S1 M2) (wpE_next hC (M1.trans M2) k) fun v3 h3 m3 H3 w3 q3 S3 M3 r3 => ?_
    obtain ⟨p3, p4, e3, e4, k⟩ := q3
    exact ⟨B, m3, h3, p3, p4, S3, (r2.move S2 M3).rw S3 e3, r3.rw S3 e4, wpCmp_mono (fun r k => k m3 H3 _ S3 ((M1.trans M2).trans M3) (.bl _)) k⟩
  | false =>
    rw [if_neg Bool.false_ne_true] at k ⊢
    exact k m2 H2 _ S2 (M1.trans M2) (.bl _)
theorem i_ite {t a b : E} : ∀ σ H Q, tE A P C W (.ite t a b) σ H Q → L2.tIf (tQ A P C W t) (tE A P C W a) (tE A P C W b) σ H Q := fun σ H Q z => by
  obtain ⟨B, m, h, ρ, S, s, z⟩ := z
  unfold wpE at z
  refine tE_of hC S s z fun v h1 m1 H1 w q S1 M1 r1 => ?_
  obtain ⟨c, rfl, k⟩ := q
  cases r1
  refine ⟨c, rfl, ?_⟩
  cases c with
  | true =>
    rw [if_pos rfl] at k ⊢
    exact tE_of hC S1 (s.move S M1) (wpE_next hC M1 k) fun v2 h2 m2 H2 w2 q2 S2 M2 r2 => q2 m2 H2 w2 S2 (M1.trans M2) r2
  | false =>
    rw [if_neg Bool.false_ne_true] at k ⊢
    exact tE_of hC S1 (s.move S M1) (wpE_next hC M1 k) fun v2 h2 m2 H2 w2 q2 S2 M2 r2 => q2 m2 H2 w2 S2 (M1.trans M2) r2
theorem s_idx (cx : Ctx A P C N sc ss l kk W X) {a i : E} {a' i' : Expr} {pos : Pos} (hs : noSlice i' = true) (ha : PE X a' (tE A P C W a)) (hb : PE X i' (tE A P C W i)) : PE X (.Subscript a' i' pos) (tE A P C W (.idx a i)) := by
  refine PE_imp (L2.pe_ix (ix_ok cx.eK) ha hb (fun o i => by cases i' <;> first | rfl | cases hs)) fun σ H Q z => ?_
  obtain ⟨B, m, h, ρ, S, s, z⟩ := z
  unfold wpE at z
  refine tE_of hC S s z fun v h1 m1 H1 w q S1 M1 r1 => ?_
  refine tE_of hC S1 (s.move S M1) (wpE_next hC M1 q) fun v2 h2 m2 H2 w2 q2 S2 M2 r2 => ?_
  obtain ⟨p, p2, e1, e2, k⟩ := q2
  subst e2
  exact ⟨B, m2, h2, p, p2, S2, (r1.move S1 M2).rw S2 e1, .p r2, wpIx_mono (fun r k => Kp_of (M1.trans M2) k) k⟩
theorem s_slo (cx : Ctx A P C N sc ss l kk W X) {a lo : E} {a' l' : Expr} {p2 pos : Pos} (ha : PE X a' (tE A P C W a)) (hb : PE X l' (tE A P C W lo)) : PE X (.Subscript a' (.Slice (some l') none none p2) pos) (tE A P C W (.slo a lo)) := by
  refine PE_imp (L2.pe_slice (sl_ok cx.eK) ha (L2.po_some hb) L2.po_none) fun σ H Q z => ?_
  obtain ⟨B, m, h, ρ, S, s, z⟩ := z
  unfold wpE at z
  refine tE_of hC S s z fun v h1 m1 H1 w q S1 M1 r1 => ?_
  refine tE_of hC S1 (s.move S M1) (wpE_next hC M1 q) fun v2 h2 m2 H2 w2 q2 S2 M2 r2 => ?_
  obtain ⟨p, i, e1, e2, k⟩ := q2
  subst e2
  cases r2
  exact ⟨i, rfl, B, m2, h2, p, S2, (r1.move S1 M2).rw S2 e1, wpSl_mono (fun r k => Kp_of (M1.trans M2) k) k⟩
theorem s_shi (cx : Ctx A P C N sc ss l kk W X) {a hi : E} {a' l' : Expr} {p2 pos : Pos} (ha : PE X a' (tE A P C W a)) (hb : PE X l' (tE A P C W hi)) : PE X (.Subscript a' (.Slice none (some l') none p2) pos) (tE A P C W (.shi a hi)) := by
  refine PE_imp (L2.pe_slice (sl_ok cx.eK) ha L2.po_none (L2.po_some hb)) fun σ H Q z => ?_
  obtain ⟨B, m, h, ρ, S, s, z⟩ := z
  unfold wpE at z
  refine tE_of hC S s z fun v h1 m1 H1 w q S1 M1 r1 => ?_
  refine tE_of hC S1 (s.move S M1) (wpE_next hC M1 q) fun v2 h2 m2 H2 w2 q2 S2 M2 r2 => ?_
  obtain ⟨p, i, e1, e2, k⟩ := q2
  subst e2
  cases r2
  exact ⟨i, rfl, B, m2, h2, p, S2, (r1.move S1 M2).rw S2 e1, wpSl_mono (fun r k => Kp_of (M1.trans M2) k) k⟩
theorem s_slh (cx : Ctx A P C N sc ss l kk W X) {a lo hi : E} {a' l' h' : Expr} {p2 pos : Pos} (ha : PE X a' (tE A P C W a)) (hb : PE X l' (tE A P C W lo)) (hc : PE X h' (tE A P C W hi)) :
    PE X (.Subscript a' (.Slice (some l') (some h') none p2) pos) (tE A P C W (.slh a lo hi)) := by
  refine PE_imp (L2.pe_slice (sl_ok cx.eK) ha (L2.po_some hb) (L2.po_some hc)) fun σ H Q z => ?_
  obtain ⟨B, m, h, ρ, S, s, z⟩ := z
  unfold wpE at z
  refine tE_of hC S s z fun v h1 m1 H1 w q S1 M1 r1 => ?_
  refine tE_of hC S1 (s.move S M1) (wpE_next hC M1 q) fun v2 h2 m2 H2 w2 q2 S2 M2 r2 => ?_
  obtain ⟨i, e2, q2⟩ := q2
  subst e2
  cases r2
  refine ⟨i, rfl, ?_⟩
  refine tE_of hC S2 ((s.move S M1).move S1 M2) (wpE_next hC (M1.trans M2) q2) fun v3 h3 m3 H3 w3 q3 S3 M3 r3 => ?_
  obtain ⟨p, l, e1, e3, k⟩ := q3
  subst e3
  cases r3
  exact ⟨l, rfl, B, m3, h3, p, S3, ((r1.move S1 M2).move S2 M3).rw S3 e1, wpSl_mono (fun r k => Kp_of ((M1.trans M2).trans M3) k) k⟩
theorem s_nil : PA X [] (tL A P C W .nil) := PA_imp L2.pa_nil fun σ H Q z => by
  obtain ⟨B, m, h, ρ, S, s, z⟩ := z
  unfold wpL at z
  exact z m H [] S (Mv.refl _ _ _) .nil
theorem s_cons {e : E} {es : EL} {e' : Expr} {es' : List Expr} (hn : noStar e' = true) (h1 : PE X e' (tE A P C W e)) (h2 : PA X es' (tL A P C W es)) : PA X (e' :: es') (tL A P C W (.cons e es)) := by
  refine PA_imp (L2.pa_cons h1 h2 (starEach_no hn _ _)) fun σ H Q z => ?_
  obtain ⟨B, m, h, ρ, S, s, z⟩ := z
  unfold wpL at z
  refine tE_of hC S s z fun v h1 m1 H1 w q S1 M1 r1 => ?_
  refine tL_of hC S1 (s.move S M1) (wpL_next hC M1 q) fun vs h2 m2 H2 ws q2 S2 M2 r2 => ?_
  exact q2 m2 H2 _ S2 (M1.trans M2) (.cons (r1.move S1 M2) r2)
theorem line_of {n : Nat} (h : n ≤ 1000) : n ≤ sizeLine := Nat.le_trans h (by decide)
theorem s_tup {es : EL} {es' : List Expr} {k : Nat} {pos : Pos} (hz : es.len ≤ 1000) (ha : PA X es' (tL A P C W es)) : PE X (.Tuple es' k pos) (tE A P C W (.tup es)) := by
  refine PE_imp (L2.pe_tup ha) fun σ H Q z => ?_
  obtain ⟨B, m, h, ρ, S, s, z⟩ := z
  unfold wpE at z
  refine tL_of hC S s (wpL_len hC hC es z) fun v h1 m1 H1 w q S1 M1 r1 => ?_
  obtain ⟨hl, ps, e, k⟩ := q
  subst e
  exact ⟨by rw [r1.length, hl]; exact line_of hC hz, fun p hp => Kp.tup S1 (Kp_of M1 k) r1.pvs hp⟩
theorem s_lst {es : EL} {es' : List Expr} {pos : Pos} (hz : es.len ≤ 1000) (ha : PA X es' (tL A P C W es)) : PE X (.List es' pos) (tE A P C W (.lst es)) := by
  refine PE_imp (L2.pe_lst ha) fun σ H Q z => ?_
  obtain ⟨B, m, h, ρ, S, s, z⟩ := z
  unfold wpE at z
  refine tL_of hC S s (wpL_len hC hC es z) fun v h1 m1 H1 w q S1 M1 r1 => ?_
  obtain ⟨hl, ps, e, k⟩ := q
  subst e
  exact ⟨by rw [r1.length, hl]; exact line_of hC hz, fun p hp => Kp.lst S1 (Kp_of M1 k) r1.pvs hp⟩
theorem s_mls {es : EL} {es' : List Expr} {pos : Pos} (hz : es.len ≤ 1000) (ha : PA X es' (tL A P C W es)) : PE X (.List es' pos) (tE A P C W (.mls es)) := by
  refine PE_imp (L2.pe_lst ha) fun σ H Q z => ?_
  obtain ⟨B, m, h, ρ, S, s, z⟩ := z
  unfold wpE at z
  refine tL_of hC S s (wpL_len hC hC es z) fun v h1 m1 H1 w q S1 M1 r1 => ?_
  obtain ⟨hl, ps, e, k⟩ := q
  subst e
  refine ⟨by rw [r1.length, hl]; exact line_of hC hz, fun p hp => ?_⟩
  obtain ⟨M2, S2⟩ := S1.cell_new hp r1.pvs
  exact k _ _ _ S2 (M1.trans M2) ⟨p, by rw [← S1.len]; simp, rfl, _, upd_same⟩
theorem rpL_rep {B : Addr → Prop} {m : List Addr} {h : Hs} {H : Hp} {l : List PV} {xs : List V} (r : RpL A (Xc B m h) H l xs) : ∀ n : Nat, RpL A (Xc B m h) H (List.replicate n l).flatten (List.replicate n xs).flatten
  | 0 => .nil
  | n + 1 => by
    rw [List.replicate_succ, List.replicate_succ, List.flatten_cons, List.flatten_cons]
    exact r.append (rpL_rep r n)
theorem s_mrp {a b : E} {a' b' : Expr} {pos : Pos} (ha : PE X a' (tE A P C W a)) (hb : PE X b' (tE A P C W b)) : PE X (.BinOp a' .Mult b' pos) (tE A P C W (.mrp a b)) := by
  refine PE_imp (L2.pe_op L2.op_rep ha hb) fun σ H Q z => ?_
  obtain ⟨B, m, h, ρ, S, s, z⟩ := z
  unfold wpE at z
  refine tE_of hC S s z fun v h1 m1 H1 w q S1 M1 r1 => ?_
  refine tE_of hC S1 (s.move S M1) (wpE_next hC M1 q) fun v2 h2 m2 H2 w2 q2 S2 M2 r2 => ?_
  obtain ⟨p, kk, e1, rfl, n1, n2, hl, k⟩ := q2
  obtain ⟨l, xs, rfl, g1, t1⟩ := ((r1.move S1 M2).rw S2 e1).lst
  cases r2
  refine ⟨l, kk, xs, rfl, rfl, g1, n1, n2, by rw [t1.length]; exact hl, fun p hp => ?_⟩
  obtain ⟨M3, S3⟩ := S2.cell_new hp (rpL_rep hC t1 kk.toNat)
  exact k _ _ _ S3 ((M1.trans M2).trans M3) ⟨p, by rw [← S2.len]; simp, rfl, _, upd_same⟩
theorem s_frz {a : E} {a' : Expr} (ha : PE X a' (tE A P C W a)) : PE X a' (tE A P C W (.frz a)) := by
  refine PE_imp ha fun σ H Q z => ?_
  obtain ⟨B, m, h, ρ, S, s, z⟩ := z
  unfold wpE at z
  refine tE_of hC S s z fun v h1 m1 H1 w q S1 M1 r1 => ?_
  obtain ⟨i, c, rfl, e2, k⟩ := q
  obtain ⟨a, e1, rfl, ql⟩ := r1
  obtain ⟨M2, S2, r2⟩ := S1.freeze e2 e1 ql
  exact k m1 H1 _ S2 (M1.trans M2) r2
end
end G43
set_option Elab.async false
set_option linter.all false
set_option maxRecDepth 100000
set_option maxHeartbeats 4100000
/-! enumerate over a tuple: the hand layer knows lists alone. The turn is read off the library's WalksT over Draws. -/
namespace G43
open PySem PySem.Spec PyProof.Rows L2
/-- the fields of a new enumerate over the iterator c -/
abbrev enuO (c : Addr) : Obj := { cls := .type "enumerate", data := .fields #[.none, .bool false, .ref c, rawInt 0, .none, .none] }
theorem enu_new {v : Value} {o : Obj} {S : Heap → Prop} (B : Begins v o S) : Meets (Builtin.«enumerate.__new__» ⟨[.type "enumerate", v], []⟩) (fun _ R s => S s.heap ∧
    R (.ok (.ret (.ref (s.heap.push o).objs.size))) { s with heap := (s.heap.push o).push (enuO s.heap.objs.size) }) := by
  refine .of_wp fun P w A R s => ?_
  rcases s with ⟨hp, g, d, tk, os⟩
  rintro ⟨st, fin⟩
  have isSub := sub_enumerate
  have beg := fun A E Q => B.iter P w A E ⟨hp, g, d, tk, os⟩ Q st
  wp_walk
  refine wpAny_stack_any fun stk => wpAny_pure ?_
  split
  case h_1 c _ _ _ _ _ => cases (c == Value.type "enumerate") <;> (wp_walk using beg; exact ⟨_, rfl, fin⟩)
  all_goals (wp_walk using beg; exact ⟨_, rfl, fin⟩)
/-- a new iterator over the tuple a -/
abbrev tupItO (a : Addr) : Obj := { cls := .type "tuple_iterator", data := .fields #[.ref a, .int 0 0] }
/-- a call enumerate(v): two new cells at the heap's end -/
theorem enu_call {P : Program} {w : World} {A : Around} {E : Value → Shared → Prop} {s : Shared} {v : Value} {o : Obj} {S : Heap → Prop} {Q : Value → Shared → Prop} (B : Begins v o S) (st : S s.heap)
    (fin : Q (.ref (s.heap.objs.size + 1)) { s with heap := (s.heap.push o).push (enuO s.heap.objs.size) }) : wpAny (model P w) A (call (.type "enumerate") [v]) Q E s := by
  have z1 := Heap.size_push s.heap o
  have at1 := Heap.get?_push_size (s.heap.push o) (o := enuO s.heap.objs.size) rfl
  have cell : ((s.heap.push o).push (enuO s.heap.objs.size)).get? (s.heap.push o).objs.size = some (enuO s.heap.objs.size) := at1
  apply callType_new F.called_enumerate (by decide) (F.typeCall_enumerate_1 _) (F.newCall_enumerate_1 _) (fun x => F.args_object_init_2 x _) F.entry_enumerate_new (enu_new B)
  rw [← z1] at fin
  exact ⟨st, ⟨_, cell, rfl⟩, fin⟩
/-- a drawer at its end: nothing is left to be drawn -/
theorem spent {P : Program} {w : World} {A : Around} {it a : Addr} {us : Array Value} {i : Nat} (hh : A.handled = none) (le : us.size ≤ i) : Draws P w A it [it, a] i (fun _ _ => False) (fun j h => j = i ∧ h.IsTupleIter it a j ∧ h.IsTuple a us) where
  live := by rintro j h ⟨_, ⟨o, g, _⟩, _⟩; exact ⟨o, g⟩
  frame := by rintro j h h2 ⟨e, ⟨o, g, r⟩, ⟨p, q, r2⟩⟩ k; exact ⟨e, ⟨o, k it (by simp) o g, r⟩, ⟨p, k a (by simp) p q, r2⟩⟩
  item := by rintro j s Q E lt ⟨e, _⟩; omega
  done := by rintro s Q E ⟨_, ti, tu⟩ z; exact wpAny_nextOf_tuple_end hh ti tu (Array.getElem?_eq_none le) z
/-- the tuple at a, turn by turn, in new pairs with its places -/
def IteT (K : PySem.W.Frag) (a : Addr) : L2.It where
  go := fun i H => ∃ (xs : List V) (x : V), SqT K H a xs ∧ xs[i]? = some x
  yld := fun i H v H' => ∃ T x, v = .ref T ∧ H T = none ∧ H' = upd H T (.tup [.int (i : Nat), x]) ∧ ∀ xs, SqT K H a xs → xs[i]? = some x
  stop := fun i H => ∃ xs : List V, SqT K H a xs ∧ xs.length ≤ i
/-- where an enumerate at e over the iterator it stands after i turns -/
def EnuAt (a e it i : Nat) (h : Heap) : Prop := (∃ old, IsEnum h e it (i : Int) old) ∧ h.IsTupleIter it a i
theorem turn_enumT {P : Program} {w : World} {K : PySem.W.Frag} {elts : List Expr} {kk : Nat} {tp : Pos} (a e it : Addr) (ea : e ≠ a) (ai : a ≠ it) (ei : e ≠ it) :
    Turn P w K (.Tuple elts kk tp) (IteT K a) [e, it] e (EnuAt a e it) := by
  have two : ∀ b ∈ [e, it], b = e ∨ b = it := fun b m => by simpa using m
  refine { mem := List.mem_cons_self, obj := ?_, keep := ?_, item := ?_, done := ?_, self := fun A i s Q E st q => wpAny_pyIter_enum st.1.choose_spec q }
  · rintro i h ⟨⟨old, g⟩, o, g2, _, dat⟩ b m
    rcases two b m with rfl | rfl
    · exact ⟨_, g, nofun⟩
    · refine ⟨o, g2, fun v z => ?_⟩
      rw [dat] at z; exact nomatch z
  · rintro i h h2 ⟨⟨old, g⟩, o, g2, r⟩ k
    exact ⟨⟨old, k e (by simp) _ g⟩, o, k it (by simp) o g2, r⟩
  · rintro X rfl rfl rfl calm i pins s σ H E I fp ⟨en, ti⟩ ⟨xs, x, sq, hx⟩
    obtain ⟨us, vals, tu, _⟩ := I.tuple sq
    obtain ⟨u, gu, ru⟩ := vals.get hx
    have lt : i < us.toArray.size := by simpa using (List.getElem?_eq_some_iff.mp gu).1
    have W := WalksT.enumerateD (prog := X.prog) (w := X.w) (A := X.A) (Draws.tuple (A := X.A.in1) (show X.A.in1.handled = none from I.ok.hd calm) it a ai us.toArray) e ei (by simp [ei, ea]) (by simp)
    have low : ∀ b ∈ [e, it], b < s.heap.objs.size := fun b m => by
      rcases two b m with rfl | rfl
      · exact Heap.lt_size en.choose_spec
      · exact Heap.lt_size ti.choose_spec.1
    refine W.item i s _ E lt ⟨en, ti, tu⟩ fun T ws h1 tk pt le isT mid k1 => ⟨_, rfl, W.go elts kk tp i T _ _ E mid fun h2 st2 k2 => ?_⟩
    obtain ⟨t, u2, gu2, rfl⟩ := pt
    have eu : u2 = u := Option.some.inj (gu2.symm.trans (by simpa using gu))
    obtain ⟨p, gp, cls, dat⟩ := isT
    have pair : ObjOk X.prog X.w (upd H T (.tup [.int (i : Nat), x])) h2 T (.tup [.int (i : Nat), x]) := by
      refine ⟨(by decide : 2 ≤ sizeLine), [.int i t, u2], .cons ⟨_, rfl⟩ (.cons (eu ▸ ru) .nil), p, k2 T p (W.apart i T h1 mid) gp, cls, dat⟩
    have J := I.turnedNew (t' := tk) (fun b o out g => k2 b o out (k1 b o out g)) fp le pair
    refine ⟨.ref T, _, J, rfl, ⟨T, x, rfl, I.hok.fresh le, rfl, fun ys sy => I.tuple_inj sy sq ▸ hx⟩, ⟨st2.1, st2.2.1⟩, fun b m => ?_⟩
    exact (upd_ne (Nat.ne_of_lt (Nat.lt_of_lt_of_le (low b m) le))).trans (fp b m).1
  · rintro X rfl rfl rfl calm i pins s σ H E I fp ⟨⟨old, en⟩, ti⟩ ⟨xs, sq, le⟩
    obtain ⟨us, vals, tu, _⟩ := I.tuple sq
    have le' : us.toArray.size ≤ i := by have := vals.length; simp; omega
    obtain ⟨a0, a1, _, a3, a4, a5⟩ := fp it (by simp)
    exact wpAny_pyNext_enum_endD (spent (show X.A.in1.handled = none from I.ok.hd calm) le') en ⟨rfl, ti, tu⟩ fun h2 x => ⟨rfl, I.turned (t' := s.toks) x a0 a1 a3 a4 a5⟩
/-- enumerate of a list or of a tuple -/
def iEnumA (K : PySem.W.Frag) (ta : TA) : TI := fun σ H R => ta σ H fun vs H1 => ∃ a xs, vs = [.ref a] ∧ ((SqL K H1 a xs ∧ R (Ite K a) H1) ∨ (SqT K H1 a xs ∧ R (IteT K a) H1))
theorem pi_enumA {X : Cx} {e : Expr} {ta : TA} {p pos tpos : Pos} {elts : List Expr} {kk : Nat} (hg : Gl X "enumerate") (hm : X.mg "enumerate" = none) (ha : PA X [e] ta) (hs : starEach [e] X.env = [(false, eval e X.env)] := by rfl) :
    PI X (.Tuple elts kk tpos) (.Call (.Name "enumerate" p) [e] [] pos) (iEnumA X.K ta) := by
  constructor
  intro pins s σ H R I w
  apply Call_ (ld_blt I hg hm boot_enumerate (PyProof.Rows.callWith_type1 (thn (ha.run pos pins s σ H _ I w) _) hs rfl))
  rintro us s1 ⟨_, H1, I1, rel, a, xs, rfl, alt⟩
  match us, rel with
  | [_], .cons rfl .nil =>
    -- both cells lie at the heap's end
    have ends : ∀ b ∈ [s1.heap.objs.size + 1, s1.heap.objs.size], FpOk X pins H1 b := fun b m => by
      have ge : s1.heap.objs.size ≤ b := by
        rcases List.mem_cons.mp m with rfl | m
        · exact Nat.le_succ _
        · exact Nat.le_of_eq (List.mem_singleton.mp m).symm
      exact I1.fpOk ge (I1.hok.fresh ge)
    rcases alt with ⟨sq, r⟩ | ⟨sq, r⟩
    · obtain ⟨_, _, lst, _⟩ := I1.list sq
      exact call_enumerate_list lst.isList fun h2 en li _ k => wpAny_pyIter_enum en ⟨_, _, _, _, H1, rfl, I1.kept (t' := s1.toks) k, turn_enum a _ _, ⟨⟨_, en⟩, li, Nat.succ_ne_self _⟩, ends, r⟩
    · obtain ⟨_, _, tu, _⟩ := I1.tuple sq
      have la := tu.lt
      refine enu_call (begins_tuple a _) tu ?_
      have en : IsEnum ((s1.heap.push (tupItO a)).push (enuO s1.heap.objs.size)) (s1.heap.objs.size + 1) s1.heap.objs.size 0 .none := by
        have q := Heap.get?_push_size (s1.heap.push (tupItO a)) (o := enuO s1.heap.objs.size) rfl
        rwa [Heap.size_push] at q
      refine wpAny_pyIter_enum en ⟨_, _, EnuAt a _ _, _, H1, rfl, I1.kept (t' := s1.toks) (fun b o g => ?_), turn_enumT a _ _ (Nat.ne_of_gt (Nat.lt_succ_of_lt la)) (Nat.ne_of_lt la) (Nat.succ_ne_self _), ⟨⟨_, en⟩, tupItO a, ?_, rfl, rfl⟩, ends, r⟩
      · exact Heap.get?_push_of_some _ (Heap.get?_push_of_some _ g)
      · exact Heap.get?_push_of_some _ (Heap.get?_push_size s1.heap rfl)
end G43
set_option Elab.async false
set_option linter.all false
set_option maxRecDepth 100000
set_option maxHeartbeats 4100000
namespace L2
open PySem PySem.Spec PyProof.Rows
/-! ### t[::-1], of a list or of a tuple -/
section
variable {P : Program} {w : World} {A : Around} {E : Value → Shared → Prop} {s : Shared} {sl : Addr} {v1 v2 v3 : Value}
end
def tRevA (K : PySem.W.Frag) (te : TE) : TE := fun σ H Q => te σ H fun x H1 => ∃ a xs, x = .ref a ∧ ((SqL K H1 a xs ∧ ∀ p, H1 p = none → Q (.ref p) (upd H1 p (.lst xs.reverse))) ∨ (SqT K H1 a xs ∧ ∀ p, H1 p = none → Q (.ref p) (upd H1 p (.tup xs.reverse))))
section
variable {X : Cx} {e : Expr} {te : TE} {k : Nat} {p1 p2 p3 pos : Pos}
/-- the words ::-1 -/
abbrev backE (k : Nat) (p1 p2 p3 : Pos) : Expr := .Slice none none (some (.UnaryOp .USub (.Constant (.int 1) k p1) p2)) p3
end
end L2
set_option Elab.async false
set_option linter.all false
set_option maxRecDepth 100000
set_option maxHeartbeats 4000000
namespace G43
open PySem
open L2 (V HO Hp SqL SqT Rd upd upd_same upd_ne Cx OpR R2 VK CallR IxR SlR TE TA TS TT TI PE PA PS PSs PT PI XK Sp Room Vals)
open PySem.Spec PyProof.Rows
/-! ### what is walked -/
def Walks (A : Ad) (B : Addr → Prop) (m : List Addr) (h : Hs) (H : Hp) (J : L2.It) (l : List PV) (gd : Hs → Prop) : Prop :=
  ∀ (B' : Addr → Prop) (m2 : List Addr) (h2 : Hs) (H2 : Hp), (∀ a, B' a → B a ∨ H a = none) → Sim A B' m2 h2 H2 → Mv m h H m2 h2 H2 → gd h2 →
    (∀ (i : Nat) (x : PV), l[i]? = some x → J.go i H2 ∧ ∀ v H3, J.yld i H2 v H3 → Sim A B' m2 h2 H3 ∧ Mv m2 h2 H2 m2 h2 H3 ∧ Rp A (Xc B' m2 h2) H3 x v) ∧ ∀ i : Nat, l.length ≤ i → J.stop i H2
def Ki (A : Ad) (B : Addr → Prop) (m : List Addr) (h : Hs) (H : Hp) (R : L2.It → Hp → Prop) : List PV → (Hs → Prop) → Hs → Prop := fun l gd h' => ∀ m' H' J, Sim A B m' h' H' → Mv m h H m' h' H' → Walks A B m' h' H' J l gd → R J H'
def tI (A : Ad) (P : Pg) (C : CallT) (W : XK) (it : It) : TI := fun σ H R => ∃ B m h ρ, Sim A B m h H ∧ Sl A B m h H ρ σ ∧ wpI P C it ρ h (Ki A B m h H R) (Kx A B m h H W)
section
variable {A : Ad} {B : Addr → Prop} {m : List Addr} {h : Hs} {H : Hp}
theorem walks_list {a : Addr} {l : List PV} {gd : Hs → Prop} (src : ∀ (B' : Addr → Prop) (m2 : List Addr) (h2 : Hs) (H2 : Hp), (∀ a, B' a → B a ∨ H a = none) → Sim A B' m2 h2 H2 → Mv m h H m2 h2 H2 → gd h2 → ∃ xs, SqL A.K H2 a xs ∧ RpL A (Xc B' m2 h2) H2 l xs) :
    Walks A B m h H (L2.Itl A.K a) l gd := fun B' m2 h2 H2 w S M g => by
  obtain ⟨xs, q, r⟩ := src B' m2 h2 H2 w S M g
  refine ⟨fun i x e => ?_, fun i hi => ⟨xs, q, by rw [r.length]; exact hi⟩⟩
  obtain ⟨v, e1, r1⟩ := r.get e
  refine ⟨⟨xs, v, q, e1⟩, fun v' H3 y => ?_⟩
  obtain ⟨rfl, y⟩ := y
  have e2 := y xs q
  rw [e1] at e2
  cases e2
  exact ⟨S, Mv.refl _ _ _, r1⟩
theorem walks_tup {a : Addr} {l : List PV} {gd : Hs → Prop} (src : ∀ (B' : Addr → Prop) (m2 : List Addr) (h2 : Hs) (H2 : Hp), (∀ a, B' a → B a ∨ H a = none) → Sim A B' m2 h2 H2 → Mv m h H m2 h2 H2 → gd h2 → ∃ xs, SqT A.K H2 a xs ∧ RpL A (Xc B' m2 h2) H2 l xs) :
    Walks A B m h H (L2.Itt A.K a) l gd := fun B' m2 h2 H2 w S M g => by
  obtain ⟨xs, q, r⟩ := src B' m2 h2 H2 w S M g
  refine ⟨fun i x e => ?_, fun i hi => ⟨xs, q, by rw [r.length]; exact hi⟩⟩
  obtain ⟨v, e1, r1⟩ := r.get e
  refine ⟨⟨xs, v, q, e1⟩, fun v' H3 y => ?_⟩
  obtain ⟨rfl, y⟩ := y
  have e2 := y xs q
  rw [e1] at e2
  cases e2
  exact ⟨S, Mv.refl _ _ _, r1⟩
theorem rng_at {lo : Int} {n i : Nat} {x : PV} (e : (rngL lo n)[i]? = some x) : i < n ∧ x = .int (lo + i) := by
  unfold rngL at e
  rw [List.getElem?_map] at e
  cases hr : (List.range n)[i]? with
  | none => rw [hr] at e; cases e
  | some k =>
    rw [hr] at e
    obtain ⟨hi, hk⟩ := List.getElem?_eq_some_iff.mp hr
    simp at hi hk
    subst hk
    simp at e
    exact ⟨hi, e.symm⟩
theorem rng_len {lo : Int} {n : Nat} : (rngL lo n).length = n := by simp [rngL]
theorem walks_range {lo : Int} {n : Nat} {gd : Hs → Prop} : Walks A B m h H (L2.Itr lo n) (rngL lo n) gd := fun B' m2 h2 H2 w S M g => by
  refine ⟨fun i x e => ?_, fun i hi => by rw [rng_len] at hi; exact hi⟩
  obtain ⟨hi, rfl⟩ := rng_at e
  refine ⟨hi, fun v H3 y => ?_⟩
  obtain ⟨rfl, rfl⟩ := y
  exact ⟨S, Mv.refl _ _ _, .int _⟩
theorem enm_at {a : List PV} {i : Nat} {x : PV} (e : (enmL a)[i]? = some x) : ∃ p, a[i]? = some p ∧ x = .tup [.int (i : Nat), p] := by
  unfold enmL at e
  rw [List.getElem?_map, List.getElem?_zipIdx] at e
  cases hz : a[i]? with
  | none => rw [hz] at e; cases e
  | some k =>
    rw [hz] at e
    simp at e
    exact ⟨k, rfl, e.symm⟩
theorem enm_len {a : List PV} : (enmL a).length = a.length := by simp [enmL]
theorem walks_enmL {a : Addr} {l : List PV} {gd : Hs → Prop} (s1 : ∀ (B' : Addr → Prop) (m2 : List Addr) (h2 : Hs) (H2 : Hp), (∀ a, B' a → B a ∨ H a = none) → Sim A B' m2 h2 H2 → Mv m h H m2 h2 H2 → gd h2 → ∃ xs, SqL A.K H2 a xs ∧ RpL A (Xc B' m2 h2) H2 l xs) :
    Walks A B m h H (L2.Ite A.K a) (enmL l) gd := fun B' m2 h2 H2 w S M g => by
  obtain ⟨xs, q1, r1⟩ := s1 B' m2 h2 H2 w S M g
  refine ⟨fun i x e => ?_, fun i hi => ⟨xs, q1, by rw [enm_len] at hi; rw [r1.length]; omega⟩⟩
  obtain ⟨p, e1, rfl⟩ := enm_at e
  obtain ⟨v, e3, r3⟩ := r1.get e1
  refine ⟨⟨xs, v, q1, e3⟩, fun v' H3 y => ?_⟩
  obtain ⟨T, y1, rfl, hT, rfl, h1⟩ := y
  have e5 := h1 xs q1
  rw [e3] at e5; cases e5
  obtain ⟨M3, S3, r5⟩ := S.tup hT (.cons (.int _) (.cons r3 .nil))
  exact ⟨S3, M3, r5⟩
theorem walks_enmT {a : Addr} {l : List PV} {gd : Hs → Prop} (s1 : ∀ (B' : Addr → Prop) (m2 : List Addr) (h2 : Hs) (H2 : Hp), (∀ a, B' a → B a ∨ H a = none) → Sim A B' m2 h2 H2 → Mv m h H m2 h2 H2 → gd h2 → ∃ xs, SqT A.K H2 a xs ∧ RpL A (Xc B' m2 h2) H2 l xs) :
    Walks A B m h H (IteT A.K a) (enmL l) gd := fun B' m2 h2 H2 w S M g => by
  obtain ⟨xs, q1, r1⟩ := s1 B' m2 h2 H2 w S M g
  refine ⟨fun i x e => ?_, fun i hi => ⟨xs, q1, by rw [enm_len] at hi; rw [r1.length]; omega⟩⟩
  obtain ⟨p, e1, rfl⟩ := enm_at e
  obtain ⟨v, e3, r3⟩ := r1.get e1
  refine ⟨⟨xs, v, q1, e3⟩, fun v' H3 y => ?_⟩
  obtain ⟨T, y1, rfl, hT, rfl, h1⟩ := y
  have e5 := h1 xs q1
  rw [e3] at e5; cases e5
  obtain ⟨M3, S3, r5⟩ := S.tup hT (.cons (.int _) (.cons r3 .nil))
  exact ⟨S3, M3, r5⟩
/-- a value's list, later on -/
theorem later_lst {l : List PV} {a : Addr} (S : Sim A B m h H) (r : Rp A (Xc B m h) H (.lst l) (.ref a)) {B' : Addr → Prop} {m2 : List Addr} {h2 : Hs} {H2 : Hp} (w : ∀ a, B' a → B a ∨ H a = none) (M : Mv m h H m2 h2 H2) : ∃ xs, SqL A.K H2 a xs ∧ RpL A (Xc B' m2 h2) H2 l xs := by
  have r2 := Rp.moveC S.cl M (r.strong w)
  cases r2 with
  | lst q n r => exact ⟨_, SqL.of q, r⟩
theorem later_tup {l : List PV} {a : Addr} (S : Sim A B m h H) (r : Rp A (Xc B m h) H (.tup l) (.ref a)) {B' : Addr → Prop} {m2 : List Addr} {h2 : Hs} {H2 : Hp} (w : ∀ a, B' a → B a ∨ H a = none) (M : Mv m h H m2 h2 H2) : ∃ xs, SqT A.K H2 a xs ∧ RpL A (Xc B' m2 h2) H2 l xs := by
  have r2 := Rp.moveC S.cl M (r.strong w)
  cases r2 with
  | tup q r => exact ⟨_, q, r⟩
theorem later_scr {l : List PV} {a : Addr} (S : Sim A B m h H) (r : Rp A (Xc B m h) H (.scr l) (.ref a)) {B' : Addr → Prop} {m2 : List Addr} {h2 : Hs} {H2 : Hp} (w : ∀ a, B' a → B a ∨ H a = none) (M : Mv m h H m2 h2 H2) : ∃ xs, SqL A.K H2 a xs ∧ RpL A (Xc B' m2 h2) H2 l xs := by
  have r2 := Rp.moveC S.cl M (r.strong w)
  cases r2 with
  | scr q r => exact ⟨_, q.elim (fun q => .inl (.inr q)) .inr, r⟩
end
/-! ### the walk of a list or a tuple, whichever comes -/
section
variable {X : Cx} {tg : Expr}
def iSeq (K : PySem.W.Frag) (tl : TE) : TI := fun σ H R => tl σ H fun x H1 => ∃ a, x = .ref a ∧ (((∃ xs, SqL K H1 a xs) ∧ R (L2.Itl K a) H1) ∨ ((∃ xs, SqT K H1 a xs) ∧ R (L2.Itt K a) H1))
theorem pi_seq {l : Expr} {tl : TE} (hl : PE X l tl) : PI X tg l (iSeq X.K tl) := by
  refine ⟨fun pins s σ H R I z => L2.thn (hl.run pins s σ H _ I z) ?_⟩
  rintro v s1 ⟨x, H1, I1, r1, a, rfl, q⟩
  cases r1
  have one : ∀ b ∈ [s1.heap.objs.size], L2.FpOk X pins H1 b := by
    intro b hb
    cases List.mem_singleton.mp hb
    exact I1.fpOk (Nat.le_refl _) (I1.hok.fresh (Nat.le_refl _))
  rcases q with ⟨⟨xs, hq⟩, q⟩ | ⟨⟨xs, hq⟩, q⟩
  · obtain ⟨its, rv, p, hz⟩ := I1.list hq
    refine wpAny_pyIter_list p.isList ⟨_, [s1.heap.objs.size], _, _, H1, rfl, ?_, L2.turn_list a _, ⟨_, Heap.get?_push_size _ rfl, rfl, rfl⟩, one, q⟩
    exact I1.kept (t' := s1.toks) fun b o e => Heap.get?_push_of_some _ e
  · obtain ⟨its, rv, p, hz⟩ := I1.tuple hq
    refine wpAny_pyIter_tuple (show s1.heap.IsTuple a its.toArray from p) ⟨_, [s1.heap.objs.size], _, _, H1, rfl, ?_, L2.turn_tuple a _, ⟨_, Heap.get?_push_size _ rfl, rfl, rfl⟩, one, q⟩
    exact I1.kept (t' := s1.toks) fun b o e => Heap.get?_push_of_some _ e
theorem PI_imp {e : Expr} {t t' : TI} (p : PI X tg e t) (i : ∀ σ H Q, t' σ H Q → t σ H Q) : PI X tg e t' := ⟨fun pins s σ H Q I z => p.run pins s σ H Q I (i σ H Q z)⟩
end
section
variable {A : Ad} {P : Pg} {C : CallT} {N : List Str} {sc ss : Scope} {l : Bool} {kk : Nat} {W : XK} {X : Cx} {tg : Expr} (hC : MonoC C C)
include hC
theorem s_seq (cx : Ctx A P C N sc ss l kk W X) {e : E} {e' : Expr} (he : PE X e' (tE A P C W e)) : PI X tg e' (tI A P C W (.seq e)) := by
  refine PI_imp (pi_seq he) fun σ H R z => ?_
  obtain ⟨B, m, h, ρ, S, s, z⟩ := z
  unfold wpI at z
  refine tE_of hC S s z fun v h1 m1 H1 w q S1 M1 r1 => ?_
  rw [cx.eK]
  split at q
  · cases r1 with
    | lst q1 n r =>
      exact ⟨_, rfl, .inl ⟨⟨_, SqL.of q1⟩, q m1 H1 _ S1 M1 (walks_list fun B' m2 h2 H2 w S2 M2 _ => later_lst S1 (.lst q1 n r) w M2)⟩⟩
  · cases r1 with
    | tup q1 r =>
      exact ⟨_, rfl, .inr ⟨⟨_, q1⟩, q m1 H1 _ S1 M1 (walks_tup fun B' m2 h2 H2 w S2 M2 _ => later_tup S1 (.tup q1 r) w M2)⟩⟩
  · cases r1 with
    | scr q1 r =>
      exact ⟨_, rfl, .inl ⟨⟨_, q1.elim (fun q => .inl (.inr q)) .inr⟩, q m1 H1 _ S1 M1 (walks_list fun B' m2 h2 H2 w S2 M2 _ => later_scr S1 (.scr q1 r) w M2)⟩⟩
  · obtain ⟨c, e1, q⟩ := q
    obtain ⟨a, e2, rfl, ql⟩ := r1
    obtain ⟨xs, e3, r3⟩ := S1.cellL e1 e2 ql
    refine ⟨a, rfl, .inl ⟨⟨xs, SqL.of e3⟩, q m1 H1 _ S1 M1 (walks_list fun B' m2 h2 H2 w S2 M2 g => ?_)⟩⟩
    obtain ⟨ys, e4, r4⟩ := S2.cellL g (M2.at e2) (M2.kl _ _ e3)
    exact ⟨ys, SqL.of e4, r4⟩
  · exact q.elim
theorem s_rng1 (cx : Ctx A P C N sc ss l kk W X) {e : E} {e' : Expr} {p pos : Pos} (hn : noStar e' = true) (hb : ("range" : Str) ∈ P.blt) (hg : gloB sc "range" = true) (he : PE X e' (tE A P C W e)) : PI X tg (.Call (.Name "range" p) [e'] [] pos) (tI A P C W (.rng1 e)) := by
  refine PI_imp (L2.pi_range1 (show X.env.scope.names.lookup _ = _ by rw [cx.eS]; exact gloB_ok hg) (cx.blt _ hb) (L2.pa_cons he L2.pa_nil (starEach_no hn _ _)) (by rw [starEach_no hn] <;> rfl)) fun σ H R z => ?_
  obtain ⟨B, m, h, ρ, S, s, z⟩ := z
  unfold wpI at z
  refine tE_of hC S s z fun v h1 m1 H1 w q S1 M1 r1 => ?_
  obtain ⟨j, rfl, h2, h3, k⟩ := q
  cases r1
  exact ⟨j, rfl, h2, h3, k m1 H1 _ S1 M1 walks_range⟩
theorem s_rng2 (cx : Ctx A P C N sc ss l kk W X) {a b : E} {a' b' : Expr} {p pos : Pos} (hn : noStar a' = true) (hn2 : noStar b' = true) (hb : ("range" : Str) ∈ P.blt) (hg : gloB sc "range" = true) (ha : PE X a' (tE A P C W a)) (hb' : PE X b' (tE A P C W b)) :
    PI X tg (.Call (.Name "range" p) [a', b'] [] pos) (tI A P C W (.rng2 a b)) := by
  refine PI_imp (L2.pi_range2 (show X.env.scope.names.lookup _ = _ by rw [cx.eS]; exact gloB_ok hg) (cx.blt _ hb) (L2.pa_cons ha (L2.pa_cons hb' L2.pa_nil (starEach_no hn2 _ _)) (starEach_no hn _ _)) (by rw [starEach_no hn, starEach_no hn2] <;> rfl) (by rw [starEach_no hn2] <;> rfl)) fun σ H R z => ?_
  obtain ⟨B, m, h, ρ, S, s, z⟩ := z
  unfold wpI at z
  refine tE_of hC S s z fun v h1 m1 H1 w q S1 M1 r1 => ?_
  refine tE_of hC S1 (s.move S M1) (wpE_next hC M1 q) fun v2 h2 m2 H2 w2 q2 S2 M2 r2 => ?_
  obtain ⟨i, j, rfl, rfl, h4, k⟩ := q2
  cases r1
  cases r2
  exact ⟨i, j, rfl, h4, k m2 H2 _ S2 (M1.trans M2) walks_range⟩
theorem s_enm (cx : Ctx A P C N sc ss l kk W X) {a : E} {a' : Expr} {elts : List Expr} {kk : Nat} {tpos p pos : Pos} (hn : noStar a' = true) (hb : ("enumerate" : Str) ∈ P.blt) (hg : gloB sc "enumerate" = true) (ha : PE X a' (tE A P C W a)) :
    PI X (.Tuple elts kk tpos) (.Call (.Name "enumerate" p) [a'] [] pos) (tI A P C W (.enm a)) := by
  refine PI_imp (pi_enumA (show X.env.scope.names.lookup _ = _ by rw [cx.eS]; exact gloB_ok hg) (cx.blt _ hb) (L2.pa_cons ha L2.pa_nil (starEach_no hn _ _)) (starEach_no hn _ _)) fun σ H R z => ?_
  obtain ⟨B, m, h, ρ, S, s, z⟩ := z
  unfold wpI at z
  refine tE_of hC S s z fun v h1 m1 H1 w q S1 M1 r1 => ?_
  rw [cx.eK]
  split at q
  · cases r1 with
    | lst q1 n1 t1 =>
      refine ⟨_, _, rfl, .inl ⟨SqL.of q1, q m1 H1 _ S1 M1 (walks_enmL fun B' m4 h4 H4 w S4 M4 _ => ?_)⟩⟩
      obtain ⟨xs, z1, z2⟩ := later_lst S1 (.lst q1 n1 t1) w M4
      exact ⟨xs, z1, z2⟩
  · cases r1 with
    | tup q1 t1 =>
      refine ⟨_, _, rfl, .inr ⟨q1, q m1 H1 _ S1 M1 (walks_enmT fun B' m4 h4 H4 w S4 M4 _ => ?_)⟩⟩
      obtain ⟨xs, z1, z2⟩ := later_tup S1 (.tup q1 t1) w M4
      exact ⟨xs, z1, z2⟩
  · obtain ⟨c, e1, q⟩ := q
    obtain ⟨a, e2, rfl, ql⟩ := r1
    obtain ⟨xs, e3, r3⟩ := S1.cellL e1 e2 ql
    refine ⟨_, _, rfl, .inl ⟨SqL.of e3, q m1 H1 _ S1 M1 (walks_enmL fun B' m4 h4 H4 w S4 M4 g => ?_)⟩⟩
    obtain ⟨ys, e4, r4⟩ := S4.cellL g (M4.at e2) (M4.kl _ _ e3)
    exact ⟨ys, SqL.of e4, r4⟩
  · exact q.elim
end
end G43
set_option Elab.async false
set_option linter.all false
set_option maxRecDepth 100000
set_option maxHeartbeats 4000000
namespace G43
open PySem
open L2 (V HO Hp SqL SqT Rd upd upd_same upd_ne Cx OpR R2 VK CallR IxR SlR TE TA TS TT TI TG TGs PE PA PS PSs PT PI PG PGs XK Sp Room Vals)
open PySem.Spec PyProof.Rows
/-! ### defaults -/
theorem samD_eq {a b : PV} (h : samD a b = true) : a = b := by
  unfold samD at h
  split at h
  · rfl
  · rw [of_decide_eq_true h]
  · rw [eq_of_beq h]
  · cases h
theorem samDs_eq : ∀ {a b : List PV}, samDs a b = true → a = b
  | [], [], _ => rfl
  | [], _ :: _, h => by cases h
  | _ :: _, [], h => by cases h
  | x :: xs, y :: ys, h => by
    have h' : (samD x y && samDs xs ys) = true := h
    rw [Bool.and_eq_true] at h'
    rw [samD_eq h'.1, samDs_eq h'.2]
theorem dfs_rep {A : Ad} {B : Addr → Prop} {m : List Addr} {h : Hs} {H : Hp} : ∀ {ps : List PV} {vs : List V}, ps.mapM dfV = some vs → RpRs A B m h H (ps.map RV.pv) vs
  | [], vs, e => by
    simp at e
    subst e
    exact .nil
  | p :: ps, vs, e => by
    rw [List.mapM_cons] at e
    cases e1 : dfV p with
    | none => rw [e1] at e; simp at e
    | some v =>
      cases e2 : ps.mapM dfV with
      | none => rw [e1, e2] at e; simp at e
      | some ws =>
        rw [e1, e2] at e
        simp at e
        subst e
        exact .cons (show RpR A B m h H (.pv p) v from dfV_rep e1) (dfs_rep e2)
section
variable {A : Ad} {P : Pg} {C : CallT} {N : List Str} {sc ss : Scope} {l : Bool} {kk : Nat} {W : XK} {X : Cx} (hC : MonoC C C)
include hC
/-! ### calls -/
/-- set(t), t a tuple of ints -/
def rSetI (w : World) (K : PySem.W.Frag) : List V → Hp → VK → Prop := fun xs H Q => ∃ (p : Addr) (ns : List Int), xs = [.ref p] ∧ SqT K H p (ns.map V.int) ∧ ns.length ≤ 1000 ∧ ∀ (q : Addr) (c : Nat), H q = none → c ≤ ns.length → Q (.ref q) (upd H q (L2.SetO w q (fun j => decide (j ∈ ns)) c))
def rRpv (A : Ad) : List V → Hp → VK → Prop := fun vs H Q => ∃ B m h xs ps x, Sim A B m h H ∧ vs = [x] ∧ RpR A B m h H (.vec xs) x ∧ itemsV h xs = some ps ∧ Dt 60 (.lst ps) ∧ (dat (.lst ps)).showable = true ∧ (dat (.lst ps)).shown.length ≤ sizeLine ∧ Kp A B m h H Q (.str (dat (.lst ps)).shown)
theorem s_call0 (cx : Ctx A P C N sc ss l kk W X) {f : Nat} {df : Df} {dv : List PV} {p pos : Pos} (hf : P.defs[f]? = some df) (hw : df.own = none) (hi : df.ini = false) (hn : df.dfl.drop (df.dfl.length - dv.length) = dv) (hg : gloB sc df.name = true) (ho : odd df.name = false) :
    PE X (.Call (.Name df.name p) [] [] pos) (tE A P C W (.call f .nil dv)) := by
  obtain ⟨o1, o2, o3⟩ := odd_ok ho
  have hr := cx.rm.mono (Nat.le_succ kk)
  obtain ⟨nm, kp, fd, ps, F, hp, hd, _⟩ := cx.cal f df hf
  obtain ⟨dvs, ds, d1, d2, d3⟩ := hd (df.dfl.length - dv.length) (Nat.sub_le _ _)
  rw [hn] at d1
  rw [spD_no hi] at F
  refine ⟨fun pins s σ H Q I z => wpAny_Call_Name_kw (L2.ld_glob I (show X.env.scope.names.lookup _ = _ by rw [cx.eS]; exact gloB_ok hg) (nm hw) ?_ o1)⟩
  obtain ⟨B, m, h, ρ, S, sl, z⟩ := z
  unfold wpE wpL at z
  refine PySem.W.callWith_K0 I.kIn kp (runG (us := []) (vs := []) F cx.gd hr d3 d2 cx.tk I .nil ?_)
  exact ⟨B, m, h, _, S, RpRs.append .nil (dfs_rep d1), z⟩
theorem s_call (cx : Ctx A P C N sc ss l kk W X) {f : Nat} {df : Df} {es : EL} {dv : List PV} {a : Expr} {args : List Expr} {p pos : Pos} (hf : P.defs[f]? = some df) (hw : df.own = none) (hi : df.ini = false) (hn : df.dfl.drop (df.dfl.length - dv.length) = dv) (hg : gloB sc df.name = true) (ho : odd df.name = false)
    (hs : (a :: args).all noStar = true) (ha : PA X (a :: args) (tL A P C W es)) : PE X (.Call (.Name df.name p) (a :: args) [] pos) (tE A P C W (.call f es dv)) := by
  obtain ⟨o1, o2, o3⟩ := odd_ok ho
  have hr := cx.rm.mono (Nat.le_succ kk)
  obtain ⟨nm, kp, fd, ps, F, hp, hd, _⟩ := cx.cal f df hf
  obtain ⟨dvs, ds, d1, d2, d3⟩ := hd (df.dfl.length - dv.length) (Nat.sub_le _ _)
  rw [hn] at d1
  rw [spD_no hi] at F
  refine ⟨fun pins s σ H Q I z => wpAny_Call_Name_kw (L2.ld_glob I (show X.env.scope.names.lookup _ = _ by rw [cx.eS]; exact gloB_ok hg) (nm hw) ?_ o1)⟩
  obtain ⟨B, m, h, ρ, S, sl, z⟩ := z
  unfold wpE at z
  have z2 : tL A P C W es σ H fun vs H1 => spC A C f (vs ++ dvs) H1 Q W := tL_of hC S sl z fun vs h1 m1 H1 ws q S1 M1 r1 => ⟨B, m1, h1, _, S1, r1.append (dfs_rep d1), hC _ _ _ _ _ _ _ (Kv.move M1) (Kx.move M1) q⟩
  rw [List.all_cons, Bool.and_eq_true] at hs
  refine PySem.W.callWith_K (h₀ := X.base) I.ok.mod.kin kp (L2.thn (ha.run pos pins s σ H _ I z2) fun us s1 ⟨vs, H1, I1, r, q⟩ => ⟨I1.kIn, ?_⟩) (starEach_no hs.1 _ _) (back_no _ _ hs.2)
  exact runG F cx.gd hr d3 d2 cx.tk I1 r q
/-- what the law's own word tells of a call -/
theorem s_word (cx : Ctx A P C N sc ss l kk W X) {e : E} {params : Arguments} {body : Expr} {scope : Scope} {p lpos pos : Pos} (hl : l = true) (h0 : gloB sc P.wn = true) (h1 : LamX.lamSB sc scope = true) (h2 : noPar params = true)
    (hb : ∀ {E : XK} {Y : Cx}, Ctx A P C N scope scope false kk E Y → PE Y body (tE A P C E e)) : PE X (.Call (.Name P.wn p) [.Lambda params body scope lpos] [] pos) (tE A P C W (.word e)) := by
  have L := LamX.lamS_by h1
  refine PE_imp ((cx.lam hl).go (t := fun E => tE A P C E e) (by rw [cx.eS]; exact gloB_ok h0) (by rw [cx.eS]; exact h1) h2 ?_) fun σ H Q z => ?_
  · intro Ar outer s H E f c' hg hr
    refine hb { eK := cx.eK, eS := rfl, eN := cx.eN, kd := L.kind, nd := cx.nd, calm := rfl, un := ?_, gd := ?_, tk := ?_, po := ?_, st := ?_, rm := hr, cal := ?_, con := cx.con, blt := cx.blt, exf := cx.exf, exc := ?_, lam := (fun z => nomatch z), lmx := (fun z => nomatch z), cls := cx.cls, nfo := cx.nfo, met := cx.met, dcs := cx.dcs }
    · have := hr.un
      show (Ar.deeper _).units + 65 < cLine
      omega
    · show (Ar.deeper _).guards = some []
      rw [guards_deeper]
      exact hg
    · exact L2.takes_of rfl rfl rfl rfl
    · exact L2.passes_of rfl
    · intro x hx
      rcases stoB_ok hx with k | k
      · exact absurd rfl (L.own _ (PySem.mem_of_lookup k)).1
      · exact absurd rfl (L.own _ (PySem.mem_of_lookup k)).2
    · intro f df hf
      have d := cx.cal f df hf
      exact ⟨d.nm, d.kp, d.fn⟩
    · intro c hc w hw
      have d := cx.exc c hc w hw
      exact ⟨d.mg, d.ei, d.kp, d.rs⟩
  · obtain ⟨B, m, h, ρ, S, sl, z⟩ := z
    unfold wpE at z
    refine ⟨S.tb, fun H1 hE hT => ?_⟩
    have M : Mv m h H m h H1 := .ext ⟨[], by simp⟩ hE fun _ _ _ n => n
    have S1 : Sim A B m h H1 := by
      refine ⟨S.len, fun i c a e1 e2 => ?_, S.inj, S.bn, fun a b => ?_, hT⟩
      · have z := S.cell i c a e1 e2
        obtain ⟨u, hu, nu⟩ := z.some
        exact z.same (by rw [hE a u hu nu, hu]) (fun _ _ r => Rp.moveC S.cl M r) fun _ _ r => RpL.moveC S.cl M r
      · obtain ⟨o', e', n'⟩ := S.bt a b
        exact ⟨o', hE a o' e' n', n'⟩
    refine ⟨B, m, h, ρ, S1, sl.move S M, wpE_mono hC e (fun v h1 q => ?_) (fun x h1 q => ?_) z⟩
    · intro m2 H2 w S2 M2 r
      obtain ⟨p, rfl, q⟩ := q
      unfold Tld
      unfold Pg.wv at q
      split at q
      · rename_i hs
        rw [if_pos hs]
        exact q m2 _ _ S2 (M.trans M2) r
      · rename_i hs
        rw [if_neg hs]
        refine ⟨Nat.le_trans (show 2 ≤ 1000 by decide) (by decide), fun a ha => ?_⟩
        obtain ⟨M3, S3, r3⟩ := S2.tup ha (.cons (.str _) (.cons r .nil))
        exact q m2 _ _ S3 ((M.trans M2).trans M3) r3
    · intro m2 H2 cls d S2 M2 r
      obtain ⟨w, e1, e2, q⟩ := q
      exact ⟨x, w, B, m2, h1, e1, e2, r, S2, fun H' v S' M' rr => q m2 H' v S' ((M.trans M2).trans M') rr⟩
theorem boot_bi (b : BI) : bootBuiltins (biN b) = some (biV b) := by cases b <;> decide +kernel
theorem bi_odd (b : BI) : biN b ≠ "__name__" ∧ (biN b == ("__debug__" : Str)) = false := by cases b <;> decide +kernel
theorem s_bi (cx : Ctx A P C N sc ss l kk W X) {b : BI} {es : EL} {a : Expr} {args : List Expr} {p pos : Pos} (hb : biN b ∈ P.blt) (hg : gloB sc (biN b) = true) (hs : (a :: args).all noStar = true) (ha : PA X (a :: args) (tL A P C W es)) :
    PE X (.Call (.Name (biN b) p) (a :: args) [] pos) (tE A P C W (.bi b es)) := by
  have g : X.env.scope.names.lookup (biN b) = some .globalImplicit := by rw [cx.eS]; exact gloB_ok hg
  have n := cx.blt _ hb
  obtain ⟨o1, o2⟩ := bi_odd hC b
  rw [List.all_cons, Bool.and_eq_true] at hs
  have pe : PE X (.Call (.Name (biN b) p) (a :: args) [] pos) (L2.tCB (rBi A b) (tL A P C W es)) := by
    have hc := call_bi (A := A) cx.eK cx.calm cx.un cx.gd b
    have hv := boot_bi hC b
    cases hV : biV b with
    | builtin id => rw [hV] at hc hv; exact L2.pe_callB hc g n hv ha o1 o2 (starEach_no hs.1 _ _) (back_no _ _ hs.2)
    | type T => rw [hV] at hc hv; exact L2.pe_callTy hc g n hv ha o1 o2 (starEach_no hs.1 _ _) (back_no _ _ hs.2)
    | _ => cases b <;> cases hV
  refine PE_imp pe fun σ H Q z => ?_
  obtain ⟨B, m, h, ρ, S, sl, z⟩ := z
  unfold wpE at z
  refine tL_of hC S sl z fun vs h1 m1 H1 ws q S1 M1 r1 => ?_
  obtain ⟨ps, e, k⟩ := q
  exact ⟨B, m1, h1, ps, S1, r1.rws S1 e, wpBi_mono (fun r k => Kp_of M1 k) k⟩
theorem boot_ty (t : Ty) : bootBuiltins (Str.ofString (tyN t)) = some (.type (tyN t)) ∧ Str.ofString (tyN t) ≠ "__name__" ∧ (Str.ofString (tyN t) == ("__debug__" : Str)) = false := by cases t <;> decide +kernel
theorem s_isi (cx : Ctx A P C N sc ss l kk W X) {e : E} {t : Ty} {a : Expr} {p p2 pos : Pos} (hb : ("isinstance" : Str) ∈ P.blt) (hb2 : Str.ofString (tyN t) ∈ P.blt) (hg : gloB sc "isinstance" = true) (hg2 : gloB sc (Str.ofString (tyN t)) = true) (hs : noStar a = true)
    (ha : PE X a (tE A P C W e)) : PE X (.Call (.Name "isinstance" p) [a, .Name (Str.ofString (tyN t)) p2] [] pos) (tE A P C W (.isi e t)) := by
  have g : X.env.scope.names.lookup ("isinstance" : Str) = some .globalImplicit := by rw [cx.eS]; exact gloB_ok hg
  have g2 : X.env.scope.names.lookup (Str.ofString (tyN t)) = some .globalImplicit := by rw [cx.eS]; exact gloB_ok hg2
  obtain ⟨b1, b2, b3⟩ := boot_ty hC t
  refine PE_imp (L2.pe_callB L2.call_isi g (cx.blt _ hb) (by decide +kernel) (L2.pa_cons ha (L2.pa_cons (L2.pe_bltn (v := .ty (tyN t)) g2 (cx.blt _ hb2) b1 rfl b2 b3) L2.pa_nil) (starEach_no hs _ _)) (by decide +kernel) (by decide +kernel) (starEach_no hs _ _)) fun σ H Q z => ?_
  obtain ⟨B, m, h, ρ, S, sl, z⟩ := z
  unfold wpE at z
  refine tE_of hC S sl z fun v h1 m1 H1 w q S1 M1 r1 => ?_
  obtain ⟨q1, b, e1, e2, k⟩ := q
  exact rIs_isi cx.eK ⟨B, m1, h1, q1, b, S1, r1.rw S1 e1, e2, k m1 H1 _ S1 M1 (.bl _)⟩
/-! ### tests -/
theorem q_val {e : E} {e' : Expr} (he : PE X e' (tE A P C W e)) (hp : ∀ whole, isTrue e' X.env whole = (do let v ← whole; standAt e'.pos; holding [v] (truthy v))) : PT X e' (tQ A P C W e) := L2.pt_val he hp
theorem q_nt {e : E} {e' : Expr} {pos : Pos} (he : PT X e' (tQ A P C W e)) : PT X (.UnaryOp .Not e' pos) (tQ A P C W (.nt e)) := by
  refine PT_imp (L2.pt_not he) fun σ H Q z => ?_
  obtain ⟨B, m, h, ρ, S, s, z⟩ := z
  unfold wpE at z
  refine tE_of hC S s z fun v h1 m1 H1 w q S1 M1 r1 => ?_
  obtain ⟨c, rfl, k⟩ := q
  cases r1
  obtain ⟨c', e2, k⟩ := k m1 H1 _ S1 M1 (.bl _)
  cases e2
  exact ⟨c, rfl, k⟩
theorem i_qand {a b : E} : ∀ σ H Q, tQ A P C W (.and a b) σ H Q → L2.tAnd (tQ A P C W a) (tQ A P C W b) σ H Q := fun σ H Q z => by
  obtain ⟨B, m, h, ρ, S, s, z⟩ := z
  unfold wpE at z
  refine tE_of hC S s z fun v h1 m1 H1 w q S1 M1 r1 => ?_
  obtain ⟨c, rfl, k⟩ := q
  cases r1
  refine ⟨c, rfl, ?_⟩
  cases c with
  | true =>
    rw [if_pos rfl] at k ⊢
    exact tE_of hC S1 (s.move S M1) (wpE_next hC M1 k) fun v2 h2 m2 H2 w2 q2 S2 M2 r2 => q2 m2 H2 w2 S2 (M1.trans M2) r2
  | false =>
    rw [if_neg Bool.false_ne_true] at k ⊢
    obtain ⟨c', e2, k⟩ := k m1 H1 _ S1 M1 (.bl _)
    cases e2
    exact k
theorem i_qor {a b : E} : ∀ σ H Q, tQ A P C W (.or a b) σ H Q → L2.tOr (tQ A P C W a) (tQ A P C W b) σ H Q := fun σ H Q z => by
  obtain ⟨B, m, h, ρ, S, s, z⟩ := z
  unfold wpE at z
  refine tE_of hC S s z fun v h1 m1 H1 w q S1 M1 r1 => ?_
  obtain ⟨c, rfl, k⟩ := q
  cases r1
  refine ⟨c, rfl, ?_⟩
  cases c with
  | true =>
    rw [if_pos rfl] at k ⊢
    obtain ⟨c', e2, k⟩ := k m1 H1 _ S1 M1 (.bl _)
    cases e2
    exact k
  | false =>
    rw [if_neg Bool.false_ne_true] at k ⊢
    exact tE_of hC S1 (s.move S M1) (wpE_next hC M1 k) fun v2 h2 m2 H2 w2 q2 S2 M2 r2 => q2 m2 H2 w2 S2 (M1.trans M2) r2
theorem pw_of {op : BoolOp} {vs : List Expr} {pos : Pos} {t : TT} (h : PT X (.BoolOp op vs pos) t) : L2.PW X (.BoolOp op vs pos) t := ⟨fun _ pins s σ H Q I z => h.run pins s σ H Q I z⟩
theorem q_ite {t a b : E} {t' a' b' : Expr} {pos : Pos} (ht : PT X t' (tQ A P C W t)) (ha : PT X a' (tQ A P C W a)) (hb : PT X b' (tQ A P C W b)) : PT X (.IfExp t' a' b' pos) (tQ A P C W (.ite t a b)) := by
  refine ⟨fun pins s σ H Q I z => ?_⟩
  obtain ⟨B, m, h, ρ, S, sl, z⟩ := z
  unfold wpE at z
  have z2 : tQ A P C W t σ H fun c H1 => if c = true then tQ A P C W a σ H1 Q else tQ A P C W b σ H1 Q := by
    refine tE_of hC S sl z fun v h1 m1 H1 w q S1 M1 r1 => ?_
    obtain ⟨c, rfl, k⟩ := q
    cases r1
    refine ⟨c, rfl, ?_⟩
    cases c with
    | true =>
      rw [if_pos rfl] at k ⊢
      exact tE_of hC S1 (sl.move S M1) (wpE_next hC M1 k) fun v2 h2 m2 H2 w2 q2 S2 M2 r2 => q2 m2 H2 w2 S2 (M1.trans M2) r2
    | false =>
      rw [if_neg Bool.false_ne_true] at k ⊢
      exact tE_of hC S1 (sl.move S M1) (wpE_next hC M1 k) fun v2 h2 m2 H2 w2 q2 S2 M2 r2 => q2 m2 H2 w2 S2 (M1.trans M2) r2
  show wpAny (model X.prog X.w) X.A (isTrue t' X.env (eval t' X.env) >>= fun c => if c = true then isTrue a' X.env (eval a' X.env) else isTrue b' X.env (eval b' X.env)) _ _ s
  refine wpAny_bind (L2.thn (ht.run pins s σ H _ I z2) fun c s1 ⟨H1, I1, q⟩ => ?_)
  cases c with
  | true => rw [if_pos rfl] at q ⊢; exact ha.run pins s1 σ H1 Q I1 q
  | false => rw [if_neg Bool.false_ne_true] at q ⊢; exact hb.run pins s1 σ H1 Q I1 q
end
end G43
set_option Elab.async false
set_option linter.all false
set_option maxRecDepth 100000
set_option maxHeartbeats 4000000
namespace G43
open PySem
open L2 (V HO Hp SqL SqT Rd upd upd_same upd_ne Cx OpR R2 VK CallR IxR SlR TE TA TS TT TI TG TGs PE PA PS PSs PT PI PG PGs XK Sp Room Vals)
open PySem.Spec PyProof.Rows
/-! ### targets -/
theorem Off.refl (vs : List Nat) (σ : L2.St) : Off vs σ σ := ⟨rfl, fun _ _ => rfl⟩
theorem Off.trans {vs ws : List Nat} {a b c : L2.St} (x : Off vs a b) (y : Off ws b c) : Off (vs ++ ws) a c :=
  ⟨y.1.trans x.1, fun i hi => (y.2 i fun z => hi (List.mem_append_right _ z)).trans (x.2 i fun z => hi (List.mem_append_left _ z))⟩
theorem wipe_in {σ : L2.St} {i : Nat} : ∀ {vs : List Nat}, i ∈ vs → i < σ.length → (L2.wipe σ vs)[i]? = some none
  | [], h, _ => by cases h
  | v :: vs, h, hl => by
    unfold L2.wipe
    by_cases e : v = i
    · subst e
      rw [List.getElem?_set_self (by rw [L2.wipe_length]; exact hl)]
    · rw [List.getElem?_set_ne e]
      exact wipe_in ((List.mem_cons.mp h).resolve_left fun z => e z.symm) hl
theorem Off.wipe {vs : List Nat} {σ σ' : L2.St} (o : Off vs σ σ') : L2.wipe σ' vs = L2.wipe σ vs := by
  apply List.ext_getElem?
  intro i
  by_cases hi : i ∈ vs
  · by_cases hl : i < σ.length
    · rw [wipe_in hi hl, wipe_in hi (by rw [o.1]; exact hl)]
    · rw [List.getElem?_eq_none (by rw [L2.wipe_length, o.1]; omega), List.getElem?_eq_none (by rw [L2.wipe_length]; omega)]
  · rw [L2.wipe_out hi, L2.wipe_out hi]
    exact o.2 i hi
def tG (A : Ad) (tg : Tg) : TG := fun v σ H Q => ∃ (B : Addr → Prop) (m : List Addr) (h : Hs) (p : PV) (ρ : Env) (k : Env → Prop), Sim A B m h H ∧ Sl A B m h H ρ σ ∧ Rp A (Xc B m h) H p v ∧ bindT tg p ρ k ∧ ∀ ρ' σ', k ρ' → Sl A B m h H ρ' σ' → Off tg.slots σ σ' → Q σ' H
def tGs (A : Ad) (tg : Tg) : TGs := fun vs σ H Q => ∃ (B : Addr → Prop) (m : List Addr) (h : Hs) (l : List PV) (ρ : Env) (k : Env → Prop), Sim A B m h H ∧ Sl A B m h H ρ σ ∧ RpL A (Xc B m h) H l vs ∧ bindL tg l ρ k ∧ ∀ ρ' σ', k ρ' → Sl A B m h H ρ' σ' → Off tg.slots σ σ' → Q σ' H
theorem PG_imp {X : Cx} {e : Expr} {t t' : TG} (p : PG X e t) (i : ∀ v σ H Q, t' v σ H Q → t v σ H Q) : PG X e t' := ⟨fun pins s σ H v u Q I r z => p.run pins s σ H v u Q I r (i v σ H Q z)⟩
theorem PGs_imp {X : Cx} {e : List Expr} {t t' : TGs} (p : PGs X e t) (i : ∀ v σ H Q, t' v σ H Q → t v σ H Q) : PGs X e t' := ⟨fun pins s σ H v u Q I r z => p.run pins s σ H v u Q I r (i v σ H Q z)⟩
theorem assign_no {e : Expr} (h : noStar e = true) (es : List Expr) (env : PySem.Env) : assignEach (e :: es) env = (false, assign e env) :: assignEach es env := by
  cases e <;> first | rfl | cases h
theorem assign_len (env : PySem.Env) : ∀ {es : List Expr}, es.all noStar = true → (assignEach es env).length = es.length ∧ (assignEach es env).findIdx? (·.1) = none
  | [], _ => ⟨rfl, rfl⟩
  | e :: es, h => by
    rw [List.all_cons, Bool.and_eq_true] at h
    rw [assign_no h.1]
    obtain ⟨h1, h2⟩ := assign_len env h.2
    refine ⟨by simp [h1], ?_⟩
    rw [List.findIdx?_cons]
    simp [h2]
theorem mGL_star {N : List Str} {ss : Scope} : ∀ {t : Tg} {es : List Expr}, mGL N ss t es = true → es.all noStar = true
  | .nil, [], _ => rfl
  | .nil, _ :: _, h => by simp [mGL] at h
  | .nm _, _, h => by simp [mGL] at h
  | .cons _ _, [], h => by simp [mGL] at h
  | .cons a r, e :: es, h => by
    simp only [mGL, Bool.and_eq_true] at h
    rw [List.all_cons, h.1.2, mGL_star h.2]
    rfl
theorem mGL_len {N : List Str} {ss : Scope} : ∀ {t : Tg} {es : List Expr} {l : List PV} {ρ : Env} {k : Env → Prop}, mGL N ss t es = true → bindL t l ρ k → es.length = l.length
  | .nil, [], l, ρ, k, _, z => by
    simp only [bindL] at z
    rw [z.1]
    rfl
  | .nil, _ :: _, _, _, _, h, _ => by simp [mGL] at h
  | .nm _, _, _, _, _, h, _ => by simp [mGL] at h
  | .cons _ _, [], _, _, _, h, _ => by simp [mGL] at h
  | .cons a r, e :: es, l, ρ, k, h, z => by
    simp only [mGL, Bool.and_eq_true] at h
    simp only [bindL] at z
    obtain ⟨x, xs, rfl, z⟩ := z
    have : ∃ ρ' , bindL r xs ρ' k := by
      have q := bindT_mono (k' := fun ρ' => bindL r xs ρ' k) a (fun _ q => q) z
      exact bindT_some a q
    obtain ⟨ρ', q⟩ := this
    rw [List.length_cons, List.length_cons, mGL_len h.2 q]
section
variable {A : Ad} {P : Pg} {C : CallT} {N : List Str} {sc ss : Scope} {l : Bool} {kk : Nat} {W : XK} {X : Cx}
mutual
theorem sG (cx : Ctx A P C N sc ss l kk W X) : ∀ (t : Tg) {e : Expr}, mG N ss t e = true → PG X e (tG A t)
  | .nm i, e, h => by
    cases e with
    | Name x pos =>
      simp only [mG, Bool.and_eq_true, decide_eq_true_eq] at h
      obtain ⟨s1, s2⟩ := cx.st x h.2
      refine PG_imp (L2.pg_name (i := i) (by rw [cx.eN]; exact cx.nd) (by rw [cx.eN]; exact h.1) (by rw [cx.eS]; exact s1) (by rw [cx.eS]; exact s2)) fun v σ H Q z => ?_
      obtain ⟨B, m, h, p, ρ, k, S, sl, r, b, z⟩ := z
      simp only [bindT] at b
      exact z _ _ b (sl.set i (show RpR A B m h H (.pv p) v from r)) (Off.set σ i _)
    | _ => simp [mG] at h
  | .nil, e, h => by
    cases e with
    | Tuple es k pos =>
      cases es with
      | nil =>
        refine PG_imp (L2.pg_tup cx.calm L2.pgs_nil) fun v σ H Q z => ?_
        obtain ⟨B, m, h, p, ρ, k, S, sl, r, b, z⟩ := z
        simp only [bindT] at b
        obtain ⟨rfl, b⟩ := b
        cases r with
        | tup q r =>
          cases r
          exact ⟨_, [], rfl, by rw [cx.eK]; exact q, rfl, rfl, z _ _ b sl (Off.refl _ _)⟩
      | cons a as => simp [mG] at h
    | _ => simp [mG] at h
  | .cons a r, e, h => by
    cases e with
    | Tuple es k pos =>
      cases es with
      | nil => simp [mG] at h
      | cons e es =>
        simp only [mG, Bool.and_eq_true] at h
        have g1 := sG cx a h.1.1
        have g2 := sGs cx r h.2
        have st := mGL_star h.2
        have st2 : (e :: es).all noStar = true := by rw [List.all_cons, h.1.2, st]; rfl
        obtain ⟨l1, l2⟩ := assign_len X.env st2
        refine PG_imp (L2.pg_tup (n := (e :: es).length) cx.calm (L2.pgs_cons g1 g2 (by rw [assign_no h.1.2] <;> rfl)) l1 l2) fun v σ H Q z => ?_
        obtain ⟨B, m, hh, p, ρ, k, S, sl, rp, b, z⟩ := z
        simp only [bindT] at b
        obtain ⟨y, ys, rfl, b⟩ := b
        cases rp with
        | tup q rr =>
          cases rr with
          | cons r1 r2 =>
            obtain ⟨ρ', b'⟩ := bindT_some a b
            refine ⟨_, _, rfl, by rw [cx.eK]; exact q, ?_, _, _, rfl, ?_⟩
            · rw [List.length_cons, List.length_cons, r2.length, mGL_len h.2 b']
            · exact ⟨B, m, hh, y, ρ, _, S, sl, r1, b, fun ρ1 σ1 b1 sl1 o1 => ⟨B, m, hh, ys, ρ1, k, S, sl1, r2, b1, fun ρ2 σ2 b2 sl2 o2 => z ρ2 σ2 b2 sl2 (o1.trans o2)⟩⟩
    | _ => simp [mG] at h
theorem sGs (cx : Ctx A P C N sc ss l kk W X) : ∀ (t : Tg) {es : List Expr}, mGL N ss t es = true → PGs X es (tGs A t)
  | .nm _, _, h => by simp [mGL] at h
  | .nil, es, h => by
    cases es with
    | nil =>
      refine PGs_imp L2.pgs_nil fun v σ H Q z => ?_
      obtain ⟨B, m, h, p, ρ, k, S, sl, r, b, z⟩ := z
      simp only [bindL] at b
      obtain ⟨rfl, b⟩ := b
      cases r
      exact ⟨rfl, z _ _ b sl (Off.refl _ _)⟩
    | cons a as => simp [mGL] at h
  | .cons a r, es, h => by
    cases es with
    | nil => simp [mGL] at h
    | cons e es =>
      simp only [mGL, Bool.and_eq_true] at h
      have g1 := sG cx a h.1.1
      have g2 := sGs cx r h.2
      refine PGs_imp (L2.pgs_cons g1 g2 (by rw [assign_no h.1.2] <;> rfl)) fun v σ H Q z => ?_
      obtain ⟨B, m, hh, l, ρ, k, S, sl, rp, b, z⟩ := z
      simp only [bindL] at b
      obtain ⟨y, ys, rfl, b⟩ := b
      cases rp with
      | cons r1 r2 => exact ⟨_, _, rfl, B, m, hh, y, ρ, _, S, sl, r1, b, fun ρ1 σ1 b1 sl1 o1 => ⟨B, m, hh, ys, ρ1, k, S, sl1, r2, b1, fun ρ2 σ2 b2 sl2 o2 => z ρ2 σ2 b2 sl2 (o1.trans o2)⟩⟩
end
end
end G43
set_option Elab.async false
set_option linter.all false
set_option maxRecDepth 100000
set_option maxHeartbeats 4000000
namespace G43
open PySem
open L2 (V HO Hp SqL SqT Rd upd upd_same upd_ne Cx OpR R2 VK CallR IxR SlR TE TA TS TT TI TG TGs PE PA PS PSs PT PI PG PGs XK Sp Room Vals)
open PySem.Spec PyProof.Rows
section
variable {A : Ad} {B : Addr → Prop} {m : List Addr} {h : Hs} {H : Hp}
/-! ### a list that is being made -/
mutual
theorem Rp.blocked {D : Addr} {ys zs : List V} (b : B D) (e : H D = some (.lst ys)) : ∀ {p : PV} {v : V}, Rp A (Xc B m h) H p v → Rp A (Xc B m h) (upd H D (.lst zs)) p v
  | _, _, .non => .non
  | _, _, .bl b => .bl b
  | _, _, .int i => .int i
  | _, _, .str x => .str x
  | _, _, .fn f => .fn f
  | _, _, .tup q r => .tup (by
      rcases q with (q | ⟨o, q⟩) | q
      · exact .inl (.inl (by rw [upd_ne (L2.ne_of q e (fun z => nomatch z))]; exact q))
      · exact .inl (.inr ⟨o, by rw [upd_ne (L2.ne_of q e (fun z => nomatch z))]; exact q⟩)
      · exact .inr q) (RpL.blocked b e r)
  | _, _, .lst q n r => .lst (by rw [upd_ne (fun z => n (.inl (by rw [z]; exact b)))]; exact q) n (RpL.blocked b e r)
  | _, _, .scr q r => .scr (by
      rcases q with ⟨o, q⟩ | q
      · exact .inl ⟨o, by rw [upd_ne (L2.ne_of q e (fun z => nomatch z))]; exact q⟩
      · exact .inr q) (RpL.blocked b e r)
  | _, _, .dct q n => .dct (by rw [upd_ne (fun z => n (.inl (by rw [z]; exact b)))]; exact q) n
  | _, _, .obj q n l r => .obj (by rw [upd_ne (fun z => n (.inl (by rw [z]; exact b)))]; exact q) n l (RpL.blocked b e r)
theorem RpL.blocked {D : Addr} {ys zs : List V} (b : B D) (e : H D = some (.lst ys)) : ∀ {l : List PV} {xs : List V}, RpL A (Xc B m h) H l xs → RpL A (Xc B m h) (upd H D (.lst zs)) l xs
  | _, _, .nil => .nil
  | _, _, .cons q r => .cons (Rp.blocked b e q) (RpL.blocked b e r)
end
theorem Sim.blocked (S : Sim A B m h H) {D : Addr} {ys zs : List V} (b : B D) (e : H D = some (.lst ys)) : Sim A B m h (upd H D (.lst zs)) := by
  refine ⟨S.len, fun i c a h1 h2 => ?_, S.inj, S.bn, fun a q => ?_, tabs_lst S.tb e⟩
  · have ne : a ≠ D := fun z => S.bn D b (by rw [← z]; exact ⟨i, c, h1, h2⟩)
    exact (S.cell i c a h1 h2).same (by rw [upd_ne ne]) (fun _ _ r => Rp.blocked b e r) fun _ _ r => RpL.blocked b e r
  · obtain ⟨o', e', n'⟩ := S.bt a q
    by_cases ha : a = D
    · subst ha
      exact ⟨_, upd_same, fun _ z => nomatch z⟩
    · exact ⟨o', by rw [upd_ne ha]; exact e', n'⟩
def Bx (B : Addr → Prop) (D : Addr) : Addr → Prop := fun a => B a ∨ a = D
theorem Sim.block (S : Sim A B m h H) {D : Addr} {o : HO} (ht : ∀ ps, o ≠ .tbl ps) (e : H D = none) : Sim A (Bx B D) m h (upd H D o) := by
  have w : ∀ a, Bx B D a → B a ∨ H a = none := fun a z => z.imp id fun z => by rw [z]; exact e
  obtain ⟨M, S'⟩ := S.news (o := o) e
  refine ⟨S.len, fun i c a h1 h2 => ?_, S.inj, fun a z => ?_, fun a z => ?_, S'.tb⟩
  · have z := S.cell i c a h1 h2
    obtain ⟨u, hu, _⟩ := z.some
    exact z.same (by rw [upd_ne (L2.ne_of_none hu e)]) (fun _ _ r => Rp.moveC S.cl M (r.strong w)) fun _ _ r => RpL.moveC S.cl M (r.strong w)
  · rcases z with z | z
    · exact S.bn a z
    · subst z
      exact fun z => S.fresh e (.inr z)
  · rcases z with z | z
    · exact S'.bt a z
    · subst z
      exact ⟨o, upd_same, ht⟩
theorem Sim.unblock {D : Addr} (S : Sim A (Bx B D) m h H) : Sim A B m h H :=
  ⟨S.len, fun i c a h1 h2 => (S.cell i c a h1 h2).same rfl (fun _ _ r => r.weak fun _ z => z.imp .inl id) fun _ _ r => r.weak fun _ z => z.imp .inl id, S.inj, fun a z => S.bn a (.inl z), fun a z => S.bt a (.inl z), S.tb⟩
theorem RpI.later {B' : Addr → Prop} {m2 : List Addr} {h2 : Hs} {H2 : Hp} (c : CL m h H) (w : ∀ a, B' a → B a ∨ H a = none) (M : Mv m h H m2 h2 H2) : ∀ {x : IT} {v : V}, RpI A B m h H x v → RpI A B' m2 h2 H2 x v
  | .p _, _, q => Rp.moveC c M (Rp.strong w q)
  | .c _, _, ⟨a, e, z, l⟩ => ⟨a, M.at e, z, let ⟨_, q⟩ := l; M.kl _ _ q⟩
  | .o _ _ _, _, q => RpO.move M q
theorem RpR.later {B' : Addr → Prop} {m2 : List Addr} {h2 : Hs} {H2 : Hp} (c : CL m h H) (w : ∀ a, B' a → B a ∨ H a = none) (M : Mv m h H m2 h2 H2) : ∀ {x : RV} {v : V}, RpR A B m h H x v → RpR A B' m2 h2 H2 x v
  | .pv _, _, q => Rp.moveC c M (Rp.strong w q)
  | .ref _, _, ⟨a, e, z, l⟩ => ⟨a, M.at e, z, let ⟨_, q⟩ := l; M.kl _ _ q⟩
  | .ob _ _ _, _, q => RpR.ob_move M q
  | .two _ _ _ _, _, ⟨a, x, y, e, e1, q1, q2⟩ => ⟨a, x, y, e, tup_move c M e1, RpO.move M q1, Rp.moveC c M (Rp.strong w q2)⟩
  | .mat _, _, ⟨a, xs, e, e1, n, l, z⟩ => by
    have n1 : ¬ Xc B' m h a := fun q => q.elim (fun q => (w a q).elim (fun q => n (.inl q)) fun q => by rw [e1] at q; cases q) fun q => n (.inr q)
    exact ⟨a, xs, e, (sqLH_move M e1 n1).1, (sqLH_move M e1 n1).2, l, fun j i q => let ⟨b, q1, q2, _, q3⟩ := z j i q; ⟨b, M.at q1, q2, M.kl _ _ q3⟩⟩
  | .vec _, _, ⟨a, xs, e, e1, n, l, z⟩ => by
    have n1 : ¬ Xc B' m h a := fun q => q.elim (fun q => (w a q).elim (fun q => n (.inl q)) fun q => by rw [e1] at q; cases q) fun q => n (.inr q)
    exact ⟨a, xs, e, (sqLH_move M e1 n1).1, (sqLH_move M e1 n1).2, l, fun j i q => let ⟨y, q1, q2⟩ := z j i q; ⟨y, q1, q2.later c w M⟩⟩
theorem upd_list {H : Hp} {D a : Addr} {ys zs : List V} (e : H D = some (.lst ys)) (q : ∃ xs, H a = some (.lst xs)) : ∃ xs, upd H D (.lst zs) a = some (.lst xs) := by
  by_cases ha : a = D
  · subst ha; exact ⟨zs, upd_same⟩
  · obtain ⟨xs, q⟩ := q
    exact ⟨xs, by rw [upd_ne ha]; exact q⟩
theorem RpO.blocked {D : Addr} {ys zs : List V} (e : H D = some (.lst ys)) {k i : Nat} {j : Option Nat} {v : V} : RpO A m H k i j v → RpO A m (upd H D (.lst zs)) k i j v
  | ⟨a, dx, gs, q1, q2, q3, q4⟩ => ⟨a, dx, gs, q1, q2, by rw [upd_ne (L2.ne_of q3 e (fun z => nomatch z))]; exact q3, fun l hl => let ⟨b', xs, z1, z2, z3, z4⟩ := q4 l hl; let ⟨ys, z5⟩ := upd_list e ⟨xs, z4⟩; ⟨b', ys, z1, z2, z3, z5⟩⟩
theorem RpI.blocked {D : Addr} {ys zs : List V} (b : B D) (e : H D = some (.lst ys)) : ∀ {x : IT} {v : V}, RpI A B m h H x v → RpI A B m h (upd H D (.lst zs)) x v
  | .p _, _, q => Rp.blocked b e q
  | .c _, _, ⟨a, q1, q2, q3⟩ => ⟨a, q1, q2, upd_list e q3⟩
  | .o _ _ _, _, q => RpO.blocked e q
theorem RpR.blocked {D : Addr} {ys zs : List V} (b : B D) (e : H D = some (.lst ys)) : ∀ {x : RV} {v : V}, RpR A B m h H x v → RpR A B m h (upd H D (.lst zs)) x v
  | .pv _, _, q => Rp.blocked b e q
  | .ref _, _, ⟨a, q1, q2, q3⟩ => ⟨a, q1, q2, upd_list e q3⟩
  | .ob _ _ _, _, q => RpO.blocked e q
  | .two _ _ _ _, _, ⟨a, x, y, e0, e1, q1, q2⟩ => ⟨a, x, y, e0, by rw [upd_ne (L2.ne_of e1 e (fun z => nomatch z))]; exact e1, RpO.blocked e q1, Rp.blocked b e q2⟩
  | .mat _, _, ⟨a, xs, e0, e1, n, l, z⟩ => ⟨a, xs, e0, by rw [upd_ne (fun q => n (.inl (by rw [q]; exact b)))]; exact e1, n, l, fun j i q => let ⟨b, q1, q2, q3⟩ := z j i q; ⟨b, q1, q2, upd_list e q3⟩⟩
  | .vec _, _, ⟨a, xs, e0, e1, n, l, z⟩ => ⟨a, xs, e0, by rw [upd_ne (fun q => n (.inl (by rw [q]; exact b)))]; exact e1, n, l, fun j i q => let ⟨y, q1, q2⟩ := z j i q; ⟨y, q1, q2.blocked b e⟩⟩
theorem RpRs.blocked {D : Addr} {ys zs : List V} (b : B D) (e : H D = some (.lst ys)) : ∀ {x : List RV} {v : List V}, RpRs A B m h H x v → RpRs A B m h (upd H D (.lst zs)) x v
  | _, _, .nil => .nil
  | _, _, .cons q r => .cons (q.blocked b e) (RpRs.blocked b e r)
theorem Sl.later {B' : Addr → Prop} {m2 : List Addr} {h2 : Hs} {H2 : Hp} (c : CL m h H) (w : ∀ a, B' a → B a ∨ H a = none) (M : Mv m h H m2 h2 H2) {ρ : Env} {σ : L2.St} (s : Sl A B m h H ρ σ) : Sl A B' m2 h2 H2 ρ σ :=
  ⟨s.len, fun i v e => let ⟨w', e1, e2⟩ := s.at_ i v e; ⟨w', e1, e2.later c w M⟩⟩
end
/-! ### a comprehension -/
abbrev WF : XK := fun _ _ _ => False
def tTs (A : Ad) (P : Pg) (C : CallT) : EL → TT
  | .nil => L2.tYes
  | .cons e _ => tQ A P C WF e
section
variable {A : Ad} {P : Pg} {C : CallT} {N : List Str} {sc ss : Scope} {l : Bool} {kk : Nat} {W : XK} {X : Cx} (hC : MonoC C C)
include hC
theorem tI_of {B : Addr → Prop} {m : List Addr} {h : Hs} {H : Hp} {ρ : Env} {σ : L2.St} {it : It} {R : List PV → (Hs → Prop) → Hs → Prop} {T : L2.It → Hp → Prop} (S : Sim A B m h H) (s : Sl A B m h H ρ σ) (z : wpI P C it ρ h R (Kx A B m h H W))
    (k : ∀ l gd h1 m1 H1 J, R l gd h1 → Sim A B m1 h1 H1 → Mv m h H m1 h1 H1 → Walks A B m1 h1 H1 J l gd → T J H1) : tI A P C W it σ H T :=
  ⟨B, m, h, ρ, S, s, wpI_mono hC it (fun l gd h1 r m1 H1 J S1 M1 q => k l gd h1 m1 H1 J r S1 M1 q) (fun _ _ z => z) z⟩
/-- the items of a list of values and live things -/
def WalksV (A : Ad) (B : Addr → Prop) (m : List Addr) (h : Hs) (H : Hp) (J : L2.It) (xs : List IT) : Prop := ∀ (B' : Addr → Prop) (m2 : List Addr) (h2 : Hs) (H2 : Hp), (∀ a, B' a → B a ∨ H a = none) → Sim A B' m2 h2 H2 → Mv m h H m2 h2 H2 →
  (∀ (i : Nat) (x : IT), xs[i]? = some x → J.go i H2 ∧ ∀ v H3, J.yld i H2 v H3 → H3 = H2 ∧ RpI A B' m2 h2 H2 x v) ∧ ∀ i : Nat, xs.length ≤ i → J.stop i H2
def tIv (A : Ad) (P : Pg) (C : CallT) (W : XK) (e : E) : TI := fun σ H R => ∃ B m h ρ, Sim A B m h H ∧ Sl A B m h H ρ σ ∧ wpE P C e ρ h (fun x h1 => ∃ xs, x = .vec xs ∧ ∀ m1 H1 J, Sim A B m1 h1 H1 → Mv m h H m1 h1 H1 → WalksV A B m1 h1 H1 J xs → R J H1) (Kx A B m h H W)
def tGv (A : Ad) (i : Nat) : L2.TG := fun v σ H Q => ∃ (B : Addr → Prop) (m : List Addr) (h : Hs) (x : RV) (ρ : Env), Sim A B m h H ∧ Sl A B m h H ρ σ ∧ RpR A B m h H x v ∧ ∀ σ', Sl A B m h H (ρ.set i (some x)) σ' → Off [i] σ σ' → Q σ' H
theorem comp_core {α : Type} (inj : α → RV) {elt : E} {tg : Tg} {it : It} {ifs : EL} {B : Addr → Prop} {m : List Addr} {h : Hs} {H : Hp} {ρ : Env} {σ : L2.St} {Q : VK} (F : List α → Hs → Prop) (S : Sim A B m h H) (s : Sl A B m h H ρ σ)
    (z : wpI P C it ρ h (fun l gd h1 => l.length ≤ sizeLine ∧ compT gd (fun x h2 k => bindT tg x (kill ρ tg.slots) fun ρ1 => wpTs P C ifs ρ1 h2 (fun b h3 => if b = true then wpE P C elt ρ1 h3 (fun y h4 => ∃ p, y = inj p ∧ k [p] h4) (fun _ _ => False) else k [] h3) (fun _ _ => False)) l h1 F) (Kx A B m h H W))
    (fin : ∀ (acc : List α) (D : Addr) (xs : List V) (m1 : List Addr) (h1 : Hs) (H1 : Hp) (m2 : List Addr) (h2 : Hs) (H2 : Hp), Sim A B m1 h1 H1 → Mv m h H m1 h1 H1 → H1 D = none → Sim A (Bx B D) m2 h2 H2 → Mv m1 h1 H1 m2 h2 H2 → H2 D = some (.lst xs) → RpRs A (Bx B D) m2 h2 H2 (acc.map inj) xs → F acc h2 → Q (.ref D) H2) :
    L2.tLc (tI A P C W it) (tG A tg) (tTs A P C ifs) (tE A P C WF elt) tg.slots σ H Q := by
  refine tI_of hC S s z fun l gd h1 m1 H1 J q S1 M1 wk D hD => ?_
  obtain ⟨hz, q⟩ := q
  have wB : ∀ a, Bx B D a → B a ∨ H1 a = none := fun a z => z.imp id fun z => by rw [z]; exact hD
  have s1 := s.move S M1
  generalize hst : (fun (x : PV) (h2 : Hs) (k : List α → Hs → Prop) => bindT tg x (kill ρ tg.slots) fun ρ1 => wpTs P C ifs ρ1 h2 (fun b h3 => if b = true then wpE P C elt ρ1 h3 (fun y h4 => ∃ p, y = inj p ∧ k [p] h4) (fun _ _ => False) else k [] h3) (fun _ _ => False)) = st at q
  have hst' : ∀ x h2 k, st x h2 k = bindT tg x (kill ρ tg.slots) fun ρ1 => wpTs P C ifs ρ1 h2 (fun b h3 => if b = true then wpE P C elt ρ1 h3 (fun y h4 => ∃ p, y = inj p ∧ k [p] h4) (fun _ _ => False) else k [] h3) (fun _ _ => False) := fun x h2 k => by rw [← hst]
  refine ⟨fun i n H2 => ∃ m2 h2 acc xs, Sim A (Bx B D) m2 h2 H2 ∧ Mv m1 h1 H1 m2 h2 H2 ∧ H2 D = some (.lst xs) ∧ RpRs A (Bx B D) m2 h2 H2 (acc.map inj) xs ∧ acc.length ≤ i ∧ i ≤ l.length ∧ n = l.length - i ∧
      compT gd st (l.drop i) h2 (fun r h3 => F (acc ++ r) h3), ⟨l.length, m1, h1, [], [], S1.block (fun _ z => nomatch z) hD, ?_, upd_same, .nil, Nat.le_refl _, Nat.zero_le _, rfl, q⟩, ?_⟩
  · exact (S1.news (o := .lst []) hD).1
  rintro i n H2 ⟨m2, h2, acc, xs, S2, M2, e2, r2, ha, hi, rfl, q⟩
  by_cases hlt : i < l.length
  · right
    obtain ⟨x, hx⟩ : ∃ x, l[i]? = some x := ⟨l[i], List.getElem?_eq_getElem hlt⟩
    have hdr : l.drop i = x :: l.drop (i + 1) := by
      rw [List.drop_eq_getElem_cons hlt]
      congr 1
      exact (List.getElem?_eq_some_iff.mp hx).2
    rw [hdr] at q
    obtain ⟨g, q⟩ := q
    obtain ⟨go, yl⟩ := (wk (Bx B D) m2 h2 H2 wB S2 M2 g).1 i x hx
    refine ⟨go, _, fun H' w => ⟨l.length - (i + 1), by omega, w⟩, fun v H3 y => ?_⟩
    obtain ⟨S3, M3, r3⟩ := yl v H3 y
    rw [hst' x h2] at q
    refine ⟨Bx B D, m2, h2, x, kill ρ tg.slots, _, S3, (s1.later S1.cl wB (M2.trans M3)).wipe tg.slots, r3, q, fun ρ1 σ1 q sl off => ⟨?_, ?_⟩⟩
    · have e := off.wipe
      rw [e]
      apply List.ext_getElem?
      intro j
      by_cases hj : j ∈ tg.slots
      · by_cases hl : j < σ.length
        · rw [wipe_in hj (by rw [L2.wipe_length]; exact hl), wipe_in hj hl]
        · rw [List.getElem?_eq_none (by rw [L2.wipe_length, L2.wipe_length]; omega), List.getElem?_eq_none (by rw [L2.wipe_length]; omega)]
      · rw [L2.wipe_out hj]
    · -- the tests, then the item
      have item : ∀ (b : Bool) (h3 : Hs) (m4 : List Addr) (H4 : Hp), (if b = true then wpE P C elt ρ1 h3 (fun y h4 => ∃ p, y = inj p ∧ compT gd st (l.drop (i + 1)) h4 fun r h5 => F (acc ++ ([p] ++ r)) h5) (fun _ _ => False)
            else compT gd st (l.drop (i + 1)) h3 fun r h5 => F (acc ++ ([] ++ r)) h5) → Sim A (Bx B D) m4 h3 H4 → Mv m2 h2 H3 m4 h3 H4 →
          if b = true then tE A P C WF elt σ1 H4 (fun y H5 => ∃ acc', H5 D = some (.lst acc') ∧ acc'.length < sizeLine ∧ ∃ m2 h2 acc xs, Sim A (Bx B D) m2 h2 (upd H5 D (.lst (acc' ++ [y]))) ∧ Mv m1 h1 H1 m2 h2 (upd H5 D (.lst (acc' ++ [y]))) ∧ upd H5 D (.lst (acc' ++ [y])) D = some (.lst xs) ∧ RpRs A (Bx B D) m2 h2 (upd H5 D (.lst (acc' ++ [y]))) (acc.map inj) xs ∧ acc.length ≤ i + 1 ∧ i + 1 ≤ l.length ∧ l.length - (i + 1) = l.length - (i + 1) ∧
              compT gd st (l.drop (i + 1)) h2 (fun r h3 => F (acc ++ r) h3)) else
            ∃ m2 h2 acc xs, Sim A (Bx B D) m2 h2 H4 ∧ Mv m1 h1 H1 m2 h2 H4 ∧ H4 D = some (.lst xs) ∧ RpRs A (Bx B D) m2 h2 H4 (acc.map inj) xs ∧ acc.length ≤ i + 1 ∧ i + 1 ≤ l.length ∧ l.length - (i + 1) = l.length - (i + 1) ∧
              compT gd st (l.drop (i + 1)) h2 (fun r h3 => F (acc ++ r) h3) := by
        intro b h3 m4 H4 q S4 M4
        have eD : ∀ {m5 : List Addr} {h5 : Hs} {H5 : Hp}, Mv m2 h2 H2 m5 h5 H5 → H5 D = some (.lst xs) := fun M => (M.keep D _ e2 (fun _ e => nomatch e) (S2.bn D (.inr rfl))).1
        cases b with
        | true =>
          rw [if_pos rfl] at q ⊢
          refine ⟨Bx B D, m4, h3, ρ1, S4, sl.move S3 M4, wpE_mono hC elt (fun y h5 q m5 H5 w S5 M5 r5 => ?_) (fun _ _ z => z.elim) q⟩
          obtain ⟨p, rfl, q⟩ := q
          have M25 := (M3.trans M4).trans M5
          refine ⟨xs, eD M25, by rw [r2.length, List.length_map]; omega, m5, h5, acc ++ [p], xs ++ [w], S5.blocked (.inr rfl) (eD M25), ?_, upd_same, ?_, by simp; omega, hlt, rfl, ?_⟩
          · have M15 := M2.trans M25
            exact ⟨M15.pre, fun b o e t n => ⟨by rw [upd_ne (L2.ne_of_none e hD)]; exact (M15.keep b o e t n).1, (M15.keep b o e t n).2⟩, fun b xs e => let ⟨ys, z⟩ := M15.kl b xs e; ⟨ys, by rw [upd_ne (L2.ne_of_none e hD)]; exact z⟩, fun b C dx fs e => let ⟨gs, z, k⟩ := M15.ki b C dx fs e; ⟨gs, by rw [upd_ne (L2.ne_of_none e hD)]; exact z, k⟩⟩
          · rw [List.map_append]; exact (RpRs.append (RpRs.move S2 M25 r2) (.cons r5 .nil)).blocked (.inr rfl) (eD M25)
          · simpa [List.append_assoc] using q
        | false =>
          rw [if_neg Bool.false_ne_true] at q ⊢
          have M24 := M3.trans M4
          exact ⟨m4, h3, acc, xs, S4, M2.trans M24, eD M24, RpRs.move S2 M24 r2, by omega, hlt, rfl, by simpa using q⟩
      cases ifs with
      | nil =>
        unfold wpTs at q
        exact item true h2 m2 H3 q S3 (Mv.refl _ _ _)
      | cons e r =>
        unfold wpTs at q
        refine ⟨Bx B D, m2, h2, ρ1, S3, sl, wpE_mono hC e (fun y h3 q m4 H4 w S4 M4 r4 => ?_) (fun _ _ z => z.elim) q⟩
        obtain ⟨c, rfl, q⟩ := q
        cases r4
        exact ⟨c, rfl, item c h3 m4 H4 q S4 M4⟩
  · left
    have e : i = l.length := by omega
    subst e
    rw [List.drop_length] at q
    obtain ⟨g, q⟩ := q
    refine ⟨(wk (Bx B D) m2 h2 H2 wB S2 M2 g).2 _ (Nat.le_refl _), ?_⟩
    rw [List.append_nil] at q
    exact fin acc D xs m1 h1 H1 m2 h2 H2 S1 M1 hD S2 M2 e2 r2 q
theorem i_comp {elt : E} {tg : Tg} {it : It} {ifs : EL} : ∀ σ H Q, tE A P C W (.comp elt tg it ifs) σ H Q → L2.tLc (tI A P C W it) (tG A tg) (tTs A P C ifs) (tE A P C WF elt) tg.slots σ H Q := fun σ H Q z => by
  obtain ⟨B, m, h, ρ, S, s, z⟩ := z
  unfold wpE at z
  refine comp_core hC RV.pv _ S s z fun acc D xs m1 h1 H1 m2 h2 H2 S1 M1 hD S2 M2 e2 r2 q => ?_
  refine q m2 H2 _ S2.unblock (M1.trans M2) (.lst e2 (fun z => ?_) (r2.pvs.weak fun _ z => z.imp .inl id))
  rcases z with z | z
  · obtain ⟨o', e', _⟩ := S1.bt D z
    rw [hD] at e'; cases e'
  · exact S2.bn D (.inr rfl) z
end
end G43
set_option Elab.async false
set_option linter.all false
set_option maxRecDepth 100000
set_option maxHeartbeats 4000000
namespace G43
open PySem
open L2 (V HO Hp SqL SqT Rd upd upd_same upd_ne Cx OpR R2 VK CallR IxR SlR TE TA TS TT TI TG TGs PE PA PS PSs PT PI PG PGs XK Sp Room Vals)
open PySem.Spec PyProof.Rows
section
variable {A : Ad} {B : Addr → Prop} {m m' : List Addr} {h h' : Hs} {H H' : Hp}
theorem cut_back (S : Sim A B m h H) (M : Mv m h H m' h' H') (S' : Sim A B m' h' H') : Sim A B m (h'.take h.length) H' ∧ Mv m h H m (h'.take h.length) H' ∧ ∀ a, Lv m (h'.take h.length) a → Lv m' h' a := by
  obtain ⟨t, rfl⟩ := M.pre
  have hl := S.len
  have hl' := S'.len
  rw [List.length_append] at hl'
  have at_ : ∀ {i : Nat} {c : List PV}, (h'.take h.length)[i]? = some (some c) → h'[i]? = some (some c) := fun {i c} e => by
    rw [List.getElem?_take] at e
    split at e
    · exact e
    · cases e
  have am : ∀ {i : Nat} {a : Addr}, m[i]? = some a → (m ++ t)[i]? = some a := fun {i a} e => M.at e
  obtain ⟨S2, lv⟩ := S'.less (m' := m) (h' := h'.take h.length) (by rw [List.length_take]; omega) (fun i c a e1 e2 => ⟨i, at_ e1, am e2⟩) (fun i j c d a e1 e2 e3 e4 => S'.inj i j c d a (at_ e1) (at_ e2) (am e3) (am e4))
  exact ⟨S2, ⟨⟨[], by simp⟩, fun b o e u n => ⟨(M.keep b o e u n).1, fun z => (M.keep b o e u n).2 (lv b z)⟩, M.kl, M.ki⟩, lv⟩
/-- what an object is at a cell -/
theorem isK_ins {k : Nat} {x : RV} {w : V} (S : Sim A B m h H) (r : RpR A B m h H x w) (q : isK h k x) : ∃ a dx n vs, w = .ref a ∧ H a = some (.ins (A.O k).C dx (((A.O k).N.take n).zip vs)) := by
  unfold isK at q
  split at q
  · subst q
    have r : Rp A (Xc B m h) H _ w := r
    cases r with
    | obj e n hl r => exact ⟨_, _, _, _, rfl, by rw [List.take_length]; exact e⟩
  · obtain ⟨rfl, fs, e⟩ := q
    obtain ⟨a, dx, gs, e1, rfl, e2, _⟩ := r
    obtain ⟨k2, fs2, e3, dx2, vs, e4, _⟩ := S.cellO e e1 e2
    cases e3
    exact ⟨a, dx2, _, vs, rfl, e4⟩
  · exact q.elim
theorem lookup_zip_none {f : Str} : ∀ {N : List Str} {vs : List V}, f ∉ N → (N.zip vs).lookup f = none
  | [], _, _ => by simp
  | _ :: _, [], _ => by simp
  | g :: N, v :: vs, n => by
    have ne : (f == g) = false := by
      simp only [beq_eq_false_iff_ne]
      exact fun e => n (by rw [e]; exact .head _)
    rw [List.zip_cons_cons, List.lookup_cons, ne]
    exact lookup_zip_none fun z => n (.tail _ z)
theorem lookup_take_none {f : Str} {N : List Str} {n : Nat} {vs : List V} (h : f ∉ N) : ((N.take n).zip vs).lookup f = none := lookup_zip_none fun z => h (List.mem_of_mem_take z)
theorem lookup_zip_at {f : Str} {v : V} : ∀ {N : List Str} {vs : List V} {t : Nat}, N.Nodup → N[t]? = some f → vs[t]? = some v → (N.zip vs).lookup f = some v
  | [], _, _, _, e, _ => by simp at e
  | _ :: _, [], _, _, _, e => by simp at e
  | g :: N, u :: vs, 0, _, e1, e2 => by
    simp at e1 e2
    subst e1; subst e2
    simp
  | g :: N, u :: vs, t + 1, nd, e1, e2 => by
    simp at e1 e2
    obtain ⟨n1, n2⟩ := List.nodup_cons.mp nd
    have ne : (f == g) = false := by
      simp only [beq_eq_false_iff_ne]
      exact fun e => n1 (by rw [← e]; exact List.mem_of_getElem? e1)
    rw [List.zip_cons_cons, List.lookup_cons, ne]
    exact lookup_zip_at n2 e1 e2
theorem Nodup_take {N : List Str} (nd : N.Nodup) (n : Nat) : (N.take n).Nodup := nd.sublist (List.take_sublist n N)
end
section
variable {A : Ad} {P : Pg} {C : CallT} {N : List Str} {sc ss : Scope} {l : Bool} {kk : Nat} {W : XK} {X : Cx} (hC : MonoC C C)
include hC
/-- e.f -/
theorem s_fld (cx : Ctx A P C N sc ss l kk W X) {k t : Nat} {c : Cl} {a : E} {a' : Expr} {f : Str} {pos : Pos} (hk : P.cls[k]? = some c) (hf : c.N[t]? = some f) (hp : plainB a' = true) (ha : PE X a' (tE A P C W a)) : PE X (.Attribute a' f pos) (tE A P C W (.fld a k t)) := by
  have ca := cx.cls k c hk
  refine PE_imp (L2.pe_fld ha (plainB_ok hp f X.env)) fun σ H Q z => ?_
  obtain ⟨B, m, h, ρ, S, s, z⟩ := z
  unfold wpE at z
  refine tE_of hC S s z fun v h1 m1 H1 w q S1 M1 r1 => ?_
  obtain ⟨p, e, q⟩ := q
  have na := ca.na f (List.mem_of_getElem? hf)
  have hN : (A.O k).N[t]? = some f := by rw [ca.nn]; exact hf
  have nd : (A.O k).N.Nodup := by rw [ca.nn]; exact ca.nd
  unfold fldV at e
  split at e
  · split at e
    · rename_i ek
      subst ek
      have r1 : Rp A (Xc B m1 h1) H1 _ w := r1
      cases r1 with
      | @obj ad dx k l vs e1 n hl r =>
        obtain ⟨u, g1, g2⟩ := r.get e
        exact ⟨ad, _, dx, _, u, rfl, e1, ca.cl, na, lookup_zip_at nd hN g1, q m1 H1 u S1 M1 g2⟩
    · cases e
  · split at e
    · rename_i ek
      subst ek
      split at e
      · rename_i k2 fs e0
        split at e
        · rename_i ek2
          subst ek2
          cases hfs : fs[t]? with
          | none => rw [hfs] at e; cases e
          | some p2 =>
            rw [hfs] at e
            have e : (if isMk p2 = true then none else some p2) = some p := e
            split at e
            · cases e
            · rename_i nm
              cases e
              obtain ⟨ad, dx, gs, e1, rfl, e2, _⟩ := r1
              obtain ⟨k3, fs3, e3, dx3, vs, e4, hl, rl, rf⟩ := S1.cellO e0 e1 e2
              cases e3
              have ht : t < fs.length := (List.getElem?_eq_some_iff.mp hfs).1
              have hv : vs[t]? = some vs[t] := List.getElem?_eq_getElem (by omega)
              have rp : Rp A (Xc B m1 h1) H1 p vs[t] := (rf t p _ hfs hv).elim (fun z => absurd z nm) id
              refine ⟨ad, _, dx3, _, vs[t], rfl, e4, ca.cl, na, lookup_zip_at (Nodup_take nd _) ?_ hv, q m1 H1 _ S1 M1 rp⟩
              rw [List.getElem?_take_of_lt ht]
              exact hN
        · cases e
      · cases e
    · cases e
  · cases e
/-- e.f, the list -/
theorem s_lfd (cx : Ctx A P C N sc ss l kk W X) {k : Nat} {c : Cl} {a : E} {a' : Expr} {f : Str} {pos : Pos} (hk : P.cls[k]? = some c) (hf : c.lf = f) (hm : f ∈ c.N) (hp : plainB a' = true) (ha : PE X a' (tE A P C W a)) : PE X (.Attribute a' f pos) (tE A P C W (.lfd a k)) := by
  have ca := cx.cls k c hk
  refine PE_imp (L2.pe_fld ha (plainB_ok hp f X.env)) fun σ H Q z => ?_
  obtain ⟨B, m, h, ρ, S, s, z⟩ := z
  unfold wpE at z
  refine tE_of hC S s z fun v h1 m1 H1 w q S1 M1 r1 => ?_
  obtain ⟨i, j, rfl, q⟩ := q
  obtain ⟨ad, dx, gs, e1, rfl, e2, e3⟩ := r1
  obtain ⟨b, xs, z1, z2, z3, z4⟩ := e3 j rfl
  rw [ca.lf, hf] at z2
  exact ⟨ad, _, dx, gs, _, rfl, e2, ca.cl, ca.na f hm, z2, q m1 H1 _ S1 M1 ⟨b, z3, rfl, xs, z4⟩⟩
omit hC in
theorem guards_make (Ar : Around) (as : Args) : (Ar.under (.builtin "type.__call__" as)).guards = Ar.guards := by
  have e : Code.guards (.builtin "type.__call__" as) = [] := by rfl
  show pushGuards (Code.guards (.builtin "type.__call__" as)) Ar.guards = _
  rw [e, pushGuards_eq]
  cases Ar.guards <;> simp
omit hC in
theorem dfs_len : ∀ {ps : List PV} {vs : List V}, ps.mapM dfV = some vs → vs.length = ps.length
  | [], vs, e => by
    simp at e
    subst e
    rfl
  | p :: ps, vs, e => by
    rw [List.mapM_cons] at e
    cases e1 : dfV p with
    | none => rw [e1] at e; cases e
    | some v =>
      cases e2 : ps.mapM dfV with
      | none => rw [e1, e2] at e; cases e
      | some ws =>
        rw [e1, e2] at e
        cases e
        simp [dfs_len e2]
omit hC in
theorem runMk {k : Nat} {f Cc : Addr} {fd : FuncData} {ps : List Str} {sp : Sp} {pins : List (Addr × Obj)} {σ : L2.St} {H : Hp} {s : Shared} {Q : VK} {us us2 : List Value} {vs2 : List V} {kws : List (Str × Value)}
    (M : L2.Mk X.K Cc f) (F : FnG X.prog X.w X.K X.mg X.base k f fd ps sp) (hg : X.A.guards = some []) (hr : Room (k + 1) X.A) (tk : L2.Takes X fun c d _ H => W c d H) (I : L2.Inv X pins σ H s)
    (hb : ∀ (s' : Shared) (x : Value), X.K.In s'.heap → BindsTo s' fd ⟨x :: us, kws⟩ (ps.zip (x :: us2))) (r : Vals vs2 us2)
    (h : ∀ x dx, H x = none → H dx = none → dx ≠ x → sp (.ref x :: vs2) (upd (upd H dx (.own x)) x (.ins Cc dx [])) (fun v H2 => v = .non ∧ Q (.ref x) H2) W) :
    wpAny (model X.prog X.w) X.A (call (.ref Cc) us kws) (L2.EP X pins σ Q) X.xe s := by
  have free : ∀ j, H (s.heap.objs.size + j) = none := fun j => I.hok.fresh (Nat.le_add_right _ j)
  have hq := h _ _ (free 1) (free 0) (by simp)
  have I2 := L2.Inv.made (C := Cc) I
  have r2 : Vals (V.ref (s.heap.objs.size + 1) :: vs2) (Value.ref (s.heap.objs.size + 1) :: us2) := .cons rfl r
  refine wpAny_call (L2.make_map (f := f) I.kIn M.makes M.init (beq_iff_eq.mp M.fn) (codeAny_mono (F.run _ X.stack _ _ ⟨Value.ref (s.heap.objs.size + 1) :: us, kws⟩ (Value.ref (s.heap.objs.size + 1) :: us2) _ _ W (by rw [guards_make]; exact hg) (hr.make Cc us kws)
    (I2.env0.make Cc us kws) (hb _ (Value.ref (s.heap.objs.size + 1)) I2.kIn) r2 hq) fun r s' hq' => ?_))
  cases r with
  | error e => exact L2.passAt tk σ pins _ _ e s' I2 hq'
  | ok fl =>
    cases fl with
    | ret u =>
      obtain ⟨_, H2, J, rw, rfl, fin⟩ := I2.after hq'
      exact ⟨rw, .ref (s.heap.objs.size + 1), H2, J, rfl, fin⟩
    | next | brk | cont => exact (show False from hq').elim
/-- the new object, handed to __init__ -/
theorem mk_in {B : Addr → Prop} {m m1 : List Addr} {h h1 : Hs} {H H1 : Hp} {k f : Nat} {args : List RV} {ws : List V} {Q : VK} {R : QV} (S1 : Sim A B m1 h1 H1) (M1 : Mv m h H m1 h1 H1) (r1 : RpRs A B m1 h1 H1 args ws)
    (q : C f (.ob k h1.length none :: args) (h1 ++ [some [.obj k []]]) R (fun x h2 => Kx A B m h H W x (h2.take h1.length)))
    (hR : ∀ (x : Addr) (v : RV) (h2 : Hs), H1 x = none → R v h2 → ∀ m' H', Sim A B m' h2 H' → Mv m1 h1 H1 m' h2 H' → m'[h1.length]? = some x → (∃ dx gs, H' x = some (.ins (A.O k).C dx gs)) → (∃ j, v = .ob k h1.length j) ∧ (RpR A B m' h2 H' v (.ref x) → Q (.ref x) H')) :
    ∀ x dx, H1 x = none → H1 dx = none → dx ≠ x → spI A C f (.ref x :: ws) (upd (upd H1 dx (.own x)) x (.ins (A.O k).C dx [])) (fun v H2 => v = .non ∧ Q (.ref x) H2) W := by
  intro x dx e1 e2 ne
  obtain ⟨M2, S2⟩ := S1.obj_new k e1 e2 ne
  have hx : (m1 ++ [x])[h1.length]? = some x := by rw [← S1.len]; simp
  refine ⟨fun w H2 => Q (.ref x) H2, ⟨B, _, _, .ob k h1.length none :: args, S2, .cons ⟨x, dx, [], hx, rfl, upd_same, fun l hl => nomatch hl⟩ (r1.move S1 M2), hC _ _ _ _ _ _ _ (fun v h2 q m' H' w S' M' r' => ?_) (fun y h2 q m' H' cls d S' M' r' => ?_) q⟩, fun w H' q => ⟨rfl, q⟩⟩
  · have M3 := M2.trans M'
    obtain ⟨gs, eg, _⟩ := M'.ki x _ dx [] upd_same
    obtain ⟨⟨j, rfl⟩, g⟩ := hR x v h2 e1 q m' H' S' M3 (M'.at hx) ⟨dx, gs, eg⟩
    obtain ⟨a, dx', gs', e3, rfl, _⟩ := id r'
    rw [M'.at hx] at e3
    cases e3
    exact g r'
  · obtain ⟨S3, M3, _⟩ := cut_back S1 (M2.trans M') S'
    exact q m1 H' cls d S3 (M1.trans M3) r'
/-- a mutable one -/
theorem mko_in {B : Addr → Prop} {m m1 : List Addr} {h h1 : Hs} {H H1 : Hp} {k : Nat} {Q : VK} (S1 : Sim A B m1 h1 H1) (M1 : Mv m h H m1 h1 H1) :
    ∀ (x : Addr) (v : RV) (h2 : Hs), H1 x = none → (∃ j, v = .ob k h1.length j) ∧ Kv A B m h H Q v h2 → ∀ m' H', Sim A B m' h2 H' → Mv m1 h1 H1 m' h2 H' → m'[h1.length]? = some x → (∃ dx gs, H' x = some (.ins (A.O k).C dx gs)) → (∃ j, v = .ob k h1.length j) ∧ (RpR A B m' h2 H' v (.ref x) → Q (.ref x) H') :=
  fun x v h2 ex q m' H' S' M' hx ei => ⟨q.1, fun r => q.2 m' H' _ S' (M1.trans M') r⟩
/-- C(e, ..) -/
theorem s_make (cx : Ctx A P C N sc ss l kk W X) {k f : Nat} {c : Cl} {df : Df} {es : EL} {dv : List PV} {a : Expr} {args : List Expr} {p pos : Pos} {e0 : E} {R : Nat → QV → QV} (hk : P.cls[k]? = some c) (hf : P.defs[f]? = some df) (hw : df.own = some c.name) (hi : df.ini = true)
    (hn : df.dfl.drop (df.dfl.length - dv.length) = dv) (hnp : es.len + 1 + dv.length = df.npar) (hg : gloB sc c.name = true) (ho : odd c.name = false) (hs : (a :: args).all noStar = true) (ha : PA X (a :: args) (tL A P C W es)) (he : es.len = (a :: args).length)
    (hE : ∀ ρ h Q Y, wpE P C e0 ρ h Q Y = wpL P C es ρ h (fun vs h1 => C f (.ob k h1.length none :: (vs ++ dv.map .pv)) (h1 ++ [some [.obj k []]]) (R h1.length Q) (fun x h2 => Y x (h2.take h1.length))) Y)
    (hR : ∀ {B : Addr → Prop} {m m1 : List Addr} {h h1 : Hs} {H H1 : Hp} {Q : VK}, Sim A B m1 h1 H1 → Mv m h H m1 h1 H1 → ∀ (x : Addr) (v : RV) (h2 : Hs), H1 x = none → R h1.length (Kv A B m h H Q) v h2 → ∀ m' H', Sim A B m' h2 H' → Mv m1 h1 H1 m' h2 H' → m'[h1.length]? = some x →
      (∃ dx gs, H' x = some (.ins (A.O k).C dx gs)) → (∃ j, v = .ob k h1.length j) ∧ (RpR A B m' h2 H' v (.ref x) → Q (.ref x) H')) :
    PE X (.Call (.Name c.name p) (a :: args) [] pos) (tE A P C W e0) := by
  obtain ⟨o1, o2, o3⟩ := odd_ok ho
  have ca := cx.cls k c hk
  have mt := cx.met k c f df hk hf hw
  have M := mt.mkr hi
  obtain ⟨nm, kp, fd, ps, F, hp, hd, _⟩ := cx.cal f df hf
  obtain ⟨dvs, ds, d1, d2, d3⟩ := hd (df.dfl.length - dv.length) (Nat.sub_le _ _)
  rw [hn] at d1
  rw [spD_yes hi] at F
  refine ⟨fun pins s σ H Q I z => wpAny_Call_Name_kw (L2.ld_glob I (show X.env.scope.names.lookup _ = _ by rw [cx.eS]; exact gloB_ok hg) ca.mg_ ?_ o1)⟩
  obtain ⟨B, m, h, ρ, S, sl, z⟩ := z
  rw [hE] at z
  have z2 : tL A P C W es σ H fun vs H1 => vs.length = es.len ∧ ∀ x dx, H1 x = none → H1 dx = none → dx ≠ x → spI A C f (.ref x :: (vs ++ dvs)) (upd (upd H1 dx (.own x)) x (.ins (A.O k).C dx [])) (fun v H2 => v = .non ∧ Q (.ref x) H2) W :=
    tL_of hC S sl (wpL_len hC hC es z) fun vs h1 m1 H1 ws q S1 M1 r1 => ⟨by rw [r1.length]; exact q.1, mk_in hC S1 M1 (r1.append (dfs_rep d1)) q.2 (hR S1 M1)⟩
  rw [List.all_cons, Bool.and_eq_true] at hs
  refine PySem.W.callWith_K (h₀ := X.base) I.ok.mod.kin M.kp (L2.thn (ha.run pos pins s σ H _ I z2) fun us s1 ⟨vs, H1, I1, r, q⟩ => ⟨I1.kIn, ?_⟩) (starEach_no hs.1 _ _) (back_no _ _ hs.2)
  have lds : ds.length = dv.length := by
    rw [← d2.length]
    exact dfs_len d1
  refine runMk (us2 := us ++ ds) M F cx.gd cx.rm cx.tk I1 (fun s' x hin => ?_) (r.append d2) q.2
  have := d3 s' (x :: us) hin (by
    rw [List.length_append, List.length_cons, ← r.length, q.1, lds, hp]
    omega)
  simpa using this
omit hC in
theorem flags_no (pos : Pos) (env : PySem.Env) : ∀ {es : List Expr}, es.all noStar = true → (backTo pos (starEach es env)).all (fun x => !x.1) = true
  | [], _ => rfl
  | e :: es, h => by
    rw [List.all_cons, Bool.and_eq_true] at h
    rw [starEach_no h.1]
    have := flags_no pos env h.2
    simpa [backTo] using this
omit hC in
theorem mcall_plain {o : Expr} {m : Str} {apos pos : Pos} {env : PySem.Env} {args : List Expr} (hl : (apos.endLine == pos.line) = true) (hs : args.all noStar = true) (hn : args.length < 30) (ov : Value) :
    methodCall o m apos pos env ov (args.length + ([] : List Keyword).length) (backTo pos (starEach args env)) (backToKw pos (keywordEach [] env)) = (do
      let (f, first) ← holding [ov] (getMethod ov m (do return (← importBound o env).getD true))
      callWith pos f first (backTo pos (starEach args env)) (backToKw pos (keywordEach [] env))) := by
  have hf : methodCallForm (args.length + ([] : List Keyword).length) (backTo pos (starEach args env)) (backToKw pos (keywordEach [] env)) = true := by
    unfold methodCallForm
    rw [flags_no pos env hs]
    have e : backToKw pos (keywordEach [] env) = [] := rfl
    rw [e]
    simpa using hn
  unfold methodCall
  rw [hf]
  unfold methodCallPos calleeOf
  simp [hl]
/-- e.m(..) -/
theorem s_mth (cx : Ctx A P C N sc ss l kk W X) {k f : Nat} {c : Cl} {df : Df} {a : E} {a' : Expr} {es : EL} {dv : List PV} {args : List Expr} {ap pos : Pos} (hk : P.cls[k]? = some c) (hf : P.defs[f]? = some df) (hw : df.own = some c.name) (hi : df.ini = false)
    (hn : df.dfl.drop (df.dfl.length - dv.length) = dv) (hp : plainB a' = true) (hl : (ap.endLine == pos.line) = true) (hlen : args.length < 30) (hs : args.all noStar = true) (hes : args = [] → es = .nil) (ha' : PE X a' (tE A P C W a)) (ha : PA X args (tL A P C W es)) :
    PE X (.Call (.Attribute a' df.name ap) args [] pos) (tE A P C W (.mth k f a es dv)) := by
  have ca := cx.cls k c hk
  have mt := cx.met k c f df hk hf hw
  have hr := cx.rm.mono (Nat.le_succ kk)
  obtain ⟨nm, kp, fd, ps, F, hpp, hd, _⟩ := cx.cal f df hf
  obtain ⟨dvs, ds, d1, d2, d3⟩ := hd (df.dfl.length - dv.length) (Nat.sub_le _ _)
  rw [hn] at d1
  rw [spD_no hi] at F
  refine ⟨fun pins s σ H Q I z => ?_⟩
  obtain ⟨B, m, h, ρ, S, sl, z⟩ := z
  unfold wpE at z
  have z2 : tE A P C W a σ H fun w H1 => ∃ ad dx gs, w = .ref ad ∧ H1 ad = some (.ins (A.O k).C dx gs) ∧ gs.lookup df.name = none ∧ tL A P C W es σ H1 (fun vs H2 => spC A C f (.ref ad :: (vs ++ dvs)) H2 Q W) ∧ (es = .nil → spC A C f (.ref ad :: ([] ++ dvs)) H1 Q W) := by
    refine tE_of hC S sl z fun v h1 m1 H1 w q S1 M1 r1 => ?_
    obtain ⟨ad, dx, n, vs, rfl, e1⟩ := isK_ins S1 r1 q.1
    refine ⟨ad, dx, _, rfl, e1, lookup_take_none (by rw [ca.nn]; exact mt.nf), ?_, fun en => ?_⟩
    · refine tL_of hC S1 (sl.move S M1) (wpL_next hC M1 q.2) fun vs h2 m2 H2 ws q2 S2 M2 r2 => ?_
      exact ⟨B, m2, h2, _, S2, .cons (r1.move S1 M2) (r2.append (dfs_rep d1)), hC _ _ _ _ _ _ _ (Kv.move (M1.trans M2)) (Kx.move (M1.trans M2)) q2⟩
    · have q2 := q.2
      subst en
      unfold wpL at q2
      exact ⟨B, m1, h1, _, S1, .cons r1 (RpRs.append .nil (dfs_rep d1)), hC _ _ _ _ _ _ _ (Kv.move M1) (Kx.move M1) q2⟩
  have ht : ∃ pl : Sem Bool, eval (.Call (.Attribute a' df.name ap) args [] pos) X.env = (do
      let ov ← eval a' X.env
      standAt ap.atName
      let (f, first) ← holding [ov] (getMethod ov df.name pl)
      callWith pos f first (backTo pos (starEach args X.env)) (backToKw pos (keywordEach [] X.env))) := by
    exact ⟨_, L2.mcall_of (plainB_ok hp _ _) fun ov => mcall_plain hl hs hlen ov⟩
  obtain ⟨pl, ht⟩ := ht
  refine PySem.W.methodCall_KW (pl := pl) (L2.thn (ha'.run pins s σ H _ I z2) fun u s1 ⟨x, H1, I1, rx, ad, dx, gs, ex, ea, lo, q, q0⟩ => ?_) ht
  subst ex
  obtain rfl : u = Value.ref ad := rx
  refine L2.getmeth_ok I1 ea ca.cl mt.me lo ?_
  cases args with
  | nil => exact PySem.W.callWith_K0 (first := [.ref ad]) I1.kIn mt.me.kp (runG (us := [.ref ad]) (vs := [.ref ad]) F cx.gd hr d3 d2 cx.tk I1 (.cons rfl .nil) (q0 (hes rfl)))
  | cons e args =>
    rw [List.all_cons, Bool.and_eq_true] at hs
    refine PySem.W.callWith_K (first := [.ref ad]) (h₀ := X.base) I.ok.mod.kin mt.me.kp (L2.thn (ha.run pos pins s1 σ H1 _ I1 q) fun us s2 ⟨vs, H2, I2, r, q2⟩ => ⟨I2.kIn, ?_⟩) (starEach_no hs.1 _ _) (back_no _ _ hs.2)
    exact runG (us := .ref ad :: us) (vs := .ref ad :: vs) F cx.gd hr d3 d2 cx.tk I2 (.cons rfl r) q2
/-- e == e2, by the class's own method -/
def rOeq (A : Ad) (C : CallT) (W : XK) (k f : Nat) : R2 := fun x y H Q => ∃ a b dx dy gs gs2, x = .ref a ∧ y = .ref b ∧ H a = some (.ins (A.O k).C dx gs) ∧ H b = some (.ins (A.O k).C dy gs2) ∧ spC A C f [x, y] H (fun v H' => ∃ c, v = .bl c ∧ Q v H') W
end
end G43
set_option Elab.async false
set_option linter.all false
set_option maxRecDepth 100000
set_option maxHeartbeats 4100000
namespace G43
open PySem
open L2 (V HO Hp SqL SqT Rd upd upd_same upd_ne Cx OpR R2 VK CallR IxR SlR TE TA TS TT PE PA PS PSs PT XK Sp Room Vals)
open PySem.Spec PyProof.Rows
variable {A : Ad} {P : Pg} {C : CallT} {N : List Str} {sc ss : Scope} {l : Bool} {kk : Nat} {W : XK} {X : Cx}
/-- a method called by a builtin -/
theorem runGi {k : Nat} {f : Addr} {fd : FuncData} {ps : List Str} {sp : Sp} {W : XK} {pins : List (Addr × Obj)} {σ : L2.St} {H : Hp} {s : Shared} {Q : VK} {us : List Value} {vs : List V}
    (F : FnG X.prog X.w X.K X.mg X.base k f fd ps sp) (hg : X.A.guards = some []) (hr : Room (k + 1) X.A) (hb : L2.Binds X.K fd ps []) (tk : L2.Takes X fun c d _ H => W c d H)
    (I : L2.Inv X pins σ H s) (r : Vals vs us) (h : sp vs H Q W) : wpAny (model X.prog X.w) X.A.in1 (call (.ref f) us) (L2.EP X pins σ Q) X.xe s := by
  have len : (us ++ []).length = ps.length := by
    rw [List.append_nil, ← r.length]
    exact F.len _ _ _ _ h
  have b := hb s us I.kIn len
  rw [List.append_nil] at b
  apply wpAny_call
  apply codeAny_mono (F.run X.A.in1 X.stack s H ⟨us, []⟩ us vs Q W hg hr.in1 I.env0.in1 b r h)
  rintro (e | fl) s2 out
  · exact L2.passAt tk σ pins H s e s2 I out
  · match fl, out with
    | .ret _, out => exact I.after out
/-- such a method, found -/
theorem own_at (cx : Ctx A P C N sc ss l kk W X) {k f : Nat} {c : Cl} {df : Df} (hk : P.cls[k]? = some c) (hf : P.defs[f]? = some df) (hw : df.own = some c.name) (hi : df.ini = false) {pins : List (Addr × Obj)} {σ : L2.St} {H : Hp} {s : Shared} (I : L2.Inv X pins σ H s) {a dx : Addr} {gs : List (Str × V)}
    (ha : H a = some (.ins (A.O k).C dx gs)) {Q : VK} (z : spC A C f [.ref a] H Q W) : (∃ ox od, PySem.W.InstAt s.heap a ox (A.O k).C od) ∧ PySem.W.findIn X.K (.ref (A.O k).C) df.name = some (some (.ref (A.F f))) ∧ PySem.W.isFn X.K (.ref (A.F f)) = true ∧
      wpAny (model X.prog X.w) X.A.in1 (call (.ref (A.F f)) [.ref a]) (L2.EP X pins σ Q) X.xe s := by
  have mt := cx.met k c f df hk hf hw
  obtain ⟨nm, kp, fd, ps, F, hpp, hd, _⟩ := cx.cal f df hf
  obtain ⟨dvs, ds, d1, d2, d3⟩ := hd df.dfl.length (Nat.le_refl _)
  rw [List.drop_length] at d1
  cases d1
  cases d2
  rw [spD_no hi] at F
  obtain ⟨mA, J, _⟩ := L2.ins_get I.hok ha
  obtain ⟨od, J, _⟩ := J.look
  exact ⟨⟨_, _, J⟩, mt.me.at_, mt.me.fn, runGi (us := [.ref a]) (vs := [.ref a]) F cx.gd cx.rm d3 cx.tk I (.cons rfl .nil) z⟩
def rLno (A : Ad) (C : CallT) (W : XK) (k f : Nat) : List V → Hp → VK → Prop := fun xs H Q => ∃ a dx gs, xs = [.ref a] ∧ H a = some (.ins (A.O k).C dx gs) ∧ spC A C f [.ref a] H (fun v H2 => ∃ n : Int, v = .int n ∧ (0 ≤ n ∧ n < 2 ^ 63) ∧ Q v H2) W
def rRpo (A : Ad) (C : CallT) (W : XK) (k f : Nat) : List V → Hp → VK → Prop := fun xs H Q => ∃ a dx gs, xs = [.ref a] ∧ H a = some (.ins (A.O k).C dx gs) ∧ spC A C f [.ref a] H (fun v H2 => ∃ y : Str, v = .str y ∧ Q v H2) W
theorem call_lno (cx : Ctx A P C N sc ss l kk W X) {k f : Nat} {c : Cl} {df : Df} (hk : P.cls[k]? = some c) (hf : P.defs[f]? = some df) (hw : df.own = some c.name) (hi : df.ini = false) (hn : df.name = "__len__") : CallR X (.builtin "len") (rLno A C W k f) := by
  rintro pins s σ H xs us Q I r ⟨a, dx, gs, rfl, ha, z⟩
  match us, r with
  | [_], .cons rfl .nil =>
    obtain ⟨⟨ox, od, J⟩, at_, fn, run⟩ := own_at cx hk hf hw hi I ha z
    rw [hn] at at_
    obtain ⟨mm, hF⟩ := I.fr
    refine PySem.W.len_K hF I.ok.mod.kin J at_ fn (wpAny_mono run ?_ fun _ _ e => e)
    rintro u s2 ⟨v, H2, I2, rv, n, rfl, lim, q⟩
    obtain ⟨t, rfl⟩ := rv
    exact ⟨lim, .int n, H2, I2.tok _, ⟨_, rfl⟩, q⟩
variable (hC : MonoC C C)
include hC
theorem s_lno (cx : Ctx A P C N sc ss l kk W X) {k f : Nat} {c : Cl} {df : Df} {e : E} {a : Expr} {p pos : Pos} (hk : P.cls[k]? = some c) (hf : P.defs[f]? = some df) (hw : df.own = some c.name) (hi : df.ini = false) (hn : df.name = "__len__") (hb : ("len" : Str) ∈ P.blt) (hg : gloB sc "len" = true) (hs : noStar a = true)
    (ha : PE X a (tE A P C W e)) : PE X (.Call (.Name "len" p) [a] [] pos) (tE A P C W (.lno k f e)) := by
  have g : X.env.scope.names.lookup ("len" : Str) = some .globalImplicit := by rw [cx.eS]; exact gloB_ok hg
  refine PE_imp (L2.pe_callB (call_lno cx hk hf hw hi hn) g (cx.blt _ hb) (by decide +kernel) (L2.pa_cons ha L2.pa_nil (starEach_no hs _ _)) (by decide +kernel) (by decide +kernel) (starEach_no hs _ _)) fun σ H Q z => ?_
  obtain ⟨B, m, h, ρ, S, sl, z⟩ := z
  unfold wpE at z
  refine tE_of hC S sl z fun v h1 m1 H1 w q S1 M1 r1 => ?_
  obtain ⟨ad, dx, n, vs, rfl, e1⟩ := isK_ins S1 r1 q.1
  refine ⟨ad, dx, _, rfl, e1, B, m1, h1, [v], S1, .cons r1 .nil, hC _ _ _ _ _ _ _ (fun v2 h2 q2 => ?_) (Kx.move M1) q.2⟩
  obtain ⟨i, rfl, lim, q2⟩ := q2
  intro m2 H2 w2 S2 M2 r2
  cases (show Rp A (Xc B m2 h2) H2 (.int i) w2 from r2)
  exact ⟨i, rfl, lim, q2 m2 H2 _ S2 (M1.trans M2) (.int i)⟩
/-- f'p{e}q' -/
theorem s_fm1 {p q : Str} {e : E} {a : Expr} {k1 k2 : Nat} {p1 p2 p3 pos : Pos} (hz : p.length ≤ 1000) (ha : PE X a (tE A P C W e)) :
    PE X (.JoinedStr [.Constant (.str p) k1 p1, .FormattedValue a (-1) none p2, .Constant (.str q) k2 p3] pos) (tE A P C W (.fm1 p e q)) := by
  refine PE_imp (L2.pe_joined (.cons (L2.pe_str (x := p)) (.cons (L2.pe_fmt ha) (.cons (L2.pe_str (x := q)) .nil)))) fun σ H Q z => ?_
  obtain ⟨B, m, h, ρ, S, sl, z⟩ := z
  unfold wpE at z
  refine ⟨p, rfl, by rw [Str.empty_append]; exact Nat.le_trans hz (by decide), ?_⟩
  refine tE_of hC S sl z fun v h1 m1 H1 w k S1 M1 r1 => ?_
  obtain ⟨y, pr, l1, l2, k⟩ := k
  have fin : ∃ y2 : Str, V.str y = .str y2 ∧ ((Str.empty ++ p) ++ y2).length ≤ sizeLine ∧ L2.tJs [L2.tC (.str q)] ((Str.empty ++ p) ++ y2) σ H1 fun out H1 => Q (.str out) H1 := by
    refine ⟨y, rfl, by rw [Str.empty_append]; exact l1, q, rfl, by rw [Str.empty_append]; exact l2, ?_⟩
    rw [Str.empty_append]
    exact k m1 H1 _ S1 M1 (.str _)
  rcases pr with ⟨rfl, ly⟩ | ⟨i, rfl, li, ey⟩
  · cases (show Rp A (Xc B m1 h1) H1 (.str y) w from r1)
    exact .inl ⟨y, rfl, ly, fin⟩
  · cases (show Rp A (Xc B m1 h1) H1 (.int i) w from r1)
    injection ey with ey
    exact .inr ⟨i, rfl, li, by rw [← ey]; exact fin⟩
/-! ### keywords -/
omit hC in
theorem PK_imp {kws : List Keyword} {t u : TA} (h : L2.PK X kws t) (i : ∀ σ H Q, u σ H Q → t σ H Q) : L2.PK X kws u := ⟨fun pos pins s σ H Q I z => h.run pos pins s σ H Q I (i _ _ _ z)⟩
theorem s_knil : L2.PK X [] (tL A P C W .nil) := PK_imp L2.pk_nil fun σ H Q z => by
  obtain ⟨B, m, h, ρ, S, s, z⟩ := z
  unfold wpL at z
  exact z m H [] S (Mv.refl _ _ _) .nil
theorem s_kcons {e : E} {es : EL} {nm : Option Str} {e' : Expr} {kp : Pos} {kws : List Keyword} (h1 : PE X e' (tE A P C W e)) (h2 : L2.PK X kws (tL A P C W es)) : L2.PK X (⟨nm, e', kp⟩ :: kws) (tL A P C W (.cons e es)) := by
  refine PK_imp (L2.pk_cons h1 h2) fun σ H Q z => ?_
  obtain ⟨B, m, h, ρ, S, s, z⟩ := z
  unfold wpL at z
  refine tE_of hC S s z fun v h1 m1 H1 w q S1 M1 r1 => ?_
  refine tL_of hC S1 (s.move S M1) (wpL_next hC M1 q) fun vs h2 m2 H2 ws q2 S2 M2 r2 => ?_
  exact q2 m2 H2 _ S2 (M1.trans M2) (.cons (r1.move S1 M2) r2)
def pickVV (vs : List V) : List (Option Nat) → Option (List V)
  | [] => some []
  | some j :: r => match vs[j]? with
    | some u => (pickVV vs r).map (u :: ·)
    | none => none
  | none :: r => (pickVV vs r).map (.non :: ·)
def rOex (A : Ad) (C : CallT) (W : XK) (K : PySem.W.Frag) (k f : Nat) : R2 := fun x y H Q => ∃ a dx gs t, x = .ref a ∧ H a = some (.ins (A.O k).C dx gs) ∧ L2.TyX K H y t ∧ PySem.W.notFirst K (A.O k).C t = true ∧ spC A C f [.ref a, y] H (fun v H2 => ∃ c, v = .bl c ∧ Q v H2) W
end G43
set_option Elab.async false
set_option linter.all false
set_option maxRecDepth 100000
set_option maxHeartbeats 4000000
namespace G43
open PySem
open PySem.SeqAt MeetsSeq MeetsSeq2 MeetsSeq3 SeqRoads2
/-! `x in [objects]`, by the objects' own method: each turn may make new things. -/
section
variable {prog : Program} {w : World} {A : Around} {R : Result → Shared → Prop} {l : Addr} {x : Value}
def anL (us : Array Value) (n : Nat) : Obj := { cls := .type "list", data := .seq us n }
/-- k items are left of the list at l, from the i-th on -/
def Seek (prog : Program) (w : World) (A : Around) (R : Result → Shared → Prop) (l : Addr) (x : Value) : Nat → Nat → Shared → Prop
  | 0, i, s => (∃ us n, s.heap.get? l = some (anL us n) ∧ us[i]? = none) ∧ R (.ok (.ret (.bool false))) s
  | k + 1, i, s => ∃ us n y, s.heap.get? l = some (anL us n) ∧ us[i]? = some y ∧
      wpAny (model prog w) A.in1 (eqBool y x) (fun b s2 => if b = true then R (.ok (.ret (.bool true))) s2 else Seek prog w A R l x k (i + 1) s2) (fun e s2 => R (.error e) s2) s
end
section
open L2 (V HO Hp SqL SqT Rd upd upd_same upd_ne Cx OpR R2 VK CallR IxR SlR TE TA TS TT TI TG TGs PE PA PS PSs PT PI PG PGs XK Sp Room Vals)
open PySem.Spec PyProof.Rows
variable {A : Ad} {P : Pg} {C : CallT} {N : List Str} {sc ss : Scope} {l : Bool} {kk : Nat} {W : XK} {X : Cx}
/-- what is told of the items from one on: pl the list's place, all its items -/
def inR (A : Ad) (C : CallT) (W : XK) (k f : Nat) (x : V) (pl : Addr) (all : List V) : List V → Hp → (Bool → Hp → Prop) → Prop
  | [], H, Q => H pl = some (.lst all) ∧ Q false H
  | y :: r, H, Q => H pl = some (.lst all) ∧ ∃ a b dx dy gs gs2, x = .ref a ∧ y = .ref b ∧ b ≠ a ∧ H a = some (.ins (A.O k).C dx gs) ∧ H b = some (.ins (A.O k).C dy gs2) ∧
      spC A C f [y, x] H (fun v H2 => ∃ c, v = .bl c ∧ if c = true then Q true H2 else inR A C W k f x pl all r H2 Q) W
def rOin (A : Ad) (C : CallT) (W : XK) (neg : Bool) (k f : Nat) : R2 := fun x y H Q => ∃ pl xs, y = .ref pl ∧ inR A C W k f x pl xs xs H fun b H2 => Q (.bl (b != neg)) H2
def rOil (A : Ad) (C : CallT) (W : XK) (neg : Bool) (k f : Nat) : R2 := fun x y H Q => ∃ pl a b dx dy gs gs2, y = .ref pl ∧ x = .ref a ∧ H pl = some (.lst [.ref b]) ∧ H a = some (.ins (A.O k).C dx gs) ∧ H b = some (.ins (A.O k).C dy gs2) ∧
  Q (.bl (true != neg)) H ∧ spC A C f [.ref b, .ref a] H (fun v H2 => v = .bl true ∧ Q (.bl (true != neg)) H2) W
end
end G43
set_option Elab.async false
set_option linter.all false
set_option maxRecDepth 100000
set_option maxHeartbeats 4000000
namespace G43
open PySem PySem.Spec PyProof.Rows
/-! ### set(l) of a list of whole numbers -/
/-- a set with nothing in it -/
abbrev set0 (w : World) : Obj := { cls := .type "set", dict := none, data := .set #[] 0 (.fresh 0 0 (!w.params.followText "set-order")) }
section
variable {prog : Program} {w : World} {A : Around} {X : Value → Shared → Prop} {s : Shared}
end
section
open L2 (V HO Hp SqL SqT Rd upd upd_same upd_ne Cx VK CallR TE TA PE PA XK)
variable {A : Ad} {P : Pg} {C : CallT} {N : List Str} {sc ss : Scope} {l : Bool} {kk : Nat} {W : XK} {X : Cx}
/-- set(l) -/
def rSetL (w : World) (K : PySem.W.Frag) : List V → Hp → VK → Prop := fun xs H Q => ∃ (p : Addr) (ns : List Int), xs = [.ref p] ∧ SqL K H p (ns.map V.int) ∧ ns.length ≤ 1000 ∧ ∀ (q : Addr) (c : Nat), H q = none → c ≤ ns.length → Q (.ref q) (upd H q (L2.SetO w q (fun j => decide (j ∈ ns)) c))
/-- len(of a set) -/
def rLenS (w : World) : List V → Hp → VK → Prop := fun xs H Q => ∃ (a : Addr) (S : Int → Bool) (n : Nat), xs = [.ref a] ∧ H a = some (L2.SetO w a S n) ∧ ∀ ks : List Int, ks.Nodup → (∀ k, k ∈ ks ↔ S k = true) → Q (.int ks.length) H
/-- sum(of a tuple) -/
def rSumT (K : PySem.W.Frag) : List V → Hp → VK → Prop := fun xs H Q => ∃ (p : Addr) (ns : List Int), xs = [.ref p] ∧ SqT K H p (ns.map V.int) ∧ Q (.int ns.sum) H
variable (hC : MonoC C C)
include hC
omit hC in
/-- what is in strict order stands still -/
theorem still {α β : Type} (R : α → β → Prop) (f : β → Int) : ∀ (xs ys : List α) (ns : List β), (∀ (i : Nat) (x : α), xs[i]? = some x → ∃ n, ns[i]? = some n ∧ R x n) → xs.length = ns.length → ys.Perm xs → ns.Pairwise (fun n m => f n < f m) → ys.Pairwise (fun x y => ∀ n m, R x n → R y m → f n ≤ f m) → ys = xs
  | [], ys, ns, _, _, hp, _, _ => List.Perm.eq_nil hp
  | x :: xs, ys, ns, hr, hl, hp, hs, hy => by
    cases ns with
    | nil => simp at hl
    | cons n ns =>
      obtain ⟨s1, s2⟩ := List.pairwise_cons.mp hs
      obtain ⟨n0, e0, r0⟩ := hr 0 x rfl
      obtain rfl : n = n0 := by simpa using e0
      cases ys with
      | nil => exact absurd hp.length_eq (by simp)
      | cons y ys =>
        obtain ⟨y1, y2⟩ := List.pairwise_cons.mp hy
        have tl : ∀ (i : Nat) (x : α), xs[i]? = some x → ∃ m, ns[i]? = some m ∧ R x m := fun i x e => by
          obtain ⟨m, e1, r1⟩ := hr (i + 1) x (by simpa using e)
          exact ⟨m, by simpa using e1, r1⟩
        by_cases q : y = x
        · subst q
          rw [still R f xs ys ns tl (by simpa using hl) (List.Perm.cons_inv hp) s2 y2]
        · have m1 : y ∈ xs := by
            have := hp.mem_iff.mp (show y ∈ y :: ys by simp)
            exact (List.mem_cons.mp this).resolve_left q
          have m2 : x ∈ ys := by
            have := hp.mem_iff.mpr (show x ∈ x :: xs by simp)
            exact (List.mem_cons.mp this).resolve_left fun e => q e.symm
          obtain ⟨i, hi⟩ := List.getElem?_of_mem m1
          obtain ⟨m, e1, r1⟩ := tl i y hi
          have a := s1 m (List.mem_of_getElem? e1)
          have b := y1 x m2 m n r1 r0
          omega
omit hC in
/-- sorted(l) of at most one thing -/
def rSort1 (K : PySem.W.Frag) : List V → Hp → VK → Prop := fun vs H Q => ∃ (a : Addr) (xs : List V), vs = [V.ref a] ∧ SqL K H a xs ∧ xs.length ≤ 1 ∧ ∀ p, H p = none → Q (.ref p) (upd H p (.lst xs))
end
end G43
set_option Elab.async false
set_option linter.all false
set_option maxRecDepth 100000
set_option maxHeartbeats 4000000
namespace G43
open PySem PySem.Spec PyProof.Rows
section
open L2 (V HO Hp SqL SqT Rd upd upd_same upd_ne Cx VK CallR TE TA PE PA XK)
variable {A : Ad} {P : Pg} {C : CallT} {N : List Str} {sc ss : Scope} {l : Bool} {kk : Nat} {W : XK} {X : Cx}
variable (hC : MonoC C C)
include hC
omit hC in
/-- a value that stands for plain data -/
def DaV (A : Ad) (L : Addr → Prop) (H : Hp) (u : Value) (p : PV) : Prop := ∃ y : V, L2.RelV y u ∧ Rp A L H p y
omit hC in
def rSod (A : Ad) : List V → Hp → VK → Prop := fun vs H Q => ∃ (B : Addr → Prop) (m : List Addr) (h : Hs) (L : List PV) (a : Addr) (xs : List V), Sim A B m h H ∧ vs = [.ref a] ∧ SqL A.K H a xs ∧ RpL A (Xc B m h) H L xs ∧ SoD L ∧ Kp A B m h H Q (.lst (L.mergeSort leD))
end
end G43
set_option Elab.async false
set_option linter.all false
set_option maxRecDepth 100000
set_option maxHeartbeats 4000000
namespace G43
open PySem PySem.Spec PyProof.Rows
/-! ### list(zip([], ())) -/
theorem zip_no_len : typeLookup (.type "zip") "__len__" = pure none := by rw [typeLookup_type, builtinLookup_eq_fast]; kernel_rfl
theorem zip_no_hint : typeLookup (.type "zip") "__length_hint__" = pure none := by rw [typeLookup_type, builtinLookup_eq_fast]; kernel_rfl
/-- a zip of a list and a tuple, none taken yet, both empty -/
structure Zip0 (h : Heap) (z TI TO i1 i2 l t : Addr) : Prop where
  hz : IsZip h z TI TO .none
  hTI : IsTupOf2 h TI (.ref i1) (.ref i2)
  hTO : IsTupOf2 h TO .none .none
  h1 : h.IsListIter i1 l 0
  hl : h.IsList l #[]
  h2 : h.IsTupleIter i2 t 0
  ht : h.IsTuple t #[]
theorem Zip0.keep {h h' : Heap} {z TI TO i1 i2 l t : Addr} {S : Addr} (Z : Zip0 h z TI TO i1 i2 l t) (hS : h.get? S = none) (k : ∀ b o, b ≠ S → h.get? b = some o → h'.get? b = some o) : Zip0 h' z TI TO i1 i2 l t := by
  have k2 : ∀ b o, h.get? b = some o → h'.get? b = some o := fun b o e => k b o (fun q => by rw [q, hS] at e; cases e) e
  exact ⟨k2 _ _ Z.hz, k2 _ _ Z.hTI, k2 _ _ Z.hTO, Z.h1.at (k2 _), Z.hl.at (k2 _), Z.h2.at (k2 _), Z.ht.at (k2 _)⟩
section
variable {prog : Program} {w : World} {A : Around} {E : Value → Shared → Prop} {s : Shared} {z TI TO i1 i2 l t : Addr}
theorem next_zip0 {Q : Option Value → Shared → Prop} (hh : A.handled = none) (Sp : ZipSep2 z TI TO i1 i2 [i1, l] [i2, t]) (n1 : l ≠ i1) (n2 : t ≠ i2) (Z : Zip0 s.heap z TI TO i1 i2 l t)
    (hQ : ∀ h' tk, (∀ c o, c ≠ z → c ≠ TO → c ≠ i1 → c ≠ i2 → s.heap.get? c = some o → h'.get? c = some o) → Q none { s with heap := h', toks := tk }) : wpAny (model prog w) A (pyNext (.ref z)) Q E s :=
  wpAny_pyNext_zipD2_end Sp (Draws.list (A := A.in1) hh i1 l n1 #[]) (Draws.tuple (A := A.in1) hh i2 t n2 #[]) Z.hz Z.hTI Z.hTO ⟨Z.h1, Z.hl⟩ ⟨Z.h2, Z.ht⟩ (Nat.zero_le _) (Nat.zero_le _) (.inl rfl) hQ
theorem ext_zip0 {R : Result → Shared → Prop} (hh : A.handled = none) (Sp : ZipSep2 z TI TO i1 i2 [i1, l] [i2, t]) (n1 : l ≠ i1) (n2 : t ≠ i2) (S : Addr) (res : Value) (c₀ : Nat) (h0 : Heap) (h0S : h0.get? S = none) (Z : Zip0 h0 z TI TO i1 i2 l t)
    (keep : ∀ b o, b ≠ S → h0.get? b = some o → s.heap.get? b = some o) (hS : s.heap.get? S = some { cls := .type "list", data := .seq #[] c₀ })
    (hR : ∀ h' tk c', (∀ c o, c ≠ S → c ≠ z → c ≠ TO → c ≠ i1 → c ≠ i2 → h0.get? c = some o → h'.get? c = some o) → h'.get? S = some { cls := .type "list", dict := none, data := .seq #[] c', slots := #[] } → R (.ok (.ret res)) { s with heap := h', toks := tk }) :
    wpAny (model prog w) A.in1 (Builtin.List.listExtendWith (.ref S) (.ref z) res)
      (fun fin s' => match fin with | .done f => R (.ok f) s' | .again c' => c'.quiet = true ∧ codeAny (model prog w) A c' R s') (fun e s' => R (.error e) s') s := by
  have ne : ∀ {b : Addr} {o : Obj}, h0.get? b = some o → S ≠ b := fun e q => by rw [q] at h0S; rw [h0S] at e; cases e
  have Sz := ne Z.hz
  have STO := ne Z.hTO
  obtain ⟨o1, e1, _⟩ := Z.h1
  obtain ⟨o2, e2, _⟩ := Z.h2
  have S1 := ne e1
  have S2 := ne e2
  have Z1 := Z.keep h0S keep
  have hT : ∀ {h' : Heap}, Zip0 h' z TI TO i1 i2 l t → ({ s with heap := h' } : Shared).TypeIs (.ref z) "zip" := fun q => ⟨_, q.hz, rfl⟩
  unfold Builtin.List.listExtendWith
  refine wpAny_bind (wpAny_typeOf (hT Z1) ?_)
  have h1 : Builtin.List.listSameRef (.ref S) (.ref z) = false := by simp [Builtin.List.listSameRef, Sz]
  have h2 : (Value.type "zip" == Value.type "list") = false := by decide
  have h3 : (Value.type "zip" == Value.type "tuple") = false := by decide
  simp only [h1, h2, h3, Bool.or_false, Bool.false_eq_true, if_false]
  refine wpAny_bind (wpAny_pyIter_zip Z1.hz ?_)
  refine wpAny_bind (wpAny_holding ?_)
  unfold Builtin.List.listLengthHint
  refine wpAny_bind (wpAny_specialOf (hT Z1) zip_no_len ?_)
  show wpAny _ A.in1 (specialOf (Value.ref z) (Str.ofString "__length_hint__") >>= _) _ _ _
  refine wpAny_bind (wpAny_specialOf (hT Z1) zip_no_hint ?_)
  refine wpAny_pure ?_
  show wpAny _ A.in1 (rule "list.extend.makes-room" >>= fun _ => Builtin.List.listTouch (.ref S) >>= fun _ =>
    again (.builtin "list.extend.loop" ⟨[.ref S, .ref z, res], []⟩)) _ _ _
  refine wpAny_bind (wpAny_rule ?_)
  refine wpAny_bind ?_
  show wpAny _ A.in1 (updateSeq S (·.push .none) >>= fun _ => updateSeq S (·.pop)) _ _ _
  refine wpAny_bind (wpAny_updateSeq hS rfl ?_)
  have hS₂ := Heap.get?_update_self (Obj.mapSeq (·.push Value.none)) hS rfl
  refine wpAny_updateSeq (hz := by seq_fits) hS₂ rfl ?_
  have hS₃ := Heap.get?_update_self (Obj.mapSeq (·.pop)) hS₂ rfl
  have oth : ∀ b o, b ≠ S → s.heap.get? b = some o → ((s.heap.update S (Obj.mapSeq (·.push Value.none))).update S (Obj.mapSeq (·.pop))).get? b = some o :=
    fun b o hb e => (Heap.get?_update_other _ _ (Ne.symm hb)).trans ((Heap.get?_update_other _ _ (Ne.symm hb)).trans e)
  have Z2 := Z.keep h0S fun b o hb e => oth b o hb (keep b o hb e)
  generalize (s.heap.update S (Obj.mapSeq (·.push Value.none))).update S (Obj.mapSeq (·.pop)) = hp at hS₃ oth Z2
  refine wpAny_pure ⟨plainId_quiet F.plain_extend_loop _, codeAny_builtin F.entry_extend_loop ?_⟩
  rw [Around.under_plainId F.plain_extend_loop _]
  show wpAny _ A.in1 (pyNext (.ref z) >>= _) _ _ _
  refine wpAny_bind (next_zip0 (A := A.in1) hh Sp n1 n2 Z2 fun h' tk hk => ?_)
  refine wpAny_pure (hR h' tk _ (fun c o cS cz cT c1 c2 e => hk c o cz cT c1 c2 (oth c o cS (keep c o cS e))) (hk S _ Sz STO S1 S2 hS₃))
theorem call_list_zip0 {Q : Value → Shared → Prop} (hh : A.handled = none) (Sp : ZipSep2 z TI TO i1 i2 [i1, l] [i2, t]) (n1 : l ≠ i1) (n2 : t ≠ i2) (Z : Zip0 s.heap z TI TO i1 i2 l t)
    (hQ : ∀ h' tk c', (∀ c o, c ≠ z → c ≠ TO → c ≠ i1 → c ≠ i2 → s.heap.get? c = some o → h'.get? c = some o) → h'.get? s.heap.objs.size = some { cls := .type "list", dict := none, data := .seq #[] c', slots := #[] } → Q (.ref s.heap.objs.size) { s with heap := h', toks := tk }) :
    wpAny (model prog w) A (call (.type "list") [.ref z]) Q E s := by
  have h0S : s.heap.get? s.heap.objs.size = none := by
    cases e : s.heap.get? s.heap.objs.size with
    | none => rfl
    | some o => exact absurd (Heap.lt_size e) (Nat.lt_irrefl _)
  refine callType_codes (Q₁ := fun obj s₁ => obj = .ref s.heap.objs.size ∧ s₁ = { s with heap := s.heap.push { cls := .type "list", data := .seq #[] } }) F.called_list (F.typeCall_list_1 _) F.entry_list_init
    (code_list_new _ ⟨rfl, rfl⟩) fun obj s₁ h₁ => ?_
  obtain ⟨rfl, rfl⟩ := h₁
  have hS : (s.heap.push { cls := .type "list", data := .seq #[] }).get? s.heap.objs.size = some { cls := .type "list", data := .seq #[] } := Heap.get?_push_size _ rfl
  refine ⟨⟨_, hS, rfl⟩, F.args_list_init_2 _ _, ?_⟩
  generalize hSz : s.heap.objs.size = S at *
  show wpAny _ A.in1.in1 (do let old ← Builtin.List.listItems (.ref S); Builtin.List.listUpdate (.ref S) (fun _ => #[]); letGo old.toList.reverse; Builtin.List.listExtendWith (.ref S) (.ref z) .none) _ _ _
  refine wpAny_bind ?_
  unfold Builtin.List.listItems
  refine wpAny_bind (wpAny_seqItems hS rfl (wpAny_pure ?_))
  show wpAny _ A.in1.in1 (updateSeq S (fun _ => #[]) >>= fun _ => letGo (#[] : Array Value).toList.reverse >>= fun _ => Builtin.List.listExtendWith (.ref S) (.ref z) .none) _ _ _
  refine wpAny_bind (wpAny_updateSeq hS rfl ?_)
  have hS₂ := Heap.get?_update_self (Obj.mapSeq (fun _ => (#[] : Array Value))) hS rfl
  refine wpAny_bind (wpAny_letGo ?_)
  refine ext_zip0 (A := A.in1) hh Sp n1 n2 S .none _ s.heap h0S Z (fun b o hb e => (Heap.get?_update_other _ _ (Ne.symm hb)).trans (Heap.get?_push_of_some _ e)) hS₂ fun h' tk c' hk hS' => ?_
  exact ⟨rfl, hQ h' tk c' (fun c o cz cT c1 c2 e => hk c o (fun q => by rw [q, h0S] at e; cases e) cz cT c1 c2 e) hS'⟩
end
section
open L2 (V HO Hp SqL SqT Rd upd upd_same upd_ne Cx VK CallR TE TA PE PA XK Gl Inv ObjOk FpOk ld_blt thn St)
/-- list(zip(a, b)), a an empty list, b an empty tuple -/
def tLz (K : PySem.W.Frag) (ta : TA) : TE := fun σ H Q => ta σ H fun vs H1 => ∃ a b, vs = [.ref a, .ref b] ∧ SqL K H1 a [] ∧ SqT K H1 b [] ∧ ∀ q, H1 q = none → Q (.ref q) (upd H1 q (.lst []))
theorem pe_lz {X : Cx} {e e2 : Expr} {ta : TA} {p p2 pos pos2 : Pos} (hc : X.calm = true) (hg : Gl X "list") (hm : X.mg "list" = none) (hgz : Gl X "zip") (hmz : X.mg "zip" = none) (ha : PA X [e, e2] ta)
    (hs : starEach [e, e2] X.env = (false, eval e X.env) :: starEach [e2] X.env) (hpl : (backTo pos2 (starEach [e2] X.env)).any (·.1) = false) (na : starEach [.Call (.Name "zip" p2) [e, e2] [] pos2] X.env = (false, eval (.Call (.Name "zip" p2) [e, e2] [] pos2) X.env) :: starEach [] X.env) :
    PE X (.Call (.Name "list" p) [.Call (.Name "zip" p2) [e, e2] [] pos2] [] pos) (tLz X.K ta) := by
  refine ⟨fun pins s σ H Q I h => ?_⟩
  have he : wpAny (model X.prog X.w) X.A (eval (.Call (.Name "zip" p2) [e, e2] [] pos2) X.env) (fun x s' => ∃ z TI TO i1 i2 l t H', x = .ref z ∧ Zip0 s'.heap z TI TO i1 i2 l t ∧ ZipSep2 z TI TO i1 i2 [i1, l] [i2, t] ∧ l ≠ i1 ∧ t ≠ i2 ∧ (∀ c ∈ [z, TO, i1, i2], FpOk X pins H' c) ∧ Inv X pins σ H' s' ∧ ∀ q, H' q = none → Q (.ref q) (upd H' q (.lst []))) X.xe s := by
    refine Call_ (ld_blt I hgz hmz PyProof.Rows.boot_zip (PyProof.Rows.callWith_type1 (thn (ha.run pos2 pins s σ H _ I h) fun us s1 ⟨vs, H1, I1, r1, q1⟩ => ?_) hs hpl))
    obtain ⟨a, b, ex, hqx, hqy, q⟩ := q1
    subst ex
    cases r1 with
    | cons r rr =>
      cases rr with
      | cons r' rr =>
        cases rr
        cases r
        cases r'
        obtain ⟨its, rv, p1, _⟩ := I1.list hqx
        obtain ⟨its2, rv2, p3, _⟩ := I1.tuple hqy
        cases rv
        cases rv2
        have la : a < s1.heap.objs.size := p1.lt
        have lb : b < s1.heap.objs.size := p3.lt
        have p4 : s1.heap.IsTuple b #[] := by
          obtain ⟨o, e1, e2, n, e3⟩ := p3
          exact ⟨o, e1, e2, ⟨n, e3⟩⟩
        refine zip_begins2 (begins_list a #[]) (begins_tuple b #[]) p1.isList p4 fun h' hz hTI hTO g1 g2 hsz hk => ?_
        have I2 : Inv X pins σ H1 { s1 with heap := h' } := I1.kept (t' := s1.toks) hk
        refine ⟨s1.heap.objs.size + 4, _, _, _, _, a, b, H1, rfl, ⟨hz, hTI, hTO, ⟨_, g1, rfl, rfl⟩, p1.isList.at (hk a), ⟨_, g2, rfl, rfl⟩, p4.at (hk b)⟩, zip_sep2 (fp1 := [a]) (fp2 := [b]) (by simpa using la) (by simpa using lb), Nat.ne_of_lt la, Nat.ne_of_lt (Nat.lt_succ_of_lt lb), fun c hcm => ?_, I2, q⟩
        have hle : s1.heap.objs.size ≤ c := by
          simp only [List.mem_cons, List.not_mem_nil, or_false] at hcm
          rcases hcm with z | z | z | z
          · rw [z]; exact Nat.le_add_right _ _
          · rw [z]; exact Nat.le_add_right _ _
          · rw [z]; exact Nat.le_refl _
          · rw [z]; exact Nat.le_add_right _ _
        exact I1.fpOk hle (I1.hok.fresh hle)
  refine Call_ (ld_blt I hg hm boot_list (PyProof.Rows.callWith_type1 (args_cons (thn he fun x s1 ⟨z, TI, TO, i1, i2, l, t, H1, ex, Z, Sp, n1, n2, hf, I1, q⟩ => args_nil ?_) na) na))
  subst ex
  refine call_list_zip0 (I1.ok.hd hc) Sp n1 n2 Z fun h' tk c' hk hS => ?_
  refine ⟨.ref s1.heap.objs.size, upd H1 s1.heap.objs.size (.lst []), I1.turnedNew (t' := tk) (ch := [z, TO, i1, i2]) (fun c o hb e => hk c o (fun q' => hb (by simp [q'])) (fun q' => hb (by simp [q'])) (fun q' => hb (by simp [q'])) (fun q' => hb (by simp [q'])) e) hf (Nat.le_refl _) (show ObjOk X.prog X.w _ _ _ (.lst []) from ⟨Nat.zero_le _, [], c', .nil, hS⟩), rfl, q _ (I1.hok.fresh (Nat.le_refl _))⟩
end
section
open L2 (V HO Hp SqL SqT Rd upd upd_same upd_ne Cx VK CallR TE TA PE PA XK)
variable {A : Ad} {P : Pg} {C : CallT} {N : List Str} {sc ss : Scope} {l : Bool} {kk : Nat} {W : XK} {X : Cx}
variable (hC : MonoC C C)
include hC
theorem s_lze (cx : Ctx A P C N sc ss l kk W X) {a b : E} {a' b' : Expr} {p p2 pos pos2 : Pos} (hb : ("list" : Str) ∈ P.blt) (hg : gloB sc "list" = true) (hb2 : ("zip" : Str) ∈ P.blt) (hg2 : gloB sc "zip" = true) (hn : noStar a' = true) (hn2 : noStar b' = true) (ha : PE X a' (tE A P C W a)) (hb' : PE X b' (tE A P C W b)) :
    PE X (.Call (.Name "list" p) [.Call (.Name "zip" p2) [a', b'] [] pos2] [] pos) (tE A P C W (.lze a b)) := by
  refine PE_imp (pe_lz cx.calm (show X.env.scope.names.lookup _ = _ by rw [cx.eS]; exact gloB_ok hg) (cx.blt _ hb) (show X.env.scope.names.lookup _ = _ by rw [cx.eS]; exact gloB_ok hg2) (cx.blt _ hb2) (L2.pa_cons ha (L2.pa_cons hb' L2.pa_nil (starEach_no hn2 _ _)) (starEach_no hn _ _)) (starEach_no hn _ _) (back_no _ _ (by rw [List.all_cons, hn2]; rfl)) rfl) ?_
  rintro σ H Q ⟨B, m, h, ρ, S, s, z⟩
  unfold wpE at z
  refine tE_of hC S s z fun v h1 m1 H1 w q S1 M1 r1 => ?_
  refine tE_of hC S1 (s.move S M1) (wpE_next hC M1 q) fun v2 h2 m2 H2 w2 q2 S2 M2 r2 => ?_
  obtain ⟨rfl, rfl, k⟩ := q2
  have r1' := r1.move S1 M2
  obtain ⟨b1, ys, rfl, g1, t1⟩ := (r1'.rw S2 rfl).lst
  obtain ⟨b2, ys2, rfl, g2, t2⟩ := (r2.rw S2 rfl).tup
  cases t1
  cases t2
  rw [cx.eK]
  refine ⟨b1, b2, rfl, SqL.of g1, g2, fun q hq => ?_⟩
  obtain ⟨M5, S5, r5⟩ := S2.lst (l := []) hq .nil
  exact k m2 _ _ S5 ((M1.trans M2).trans M5) r5
theorem s_lrg (cx : Ctx A P C N sc ss l kk W X) {a : E} {a' : Expr} {p p2 pos pos2 : Pos} (hb : ("list" : Str) ∈ P.blt) (hg : gloB sc "list" = true) (hb2 : ("range" : Str) ∈ P.blt) (hg2 : gloB sc "range" = true) (hn : noStar a' = true) (ha : PE X a' (tE A P C W a)) :
    PE X (.Call (.Name "list" p) [.Call (.Name "range" p2) [a'] [] pos2] [] pos) (tE A P C W (.lrg a)) := by
  refine PE_imp (L2.pe_listRg cx.calm (show X.env.scope.names.lookup _ = _ by rw [cx.eS]; exact gloB_ok hg) (cx.blt _ hb) (L2.prg_1 (show X.env.scope.names.lookup _ = _ by rw [cx.eS]; exact gloB_ok hg2) (cx.blt _ hb2) ha (starEach_no hn _ _))) ?_
  rintro σ H Q ⟨B, m, h, ρ, S, s, z⟩
  unfold wpE at z
  refine tE_of hC S s z fun v h1 m1 H1 w q S1 M1 r1 => ?_
  obtain ⟨j, rfl, j0, j1, k⟩ := q
  cases r1
  refine ⟨j, rfl, L2.RgOk.of_le (by omega) (by omega) (by omega) (by omega), fun q hq => ?_⟩
  have rr : RpL A (Xc B m1 h1) H1 (rngL 0 j.toNat) (L2.rgV 0 j) := by
    unfold rngL L2.rgV
    rw [Int.sub_zero]
    generalize List.range j.toNat = ns
    induction ns with
    | nil => exact .nil
    | cons a r ih => exact .cons (.int _) ih
  obtain ⟨M5, S5, r5⟩ := S1.lst hq rr
  exact k m1 _ _ S5 (M1.trans M5) r5
end
end G43
set_option Elab.async false
set_option linter.all false
set_option maxRecDepth 100000
set_option maxHeartbeats 4000000
namespace G43
open PySem
open L2 (V HO Hp SqL SqT Rd upd upd_same upd_ne Cx OpR R2 VK CallR IxR SlR TE TA TS TT TI TG TGs PE PA PS PSs PT PI PG PGs XK Sp Room Vals)
open PySem.Spec PyProof.Rows
section
variable {A : Ad} {P : Pg} {C : CallT} {N : List Str}
theorem Ctx.blk {sc ss : Scope} {l : Bool} {kk : Nat} {W : XK} {X : Cx} (cx : Ctx A P C N sc ss l kk W X) (scope : Scope) (s : Shared) (H : Hp) (c : Addr) (cl : List (Str × Addr)) (fp : List Addr) (hk : scope.kind = .function) :
    Ctx A P C N (L2.relS scope sc) scope false kk WF (X.blk s H scope (compEnvC scope cl c X.env) fp) where
  eK := cx.eK
  eS := by
    have e : (compEnvC scope cl c X.env).scope = L2.relS scope X.env.scope := rfl
    rw [← cx.eS]
    exact e
  eN := cx.eN
  kd := hk
  nd := cx.nd
  calm := cx.calm
  un := cx.un
  gd := cx.gd
  tk := L2.takes0
  po := PassesOwn.never
  st := fun x h => by
    rcases stoB_ok h with k | k
    · have q := L2.lookup_relS_keep (sc := sc) (by decide) k
      exact ⟨.inl q, .inr q⟩
    · have q := L2.lookup_relS_keep (sc := sc) (by decide) k
      refine ⟨.inr q, .inl ?_⟩
      show (scope.names.lookup x == some NameKind.cell) = true
      rw [k]
      rfl
  rm := cx.rm
  cal := fun f df e => let d := cx.cal f df e; ⟨d.nm, d.kp, d.fn⟩
  con := cx.con
  blt := cx.blt
  exf := cx.exf
  exc := fun c hc w hw => let d := cx.exc c hc w hw; ⟨d.mg, d.ei, d.kp, d.rs⟩
  lam := fun z => nomatch z
  lmx := fun z => nomatch z
  cls := cx.cls
  nfo := cx.nfo
  met := cx.met
  dcs := cx.dcs
/-- .. whose element may make lambdas -/
theorem Ctx.blkL {sc ss : Scope} {l : Bool} {kk : Nat} {W : XK} {X : Cx} (cx : Ctx A P C N sc ss l kk W X) (scope : Scope) (s : Shared) (H : Hp) (c : Addr) (cl : List (Str × Addr)) (fp : List Addr) (hk : scope.kind = .function) :
    Ctx A P C N (L2.relS scope sc) scope l kk WF (X.blk s H scope (compEnvC scope cl c X.env) fp) :=
  { cx.blk scope s H c cl fp hk with
    lam := fun hl => cx.lmx hl _ rfl rfl rfl rfl rfl rfl
    lmx := fun hl X' e1 e2 e3 e4 e5 e6 => cx.lmx hl X' e1 e2 e3 e4 e5 e6 }
theorem mL_all {l : Bool} : ∀ {es : EL} {sc : Scope} {args : List Expr}, mL P N es l sc args = true → args.all noStar = true ∧ es.len = args.length
  | .nil, sc, [], _ => ⟨rfl, rfl⟩
  | .nil, sc, _ :: _, h => by simp [mL] at h
  | .cons _ _, sc, [], h => by simp [mL] at h
  | .cons e r, sc, a :: as, h => by
    simp only [mL, Bool.and_eq_true] at h
    obtain ⟨h1, h2⟩ := mL_all h.2
    exact ⟨by rw [List.all_cons, h.1.2, h1]; rfl, by show r.len + 1 = as.length + 1; rw [h2]⟩
/-- what a text may be whose test is its value's truth -/
def valE : E → Bool
  | .and _ _ => false
  | .or _ _ => false
  | .nt _ => false
  | .cmp _ _ _ => false
  | .chn _ _ _ _ _ => false
  | .ite _ _ _ => false
  | .frz _ => false
  | _ => true
theorem isT_plain {l : Bool} {e : E} {sc : Scope} {x : Expr} {env : PySem.Env} (h : mE P N e l sc x = true) (hv : valE e = true) : ∀ whole, isTrue x env whole = (do let v ← whole; standAt x.pos; holding [v] (truthy v)) := by
  cases x with
  | BoolOp op vs pos =>
    exfalso
    cases op <;> rcases vs with _ | ⟨v, _ | ⟨w, _ | ⟨u, vs⟩⟩⟩ <;> cases e <;> first | (simp [mE] at h; done) | (simp [valE] at hv; done)
  | UnaryOp op a pos =>
    cases op <;> cases e <;> first | (intro _; rfl) | (simp [mE] at h; done) | (simp [valE] at hv; done)
  | Compare a ops bs pos =>
    exfalso
    rcases ops with _ | ⟨o1, _ | ⟨o2, _ | ⟨o3, ops⟩⟩⟩ <;> rcases bs with _ | ⟨b1, _ | ⟨b2, _ | ⟨b3, bs⟩⟩⟩ <;> cases e <;> first | (simp [mE] at h; done) | (simp [valE] at hv; done)
  | IfExp t a b pos =>
    exfalso
    cases e <;> first | (simp [mE] at h; done) | (simp [valE] at hv; done)
  | _ => intro _; rfl
theorem dvB_ok {df : Df} {n : Nat} {dv : List PV} (h : dvB df n dv = true) : n + dv.length = df.npar ∧ df.dfl.drop (df.dfl.length - dv.length) = dv := by
  unfold dvB at h
  simp only [Bool.and_eq_true, decide_eq_true_eq] at h
  exact ⟨h.1.1, samDs_eq h.2⟩
theorem mkB_ok {k f n : Nat} {dv : List PV} {x : Str} (h : mkB P k f n dv x = true) : ∃ c df, P.cls[k]? = some c ∧ P.defs[f]? = some df ∧ c.name = x ∧ df.own = some c.name ∧ df.ini = true ∧ n + dv.length = df.npar ∧ df.dfl.drop (df.dfl.length - dv.length) = dv := by
  unfold mkB at h
  split at h
  · rename_i c df e1 e2
    simp only [Bool.and_eq_true, decide_eq_true_eq] at h
    obtain ⟨⟨⟨⟨rfl, h2⟩, h3⟩, h4⟩, h5⟩ := h
    exact ⟨c, df, e1, e2, rfl, h2, h4, dvB_ok h5⟩
  · cases h
theorem spMB_ok {k f : Nat} {m : Str} (h : spMB P k f m = true) : ∃ c df, P.cls[k]? = some c ∧ P.defs[f]? = some df ∧ df.own = some c.name ∧ df.name = m ∧ df.ini = false := by
  unfold spMB at h
  split at h
  · rename_i c df e1 e2
    simp only [Bool.and_eq_true, decide_eq_true_eq, Bool.not_eq_true'] at h
    exact ⟨c, df, e1, e2, h.1.1, h.1.2, h.2⟩
  · cases h
theorem v_fm1 {l : Bool} {sc : Scope} {p q : Str} {a : E} {x : Expr} (h : mE P N (.fm1 p a q) l sc x = true) : ∃ k1 p1 a' p2 k2 p3 pos, x = .JoinedStr [.Constant (.str p) k1 p1, .FormattedValue a' (-1) none p2, .Constant (.str q) k2 p3] pos ∧ mE P N a l sc a' = true ∧ p.length ≤ 1000 := by
  unfold mE at h
  split at h
  · simp only [Bool.and_eq_true, decide_eq_true_eq] at h
    obtain ⟨⟨⟨⟨rfl, rfl⟩, rfl⟩, h1⟩, h2⟩ := h
    exact ⟨_, _, _, _, _, _, _, rfl, h1, h2⟩
  · cases h
variable (hC : MonoC C C)
include hC
mutual
theorem sE : ∀ (e : E) {sc ss : Scope} {l : Bool} {kk : Nat} {W : XK} {X : Cx} {x : Expr}, Ctx A P C N sc ss l kk W X → mE P N e l sc x = true → PE X x (tE A P C W e) ∧ PT X x (tQ A P C W e)
  | .var i, sc, ss, l, kk, W, X, x, cx, h => by
    have pe : PE X x (tE A P C W (.var i)) := by
      cases x with
      | Name y pos =>
        simp only [mE, Bool.and_eq_true, decide_eq_true_eq, Bool.not_eq_true'] at h
        exact s_var cx h.1.1 h.1.2 h.2
      | _ => simp [mE] at h
    exact ⟨pe, q_val hC pe (isT_plain h rfl)⟩
  | .cst p, sc, ss, l, kk, W, X, x, cx, h => by
    have pe : PE X x (tE A P C W (.cst p)) := by
      cases x with
      | Constant c k pos =>
        simp only [mE] at h
        exact s_cst h
      | _ => simp [mE] at h
    exact ⟨pe, q_val hC pe (isT_plain h rfl)⟩
  | .glo g, sc, ss, l, kk, W, X, x, cx, h => by
    have pe : PE X x (tE A P C W (.glo g)) := by
      cases x with
      | Name y pos =>
        simp only [mE, Bool.and_eq_true, Bool.not_eq_true'] at h
        obtain ⟨⟨h1, h2⟩, h3⟩ := h
        cases hg : P.cons[g]? with
        | none => rw [hg] at h1; cases h1
        | some q =>
          rw [hg] at h1
          have e := of_decide_eq_true h1
          subst e
          exact s_glo (p := q.2) cx hg h2 h3
      | _ => simp [mE] at h
    exact ⟨pe, q_val hC pe (isT_plain h rfl)⟩
  | .bin op a b, sc, ss, l, kk, W, X, x, cx, h => by
    have pe : PE X x (tE A P C W (.bin op a b)) := by
      cases x with
      | BinOp a' op' b' pos =>
        simp only [mE, Bool.and_eq_true, decide_eq_true_eq] at h
        obtain ⟨⟨rfl, h1⟩, h2⟩ := h
        exact s_bin hC cx (sE a cx h1).1 (sE b cx h2).1
      | _ => simp [mE] at h
    exact ⟨pe, q_val hC pe (isT_plain h rfl)⟩
  | .neg a, sc, ss, l, kk, W, X, x, cx, h => by
    have pe : PE X x (tE A P C W (.neg a)) := by
      cases x with
      | UnaryOp op a' pos =>
        cases op <;> simp only [mE] at h <;> first | exact s_neg hC (sE a cx h).1 | cases h
      | _ => simp [mE] at h
    exact ⟨pe, q_val hC pe (isT_plain h rfl)⟩
  | .nt a, sc, ss, l, kk, W, X, x, cx, h => by
    refine ⟨?_, ?_⟩
    · cases x with
      | UnaryOp op a' pos =>
        cases op <;> simp only [mE] at h <;> first | exact s_nt hC (sE a cx h).1 | cases h
      | _ => simp [mE] at h
    · cases x with
      | UnaryOp op a' pos =>
        cases op <;> simp only [mE] at h <;> first | exact q_nt hC (sE a cx h).2 | cases h
      | _ => simp [mE] at h
  | .and a b, sc, ss, l, kk, W, X, x, cx, h => by
    refine ⟨?_, ?_⟩
    · cases x with
      | BoolOp op vs pos =>
        cases op with
        | Or => cases vs with
          | nil => simp [mE] at h
          | cons v vs => cases vs with
            | nil => simp [mE] at h
            | cons w vs => cases vs <;> simp [mE] at h
        | And => cases vs with
          | nil => simp [mE] at h
          | cons v vs => cases vs with
            | nil => simp [mE] at h
            | cons w vs => cases vs with
              | nil =>
                simp only [mE, Bool.and_eq_true] at h
                exact PE_imp (L2.pe_and (sE a cx h.1).1 (L2.pe_one (sE b cx h.2).1)) (i_and hC)
              | cons u vs =>
                simp only [mE, Bool.and_eq_true] at h
                exact PE_imp (L2.pe_and (sE a cx h.1).1 (sE b cx h.2).1) (i_and hC)
      | _ => simp [mE] at h
    · cases x with
      | BoolOp op vs pos =>
        cases op with
        | Or => cases vs with
          | nil => simp [mE] at h
          | cons v vs => cases vs with
            | nil => simp [mE] at h
            | cons w vs => cases vs <;> simp [mE] at h
        | And => cases vs with
          | nil => simp [mE] at h
          | cons v vs => cases vs with
            | nil => simp [mE] at h
            | cons w vs => cases vs with
              | nil =>
                simp only [mE, Bool.and_eq_true] at h
                exact PT_imp (L2.pw_and (sE a cx h.1).2 (L2.pw_and1 (sE b cx h.2).2)).pt (i_qand hC)
              | cons u vs =>
                simp only [mE, Bool.and_eq_true] at h
                exact PT_imp (L2.pw_and (sE a cx h.1).2 (pw_of hC (sE b cx h.2).2)).pt (i_qand hC)
      | _ => simp [mE] at h
  | .or a b, sc, ss, l, kk, W, X, x, cx, h => by
    refine ⟨?_, ?_⟩
    · cases x with
      | BoolOp op vs pos =>
        cases op with
        | And => cases vs with
          | nil => simp [mE] at h
          | cons v vs => cases vs with
            | nil => simp [mE] at h
            | cons w vs => cases vs <;> simp [mE] at h
        | Or => cases vs with
          | nil => simp [mE] at h
          | cons v vs => cases vs with
            | nil => simp [mE] at h
            | cons w vs => cases vs with
              | nil =>
                simp only [mE, Bool.and_eq_true] at h
                exact PE_imp (L2.pe_or (sE a cx h.1).1 (L2.pe_one (sE b cx h.2).1)) (i_or hC)
              | cons u vs =>
                simp only [mE, Bool.and_eq_true] at h
                exact PE_imp (L2.pe_or (sE a cx h.1).1 (sE b cx h.2).1) (i_or hC)
      | _ => simp [mE] at h
    · cases x with
      | BoolOp op vs pos =>
        cases op with
        | And => cases vs with
          | nil => simp [mE] at h
          | cons v vs => cases vs with
            | nil => simp [mE] at h
            | cons w vs => cases vs <;> simp [mE] at h
        | Or => cases vs with
          | nil => simp [mE] at h
          | cons v vs => cases vs with
            | nil => simp [mE] at h
            | cons w vs => cases vs with
              | nil =>
                simp only [mE, Bool.and_eq_true] at h
                exact PT_imp (L2.pw_or (sE a cx h.1).2 (L2.pw_or1 (sE b cx h.2).2)).pt (i_qor hC)
              | cons u vs =>
                simp only [mE, Bool.and_eq_true] at h
                exact PT_imp (L2.pw_or (sE a cx h.1).2 (pw_of hC (sE b cx h.2).2)).pt (i_qor hC)
      | _ => simp [mE] at h
  | .cmp op a b, sc, ss, l, kk, W, X, x, cx, h => by
    refine ⟨?_, ?_⟩
    · cases x with
      | Compare a' ops bs pos =>
        rcases ops with _ | ⟨o1, _ | ⟨o2, ops⟩⟩ <;> rcases bs with _ | ⟨b1, _ | ⟨b2, bs⟩⟩ <;> simp only [mE, Bool.and_eq_true, decide_eq_true_eq, Bool.not_eq_true', Bool.false_eq_true] at h
        obtain ⟨⟨⟨rfl, h1⟩, h2⟩, h3⟩ := h
        exact PE_imp (L2.pe_cmpR (op_cmp cx.eK cx.un op) (sE a cx h2).1 (sE b cx h3).1 h1) (i_cmp hC)
      | _ => simp [mE] at h
    · cases x with
      | Compare a' ops bs pos =>
        rcases ops with _ | ⟨o1, _ | ⟨o2, ops⟩⟩ <;> rcases bs with _ | ⟨b1, _ | ⟨b2, bs⟩⟩ <;> simp only [mE, Bool.and_eq_true, decide_eq_true_eq, Bool.not_eq_true', Bool.false_eq_true] at h
        obtain ⟨⟨⟨rfl, h1⟩, h2⟩, h3⟩ := h
        exact PT_imp (L2.pt_cmpR (op_cmp cx.eK cx.un op) (sE a cx h2).1 (sE b cx h3).1 h1) fun σ H Q z => i_cmp hC σ H _ z
      | _ => simp [mE] at h
  | .chn p1 p2 a b c, sc, ss, l, kk, W, X, x, cx, h => by
    refine ⟨?_, ?_⟩
    · cases x with
      | Compare a' ops bs pos =>
        rcases ops with _ | ⟨o1, _ | ⟨o2, _ | ⟨o3, ops⟩⟩⟩ <;> rcases bs with _ | ⟨b1, _ | ⟨b2, _ | ⟨b3, bs⟩⟩⟩ <;> simp only [mE, Bool.and_eq_true, decide_eq_true_eq, Bool.not_eq_true', Bool.false_eq_true] at h
        obtain ⟨⟨⟨⟨⟨rfl, rfl⟩, h1⟩, h2⟩, h3⟩, h4⟩ := h
        exact PE_imp (L2.pe_chain (op_cmp cx.eK cx.un p1) (op_cmp cx.eK cx.un p2) (sE a cx h2).1 (sE b cx h3).1 (sE c cx h4).1 h1) (i_chn hC)
      | _ => simp [mE] at h
    · cases x with
      | Compare a' ops bs pos =>
        rcases ops with _ | ⟨o1, _ | ⟨o2, _ | ⟨o3, ops⟩⟩⟩ <;> rcases bs with _ | ⟨b1, _ | ⟨b2, _ | ⟨b3, bs⟩⟩⟩ <;> simp only [mE, Bool.and_eq_true, decide_eq_true_eq, Bool.not_eq_true', Bool.false_eq_true] at h
        obtain ⟨⟨⟨⟨⟨rfl, rfl⟩, h1⟩, h2⟩, h3⟩, h4⟩ := h
        exact PT_imp (L2.pt_chain (op_cmp cx.eK cx.un p1) (op_cmp cx.eK cx.un p2) (sE a cx h2).1 (sE b cx h3).1 (sE c cx h4).1 h1) fun σ H Q z => i_chn hC σ H _ z
      | _ => simp [mE] at h
  | .ite t a b, sc, ss, l, kk, W, X, x, cx, h => by
    refine ⟨?_, ?_⟩
    · cases x with
      | IfExp t' a' b' pos =>
        simp only [mE, Bool.and_eq_true] at h
        exact PE_imp (L2.pe_ifExp (sE t cx h.1.1).2 (sE a cx h.1.2).1 (sE b cx h.2).1) (i_ite hC)
      | _ => simp [mE] at h
    · cases x with
      | IfExp t' a' b' pos =>
        simp only [mE, Bool.and_eq_true] at h
        exact q_ite hC (sE t cx h.1.1).2 (sE a cx h.1.2).2 (sE b cx h.2).2
      | _ => simp [mE] at h
  | .call f es dv, sc, ss, l, kk, W, X, x, cx, h => by
    have pe : PE X x (tE A P C W (.call f es dv)) := by
      cases x with
      | Call fe args kws pos =>
        cases fe with
        | Name y p =>
          cases kws with
          | nil =>
            simp only [mE, Bool.and_eq_true, Bool.not_eq_true'] at h
            obtain ⟨⟨⟨h1, h2⟩, h3⟩, h4⟩ := h
            cases hg : P.defs[f]? with
            | none => rw [hg] at h1; cases h1
            | some df =>
              rw [hg] at h1
              simp only [Bool.and_eq_true, decide_eq_true_eq, Option.isNone_iff_eq_none, Bool.not_eq_true'] at h1
              obtain ⟨⟨⟨⟨⟨rfl, hw⟩, hi⟩, h5⟩, h6⟩, h7⟩ := h1
              have e := samDs_eq h7
              have pa := sL es cx h4
              cases args with
              | nil =>
                cases es with
                | nil => exact s_call0 hC cx hg hw hi e h2 h3
                | cons _ _ => simp [mL] at h4
              | cons a args => exact s_call hC cx hg hw hi e h2 h3 (mL_all h4).1 pa
          | cons _ _ => simp [mE] at h
        | _ => simp [mE] at h
      | _ => simp [mE] at h
    exact ⟨pe, q_val hC pe (isT_plain h rfl)⟩
  | .bi b es, sc, ss, l, kk, W, X, x, cx, h => by
    have pe : PE X x (tE A P C W (.bi b es)) := by
      cases x with
      | Call fe args kws pos =>
        cases fe with
        | Name y p =>
          cases kws with
          | nil =>
            simp only [mE, Bool.and_eq_true, decide_eq_true_eq] at h
            obtain ⟨⟨⟨⟨rfl, h1⟩, h2⟩, h3⟩, h4⟩ := h
            have pa := sL es cx h3
            cases args with
            | nil => simp at h4
            | cons a args => exact s_bi hC cx h1 h2 (mL_all h3).1 pa
          | cons _ _ => simp [mE] at h
        | _ => simp [mE] at h
      | _ => simp [mE] at h
    exact ⟨pe, q_val hC pe (isT_plain h rfl)⟩
  | .isi a t, sc, ss, l, kk, W, X, x, cx, h => by
    have pe : PE X x (tE A P C W (.isi a t)) := by
      cases x with
      | Call fe args kws pos =>
        cases fe with
        | Name y p =>
          rcases kws with _ | ⟨k, kws⟩ <;> rcases args with _ | ⟨a1, _ | ⟨a2, _ | ⟨a3, args⟩⟩⟩ <;> try (simp [mE] at h; done)
          cases a2 with
          | Name z p2 =>
            simp only [mE, Bool.and_eq_true, decide_eq_true_eq] at h
            obtain ⟨⟨⟨⟨⟨⟨⟨rfl, rfl⟩, h1⟩, h2⟩, h3⟩, h4⟩, h5⟩, h6⟩ := h
            exact s_isi hC cx h1 h2 h3 h4 h6 (sE a cx h5).1
          | _ => simp [mE] at h
        | _ => simp [mE] at h
      | _ => simp [mE] at h
    exact ⟨pe, q_val hC pe (isT_plain h rfl)⟩
  | .idx a i, sc, ss, l, kk, W, X, x, cx, h => by
    have pe : PE X x (tE A P C W (.idx a i)) := by
      cases x with
      | Subscript a' i' pos =>
        simp only [mE, Bool.and_eq_true] at h
        exact s_idx hC cx h.1.1 (sE a cx h.1.2).1 (sE i cx h.2).1
      | _ => simp [mE] at h
    exact ⟨pe, q_val hC pe (isT_plain h rfl)⟩
  | .slo a lo, sc, ss, l, kk, W, X, x, cx, h => by
    have pe : PE X x (tE A P C W (.slo a lo)) := by
      cases x with
      | Subscript a' i' pos =>
        cases i' with
        | Slice l u st p2 =>
          rcases l with _ | l <;> rcases u with _ | u <;> rcases st with _ | st <;> simp only [mE, Bool.and_eq_true, Bool.false_eq_true] at h
          exact s_slo hC cx (sE a cx h.1).1 (sE lo cx h.2).1
        | _ => simp [mE] at h
      | _ => simp [mE] at h
    exact ⟨pe, q_val hC pe (isT_plain h rfl)⟩
  | .shi a hi, sc, ss, l, kk, W, X, x, cx, h => by
    have pe : PE X x (tE A P C W (.shi a hi)) := by
      cases x with
      | Subscript a' i' pos =>
        cases i' with
        | Slice l u st p2 =>
          rcases l with _ | l <;> rcases u with _ | u <;> rcases st with _ | st <;> simp only [mE, Bool.and_eq_true, Bool.false_eq_true] at h
          exact s_shi hC cx (sE a cx h.1).1 (sE hi cx h.2).1
        | _ => simp [mE] at h
      | _ => simp [mE] at h
    exact ⟨pe, q_val hC pe (isT_plain h rfl)⟩
  | .slh a lo hi, sc, ss, l, kk, W, X, x, cx, h => by
    have pe : PE X x (tE A P C W (.slh a lo hi)) := by
      cases x with
      | Subscript a' i' pos =>
        cases i' with
        | Slice l u st p2 =>
          rcases l with _ | l <;> rcases u with _ | u <;> rcases st with _ | st <;> simp only [mE, Bool.and_eq_true, Bool.false_eq_true] at h
          exact s_slh hC cx (sE a cx h.1.1).1 (sE lo cx h.1.2).1 (sE hi cx h.2).1
        | _ => simp [mE] at h
      | _ => simp [mE] at h
    exact ⟨pe, q_val hC pe (isT_plain h rfl)⟩
  | .tup es, sc, ss, l, kk, W, X, x, cx, h => by
    have pe : PE X x (tE A P C W (.tup es)) := by
      cases x with
      | Tuple es' k pos =>
        simp only [mE, Bool.and_eq_true, decide_eq_true_eq] at h
        exact s_tup hC (by rw [(mL_all h.1).2]; exact h.2) (sL es cx h.1)
      | _ => simp [mE] at h
    exact ⟨pe, q_val hC pe (isT_plain h rfl)⟩
  | .lst es, sc, ss, l, kk, W, X, x, cx, h => by
    have pe : PE X x (tE A P C W (.lst es)) := by
      cases x with
      | List es' pos =>
        simp only [mE, Bool.and_eq_true, decide_eq_true_eq] at h
        exact s_lst hC (by rw [(mL_all h.1).2]; exact h.2) (sL es cx h.1)
      | _ => simp [mE] at h
    exact ⟨pe, q_val hC pe (isT_plain h rfl)⟩
  | .mrp a b, sc, ss, l, kk, W, X, x, cx, h => by
    have pe : PE X x (tE A P C W (.mrp a b)) := by
      cases x with
      | BinOp a' op' b' pos =>
        simp only [mE, Bool.and_eq_true, decide_eq_true_eq] at h
        obtain ⟨⟨rfl, h1⟩, h2⟩ := h
        exact s_mrp hC (sE a cx h1).1 (sE b cx h2).1
      | _ => simp [mE] at h
    exact ⟨pe, q_val hC pe (isT_plain h rfl)⟩
  | .mls es, sc, ss, l, kk, W, X, x, cx, h => by
    have pe : PE X x (tE A P C W (.mls es)) := by
      cases x with
      | List es' pos =>
        simp only [mE, Bool.and_eq_true, decide_eq_true_eq] at h
        exact s_mls hC (by rw [(mL_all h.1).2]; exact h.2) (sL es cx h.1)
      | _ => simp [mE] at h
    exact ⟨pe, q_val hC pe (isT_plain h rfl)⟩
  | .word e, sc, ss, l, kk, W, X, x, cx, h => by
    have pe : PE X x (tE A P C W (.word e)) := by
      cases x with
      | Call f args kws pos =>
        cases f with
        | Name y p =>
          rcases args with _ | ⟨a, _ | ⟨b, as⟩⟩ <;> cases kws <;> first
            | (simp [mE] at h; done)
            | (cases a with
               | Lambda ps body scope lpos =>
                 simp only [mE, Bool.and_eq_true, decide_eq_true_eq] at h
                 obtain ⟨⟨⟨⟨⟨h1, rfl⟩, h0⟩, h3⟩, h4⟩, h5⟩ := h
                 exact s_word hC cx h1 h0 h3 h4 fun {E Y} c => (sE e c h5).1
               | _ => simp [mE] at h)
        | _ => simp [mE] at h
      | _ => simp [mE] at h
    exact ⟨pe, q_val hC pe (isT_plain h rfl)⟩
  | .frz a, sc, ss, l, kk, W, X, x, cx, h => by
    refine ⟨?_, ?_⟩
    · have h' : mE P N a l sc x = true := by unfold mE at h; exact h
      exact s_frz hC (sE a cx h').1
    · have h' : mE P N a l sc x = true := by unfold mE at h; exact h
      refine PT_imp (sE a cx h').2 fun σ H Q z => ?_
      obtain ⟨B, m, h, ρ, S, s, z⟩ := z
      unfold wpE at z
      refine tE_of hC S s z fun v h1 m1 H1 w q S1 M1 r1 => ?_
      obtain ⟨i, c, rfl, e2, k⟩ := q
      obtain ⟨a, e1, rfl, ql⟩ := r1
      obtain ⟨M2, S2, r2⟩ := S1.freeze e2 e1 ql
      obtain ⟨c, e, _⟩ := k m1 H1 _ S2 (M1.trans M2) r2
      cases e
  | .fld a k t, sc, ss, l, kk, W, X, x, cx, h => by
    have pe : PE X x (tE A P C W (.fld a k t)) := by
      cases x with
      | Attribute a' f pos =>
        simp only [mE, Bool.and_eq_true] at h
        obtain ⟨⟨h1, h2⟩, h3⟩ := h
        cases hk : P.cls[k]? with
        | none => rw [hk] at h1; cases h1
        | some c =>
          rw [hk] at h1
          exact s_fld hC cx hk (of_decide_eq_true h1) h2 (sE a cx h3).1
      | _ => simp [mE] at h
    exact ⟨pe, q_val hC pe (isT_plain h rfl)⟩
  | .lfd a k, sc, ss, l, kk, W, X, x, cx, h => by
    have pe : PE X x (tE A P C W (.lfd a k)) := by
      cases x with
      | Attribute a' f pos =>
        simp only [mE, Bool.and_eq_true] at h
        obtain ⟨⟨h1, h2⟩, h3⟩ := h
        cases hk : P.cls[k]? with
        | none => rw [hk] at h1; cases h1
        | some c =>
          rw [hk] at h1
          simp only [Bool.and_eq_true, decide_eq_true_eq] at h1
          exact s_lfd hC cx hk h1.1 h1.2 h2 (sE a cx h3).1
      | _ => simp [mE] at h
    exact ⟨pe, q_val hC pe (isT_plain h rfl)⟩
  | .mko k f es dv, sc, ss, l, kk, W, X, x, cx, h => by
    have pe : PE X x (tE A P C W (.mko k f es dv)) := by
      cases x with
      | Call fe args kws pos =>
        cases fe with
        | Name y p =>
          cases kws with
          | nil =>
            simp only [mE, Bool.and_eq_true, Bool.not_eq_true'] at h
            obtain ⟨⟨⟨⟨h1, h2⟩, h3⟩, h4⟩, h5⟩ := h
            obtain ⟨c, df, hk, hf, rfl, hw, hi, hn, hd⟩ := mkB_ok h1
            cases args with
            | nil => simp at h5
            | cons a args => exact s_make hC cx (R := fun n Q v h2 => (∃ j, v = .ob k n j) ∧ Q v h2) hk hf hw hi hd hn h2 h3 (mL_all h4).1 (sL es cx h4) (mL_all h4).2 (fun _ _ _ _ => by rw [wpE]) (fun S1 M1 => mko_in hC S1 M1)
          | cons _ _ => simp [mE] at h
        | _ => simp [mE] at h
      | _ => simp [mE] at h
    exact ⟨pe, q_val hC pe (isT_plain h rfl)⟩
  | .lze a b, sc, ss, l, kk, W, X, x, cx, h => by
    have pe : PE X x (tE A P C W (.lze a b)) := by
      unfold mE at h
      split at h <;> first
        | (simp only [Bool.and_eq_true, decide_eq_true_eq] at h; obtain ⟨⟨⟨⟨⟨⟨⟨⟨⟨rfl, h1⟩, h2⟩, rfl⟩, h3⟩, h4⟩, h5⟩, h6⟩, h7⟩, h8⟩ := h; exact s_lze hC cx h1 h2 h3 h4 h5 h6 (sE a cx h7).1 (sE b cx h8).1)
        | cases h
    exact ⟨pe, q_val hC pe (isT_plain h rfl)⟩
  | .lrg a, sc, ss, l, kk, W, X, x, cx, h => by
    have pe : PE X x (tE A P C W (.lrg a)) := by
      unfold mE at h
      split at h <;> first
        | (simp only [Bool.and_eq_true, decide_eq_true_eq] at h; obtain ⟨⟨⟨⟨⟨⟨⟨rfl, h1⟩, h2⟩, rfl⟩, h3⟩, h4⟩, h5⟩, h6⟩ := h; exact s_lrg hC cx h1 h2 h3 h4 h5 (sE a cx h6).1)
        | cases h
    exact ⟨pe, q_val hC pe (isT_plain h rfl)⟩
  | .mth k f a es dv, sc, ss, l, kk, W, X, x, cx, h => by
    have pe : PE X x (tE A P C W (.mth k f a es dv)) := by
      cases x with
      | Call fe args kws pos =>
        cases fe with
        | Attribute a' m ap =>
          cases kws with
          | nil =>
            simp only [mE, Bool.and_eq_true, decide_eq_true_eq] at h
            obtain ⟨⟨⟨⟨⟨h1, h2⟩, h3⟩, h4⟩, h5⟩, h6⟩ := h
            cases hk : P.cls[k]? with
            | none => rw [hk] at h3; simp at h3
            | some c =>
              cases hf : P.defs[f]? with
              | none => rw [hk, hf] at h3; simp at h3
              | some df =>
                rw [hk, hf] at h3
                simp only [Bool.and_eq_true, decide_eq_true_eq, Bool.not_eq_true'] at h3
                obtain ⟨⟨⟨hw, rfl⟩, hi⟩, hd⟩ := h3
                refine s_mth hC cx hk hf hw hi (dvB_ok hd).2 h4 h1 h2 (mL_all h6).1 (fun e => ?_) (sE a cx h5).1 (sL es cx h6)
                subst e
                cases es with
                | nil => rfl
                | cons _ _ => simp [mL] at h6
          | cons _ _ => simp [mE] at h
        | _ => simp [mE] at h
      | _ => simp [mE] at h
    exact ⟨pe, q_val hC pe (isT_plain h rfl)⟩
  | .lno k f a, sc, ss, l, kk, W, X, x, cx, h => by
    have pe : PE X x (tE A P C W (.lno k f a)) := by
      cases x with
      | Call fe args kws pos =>
        cases fe with
        | Name y p =>
          rcases kws with _ | ⟨k1, kws⟩ <;> rcases args with _ | ⟨a1, _ | ⟨a2, args⟩⟩ <;> try (simp [mE] at h; done)
          simp only [mE, Bool.and_eq_true, decide_eq_true_eq] at h
          obtain ⟨⟨⟨⟨⟨rfl, h1⟩, h2⟩, h3⟩, h4⟩, h5⟩ := h
          obtain ⟨c, df, hk, hf, hw, hn, hi⟩ := spMB_ok h1
          exact s_lno hC cx hk hf hw hi hn h2 h3 h5 (sE a cx h4).1
        | _ => simp [mE] at h
      | _ => simp [mE] at h
    exact ⟨pe, q_val hC pe (isT_plain h rfl)⟩
  | .fm1 p a q, sc, ss, l, kk, W, X, x, cx, h => by
    have pe : PE X x (tE A P C W (.fm1 p a q)) := by
      obtain ⟨k1, p1, a', p2, k2, p3, pos, rfl, h1, h2⟩ := v_fm1 h
      exact s_fm1 hC h2 (sE a cx h1).1
    exact ⟨pe, q_val hC pe (isT_plain h rfl)⟩
  | .comp elt tg it ifs, sc, ss, l, kk, W, X, x, cx, h => by
    have pe : PE X x (tE A P C W (.comp elt tg it ifs)) := by
      cases x with
      | ListComp elt' gens scope pos =>
        rcases gens with _ | ⟨⟨tg', it', ifs', as⟩, _ | ⟨g2, gens⟩⟩ <;> simp only [mE, Bool.and_eq_true, decide_eq_true_eq, Bool.false_eq_true] at h
        obtain ⟨⟨⟨⟨⟨⟨⟨rfl, h1⟩, h2⟩, h3⟩, h4⟩, h5⟩, h6⟩, h7⟩ := h
        have ok := L2.blkOk_by h1
        have pe := L2.pe_lc (X := X) (elt := elt') (tg := tg') (iter := it') (ifs := ifs') (scope := scope) (own := ownOf N tg) (pos := pos) (wi := tI A P C W it) (g := tG A tg) (tt := tTs A P C ifs) (te := tE A P C WF elt) cx.calm (by rw [cx.eN]; exact cx.nd) (sI it cx h3 h5) (by rw [cx.eN, cx.eS]; exact ok)
          (fun s H c cl fp => sG (cx.blk scope s H c cl fp ok.kind) tg h2) (fun s H c cl fp => sTs ifs (cx.blk scope s H c cl fp ok.kind) h6) (fun s H c cl fp => (sE elt (cx.blkL scope s H c cl fp ok.kind) h7).1) (fun x => by cases it' <;> first | rfl | cases h4)
        rw [ownOf_slots] at pe
        exact PE_imp pe (i_comp hC)
      | _ => simp [mE] at h
    exact ⟨pe, q_val hC pe (isT_plain h rfl)⟩
theorem sL : ∀ (es : EL) {sc ss : Scope} {l : Bool} {kk : Nat} {W : XK} {X : Cx} {xs : List Expr}, Ctx A P C N sc ss l kk W X → mL P N es l sc xs = true → PA X xs (tL A P C W es)
  | .nil, sc, ss, l, kk, W, X, xs, cx, h => by
    cases xs with
    | nil => exact s_nil hC
    | cons _ _ => simp [mL] at h
  | .cons e r, sc, ss, l, kk, W, X, xs, cx, h => by
    cases xs with
    | nil => simp [mL] at h
    | cons x xs =>
      simp only [mL, Bool.and_eq_true] at h
      exact s_cons hC h.1.2 (sE e cx h.1.1).1 (sL r cx h.2)
theorem sK : ∀ (es : EL) {sc ss : Scope} {l : Bool} {kk : Nat} {W : XK} {X : Cx} {kws : List Keyword}, Ctx A P C N sc ss l kk W X → mL P N es l sc (kws.map (·.value)) = true → L2.PK X kws (tL A P C W es)
  | .nil, sc, ss, l, kk, W, X, kws, cx, h => by
    cases kws with
    | nil => exact s_knil hC
    | cons _ _ => simp [mL] at h
  | .cons e r, sc, ss, l, kk, W, X, kws, cx, h => by
    cases kws with
    | nil => simp [mL] at h
    | cons x xs =>
      rcases x with ⟨nm, e', kp⟩
      simp only [List.map_cons, mL, Bool.and_eq_true] at h
      exact s_kcons hC (sE e cx h.1.1).1 (sK r cx h.2)
theorem sI : ∀ (it : It) {sc ss : Scope} {l : Bool} {kk : Nat} {W : XK} {X : Cx} {tg x : Expr}, Ctx A P C N sc ss l kk W X → itT it tg = true → mI P N it l sc x = true → PI X tg x (tI A P C W it)
  | .seq e, sc, ss, l, kk, W, X, tg, x, cx, ht, h => by
    have h' : mE P N e l sc x = true := by unfold mI at h; exact h
    exact s_seq hC cx (sE e cx h').1
  | .rng1 e, sc, ss, l, kk, W, X, tg, x, cx, ht, h => by
    cases x with
    | Call fe args kws pos =>
      cases fe with
      | Name y p =>
        rcases kws with _ | ⟨k, kws⟩ <;> rcases args with _ | ⟨a1, _ | ⟨a2, args⟩⟩ <;> simp only [mI, Bool.and_eq_true, decide_eq_true_eq, Bool.false_eq_true] at h
        obtain ⟨⟨⟨⟨rfl, h1⟩, h2⟩, h3⟩, h4⟩ := h
        exact s_rng1 hC cx h3 h1 h2 (sE e cx h4).1
      | _ => simp [mI] at h
    | _ => simp [mI] at h
  | .rng2 a b, sc, ss, l, kk, W, X, tg, x, cx, ht, h => by
    cases x with
    | Call fe args kws pos =>
      cases fe with
      | Name y p =>
        rcases kws with _ | ⟨k, kws⟩ <;> rcases args with _ | ⟨a1, _ | ⟨a2, _ | ⟨a3, args⟩⟩⟩ <;> simp only [mI, Bool.and_eq_true, decide_eq_true_eq, Bool.false_eq_true] at h
        obtain ⟨⟨⟨⟨⟨⟨rfl, h1⟩, h2⟩, h3⟩, h4⟩, h5⟩, h6⟩ := h
        exact s_rng2 hC cx h3 h4 h1 h2 (sE a cx h5).1 (sE b cx h6).1
      | _ => simp [mI] at h
    | _ => simp [mI] at h
  | .enm e, sc, ss, l, kk, W, X, tg, x, cx, ht, h => by
    cases tg with
    | Tuple elts kk tpos =>
      cases x with
      | Call fe args kws pos =>
        cases fe with
        | Name y p =>
          rcases kws with _ | ⟨k, kws⟩ <;> rcases args with _ | ⟨a1, _ | ⟨a2, args⟩⟩ <;> simp only [mI, Bool.and_eq_true, decide_eq_true_eq, Bool.false_eq_true] at h
          obtain ⟨⟨⟨⟨rfl, h1⟩, h2⟩, h3⟩, h5⟩ := h
          exact s_enm hC cx h3 h1 h2 (sE e cx h5).1
        | _ => simp [mI] at h
      | _ => simp [mI] at h
    | _ => simp [itT] at ht
theorem sTs : ∀ (es : EL) {sc ss : Scope} {l : Bool} {kk : Nat} {X : Cx} {xs : List Expr}, Ctx A P C N sc ss l kk WF X → mTs P N es l sc xs = true → L2.PTs X xs (tTs A P C es)
  | .nil, sc, ss, l, kk, X, xs, cx, h => by
    cases xs with
    | nil => exact L2.pts_nil
    | cons _ _ => simp [mTs] at h
  | .cons e r, sc, ss, l, kk, X, xs, cx, h => by
    cases r with
    | nil =>
      rcases xs with _ | ⟨x, _ | ⟨y, xs⟩⟩ <;> simp only [mTs, Bool.false_eq_true] at h
      exact L2.pts_one (sE e cx h).2
    | cons _ _ => simp [mTs] at h
end
end
end G43
set_option Elab.async false
set_option linter.all false
set_option maxRecDepth 100000
set_option maxHeartbeats 4000000
namespace G43
open PySem
open L2 (V HO Hp SqL SqT Rd upd upd_same upd_ne Cx OpR R2 VK CallR IxR SlR TE TA TS TT TI TG TGs PE PA PS PSs PT PI PG PGs XK Sp Room Vals)
open PySem.Spec PyProof.Rows
/-! ### the order of the stores -/
theorem blk_fn {env : PySem.Env} (hk : env.scope.kind = .function) : env.blockKind = .function := by
  unfold PySem.Env.blockKind
  rw [hk]
  rfl
def isStar : Expr → Bool
  | .Starred .. => true
  | _ => false
theorem sw_two {x y : Str} {px py pt pt2 : Pos} {kt k2 : Nat} {a b : Expr} {env : PySem.Env} (hk : env.scope.kind = .function) (hx : env.scope.names.lookup x = some .local) (hy : env.scope.names.lookup y = some .local) (hl : py.line = px.line) (hne : x ≠ y)
    (ha : noStar a = true) (hb : noStar b = true) (hf : (foldedForSure 8 a && foldedForSure 8 b) = false) (hc : (constantsAlone 8 a && constantsAlone 8 b) = false) :
    swappedStores [.Tuple [.Name x px, .Name y py] kt pt] (.Tuple [a, b] k2 pt2) env = pure (some [x, y]) := by
  have kx : env.kindOf x = some .local := hx
  have ky : env.kindOf y = some .local := hy
  have d : ([x, y].eraseDups).length = 2 := by
    have : (y == x) = false := by simp [Ne.symm hne]
    simp [List.eraseDups, List.eraseDupsBy, List.eraseDupsBy.loop, this, hne]
  unfold swappedStores
  simp [blk_fn hk, kx, ky, hl, Expr.pos, d, hf, hc]
  rintro (h | h)
  · cases a <;> first | (cases ha; done) | (cases h; done)
  · cases b <;> first | (cases hb; done) | (cases h; done)
theorem sw_three {x y z : Str} {px py pz pt pt2 : Pos} {kt k2 : Nat} {a b c : Expr} {env : PySem.Env} (hk : env.scope.kind = .function) (hx : env.scope.names.lookup x = some .local) (hy : env.scope.names.lookup y = some .local) (hz : env.scope.names.lookup z = some .local)
    (hl : py.line = px.line) (hl2 : pz.line = px.line) (hxy : x ≠ y) (hxz : x ≠ z) (hyz : y ≠ z)
    (ha : noStar a = true) (hb : noStar b = true) (hcc : noStar c = true) (hf : (foldedForSure 8 a && (foldedForSure 8 b && foldedForSure 8 c)) = false) (hc : (constantsAlone 8 a && (constantsAlone 8 b && constantsAlone 8 c)) = false) :
    swappedStores [.Tuple [.Name x px, .Name y py, .Name z pz] kt pt] (.Tuple [a, b, c] k2 pt2) env = pure (some [x, y, z]) := by
  have kx : env.kindOf x = some .local := hx
  have ky : env.kindOf y = some .local := hy
  have kz : env.kindOf z = some .local := hz
  have d : ([x, y, z].eraseDups).length = 3 := by
    have e1 : (y == x) = false := by simp [Ne.symm hxy]
    have e2 : (z == x) = false := by simp [Ne.symm hxz]
    have e3 : (z == y) = false := by simp [Ne.symm hyz]
    simp [List.eraseDups, List.eraseDupsBy, List.eraseDupsBy.loop, e1, e2, e3]
  unfold swappedStores
  simp [blk_fn hk, kx, ky, kz, hl, hl2, Expr.pos, d, hf, hc]
  rintro (h | h | h)
  · cases a <;> first | (cases ha; done) | (cases h; done)
  · cases b <;> first | (cases hb; done) | (cases h; done)
  · cases c <;> first | (cases hcc; done) | (cases h; done)
theorem sw_folded {ts vs : List Expr} {kt k2 : Nat} {pt pt2 : Pos} {env : PySem.Env} (hf : vs.all (foldedForSure 8) = true) : swappedStores [.Tuple ts kt pt] (.Tuple vs k2 pt2) env = pure none := by
  unfold swappedStores
  simp only [hf]
  simp
def cellT (sc : Scope) : Expr → Bool
  | .Name x _ => !decide (sc.names.lookup x = some .local)
  | _ => true
theorem sw_cell {ts vs : List Expr} {kt k2 : Nat} {pt pt2 : Pos} {env : PySem.Env} (hf : ts.any (cellT env.scope) = true) : swappedStores [.Tuple ts kt pt] (.Tuple vs k2 pt2) env = pure none := by
  unfold swappedStores
  simp
  intro _ _ _ _ h
  exfalso
  obtain ⟨a, h1, h2⟩ := List.any_eq_true.mp hf
  apply h a h1
  cases a with
  | Name x pos =>
    simp only [cellT, Bool.not_eq_true', decide_eq_false_iff_not] at h2
    have h3 : ¬ env.kindOf x = some NameKind.local := h2
    simp [h3]
  | _ => rfl
/-! ### the matcher for statements -/
def swC (sc : Scope) (x : Str) (px : Pos) : Expr → Bool
  | .ListComp _ _ scope pos => decide (sc.names.lookup x = some .local) && (px.line == pos.line) && !(scope.names.any fun (n, k) => n == x && (k == .local || k == .cell))
  | _ => false
def noCompr : Expr → Bool
  | .ListComp .. => false
  | .SetComp .. => false
  | .DictComp .. => false
  | _ => true
def noTup : Expr → Bool
  | .Tuple _ _ _ => false
  | _ => true
def isLC : Expr → Bool
  | .ListComp .. => true
  | _ => false
def isCo : E → Bool
  | .comp .. => true
  | _ => false
def nmB (N : List Str) (ss : Scope) : List Nat → List Expr → Bool
  | [], [] => true
  | i :: is, .Name x _ :: es => decide (N[i]? = some x) && stoB ss x && nmB N ss is es
  | _, _ => false
def par2B (sc : Scope) : List Expr → List Expr → Bool
  | [.Name x px, .Name y py], [a, b] => decide (sc.names.lookup x = some .local) && decide (sc.names.lookup y = some .local) && decide (py.line = px.line) && decide (x ≠ y) && !(foldedForSure 8 a && foldedForSure 8 b) && !(constantsAlone 8 a && constantsAlone 8 b)
  | [.Name x px, .Name y py, .Name z pz], [a, b, c] => decide (sc.names.lookup x = some .local) && decide (sc.names.lookup y = some .local) && decide (sc.names.lookup z = some .local) && decide (py.line = px.line) && decide (pz.line = px.line) && decide (x ≠ y) && decide (x ≠ z) && decide (y ≠ z) &&
      !(foldedForSure 8 a && (foldedForSure 8 b && foldedForSure 8 c)) && !(constantsAlone 8 a && (constantsAlone 8 b && constantsAlone 8 c))
  | _, _ => false
section
variable (P : Pg) (N : List Str) (sc ss : Scope) (l : Bool)
/-- a lambda of e -/
def lmB (e : E) : Expr → Bool
  | .Lambda ps body scope _ => LamX.lamSB sc scope && noPar ps && mE P N e false scope body
  | _ => false
/-- [word(call) for call in calls] -/
def wcB (i iz : Nat) : Expr → Bool
  | .ListComp (.Call (.Name wn _) [.Name z2 _] [] _) [⟨.Name z pz, .Name y _, [], as⟩] scope _ => decide (as = 0) && decide (wn = P.wn) && gloB (L2.relS scope sc) P.wn && L2.blkC N sc scope [(z, iz)] && mG N scope (.nm iz) (.Name z pz) && decide (N[iz]? = some z) && decide (z2 = z) && visB (L2.relS scope sc) z && !odd z && decide (N[i]? = some y) && visB sc y && !odd y
  | _ => false
/-- [call() for call in calls] -/
def vcB (i iz : Nat) : Expr → Bool
  | .ListComp (.Call (.Name z2 _) [] [] _) [⟨.Name z pz, .Name y _, [], as⟩] scope _ => decide (as = 0) && L2.blkC N sc scope [(z, iz)] && mG N scope (.nm iz) (.Name z pz) && decide (N[iz]? = some z) && decide (z2 = z) && visB (L2.relS scope sc) z && !odd z && decide (N[i]? = some y) && visB sc y && !odd y
  | _ => false
/-- what follows behind the calls that are kept -/
def waD (i : Nat) : EL → List Stmt → Option (List Stmt)
  | .nil, st => some st
  | .cons e r, .Expr (.Call (.Attribute (.Name y _) a ap) [v] [] cp) _ :: st => if (decide (N[i]? = some y) && visB sc y && !odd y && decide (a = "append") && (ap.endLine == cp.line) && lmB P N sc e v && noStar v) = true then waD i r st else none
  | _, _ => none
def wlD (i iz : Nat) : EL → List Stmt → Option (List Stmt)
  | .cons e r, .Assign [.Name y _] (.List [v] _) _ :: st => if (l && decide (N[i]? = some y) && stoB ss y && lmB P N sc e v && noStar v && decide (i ≠ iz) && decide ((EL.cons e r).len ≤ 900)) = true then waD P N sc i r st else none
  | _, _ => none
/-- its end -/
def wtB (i iz : Nat) : Option E → List Stmt → Bool
  | none, [.Return (some c) _] => wcB P N sc i iz c
  | some r, [.Return (some (.Compare c [op] [b] _)) _] => decide (op = .Eq) && !behindInMarks .Eq b && wcB P N sc i iz c && mE P N r l sc b
  | _, _ => false
/-- the further ones -/
def waB (i iz : Nat) (rhs : Option E) : EL → List Stmt → Bool
  | .nil, st => wtB P N sc l i iz rhs st
  | .cons e r, .Expr (.Call (.Attribute (.Name y _) a ap) [v] [] cp) _ :: st => decide (N[i]? = some y) && visB sc y && !odd y && decide (a = "append") && (ap.endLine == cp.line) && lmB P N sc e v && noStar v && waB i iz rhs r st
  | _, _ => false
def wlB (i iz : Nat) (rhs : Option E) : EL → List Stmt → Bool
  | .cons e r, .Assign [.Name y _] (.List [v] _) _ :: st => l && decide (N[i]? = some y) && stoB ss y && lmB P N sc e v && noStar v && decide (i ≠ iz) && decide ((EL.cons e r).len ≤ 900) && waB P N sc l i iz rhs r st
  | _, _ => false
mutual
def mS : S → Stmt → Bool
  | .set i e, .Assign [.Name x px] v _ => decide (N[i]? = some x) && stoB ss x && mE P N e l sc v && (noCompr v || (isLC v && (!swC sc x px v || isCo e)))
  | .par is es, .Assign [.Tuple ts _ _] (.Tuple vs _ _) _ => mL P N es l sc vs && decide (vs.length ≤ 1000) && nmB N ss is ts && (par2B sc ts vs || vs.all (foldedForSure 8) || ts.any (cellT sc))
  | .unp tg e, .Assign [.Tuple ts k p] v _ => mG N ss tg (.Tuple ts k p) && mE P N e l sc v && noCompr v && noTup v
  | .nev, _ => true
  | .sub o i v, .Assign [.Subscript o' i' _] v' _ => mE P N o l sc o' && mE P N i l sc i' && mE P N v l sc v' && noSlice i' && noCompr v'
  | .app o v, .Expr (.Call (.Attribute o' a ap) [v'] [] cp) _ => decide (a = "append") && (ap.endLine == cp.line) && (match o' with | .Name _ _ => true | _ => false) && mE P N o l sc o' && mE P N v l sc v' && noStar v'
  | .lap o v, .Expr (.Call (.Attribute o' a ap) [v'] [] cp) _ => decide (a = "append") && (ap.endLine == cp.line) && (match o' with | .Attribute u f _ => nameB u | _ => false) && mE P N o l sc o' && mE P N v l sc v' && noStar v'
  | .fst o k t e, .Assign [.Attribute o' f _] v _ => mE P N (.var o) l sc o' && (match P.cls[k]? with | some c => decide (c.N[t]? = some f) && !fixF f | none => false) && mE P N e l sc v && noCompr v
  | .fnl o k t e, .Assign [.Attribute o' f _] v _ => mE P N (.var o) l sc o' && (match P.cls[k]? with | some c => decide (c.N[t]? = some f) && decide (c.lf = f) && fixF f | none => false) && mE P N e l sc v && noCompr v
  | .exp e, .Expr e' _ => mE P N e l sc e' && noCompr e'
  | .iff t a b, .If t' a' b' _ => mE P N t l sc t' && mSL a a' && mSL b b'
  | .for _ tg it body, .For tg' it' body' [] _ => mG N ss tg tg' && itT it tg' && noSet it' && mI P N it l sc it' && mSL body body'
  | .whl _ t body, .While t' body' [] _ => mE P N t l sc t' && mSL body body'
  | .ret e, .Return (some e') _ => mE P N e l sc e'
  | .retN, .Return none _ => true
  | .rse, _ => true
  | .rsf c es, .Raise (some (.Call (.Name x _) (a :: as) [] _)) none _ => decide (c ∈ P.raf) && (match P.exc[c]? with | some w => decide (w.1 = x) | none => false) && gloB sc x && !odd x && mL P N es l sc (a :: as)
  | .rsx c, .Raise (some (.Call (.Name x _) [.Constant (.str _) _ _] [] _)) none _ => decide (c ∈ P.rai) && (match P.exc[c]? with | some w => decide (w.1 = x) | none => false) && gloB sc x && !odd x
  | .pass, .Pass _ => true
  | _, _ => false
def mSL : SL → List Stmt → Bool
  | .nil, [] => true
  | .cons s r, s' :: r' => mS s s' && mSL r r'
  | _, _ => false
end
end
end G43
set_option Elab.async false
set_option linter.all false
set_option maxRecDepth 100000
set_option maxHeartbeats 4000000
namespace G43
open PySem PySem.Spec PyProof.Rows PySem.W
open L2 (V HO Hp upd upd_same upd_ne Cx VK TE TI TG PE PI PG Turn Inv thn thnF cloFrom RelV FpOk BlkOk wipe gName pinsAt mem_pinsAt)
/-! ### a list comprehension whose element leans on the frame around it -/
section
variable {X : Cx}
/-- its reading: n the turns, W what holds ahead of each -/
def tOwn (n : Nat) (wi : TI) (te : TE) (iz : Nat) : TE := fun σ H Q => wi σ H fun J H1 => ∀ D, H1 D = none → ∃ W : Nat → Hp → Prop, W 0 (upd H1 D (HO.lst [])) ∧ ∀ i H, W i H →
  (J.stop i H ∧ Q (.ref D) H) ∨ (i < n ∧ J.go i H ∧ ∀ x H', J.yld i H x H' → te ((wipe σ [iz]).set iz (some x)) H' fun y H4 => ∃ acc, H4 D = some (HO.lst acc) ∧ acc.length < sizeLine ∧ W (i + 1) (upd H4 D (HO.lst (acc ++ [y]))))
end
end G43
set_option Elab.async false
set_option linter.all false
set_option maxRecDepth 100000
set_option maxHeartbeats 4000000
namespace G43
open PySem
open L2 (V HO Hp SqL SqT Rd upd upd_same upd_ne Cx OpR R2 VK CallR IxR SlR TE TA TS TT TI TG TGs PE PA PS PSs PT PI PG PGs XK Sp Room Vals Ends)
open PySem.Spec PyProof.Rows
/-! ### calls in a list, each by the law's own word -/
section
variable {A : Ad} {P : Pg} {C : CallT} {N : List Str} {sc ss : Scope} {l : Bool} {kk : Nat} {W : XK} {X : Cx}
/-- no list, no instance, no table -/
def Still (o : HO) : Prop := (∀ xs, o ≠ .lst xs) ∧ (∀ C dx fs, o ≠ .ins C dx fs) ∧ ∀ ps, o ≠ .tbl ps
theorem still_ext {φ : Heap → Prop} : Still (HO.ext φ) := by
  refine ⟨fun _ z => ?_, fun _ _ _ z => ?_, fun _ z => ?_⟩ <;> cases z
theorem Clo.on {H H' : Hp} {e : E} {f : Addr} (c : Clo A P C kk X H e f) (k : ∀ b o, H b = some o → Still o → H' b = some o) : Clo A P C kk X H' e f := by
  obtain ⟨c', ps, b, sc, ⟨h1, h2⟩, r⟩ := c
  exact ⟨c', ps, b, sc, ⟨k _ _ h1 still_ext, k _ _ h2 still_ext⟩, r⟩
theorem CloL.on {H H' : Hp} (k : ∀ b o, H b = some o → Still o → H' b = some o) : ∀ {es : EL} {fs : List Addr}, CloL A P C kk X H es fs → CloL A P C kk X H' es fs
  | .nil, [], _ => trivial
  | .nil, _ :: _, c => c.elim
  | .cons _ _, [], c => c.elim
  | .cons e r, f :: fs, c => ⟨c.1.on k, CloL.on k c.2⟩
theorem CloL.snoc {H : Hp} : ∀ {es : EL} {fs : List Addr} {e : E} {f : Addr}, CloL A P C kk X H es fs → Clo A P C kk X H e f → ∀ {es' : EL}, es' = (es.app (.cons e .nil)) → CloL A P C kk X H es' (fs ++ [f])
  | .nil, [], e, f, _, c, _, rfl => ⟨c, trivial⟩
  | .nil, _ :: _, _, _, c, _, _, _ => c.elim
  | .cons _ _, [], _, _, c, _, _, _ => c.elim
  | .cons e r, f :: fs, _, _, c, d, _, rfl => ⟨c.1, CloL.snoc c.2 d rfl⟩
theorem Mv.still {B : Addr → Prop} {m m' : List Addr} {h h' : Hs} {H H' : Hp} (S : Sim A B m h H) (M : Mv m h H m' h' H') : ∀ b o, H b = some o → Still o → H' b = some o :=
  fun b o e s => (M.keep b o e s.2.2 (S.notTup e s.1 s.2.1)).1
variable (hC : MonoC C C)
include hC
/-- the calls kept so far -/
def tWa (A : Ad) (P : Pg) (C : CallT) (W : XK) (kk : Nat) (X : Cx) (i iz : Nat) (pre rest : EL) (rhs : Option E) : TS := fun D σ H => ∃ (B : Addr → Prop) (m : List Addr) (h : Hs) (H0 : Hp) (ρ : G43.Env) (a : Addr) (fs : List Addr),
  H0 a = none ∧ Mv m h H0 m h H ∧ Sim A (Bx B a) m h H ∧ Sl A B m h H ρ σ ∧ Sl A (Bx B a) m h H ρ σ ∧ σ[i]? = some (some (.ref a)) ∧ H a = some (.lst (fs.map V.ref)) ∧ CloL A P C kk X H pre fs ∧ fs.length + rest.len ≤ 900 ∧
  wpE P C (wlsE (pre.app rest) rhs) ρ h (Kv A B m h H0 D.rt) (Kx A B m h H0 W)
end
end G43
set_option Elab.async false
set_option linter.all false
set_option maxRecDepth 100000
set_option maxHeartbeats 4000000
namespace G43
open PySem
open L2 (V HO Hp SqL SqT Rd upd upd_same upd_ne Cx OpR R2 VK CallR IxR SlR TE TA TS TT TI TG TGs PE PA PS PSs PT PI PG PGs XK Sp Room Vals Ends)
open PySem.Spec PyProof.Rows
/-! ### statements -/
def Kn (A : Ad) (B : Addr → Prop) (m : List Addr) (h : Hs) (H : Hp) (nx : L2.St → Hp → Prop) : Env → Hs → Prop := fun ρ' h' => ∀ m' H' σ', Sim A B m' h' H' → Mv m h H m' h' H' → Sl A B m' h' H' ρ' σ' → nx σ' H'
def tS (A : Ad) (P : Pg) (C : CallT) (W : XK) (s : S) : TS := fun D σ H => ∃ B m h ρ, Sim A B m h H ∧ Sl A B m h H ρ σ ∧ wpS P C s ρ h (Kn A B m h H D.nx) (Kv A B m h H D.rt) (Kx A B m h H W)
def tSL (A : Ad) (P : Pg) (C : CallT) (W : XK) (s : SL) : TS := fun D σ H => ∃ B m h ρ, Sim A B m h H ∧ Sl A B m h H ρ σ ∧ wpSL P C s ρ h (Kn A B m h H D.nx) (Kv A B m h H D.rt) (Kx A B m h H W)
theorem Kn.move {A : Ad} {B : Addr → Prop} {m m1 : List Addr} {h h1 : Hs} {H H1 : Hp} {nx : L2.St → Hp → Prop} (M : Mv m h H m1 h1 H1) : ∀ ρ h', Kn A B m h H nx ρ h' → Kn A B m1 h1 H1 nx ρ h' := fun ρ h' k m' H' σ' S M' sl => k m' H' σ' S (M.trans M') sl
theorem PS_imp {X : Cx} {e : Stmt} {t t' : TS} (p : PS X e t) (i : ∀ D σ H, t' D σ H → t D σ H) : PS X e t' := ⟨fun pins s σ H D I z => p.run pins s σ H D I (i D σ H z)⟩
theorem PSs_imp {X : Cx} {e : List Stmt} {t t' : TS} (p : PSs X e t) (i : ∀ D σ H, t' D σ H → t D σ H) : PSs X e t' := ⟨fun pins s σ H D I z => p.run pins s σ H D I (i D σ H z)⟩
def setV (σ : L2.St) : List Nat → List V → L2.St
  | i :: is, v :: vs => setV (σ.set i (some v)) is vs
  | _, _ => σ
theorem Sl.setAll {A : Ad} {B : Addr → Prop} {m : List Addr} {h : Hs} {H : Hp} : ∀ {is : List Nat} {vs : List RV} {ws : List V} {ρ : Env} {σ : L2.St}, Sl A B m h H ρ σ → RpRs A B m h H vs ws → Sl A B m h H (setAll ρ is vs) (setV σ is ws)
  | [], _, _, _, _, s, r => by cases r <;> exact s
  | i :: is, _, _, _, _, s, .nil => s
  | i :: is, _, _, _, _, s, .cons q r => by
    unfold G43.setAll setV
    exact Sl.setAll (s.set i q) r
def gNs (is : List Nat) : TGs := fun vs σ H Q => vs.length = is.length ∧ Q (setV σ is vs) H
section
variable {A : Ad} {P : Pg} {C : CallT} {N : List Str} {sc ss : Scope} {l : Bool} {kk : Nat} {W : XK} {X : Cx}
theorem nm_star {ss : Scope} : ∀ {is : List Nat} {es : List Expr}, nmB N ss is es = true → es.all noStar = true ∧ es.length = is.length
  | [], [], _ => ⟨rfl, rfl⟩
  | [], _ :: _, h => by simp [nmB] at h
  | _ :: _, [], h => by simp [nmB] at h
  | i :: is, e :: es, h => by
    cases e with
    | Name x pos =>
      simp only [nmB, Bool.and_eq_true] at h
      obtain ⟨h1, h2⟩ := nm_star h.2
      exact ⟨by rw [List.all_cons, h1]; rfl, by simp [h2]⟩
    | _ => simp [nmB] at h
theorem sNs (cx : Ctx A P C N sc ss l kk W X) : ∀ {is : List Nat} {es : List Expr}, nmB N ss is es = true → PGs X es (gNs is)
  | [], [], _ => PGs_imp L2.pgs_nil fun v σ H Q z => by
    obtain ⟨h1, h2⟩ := z
    cases v with
    | nil => exact ⟨rfl, h2⟩
    | cons _ _ => cases h1
  | [], _ :: _, h => by simp [nmB] at h
  | _ :: _, [], h => by simp [nmB] at h
  | i :: is, e :: es, h => by
    cases e with
    | Name x pos =>
      simp only [nmB, Bool.and_eq_true, decide_eq_true_eq] at h
      obtain ⟨s1, s2⟩ := cx.st x h.1.2
      have g := L2.pg_name (X := X) (i := i) (x := x) (pos := pos) (by rw [cx.eN]; exact cx.nd) (by rw [cx.eN]; exact h.1.1) (by rw [cx.eS]; exact s1) (by rw [cx.eS]; exact s2)
      refine PGs_imp (L2.pgs_cons g (sNs cx h.2) rfl) fun v σ H Q z => ?_
      obtain ⟨h1, h2⟩ := z
      cases v with
      | nil => cases h1
      | cons w ws => exact ⟨w, ws, rfl, by simpa using h1, h2⟩
    | _ => simp [nmB] at h
variable (hC : MonoC C C)
include hC
/-- target = value by a value -/
theorem i_set {i : Nat} {e : E} : ∀ D σ H, tS A P C W (.set i e) D σ H → L2.tAsg (tE A P C W e) (L2.gName i) D σ H := fun D σ H z => by
  obtain ⟨B, m, h, ρ, S, s, z⟩ := z
  unfold wpS at z
  exact tE_of hC S s z fun v h1 m1 H1 w q S1 M1 r1 => q m1 H1 _ S1 M1 ((s.move S M1).set i r1)
theorem swaps_no {v : Expr} {t : Option Expr} {l : Nat} {env : PySem.Env} (h : noCompr v = true) : swapsWith v t l env = pure false := by
  cases v <;> first | rfl | cases h
theorem sole_no {v t : Expr} {l : Nat} {env : PySem.Env} (h : noCompr v = true) : swapsWithSole [t] v l env = pure false := swaps_no hC (t := some t) h
theorem swaps_comp {elt : Expr} {gs : List Comprehension} {scope : Scope} {pos px : Pos} {x : Str} {l : Nat} {env : PySem.Env} (hk : env.scope.kind = .function) (h : swC env.scope x px (.ListComp elt gs scope pos) = false) : swapsWith (.ListComp elt gs scope pos) (some (.Name x px)) l env = pure false := by
  have e : swapsWith (.ListComp elt gs scope pos) (some (.Name x px)) l env = pure (env.blockKind == .function && env.kindOf x == some .local && px.line == pos.line && !(scope.names.any fun (n, k) => n == x && (k == .local || k == .cell))) := rfl
  rw [e, blk_fn hk]
  simp only [swC] at h
  have e2 : (env.kindOf x == some NameKind.local) = decide (env.scope.names.lookup x = some NameKind.local) := by
    show (env.scope.names.lookup x == some NameKind.local) = _
    by_cases q : env.scope.names.lookup x = some NameKind.local
    · simp [q]
    · simp [q]
  rw [e2]
  simp only [beq_self_eq_true, Bool.true_and]
  rw [h]
theorem s_set (cx : Ctx A P C N sc ss l kk W X) {i : Nat} {e : E} {x : Str} {v : Expr} {px pos : Pos} (hN : N[i]? = some x) (hs : stoB ss x = true) (hm : mE P N e l sc v = true) (hw : (noCompr v || (isLC v && (!swC sc x px v || isCo e))) = true) :
    PS X (.Assign [.Name x px] v pos) (tS A P C W (.set i e)) := by
  obtain ⟨s1, s2⟩ := cx.st x hs
  have nd : X.N.Nodup := by rw [cx.eN]; exact cx.nd
  have hi : X.N[i]? = some x := by rw [cx.eN]; exact hN
  have plain : swapsWith v (some (.Name x px)) pos.line X.env = pure false → PS X (.Assign [.Name x px] v pos) (tS A P C W (.set i e)) := fun sw =>
    PS_imp (L2.ps_set (i := i) nd hi (by rw [cx.eS]; exact s1) (sE hC e cx hm).1 sw (by rw [cx.eS]; exact s2)) (i_set hC)
  by_cases hn : noCompr v = true
  · exact plain (swaps_no hC hn)
  · cases v with
    | ListComp elt' gens scope p =>
      by_cases hsw : swC sc x px (.ListComp elt' gens scope p) = true
      · cases e with
        | comp elt tg it ifs =>
          rcases gens with _ | ⟨⟨tg', it', ifs', as⟩, _ | ⟨g2, gens⟩⟩ <;> simp only [mE, Bool.and_eq_true, decide_eq_true_eq, Bool.false_eq_true] at hm
          obtain ⟨⟨⟨⟨⟨⟨⟨rfl, h1⟩, h2⟩, h3⟩, h4⟩, h5⟩, h6⟩, h7⟩ := hm
          have ok := L2.blkOk_by h1
          simp only [swC, Bool.and_eq_true, decide_eq_true_eq, Bool.not_eq_true'] at hsw
          have hyl : X.env.scope.names.lookup x = some .local := by rw [cx.eS]; exact hsw.1.1
          have pe := L2.ps_setLc (X := X) (i := i) (y := x) (py := px) (elt := elt') (tg := tg') (iter := it') (ifs := ifs') (scope := scope) (own := ownOf N tg) (pos := p) (spos := pos) (wi := tI A P C W it) (g := tG A tg) (tt := tTs A P C ifs) (te := tE A P C WF elt) cx.calm nd hi hyl
            (L2.sw_true (by rw [cx.eS]; exact cx.kd) hyl hsw.1.2 hsw.2) (sI hC it cx h3 h5) (by rw [cx.eN, cx.eS]; exact ok)
            (fun s H c cl fp => sG (cx.blk scope s H c cl fp ok.kind) tg h2) (fun s H c cl fp => sTs hC ifs (cx.blk scope s H c cl fp ok.kind) h6) (fun s H c cl fp => (sE hC elt (cx.blkL scope s H c cl fp ok.kind) h7).1) (fun x => by cases it' <;> first | rfl | cases h4)
          rw [ownOf_slots] at pe
          exact PS_imp pe fun D σ H z => i_comp hC σ H _ (i_set hC D σ H z)
        | _ => simp [hn, hsw, isCo] at hw
      · refine plain (swaps_comp hC (by rw [cx.eS]; exact cx.kd) ?_)
        rw [cx.eS]
        simpa using hsw
    | SetComp a b c d => simp [hn, isLC] at hw
    | DictComp a b c d f => simp [hn, isLC] at hw
    | _ => exact absurd rfl hn
theorem i_par2 {i j : Nat} {es : EL} : ∀ D σ H, tS A P C W (.par [i, j] es) D σ H → L2.tPar i j (tL A P C W es) D σ H := fun D σ H z => by
  obtain ⟨B, m, h, ρ, S, s, z⟩ := z
  unfold wpS at z
  refine tL_of hC S s z fun vs h1 m1 H1 ws q S1 M1 r1 => ?_
  obtain ⟨hl, q⟩ := q
  rw [← r1.length] at hl
  have sl := (s.move S M1).setAll (is := [i, j]) r1
  rcases ws with _ | ⟨a, _ | ⟨b, _ | ⟨c, ws⟩⟩⟩ <;> simp at hl
  exact ⟨a, b, rfl, q m1 H1 _ S1 M1 sl⟩
theorem i_par3 {i j k : Nat} {es : EL} : ∀ D σ H, tS A P C W (.par [i, j, k] es) D σ H → L2.tPar3 i j k (tL A P C W es) D σ H := fun D σ H z => by
  obtain ⟨B, m, h, ρ, S, s, z⟩ := z
  unfold wpS at z
  refine tL_of hC S s z fun vs h1 m1 H1 ws q S1 M1 r1 => ?_
  obtain ⟨hl, q⟩ := q
  rw [← r1.length] at hl
  have sl := (s.move S M1).setAll (is := [i, j, k]) r1
  rcases ws with _ | ⟨a, _ | ⟨b, _ | ⟨c, _ | ⟨d, ws⟩⟩⟩⟩ <;> simp at hl
  exact ⟨a, b, c, rfl, q m1 H1 _ S1 M1 sl⟩
theorem i_parN {is : List Nat} {es : EL} (hz : es.len ≤ 1000) : ∀ D σ H, tS A P C W (.par is es) D σ H → L2.tAsg (L2.tTup (tL A P C W es)) (L2.gTup A.K is.length (gNs is)) D σ H := fun D σ H z => by
  obtain ⟨B, m, h, ρ, S, s, z⟩ := z
  unfold wpS at z
  refine tL_of hC S s (wpL_len hC hC es z) fun vs h1 m1 H1 ws q S1 M1 r1 => ?_
  obtain ⟨h0, hl, q⟩ := q
  refine ⟨by rw [r1.length, h0]; exact line_of hC hz, fun p hp => ?_⟩
  obtain ⟨M2, S2⟩ := S1.news (o := .tup ws) hp
  have hl2 : ws.length = is.length := by rw [r1.length]; exact hl
  exact ⟨p, ws, rfl, SqT.of upd_same, hl2, hl2, q m1 _ _ S2 (M1.trans M2) (((s.move S M1).setAll r1).move S1 M2)⟩
theorem ne_ix {i j : Nat} {x y : Str} (hi : N[i]? = some x) (hj : N[j]? = some y) (h : x ≠ y) : i ≠ j := fun e => by
  subst e
  rw [hi] at hj
  exact h (Option.some.inj hj)
theorem s_par (cx : Ctx A P C N sc ss l kk W X) {is : List Nat} {es : EL} {ts vs : List Expr} {kt k2 : Nat} {pt pt2 pos : Pos} (hm : mL P N es l sc vs = true) (hz : vs.length ≤ 1000) (hn : nmB N ss is ts = true)
    (hw : (par2B sc ts vs || vs.all (foldedForSure 8) || ts.any (cellT sc)) = true) : PS X (.Assign [.Tuple ts kt pt] (.Tuple vs k2 pt2) pos) (tS A P C W (.par is es)) := by
  have nd : X.N.Nodup := by rw [cx.eN]; exact cx.nd
  have pa := sL hC es cx hm
  obtain ⟨st, len⟩ := mL_all hm
  have kd : X.env.scope.kind = .function := by rw [cx.eS]; exact cx.kd
  have unsw : swappedStores [.Tuple ts kt pt] (.Tuple vs k2 pt2) X.env = pure none → PS X (.Assign [.Tuple ts kt pt] (.Tuple vs k2 pt2) pos) (tS A P C W (.par is es)) := fun sw => by
    obtain ⟨t1, t2⟩ := nm_star hn
    obtain ⟨a1, a2⟩ := assign_len X.env t1
    have g := L2.pg_tup (X := X) (k := kt) (pos := pt) (n := is.length) cx.calm (sNs cx hn) (by rw [a1, t2]) a2
    rw [cx.eK] at g
    exact PS_imp (L2.ps_asg (L2.pe_tup pa) g rfl sw rfl) (i_parN hC (by rw [len]; exact hz))
  simp only [Bool.or_eq_true] at hw
  rcases hw with (hw | hw) | hw
  · unfold par2B at hw
    split at hw
    · rename_i x px y py a b
      simp only [Bool.and_eq_true, decide_eq_true_eq, Bool.not_eq_true'] at hw
      obtain ⟨⟨⟨⟨⟨w1, w2⟩, w3⟩, w4⟩, w5⟩, w6⟩ := hw
      rcases is with _ | ⟨i, _ | ⟨j, _ | ⟨k, is⟩⟩⟩ <;> simp only [nmB, Bool.and_eq_true, decide_eq_true_eq, Bool.false_eq_true, and_false] at hn
      simp only [List.all_cons, Bool.and_eq_true] at st
      have e1 : X.env.scope.names.lookup x = some .local := by rw [cx.eS]; exact w1
      have e2 : X.env.scope.names.lookup y = some .local := by rw [cx.eS]; exact w2
      exact PS_imp (L2.ps_par cx.calm nd (by rw [cx.eN]; exact hn.1.1) (by rw [cx.eN]; exact hn.2.1.1) (ne_ix hC hn.1.1 hn.2.1.1 w4) e1 e2 pa (sw_two kd e1 e2 w3 w4 st.1 st.2.1 w5 w6)) (i_par2 hC)
    · rename_i x px y py z pz a b c
      simp only [Bool.and_eq_true, decide_eq_true_eq, Bool.not_eq_true'] at hw
      obtain ⟨⟨⟨⟨⟨⟨⟨⟨⟨w1, w2⟩, w3⟩, w4⟩, w5⟩, w6⟩, w7⟩, w8⟩, w9⟩, w10⟩ := hw
      rcases is with _ | ⟨i, _ | ⟨j, _ | ⟨k, _ | ⟨l, is⟩⟩⟩⟩ <;> simp only [nmB, Bool.and_eq_true, decide_eq_true_eq, Bool.false_eq_true, and_false] at hn
      simp only [List.all_cons, Bool.and_eq_true] at st
      have e1 : X.env.scope.names.lookup x = some .local := by rw [cx.eS]; exact w1
      have e2 : X.env.scope.names.lookup y = some .local := by rw [cx.eS]; exact w2
      have e3 : X.env.scope.names.lookup z = some .local := by rw [cx.eS]; exact w3
      exact PS_imp (L2.ps_par3 cx.calm nd (by rw [cx.eN]; exact hn.1.1) (by rw [cx.eN]; exact hn.2.1.1) (by rw [cx.eN]; exact hn.2.2.1.1) (ne_ix hC hn.1.1 hn.2.1.1 w6) (ne_ix hC hn.1.1 hn.2.2.1.1 w7) (ne_ix hC hn.2.1.1 hn.2.2.1.1 w8) e1 e2 e3 pa
        (sw_three kd e1 e2 e3 w4 w5 w6 w7 w8 st.1 st.2.1 st.2.2.1 w9 w10)) (i_par3 hC)
    · cases hw
  · exact unsw (sw_folded hw)
  · exact unsw (sw_cell (by rw [cx.eS]; exact hw))
theorem s_unp (cx : Ctx A P C N sc ss l kk W X) {tg : Tg} {e : E} {ts : List Expr} {v : Expr} {k : Nat} {p pos : Pos} (hg : mG N ss tg (.Tuple ts k p) = true) (hm : mE P N e l sc v = true) (hn : noCompr v = true) (ht : noTup v = true) :
    PS X (.Assign [.Tuple ts k p] v pos) (tS A P C W (.unp tg e)) := by
  refine PS_imp (L2.ps_asg (sE hC e cx hm).1 (sG cx tg hg) (sole_no hC hn) (by cases v <;> first | rfl | cases ht) rfl) fun D σ H z => ?_
  obtain ⟨B, m, h, ρ, S, s, z⟩ := z
  unfold wpS at z
  refine tE_of hC S s z fun v h1 m1 H1 w q S1 M1 r1 => ?_
  obtain ⟨p, rfl, q⟩ := q
  exact ⟨B, m1, h1, p, ρ, _, S1, s.move S M1, r1, q, fun ρ' σ' k sl _ => k m1 H1 σ' S1 M1 sl⟩
theorem s_sub (cx : Ctx A P C N sc ss l kk W X) {o i v : E} {o' i' v' : Expr} {p pos : Pos} (ho : mE P N o l sc o' = true) (hi : mE P N i l sc i' = true) (hv : mE P N v l sc v' = true) (hs : noSlice i' = true) (hn : noCompr v' = true) :
    PS X (.Assign [.Subscript o' i' p] v' pos) (tS A P C W (.sub o i v)) := by
  refine PS_imp (L2.ps_asg (sE hC v cx hv).1 (L2.pg_sub (sE hC o cx ho).1 (sE hC i cx hi).1 L2.set_list (by intro _; cases i' <;> first | rfl | cases hs)) (sole_no hC hn) rfl rfl) fun D σ H z => ?_
  obtain ⟨B, m, h, ρ, S, s, z⟩ := z
  unfold wpS at z
  refine tE_of hC S s z fun y h1 m1 H1 w q S1 M1 r1 => ?_
  refine tE_of hC S1 (s.move S M1) (wpE_next hC M1 q) fun x h2 m2 H2 w2 q2 S2 M2 r2 => ?_
  refine tE_of hC S2 ((s.move S M1).move S1 M2) (wpE_next hC (M1.trans M2) q2) fun u h3 m3 H3 w3 q3 S3 M3 r3 => ?_
  obtain ⟨k, c, n, j, q0, rfl, e1, rfl, e2, rfl, kf⟩ := q3
  obtain ⟨a, e3, rfl, ql⟩ := r2.move S2 M3
  cases r3
  obtain ⟨xs, e4, r4⟩ := S3.cellL e1 e3 ql
  have r5 : Rp A (Xc B m3 h3) H3 q0 w := (Rp.move S1 M2 r1).move S2 M3
  obtain ⟨M4, S4⟩ := S3.write e1 e3 ql (r4.set r5 j)
  refine ⟨a, xs, n, j, rfl, rfl, e4, by rw [r4.length]; exact e2, ?_⟩
  have M := ((M1.trans M2).trans M3).trans M4
  exact kf m3 _ σ S4 M (s.move S M)
theorem s_app (cx : Ctx A P C N sc ss l kk W X) {o v : E} {x : Str} {v' : Expr} {px ap cp pos : Pos} (hl : (ap.endLine == cp.line) = true) (ho : mE P N o l sc (.Name x px) = true) (hv : mE P N v l sc v' = true) (hs : noStar v' = true) :
    PS X (.Expr (.Call (.Attribute (.Name x px) "append" ap) [v'] [] cp) pos) (tS A P C W (.app o v)) := by
  have se := starEach_no hs [] X.env
  refine PS_imp (L2.ps_expr (L2.pe_bm PySem.F.plainAttrs_list PySem.F.slot_list_append PySem.F.type_list_append L2.mt_append (sE hC o cx ho).1 (L2.pa_cons (sE hC v cx hv).1 L2.pa_nil se) rfl (by rw [se] <;> rfl) hl se rfl) rfl) fun D σ H z => ?_
  obtain ⟨B, m, h, ρ, S, s, z⟩ := z
  unfold wpS at z
  refine tE_of hC S s z fun y h1 m1 H1 w q S1 M1 r1 => ?_
  obtain ⟨k, c0, rfl, e0, q⟩ := q
  obtain ⟨a, e3, rfl, ql⟩ := r1
  obtain ⟨xs0, e5, _⟩ := S1.cellL e0 e3 ql
  refine ⟨.inl ⟨rfl, xs0, SqL.of e5⟩, ?_⟩
  refine tE_of hC S1 (s.move S M1) (wpE_next hC M1 q) fun x h2 m2 H2 w2 q2 S2 M2 r2 => ?_
  obtain ⟨c, q0, e1, rfl, e2, q⟩ := q2
  obtain ⟨xs, e4, r4⟩ := S2.cellL e1 (M2.at e3) (M2.kl _ _ e5)
  obtain ⟨M4, S4⟩ := S2.write e1 (M2.at e3) (M2.kl _ _ e5) (r4.append (.cons (show Rp A _ H2 q0 w2 from r2) .nil))
  have M := (M1.trans M2).trans M4
  exact ⟨a, xs, w2, rfl, rfl, e4, by rw [r4.length]; exact e2, q m2 _ σ S4 M (s.move S M)⟩
/-! ### fields -/
def putV (vs : List V) (t : Nat) (v : V) : List V := if t < vs.length then vs.set t v else vs ++ [v]
omit hC in
theorem putF_zip {f : Str} {y : V} : ∀ {M : List Str} {vs : List V} {t : Nat}, M.Nodup → M[t]? = some f → t ≤ vs.length → L2.putF f y ((M.take vs.length).zip vs) = (M.take (putV vs t y).length).zip (putV vs t y)
  | [], _, _, _, e, _ => by simp at e
  | g :: M, [], t, nd, e, ht => by
    obtain rfl : t = 0 := by simpa using ht
    simp at e
    subst e
    simp [putV, L2.putF]
  | g :: M, u :: vs, 0, nd, e, ht => by
    simp at e
    subst e
    simp [putV, L2.putF]
  | g :: M, u :: vs, t + 1, nd, e, ht => by
    obtain ⟨n1, n2⟩ := List.nodup_cons.mp nd
    simp at e ht
    have ne : ¬ g = f := fun z => n1 (by rw [z]; exact List.mem_of_getElem? e)
    have ih := putF_zip (y := y) n2 e ht
    have pv : putV (u :: vs) (t + 1) y = u :: putV vs t y := by
      unfold putV
      by_cases q : t < vs.length
      · rw [if_pos q, if_pos (by simpa using q)]; rfl
      · rw [if_neg q, if_neg (by simpa using q)]; rfl
    rw [pv]
    show L2.putF f y ((g, u) :: (M.take vs.length).zip vs) = (g, u) :: (M.take (putV vs t y).length).zip (putV vs t y)
    unfold L2.putF
    rw [if_neg ne, ih]
omit hC in
theorem putV_len {vs : List V} {fs : List PV} {t : Nat} {v : V} {p : PV} (h : vs.length = fs.length) : (putV vs t v).length = (putN fs t p).length := by
  unfold putV putN
  rw [h]
  split <;> simp [h]
omit hC in
theorem putN_le {fs : List PV} {t n : Nat} {p : PV} (h : t < n) (h2 : fs.length ≤ n) (ht : t ≤ fs.length) : (putN fs t p).length ≤ n := by
  unfold putN
  split <;> simp <;> omega
omit hC in
theorem putN_rep {L : Addr → Prop} {H : Hp} {fs : List PV} {vs : List V} {t : Nat} {p : PV} {v : V} (h : RpFs A L H fs vs) (q : RpF A L H p v) (ht : t ≤ fs.length) : RpFs A L H (putN fs t p) (putV vs t v) := by
  refine ⟨putV_len h.1, fun i a b e1 e2 => ?_⟩
  unfold putN at e1
  unfold putV at e2
  rw [h.1] at e2
  by_cases c : t < fs.length
  · rw [if_pos c] at e1 e2
    by_cases hi : t = i
    · subst hi
      rw [List.getElem?_set_self c] at e1
      rw [List.getElem?_set_self (by rw [h.1]; exact c)] at e2
      cases e1; cases e2
      exact q
    · rw [List.getElem?_set_ne hi] at e1 e2
      exact h.2 i a b e1 e2
  · rw [if_neg c] at e1 e2
    by_cases hi : i < fs.length
    · rw [List.getElem?_append_left hi] at e1
      rw [List.getElem?_append_left (by rw [h.1]; exact hi)] at e2
      exact h.2 i a b e1 e2
    · rw [List.getElem?_append_right (by omega)] at e1
      rw [List.getElem?_append_right (by rw [h.1]; omega), h.1] at e2
      have hz : i - fs.length = 0 := by
        by_cases hz : i - fs.length = 0
        · exact hz
        · rw [List.getElem?_eq_none (by simp; omega)] at e1; cases e1
      rw [hz] at e1 e2
      simp at e1 e2
      subst e1; subst e2
      exact q
omit hC in
theorem v_var {o : Nat} {x : Expr} (h : mE P N (.var o) l sc x = true) : ∃ y p, x = .Name y p ∧ N[o]? = some y ∧ visB sc y = true ∧ odd y = false := by
  cases x with
  | Name y p =>
    simp only [mE, Bool.and_eq_true, decide_eq_true_eq, Bool.not_eq_true'] at h
    exact ⟨y, p, rfl, h.1.1, h.1.2, h.2⟩
  | _ => simp [mE] at h
theorem s_fst (cx : Ctx A P C N sc ss l kk W X) {o k t : Nat} {e : E} {c : Cl} {f : Str} {o' v' : Expr} {ap pos : Pos} (hk : P.cls[k]? = some c) (hf : c.N[t]? = some f) (hx : fixF f = false) (ho : mE P N (.var o) l sc o' = true) (hv : mE P N e l sc v' = true) (hn : noCompr v' = true) :
    PS X (.Assign [.Attribute o' f ap] v' pos) (tS A P C W (.fst o k t e)) := by
  have ca := cx.cls k c hk
  obtain ⟨y, p, rfl, h1, h2, h3⟩ := v_var ho
  obtain ⟨o1, o2, o3⟩ := odd_ok h3
  have hN : (A.O k).N[t]? = some f := by rw [ca.nn]; exact hf
  have nd : (A.O k).N.Nodup := by rw [ca.nn]; exact ca.nd
  refine PS_imp (L2.ps_fld (L2.pe_var (i := o) (by rw [cx.eN]; exact h1) (by rw [cx.eS]; exact visB_ok h2) o1 o2) (sE hC e cx hv).1 (swaps_no hC hn)) fun D σ H z => ?_
  obtain ⟨B, m, h, ρ, S, s, z⟩ := z
  unfold wpS at z
  refine tE_of hC S s z fun y h1 m1 H1 w q S1 M1 r1 => ?_
  obtain ⟨q0, i, j, fs, rfl, hm, e1, e2, hl, q⟩ := q
  obtain ⟨w2, g0, r2⟩ := (s.move S M1).at_ o _ e1
  obtain ⟨a, dx, gs, g1, rfl, g2, g3⟩ := r2
  obtain ⟨k3, fs3, e3, dx3, vs, g4, hl3, rf⟩ := S1.cellO e2 g1 g2
  cases e3
  have ht : t < (A.O k).N.length := (List.getElem?_eq_some_iff.mp hN).1
  have pz := putF_zip (y := w) nd hN (show t ≤ vs.length by rw [rf.1]; exact hl)
  rw [rf.1, putV_len (p := q0) rf.1] at pz
  obtain ⟨M2, S2⟩ := S1.writeO (fs := putN fs t q0) (vs := putV vs t w) e2 g1 g4 (fun f' v hf' hl' => by
    rw [← pz, L2.lookup_putF]
    rw [if_neg (fun z => by rw [z, hx] at hf'; cases hf')]
    exact hl') (putN_le ht hl3 hl) (putN_rep rf (.inr r1) hl)
  refine ⟨.ref a, g0, a, _, dx3, _, rfl, g4, ca.cl, ca.na f (List.mem_of_getElem? hf), ?_, ?_⟩
  · have := ca.sz
    rw [List.length_zip, List.length_take, ← ca.nn] at *
    omega
  · rw [pz]
    exact q m1 _ σ S2 (M1.trans M2) (s.move S (M1.trans M2))
theorem s_fnl (cx : Ctx A P C N sc ss l kk W X) {o k t : Nat} {e : E} {c : Cl} {f : Str} {o' v' : Expr} {ap pos : Pos} (hk : P.cls[k]? = some c) (hf : c.N[t]? = some f) (hlf : c.lf = f) (hx : fixF f = true) (ho : mE P N (.var o) l sc o' = true) (hv : mE P N e l sc v' = true) (hn : noCompr v' = true) :
    PS X (.Assign [.Attribute o' f ap] v' pos) (tS A P C W (.fnl o k t e)) := by
  have ca := cx.cls k c hk
  obtain ⟨y, p, rfl, h1, h2, h3⟩ := v_var ho
  obtain ⟨o1, o2, o3⟩ := odd_ok h3
  have hN : (A.O k).N[t]? = some f := by rw [ca.nn]; exact hf
  have nd : (A.O k).N.Nodup := by rw [ca.nn]; exact ca.nd
  refine PS_imp (L2.ps_fld (L2.pe_var (i := o) (by rw [cx.eN]; exact h1) (by rw [cx.eS]; exact visB_ok h2) o1 o2) (sE hC e cx hv).1 (swaps_no hC hn)) fun D σ H z => ?_
  obtain ⟨B, m, h, ρ, S, s, z⟩ := z
  unfold wpS at z
  refine tE_of hC S s z fun y h1 m1 H1 w q S1 M1 r1 => ?_
  obtain ⟨i, ll, fs, rfl, e1, e2, hl, hil, q⟩ := q
  obtain ⟨w2, g0, r2⟩ := (s.move S M1).at_ o _ e1
  obtain ⟨a, dx, gs, g1, rfl, g2, g3⟩ := r2
  obtain ⟨b, b1, rfl, ys, b2⟩ := r1
  obtain ⟨k3, fs3, e3, dx3, vs, g4, hl3, rf⟩ := S1.cellO e2 g1 g2
  cases e3
  have ht : t < (A.O k).N.length := (List.getElem?_eq_some_iff.mp hN).1
  have pz := putF_zip (y := .ref b) nd hN (show t ≤ vs.length by rw [rf.1, hl]; exact Nat.le_refl _)
  rw [rf.1, putV_len (p := .scr []) rf.1] at pz
  have pn : putN fs t (.scr []) = fs ++ [.scr []] := by
    unfold putN
    rw [if_neg (by omega)]
  have nof : ((((A.O k).N.take fs.length).zip vs).lookup f) = none := by
    refine lookup_zip_none fun z => ?_
    obtain ⟨n, hn⟩ := List.getElem?_of_mem z
    have hnl : n < fs.length := by
      have := (List.getElem?_eq_some_iff.mp hn).1
      rw [List.length_take] at this
      omega
    rw [List.getElem?_take_of_lt hnl] at hn
    have := (List.getElem?_inj (i := n) (j := t) (by omega) nd).mp (by rw [hn, hN])
    omega
  obtain ⟨M2, S2⟩ := S1.writeO (fs := putN fs t (.scr [])) (vs := putV vs t (.ref b)) e2 g1 g4 (fun f' v hf' hl' => by
    rw [← pz, L2.lookup_putF]
    rw [if_neg (fun z => by rw [z, nof] at hl'; cases hl')]
    exact hl') (putN_le ht hl3 (by omega)) (putN_rep rf (.inl rfl) (by omega))
  refine ⟨.ref a, g0, a, _, dx3, _, rfl, g4, ca.cl, ca.na f (List.mem_of_getElem? hf), ?_, ?_⟩
  · have := ca.sz
    rw [List.length_zip, List.length_take, ← ca.nn] at *
    omega
  · have ne : b ≠ a := fun z => by
      rw [z, g4] at b2
      cases b2
    rw [← pz] at M2 S2
    rw [pn] at S2 M2
    have sl := (s.move S (M1.trans M2)).set o (v := .ob k i (some ll)) (w := .ref a) ⟨a, dx3, _, g1, rfl, upd_same, fun l2 hl2 => by
      cases hl2
      refine ⟨b, ys, by rw [ca.lf, hlf]; exact hx, ?_, b1, by rw [upd_ne ne]; exact b2⟩
      rw [ca.lf, hlf, L2.lookup_putF, if_pos rfl]⟩
    have es : σ.set o (some (.ref a)) = σ := by
      refine List.ext_getElem? fun n => ?_
      by_cases hn : o = n
      · subst hn
        rw [List.getElem?_set_self (List.getElem?_eq_some_iff.mp g0).1, g0]
      · rw [List.getElem?_set_ne hn]
    rw [es] at sl
    exact q m1 _ σ S2 (M1.trans M2) sl
theorem s_lap (cx : Ctx A P C N sc ss l kk W X) {o v : E} {u : Expr} {f : Str} {v' : Expr} {px ap cp pos : Pos} (hu : nameB u = true) (hl : (ap.endLine == cp.line) = true) (ho : mE P N o l sc (.Attribute u f px) = true) (hv : mE P N v l sc v' = true) (hs : noStar v' = true) :
    PS X (.Expr (.Call (.Attribute (.Attribute u f px) "append" ap) [v'] [] cp) pos) (tS A P C W (.lap o v)) := by
  have se := starEach_no hs [] X.env
  refine PS_imp (L2.ps_expr (L2.pe_bm PySem.F.plainAttrs_list PySem.F.slot_list_append PySem.F.type_list_append L2.mt_append (sE hC o cx ho).1 (L2.pa_cons (sE hC v cx hv).1 L2.pa_nil se) rfl (by rw [se] <;> rfl) hl se rfl) rfl) fun D σ H z => ?_
  obtain ⟨B, m, h, ρ, S, s, z⟩ := z
  unfold wpS at z
  refine tE_of hC S s z fun y h1 m1 H1 w q S1 M1 r1 => ?_
  obtain ⟨k, c0, rfl, e0, q⟩ := q
  obtain ⟨a, e3, rfl, ql⟩ := r1
  obtain ⟨xs0, e5, _⟩ := S1.cellL e0 e3 ql
  refine ⟨.inl ⟨rfl, xs0, SqL.of e5⟩, ?_⟩
  refine tE_of hC S1 (s.move S M1) (wpE_next hC M1 q) fun x h2 m2 H2 w2 q2 S2 M2 r2 => ?_
  obtain ⟨c, q0, e1, rfl, e2, q⟩ := q2
  obtain ⟨xs, e4, r4⟩ := S2.cellL e1 (M2.at e3) (M2.kl _ _ e5)
  obtain ⟨M4, S4⟩ := S2.write e1 (M2.at e3) (M2.kl _ _ e5) (r4.append (.cons (show Rp A _ H2 q0 w2 from r2) .nil))
  have M := (M1.trans M2).trans M4
  exact ⟨a, xs, w2, rfl, rfl, e4, by rw [r4.length]; exact e2, q m2 _ σ S4 M (s.move S M)⟩
theorem i_iff {t : E} {a b : SL} : ∀ D σ H, tS A P C W (.iff t a b) D σ H → L2.tIfS (tQ A P C W t) (tSL A P C W a) (tSL A P C W b) D σ H := fun D σ H z => by
  obtain ⟨B, m, h, ρ, S, s, z⟩ := z
  unfold wpS wpB at z
  refine tE_of hC S s z fun v h1 m1 H1 w q S1 M1 r1 => ?_
  obtain ⟨c, rfl, k⟩ := q
  cases r1
  refine ⟨c, rfl, ?_⟩
  cases c with
  | true =>
    rw [if_pos rfl] at k ⊢
    exact ⟨B, m1, h1, ρ, S1, s.move S M1, wpSL_mono hC a (Kn.move M1) (Kv.move M1) (Kx.move M1) k⟩
  | false =>
    rw [if_neg Bool.false_ne_true] at k ⊢
    exact ⟨B, m1, h1, ρ, S1, s.move S M1, wpSL_mono hC b (Kn.move M1) (Kv.move M1) (Kx.move M1) k⟩
theorem i_cons {a : S} {r : SL} : ∀ D σ H, tSL A P C W (.cons a r) D σ H → L2.tSeq (tS A P C W a) (tSL A P C W r) D σ H := fun D σ H z => by
  obtain ⟨B, m, h, ρ, S, s, z⟩ := z
  unfold wpSL at z
  exact ⟨B, m, h, ρ, S, s, wpS_mono hC a (fun ρ1 h1 k m1 H1 σ1 S1 M1 s1 => ⟨B, m1, h1, ρ1, S1, s1, wpSL_mono hC r (Kn.move M1) (Kv.move M1) (Kx.move M1) k⟩) (fun _ _ k => k) (fun _ _ k => k) z⟩
theorem i_whl {kl : List Nat} {t : E} {b : SL} : ∀ D σ H, tS A P C W (.whl kl t b) D σ H → L2.tWhile (tQ A P C W t) (tSL A P C W b) D σ H := fun D σ H z => by
  obtain ⟨B, m, h, ρ, S, s, z⟩ := z
  unfold wpS at z
  obtain ⟨Wl, ⟨n0, w0⟩, hs⟩ := z
  refine ⟨fun n σ1 H1 => ∃ m1 h1 ρ1, Sim A B m1 h1 H1 ∧ Mv m h H m1 h1 H1 ∧ Sl A B m1 h1 H1 ρ1 σ1 ∧ Wl n ρ1 h1, ⟨n0, m, h, _, S, Mv.refl _ _ _, s.kill kl, w0⟩, ?_⟩
  rintro n σ1 H1 ⟨m1, h1, ρ1, S1, M1, s1, w1⟩
  have z := hs n ρ1 h1 w1
  unfold wpB at z
  refine tE_of hC S1 s1 (wpE_next hC M1 z) fun v h2 m2 H2 w q S2 M2 r2 => ?_
  obtain ⟨c, rfl, k⟩ := q
  cases r2
  refine ⟨c, rfl, ?_⟩
  have M12 := M1.trans M2
  cases c with
  | true =>
    rw [if_pos rfl] at k
    refine (if_pos rfl).mpr ?_
    refine ⟨fun σ' H' => ∃ n', n' < n ∧ ∃ m1 h1 ρ1, Sim A B m1 h1 H' ∧ Mv m h H m1 h1 H' ∧ Sl A B m1 h1 H' ρ1 σ' ∧ Wl n' ρ1 h1, fun σ' H' z => z, B, m2, h2, ρ1, S2, s1.move S1 M2, ?_⟩
    refine wpSL_mono hC b (fun ρ3 h3 k m3 H3 σ3 S3 M3 s3 => ?_) (Kv.move M12) (Kx.move M12) k
    obtain ⟨n', hn, w3⟩ := k
    exact ⟨n', hn, m3, h3, _, S3, M12.trans M3, s3.kill kl, w3⟩
  | false =>
    rw [if_neg Bool.false_ne_true] at k
    refine (if_neg Bool.false_ne_true).mpr ?_
    exact k m2 H2 σ1 S2 M12 (s1.move S1 M2)
/-- the pairs of a list of live things and a list of values -/
def WalksZ (A : Ad) (B : Addr → Prop) (m : List Addr) (h : Hs) (H : Hp) (J : L2.It) (xs : List IT) (l : List PV) : Prop := ∀ (m2 : List Addr) (h2 : Hs) (H2 : Hp), Sim A B m2 h2 H2 → Mv m h H m2 h2 H2 →
  (∀ (i : Nat) (x : IT) (p : PV), xs[i]? = some x → l[i]? = some p → J.go i H2 ∧ ∀ v H3, J.yld i H2 v H3 → Sim A B m2 h2 H3 ∧ Mv m2 h2 H2 m2 h2 H3 ∧ ∃ T y z, v = .ref T ∧ SqT A.K H3 T [y, z] ∧ RpI A B m2 h2 H3 x y ∧ Rp A (Xc B m2 h2) H3 p z) ∧ ∀ i : Nat, xs.length ≤ i ∨ l.length ≤ i → J.stop i H2
def tIz (A : Ad) (P : Pg) (C : CallT) (W : XK) (a b : E) : TI := fun σ H R => ∃ B m h ρ, Sim A B m h H ∧ Sl A B m h H ρ σ ∧ wpE P C a ρ h (fun x h1 => wpE P C b ρ h1 (fun y h2 => ∃ xs l, x = .vec xs ∧ y = .pv (.lst l) ∧ ∀ m1 H1 J, Sim A B m1 h2 H1 → Mv m h H m1 h2 H1 → WalksZ A B m1 h2 H1 J xs l → R J H1) (Kx A B m h H W)) (Kx A B m h H W)
def tGz (A : Ad) (i : Nat) (tg : Tg) : L2.TG := fun v σ H Q => ∃ (B : Addr → Prop) (m : List Addr) (h : Hs) (x : RV) (p : PV) (ρ : Env) (T : Addr) (y z : V) (k : Env → Prop), Sim A B m h H ∧ Sl A B m h H ρ σ ∧ v = .ref T ∧ SqT A.K H T [y, z] ∧ RpR A B m h H x y ∧ Rp A (Xc B m h) H p z ∧ bindT tg p (ρ.set i (some x)) k ∧ ∀ ρ' σ', k ρ' → Sl A B m h H ρ' σ' → Q σ' H
theorem i_for {kl : List Nat} {tg : Tg} {it : It} {b : SL} : ∀ D σ H, tS A P C W (.for kl tg it b) D σ H → L2.tFor (tI A P C W it) (tG A tg) (tSL A P C W b) D σ H := fun D σ H z => by
  obtain ⟨B, m, h, ρ, S, s, z⟩ := z
  unfold wpS at z
  refine tI_of hC S s z fun l gd h1 m1 H1 J q S1 M1 wk => ?_
  have wB : ∀ a, B a → B a ∨ H1 a = none := fun a z => .inl z
  generalize hst : (fun (x : PV) (ρ1 : Env) (h2 : Hs) (k : Env → Hs → Prop) => bindT tg x ρ1 fun ρ2 => wpSL P C b ρ2 h2 (fun ρ3 h3 => k (kill ρ3 kl) h3) (Kv A B m h H D.rt) (Kx A B m h H W)) = st at q
  have hst' : ∀ x ρ1 h2 k, st x ρ1 h2 k = bindT tg x ρ1 fun ρ2 => wpSL P C b ρ2 h2 (fun ρ3 h3 => k (kill ρ3 kl) h3) (Kv A B m h H D.rt) (Kx A B m h H W) := fun x ρ1 h2 k => by rw [← hst]
  refine ⟨fun i n σ2 H2 => ∃ m2 h2 ρ2, Sim A B m2 h2 H2 ∧ Mv m1 h1 H1 m2 h2 H2 ∧ Sl A B m2 h2 H2 ρ2 σ2 ∧ i ≤ l.length ∧ n = l.length - i ∧ loopT gd st (l.drop i) ρ2 h2 (Kn A B m h H D.nx), ⟨l.length, m1, h1, _, S1, Mv.refl _ _ _, (s.move S M1).kill kl, Nat.zero_le _, rfl, q⟩, ?_⟩
  rintro i n σ2 H2 ⟨m2, h2, ρ2, S2, M2, s2, hi, rfl, q⟩
  by_cases hlt : i < l.length
  · right
    obtain ⟨x, hx⟩ : ∃ x, l[i]? = some x := ⟨l[i], List.getElem?_eq_getElem hlt⟩
    have hdr : l.drop i = x :: l.drop (i + 1) := by
      rw [List.drop_eq_getElem_cons hlt]
      congr 1
      exact (List.getElem?_eq_some_iff.mp hx).2
    rw [hdr] at q
    obtain ⟨g, q⟩ := q
    obtain ⟨go, yl⟩ := (wk B m2 h2 H2 wB S2 M2 g).1 i x hx
    refine ⟨go, fun σ' H' => ∃ m2 h2 ρ2, Sim A B m2 h2 H' ∧ Mv m1 h1 H1 m2 h2 H' ∧ Sl A B m2 h2 H' ρ2 σ' ∧ i + 1 ≤ l.length ∧ loopT gd st (l.drop (i + 1)) ρ2 h2 (Kn A B m h H D.nx), fun σ' H' z => ?_, fun v H3 y => ?_⟩
    · obtain ⟨m3, h3, ρ3, a1, a2, a3, a4, a5⟩ := z
      exact ⟨l.length - (i + 1), by omega, m3, h3, ρ3, a1, a2, a3, a4, rfl, a5⟩
    obtain ⟨S3, M3, r3⟩ := yl v H3 y
    rw [hst' x ρ2 h2] at q
    refine ⟨B, m2, h2, x, ρ2, _, S3, s2.move S2 M3, r3, q, fun ρ1 σ1 q sl off => ?_⟩
    have M13 := M2.trans M3
    have M03 := M1.trans M13
    refine ⟨B, m2, h2, ρ1, S3, sl, wpSL_mono hC b (fun ρ4 h4 k m4 H4 σ4 S4 M4 s4 => ?_) (Kv.move M03) (Kx.move M03) q⟩
    exact ⟨m4, h4, _, S4, M13.trans M4, s4.kill kl, hlt, k⟩
  · left
    have e : i = l.length := by omega
    subst e
    rw [List.drop_length] at q
    obtain ⟨g, q⟩ := q
    exact ⟨(wk B m2 h2 H2 wB S2 M2 g).2 _ (Nat.le_refl _), q m2 H2 σ2 S2 (M1.trans M2) s2⟩
theorem v_set {i : Nat} {e : E} {x : Stmt} (h : mS P N sc ss l (.set i e) x = true) : ∃ y px v pos, x = .Assign [.Name y px] v pos ∧ N[i]? = some y ∧ stoB ss y = true ∧ mE P N e l sc v = true ∧ (noCompr v || (isLC v && (!swC sc y px v || isCo e))) = true := by
  unfold mS at h
  split at h <;> first
    | (rename_i e1; cases e1
       simp only [Bool.and_eq_true, decide_eq_true_eq] at h
       exact ⟨_, _, _, _, rfl, h.1.1.1, h.1.1.2, h.1.2, h.2⟩)
    | (rename_i e1 e2; cases e1; done)
    | (rename_i e1; cases e1; done)
    | cases h
theorem v_par {is : List Nat} {es : EL} {x : Stmt} (h : mS P N sc ss l (.par is es) x = true) : ∃ ts kt pt vs k2 pt2 pos, x = .Assign [.Tuple ts kt pt] (.Tuple vs k2 pt2) pos ∧ mL P N es l sc vs = true ∧ vs.length ≤ 1000 ∧ nmB N ss is ts = true ∧ (par2B sc ts vs || vs.all (foldedForSure 8) || ts.any (cellT sc)) = true := by
  unfold mS at h
  split at h <;> first
    | (rename_i e1; cases e1
       simp only [Bool.and_eq_true, decide_eq_true_eq] at h
       exact ⟨_, _, _, _, _, _, _, rfl, h.1.1.1, h.1.1.2, h.1.2, h.2⟩)
    | (rename_i e1 e2; cases e1; done)
    | (rename_i e1; cases e1; done)
    | cases h
theorem v_unp {tg : Tg} {e : E} {x : Stmt} (h : mS P N sc ss l (.unp tg e) x = true) : ∃ ts k p v pos, x = .Assign [.Tuple ts k p] v pos ∧ mG N ss tg (.Tuple ts k p) = true ∧ mE P N e l sc v = true ∧ noCompr v = true ∧ noTup v = true := by
  unfold mS at h
  split at h <;> first
    | (rename_i e1; cases e1
       simp only [Bool.and_eq_true] at h
       exact ⟨_, _, _, _, _, rfl, h.1.1.1, h.1.1.2, h.1.2, h.2⟩)
    | (rename_i e1 e2; cases e1; done)
    | (rename_i e1; cases e1; done)
    | cases h
theorem v_sub {o i v : E} {x : Stmt} (h : mS P N sc ss l (.sub o i v) x = true) : ∃ o' i' p v' pos, x = .Assign [.Subscript o' i' p] v' pos ∧ mE P N o l sc o' = true ∧ mE P N i l sc i' = true ∧ mE P N v l sc v' = true ∧ noSlice i' = true ∧ noCompr v' = true := by
  unfold mS at h
  split at h <;> first
    | (rename_i e1; cases e1
       simp only [Bool.and_eq_true] at h
       exact ⟨_, _, _, _, _, rfl, h.1.1.1.1, h.1.1.1.2, h.1.1.2, h.1.2, h.2⟩)
    | (rename_i e1 e2; cases e1; done)
    | (rename_i e1; cases e1; done)
    | cases h
theorem v_app {o v : E} {x : Stmt} (h : mS P N sc ss l (.app o v) x = true) : ∃ y px ap v' cp pos, x = .Expr (.Call (.Attribute (.Name y px) "append" ap) [v'] [] cp) pos ∧ (ap.endLine == cp.line) = true ∧ mE P N o l sc (.Name y px) = true ∧ mE P N v l sc v' = true ∧ noStar v' = true := by
  unfold mS at h
  split at h <;> first
    | (rename_i o' a ap v' cp pos e1; cases e1
       simp only [Bool.and_eq_true, decide_eq_true_eq] at h
       obtain ⟨⟨⟨⟨⟨rfl, h1⟩, h0⟩, h2⟩, h3⟩, h4⟩ := h
       cases o' with
       | Name y px => exact ⟨_, _, _, _, _, _, rfl, h1, h2, h3, h4⟩
       | _ => cases h0)
    | (rename_i e1 e2; cases e1; done)
    | (rename_i e1; cases e1; done)
    | cases h
theorem v_lap {o v : E} {x : Stmt} (h : mS P N sc ss l (.lap o v) x = true) : ∃ u f px ap v' cp pos, x = .Expr (.Call (.Attribute (.Attribute u f px) "append" ap) [v'] [] cp) pos ∧ nameB u = true ∧ (ap.endLine == cp.line) = true ∧ mE P N o l sc (.Attribute u f px) = true ∧ mE P N v l sc v' = true ∧ noStar v' = true := by
  unfold mS at h
  split at h <;> first
    | (rename_i o' a ap v' cp pos e1; cases e1
       simp only [Bool.and_eq_true, decide_eq_true_eq] at h
       obtain ⟨⟨⟨⟨⟨rfl, h1⟩, h0⟩, h2⟩, h3⟩, h4⟩ := h
       cases o' with
       | Attribute u f px => exact ⟨_, _, _, _, _, _, _, rfl, h0, h1, h2, h3, h4⟩
       | _ => cases h0)
    | (rename_i e1 e2; cases e1; done)
    | (rename_i e1; cases e1; done)
    | cases h
theorem v_fst {o k t : Nat} {e : E} {x : Stmt} (h : mS P N sc ss l (.fst o k t e) x = true) : ∃ o' f ap v' pos c, x = .Assign [.Attribute o' f ap] v' pos ∧ P.cls[k]? = some c ∧ c.N[t]? = some f ∧ fixF f = false ∧ mE P N (.var o) l sc o' = true ∧ mE P N e l sc v' = true ∧ noCompr v' = true := by
  unfold mS at h
  split at h <;> first
    | (rename_i e1; cases e1
       simp only [Bool.and_eq_true] at h
       obtain ⟨⟨⟨h1, h2⟩, h3⟩, h4⟩ := h
       cases hk : P.cls[k]? with
       | none => rw [hk] at h2; cases h2
       | some c =>
         rw [hk] at h2
         simp only [Bool.and_eq_true, decide_eq_true_eq, Bool.not_eq_true'] at h2
         exact ⟨_, _, _, _, _, c, rfl, rfl, h2.1, h2.2, h1, h3, h4⟩)
    | (rename_i e1 e2; cases e1; done)
    | (rename_i e1; cases e1; done)
    | cases h
theorem v_fnl {o k t : Nat} {e : E} {x : Stmt} (h : mS P N sc ss l (.fnl o k t e) x = true) : ∃ o' f ap v' pos c, x = .Assign [.Attribute o' f ap] v' pos ∧ P.cls[k]? = some c ∧ c.N[t]? = some f ∧ c.lf = f ∧ fixF f = true ∧ mE P N (.var o) l sc o' = true ∧ mE P N e l sc v' = true ∧ noCompr v' = true := by
  unfold mS at h
  split at h <;> first
    | (rename_i e1; cases e1
       simp only [Bool.and_eq_true] at h
       obtain ⟨⟨⟨h1, h2⟩, h3⟩, h4⟩ := h
       cases hk : P.cls[k]? with
       | none => rw [hk] at h2; cases h2
       | some c =>
         rw [hk] at h2
         simp only [Bool.and_eq_true, decide_eq_true_eq] at h2
         exact ⟨_, _, _, _, _, c, rfl, rfl, h2.1.1, h2.1.2, h2.2, h1, h3, h4⟩)
    | (rename_i e1 e2; cases e1; done)
    | (rename_i e1; cases e1; done)
    | cases h
theorem v_exp {e : E} {x : Stmt} (h : mS P N sc ss l (.exp e) x = true) : ∃ e' pos, x = .Expr e' pos ∧ mE P N e l sc e' = true ∧ noCompr e' = true := by
  unfold mS at h
  split at h <;> first
    | (rename_i e1; cases e1
       simp only [Bool.and_eq_true] at h
       exact ⟨_, _, rfl, h.1, h.2⟩)
    | (rename_i e1 e2; cases e1; done)
    | (rename_i e1; cases e1; done)
    | cases h
theorem v_iff {t : E} {a b : SL} {x : Stmt} (h : mS P N sc ss l (.iff t a b) x = true) : ∃ t' a' b' pos, x = .If t' a' b' pos ∧ mE P N t l sc t' = true ∧ mSL P N sc ss l a a' = true ∧ mSL P N sc ss l b b' = true := by
  unfold mS at h
  split at h <;> first
    | (rename_i e1; cases e1
       simp only [Bool.and_eq_true] at h
       exact ⟨_, _, _, _, rfl, h.1.1, h.1.2, h.2⟩)
    | (rename_i e1 e2; cases e1; done)
    | (rename_i e1; cases e1; done)
    | cases h
theorem v_for {kl : List Nat} {tg : Tg} {it : It} {b : SL} {x : Stmt} (h : mS P N sc ss l (.for kl tg it b) x = true) : ∃ tg' it' b' pos, x = .For tg' it' b' [] pos ∧ mG N ss tg tg' = true ∧ itT it tg' = true ∧ noSet it' = true ∧ mI P N it l sc it' = true ∧ mSL P N sc ss l b b' = true := by
  unfold mS at h
  split at h <;> first
    | (rename_i e1; cases e1
       simp only [Bool.and_eq_true] at h
       exact ⟨_, _, _, _, rfl, h.1.1.1.1, h.1.1.1.2, h.1.1.2, h.1.2, h.2⟩)
    | (rename_i e1 e2; cases e1; done)
    | (rename_i e1; cases e1; done)
    | cases h
theorem v_whl {kl : List Nat} {t : E} {b : SL} {x : Stmt} (h : mS P N sc ss l (.whl kl t b) x = true) : ∃ t' b' pos, x = .While t' b' [] pos ∧ mE P N t l sc t' = true ∧ mSL P N sc ss l b b' = true := by
  unfold mS at h
  split at h <;> first
    | (rename_i e1; cases e1
       simp only [Bool.and_eq_true] at h
       exact ⟨_, _, _, rfl, h.1, h.2⟩)
    | (rename_i e1 e2; cases e1; done)
    | (rename_i e1; cases e1; done)
    | cases h
theorem v_ret {e : E} {x : Stmt} (h : mS P N sc ss l (.ret e) x = true) : ∃ e' pos, x = .Return (some e') pos ∧ mE P N e l sc e' = true := by
  unfold mS at h
  split at h <;> first
    | (rename_i e1; cases e1
       exact ⟨_, _, rfl, h⟩)
    | (rename_i e1 e2; cases e1; done)
    | (rename_i e1; cases e1; done)
    | cases h
theorem v_retN {x : Stmt} (h : mS P N sc ss l .retN x = true) : ∃ pos, x = .Return none pos := by
  unfold mS at h
  split at h <;> first
    | exact ⟨_, rfl⟩
    | (rename_i e1; cases e1; done)
    | cases h
theorem v_rsx {c : Nat} {x : Stmt} (h : mS P N sc ss l (.rsx c) x = true) : ∃ y p m j p2 p3 pos w, x = .Raise (some (.Call (.Name y p) [.Constant (.str m) j p2] [] p3)) none pos ∧ c ∈ P.rai ∧ P.exc[c]? = some w ∧ w.1 = y ∧ gloB sc y = true ∧ odd y = false := by
  unfold mS at h
  split at h <;> first
    | (rename_i e1; cases e1
       simp only [Bool.and_eq_true, decide_eq_true_eq, Bool.not_eq_true'] at h
       obtain ⟨⟨⟨h1, h2⟩, h3⟩, h4⟩ := h
       cases hw : P.exc[c]? with
       | none => rw [hw] at h2; cases h2
       | some w =>
         rw [hw] at h2
         exact ⟨_, _, _, _, _, _, _, w, rfl, h1, rfl, of_decide_eq_true h2, h3, h4⟩)
    | (rename_i e1 e2; cases e1; done)
    | (rename_i e1; cases e1; done)
    | cases h
theorem v_rsf {c : Nat} {es : EL} {x : Stmt} (h : mS P N sc ss l (.rsf c es) x = true) : ∃ y p a as p3 pos w, x = .Raise (some (.Call (.Name y p) (a :: as) [] p3)) none pos ∧ c ∈ P.raf ∧ P.exc[c]? = some w ∧ w.1 = y ∧ gloB sc y = true ∧ odd y = false ∧ mL P N es l sc (a :: as) = true := by
  unfold mS at h
  split at h <;> first
    | (rename_i e1; cases e1
       simp only [Bool.and_eq_true, decide_eq_true_eq, Bool.not_eq_true'] at h
       obtain ⟨⟨⟨⟨h1, h2⟩, h3⟩, h4⟩, h5⟩ := h
       cases hw : P.exc[c]? with
       | none => rw [hw] at h2; cases h2
       | some w =>
         rw [hw] at h2
         exact ⟨_, _, _, _, _, _, w, rfl, h1, rfl, of_decide_eq_true h2, h3, h4, h5⟩)
    | (rename_i e1 e2; cases e1; done)
    | (rename_i e1; cases e1; done)
    | cases h
theorem v_pass {x : Stmt} (h : mS P N sc ss l .pass x = true) : ∃ pos, x = .Pass pos := by
  unfold mS at h
  split at h <;> first
    | exact ⟨_, rfl⟩
    | (rename_i e1; cases e1; done)
    | cases h
/-- an error with fields leaves -/
theorem sm_rsf (cx : Ctx A P C N sc ss l kk W X) (h2 : Room 2 X.A) {c : Nat} {es : EL} {y : Str} {p : Pos} {a : Expr} {as : List Expr} {p3 pos : Pos} {w : Str × Str} (hc : c ∈ P.raf) (hw : P.exc[c]? = some w) (hy : w.1 = y) (hg : gloB sc y = true) (ho : odd y = false) (hl : mL P N es l sc (a :: as) = true) :
    PS X (.Raise (some (.Call (.Name y p) (a :: as) [] p3)) none pos) (tS A P C W (.rsf c es)) := by
  subst hy
  have T := cx.exf c hc w hw
  have at_ := (mL_all hl).1
  rw [List.all_cons, Bool.and_eq_true] at at_
  have mk := pmk_fld (p := p) (pos := p3) T h2 (show X.env.scope.names.lookup _ = _ by rw [cx.eS]; exact gloB_ok hg) (odd_ok ho).1 (sL hC es cx hl) (starEach_no at_.1 _ _) (back_no _ _ at_.2)
  refine PS_imp (L2.ps_raise (pos := pos) cx.calm cx.tk mk) fun D σ H z => ?_
  obtain ⟨B, m, h, ρ, S, s, z⟩ := z
  unfold wpS at z
  refine tL_of hC S s z fun vs h1 m1 H1 ws q S1 M1 r1 => ?_
  obtain ⟨ns, rfl, e2, q⟩ := q
  obtain rfl : ws = ns.map V.int := by
    clear q e2 z
    induction ns generalizing ws with
    | nil => cases r1; rfl
    | cons n ns ih =>
      cases r1 with
      | cons r rs =>
        rw [ih _ rs]
        cases (show Rp A _ H1 (.int n) _ from r)
        rfl
  have many : fldN c ≠ [] ∧ (fldN c).length ≤ 2 := by
    clear q e2 z r1 M1 S1 mk
    obtain ⟨_, _, _, _, _, _, _, _, _, _, _, _, _, _, _, _, _, _, _, _, _, _, _, _, sh⟩ := T.ini
    have two : c = 17 ∨ c = 18 := by
      exact sh.imp (fun q => q.1) fun q => q.1
    rcases two with e | e <;> (rw [e]; exact ⟨by decide, by decide⟩)
  refine fld_in (by rw [List.length_map, e2]) many.2 fun d nd => ?_
  obtain ⟨M2, S2⟩ := S1.news (o := .xd ((fldN c).zip (ns.map V.int)).reverse) nd
  refine q m1 _ _ _ S2 (M1.trans M2) ⟨rfl, .inr ⟨d, (fldN c).zip ns, ?_, rfl, ?_, ?_⟩⟩
  · intro z0
    have len := congrArg List.length z0
    rw [List.length_zip, e2, Nat.min_self] at len
    exact many.1 (List.length_eq_zero_iff.mp len)
  · rw [List.zip_map_right]
    rfl
  · rw [upd_same, List.zip_map_right]
    rfl
/-- the calls kept so far, ahead of what follows -/
def tWb (A : Ad) (P : Pg) (C : CallT) (W : XK) (kk : Nat) (X : Cx) (i iz x k : Nat) (pre rest : EL) (rhs : E) (r : SL) : TS := fun D σ H => ∃ (B : Addr → Prop) (m : List Addr) (h : Hs) (H0 : Hp) (ρ : G43.Env) (a : Addr) (fs : List Addr),
  H0 a = none ∧ Mv m h H0 m h H ∧ Sim A (Bx B a) m h H ∧ Sl A B m h H ρ σ ∧ Sl A (Bx B a) m h H ρ σ ∧ σ[i]? = some (some (.ref a)) ∧ H a = some (.lst (fs.map V.ref)) ∧ CloL A P C kk X H pre fs ∧ fs.length + rest.len ≤ 900 ∧
  ∃ p, ρ[k]? = some (some (.pv p)) ∧ if isNon p = true then wpPL P C (pre.app rest) ρ h (fun ps h2 => wpSL P C r (ρ.set x (some (.pv (.lst ps)))) h2 (Kn A B m h H0 D.nx) (Kv A B m h H0 D.rt) (Kx A B m h H0 W)) else wpE P C (wlsE (pre.app rest) (some rhs)) ρ h (Kv A B m h H0 D.rt) (Kx A B m h H0 W)
mutual
theorem sS (cx : Ctx A P C N sc ss l kk W X) (h2_ : Room 2 X.A) : ∀ (s : S) (x : Stmt), mS P N sc ss l s x = true → PS X x (tS A P C W s)
  | .set i e, x, h => by
    obtain ⟨y, px, v, pos, rfl, h1, h2, h3, h4⟩ := v_set hC h
    exact s_set hC cx h1 h2 h3 h4
  | .par is es, x, h => by
    obtain ⟨ts, kt, pt, vs, k2, pt2, pos, rfl, h1, h2, h3, h4⟩ := v_par hC h
    exact s_par hC cx h1 h2 h3 h4
  | .unp tg e, x, h => by
    obtain ⟨ts, k, p, v, pos, rfl, h1, h2, h3, h4⟩ := v_unp hC h
    exact s_unp hC cx h1 h2 h3 h4
  | .nev, x, h => ⟨fun pins s σ H D I z => by
      obtain ⟨B, m, h, ρ, S, sl, z⟩ := z
      unfold wpS at z
      exact z.elim⟩
  | .sub o i v, x, h => by
    obtain ⟨o', i', p, v', pos, rfl, h1, h2, h3, h4, h5⟩ := v_sub hC h
    exact s_sub hC cx h1 h2 h3 h4 h5
  | .app o v, x, h => by
    obtain ⟨y, px, ap, v', cp, pos, rfl, h1, h2, h3, h4⟩ := v_app hC h
    exact s_app hC cx h1 h2 h3 h4
  | .lap o v, x, h => by
    obtain ⟨u, f, px, ap, v', cp, pos, rfl, h0, h1, h2, h3, h4⟩ := v_lap hC h
    exact s_lap hC cx h0 h1 h2 h3 h4
  | .fst o k t e, x, h => by
    obtain ⟨o', f, ap, v', pos, c, rfl, h1, h2, h3, h4, h5, h6⟩ := v_fst hC h
    exact s_fst hC cx h1 h2 h3 h4 h5 h6
  | .fnl o k t e, x, h => by
    obtain ⟨o', f, ap, v', pos, c, rfl, h1, h2, h3, h4, h5, h6, h7⟩ := v_fnl hC h
    exact s_fnl hC cx h1 h2 h3 h4 h5 h6 h7
  | .exp e, x, h => by
    obtain ⟨e', pos, rfl, h1, h2⟩ := v_exp hC h
    refine PS_imp (L2.ps_expr (sE hC e cx h1).1 (swaps_no hC h2)) fun D σ H z => ?_
    obtain ⟨B, m, h, ρ, S, s, z⟩ := z
    unfold wpS at z
    exact tE_of hC S s z fun v h1 m1 H1 w q S1 M1 r1 => q m1 H1 σ S1 M1 (s.move S M1)
  | .iff t a b, x, h => by
    obtain ⟨t', a', b', pos, rfl, h1, h2, h3⟩ := v_iff hC h
    exact PS_imp (L2.ps_if (sE hC t cx h1).2 (sSL cx h2_ a a' h2) (sSL cx h2_ b b' h3)) (i_iff hC)
  | .for kl tg it b, x, h => by
    obtain ⟨tg', it', b', pos, rfl, h1, h2, h3, h4, h5⟩ := v_for hC h
    exact PS_imp (L2.ps_for cx.po cx.calm (sI hC it cx h2 h4) (sG cx tg h1) (sSL cx h2_ b b' h5) (fun x => by cases it' <;> first | rfl | cases h3)) (i_for hC)
  | .whl kl t b, x, h => by
    obtain ⟨t', b', pos, rfl, h1, h2⟩ := v_whl hC h
    exact PS_imp (L2.ps_while cx.po (sE hC t cx h1).2 (sSL cx h2_ b b' h2)) (i_whl hC)
  | .ret e, x, h => by
    obtain ⟨e', pos, rfl, h1⟩ := v_ret hC h
    refine PS_imp (L2.ps_ret (sE hC e cx h1).1) fun D σ H z => ?_
    obtain ⟨B, m, h, ρ, S, s, z⟩ := z
    unfold wpS at z
    exact ⟨B, m, h, ρ, S, s, z⟩
  | .retN, x, h => by
    obtain ⟨pos, rfl⟩ := v_retN hC h
    refine PS_imp L2.ps_retN fun D σ H z => ?_
    obtain ⟨B, m, h, ρ, S, s, z⟩ := z
    unfold wpS at z
    exact z m H _ S (Mv.refl _ _ _) .non
  | .rse, x, h => PS_imp L2.ps_never fun D σ H z => by
    obtain ⟨B, m, h, ρ, S, s, z⟩ := z
    unfold wpS at z
    exact z
  | .rsf c es, x, h => by
    obtain ⟨y, p, a, as, p3, pos, w, rfl, h1, h2, h3, h4, h5, h6⟩ := v_rsf hC h
    exact sm_rsf hC cx h2_ h1 h2 h3 h4 h5 h6
  | .rsx c, x, h => by
    obtain ⟨y, p, m, j, p2, p3, pos, w, rfl, h1, h2, rfl, h4, h5⟩ := v_rsx hC h
    obtain ⟨o1, o2, o3⟩ := odd_ok h5
    have d := cx.exc c h1 w h2
    have mk := L2.pmk_own (X := X) (m := m) (j := j) (p := p) (p2 := p2) (pos := p3) PySem.F.excBase_ValueError d.ei d.mg d.kp d.rs (show X.env.scope.names.lookup _ = _ by rw [cx.eS]; exact gloB_ok h4) o1
    refine PS_imp (L2.ps_raise (pos := pos) cx.calm cx.tk mk) fun D σ H z => ?_
    obtain ⟨B, m, h, ρ, S, s, z⟩ := z
    unfold wpS at z
    exact z m H _ _ S (Mv.refl _ _ _) ⟨rfl, .inl ⟨rfl, rfl⟩⟩
  | .pass, x, h => by
    obtain ⟨pos, rfl⟩ := v_pass hC h
    refine PS_imp L2.ps_pass fun D σ H z => ?_
    obtain ⟨B, m, h, ρ, S, s, z⟩ := z
    unfold wpS at z
    exact z m H σ S (Mv.refl _ _ _) s
theorem sSL (cx : Ctx A P C N sc ss l kk W X) (h2_ : Room 2 X.A) : ∀ (s : SL) (x : List Stmt), mSL P N sc ss l s x = true → PSs X x (tSL A P C W s)
  | .nil, [], h => PSs_imp L2.pss_nil fun D σ H z => by
    obtain ⟨B, m, h, ρ, S, s, z⟩ := z
    unfold wpSL at z
    exact z m H σ S (Mv.refl _ _ _) s
  | .nil, _ :: _, h => by simp [mSL] at h
  | .cons _ _, [], h => by simp [mSL] at h
  | .cons s r, a :: as, h => by
    simp only [mSL, Bool.and_eq_true] at h
    exact PSs_imp (L2.pss_cons (sS cx h2_ s a h.1) (sSL cx h2_ r as h.2)) (i_cons hC)
end
end
end G43
set_option Elab.async false
set_option linter.all false
set_option maxRecDepth 100000
set_option maxHeartbeats 4000000
namespace G43
open PySem PySem.Spec PyProof.Rows
open L2 (V HO Hp SqL SqT upd upd_same upd_ne Cx VK TE TA TS PE PA PS PSs XK Sp Room Vals Inv frs thn WX Takes Un CR cloFrom)
open LamX (LamS lamEnv lamCx CodeO Tabs ExtN TabB)
/-! ### a lambda that the law's own word calls -/
section
variable {X : Cx} {pins : List (Addr × Obj)} {σ : L2.St} {H : Hp} {s : Shared}
/-- the frame of the def that got the lambda -/
abbrev gEnv (qg : Str) (sg : Scope) (g : Addr) (cdg : Value) (s : Shared) : PySem.Env := envOfC qg sg s.heap.objs.size g cdg
/-- its context -/
abbrev gCx (X : Cx) (CXg : L2.CXT) (Ng : List Str) (qg : Str) (sg : Scope) (g : Addr) (cdg : Value) (s : Shared) (H : Hp) (Eg : XK) : Cx := L2.cxOf CXg X.prog X.w X.K X.mg X.base Ng qg sg g cdg X.A X.stack s H Eg
theorem w_act {CXg : L2.CXT} {Eg : XK} {Ng : List Str} {qg : Str} {sg : Scope} {g f c' : Addr} {cdg : Value} {params : Arguments} {body : Expr} {scope : Scope} {k i : Nat} {a : Str} {pn : List (Addr × Obj)}
    {xe : Value → Shared → Prop} {Wk : WX} {E : XK} {tb : TE} {p1 p2 : Pos} (I : Inv X pins σ H s) (L : LamS X.env.scope scope)
    {Pz : Hp → Prop} (hget : ∀ pz σz HZ s1, Inv ((gCx X CXg Ng qg sg g cdg s H Eg).tr pn xe) pz σz HZ s1 → Pz HZ → ∃ pm ctv : Value, s1.heap.get? f = some (PySem.W.kla_obj "<lambda>" (X.env.qual ++ "<lambda>") params body scope (cloFrom X.env.cells scope.names []) pm c' ctv)) (hcode : ∀ HZ, Pz HZ → HZ c' = some (CodeO c' (X.env.qual ++ "<lambda>")))
    (hbind : ∀ pm ctv : Value, bindArgs (PySem.W.kla_fn "<lambda>" (X.env.qual ++ "<lambda>") params body scope (cloFrom X.env.cells scope.names []) pm (.ref c') ctv) ⟨[], []⟩ = pure [])
    (tk : Takes ((gCx X CXg Ng qg sg g cdg s H Eg).tr pn xe) Wk) (hW : ∀ cls d σ' H', E cls d H' → Wk cls d σ' H') (hr : Room (k + 1) (X.A.deeper (gEnv qg sg g cdg s)))
    (hbody : ∀ (s' : Shared) (H' : Hp), Room k ((X.A.deeper (gEnv qg sg g cdg s)).deeper (lamEnv X scope s'.heap.objs.size f c')) → PE (lamCx X (X.A.deeper (gEnv qg sg g cdg s)) (gEnv qg sg g cdg s :: X.stack) s' H' E scope f c') body tb)
    (hN : Ng[i]? = some a) (hv : L2.Vis sg a) (hd : (a == ("__debug__" : Str)) = false) (hcd : (a == ("__classdict__" : Str)) = false) :
    PE ((gCx X CXg Ng qg sg g cdg s H Eg).tr pn xe) (.Call (.Name a p1) [] [] p2) (fun σZ HZ Q => σZ[i]? = some (some (.ref f)) ∧ Pz HZ ∧ tb σ HZ Q) := by
  constructor
  rintro pz sz σz Hz Q Iz ⟨hs, hp, ht⟩
  have hc := hcode _ hp
  have vr := L2.pe_var (X := (gCx X CXg Ng qg sg g cdg s H Eg).tr pn xe) (pos := p1) (i := i) hN hv hd hcd
  refine wpAny_Call_Name_kw (thn (vr.run pz sz σz Hz (fun v H1 => v = .ref f ∧ H1 = Hz) Iz ⟨.ref f, hs, rfl, rfl⟩) ?_)
  rintro u s1 ⟨v, H1, I1, r1, rfl, rfl⟩
  cases (show u = Value.ref f from r1)
  obtain ⟨pm, ctv, o1⟩ := hget _ _ _ _ I1 hp
  refine PySem.W.callWith_F0 ⟨_, _, _, _, o1⟩ ?_
  have un : Un (frs X.stack) [] H H1 s.heap s1.heap := I1.base
  obtain ⟨⟨oc, vs, t, hoc, hdc, hvc⟩, _, _⟩ := I1.hok c' _ hc
  have run : codeAny (model X.prog X.w) (X.A.deeper (gEnv qg sg g cdg s)) (.call (.ref f) ⟨[], []⟩) (CR (L2.CX X.prog X.w) (gEnv qg sg g cdg s :: X.stack) X.prog X.w H1 s1 Q E) s1 := by
    refine PySem.W.kla_callFunE hr.depth o1 rfl L.co L.gen rfl ⟨c', oc, vs, t, rfl, hoc, hdc, hvc⟩ ?_
    rw [hbind pm ctv]
    refine wpAny_pure (wpAny_newFunctionEnv (fun y hy => (L.own y hy).2) (fun y hy => absurd hy (by simp)) (fun h1 hns hsb => ⟨I1.nolimit.fresh _ hsb, ?_⟩) L.kind)
    show codeAny _ _ (.expr body (lamEnv X scope s1.heap.objs.size f c')) _ _
    have kp : ∀ b o, s1.heap.get? b = some o → h1.get? b = some o := by
      intro b o e
      exact hsb.extBut b o (Nat.ne_of_lt (Heap.lt_size e)) (Heap.get?_push_of_some _ e)
    have J := LamX.lam_start2 (E := E) (f := f) (c' := c') (tk := s1.toks + ([] : List (Str × Value)).length) I L I1.env0 hr.hd un hns kp
    refine PySem.W.kla_codeExpr (wpAny_mono ((hbody s1 H1 (hr.deeper _)).run [] _ _ H1 Q J ht) ?_ fun _ _ z => z)
    rintro v s2 ⟨w, H2, J2, rv, q⟩
    exact ⟨w, H2, J2.os, J2.bare, J2.base, J2.hok, rv, q⟩
  have out := L2.passes_call tk hW
  refine wpAny_call (codeAny_mono run ?_)
  rintro (e | fl) s2 hq
  · exact out pz σz H1 s1 e s2 I1 hq
  · rcases fl with _ | _ | _ | u
    · exact hq.elim
    · exact hq.elim
    · exact hq.elim
    · exact I1.after hq
/-- what the def that got it makes of it -/
def Gives (X : Cx) (Ng : List Str) (x : Str) (sg : Scope) (g : Addr) (cdg : Value) (bg : List Stmt) (a : Str) (q : Str) (TT : (XK → Hp → VK → Prop) → Hp → VK → Prop) : Prop :=
  ∀ (f : Addr) (Pz : Hp → Prop) (s : Shared) (H : Hp) (Q : VK) (tl : XK → Hp → VK → Prop), X.A.guards = some [] →
    (∀ (Wk : WX) (pn : List (Addr × Obj)) (xe : Value → Shared → Prop) (E : XK) (p1 p2 : Pos), Takes ((gCx X C8.CX0 Ng x sg g cdg s H C8.E0).tr pn xe) Wk → (∀ cls d σ' H', E cls d H' → Wk cls d σ' H') →
      PE ((gCx X C8.CX0 Ng x sg g cdg s H C8.E0).tr pn xe) (.Call (.Name a p1) [] [] p2) (fun σZ HZ Q => σZ[0]? = some (some (.ref f)) ∧ Pz HZ ∧ tl E HZ Q)) →
    Pz H → TT tl H Q →
    ∃ t, PSs (gCx X C8.CX0 Ng x sg g cdg s H C8.E0).nox bg t ∧ t { nx := fun _ H' => Q .non H', rt := Q } (L2.start Ng [.ref f]) H
theorem w_lamcall {T : List (Addr × Str)} {TT : (XK → Hp → VK → Prop) → Hp → VK → Prop} {x a : Str} {g c P : Addr} {k : Nat} {pg : Arguments} {bg : List Stmt} {sg : Scope} {dV kV doc pm cdv ct oc : Value} {an od : Option Addr} {osl : Array (Option Value)}
    {Ng : List Str} {params : Arguments} {body : Expr} {scope : Scope} {t : XK → TE} {p lpos pos : Pos} (hg : L2.Gl X x) (hm : X.mg x = some (.ref g)) (hk : PySem.W.keepIn X.K (.ref g) = true)
    (lk : X.K.lookup g = some ⟨oc, od, .func (PySem.W.fnOf x x pg bg sg dV kV doc pm an cdv ct), osl⟩) (hcg : PySem.W.codeIn X.K cdv x = true) (hb : L2.Binds X.K (PySem.W.fnOf x x pg bg sg dV kV doc pm an cdv ct) [a] [])
    (Sg : L2.FnScope Ng [a] sg) (hNg : Ng[0]? = some a) (hva : L2.Vis sg a) (hG : Gives X Ng x sg g cdv bg a (X.env.qual ++ "<lambda>") TT) (hgd : X.A.guards = some [])
    (TB : TabB X.base X.mg c P) (hcode : X.env.code = .ref c) (hmT : (P, X.env.qual ++ "<lambda>") ∈ T) (hu : ∀ p ∈ T, p.1 = P → p.2 = X.env.qual ++ "<lambda>") (hr : Room (k + 2) X.A) (L : LamS X.env.scope scope)
    (hdef : defaultsOf params X.env = ([], [])) (hbind : ∀ (q : Str) (cl : List (Str × Addr)) (pm cv ctv : Value), bindArgs (PySem.W.kla_fn "<lambda>" q params body scope cl pm cv ctv) ⟨[], []⟩ = pure [])
    (hbody : ∀ (Ar : Around) (outer : List PySem.Env) (s : Shared) (H : Hp) (E : XK) (f c' : Addr), Ar.guards = some [] → Room k (Ar.deeper (lamEnv X scope s.heap.objs.size f c')) → PE (lamCx X Ar outer s H E scope f c') body (t E))
    (hdb : (x == ("__debug__" : Str)) = false) (hd : (a == ("__debug__" : Str)) = false) (hcd : (a == ("__classdict__" : Str)) = false) :
    PE X (.Call (.Name x p) [.Lambda params body scope lpos] [] pos) (LamX.tLam T TT t) := by
  constructor
  rintro pins s σ H Q I ⟨hT, h⟩
  refine wpAny_Call_Name_kw (L2.ld_glob I hg hm ?_ hdb)
  refine PySem.W.callWith_K (h₀ := X.base) I.ok.mod.kin hk ?_ (by rfl) (by rfl)
  show wpAny _ _ (spliced ((false, eval (.Lambda params body scope lpos) X.env) :: backTo pos (starEach [] X.env))) _ _ s
  refine Calls.spliced_cons (LamX.lam_make2 I TB hcode hmT hu hT hdef (L.has I.ok) ?_)
  intro f c' pm' ctv H1 s' I1 eN T1 hf hfn hfr hco
  refine Calls.spliced_nil ⟨I1.kIn, ?_⟩
  have run : codeAny (model X.prog X.w) X.A (.call (.ref g) ⟨[.ref f], []⟩) (CR C8.CX0 X.stack X.prog X.w H1 s' Q C8.E0) s' := by
    refine LamX.run_ofS (N := Ng) (ps := [a]) (us := [.ref f]) (vs := [.ref f]) lk hcg Sg hr I1.env0 (hb s' [.ref f] I1.kIn rfl) (.cons rfl .nil) rfl ?_
    intro hr'
    obtain ⟨t', q1, q2⟩ := hG f (fun HZ => HZ c' = some (CodeO c' (X.env.qual ++ "<lambda>"))) s' H1 Q (fun E H' Q' => t E σ H' Q') hgd (fun Wk pn xe E p1 p2 tk hW => w_act (i := 0) I1 L (fun pz σz HZ s2 J _ => ⟨_, _, J.base.keep f _ hf hfn hfr (fun z => nomatch (show f ∈ ([] : List Addr) from z))⟩) (fun HZ z => z) (fun _ _ => hbind _ _ _ _ _) tk hW hr' (fun s2 H2 hr2 => hbody _ _ s2 H2 E f c' (by rw [guards_deeper]; exact hgd) hr2) hNg hva hd hcd) hco (h H1 eN T1)
    exact ⟨t', q1.nox, q2⟩
  refine wpAny_call (codeAny_mono run ?_)
  rintro (e | fl) s2 hq
  · exact (show False from hq).elim
  · rcases fl with _ | _ | _ | u
    · exact hq.elim
    · exact hq.elim
    · exact hq.elim
    · exact I1.after hq
end
/-! ### the law's own word: its text's end -/
theorem wn_ok (P : Pg) : (P.wn == ("__debug__" : Str)) = false := by
  unfold Pg.wn
  split <;> decide
theorem noPar_eq {ps : Arguments} (h : noPar ps = true) : ps = ⟨[], [], none, [], [], none, []⟩ := by
  obtain ⟨a, b, c, d, e, f, g⟩ := ps
  simp only [noPar, Bool.and_eq_true, List.isEmpty_iff, Option.isNone_iff_eq_none] at h
  obtain ⟨⟨⟨⟨⟨⟨rfl, rfl⟩, rfl⟩, rfl⟩, rfl⟩, rfl⟩, rfl⟩ := h
  rfl
/-- what the head tells of the law's own word -/
structure WordAt (A : Ad) (P : Pg) (K : PySem.W.Frag) (mg : Str → Option Value) : Prop where
  ex : ∃ (g : Addr) (pg : Arguments) (bg : List Stmt) (sg : Scope) (dV kV doc pm cdv ct oc : Value) (an od : Option Addr) (osl : Array (Option Value)) (Ng : List Str) (a : Str),
    mg P.wn = some (.ref g) ∧ PySem.W.keepIn K (.ref g) = true ∧ K.lookup g = some ⟨oc, od, .func (PySem.W.fnOf P.wn P.wn pg bg sg dV kV doc pm an cdv ct), osl⟩ ∧ PySem.W.codeIn K cdv P.wn = true ∧
    L2.Binds K (PySem.W.fnOf P.wn P.wn pg bg sg dV kV doc pm an cdv ct) [a] [] ∧ L2.FnScope Ng [a] sg ∧ Ng[0]? = some a ∧ L2.Vis sg a ∧ (a == ("__debug__" : Str)) = false ∧ (a == ("__classdict__" : Str)) = false ∧
    ∀ (X : Cx) (q : Str), X.K = K → X.mg = mg → Room 2 X.A → Gives X Ng P.wn sg g cdv bg a q (TTw A P)
end G43
set_option Elab.async false
set_option linter.all false
set_option maxRecDepth 100000
set_option maxHeartbeats 4000000
namespace G43
open PySem PySem.Spec PyProof.Rows
open L2 (V HO Hp SqL SqT upd upd_same upd_ne Cx VK TE TA TS TI TG TT PE PA PS PSs PI PG PTs XK Sp Room Vals Inv frs thn thnF WX Takes Un CR cloFrom RelV FpOk BlkOk wipe closure_ok)
open LamX (LamS lamEnv lamCx CodeO Tabs ExtN TabB among_app codeO_ne inv_table)
section
variable {X : Cx} {pins : List (Addr × Obj)} {σ : L2.St} {H : Hp} {s : Shared}
/-! ### a lambda that is kept in a list -/
/-- such a lambda, laid as the newest object -/
theorem lam_new {q : Str} {cl : List (Str × Addr)} {params : Arguments} {body : Expr} {scope : Scope} {c' : Addr} {pm ctv : Value} {n : Nat} (I : Inv X pins σ H s) :
    Inv X pins σ (upd H s.heap.objs.size (LamO q cl params body scope s.heap.objs.size c')) { s with heap := s.heap.push (PySem.W.kla_obj "<lambda>" q params body scope cl pm c' ctv), toks := n } := by
  have top : (s.heap.push (PySem.W.kla_obj "<lambda>" q params body scope cl pm c' ctv)).get? s.heap.objs.size = some (PySem.W.kla_obj "<lambda>" q params body scope cl pm c' ctv) := Heap.get?_push_size _ rfl
  have all : L2.ObjOk X.prog X.w (upd H s.heap.objs.size (LamO q cl params body scope s.heap.objs.size c')) (s.heap.push (PySem.W.kla_obj "<lambda>" q params body scope cl pm c' ctv)) s.heap.objs.size (LamO q cl params body scope s.heap.objs.size c') := by
    refine ⟨⟨pm, ctv, top⟩, ⟨_, top⟩, ?_⟩
    rintro g1 g2 ⟨a, b, e⟩ st
    exact ⟨a, b, st _ e⟩
  exact I.laid (fun b u e => Heap.get?_push_of_some _ e) (Nat.le_refl _) all
/-- what a table becomes by one entry more -/
def putT (H : Hp) (P : Addr) (ps : Array Value) (pos : Pos) (c' : Addr) (q : Str) : Hp :=
  upd (upd H P (HO.tbl (ps ++ #[rawInt pos.line, rawInt pos.col, .ref c']))) c' (CodeO c' q)
theorem putT_ext {P : Addr} {ps : Array Value} {pos : Pos} {c' : Addr} {q : Str} (eP : H P = some (HO.tbl ps)) (eC : H c' = none) : ExtN H (putT H P ps pos c' q) := by
  intro b o e n
  have h1 : b ≠ c' := by
    rintro rfl
    rw [eC] at e
    cases e
  have h2 : b ≠ P := by
    rintro rfl
    rw [eP] at e
    exact n ps (Option.some.inj e).symm
  unfold putT
  rw [upd_ne h1, upd_ne h2, e]
theorem putT_tabs {T : List (Addr × Str)} {P : Addr} {ps : Array Value} {pos : Pos} {c' : Addr} {q : Str} (eP : H P = some (HO.tbl ps)) (eC : H c' = none) (hT : Tabs T H) (tr : TriplesOk ps.toList) (told : ∀ (p : Pos) (v : Value), codeAmong p ps.toList = some v → ∃ c, v = .ref c ∧ H c = some (CodeO c q))
    (one : ∀ p ∈ T, p.1 = P → p.2 = q) : Tabs T (putT H P ps pos c' q) := by
  have X1 := putT_ext (pos := pos) (q := q) eP eC
  have lst : (ps ++ #[rawInt pos.line, rawInt pos.col, .ref c']).toList = ps.toList ++ [rawInt pos.line, rawInt pos.col, .ref c'] := by simp
  intro p hp
  by_cases e : p.1 = P
  · have e2 := one p hp e
    rw [e, e2]
    have at_ : putT H P ps pos c' q P = some (HO.tbl (ps ++ #[rawInt pos.line, rawInt pos.col, .ref c'])) := by
      unfold putT
      rw [upd_ne (by rintro rfl; rw [eC] at eP; cases eP), upd_same]
    refine ⟨_, at_, ?_, ?_⟩
    · rw [lst]
      exact TriplesOk_snoc _ _ _ _ tr
    · intro p' v hv
      rw [lst] at hv
      cases among_app _ tr hv with
      | inl z =>
        obtain ⟨c0, rfl, k⟩ := told p' v z
        exact ⟨c0, rfl, X1 _ _ k codeO_ne⟩
      | inr z => exact ⟨c', z, upd_same⟩
  · obtain ⟨ps', k1, k2, k3⟩ := hT p hp
    have at_ : putT H P ps pos c' q p.1 = some (HO.tbl ps') := by
      unfold putT
      rw [upd_ne (by intro z; rw [z, eC] at k1; cases k1), upd_ne e, k1]
    refine ⟨ps', at_, k2, fun p' v hv => ?_⟩
    obtain ⟨c0, rfl, k⟩ := k3 p' v hv
    exact ⟨c0, rfl, X1 _ _ k codeO_ne⟩
/-- the end of its making: the function object goes on top -/
theorem lm_end {T : List (Addr × Str)} {q : Str} {cl : List (Str × Addr)} {params : Arguments} {body : Expr} {scope : Scope} {H0 : Hp} {c' : Addr} {pm ctv : Value} {n : Nat} {Q : VK} (I : Inv X pins σ H s) (e0 : ExtN H0 H) (hT : Tabs T H) (fr : H0 s.heap.objs.size = none) (kc : H c' = some (CodeO c' q))
    (h : ∀ f c' H1, ExtN H0 H1 → Tabs T H1 → H0 f = none → H1 f = some (LamO q cl params body scope f c') → H1 c' = some (CodeO c' q) → Q (.ref f) H1) :
    L2.EP X pins σ Q (.ref s.heap.objs.size) { s with heap := s.heap.push (PySem.W.kla_obj "<lambda>" q params body scope cl pm c' ctv), toks := n } := by
  have nw : H s.heap.objs.size = none := I.hok.fresh (Nat.le_refl _)
  have up : ∀ b o, H b = some o → upd H s.heap.objs.size (LamO q cl params body scope s.heap.objs.size c') b = some o := by
    intro b o e
    rw [upd_ne (by rintro rfl; rw [nw] at e; cases e), e]
  exact ⟨.ref _, _, lam_new I, rfl, h _ c' _ (fun b o e k => up b o (e0 b o e k)) (hT.ext up) fr upd_same (up _ _ kc)⟩
theorem pe_lm {T : List (Addr × Str)} {c P : Addr} {params : Arguments} {body : Expr} {scope : Scope} {pos : Pos} (TB : TabB X.base X.mg c P) (code : X.env.code = .ref c) (inT : (P, X.env.qual ++ ("<lambda>" : Str)) ∈ T) (one : ∀ p ∈ T, p.1 = P → p.2 = X.env.qual ++ ("<lambda>" : Str))
    (L : LamS X.env.scope scope) (nodef : defaultsOf params X.env = ([], [])) :
    PE X (.Lambda params body scope pos) (tLm T (X.env.qual ++ ("<lambda>" : Str)) (cloFrom X.env.cells scope.names []) params body scope) := by
  constructor
  rintro pins s σ H Q I ⟨hT, h⟩
  have clo := closure_ok (L.has I.ok)
  have tb := hT _ inT
  obtain ⟨ps, eP, tr, told⟩ := tb
  have oP := I.hok P _ eP
  have gl := I.mod.glob.keeps I.bk
  have co := TB.code.keeps I.bk
  have bm := TB.bm.keeps I.bk
  refine PySem.W.kla_eval nodef ?_
  match hc : codeAmong pos ps.toList with
  | some v =>
    obtain ⟨c', rfl, kc⟩ := told pos v hc
    refine PySem.W.kla_makeFunctionHit (ps := ps) clo I.ok.glob gl code co oP tr hc bm ?_
    intro ctv g tk kp sz
    have I1 : Inv X pins σ H { s with heap := g, toks := tk } := I.kept kp
    exact lm_end I1 (ExtN.refl H) hT (I1.hok.fresh (Nat.le_refl _)) kc h
  | none =>
    refine PySem.W.kla_makeFunction (ps := ps) clo I.ok.glob gl code co oP tr hc TB.gP bm ?_
    intro c' ctv g tk kp low lt rec tbl
    obtain ⟨c2, oc, vs, t, e2, o1, o2, o3⟩ := rec
    cases e2
    have eC : H c' = none := I.hok.fresh low
    have I1 : Inv X pins σ (putT H P ps pos c' (X.env.qual ++ ("<lambda>" : Str))) { s with heap := g, toks := tk } := inv_table I eP kp tbl low ⟨oc, vs, t, o1, o2, o3⟩
    exact lm_end I1 (putT_ext eP eC) (putT_tabs eP eC hT tr told one) (I.hok.fresh (Nat.le_trans low (Nat.le_of_lt lt))) upd_same h
end
end G43
set_option Elab.async false
set_option linter.all false
set_option maxRecDepth 100000
set_option maxHeartbeats 4000000
namespace G43
open PySem PySem.Spec PyProof.Rows PySem.W
open L2 (V HO Hp upd upd_same upd_ne Cx VK TE TI TG PE PI PG Turn Inv thn thnF cloFrom RelV FpOk BlkOk wipe gName pinsAt mem_pinsAt Room)
open LamX (TabB)
section
variable {X : Cx}
theorem pe_wvar {pins : List (Addr × Obj)} {σ : L2.St} {H : Hp} {s : Shared} {cs : Scope} {ce : PySem.Env} {fp : List Addr} {TT : (L2.XK → Hp → VK → Prop) → Hp → VK → Prop} {x z a q : Str} {g : Addr} {k iz : Nat} {pg : Arguments} {bg : List Stmt} {sg : Scope} {dV kV doc pm cdv ct oc : Value} {an od : Option Addr} {osl : Array (Option Value)}
    {Ng : List Str} {p pz pos : Pos} (I : Inv X pins σ H s) (low : ∀ b ∈ fp, FpOk X pins H b) (hg : L2.Gl (X.blk s H cs ce fp) x) (hm : X.mg x = some (.ref g)) (hk : PySem.W.keepIn X.K (.ref g) = true)
    (lk : X.K.lookup g = some ⟨oc, od, .func (PySem.W.fnOf x x pg bg sg dV kV doc pm an cdv ct), osl⟩) (hcg : PySem.W.codeIn X.K cdv x = true) (hb : L2.Binds X.K (PySem.W.fnOf x x pg bg sg dV kV doc pm an cdv ct) [a] [])
    (Sg : L2.FnScope Ng [a] sg) (hNg : Ng[0]? = some a) (hva : L2.Vis sg a) (hG : Gives X Ng x sg g cdv bg a q TT) (hgd : X.A.guards = some []) (hr : L2.Room (k + 2) X.A) (hz : X.N[iz]? = some z) (vz : L2.Vis ce.scope z)
    (hdb : (x == ("__debug__" : Str)) = false) (hd : (a == ("__debug__" : Str)) = false) (hcd : (a == ("__classdict__" : Str)) = false) (zd : (z == ("__debug__" : Str)) = false) (zcd : (z == ("__classdict__" : Str)) = false) :
    PE (X.blk s H cs ce fp) (.Call (.Name x p) [.Name z pz] [] pos) (tWv X k TT iz σ) := by
  constructor
  rintro pins' s2 σ2 H2 Q I2 ⟨f, tl, sz, ⟨c', params, body, lsc, t, hP, L, bind, bodies, rfl⟩, tt⟩
  have IX : Inv X pins σ H2 s2 := by
    refine I.call' (ch := fp) I2.os I2.base I2.hok I2.bare fun b hb => ?_
    obtain ⟨k0, k1, k2, k3, k4, k5⟩ := low b hb
    exact ⟨k3, k1, k4, k5⟩
  refine wpAny_Call_Name_kw (L2.ld_glob I2 hg hm ?_ hdb)
  refine PySem.W.callWith_K (h₀ := X.base) I2.ok.mod.kin hk ?_ (by rfl) (by rfl)
  show wpAny _ _ (spliced ((false, eval (.Name z pz) (X.blk s H cs ce fp).env) :: backTo pos (starEach [] (X.blk s H cs ce fp).env))) _ _ s2
  have vr := L2.pe_var (X := X.blk s H cs ce fp) (pos := pz) (i := iz) hz vz zd zcd
  refine Calls.spliced_cons (thn (vr.run _ s2 σ2 H2 (fun v H' => v = .ref f ∧ H' = H2) I2 ⟨.ref f, sz, rfl, rfl⟩) ?_)
  rintro u s3 ⟨v, H3, I3, r3, rfl, rfl⟩
  cases (show u = Value.ref f from r3)
  have IX3 : Inv X pins σ H3 s3 := by
    refine I.call' (ch := fp) I3.os I3.base I3.hok I3.bare fun b hb => ?_
    obtain ⟨k0, k1, k2, k3, k4, k5⟩ := low b hb
    exact ⟨k3, k1, k4, k5⟩
  refine Calls.spliced_nil ⟨I3.kIn, ?_⟩
  have run : codeAny (model X.prog X.w) X.A (.call (.ref g) ⟨[.ref f], []⟩) (L2.CR C8.CX0 X.stack X.prog X.w H3 s3 Q C8.E0) s3 := by
    refine LamX.run_ofS (N := Ng) (ps := [a]) (us := [.ref f]) (vs := [.ref f]) lk hcg Sg hr IX3.env0 (hb s3 [.ref f] IX3.kIn rfl) (.cons rfl .nil) rfl ?_
    intro hr'
    obtain ⟨t', q1, q2⟩ := hG f (fun HZ => HZ f = some (LamO (X.env.qual ++ ("<lambda>" : Str)) (cloFrom X.env.cells lsc.names []) params body lsc f c') ∧ HZ c' = some (LamX.CodeO c' (X.env.qual ++ ("<lambda>" : Str)))) s3 H3 Q (fun E H' Q' => t E σ H' Q') hgd
      (fun Wk pn xe E p1 p2 tk hW => w_act (i := 0) IX3 L (fun pz σz HZ s4 J hp => by
        obtain ⟨⟨pm, ctv, e⟩, _, _⟩ := J.hok f _ hp.1
        exact ⟨pm, ctv, e⟩) (fun HZ hp => hp.2) (fun _ _ => bind _ _ _ _ _) tk hW hr' (fun s4 H4 hr4 => bodies _ _ s4 H4 E f c' (by rw [guards_deeper]; exact hgd) hr4) hNg hva hd hcd) hP tt
    exact ⟨t', q1.nox, q2⟩
  refine wpAny_call (codeAny_mono run ?_)
  rintro (e | fl) s4 hq
  · exact (show False from hq).elim
  · rcases fl with _ | _ | _ | u
    · exact hq.elim
    · exact hq.elim
    · exact hq.elim
    · exact I3.after hq
theorem pe_vcl {pins : List (Addr × Obj)} {σ : L2.St} {H : Hp} {s : Shared} {cs : Scope} {ce : PySem.Env} {fp : List Addr} {z : Str} {k iz : Nat} {p pos : Pos} (I : Inv X pins σ H s) (low : ∀ b ∈ fp, FpOk X pins H b) (hgd : X.A.guards = some []) (hr : L2.Room (k + 1) X.A)
    (hz : X.N[iz]? = some z) (vz : L2.Vis ce.scope z) (zd : (z == ("__debug__" : Str)) = false) (zcd : (z == ("__classdict__" : Str)) = false) : PE (X.blk s H cs ce fp) (.Call (.Name z p) [] [] pos) (tVc X k iz σ) := by
  constructor
  rintro pins' s2 σ2 H2 Q I2 ⟨f, tl, sz, ⟨c', params, body, lsc, t, hP, L, bind, bodies, rfl⟩, tt⟩
  have vr := L2.pe_var (X := X.blk s H cs ce fp) (pos := p) (i := iz) hz vz zd zcd
  refine wpAny_Call_Name_kw (thn (vr.run _ s2 σ2 H2 (fun v H' => v = .ref f ∧ H' = H2) I2 ⟨.ref f, sz, rfl, rfl⟩) ?_)
  rintro u s1 ⟨v, H1, I1, r1, rfl, rfl⟩
  cases (show u = Value.ref f from r1)
  have IX : Inv X pins σ H1 s1 := by
    refine I.call' (ch := fp) I1.os I1.base I1.hok I1.bare fun b hb => ?_
    obtain ⟨k0, k1, k2, k3, k4, k5⟩ := low b hb
    exact ⟨k3, k1, k4, k5⟩
  obtain ⟨⟨pm, ctv, o1⟩, _, _⟩ := I1.hok f _ hP.1
  refine PySem.W.callWith_F0 ⟨_, _, _, _, o1⟩ ?_
  obtain ⟨⟨oc, vs, t', hoc, hdc, hvc⟩, _, _⟩ := I1.hok c' _ hP.2
  have run : codeAny (model X.prog X.w) X.A (.call (.ref f) ⟨[], []⟩) (L2.CR (L2.CX X.prog X.w) X.stack X.prog X.w H1 s1 Q (fun _ _ _ => False)) s1 := by
    refine PySem.W.kla_callFunE hr.depth o1 rfl L.co L.gen rfl ⟨c', oc, vs, t', rfl, hoc, hdc, hvc⟩ ?_
    rw [bind _ _ pm _ ctv]
    refine wpAny_pure (wpAny_newFunctionEnv (fun y hy => (L.own y hy).2) (fun y hy => absurd hy (by simp)) (fun h1 hns hsb => ⟨I1.nolimit.fresh _ hsb, ?_⟩) L.kind)
    show codeAny _ _ (.expr body (LamX.lamEnv X lsc s1.heap.objs.size f c')) _ _
    have kp : ∀ b o, s1.heap.get? b = some o → h1.get? b = some o := fun b o e => hsb.extBut b o (Nat.ne_of_lt (Heap.lt_size e)) (Heap.get?_push_of_some _ e)
    have J := LamX.lam_start2 (E := fun _ _ _ => False) (f := f) (c' := c') (tk := s1.toks + ([] : List (Str × Value)).length) IX L IX.env0 hr.hd L2.Un.refl hns kp
    refine PySem.W.kla_codeExpr (wpAny_mono ((bodies X.A X.stack s1 H1 _ f c' hgd (hr.deeper _)).run [] _ _ H1 Q J tt) ?_ fun _ _ z => z)
    rintro v s2 ⟨w, H2, J2, rv, q⟩
    exact ⟨w, H2, J2.os, J2.bare, J2.base, J2.hok, rv, q⟩
  refine wpAny_call (codeAny_mono run ?_)
  rintro (e | fl) s3 hq
  · exact False.elim (by
      obtain ⟨_, _, _, _, _, _, _, _, _, _, _, _, bad⟩ := hq
      exact bad)
  · rcases fl with _ | _ | _ | u
    · exact hq.elim
    · exact hq.elim
    · exact hq.elim
    · exact I1.after hq
end
theorem lam_at {A : Ad} {P : Pg} {kk : Nat} {X : Cx} {q : Str} {c Pt : Addr} (w : WordAt A P X.K X.mg) (hgd : X.A.guards = some []) (hr : Room (kk + 3) X.A) (h1 : X.env.code = .ref c) (hq : X.env.qual = q) (tb : TabB X.base X.mg c Pt)
    (hin : (Pt, q ++ ("<lambda>" : Str)) ∈ A.T) (hu : ∀ p ∈ A.T, p.1 = Pt → p.2 = q ++ ("<lambda>" : Str)) : LamAt A P kk X := by
  subst hq
  refine ⟨?_, ?_, ?_, fun I low hz vz zd zcd => pe_vcl I low hgd (hr.mono (by omega)) hz vz zd zcd⟩
  rotate_left
  · intro params body scope pos h1' h2
    have e := noPar_eq h2
    subst e
    exact pe_lm tb h1 hin hu (LamX.lamS_by h1') rfl
  · intro pins σ s H cs ce fp z p pz pos iz I low hg hz vz zd zcd
    obtain ⟨g, pg, bg, sg, dV, kV, doc, pm, cdv, ct, oc, an, od, osl, Ng, a, w1, w2, w3, w4, w5, w6, w7, w8, w9, w10, w11⟩ := w.ex
    exact pe_wvar (q := X.env.qual ++ ("<lambda>" : Str)) I low hg w1 w2 w3 w4 w5 w6 w7 w8 (w11 X _ rfl rfl (hr.mono (by omega))) hgd hr hz vz (wn_ok P) w9 w10 zd zcd
  intro params body scope p lpos pos t hgl h1' h2 hb
  obtain ⟨g, pg, bg, sg, dV, kV, doc, pm, cdv, ct, oc, an, od, osl, Ng, a, w1, w2, w3, w4, w5, w6, w7, w8, w9, w10, w11⟩ := w.ex
  have e := noPar_eq h2
  subst e
  exact w_lamcall hgl w1 w2 w3 w4 w5 w6 w7 w8 (w11 X _ rfl rfl (hr.mono (by omega))) hgd tb h1 hin hu hr (LamX.lamS_by h1') rfl (fun _ _ _ _ _ => rfl) hb (wn_ok P) w9 w10
end G43
set_option Elab.async false
set_option linter.all false
set_option maxRecDepth 100000
set_option maxHeartbeats 4000000
namespace G43
open PySem
open L2 (V HO Hp SqL SqT Rd upd upd_same upd_ne Cx OpR R2 VK CallR IxR SlR TE TA TS TT TI TG TGs PE PA PS PSs PT PI PG PGs XK Sp Room Vals Ends)
open PySem.Spec PyProof.Rows
/-! ### behind a call: the cells that were made there are let go -/
section
variable {A : Ad} {B : Addr → Prop} {m m' : List Addr} {h h' : Hs} {H H' : Hp}
/-- some cells that were made there are kept -/
theorem keep_out (S : Sim A B m h H) (M : Mv m h H m' h' H') (S' : Sim A B m' h' H') {is : List Nat} {cs : List (List PV)} {as : List Addr} (nd : is.Nodup) (ge : ∀ i ∈ is, h.length ≤ i) (la : as.length = cs.length)
    (hc : ∀ (t : Nat) (c : List PV) (a : Addr), cs[t]? = some c → as[t]? = some a → ∃ i, is[t]? = some i ∧ h'[i]? = some (some c) ∧ m'[i]? = some a) :
    Sim A B (m ++ as) (h'.take h.length ++ cs.map some) H' ∧ Mv m h H (m ++ as) (h'.take h.length ++ cs.map some) H' ∧ ∀ b, Lv (m ++ as) (h'.take h.length ++ cs.map some) b → Lv m' h' b := by
  have hl : (h'.take h.length).length = h.length := by
    rw [List.length_take]
    have := S'.len
    obtain ⟨t, rfl⟩ := M.pre
    rw [List.length_append, S.len] at this
    omega
  have at_ : ∀ {j : Nat} {d : List PV}, (h'.take h.length)[j]? = some (some d) → h'[j]? = some (some d) := fun {j d} e => by
    rw [List.getElem?_take] at e
    split at e
    · exact e
    · cases e
  have inv : ∀ {j : Nat} {d : List PV} {b : Addr}, (h'.take h.length ++ cs.map some)[j]? = some (some d) → (m ++ as)[j]? = some b → ∃ i, h'[i]? = some (some d) ∧ m'[i]? = some b ∧ ((j < h.length ∧ i = j) ∨ (h.length ≤ j ∧ is[j - h.length]? = some i)) := fun {j d b} h1 h2 => by
    by_cases hj : j < h.length
    · rw [List.getElem?_append_left (by omega)] at h1
      rw [List.getElem?_append_left (by rw [S.len]; exact hj)] at h2
      exact ⟨j, at_ h1, M.at h2, .inl ⟨hj, rfl⟩⟩
    · rw [List.getElem?_append_right (by omega), hl, List.getElem?_map] at h1
      rw [List.getElem?_append_right (by rw [S.len]; omega), S.len] at h2
      cases hd : cs[j - h.length]? with
      | none => rw [hd] at h1; cases h1
      | some d' =>
        rw [hd] at h1
        cases h1
        obtain ⟨i, z1, z2, z3⟩ := hc _ _ _ hd h2
        exact ⟨i, z2, z3, .inr ⟨by omega, z1⟩⟩
  obtain ⟨S3, lv3⟩ := S'.less (m' := m ++ as) (h' := h'.take h.length ++ cs.map some) (by simp [hl, S.len, la]) (fun j d b e1 e2 => by
      obtain ⟨i, z1, z2, _⟩ := inv e1 e2
      exact ⟨i, z1, z2⟩) (fun j k d1 d2 b e1 e2 e3 e4 => by
      obtain ⟨i1, z1, z2, z3⟩ := inv e1 e3
      obtain ⟨i2, y1, y2, y3⟩ := inv e2 e4
      have e := S'.inj i1 i2 d1 d2 b z1 y1 z2 y2
      subst e
      rcases z3 with ⟨z3, z4⟩ | ⟨z3, z4⟩ <;> rcases y3 with ⟨y3, y4⟩ | ⟨y3, y4⟩
      · omega
      · have := ge _ (List.mem_of_getElem? y4)
        omega
      · have := ge _ (List.mem_of_getElem? z4)
        omega
      · have := (List.getElem?_inj (i := j - h.length) (j := k - h.length) (List.getElem?_eq_some_iff.mp z4).1 nd).mp (by rw [z4, y4])
        omega)
  exact ⟨S3, ⟨⟨as, rfl⟩, fun b o q u n => ⟨(M.keep b o q u n).1, fun y => (M.keep b o q u n).2 (lv3 b y)⟩, M.kl, M.ki⟩, lv3⟩
theorem fin_out (S : Sim A B m h H) {Q : VK} {v : RV} (z : fin h.length (Kv A B m h H Q) v h') : Kv A B m h H Q v h' := fun m' H' w S' M r => by
  obtain ⟨S2, M2, lv⟩ := cut_back S M S'
  have low : ∀ {i : Nat} {a : Addr}, i < h.length → m'[i]? = some a → m[i]? = some a := fun {i a} hi e => by
    obtain ⟨t, rfl⟩ := M.pre
    rw [List.getElem?_append_left (by rw [S.len]; exact hi)] at e
    exact e
  cases v with
  | pv p =>
    have z1 : Kv A B m h H Q (.pv p) (h'.take h.length) := z
    exact z1 m H' w S2 M2 (Rp.weak (fun a q => q.imp id (lv a)) r)
  | mat is => exact (show False from z).elim
  | vec is => exact (show False from z).elim
  | two k i j p =>
    cases j with
    | none => exact (show False from z).elim
    | some j =>
      obtain ⟨p', x, y, rfl, ep, ⟨a, dx, gs, e, rfl, ea, q⟩, ry⟩ := r
      obtain ⟨b, xs, q1, q2, q3, q4⟩ := q j rfl
      simp only [fin] at z
      obtain ⟨hi, hj, c, d, ne, hc, hd, z⟩ := z
      obtain ⟨S3, M3, lv3⟩ := keep_out S M S' (is := [i, j]) (cs := [c, d]) (as := [a, b]) (by simp [ne]) (by simp; omega) rfl (fun t c' a' q1 q2 => by
        match t with
        | 0 => simp at q1 q2; subst q1; subst q2; exact ⟨i, rfl, hc, e⟩
        | 1 => simp at q1 q2; subst q1; subst q2; exact ⟨j, rfl, hd, q3⟩
        | t + 2 => simp at q1)
      exact z (m ++ [a, b]) H' _ S3 M3 ⟨p', _, y, rfl, ep, ⟨a, dx, gs, by rw [← S.len]; simp, rfl, ea, fun l hl => by cases hl; exact ⟨b, xs, q1, q2, by rw [← S.len]; simp, q4⟩⟩, Rp.weak (fun a q => q.imp id (lv3 a)) ry⟩
  | ref i =>
    obtain ⟨a, e, rfl, ql⟩ := r
    simp only [fin] at z
    split at z
    · rename_i hi
      exact z m H' _ S2 M2 ⟨a, low hi e, rfl, ql⟩
    · rename_i hi
      obtain ⟨c, hc, z⟩ := z
      obtain ⟨S3, M3, lv3⟩ := keep_out S M S' (is := [i]) (cs := [c]) (as := [a]) (by simp) (by simp; omega) rfl (fun t c' a' q1 q2 => by
        cases t with
        | zero => simp at q1 q2; subst q1; subst q2; exact ⟨i, rfl, hc, e⟩
        | succ t => simp at q1)
      exact z (m ++ [a]) H' _ S3 M3 ⟨a, by rw [← S.len]; simp, rfl, ql⟩
  | ob k i j =>
    obtain ⟨a, dx, gs, e, rfl, ea, q⟩ := r
    cases j with
    | none =>
      simp only [fin] at z
      split at z
      · rename_i hi
        exact z m H' _ S2 M2 ⟨a, dx, gs, low hi e, rfl, ea, fun l hl => nomatch hl⟩
      · rename_i hi
        obtain ⟨c, hc, z⟩ := z
        obtain ⟨S3, M3, lv3⟩ := keep_out S M S' (is := [i]) (cs := [c]) (as := [a]) (by simp) (by simp; omega) rfl (fun t c' a' q1 q2 => by
          cases t with
          | zero => simp at q1 q2; subst q1; subst q2; exact ⟨i, rfl, hc, e⟩
          | succ t => simp at q1)
        exact z (m ++ [a]) H' _ S3 M3 ⟨a, dx, gs, by rw [← S.len]; simp, rfl, ea, fun l hl => nomatch hl⟩
    | some j =>
      obtain ⟨b, xs, q1, q2, q3, q4⟩ := q j rfl
      simp only [fin] at z
      split at z
      · rename_i hi
        split at z
        · rename_i hj
          exact z m H' _ S2 M2 ⟨a, dx, gs, low hi e, rfl, ea, fun l hl => by cases hl; exact ⟨b, xs, q1, q2, low hj q3, q4⟩⟩
        · rename_i hj
          obtain ⟨d, hd, z⟩ := z
          obtain ⟨S3, M3, lv3⟩ := keep_out S M S' (is := [j]) (cs := [d]) (as := [b]) (by simp) (by simp; omega) rfl (fun t c' a' q1 q2 => by
            cases t with
            | zero => simp at q1 q2; subst q1; subst q2; exact ⟨j, rfl, hd, q3⟩
            | succ t => simp at q1)
          exact z (m ++ [b]) H' _ S3 M3 ⟨a, dx, gs, M3.at (low hi e), rfl, ea, fun l hl => by cases hl; exact ⟨b, xs, q1, q2, by rw [← S.len]; simp, q4⟩⟩
      · rename_i hi
        obtain ⟨hj, c, d, ne, hc, hd, z⟩ := z
        obtain ⟨S3, M3, lv3⟩ := keep_out S M S' (is := [i, j]) (cs := [c, d]) (as := [a, b]) (by simp [ne]) (by simp; omega) rfl (fun t c' a' q1 q2 => by
          match t with
          | 0 => simp at q1 q2; subst q1; subst q2; exact ⟨i, rfl, hc, e⟩
          | 1 => simp at q1 q2; subst q1; subst q2; exact ⟨j, rfl, hd, q3⟩
          | t + 2 => simp at q1)
        exact z (m ++ [a, b]) H' _ S3 M3 ⟨a, dx, gs, by rw [← S.len]; simp, rfl, ea, fun l hl => by cases hl; exact ⟨b, xs, q1, q2, by rw [← S.len]; simp, q4⟩⟩
theorem x_out (S : Sim A B m h H) {E : XK} {x : XV} (z : Kx A B m h H E x (h'.take h.length)) : Kx A B m h H E x h' := fun m' H' cls d S' M r => by
  obtain ⟨S2, M2, lv⟩ := cut_back S M S'
  exact z m H' cls d S2 M2 r
end
/-! ### the defs of a text -/
structure Txt (A : Ad) (P : Pg) (mg : Str → Option Value) (f : Nat) (df : Df) (params : Arguments) (body : List Stmt) (scope : Scope) (dvs : List V) (fd : FuncData) (ps : List Str) : Prop where
  fun_ : L2.FunD A.K df.name df.qual params body scope dvs [] (A.F f) fd
  at_ : A.F f = He.fAd A.K df.at_
  sc : L2.FnScope df.N ps scope
  np : ps.length = df.npar
  mt : mSL P df.N scope scope P.lm df.body body = true
  nm : df.own = none → mg df.name = some (.ref (A.F f))
  bd : ∀ n, n ≤ df.dfl.length → ∃ dvs ds, (df.dfl.drop n).mapM dfV = some dvs ∧ Vals dvs ds ∧ L2.Binds A.K fd ps ds
  kb : (df.kw = true → KwD A.K fd ps df) ∧ (∀ e ∈ df.kws, KwN A.K fd ps e.1 e.2) ∧ (df.kwx = true → ∃ y, (df.N.take df.npar)[2]? = some y ∧ KwX A.K fd ps y)
structure Prog (A : Ad) (P : Pg) (w : World) (mg : Str → Option Value) : Prop where
  defs : ∀ (f : Nat) (df : Df), P.defs[f]? = some df → ∃ params body scope dvs fd ps, Txt A P mg f df params body scope dvs fd ps
  con : ∀ (g : Nat) (x : Str) (p : PV), P.cons[g]? = some (x, p) → ∃ u v, mg x = some u ∧ L2.RelV v u ∧ ∀ L H, Rp A L H p v
  blt : ∀ x ∈ P.blt, mg x = none
  exc : ∀ c ∈ P.rai, ∀ w, P.exc[c]? = some w → mg w.1 = some (.ref (A.CA c)) ∧ PySem.W.excIn A.K (A.CA c) He.veBase "ValueError.__new__" = true ∧ PySem.W.keepIn A.K (.ref (A.CA c)) = true ∧ PySem.W.subIn A.K (.ref (A.CA c)) (.type "BaseException") = some true ∧ PySem.W.typeIn A.K (.ref (A.CA c)) = some (.type "type")
  exf : ∀ c ∈ P.raf, ∀ w, P.exc[c]? = some w → ExfAt A A.K mg c w.1
  wrd : P.lm = true → WordAt A P A.K mg
  tab : P.lm = true → A.T = P.defs.map fun df => ((He.cT A.K df.at_).2, (df.qual ++ (".<locals>." : Str)) ++ ("<lambda>" : Str))
  uni : P.lm = true → ∀ p ∈ A.T, ∀ q ∈ A.T, p.1 = q.1 → p.2 = q.2
  cls : ∀ (k : Nat) (c : Cl), P.cls[k]? = some c → ClsAt A A.K mg k c
  nfo : ∀ (k : Nat) (c : Cl) (j : Nat) (d : Cl), P.cls[k]? = some c → P.cls[j]? = some d → PySem.W.notFirst A.K (A.O k).C (.ref (A.O j).C) = true ∧ PySem.W.kitOne A.K (.ref (A.O j).C) (.ref (A.O k).C) = some (decide (j = k))
  met : ∀ (k : Nat) (c : Cl) (f : Nat) (df : Df), P.cls[k]? = some c → P.defs[f]? = some df → df.own = some c.name → MetAt A A.K k c f df
  dcs : ∀ (g : Nat) (x : Str) (kvs : List (Str × PV)), P.dcs[g]? = some (x, kvs) → DicAt A A.K w mg x kvs
/-- the tables stand in the ground -/
def TabsIn (P : Pg) (K : PySem.W.Frag) (mg : Str → Option Value) (base : Heap) : Prop := P.lm = true → ∀ df ∈ P.defs, LamX.TabB base mg (He.cT K df.at_).1 (He.cT K df.at_).2
theorem start_sl {A : Ad} {B : Addr → Prop} {m : List Addr} {h : Hs} {H : Hp} {args : List RV} {vs : List V} (r : RpRs A B m h H args vs) (N : List Str) : Sl A B m h H (args.map some ++ List.replicate (N.length - args.length) none) (L2.start N vs) := by
  refine ⟨by unfold L2.start; simp [r.length], fun i v e => ?_⟩
  unfold L2.start
  by_cases hi : i < args.length
  · rw [List.getElem?_append_left (by simpa using hi), List.getElem?_map] at e
    cases ha : args[i]? with
    | none => rw [ha] at e; cases e
    | some a =>
      rw [ha] at e
      cases e
      obtain ⟨w, e1, e2⟩ := r.get ha
      refine ⟨w, ?_, e2⟩
      rw [List.getElem?_append_left (by rw [List.length_map, r.length]; exact hi), List.getElem?_map, e1]
      rfl
  · rw [List.getElem?_append_right (by simpa using hi), List.getElem?_replicate] at e
    split at e <;> cases e
theorem lam_def {A : Ad} {P : Pg} {mg : Str → Option Value} {w : World} (T : Prog A P w mg) {Pr : Program} {base : Heap} (hT : TabsIn P A.K mg base) (hl : P.lm = true) {f : Nat} {df : Df} (hf : P.defs[f]? = some df) {kk : Nat} {scope : Scope} {c : Addr} {Ar : Around} {outer : List PySem.Env} {s : Shared} {H : Hp} {E : XK}
    (ec : He.codeOf A.K df.at_ = c) (hgd : (Ar.deeper (envOfC df.qual scope s.heap.objs.size (A.F f) (.ref c))).guards = some []) (hr : Room (kk + 3) (Ar.deeper (envOfC df.qual scope s.heap.objs.size (A.F f) (.ref c)))) :
    LamAt A P kk (L2.cxOf (L2.CX Pr w) Pr w A.K mg base df.N df.qual scope (A.F f) (.ref c) Ar outer s H E) := by
  have hm := List.mem_of_getElem? hf
  have hin : ((He.cT A.K df.at_).2, (df.qual ++ (".<locals>." : Str)) ++ ("<lambda>" : Str)) ∈ A.T := by
    rw [T.tab hl]
    exact List.mem_map.mpr ⟨df, hm, rfl⟩
  have q := hT hl df hm
  rw [show (He.cT A.K df.at_).1 = c from ec] at q
  have wr : WordAt A P A.K mg := T.wrd hl
  have hu : ∀ p ∈ A.T, p.1 = (He.cT A.K df.at_).2 → p.2 = (df.qual ++ (".<locals>." : Str)) ++ ("<lambda>" : Str) := fun p hp e => T.uni hl p hp _ hin e
  exact lam_at (X := L2.cxOf (L2.CX Pr w) Pr w A.K mg base df.N df.qual scope (A.F f) (.ref c) Ar outer s H E) (q := df.qual ++ (".<locals>." : Str)) (c := c) (Pt := (He.cT A.K df.at_).2) wr hgd hr rfl rfl q hin hu
/-- .. in any frame of the same text -/
theorem lam_any {A : Ad} {P : Pg} {mg : Str → Option Value} {w : World} (T : Prog A P w mg) {base : Heap} (hT : TabsIn P A.K mg base) (hl : P.lm = true) {f : Nat} {df : Df} (hf : P.defs[f]? = some df) {kk : Nat} {c : Addr} {Ar : Around}
    (ec : He.codeOf A.K df.at_ = c) (hgd : Ar.guards = some []) (hr : Room (kk + 3) Ar) (X' : Cx) (e1 : X'.K = A.K) (e2 : X'.mg = mg) (e3 : X'.base = base) (e4 : X'.A = Ar) (e5 : X'.env.code = .ref c) (e6 : X'.env.qual = df.qual ++ (".<locals>." : Str)) : LamAt A P kk X' := by
  have hm := List.mem_of_getElem? hf
  have hin : ((He.cT A.K df.at_).2, (df.qual ++ (".<locals>." : Str)) ++ ("<lambda>" : Str)) ∈ A.T := by
    rw [T.tab hl]
    exact List.mem_map.mpr ⟨df, hm, rfl⟩
  have q := hT hl df hm
  rw [show (He.cT A.K df.at_).1 = c from ec] at q
  exact lam_at (X := X') (q := df.qual ++ (".<locals>." : Str)) (c := c) (Pt := (He.cT A.K df.at_).2) (by rw [e1, e2]; exact T.wrd hl) (by rw [e4]; exact hgd) (by rw [e4]; exact hr) e5 e6 (by rw [e3, e2]; exact q) hin fun p hp e => T.uni hl p hp _ hin e
theorem spD_any {A : Ad} {C : CallT} {f : Nat} {df : Df} {vs : List V} {H : Hp} {Q : VK} {E : XK} (z : spD A C f df vs H Q E) : ∃ Q' : VK, spC A C f vs H Q' E ∧ ((df.ini = false ∧ Q' = Q) ∨ (df.ini = true ∧ ∀ w H', Q' w H' → Q .non H')) := by
  cases hi : df.ini with
  | false => rw [spD_no hi] at z; exact ⟨Q, z, .inl ⟨rfl, rfl⟩⟩
  | true => rw [spD_yes hi] at z; obtain ⟨Q', z, q⟩ := z; exact ⟨Q', z, .inr ⟨rfl, q⟩⟩
theorem defs_ok {A : Ad} {P : Pg} {mg : Str → Option Value} {w : World} (T : Prog A P w mg) {Pr : Program} {base : Heap} (hT : TabsIn P A.K mg base) : ∀ (d : Nat) (f : Nat) (df : Df), P.defs[f]? = some df → ∀ {params body scope dvs fd ps}, Txt A P mg f df params body scope dvs fd ps →
    FnG Pr w A.K mg base (4 * d) (A.F f) fd ps (spD A (wpC P d) f df)
  | 0, f, df, hf, params, body, scope, dvs, fd, ps, t => by
    refine ⟨fun vs H Q E z => ?_, fun Ar outer s H args us vs Q E hg hr e0 hb r z => ?_⟩
    all_goals
      obtain ⟨Q', ⟨B, m, h, as, S, rr, z⟩, _⟩ := spD_any z
      unfold wpC at z
      exact z.elim
  | d + 1, f, df, hf, params, body, scope, dvs, fd, ps, t => by
    have mono := wpC_mono P d d (Nat.le_refl _)
    have lev : 4 * (d + 1) = (4 * d + 3) + 1 := by omega
    rw [lev]
    refine fng_of t.fun_ t.sc (fun vs H Q E z => ?_) (fun cdv hlk hcd Ar outer s H vs Q E hg hr z => ?_)
    · obtain ⟨Q', ⟨B, m, h, as, S, rr, z⟩, _⟩ := spD_any z
      unfold wpC at z
      obtain ⟨df', e1, e2, _⟩ := z
      rw [hf] at e1
      cases e1
      rw [rr.length, e2, t.np]
    · refine ⟨tSL A P (wpC P d) E df.body, ?_, ?_⟩
      · have hgd : ((Ar.deeper (envOfC df.qual scope s.heap.objs.size (A.F f) cdv)).guards) = some [] := by rw [guards_deeper]; exact hg
        refine sSL mono (N := df.N) (sc := scope) (ss := scope) (l := P.lm) (kk := 4 * d) ?_ (hr.mono (by omega)) df.body body t.mt
        refine { eK := rfl, eS := rfl, eN := rfl, kd := t.sc.kind, nd := t.sc.nd, calm := rfl, un := ?_, gd := hgd, tk := ?_, po := ?_, st := ?_, rm := hr.mono (by omega), cal := ?_, con := T.con, blt := T.blt, exf := T.exf, exc := ?_, lam := ?_, lmx := ?_, cls := T.cls, nfo := T.nfo, met := T.met, dcs := T.dcs }
        · have := hr.un
          show (Ar.deeper _).units + 65 < cLine
          omega
        · exact L2.takes_of rfl rfl rfl rfl
        · exact L2.passes_of rfl
        · intro x hx
          exact ⟨stoB_ok hx, .inl rfl⟩
        · intro g dg hg'
          obtain ⟨params', body', scope', dvs', fd', ps', t'⟩ := T.defs g dg hg'
          exact ⟨t'.nm, t'.fun_.kp, fd', ps', defs_ok T hT d g dg hg' t', t'.np, t'.bd, t'.kb⟩
        · intro c hc w hw
          obtain ⟨h1, h2, h3, h4, h5⟩ := T.exc c hc w hw
          exact ⟨h1, h2, h3, L2.raises_own h4 h5⟩
        · intro hl
          obtain ⟨c, ecd⟩ := He.codeIn_ref hcd
          obtain ⟨oc, od, dV, kV, doc, pm, an, ct, osl, lk⟩ := hlk
          have ec : He.codeOf A.K df.at_ = c := He.codeOf_eq (fd := PySem.W.fnOf df.name df.qual params body scope dV kV doc pm an cdv ct) (by rw [← t.at_]; exact lk) ecd
          cases ecd
          exact lam_def T hT hl hf ec hgd hr
        · intro hl X' e1 e2 e3 e4 e5 e6
          obtain ⟨c, ecd⟩ := He.codeIn_ref hcd
          obtain ⟨oc, od, dV, kV, doc, pm, an, ct, osl, lk⟩ := hlk
          have ec : He.codeOf A.K df.at_ = c := He.codeOf_eq (fd := PySem.W.fnOf df.name df.qual params body scope dV kV doc pm an cdv ct) (by rw [← t.at_]; exact lk) ecd
          cases ecd
          exact lam_any T hT hl hf ec hgd hr X' e1 e2 e3 e4 e5 e6
      · obtain ⟨Q', ⟨B, m, h, as, S, rr, z⟩, hq⟩ := spD_any z
        unfold wpC at z
        obtain ⟨df', e1, e2, z⟩ := z
        rw [hf] at e1
        cases e1
        refine ⟨B, m, h, _, S, start_sl rr df.N, wpSL_mono mono df.body (fun ρ' h' k m' H' σ' S' M' sl => ?_) (fun v h' k => ?_) (fun x h' k => x_out S k) z⟩
        · rcases hq with ⟨hi, rfl⟩ | ⟨hi, hq⟩
          · rw [if_neg (by rw [hi]; exact Bool.false_ne_true)] at k
            exact fin_out S k m' H' _ S' M' .non
          · rw [if_pos hi] at k
            obtain ⟨v, e, k⟩ := k
            obtain ⟨w, e3, r⟩ := sl.at_ 0 v e
            exact hq w H' (fin_out S k m' H' w S' M' r)
        · obtain ⟨hi, k⟩ := k
          rcases hq with ⟨_, rfl⟩ | ⟨h2, _⟩
          · exact fin_out S k
          · rw [hi] at h2
            cases h2
theorem defs_okC {A : Ad} {P : Pg} {mg : Str → Option Value} {w : World} (T : Prog A P w mg) {Pr : Program} {base : Heap} (hT : TabsIn P A.K mg base) (d : Nat) (f : Nat) (df : Df) (hf : P.defs[f]? = some df) (hi : df.ini = false) {params body scope dvs fd ps} (t : Txt A P mg f df params body scope dvs fd ps) :
    FnG Pr w A.K mg base (4 * d) (A.F f) fd ps (spC A (wpC P d) f) := by
  rw [← spD_no hi]
  exact defs_ok T hT d f df hf t
end G43
set_option Elab.async false
set_option linter.all false
set_option maxRecDepth 100000
set_option maxHeartbeats 4000000
namespace G43
open PySem
open L2 (V HO Hp SqL SqT Rd upd upd_same upd_ne Cx OpR R2 VK CallR IxR SlR TE TA TS TT TI TG TGs PE PA PS PSs PT PI PG PGs XK Sp Room Vals Ends)
open PySem.Spec PyProof.Rows
/-! ### the law's call -/
/-- the script and the tables alone are tracked -/
structure Bare (K : PySem.W.Frag) (cs : List (Addr × Addr)) (H : Hp) (a : Addr) (xs : List V) : Prop where
  only : ∀ b, H b ≠ none → (b = a ∧ ∃ o, H b = some (.frz o (.lst xs))) ∨ ∃ p ∈ cs, b = p.2
  there : (∃ o, H a = some (.frz o (.lst xs))) ∨ KL K a xs
  apart : H a ≠ none → K.lookup a = none
  tabs : ∀ p ∈ cs, H p.2 = some (.tbl #[])
abbrev noTab : Obj := { cls := .none, data := .fields #[] }
theorem lawG {Pr : Program} {w : World} {K : PySem.W.Frag} {mg mb : Str → Option Value} {k : Nat} {fa a : Addr} {cs : List (Addr × Addr)} {fd : FuncData} {x : Str} {sp : Sp} {s1 : Shared} {vs : List Value} {ns : List Int}
    (KX : K.In s1.heap) (hns : s1.heap.Ns mainGlobals mg) (hb : s1.heap.Ns builtinsNs mb) (hbb : ∀ x : Str, x ≠ "__name__" → mb x = bootBuiltins x) (hlim : s1.heap.NoLimit) (hg : s1.gens = #[])
    (tE : ∀ p ∈ cs, s1.heap.get? p.2 = some noTab) (tN : ∀ p ∈ cs, K.lookup p.2 = none) (tC : ∀ p ∈ cs, PySem.W.CodeHd s1.heap p.1 p.2)
    (hbm : ∃ (bm : Addr) (ob : Obj), mg "__builtins__" = some (.ref bm) ∧ bm ≠ builtinsNs ∧ s1.heap.get? bm = some ob ∧ ob.cls = .type "module" ∧ ob.dict = some builtinsNs ∧ ob.data = .plain)
    (ha : s1.heap.get? a = some { cls := .type "list", data := .seq vs.toArray }) (hi : IntsAre vs ns) (hl : ns.length ≤ sizeLine) (hr : Room k callerA)
    (F : ∀ base : Heap, (∀ p ∈ cs, LamX.TabB base mg p.1 p.2) → FnG Pr w K mg base k fa fd [x] sp) (hbind : ∀ (s : Shared) (u : Value), K.In s.heap → BindsTo s fd ⟨[u], []⟩ [(x, u)])
    (hsp : ∀ H : Hp, Bare K cs H a (ns.map V.int) → sp [.ref a] H (fun v _ => v = .bl true) fun _ _ _ => False) :
    codeAny (model Pr w) callerA (.call (.ref fa) ⟨[.ref a], []⟩) (fun r s' => r = .ok (.ret (.bool true)) ∧ OldK s1.heap s'.heap ∧ s'.os = s1.os ∧ AllBare s'.gens) s1 := by
  have rv : Vals (ns.map V.int) vs := L2.vals_ints hi
  have aT : ∀ p ∈ cs, p.2 ≠ a := by
    intro p hp z
    have q := tE p hp
    rw [z, ha] at q
    injection q with q
    cases (show Data.seq vs.toArray _ = Data.fields #[] from congrArg Obj.data q)
  -- any abstract heap that tracks the script and the tables alone will do
  have main : ∀ H : Hp, Bare K cs H a (ns.map V.int) → L2.HOk Pr w H s1.heap →
      codeAny (model Pr w) callerA (.call (.ref fa) ⟨[.ref a], []⟩) (fun r s' => r = .ok (.ret (.bool true)) ∧ OldK s1.heap s'.heap ∧ s'.os = s1.os ∧ AllBare s'.gens) s1 := by
    intro H hB hok
    have free : ∀ {b : Addr} {o : Obj}, s1.heap.get? b = some o → (∀ us n, o.data ≠ .seq us n) → o.data ≠ .fields #[] → H b = none := by
      intro b o e h1 h2
      cases q : H b with
      | none => rfl
      | some u =>
        rcases hB.only b (by rw [q]; exact fun z => nomatch z) with ⟨rfl, -⟩ | ⟨p, hp, rfl⟩
        · rw [ha] at e
          cases e
          exact absurd rfl (h1 _ _)
        · rw [tE p hp] at e
          cases e
          exact absurd rfl h2
    have freeD : ∀ {b : Addr} {o : Obj} {es : Array DictEntry} {ep : Nat}, s1.heap.get? b = some o → o.data = .dict es ep → H b = none := by
      intro b o es ep e d
      refine free e ?_ ?_ <;> rw [d]
      · exact fun _ _ z => nomatch z
      · exact fun z => nomatch z
    have nsB : ∀ {b : Addr} {mm : Str → Option Value}, s1.heap.Ns b mm → (L2.hidT s1.heap H).Ns b mm := by
      rintro b mm ⟨o, es, ep, e, d, r⟩
      exact ⟨o, es, ep, L2.hidT_get e (freeD e d), d, r⟩
    have KB : K.In (L2.hidT s1.heap H) := by
      intro b o e
      refine L2.hidT_get (KX b o e) ?_
      cases q : H b with
      | none => rfl
      | some u =>
        have n : H b ≠ none := by rw [q]; exact fun z => nomatch z
        rcases hB.only b n with ⟨rfl, -⟩ | ⟨p, hp, rfl⟩
        · rw [hB.apart n] at e
          cases e
        · rw [tN p hp] at e
          cases e
    have md : L2.Mod K mg (L2.hidT s1.heap H) := by
      refine ⟨KB, nsB hns, ⟨mb, nsB hb, hbb⟩, ?_⟩
      obtain ⟨mc, h1, h2⟩ := hlim
      exact ⟨mc, nsB h1, h2⟩
    have TB : ∀ p ∈ cs, LamX.TabB (L2.hidT s1.heap H) mg p.1 p.2 := by
      intro p hp
      constructor
      · obtain ⟨o, us, file, tf, flags, tg, inF, text, tt, e1, r1, r2, r3, rest⟩ := tC p hp
        refine ⟨o, us, file, tf, flags, tg, inF, text, tt, L2.hidT_get e1 (free e1 ?_ ?_), r1, r2, r3, rest⟩ <;> rw [r2]
        · exact fun _ _ z => nomatch z
        · intro z
          cases z
          simp at r3
      · rcases hbm with ⟨bm, ob, b1, b2, b3, rest⟩
        have b6 := rest.2.2
        refine ⟨bm, ob, b1, b2, ?_, ?_, L2.hidT_get b3 (free b3 ?_ ?_), rest⟩
        · rintro rfl
          obtain ⟨o, es, ep, e, hd, _⟩ := hns
          rw [e] at b3
          cases b3
          rw [hd] at b6
          cases b6
        · rintro rfl
          rw [tE p hp] at b3
          cases b3
          cases b6
        · rw [b6]; exact fun _ _ z => nomatch z
        · rw [b6]; exact fun z => nomatch z
      · intro z
        obtain ⟨o, es, ep, e, hd, _⟩ := hns
        rw [z, tE p hp] at e
        cases e
        cases hd
    have e0 : L2.Env0 Pr w K mg (L2.hidT s1.heap H) callerA [] s1 H :=
      { frames := rfl, mod := md, bs := fun b o e => L2.of_hidT e, bsz := Nat.le_of_eq (L2.hidT_size _ _), funs := trivial, frf := fun b hb => (by simp [L2.frs] at hb), hok := hok, bare := .of_eq hg }
    refine codeAny_mono ((F _ TB).run callerA [] s1 H ⟨[.ref a], []⟩ [.ref a] [.ref a] _ _ rfl hr e0 (hbind s1 (.ref a) KX) (.cons rfl .nil) (hsp H hB)) ?_
    rintro (e | fl) s' q
    · have q : L2.CX Pr w [] H s1 (fun _ _ _ => False) e s' := q
      obtain ⟨_, _, _, _, _, _, _, _, _, _, _, _, z⟩ := q
      exact False.elim z
    · rcases fl with _ | _ | _ | u
      · exact q.elim
      · exact q.elim
      · exact q.elim
      · obtain ⟨v, H', os, bare, un, hok', r', q⟩ := q
        obtain rfl : v = .bl true := q
        obtain rfl : u = Value.bool true := r'
        have keep : ∀ b o, (∀ p ∈ cs, b ≠ p.2) → s1.heap.get? b = some o → s'.heap.get? b = some o := by
          intro b o nb e
          cases qb : H b with
          | none => exact un.keep b o e qb (by simp [L2.frs]) (by simp)
          | some u =>
            rcases hB.only b (by rw [qb]; exact fun z => nomatch z) with ⟨rfl, ob, z⟩ | ⟨p, hp, z⟩
            · have z2 := un.frzs _ ob _ z
              obtain ⟨e1, _⟩ := hok _ _ z
              obtain ⟨e2, _⟩ := hok' _ _ z2
              rw [e] at e1
              cases e1
              exact e2
            · exact absurd z (nb p hp)
        have grown : ∀ p ∈ cs, ∃ more : Array Value, s'.heap.get? p.2 = some { cls := .none, data := .fields more } := by
          intro p hp
          obtain ⟨more, z⟩ := un.tbls p.2 #[] (hB.tabs p hp)
          exact ⟨_, hok' p.2 _ z⟩
        refine ⟨rfl, ⟨fun b o e => ?_, fun b o e => ?_⟩, os, bare⟩
        · by_cases hb : ∃ p ∈ cs, b = p.2
          · obtain ⟨p, hp, rfl⟩ := hb
            obtain ⟨more, hm⟩ := grown p hp
            rw [tE p hp] at e
            cases e
            refine .inr (.inl ⟨((tC p hp).tab (tE p hp)).isCodeTable, rfl, #[], more, rfl, ?_⟩)
            rw [Array.empty_append]
            exact hm
          · exact .inl (keep b o (fun p hp z => hb ⟨p, hp, z⟩) e)
        · by_cases hb : ∃ p ∈ cs, b = p.2
          · obtain ⟨p, hp, rfl⟩ := hb
            obtain ⟨more, hm⟩ := grown p hp
            exact ⟨_, hm⟩
          · exact ⟨o, keep b o (fun p hp z => hb ⟨p, hp, z⟩) e⟩
  have isT : ∀ b : Addr, (∃ p ∈ cs, b = p.2) → s1.heap.get? b = some noTab := by
    rintro b ⟨p, hp, rfl⟩
    exact tE p hp
  have anyT : ∀ p ∈ cs, (cs.any fun q => p.2 == q.2) = true := fun p hp => List.any_eq_true.mpr ⟨p, hp, by simp⟩
  by_cases hk : K.lookup a = none
  · refine main (fun b => if b = a then some (.frz { cls := .type "list", data := .seq vs.toArray } (.lst (ns.map V.int))) else if (cs.any fun p => b == p.2) = true then some (.tbl #[]) else none) ⟨fun b n => ?_, .inl ⟨_, if_pos rfl⟩, fun _ => hk, fun p hp => ?_⟩ fun b u z => ?_
    · by_cases e : b = a
      · exact .inl ⟨e, _, if_pos e⟩
      · by_cases e2 : (cs.any fun p => b == p.2) = true
        · obtain ⟨p, hp, z⟩ := List.any_eq_true.mp e2
          exact .inr ⟨p, hp, eq_of_beq z⟩
        · exact absurd ((if_neg e).trans (if_neg e2)) n
    · exact (if_neg (aT p hp)).trans (if_pos (anyT p hp))
    · by_cases e : b = a
      · have z' := (if_pos e).symm.trans z
        cases z'
        subst e
        exact ⟨ha, by rw [List.length_map]; exact hl, vs, _, rv, ha⟩
      · have z' := (if_neg e).symm.trans z
        by_cases e2 : (cs.any fun p => b == p.2) = true
        · have z2 := (if_pos e2).symm.trans z'
          cases z2
          obtain ⟨p, hp, z⟩ := List.any_eq_true.mp e2
          exact isT b ⟨p, hp, eq_of_beq z⟩
        · have z2 := (if_neg e2).symm.trans z'
          cases z2
  · obtain ⟨o, ho⟩ := Option.ne_none_iff_exists'.mp hk
    have e := KX a o ho
    rw [ha] at e
    cases e
    have nA : (if (cs.any fun p => a == p.2) = true then some (HO.tbl #[]) else none) = none := if_neg fun z => by
      obtain ⟨p, hp, z⟩ := List.any_eq_true.mp z
      exact aT p hp (eq_of_beq z).symm
    refine main (fun b => if (cs.any fun p => b == p.2) = true then some (.tbl #[]) else none) ⟨fun b n => ?_, .inr ⟨_, vs.toArray, _, ho, rfl, rfl, rfl, ?_, by simpa using rv⟩, fun n => absurd nA n, fun p hp => if_pos (anyT p hp)⟩ fun b u z => ?_
    · by_cases e2 : (cs.any fun p => b == p.2) = true
      · obtain ⟨p, hp, z⟩ := List.any_eq_true.mp e2
        exact .inr ⟨p, hp, eq_of_beq z⟩
      · exact absurd (if_neg e2) n
    · rw [List.size_toArray, hi.length]
      exact hl
    · by_cases e2 : (cs.any fun p => b == p.2) = true
      · have z2 := (if_pos e2).symm.trans z
        cases z2
        obtain ⟨p, hp, z⟩ := List.any_eq_true.mp e2
        exact isT b ⟨p, hp, eq_of_beq z⟩
      · have z2 := (if_neg e2).symm.trans z
        cases z2
/-- the tables of the defs -/
def csOf (P : Pg) (K : PySem.W.Frag) : List (Addr × Addr) := if P.lm = true then P.defs.map fun df => He.cT K df.at_ else []
/-- the end of a law's row -/
theorem walkG {l : PySem.W.OpenLaw} {n k : Nat} {q : Program} {loose : List Str} {XP : (Str → Option Value) → Heap → Prop} {YP : World → Heap → Prop} {d : DefRec}
    (hn : l.most = some n) (hn2 : n ≤ sizeLine) (hdf : d.params.defaults = []) (hr : Room (4 * k) callerA)
    (F : ∀ (w : World) (mg : Str → Option Value) (fa : Addr) (h : Heap), YP w h → h.Ns mainGlobals mg → mg d.name = some (.ref fa) →
      ∃ (A : Ad) (P : Pg) (f : Nat) (df : Df), A.K.In h ∧ Prog A P w mg ∧ P.defs[f]? = some df ∧ A.F f = fa ∧
        df.npar = 1 ∧ df.dfl = [] ∧ df.ini = false ∧ (P.lm = false → A.T = []) ∧ (∀ p ∈ csOf P A.K, h.get? p.2 = some noTab ∧ A.K.lookup p.2 = none ∧ PySem.W.codeHdIn A.K p.1 p.2 = true) ∧
        ∀ ns : List Int, ns.length ≤ n → wpC P k f [.pv (.scr (ns.map PV.int))] [] (fun v _ => v = .pv (.bl true)) (fun _ _ => False)) :
    PySem.W.WalkO q loose XP YP l.row.toRowW d [] (fun f vs => PySem.call f vs) := by
  refine Att.attach_call hn hdf ?_
  intro w s0 s1 mg mb fa o pm cd doc a vs ns G Y ho hd hcd hmg hobj hints hlen hg
  obtain ⟨A, P, f, df, KX, T, hf, rfl, hp1, hp2, hp3, hT0, hcs, hw⟩ := F w mg fa _ Y G.T.g hmg
  obtain ⟨params, body, scope, dvs, fd, ps, t⟩ := T.defs f df hf
  have hl1 : ps.length = 1 := t.np.trans hp1
  obtain ⟨x, rfl⟩ : ∃ x, ps = [x] := by
    cases ps with
    | nil => cases hl1
    | cons x r => cases r with
      | nil => exact ⟨x, rfl⟩
      | cons y r => simp at hl1
  have hb : ∀ (s : Shared) (u : Value), A.K.In s.heap → BindsTo s fd ⟨[u], []⟩ [(x, u)] := fun s u hk => by
    obtain ⟨dvs, ds, e1, e2, e3⟩ := t.bd 0 (Nat.zero_le _)
    rw [hp2] at e1
    cases e1
    cases e2
    exact e3 s [u] hk rfl
  have tin : ∀ base : Heap, (∀ p ∈ csOf P A.K, LamX.TabB base mg p.1 p.2) → TabsIn P A.K mg base := fun base h hl df hdf => h _ (by
    unfold csOf
    rw [if_pos hl]
    exact List.mem_map.mpr ⟨df, hdf, rfl⟩)
  refine lawG (cs := csOf P A.K) KX G.T.g G.T.b G.T.builtins G.T.nolimit hg (fun p hp => (hcs p hp).1) (fun p hp => (hcs p hp).2.1) (fun p hp => PySem.W.codeHd_of_K KX (hcs p hp).2.2) G.T.bmain hobj hints (Nat.le_trans hlen hn2) hr (fun base tb => defs_okC T (tin base tb) k f df hf hp3 t) hb ?_
  intro H hB
  have rl : ∀ (L : Addr → Prop) (ms : List Int), RpL A L H (ms.map PV.int) (ms.map V.int) := fun L ms => by
    induction ms with
    | nil => exact .nil
    | cons i ms ih => exact .cons (.int i) ih
  have tb : LamX.Tabs A.T H := by
    cases hl : P.lm with
    | false => rw [hT0 hl]; exact fun p hp => nomatch hp
    | true =>
      rw [T.tab hl]
      intro p hp
      obtain ⟨df', hd', rfl⟩ := List.mem_map.mp hp
      exact LamX.TabS.nil (hB.tabs (He.cT A.K df'.at_) (by unfold csOf; rw [if_pos hl]; exact List.mem_map.mpr ⟨df', hd', rfl⟩))
  refine ⟨fun _ => False, [], [], [.pv (.scr (ns.map PV.int))], ⟨rfl, fun i c a e => by simp at e, fun i j c d a e => by simp at e, fun _ z => False.elim z, fun _ z => False.elim z, tb⟩, .cons ?_ .nil, wpC_mono P k k (Nat.le_refl _) _ _ _ _ _ _ _ (fun v h e => ?_) (fun _ _ z => False.elim z) (hw ns hlen)⟩
  · exact Rp.scr hB.there (rl _ ns)
  · subst e
    intro m' H' w' S' M' r
    cases r
    rfl
end G43
set_option Elab.async false
set_option linter.all false
set_option maxRecDepth 100000
set_option maxHeartbeats 4000000
namespace G43
open PySem
open L2 (V HO Hp SqL SqT Vals)
/-! ### the top's constants -/
mutual
theorem repB_ok {A : Ad} : ∀ {p : PV} {u : Value}, repB A.K p u = true → ∃ v, L2.RelV v u ∧ ∀ L H, Rp A L H p v
  | .non, u, h => by
    cases u <;> simp [repB] at h
    exact ⟨.non, rfl, fun _ _ => .non⟩
  | .bl a, u, h => by
    cases u <;> simp [repB] at h
    subst h
    exact ⟨.bl a, rfl, fun _ _ => .bl a⟩
  | .int i, u, h => by
    cases u <;> simp [repB] at h
    subst h
    exact ⟨.int i, ⟨_, rfl⟩, fun _ _ => .int i⟩
  | .str x, u, h => by
    cases u <;> simp [repB] at h
    subst h
    exact ⟨.str x, ⟨_, rfl⟩, fun _ _ => .str x⟩
  | .tup l, u, h => by
    cases u with
    | ref a =>
      simp only [repB] at h
      split at h
      · rename_i c od its n sl e
        simp only [Bool.and_eq_true, decide_eq_true_eq] at h
        obtain ⟨⟨rfl, h1⟩, h2⟩ := h
        obtain ⟨vs, r1, r2⟩ := repBs_ok h2
        exact ⟨.ref a, rfl, fun L H => .tup (.inr ⟨_, its, n, e, rfl, rfl, Nat.le_trans h1 (by decide), r1⟩) (r2 L H)⟩
      · cases h
    | _ => simp [repB] at h
  | .lst l, u, h => by cases u <;> simp [repB] at h
  | .fn l, u, h => by cases u <;> simp [repB] at h
  | .obj _ l, u, h => by cases u <;> simp [repB] at h
  | .scr l, u, h => by cases u <;> simp [repB] at h
  | .dct _, u, h => by cases u <;> simp [repB] at h
theorem repBs_ok {A : Ad} : ∀ {ps : List PV} {us : List Value}, repBs A.K ps us = true → ∃ vs, Vals vs us ∧ ∀ L H, RpL A L H ps vs
  | [], [], _ => ⟨[], .nil, fun _ _ => .nil⟩
  | [], _ :: _, h => by simp [repBs] at h
  | _ :: _, [], h => by simp [repBs] at h
  | p :: ps, u :: us, h => by
    simp only [repBs, Bool.and_eq_true] at h
    obtain ⟨v, r1, r2⟩ := repB_ok h.1
    obtain ⟨vs, r3, r4⟩ := repBs_ok h.2
    exact ⟨v :: vs, .cons r1 r3, fun L H => .cons (r2 L H) (r4 L H)⟩
end
theorem conB_ok {A : Ad} {h : Heap} {mg : Str → Option Value} (X : A.K.In h) (G : h.Ns mainGlobals mg) {q : Str × PV} (e : conB A.K q = true) : ∃ u v, mg q.1 = some u ∧ L2.RelV v u ∧ ∀ L H, Rp A L H q.2 v := by
  unfold conB at e
  split at e
  · rename_i u hu
    obtain ⟨v, r1, r2⟩ := repB_ok e
    exact ⟨u, v, PySem.W.mg_of X G hu, r1, r2⟩
  · cases e
/-! ### what the head tells -/
/-- what the names reach, and the interpreter's own statics -/
def asX (g : Addr → Option Obj) (n : Nat) : List Addr := He.asD g n ++ [PySem.cStatics]
/-- the tables: empty, not in K -/
def TabsE (P : Pg) (K : PySem.W.Frag) (h : Heap) : Prop := ∀ p ∈ tfOf P, PySem.W.codeHdIn K (He.cT K p).1 (He.cT K p).2 = true ∧ K.lookup (He.cT K p).2 = none ∧ h.get? (He.cT K p).2 = some noTab
theorem tabsE_of {P : Pg} {as : List Addr} {h : Heap} (e : He.tabsB h.get? (tfOf P) (He.frT h.get? as) = true) : TabsE P (He.frT h.get? as) h := by
  intro p hp
  have q := List.all_eq_true.mp e p hp
  rw [Bool.and_eq_true] at q
  refine ⟨q.1, ?_⟩
  have q2 := q.2
  cases hg : h.get? (He.cT (He.frT h.get? as) p).2 with
  | none => rw [hg] at q2; cases q2
  | some o =>
    rw [hg] at q2
    exact ⟨He.frT_none hg q2, by rw [He.emptyTab_eq q2]⟩
def hookP (n : (Addr → Option Obj) → List Addr) (P : Pg) (fn : List He.DefD) (ex : PySem.W.Frag → Bool) : PySem.W.Hook where
  α := Ob
  obs := fun s => seeP n P fn ex s.heap.get?
  val := fun w => ((valP fn, true), dicsV P w)
  says := fun w h => ∃ K : PySem.W.Frag, K.In h ∧ obsP P fn ex K = valP fn ∧ TabsE P K h ∧ dicsK P K = dicsV P w
  of := fun _ _ e => ⟨_, He.frT_in, congrArg (fun z : Ob => z.1.1) e, tabsE_of (congrArg (fun z : Ob => z.1.2) e), congrArg (fun z : Ob => z.2) e⟩
  keeps := fun _ _ _ q k => let ⟨K, hK, c, t, d⟩ := q; ⟨K, PySem.W.Frag.In.keeps hK k, c, fun p hp => ⟨(t p hp).1, (t p hp).2.1, k _ _ (t p hp).2.2⟩, d⟩
theorem seeP_eq {n : (Addr → Option Obj) → List Addr} {P : Pg} {fn : List He.DefD} {ex : PySem.W.Frag → Bool} {g : Addr → Option Obj} {s : Shared} (h : ∀ a, g a = s.heap.get? a) : seeP n P fn ex g = (hookP n P fn ex).obs s := by
  have e : g = s.heap.get? := funext h
  subst e
  rfl
/-- the run's equation, part by part -/
theorem runEq_of {r : PySem.W.OpenRow} {q : Program} {n : (Addr → Option Obj) → List Addr} {P : Pg} {fn : List He.DefD} {ex : PySem.W.Frag → Bool} {ob : PySem.W.SharedT → Ob} {M : Nat} {loose : List PySem.Str} {w : World}
    (hA : ∀ os : OsState, (HandSHeadRun.endF (HandSHeadRun.stepQ (HandSHeadRun.denQ HandSHeadRun.tabQ) r.prog w) M r.prog w os).map (fun s => (HandSHeadRun.looksF r.prog (PySem.W.boot_heap w.params) s.abs, HandSHeadRun.seenQ q loose (PySem.importedModules r.prog.main.body) (fun s => PySem.W.xlAt q [] s && PySem.W.recOk r.toRowW.records s) s.abs)) = some (true, PySem.W.openGood q loose))
    (hB : ∀ os : OsState, (HandSHeadRun.endF (HandSHeadRun.stepQ (HandSHeadRun.denQ HandSHeadRun.tabQ) r.prog w) M r.prog w os).map (fun s => (ob s).1.1.1) = some true)
    (hC : ∀ os : OsState, (HandSHeadRun.endF (HandSHeadRun.stepQ (HandSHeadRun.denQ HandSHeadRun.tabQ) r.prog w) M r.prog w os).map (fun s => ((ob s).1.1.2, (ob s).1.2)) = some ((valP fn).2, true))
    (hD : ∀ os : OsState, (HandSHeadRun.endF (HandSHeadRun.stepQ (HandSHeadRun.denQ HandSHeadRun.tabQ) r.prog w) M r.prog w os).map (fun s => (ob s).2) = some (dicsV P w)) : HandSHeadRun.RunEq r q (hookP n P fn ex) ob M loose w := by
  intro os
  have a := hA os
  have b := hB os
  have c := hC os
  have d := hD os
  revert a b c d
  generalize HandSHeadRun.endF (HandSHeadRun.stepQ (HandSHeadRun.denQ HandSHeadRun.tabQ) r.prog w) M r.prog w os = x
  cases x with
  | none => intro a; cases a
  | some s =>
    intro a b c d
    have a := Option.some.inj a
    have b := Option.some.inj b
    have c := Option.some.inj c
    have d := Option.some.inj d
    have a1 := congrArg Prod.fst a
    have a2 := congrArg Prod.snd a
    have c1 := congrArg Prod.fst c
    have c2 := congrArg Prod.snd c
    dsimp only at a1 a2 b c1 c2 d
    show some (_, _, ob s) = some (true, PySem.W.openGood q loose, ((valP fn, true), dicsV P w))
    rw [a1, a2]
    have e : ob s = ((((ob s).1.1.1, (ob s).1.1.2), (ob s).1.2), (ob s).2) := rfl
    rw [e, b, c1, c2, d]
    rfl
/-- a def of the row is what the small language says -/
structure DefS (P : Pg) (df : Df) (dd : He.DefD) : Prop where
  a1 : dd.at_ = df.at_
  a2 : dd.name = df.name
  a3 : dd.qual = df.qual
  a4 : dd.kwd = []
  ex : ∃ ps : List Str, L2.FnScope df.N ps dd.scope ∧ ps.length = df.npar ∧
    ∀ (K : PySem.W.Frag) (f : Addr) (fd : FuncData), L2.FunD K df.name df.qual dd.params dd.body dd.scope (dd.dvs K) [] f fd → (∀ n, n ≤ df.dfl.length → ∃ dvs ds, (df.dfl.drop n).mapM dfV = some dvs ∧ Vals dvs ds ∧ L2.Binds K fd ps ds) ∧ (df.kw = true → KwD K fd ps df) ∧ (∀ e ∈ df.kws, KwN K fd ps e.1 e.2) ∧ (df.kwx = true → ∃ y, (df.N.take df.npar)[2]? = some y ∧ KwX K fd ps y)
  mt : mSL P df.N dd.scope dd.scope P.lm df.body dd.body = true
inductive DefsS (P : Pg) : List Df → List He.DefD → Prop
  | nil : DefsS P [] []
  | cons {d : Df} {e : He.DefD} {ds : List Df} {es : List He.DefD} : DefS P d e → DefsS P ds es → DefsS P (d :: ds) (e :: es)
theorem DefsS.get {P : Pg} : ∀ {ds : List Df} {es : List He.DefD} {i : Nat} {d : Df}, DefsS P ds es → ds[i]? = some d → ∃ e, es[i]? = some e ∧ DefS P d e
  | _, _, _, _, .nil, h => by simp at h
  | _, _, 0, _, .cons q _, h => by simp at h; subst h; exact ⟨_, rfl, q⟩
  | _, _, i + 1, d, .cons _ r, h => by
    obtain ⟨e, h1, h2⟩ := DefsS.get (i := i) (d := d) r (by simpa using h)
    exact ⟨e, by simpa using h1, h2⟩
def adOf (P : Pg) (K : PySem.W.Frag) : Ad := ⟨K, fun f => match P.defs[f]? with | some d => He.fAd K d.at_ | none => 0, fun c => match P.exc[c]? with | some w => He.ga K w.1 | none => 0, tOf P K, fun k => match P.cls[k]? with | some c => ⟨He.ga K c.name, c.N, c.lf⟩ | none => ⟨0, [], ""⟩⟩
theorem ao_of {P : Pg} {K : PySem.W.Frag} {k : Nat} {c : Cl} (h : P.cls[k]? = some c) : (adOf P K).O k = ⟨He.ga K c.name, c.N, c.lf⟩ := by
  show (match P.cls[k]? with | some c => (⟨He.ga K c.name, c.N, c.lf⟩ : OI) | none => ⟨0, [], ""⟩) = _
  rw [h]
theorem af_of {P : Pg} {K : PySem.W.Frag} {f : Nat} {df : Df} (hf : P.defs[f]? = some df) : (adOf P K).F f = He.fAd K df.at_ := by
  show (match P.defs[f]? with | some d => He.fAd K d.at_ | none => 0) = _
  rw [hf]
theorem clsB_ok {P : Pg} {K : PySem.W.Frag} {h : Heap} {mg : Str → Option Value} (X : K.In h) (G : h.Ns mainGlobals mg) {k : Nat} {c : Cl} (hk : P.cls[k]? = some c) (e : clsB K c = true) : ClsAt (adOf P K) K mg k c := by
  unfold clsB at e
  simp only [Bool.and_eq_true, decide_eq_true_eq, List.all_eq_true] at e
  obtain ⟨⟨⟨⟨⟨⟨⟨⟨⟨⟨h1, h2⟩, h3⟩, h4⟩, h5⟩, h6⟩, h7⟩, h8⟩, h9⟩, h10⟩, h11⟩ := e
  have eo := ao_of (K := K) hk
  exact ⟨by rw [eo]; exact He.glo_ok X G h1, by rw [eo], by rw [eo], h4, h5, by rw [eo]; exact He.cls_ok h2, fun f hf => by rw [eo]; exact He.noat_ok (h3 f hf), by rw [eo]; exact h6, h7, h8, by rw [eo]; exact h9, by rw [eo]; exact h10, fun t ht => by rw [eo]; exact (h11 t ht).1, fun t ht => by rw [eo]; exact (h11 t ht).2⟩
theorem nfB_ok {P : Pg} {K : PySem.W.Frag} {k j : Nat} {c d : Cl} (hk : P.cls[k]? = some c) (hj : P.cls[j]? = some d) (e : nfB K P = true) : PySem.W.notFirst K ((adOf P K).O k).C (.ref ((adOf P K).O j).C) = true ∧ PySem.W.kitOne K (.ref ((adOf P K).O j).C) (.ref ((adOf P K).O k).C) = some (decide (j = k)) := by
  unfold nfB at e
  simp only [List.all_eq_true, List.mem_range] at e
  have z := e k (List.getElem?_eq_some_iff.mp hk).1 j (List.getElem?_eq_some_iff.mp hj).1
  rw [hk, hj] at z
  simp only [Bool.and_eq_true, decide_eq_true_eq] at z
  rw [ao_of hk, ao_of hj]
  exact z
theorem metB_ok {P : Pg} {K : PySem.W.Frag} {k f : Nat} {c : Cl} {df : Df} (hk : P.cls[k]? = some c) (hf : P.defs[f]? = some df) (hw : df.own = some c.name) (e : metB K P df = true) : MetAt (adOf P K) K k c f df := by
  unfold metB at e
  rw [hw] at e
  simp only [Bool.and_eq_true, List.all_eq_true, Bool.or_eq_true, Bool.not_eq_true', decide_eq_true_eq, decide_eq_false_iff_not] at e
  obtain ⟨⟨h1, h2⟩, h3⟩ := e
  have eo := ao_of (K := K) hk
  have ef : (adOf P K).F f = He.ma K (He.ga K c.name) df.name := by
    rw [af_of hf]
    unfold Df.at_
    rw [hw]
    rfl
  refine ⟨by rw [eo, ef]; exact He.meth_ok h1, (h2 c (List.mem_of_getElem? hk)).resolve_left fun z => z rfl, fun hi => ?_⟩
  rcases h3 with h3 | ⟨h3, h4⟩
  · rw [hi] at h3; cases h3
  · rw [eo, ef, h3]
    exact He.mkr_ok h4
theorem ns_none {K : PySem.W.Frag} {d : Addr} {oc : Value} {od : Option Addr} {es : Array DictEntry} {n : Nat} {osl : Array (Option Value)} {P : Params} {ks : List Str} {z : Str} (hl : K.lookup d = some ⟨oc, od, .dict es n, osl⟩) (hk : es.toList.map He.keyOf = He.keysIn P ks) (hz : z ∉ ks) : PySem.W.nsIn K d z = some none := by
  have key : ∀ e ∈ es.toList, ∃ x t, e.key = .str x t ∧ x ∈ ks := fun e he => by
    have q : He.keyOf e ∈ es.toList.map He.keyOf := List.mem_map.mpr ⟨e, he, rfl⟩
    rw [hk] at q
    obtain ⟨k, hk, q⟩ := List.mem_map.mp q
    unfold He.keyOf at q
    split at q
    · rename_i x t ex
      obtain ⟨h5, _⟩ := Prod.mk.inj (Option.some.inj q)
      exact ⟨x, t, ex, by rw [← h5]; exact hk⟩
    · cases q
  unfold PySem.W.nsIn
  rw [hl]
  have f0 : es.toList.find? (fun e => e.key.isStr z) = none := by
    rw [List.find?_eq_none]
    intro e he
    obtain ⟨x, t, ex, hx⟩ := key e he
    rw [ex]
    intro q
    exact hz (by rw [← (eq_of_beq (show (x == z) = true from q))]; exact hx)
  have a0 : (es.toList.any fun e => e.refKey) = false := by
    rw [List.any_eq_false]
    intro e he
    obtain ⟨x, t, ex, hx⟩ := key e he
    unfold DictEntry.refKey
    rw [ex]
    simp
  simp only [f0, a0]
  rfl
theorem lookup_mem {α : Type} {z : Str} {p : α} : ∀ {l : List (Str × α)}, l.lookup z = some p → (z, p) ∈ l
  | [], h => by simp at h
  | (x, q) :: l, h => by
    rw [List.lookup_cons] at h
    split at h
    · rename_i e
      cases h
      rw [eq_of_beq e]
      exact .head _
    · exact .tail _ (lookup_mem h)
theorem lookup_none {α : Type} {z : Str} : ∀ {l : List (Str × α)}, l.lookup z = none → z ∉ l.map (·.1)
  | [], h => by simp
  | (x, q) :: l, h => by
    rw [List.lookup_cons] at h
    split at h
    · cases h
    · rename_i e
      simp only [List.map_cons, List.mem_cons, not_or]
      exact ⟨fun q => by rw [q] at e; simp at e, lookup_none h⟩
theorem dicB_ok {P : Pg} {K : PySem.W.Frag} {w : World} {h : Heap} {mg : Str → Option Value} (X : K.In h) (G : h.Ns mainGlobals mg) {g : Nat} {x : Str} {kvs : List (Str × PV)} (hg : P.dcs[g]? = some (x, kvs)) (e : dicB K (x, kvs) = true) (hd : dicsK P K = dicsV P w) : DicAt (adOf P K) K w mg x kvs := by
  unfold dicB at e
  simp only [Bool.and_eq_true, List.all_eq_true] at e
  obtain ⟨h1, h2⟩ := e
  have ed : He.dicW K (He.ga K x) = some (He.keysIn w.params (kvs.map (·.1))) := by
    have q : (dicsK P K)[g]? = (dicsV P w)[g]? := by rw [hd]
    unfold dicsK dicsV at q
    rw [List.getElem?_map, List.getElem?_map, hg] at q
    exact Option.some.inj q
  obtain ⟨es, n, D⟩ := He.dicW_ok ed
  have ek : es.toList.map He.keyOf = He.keysIn w.params (kvs.map (·.1)) := by
    unfold He.dicW at ed
    rw [D.at_] at ed
    dsimp only at ed
    split at ed
    · exact Option.some.inj ed
    · cases ed
  refine ⟨He.ga K x, es, n, He.glo_ok X G h1, D, fun z => ?_⟩
  cases hz : kvs.lookup z with
  | none => exact ns_none D.at_ ek (lookup_none hz)
  | some p =>
    have q := h2 (z, p) (lookup_mem hz)
    dsimp only at q
    cases e1 : PySem.W.nsIn K (He.ga K x) z with
    | none => rw [e1] at q; cases q
    | some r =>
      rw [e1] at q
      cases r with
      | none => cases q
      | some u =>
        obtain ⟨v, r1, r2⟩ := repB_ok (A := adOf P K) q
        exact ⟨u, v, rfl, r1, r2⟩
theorem ca_of {P : Pg} {K : PySem.W.Frag} {c : Nat} {w : Str × Str} (h : P.exc[c]? = some w) : (adOf P K).CA c = He.ga K w.1 := by
  show (match P.exc[c]? with | some w => He.ga K w.1 | none => 0) = _
  rw [h]
theorem prog_of {P : Pg} {fn fn2 : List He.DefD} {ex : PySem.W.Frag → Bool} {K : PySem.W.Frag} {w : World} {h : Heap} {mg : Str → Option Value} (X : K.In h) (G : h.Ns mainGlobals mg) (c : obsP P (fn ++ fn2) ex K = valP (fn ++ fn2)) (D : DefsS P P.defs fn) (hd : dicsK P K = dicsV P w) (wd : P.lm = true → WordAt (adOf P K) P K mg) (xf : ∀ c ∈ P.raf, ∀ w, P.exc[c]? = some w → ExfAt (adOf P K) K mg c w.1) : Prog (adOf P K) P w mg := by
  have c0 : (facB K P (fn ++ fn2) && ex K) = true := congrArg (fun z : Bool × List He.FnW => z.1) c
  have c1 : facB K P (fn ++ fn2) = true := (Bool.and_eq_true_iff.mp c0).1
  have c3 : (fn ++ fn2).map (fun d => He.fnW K d.at_) = (fn ++ fn2).map He.DefD.val := congrArg (fun z : Bool × List He.FnW => z.2) c
  have c2 : fn.map (fun d => He.fnW K d.at_) = fn.map He.DefD.val := by
    rw [List.map_append, List.map_append] at c3
    exact List.append_inj_left c3 (by simp)
  unfold facB facBa facBb facBc at c1
  simp only [Bool.and_eq_true, List.all_eq_true] at c1
  obtain ⟨⟨⟨⟨⟨⟨g1, g2⟩, g3⟩, g4⟩, g5⟩, g6⟩, ⟨⟨⟨g7, g8⟩, g9⟩, g10⟩⟩ := c1
  refine ⟨fun f df hf => ?_, fun g x p hg => ?_, fun x hx => He.free_ok X G (g2 x hx), fun c hc w hw => ?_, xf, wd, fun hl => ?_, fun hl p hp q hq e => ?_, fun k c hk => clsB_ok X G hk (g7 c (List.mem_of_getElem? hk)), fun k c j d hk hj => nfB_ok hk hj g10, fun k c f df hk hf hw => metB_ok hk hf hw (g8 df (List.mem_of_getElem? hf)), fun g x kvs hg => dicB_ok X G hg (g9 _ (List.mem_of_getElem? hg)) hd⟩
  · obtain ⟨dd, hd, s⟩ := D.get hf
    have e2 : He.fnW K dd.at_ = dd.val := by
      have e3 : (fn.map fun d => He.fnW K d.at_)[f]? = (fn.map He.DefD.val)[f]? := by rw [c2]
      rw [List.getElem?_map, List.getElem?_map, hd] at e3
      exact Option.some.inj e3
    obtain ⟨fd, F⟩ := He.DefD.funD e2 (g4 dd (List.mem_append_left _ (List.mem_of_getElem? hd)))
    have eA : He.fAd K dd.at_ = (adOf P K).F f := by rw [af_of hf, s.a1]
    have ek : dd.kws K = [] := by
      unfold He.DefD.kws
      rw [s.a4]
      rfl
    rw [eA, s.a2, s.a3, ek] at F
    obtain ⟨ps, h1, h2, h3⟩ := s.ex
    refine ⟨dd.params, dd.body, dd.scope, dd.dvs K, fd, ps, F, af_of hf, h1, h2, s.mt, fun hw => ?_, fun n hn => (h3 K _ fd F).1 n hn, (h3 K _ fd F).2⟩
    have ef : (adOf P K).F f = He.ga K df.name := by
      rw [af_of hf]
      unfold Df.at_
      rw [hw]
      rfl
    rw [ef]
    have q := g1 df (List.mem_of_getElem? hf)
    rw [hw] at q
    exact He.glo_ok X G (by simpa using q)
  · exact conB_ok (A := adOf P K) X G (g3 (x, p) (List.mem_of_getElem? hg))
  · have q := g5 c hc
    rw [hw] at q
    have q2 := Bool.and_eq_true_iff.mp q
    rw [ca_of hw]
    obtain ⟨h1, h2, h3, h4⟩ := He.exc_ok q2.2
    exact ⟨He.glo_ok X G q2.1, h1, h2, h3, h4⟩
  · show tOf P K = _
    unfold tOf
    rw [if_pos hl]
    rfl
  · have z := g6 p hp q hq
    rw [Bool.or_eq_true, Bool.not_eq_true', decide_eq_false_iff_not, decide_eq_true_eq] at z
    exact z.resolve_left fun n => n e
theorem noKwx {R : Prop} : (false = true → R) := fun z => nomatch z
theorem noKws {R : List Str × List (Option Nat) → Prop} : ∀ e ∈ ([] : List (List Str × List (Option Nat))), R e := fun _ h => nomatch h
/-- the j-th c of a list -/
def chunk {β : Type} (c j : Nat) (l : List β) : List β := (l.drop (c * j)).take c
def partF (c j : Nat) (K : PySem.W.Frag) (g : Addr → Option Obj) (P : Pg) (fnl : List He.DefD) : Bool × List He.FnW × List Nat :=
  (((chunk c j fnl).all fun d => d.ok K) && He.tabsB g (chunk c j (tfOf P)) K, (chunk c j fnl).map fun d => He.fnW K d.at_, (chunk c j (tfOf P)).map fun d => (He.cT K d).2)
/-- the one choice of the world that a dict's display asks -/
@[reducible] def wB (w : World) (b : Bool) : World := { w with params := { w.params with followText := fun s => if s = "special-get-raises" then b else w.params.followText s } }
theorem wB_eq (w : World) : wB w (w.params.followText "special-get-raises") = w := by
  unfold wB
  have e : (fun s => if s = "special-get-raises" then w.params.followText "special-get-raises" else w.params.followText s) = w.params.followText := by
    funext s
    split
    · rename_i h
      rw [h]
    · rfl
  rw [e]
/-- a further def -/
theorem fn2_of {P : Pg} {fn fn2 : List He.DefD} {ex : PySem.W.Frag → Bool} {K : PySem.W.Frag} (c : obsP P (fn ++ fn2) ex K = valP (fn ++ fn2)) {d : He.DefD} (h : d ∈ fn2) : ∃ fd, L2.FunD K d.name d.qual d.params d.body d.scope (d.dvs K) (d.kws K) (He.fAd K d.at_) fd := by
  have c0 : (facB K P (fn ++ fn2) && ex K) = true := congrArg (fun z : Bool × List He.FnW => z.1) c
  have c1 : facB K P (fn ++ fn2) = true := (Bool.and_eq_true_iff.mp c0).1
  have c3 : (fn ++ fn2).map (fun d => He.fnW K d.at_) = (fn ++ fn2).map He.DefD.val := congrArg (fun z : Bool × List He.FnW => z.2) c
  unfold facB facBa facBb facBc at c1
  simp only [Bool.and_eq_true, List.all_eq_true] at c1
  have hm : d ∈ fn ++ fn2 := List.mem_append_right _ h
  obtain ⟨i, hi, rfl⟩ := List.mem_iff_getElem.mp hm
  refine He.DefD.funD ?_ (c1.1.1.1.2 _ hm)
  have e3 : ((fn ++ fn2).map fun d => He.fnW K d.at_)[i]? = ((fn ++ fn2).map He.DefD.val)[i]? := by rw [c3]
  rw [List.getElem?_map, List.getElem?_map, List.getElem?_eq_getElem hi] at e3
  exact Option.some.inj e3
theorem ex_of {P : Pg} {fn : List He.DefD} {ex : PySem.W.Frag → Bool} {K : PySem.W.Frag} (c : obsP P fn ex K = valP fn) : ex K = true := (Bool.and_eq_true_iff.mp (congrArg (fun z : Bool × List He.FnW => z.1) c)).2
theorem cs_of {P : Pg} {K : PySem.W.Frag} {h : Heap} (t : TabsE P K h) : ∀ p ∈ csOf P K, h.get? p.2 = some noTab ∧ K.lookup p.2 = none ∧ PySem.W.codeHdIn K p.1 p.2 = true := by
  intro p hp
  unfold csOf at hp
  split at hp
  · rename_i hl
    obtain ⟨df, hd, rfl⟩ := List.mem_map.mp hp
    obtain ⟨h1, h2, h3⟩ := t df.at_ (by unfold tfOf; rw [if_pos hl]; exact List.mem_map.mpr ⟨df, hd, rfl⟩)
    exact ⟨h3, h2, h1⟩
  · cases hp
end G43
set_option Elab.async false
set_option linter.all false
set_option maxRecDepth 100000
set_option maxHeartbeats 4000000
namespace G43
open PySem PySem.Spec PyProof.Rows
open L2 (V HO Hp SqL SqT upd upd_same upd_ne Cx VK TE TA TS PE PA PS PSs XK Sp Room Vals Inv frs thn WX Takes Un CR)
/-! ### the law's flags of an error -/
structure FlX (X : Cx) (a D : Addr) (d : Option Addr) : Prop where
  pin : ∃ oe, (a, oe) ∈ X.pn ∧ L2.Zc (.ref D) d oe ∧ ∃ vs, oe.data = .fields vs
  ec : L2.ExcC X.K D
  bi : X.mg "isinstance" = none
section
variable {X : Cx} {a D : Addr} {d : Option Addr} {p p1 p2 p3 pos : Pos}
def tIs (a : Addr) (d : Option Addr) (b : Bool) : TE := fun σ H Q => σ[0]? = some (some (.ref a)) ∧ DOk H d ∧ Q (.bl b) H
theorem fl_is (F : FlX X a D d) {e x : Str} {C : Addr} {b : Bool} (hg1 : L2.Gl X "isinstance") (hN : X.N[0]? = some e) (hv : L2.Vis X.env.scope e) (hgx : L2.Gl X x) (hm : X.mg x = some (.ref C)) (hk : PySem.W.kitOne X.K (.ref D) (.ref C) = some b)
    (hd : (x == ("__debug__" : Str)) = false := by decide) (h1 : (e == ("__debug__" : Str)) = false := by decide) (h2 : (e == ("__classdict__" : Str)) = false := by decide) :
    PE X (.Call (.Name "isinstance" p) [.Name e p1, .Name x p2] [] pos) (tIs a d b) := by
  obtain ⟨oe, q1, q2, q3⟩ := F.pin
  refine PE_imp (L2.pe_callB (call_ex F.ec q1 q2 q3) hg1 F.bi (by decide +kernel) (L2.pa_cons (L2.pe_var (i := 0) hN hv h1 h2) (L2.pa_cons (L2.pe_glob (v := .ref C) hgx hm rfl hd) L2.pa_nil))) ?_
  rintro σ H Q ⟨h1, dk, h2⟩
  exact ⟨_, h1, _, _, b, dk, rfl, fun u r => r, hk, h2⟩
theorem fl_ve (F : FlX X a D d) {e : Str} {x : String} {b : Bool} (hg1 : L2.Gl X "isinstance") (hN : X.N[0]? = some e) (hv : L2.Vis X.env.scope e) (hgx : L2.Gl X (Str.ofString x)) (hm : X.mg (Str.ofString x) = none) (hb : bootBuiltins (Str.ofString x) = some (.type x)) (hk : PySem.W.kitOne X.K (.ref D) (.type x) = some b)
    (hn : Str.ofString x ≠ "__name__") (hd : (Str.ofString x == ("__debug__" : Str)) = false) (h1 : (e == ("__debug__" : Str)) = false := by decide) (h2 : (e == ("__classdict__" : Str)) = false := by decide) :
    PE X (.Call (.Name "isinstance" p) [.Name e p1, .Name (Str.ofString x) p2] [] pos) (tIs a d b) := by
  obtain ⟨oe, q1, q2, q3⟩ := F.pin
  refine PE_imp (L2.pe_callB (call_ex F.ec q1 q2 q3) hg1 F.bi (by decide +kernel) (L2.pa_cons (L2.pe_var (i := 0) hN hv h1 h2) (L2.pa_cons (L2.pe_bltn (v := .ty x) hgx hm hb rfl hn hd) L2.pa_nil))) ?_
  rintro σ H Q ⟨h1, dk, h2⟩
  exact ⟨_, h1, _, _, b, dk, rfl, fun u r => r, hk, h2⟩
/-- a field of the error -/
def tAt (a : Addr) (d : Option Addr) (f : Str) : TE := fun σ H Q => σ[0]? = some (some (.ref a)) ∧ ∃ (dd : Addr) (fs : List (Str × V)) (v : V), d = some dd ∧ H dd = some (.xd fs) ∧ fs.lookup f = some v ∧ Q v H
theorem fl_at (F : FlX X a D d) {e f : Str} (hno : PySem.W.findIn X.K (.ref D) f = some none) (hN : X.N[0]? = some e) (hv : L2.Vis X.env.scope e) (h1 : (e == ("__debug__" : Str)) = false := by decide) (h2 : (e == ("__classdict__" : Str)) = false := by decide) :
    PE X (.Attribute (.Name e p1) f pos) (tAt a d f) := by
  obtain ⟨oe, q1, q2, q3⟩ := F.pin
  constructor
  rintro pins s σ H Q I ⟨slot, dd, fs, v, ed, hd, lk, fin⟩
  apply L2.attr_of (by rfl)
  apply thn ((L2.pe_var (pos := p1) (i := 0) hN hv h1 h2).run pins s σ H (fun x H1 => x = .ref a ∧ H1 = H) I ⟨_, slot, rfl, rfl⟩)
  rintro u s1 ⟨_, _, J, rel, rfl, rfl⟩
  obtain rfl : u = Value.ref a := rel
  obtain ⟨od, at_, dict⟩ := inst_pin J q1 q2 q3 fun d2 e2 => ⟨fs, by rw [ed] at e2; cases e2; exact hd⟩
  obtain ⟨o, mA, rfl, same, look⟩ := dict dd fs ed hd
  obtain ⟨u, hu, ru⟩ := L2.RelO.some_of (v := v) (o := mA f) (by rw [← lk]; exact same f)
  have found := PySem.W.findObj_own (od := o) F.ec.hd hno rfl (by rw [look, hu])
  exact HandSPX.exc_get J.kIn at_ F.ec.hg F.ec.hk F.ec.hs found (L2.handed_of ru) ⟨v, _, J.tok _, ru, fin⟩
end
/-! ### a def that is called while an error is handled -/
structure FnY (Pr : Program) (w : World) (K : PySem.W.Frag) (mg : Str → Option Value) (base : Heap) (k : Nat) (f : Addr) (fd : FuncData) (ps : List Str) (sp : Addr × Obj → Sp) : Prop where
  len : ∀ p vs H Q E, sp p vs H Q E → vs.length = ps.length
  run : ∀ (Ar : Around) (outer : List PySem.Env) (s : Shared) (H : Hp) (args : Args) (us : List Value) (vs : List V) (Q : VK) (E : XK) (p : Addr × Obj), L2H.RoomH k Ar → L2H.PinOk outer H s p → L2.Env0 Pr w K mg base Ar outer s H →
    BindsTo s fd args (ps.zip us) → Vals vs us → sp p vs H Q E → codeAny (model Pr w) Ar (.call (.ref f) args) (CR C8.CX0 outer Pr w H s Q E) s
theorem fny_of {Pr : Program} {w : World} {K : PySem.W.Frag} {mg : Str → Option Value} {base : Heap} {k : Nat} {f : Addr} {name qual : Str} {params : Arguments} {body : List Stmt} {scope : Scope} {dV kV doc pm cdv ct oc : Value} {an od : Option Addr}
    {osl : Array (Option Value)} {N ps : List Str} {sp : Addr × Obj → Sp} (lk : K.lookup f = some ⟨oc, od, .func (PySem.W.fnOf name qual params body scope dV kV doc pm an cdv ct), osl⟩) (hcd : PySem.W.codeIn K cdv qual = true) (S : L2.FnScope N ps scope)
    (len : ∀ p vs H Q E, sp p vs H Q E → vs.length = ps.length)
    (hb : ∀ (Ar : Around) (outer : List PySem.Env) (s : Shared) (H : Hp) (vs : List V) (Q : VK) (E : XK) (p : Addr × Obj), L2H.RoomH k (Ar.deeper (envOfC qual scope s.heap.objs.size f cdv)) → sp p vs H Q E →
      ∃ t, PSs (L2H.cxH C8.CX0 Pr w K mg base N qual scope f cdv Ar outer s H E p) body t ∧ t { nx := fun _ H' => Q .non H', rt := Q } (L2.start N vs) H) :
    FnY Pr w K mg base (k + 1) f (PySem.W.fnOf name qual params body scope dV kV doc pm an cdv ct) ps sp := by
  refine ⟨len, ?_⟩
  intro Ar outer s H args us vs Q E p hr hpin e0 hbd r hsp
  have hl := len _ _ _ _ _ hsp
  have kept : ∀ b o, base.get? b = some o → s.heap.get? b = some o := fun b o e => (e0.bs b o e).1
  have KX : K.In s.heap := e0.mod.kin.keeps kept
  have hk : ∀ y ∈ ps.zip us, scope.names.lookup y.1 = some .local ∨ (scope.names.lookup y.1 = some .cell ∧ ((cellsFrom (s.heap.objs.size + 1) scope.names []).lookup y.1).isSome = true) := by
    rintro ⟨n, v⟩ hy
    exact (S.par n (List.of_mem_zip hy).1).imp id fun q => ⟨q, PySem.W.cellsFrom_some _ _ _ (.inl q)⟩
  refine codeAny_call_function hr.depth (KX _ _ lk) rfl S.co S.gen rfl (PySem.W.codeRec_of KX hcd) (hbd _ _ _ _ ?_)
  refine wpAny_newFunctionEnv_cells S.kind hk ?_
  rintro env rfl s1 x
  refine ⟨(e0.mod.nolimit.keeps kept).keeps x.toInCall.keep, codeAny_func ?_⟩
  obtain ⟨t, ht, hq⟩ := hb Ar outer s H vs Q E p (hr.deeper _) hsp
  refine wpAny_mono (ht.run [] s1 (L2.start N vs) H _ (L2H.inv_startH S hpin e0 hl r x) hq) (fun fl s' hs => ?_) (fun _ _ z => z)
  rcases fl with _ | _ | _ | u
  · obtain ⟨σ', H', J, q⟩ := hs
    exact ⟨V.non, H', J.os, J.bare, J.base, J.hok, rfl, q⟩
  · obtain ⟨_, _, _, q⟩ := hs
    exact q.elim
  · obtain ⟨_, _, _, q⟩ := hs
    exact q.elim
  · obtain ⟨v, σ', H', J, rv, q⟩ := hs
    exact ⟨v, H', J.os, J.bare, J.base, J.hok, rv, q⟩
/-- called in an except suite -/
theorem y_call {X : Cx} {k : Nat} {f a : Addr} {oe : Obj} {fd : FuncData} {x e : Str} {sp : Addr × Obj → Sp} {i : Nat} {q q1 pos : Pos} (F : FnY X.prog X.w X.K X.mg X.base k f fd [e] sp) (hr : L2H.RoomH k X.A) (hp : (a, oe) ∈ X.pn) (hg : L2.Gl X x) (hm : X.mg x = some (.ref f))
    (hk : PySem.W.keepIn X.K (.ref f) = true) (hb : L2.Binds X.K fd [e] []) {n : Str} (hN : X.N[i]? = some n) (hv : L2.Vis X.env.scope n) (h1 : (n == ("__debug__" : Str)) = false) (h2 : (n == ("__classdict__" : Str)) = false) (hdb : (x == ("__debug__" : Str)) = false) :
    PE X (.Call (.Name x q) [.Name n q1] [] pos) (fun σ H Q => ∃ v, σ[i]? = some (some v) ∧ sp (a, oe) [v] H Q C8.E0) := by
  constructor
  rintro pins s σ H Q I ⟨v, hs, h⟩
  refine wpAny_Call_Name_kw (L2.ld_glob I hg hm ?_ hdb)
  have pa := L2.pa_cons (X := X) (L2.pe_var (X := X) (pos := q1) (i := i) hN hv h1 h2) L2.pa_nil
  refine PySem.W.callWith_K (h₀ := X.base) I.ok.mod.kin hk (thn (pa.run pos pins s σ H (fun vs H1 => sp (a, oe) vs H1 Q C8.E0) I ⟨v, hs, h⟩) ?_) (by rfl) (by rfl)
  rintro us s1 ⟨vs, H1, I1, r, z⟩
  refine ⟨I1.kIn, ?_⟩
  have P1 := I1.pin (a, oe) (List.mem_append_left _ hp)
  have hpin : L2H.PinOk X.stack H1 s1 (a, oe) := ⟨P1.1, P1.2.1, fun hm => (List.mem_cons.mp (I1.stkSub a hm)).elim P1.2.2.1 P1.2.2.2.1, P1.2.2.2.2⟩
  have hl : us.length = 1 := by rw [← r.length]; exact F.len _ _ _ _ _ z
  have b := hb s1 us I1.kIn (by rw [List.append_nil]; exact hl)
  rw [List.append_nil] at b
  refine wpAny_call (codeAny_mono (F.run X.A X.stack s1 H1 ⟨us, []⟩ us vs Q C8.E0 (a, oe) hr hpin I1.env0 b r z) ?_)
  rintro (e | fl) s2 hq
  · exact (show False from hq).elim
  · rcases fl with _ | _ | _ | u
    · exact hq.elim
    · exact hq.elim
    · exact hq.elim
    · exact I1.after hq
end G43
namespace G43
open PySem
open L2 (V HO Hp upd upd_same upd_ne)
theorem at_old {H : Hp} {p b : Addr} {o u : HO} (e : H b = some u) (hp : H p = none) : upd H p o b = some u := by
  rw [upd_ne (L2.ne_of_none e hp)]
  exact e
end G43
namespace G43
theorem sln {n : Nat} (h : n ≤ 1000) : n ≤ PySem.sizeLine := Nat.le_trans h (by decide)
end G43
namespace G43
open PySem
open L2 (V HO Hp upd upd_same upd_ne SqT)
/-- more objects, the old ones as they were -/
theorem Sim.ext {A : Ad} {B : Addr → Prop} {m : List Addr} {h : Hs} {H H' : Hp} (S : Sim A B m h H) (e : ∀ b o, H b = some o → H' b = some o) : Sim A B m h H' ∧ Mv m h H m h H' := by
  have M : Mv m h H m h H' := .ext ⟨[], by simp⟩ (fun b o q _ => e b o q) fun _ _ _ n => n
  refine ⟨⟨S.len, fun i c a h1 h2 => ?_, S.inj, S.bn, fun a q => ?_, S.tb.ext e⟩, M⟩
  · have z := S.cell i c a h1 h2
    obtain ⟨u, hu, _⟩ := z.some
    exact z.same (by rw [e _ _ hu, hu]) (fun _ _ r => Rp.move S M r) fun _ _ r => RpL.move S M r
  · obtain ⟨o', e', n'⟩ := S.bt a q
    exact ⟨o', e _ _ e', n'⟩
theorem excCB_ok {K : PySem.W.Frag} {D : Addr} (h : excCB K D = true) : L2.ExcC K D := by
  unfold excCB at h
  simp only [Bool.and_eq_true, decide_eq_true_eq] at h
  obtain ⟨⟨⟨⟨⟨⟨⟨h1, h2⟩, h3⟩, h4⟩, h5⟩, h6⟩, h7⟩, h8⟩ := h
  exact ⟨h1, h2, h3, h4, h5, h6, h7, h8⟩
end G43
set_option Elab.async false
set_option linter.all false
set_option maxRecDepth 100000
set_option maxHeartbeats 4000000
namespace G43
open PySem
/-! ### the evaluator's rules, as rewriting reads them -/
def kBin (op : Operator) (x y : RV) (h : Hs) (k : PV → Prop) : Prop := ∃ p q, val h x = some p ∧ val h y = some q ∧ wpBin op p q k
def kCmp (op : CmpOp) (x y : RV) (h : Hs) (k : Bool → Prop) : Prop := ∃ p q, val h x = some p ∧ val h y = some q ∧ wpCmp op p q k
def kIf (x : RV) (k : Bool → Prop) : Prop := ∃ c, x = .pv (.bl c) ∧ k c
def kNeg (x : RV) (k : Int → Prop) : Prop := ∃ i, x = .pv (.int i) ∧ k i
def kBi (b : BI) (vs : List RV) (h : Hs) (k : PV → Prop) : Prop := ∃ ps, vs.mapM (val h) = some ps ∧ wpBi b ps k
def kIs (x : RV) (t : Ty) (h : Hs) (k : Bool → Prop) : Prop := ∃ p b, val h x = some p ∧ isB p t = some b ∧ k b
def kIx (x y : RV) (h : Hs) (k : PV → Prop) : Prop := ∃ p q, val h x = some p ∧ y = .pv q ∧ wpIx p q k
def kS1 (x y : RV) (h : Hs) (k : PV → Prop) : Prop := ∃ p i, val h x = some p ∧ y = .pv (.int i) ∧ wpSl p (some i) none k
def kS2 (x y : RV) (h : Hs) (k : PV → Prop) : Prop := ∃ p i, val h x = some p ∧ y = .pv (.int i) ∧ wpSl p none (some i) k
def kS3 (x : RV) (i : Int) (z : RV) (h : Hs) (k : PV → Prop) : Prop := ∃ p j, val h x = some p ∧ z = .pv (.int j) ∧ wpSl p (some i) (some j) k
def kPs (vs : List RV) (k : List PV → Prop) : Prop := ∃ ps, vs = ps.map RV.pv ∧ k ps
def kPv (v : RV) (k : PV → Prop) : Prop := ∃ p, v = .pv p ∧ k p
def kFr (x : RV) (h : Hs) (k : List PV → Hs → Prop) : Prop := ∃ i c, x = .ref i ∧ h[i]? = some (some c) ∧ k c (h.set i none)
def kSq (x : RV) (h1 : Hs) (Q : List PV → (Hs → Prop) → Hs → Prop) : Prop := match x with
      | .pv (.lst l) => Q l (fun _ => True) h1
      | .pv (.tup l) => Q l (fun _ => True) h1
      | .pv (.scr l) => Q l (fun _ => True) h1
      | .ref i => ∃ c, h1[i]? = some (some c) ∧ Q c (fun h => h[i]? = some (some c)) h1
      | _ => False
def kZip (x y : RV) (k : List PV → Prop) : Prop := match x, y with
      | .pv (.lst l), .pv (.lst r) => k (zipL l r)
      | .pv (.tup l), .pv (.tup r) => k (zipL l r)
      | _, _ => False
def kEnm (x : RV) (h1 : Hs) (Q : List PV → (Hs → Prop) → Hs → Prop) : Prop := match x with
      | .pv (.lst l) => Q (enmL l) (fun _ => True) h1
      | .pv (.tup l) => Q (enmL l) (fun _ => True) h1
      | .ref i => ∃ c, h1[i]? = some (some c) ∧ Q (enmL c) (fun h => h[i]? = some (some c)) h1
      | _ => False
def kSub (x z y : RV) (h3 : Hs) (nx : Hs → Prop) : Prop := ∃ k c n j q, x = .ref k ∧ h3[k]? = some (some c) ∧ z = .pv (.int n) ∧ L2.ixN c.length n = some j ∧ y = .pv q ∧ nx (h3.set k (some (c.set j q)))
def kAp1 (x : RV) (h1 : Hs) (g : Nat → Prop) : Prop := ∃ k c0, x = .ref k ∧ h1[k]? = some (some c0) ∧ g k
def kAp2 (k : Nat) (y : RV) (h2 : Hs) (nx : Hs → Prop) : Prop := ∃ c q, h2[k]? = some (some c) ∧ y = .pv q ∧ c.length < sizeLine ∧ nx (h2.set k (some (c ++ [q])))
def kSet (ρ : Env) (i : Nat) (v : Option RV) (k : Env → Prop) : Prop := k (ρ.set i v)
def kKill (ρ : Env) (is : List Nat) (k : Env → Prop) : Prop := k (kill ρ is)
def kSetA (ρ : Env) (is : List Nat) (vs : List RV) (k : Env → Prop) : Prop := k (setAll ρ is vs)
section
variable {P : Pg} {C : CallT} {ρ : Env} {h : Hs} {Q : QV} {X : QX}
theorem n_set0 {o v k} : kSet (o :: ρ) 0 v k = k (v :: ρ) := rfl
theorem n_setS {o n v k} : kSet (o :: ρ) (n + 1) v k = kSet ρ n v fun ρ' => k (o :: ρ') := rfl
theorem n_kil0 {k} : kKill ρ [] k = k ρ := rfl
theorem n_kilS {v vs k} : kKill ρ (v :: vs) k = kKill ρ vs fun ρ' => kSet ρ' v none k := rfl
theorem n_sa0 {vs k} : kSetA ρ [] vs k = k ρ := rfl
theorem n_saS {i is v vs k} : kSetA ρ (i :: is) (v :: vs) k = kSet ρ i (some v) fun ρ' => kSetA ρ' is vs k := rfl
theorem n_slot0 {i} : (Tg.nm i).slots = [i] := rfl
theorem n_slot1 : (Tg.nil).slots = [] := rfl
theorem n_slotS {i r} : (Tg.cons (.nm i) r).slots = i :: r.slots := rfl
/-! expressions -/
theorem e_var0 {v} : wpE P C (.var 0) (some v :: ρ) h Q X = Q v h := by
  show (∃ w, some (some v) = some (some w) ∧ Q w h) = _
  simp
theorem e_varS {n o} : wpE P C (.var (n + 1)) (o :: ρ) h Q X = wpE P C (.var n) ρ h Q X := rfl
theorem e_cst {p} : wpE P C (.cst p) ρ h Q X = Q (.pv p) h := rfl
theorem e_glo {g x p} (e : P.cons[g]? = some (x, p)) : wpE P C (.glo g) ρ h Q X = Q (.pv p) h := by
  show (∃ x p, P.cons[g]? = some (x, p) ∧ Q (.pv p) h) = _
  rw [e]
  apply propext
  constructor
  · rintro ⟨_, _, e, z⟩; cases e; exact z
  · intro z; exact ⟨_, _, rfl, z⟩
theorem e_bin {op a b} : wpE P C (.bin op a b) ρ h Q X = wpE P C a ρ h (fun x h1 => wpE P C b ρ h1 (fun y h2 => kBin op x y h2 fun r => Q (.pv r) h2) X) X := rfl
theorem e_neg {a} : wpE P C (.neg a) ρ h Q X = wpE P C a ρ h (fun x h1 => kNeg x fun i => Q (.pv (.int (-i))) h1) X := rfl
theorem e_nt {a} : wpE P C (.nt a) ρ h Q X = wpE P C a ρ h (fun x h1 => kIf x fun c => Q (.pv (.bl (!c))) h1) X := rfl
theorem e_and {a b} : wpE P C (.and a b) ρ h Q X = wpE P C a ρ h (fun x h1 => kIf x fun c => if c = true then wpE P C b ρ h1 Q X else Q (.pv (.bl false)) h1) X := rfl
theorem e_or {a b} : wpE P C (.or a b) ρ h Q X = wpE P C a ρ h (fun x h1 => kIf x fun c => if c = true then Q (.pv (.bl true)) h1 else wpE P C b ρ h1 Q X) X := rfl
theorem e_cmp {op a b} : wpE P C (.cmp op a b) ρ h Q X = wpE P C a ρ h (fun x h1 => wpE P C b ρ h1 (fun y h2 => kCmp op x y h2 fun r => Q (.pv (.bl r)) h2) X) X := rfl
theorem e_chn {op op' a b c} : wpE P C (.chn op op' a b c) ρ h Q X = wpE P C a ρ h (fun x h1 => wpE P C b ρ h1 (fun y h2 => kCmp op x y h2 fun r => if r = true then
      wpE P C c ρ h2 (fun z h3 => kCmp op' y z h3 fun r => Q (.pv (.bl r)) h3) X else Q (.pv (.bl false)) h2) X) X := rfl
theorem e_ite {t a b} : wpE P C (.ite t a b) ρ h Q X = wpE P C t ρ h (fun x h1 => kIf x fun c => if c = true then wpE P C a ρ h1 Q X else wpE P C b ρ h1 Q X) X := rfl
theorem e_call {f es dv} : wpE P C (.call f es dv) ρ h Q X = wpL P C es ρ h (fun vs h1 => C f (vs ++ dv.map .pv) h1 Q X) X := rfl
theorem e_bi {b es} : wpE P C (.bi b es) ρ h Q X = wpL P C es ρ h (fun vs h1 => kBi b vs h1 fun r => Q (.pv r) h1) X := rfl
theorem e_isi {a t} : wpE P C (.isi a t) ρ h Q X = wpE P C a ρ h (fun x h1 => kIs x t h1 fun b => Q (.pv (.bl b)) h1) X := rfl
theorem e_idx {a i} : wpE P C (.idx a i) ρ h Q X = wpE P C a ρ h (fun x h1 => wpE P C i ρ h1 (fun y h2 => kIx x y h2 fun r => Q (.pv r) h2) X) X := rfl
theorem e_slo {a i} : wpE P C (.slo a i) ρ h Q X = wpE P C a ρ h (fun x h1 => wpE P C i ρ h1 (fun y h2 => kS1 x y h2 fun r => Q (.pv r) h2) X) X := rfl
theorem e_shi {a i} : wpE P C (.shi a i) ρ h Q X = wpE P C a ρ h (fun x h1 => wpE P C i ρ h1 (fun y h2 => kS2 x y h2 fun r => Q (.pv r) h2) X) X := rfl
theorem e_slh {a lo hi} : wpE P C (.slh a lo hi) ρ h Q X = wpE P C a ρ h (fun x h1 => wpE P C lo ρ h1 (fun y h2 => kNeg y fun i => wpE P C hi ρ h2 (fun z h3 => kS3 x i z h3 fun r => Q (.pv r) h3) X) X) X := rfl
theorem e_tup {es} : wpE P C (.tup es) ρ h Q X = wpL P C es ρ h (fun vs h1 => kPs vs fun ps => Q (.pv (.tup ps)) h1) X := rfl
theorem e_lst {es} : wpE P C (.lst es) ρ h Q X = wpL P C es ρ h (fun vs h1 => kPs vs fun ps => Q (.pv (.lst ps)) h1) X := rfl
theorem e_mls {es} : wpE P C (.mls es) ρ h Q X = wpL P C es ρ h (fun vs h1 => kPs vs fun ps => Q (.ref h1.length) (h1 ++ [some ps])) X := rfl
def kMad (x y : RV) (h : Hs) (Q : RV → Hs → Prop) : Prop := ∃ p q, val h x = some (.lst p) ∧ val h y = some (.lst q) ∧ p.length + q.length ≤ sizeLine ∧ Q (.ref h.length) (h ++ [some (p ++ q)])
def kMrp (x y : RV) (h : Hs) (Q : RV → Hs → Prop) : Prop := ∃ p k, val h x = some (.lst p) ∧ y = .pv (.int k) ∧ -(2 ^ 63) ≤ k ∧ k < 2 ^ 63 ∧ p.length * k.toNat ≤ sizeLine ∧ Q (.ref h.length) (h ++ [some (List.replicate k.toNat p).flatten])
theorem e_mrp {a b} : wpE P C (.mrp a b) ρ h Q X = wpE P C a ρ h (fun x h1 => wpE P C b ρ h1 (fun y h2 => kMrp x y h2 Q) X) X := rfl
def kWd (P : Pg) (x : XV) (k : Str → List PV → Prop) : Prop := ∃ w, P.exc[x.cls]? = some w ∧ okF x = true ∧ k w.2 (x.flds.map (·.2))
theorem e_wordT {e} (hs : P.sd = false) : wpE P C (.word e) ρ h Q X = wpE P C e ρ h (fun v h1 => kPv v fun p => Q (.pv (.tup [.str "told", p])) h1) (fun x h1 => kWd P x fun w fs => Q (.pv (.tup (.str w :: fs))) h1) := by
  show wpE P C e ρ h (fun v h1 => ∃ p, v = .pv p ∧ Q (.pv (P.wv p)) h1) (fun x h1 => ∃ w, P.exc[x.cls]? = some w ∧ okF x = true ∧ Q (.pv (.tup (.str w.2 :: x.flds.map (·.2)))) h1) = _
  have e : ∀ p, P.wv p = .tup [.str "told", p] := fun p => by unfold Pg.wv; rw [hs]; rfl
  simp only [e]
  rfl
def kRv (x : RV) (h : Hs) (k : PV → Prop) : Prop := ∃ p, val h x = some p ∧ wpRv p k
def kMli (x : RV) (h : Hs) (Q : RV → Hs → Prop) : Prop := ∃ p l, val h x = some p ∧ itemsOf p = some l ∧ Q (.ref h.length) (h ++ [some l])
def kDc (x : RV) (g : List (Str × Int) → Prop) : Prop := ∃ kvs, x = .pv (.dct kvs) ∧ g kvs
def kDgt (kvs : List (Str × Int)) (y z : RV) (g : PV → Prop) : Prop := ∃ s p, y = .pv (.str s) ∧ z = .pv p ∧ g (dgetD kvs s p)
theorem k_dc {kvs g} : kDc (.pv (.dct kvs)) g = g kvs := by unfold kDc; simp
theorem k_dgt {kvs s p g} : kDgt kvs (.pv (.str s)) (.pv p) g = g (dgetD kvs s p) := by
  unfold kDgt
  apply propext
  constructor
  · rintro ⟨_, _, e2, e3, z⟩; cases e2; cases e3; exact z
  · intro z; exact ⟨_, _, rfl, rfl, z⟩
def kSrt (x : RV) (k : List Int → Prop) : Prop := ∃ ns : List Int, x = .pv (.tup (ns.map PV.int)) ∧ ns.length < 60 ∧ ∀ ks : List Int, ks.Pairwise (· < ·) → (∀ k, k ∈ ks ↔ k ∈ ns) → k ks
def kVls (vs : List RV) (k : List IT → Prop) : Prop := ∃ xs, itsOf vs = some xs ∧ k xs
theorem k_vls0 {k} : kVls [] k = k [] := by unfold kVls; simp [itsOf]
theorem k_vlsP {p vs k} : kVls (.pv p :: vs) k = kVls vs fun xs => k (.p p :: xs) := by
  unfold kVls
  apply propext
  simp only [itsOf, itOf]
  constructor
  · rintro ⟨xs, e, z⟩
    cases er : itsOf vs with
    | none => rw [er] at e; cases e
    | some ys => rw [er] at e; cases e; exact ⟨ys, rfl, z⟩
  · rintro ⟨xs, e, z⟩
    exact ⟨_, by rw [e]; rfl, z⟩
theorem k_vlsO {k0 i j vs k} : kVls (.ob k0 i j :: vs) k = kVls vs fun xs => k (.o k0 i j :: xs) := by
  unfold kVls
  apply propext
  simp only [itsOf, itOf]
  constructor
  · rintro ⟨xs, e, z⟩
    cases er : itsOf vs with
    | none => rw [er] at e; cases e
    | some ys => rw [er] at e; cases e; exact ⟨ys, rfl, z⟩
  · rintro ⟨xs, e, z⟩
    exact ⟨_, by rw [e]; rfl, z⟩
theorem k_vlsR {i vs k} : kVls (.ref i :: vs) k = kVls vs fun xs => k (.c i :: xs) := by
  unfold kVls
  apply propext
  simp only [itsOf, itOf]
  constructor
  · rintro ⟨xs, e, z⟩
    cases er : itsOf vs with
    | none => rw [er] at e; cases e
    | some ys => rw [er] at e; cases e; exact ⟨ys, rfl, z⟩
  · rintro ⟨xs, e, z⟩
    exact ⟨_, by rw [e]; rfl, z⟩
def kRpv (x : RV) (h1 : Hs) (k : PV → Prop) : Prop := ∃ xs ps, x = .vec xs ∧ itemsV h1 xs = some ps ∧ Dt 60 (.lst ps) ∧ (dat (.lst ps)).showable = true ∧ (dat (.lst ps)).shown.length ≤ sizeLine ∧ k (.str (dat (.lst ps)).shown)
def kVix (x y : RV) (g : Nat → Prop) : Prop := ∃ xs n k, x = .vec xs ∧ y = .pv (.int n) ∧ atI xs n = some (.c k) ∧ g k
def kRf (y : RV) (k : Nat → Prop) : Prop := ∃ p, y = .ref p ∧ k p
def kMix (x y : RV) (g : Nat → Prop) : Prop := ∃ is n k, x = .mat is ∧ y = .pv (.int n) ∧ atI is n = some k ∧ g k
def kFrm (x : RV) (h1 : Hs) (k : List (List PV) → Hs → Prop) : Prop := ∃ is cs, x = .mat is ∧ rowsAt h1 is = some cs ∧ is.Nodup ∧ k cs (dropAll is h1)
def kEx2 (k : Nat) (y : RV) (h2 : Hs) (nx : Hs → Prop) : Prop := ∃ c q, h2[k]? = some (some c) ∧ y = .pv (.lst q) ∧ c.length + q.length ≤ sizeLine ∧ nx (h2.set k (some (c ++ q)))
/-! objects -/
def kFld (x : RV) (k t : Nat) (h : Hs) (g : PV → Prop) : Prop := ∃ p, fldV h x k t = some p ∧ g p
def kLfd (x : RV) (k : Nat) (g : Nat → Prop) : Prop := ∃ i j, x = .ob k i (some j) ∧ g j
def kIsc (P : Pg) (x : RV) (k : Nat) (g : Bool → Prop) : Prop := ∃ b, isC k x = some b ∧ iscS P k x ∧ g b
def kBl (v : RV) (g : Prop) : Prop := ∃ c, v = .pv (.bl c) ∧ g
def kStr (x : RV) (g : Str → Prop) : Prop := ∃ s, x = .pv (.str s) ∧ g s
def kFst (ρ : Env) (o k t : Nat) (y : RV) (h1 : Hs) (g : Hs → Prop) : Prop := ∃ q i j fs, y = .pv q ∧ isMk q = false ∧ ρ[o]? = some (some (.ob k i j)) ∧ h1[i]? = some (some (.obj k [] :: fs)) ∧ t ≤ fs.length ∧ g (h1.set i (some (.obj k [] :: putN fs t q)))
def kFnl (ρ : Env) (o k t : Nat) (y : RV) (h1 : Hs) (g : RV → Hs → Prop) : Prop := ∃ i l fs, y = .ref l ∧ ρ[o]? = some (some (.ob k i none)) ∧ h1[i]? = some (some (.obj k [] :: fs)) ∧ t = fs.length ∧ i ≠ l ∧ g (.ob k i (some l)) (h1.set i (some (.obj k [] :: (fs ++ [.scr []]))))
theorem e_fld {a k t} : wpE P C (.fld a k t) ρ h Q X = wpE P C a ρ h (fun x h1 => kFld x k t h1 fun p => Q (.pv p) h1) X := rfl
theorem e_lfd {a k} : wpE P C (.lfd a k) ρ h Q X = wpE P C a ρ h (fun x h1 => kLfd x k fun j => Q (.ref j) h1) X := by
  show wpE P C a ρ h (fun x h1 => ∃ i j, x = .ob k i (some j) ∧ Q (.ref j) h1) X = _
  rfl
theorem e_mko {k f es dv} : wpE P C (.mko k f es dv) ρ h Q X = wpL P C es ρ h (fun vs h1 => C f (.ob k h1.length none :: (vs ++ dv.map .pv)) (h1 ++ [some [.obj k []]]) (fun v h2 => (∃ j, v = .ob k h1.length j) ∧ Q v h2) (fun x h2 => X x (h2.take h1.length))) X := rfl
theorem e_mth {k f a es dv} : wpE P C (.mth k f a es dv) ρ h Q X = wpE P C a ρ h (fun x h1 => isK h1 k x ∧ wpL P C es ρ h1 (fun vs h2 => C f (x :: (vs ++ dv.map .pv)) h2 Q X) X) X := rfl
theorem e_lno {k f a} : wpE P C (.lno k f a) ρ h Q X = wpE P C a ρ h (fun x h1 => isK h1 k x ∧ C f [x] h1 (fun v h2 => ∃ n : Int, v = .pv (.int n) ∧ (0 ≤ n ∧ n < 2 ^ 63) ∧ Q v h2) X) X := rfl
def kPrt (x : RV) (p q : Str) (k : Str → Prop) : Prop := ∃ y, prtS x y ∧ (p ++ y).length ≤ sizeLine ∧ ((p ++ y) ++ q).length ≤ sizeLine ∧ k ((p ++ y) ++ q)
def kSrl (x : RV) (h1 : Hs) (k : List Int → Prop) : Prop := ∃ ns : List Int, val h1 x = some (.lst (ns.map PV.int)) ∧ ns.length < 60 ∧ ∀ ks : List Int, ks.Pairwise (· < ·) → (∀ k, k ∈ ks ↔ k ∈ ns) → k ks
def kStt (x : RV) (h1 : Hs) (k : List PV → Prop) : Prop := ∃ L : List PV, val h1 x = some (.lst L) ∧ InO L ∧ k L
def kLze (x y : RV) (k : Prop) : Prop := x = .pv (.lst []) ∧ y = .pv (.tup []) ∧ k
theorem e_lze {a b} : wpE P C (.lze a b) ρ h Q X = wpE P C a ρ h (fun x h1 => wpE P C b ρ h1 (fun y h2 => kLze x y (Q (.pv (.lst [])) h2)) X) X := by
  unfold kLze
  rw [wpE]
theorem k_lze {k : Prop} : kLze (.pv (.lst [])) (.pv (.tup [])) k = k := by
  unfold kLze
  simp
def kLrg (x : RV) (k : PV → Prop) : Prop := ∃ j : Int, x = .pv (.int j) ∧ 0 ≤ j ∧ j ≤ 1000 ∧ k (.lst (rngL 0 j.toNat))
theorem e_lrg {a} : wpE P C (.lrg a) ρ h Q X = wpE P C a ρ h (fun x h1 => kLrg x fun p => Q (.pv p) h1) X := by
  unfold kLrg
  rw [wpE]
theorem k_lrg {j : Int} {k : PV → Prop} : kLrg (.pv (.int j)) k = (0 ≤ j ∧ j ≤ 1000 ∧ k (.lst (rngL 0 j.toNat))) := by
  unfold kLrg
  apply propext
  constructor
  · rintro ⟨j', e, e2, e3, z⟩
    cases e
    exact ⟨e2, e3, z⟩
  · rintro ⟨e2, e3, z⟩
    exact ⟨j, rfl, e2, e3, z⟩
theorem st_nev : wpS P C .nev ρ h nx rt X = False := by rw [wpS]
def kTpo (vs : List RV) (k : RV → Prop) : Prop := ∃ c i j p, vs = [.ob c i j, .pv p] ∧ k (.two c i j p)
def kUpo (v : RV) (k : RV → RV → Prop) : Prop := ∃ c i j p, v = .two c i j p ∧ k (.ob c i j) (.pv p)
theorem k_tpo {c i j p} {k : RV → Prop} : kTpo [.ob c i j, .pv p] k = k (.two c i j p) := by
  unfold kTpo
  apply propext
  constructor
  · rintro ⟨c', i', j', p', e, z⟩
    cases e
    exact z
  · intro z
    exact ⟨c, i, j, p, rfl, z⟩
theorem k_upo {c i j p} {k : RV → RV → Prop} : kUpo (.two c i j p) k = k (.ob c i j) (.pv p) := by
  unfold kUpo
  apply propext
  constructor
  · rintro ⟨c', i', j', p', e, z⟩
    cases e
    exact z
  · intro z
    exact ⟨c, i, j, p, rfl, z⟩
def kSod (x : RV) (h1 : Hs) (k : List PV → Prop) : Prop := ∃ L : List PV, val h1 x = some (.lst L) ∧ SoD L ∧ k L
def kLse (x : RV) (h1 : Hs) (k : Nat → Prop) : Prop := ∃ ns : List Int, val h1 x = some (.lst (ns.map PV.int)) ∧ ns.length ≤ 1000 ∧ ∀ ks : List Int, ks.Nodup → (∀ k, k ∈ ks ↔ k ∈ ns) → k ks.length
def kSmt (x : RV) (k : Int → Prop) : Prop := ∃ ns : List Int, x = .pv (.tup (ns.map PV.int)) ∧ k ns.sum
def kPr1 (x : RV) (p q : Str) (k : Str → Prop) : Prop := ∃ y, prtS x y ∧ (p ++ y).length ≤ sizeLine ∧ ((p ++ y) ++ q).length ≤ sizeLine ∧ k ((p ++ y) ++ q)
def kOne (y : RV) (g : PV → Prop) : Prop := ∃ z, y = .pv (.lst [z]) ∧ g z
theorem e_fm1 {p a q} : wpE P C (.fm1 p a q) ρ h Q X = wpE P C a ρ h (fun x h1 => kPrt x p q fun y => Q (.pv (.str y)) h1) X := rfl
theorem pq_nil {vs : List RV} {Q : List RV → Prop} : selQ vs [] Q = Q [] := rfl
theorem pq_none {vs : List RV} {r : List (Option Nat)} {Q : List RV → Prop} : selQ vs (none :: r) Q = selQ vs r fun as => Q (.pv .non :: as) := rfl
theorem pq_0 {a : RV} {vs : List RV} {r : List (Option Nat)} {Q : List RV → Prop} : selQ (a :: vs) (some 0 :: r) Q = selQ (a :: vs) r fun as => Q (a :: as) := by
  show (∃ v, some a = some v ∧ _) = _
  simp
theorem pq_1 {a b : RV} {vs : List RV} {r : List (Option Nat)} {Q : List RV → Prop} : selQ (a :: b :: vs) (some 1 :: r) Q = selQ (a :: b :: vs) r fun as => Q (b :: as) := by
  show (∃ v, some b = some v ∧ _) = _
  simp
theorem pq_2 {a b c : RV} {vs : List RV} {r : List (Option Nat)} {Q : List RV → Prop} : selQ (a :: b :: c :: vs) (some 2 :: r) Q = selQ (a :: b :: c :: vs) r fun as => Q (c :: as) := by
  show (∃ v, some c = some v ∧ _) = _
  simp
def kVec (x : RV) (g : List IT → Prop) : Prop := ∃ xs, x = .vec xs ∧ g xs
theorem in_nil {C k f x} {Q : Bool → Hs → Prop} : inW C k f x [] h Q X = Q false h := rfl
theorem in_cons {C k f x y r} {Q : Bool → Hs → Prop} : inW C k f x (y :: r) h Q X = (isK h k x ∧ isK h k y ∧ difO x y ∧ C f [y, x] h (fun v h1 => kIf v fun c => if c = true then Q true h1 else inW C k f x r h1 Q X) X) := rfl
theorem dif_ob {k i j k2 i2 j2} : difO (.ob k i j) (.ob k2 i2 j2) = (i ≠ i2) := rfl
def kIr (y : RV) (k : IT → Prop) : Prop := ∃ p, y = itR p ∧ k p
def kVxo (x y : RV) (g : RV → Prop) : Prop := ∃ xs n k i j, x = .vec xs ∧ y = .pv (.int n) ∧ atI xs n = some (.o k i j) ∧ g (.ob k i j)
def kZv (x y : RV) (g : List IT → List PV → Prop) : Prop := ∃ xs l, x = .vec xs ∧ y = .pv (.lst l) ∧ g xs l
theorem k_fld0 {k a fs g} : kFld (.pv (.obj k (a :: fs))) k 0 h g = g a := by unfold kFld; simp [fldV]
theorem k_fld1 {k a b fs g} : kFld (.pv (.obj k (a :: b :: fs))) k 1 h g = g b := by unfold kFld; simp [fldV]
theorem k_fldC {k i j t fs p} {g : PV → Prop} (e : h[i]? = some (some (.obj k [] :: fs))) (e2 : fs[t]? = some p) (hm : isMk p = false) : kFld (.ob k i j) k t h g = g p := by
  unfold kFld fldV
  simp [e, e2, hm]
theorem k_lfd {k i j g} : kLfd (.ob k i (some j)) k g = g j := by
  unfold kLfd
  apply propext
  constructor
  · rintro ⟨_, _, e, q⟩; cases e; exact q
  · intro q; exact ⟨_, _, rfl, q⟩
theorem k_isK {k l} : isK h k (.pv (.obj k l)) = True := by simp [isK]
theorem k_isc {P : Pg} {k l g} : kIsc P (.pv (.obj k l)) k g = g true := by unfold kIsc; simp [isC, iscS]
theorem k_iscC {P : Pg} {k i j g} : kIsc P (.ob k i j) k g = g true := by unfold kIsc; simp [isC, iscS]
theorem k_irp {p k} : kIr (.pv p) k = k (.p p) := by
  unfold kIr
  apply propext
  constructor
  · rintro ⟨q, e, z⟩
    cases q <;> cases e
    exact z
  · exact fun z => ⟨_, rfl, z⟩
theorem k_iro {k0 i j k} : kIr (.ob k0 i j) k = k (.o k0 i j) := by
  unfold kIr
  apply propext
  constructor
  · rintro ⟨q, e, z⟩
    cases q <;> cases e
    exact z
  · exact fun z => ⟨_, rfl, z⟩
theorem k_zv {xs l g} : kZv (.vec xs) (.pv (.lst l)) g = g xs l := by unfold kZv; simp
theorem cv_nil {st Q} : compV st [] h Q = Q [] h := rfl
theorem cv_cons {st x r Q} : compV st (x :: r) h Q = st (itR x) h fun p h1 => compV st r h1 fun l h2 => Q (p :: l) h2 := rfl
theorem lz_cons {st x r p ps ρ nx} : loopZ st (x :: r) (p :: ps) ρ h nx = st (itR x) p ρ h fun ρ1 h1 => loopZ st r ps ρ1 h1 nx := rfl
theorem lz_nil {st l ρ nx} : loopZ st [] l ρ h nx = nx ρ h := by cases l <;> rfl
theorem k_vec {xs g} : kVec (.vec xs) g = g xs := by unfold kVec; simp
theorem lv_nil {st ρ nx} : loopV st [] ρ h nx = nx ρ h := rfl
theorem lv_cons {st x r ρ nx} : loopV st (x :: r) ρ h nx = st (itR x) ρ h fun ρ1 h1 => loopV st r ρ1 h1 nx := rfl
theorem it_p {p} : itR (.p p) = .pv p := rfl
theorem it_c {i} : itR (.c i) = .ref i := rfl
theorem it_o {k i j} : itR (.o k i j) = .ob k i j := rfl
theorem k_bl {c g} : kBl (.pv (.bl c)) g = g := by unfold kBl; simp
theorem k_str {s g} : kStr (.pv (.str s)) g = g s := by unfold kStr; simp
theorem k_fstT {k t q fs ρ g} : kFst (some (.ob k h.length none) :: ρ) 0 k t (.pv q) (h ++ [some (.obj k [] :: fs)]) g = (isMk q = false ∧ t ≤ fs.length ∧ g (h ++ [some (.obj k [] :: putN fs t q)])) := by
  unfold kFst
  apply propext
  constructor
  · rintro ⟨q', i, j, fs', e1, e2, e3, e4, e5, z⟩
    cases e1; simp at e3
    obtain ⟨rfl, rfl⟩ := e3
    simp at e4
    subst e4
    exact ⟨e2, e5, by simpa using z⟩
  · rintro ⟨e2, e5, z⟩
    exact ⟨q, _, _, fs, rfl, e2, rfl, by simp, e5, by simpa using z⟩
theorem k_fnlT {k t c fs ρ g} : kFnl (some (.ob k h.length none) :: ρ) 0 k t (.ref (h.length + 1)) (h ++ [some (.obj k [] :: fs)] ++ [c]) g = (t = fs.length ∧ g (.ob k h.length (some (h.length + 1))) (h ++ [some (.obj k [] :: (fs ++ [.scr []]))] ++ [c])) := by
  unfold kFnl
  apply propext
  constructor
  · rintro ⟨i, l, fs', e1, e3, e4, e5, e6, z⟩
    cases e1; simp at e3
    subst e3
    simp at e4
    subst e4
    exact ⟨e5, by simpa using z⟩
  · rintro ⟨e5, z⟩
    exact ⟨_, _, fs, rfl, rfl, by simp, e5, by omega, by simpa using z⟩
theorem e_frz {a} : wpE P C (.frz a) ρ h Q X = wpE P C a ρ h (fun x h1 => kFr x h1 fun c h2 => Q (.pv (.lst c)) h2) X := rfl
theorem e_comp {elt tg it ifs} : wpE P C (.comp elt tg it ifs) ρ h Q X = wpI P C it ρ h (fun l gd h1 => l.length ≤ sizeLine ∧
      compT gd (fun x h2 k => kKill ρ tg.slots fun ρ0 => bindT tg x ρ0 fun ρ1 => wpTs P C ifs ρ1 h2 (fun b h3 => if b = true then wpE P C elt ρ1 h3 (fun y h4 => kPv y fun p => k [p] h4) (fun _ _ => False) else k [] h3) (fun _ _ => False)) l h1 fun r h2 => Q (.pv (.lst r)) h2) X := rfl
theorem l_nil {Q : List RV → Hs → Prop} : wpL P C .nil ρ h Q X = Q [] h := rfl
theorem l_cons {e r} {Q : List RV → Hs → Prop} : wpL P C (.cons e r) ρ h Q X = wpE P C e ρ h (fun v h1 => wpL P C r ρ h1 (fun vs h2 => Q (v :: vs) h2) X) X := rfl
theorem i_seq {e} {Q : List PV → (Hs → Prop) → Hs → Prop} : wpI P C (.seq e) ρ h Q X = wpE P C e ρ h (fun x h1 => kSq x h1 Q) X := rfl
theorem i_rng1 {e} {Q : List PV → (Hs → Prop) → Hs → Prop} : wpI P C (.rng1 e) ρ h Q X = wpE P C e ρ h (fun x h1 => kNeg x fun j => -(2 ^ 62) ≤ j ∧ j < 2 ^ 62 ∧ Q (rngL 0 j.toNat) (fun _ => True) h1) X := rfl
theorem i_rng2 {a b} {Q : List PV → (Hs → Prop) → Hs → Prop} : wpI P C (.rng2 a b) ρ h Q X = wpE P C a ρ h (fun x h1 => wpE P C b ρ h1 (fun y h2 => kNeg x fun i => kNeg y fun j => (-(2 ^ 62) ≤ i ∧ i < 2 ^ 62 ∧ -(2 ^ 62) ≤ j ∧ j < 2 ^ 62) ∧ Q (rngL i (j - i).toNat) (fun _ => True) h2) X) X := by
  show wpE P C a ρ h _ X = wpE P C a ρ h _ X
  congr; funext x h1; congr; funext y h2
  apply propext
  constructor
  · rintro ⟨i, j, e1, e2, z, q⟩; exact ⟨i, e1, j, e2, z, q⟩
  · rintro ⟨i, e1, j, e2, z, q⟩; exact ⟨i, j, e1, e2, z, q⟩
theorem i_enm {a} {Q : List PV → (Hs → Prop) → Hs → Prop} : wpI P C (.enm a) ρ h Q X = wpE P C a ρ h (fun x h1 => kEnm x h1 Q) X := rfl
theorem ts_nil {Q : Bool → Hs → Prop} : wpTs P C .nil ρ h Q X = Q true h := rfl
theorem ts_cons {e r} {Q : Bool → Hs → Prop} : wpTs P C (.cons e r) ρ h Q X = wpE P C e ρ h (fun x h1 => kIf x fun c => Q c h1) X := rfl
theorem b_def {e} {Q : Bool → Hs → Prop} : wpB P C e ρ h Q X = wpE P C e ρ h (fun x h1 => kIf x fun c => Q c h1) X := rfl
/-! statements -/
variable {nx : Env → Hs → Prop} {rt : QV}
theorem st_set {i e} : wpS P C (.set i e) ρ h nx rt X = wpE P C e ρ h (fun v h1 => kSet ρ i (some v) fun ρ' => nx ρ' h1) X := rfl
theorem st_par {is es} : wpS P C (.par is es) ρ h nx rt X = wpL P C es ρ h (fun vs h1 => vs.length = is.length ∧ kSetA ρ is vs fun ρ' => nx ρ' h1) X := rfl
theorem st_unp {tg e} : wpS P C (.unp tg e) ρ h nx rt X = wpE P C e ρ h (fun v h1 => kPv v fun p => bindT tg p ρ fun ρ' => nx ρ' h1) X := rfl
theorem st_sub {o i v} : wpS P C (.sub o i v) ρ h nx rt X = wpE P C v ρ h (fun y h1 => wpE P C o ρ h1 (fun x h2 => wpE P C i ρ h2 (fun z h3 => kSub x z y h3 fun h4 => nx ρ h4) X) X) X := rfl
theorem st_app {o v} : wpS P C (.app o v) ρ h nx rt X = wpE P C o ρ h (fun x h1 => kAp1 x h1 fun k => wpE P C v ρ h1 (fun y h2 => kAp2 k y h2 fun h3 => nx ρ h3) X) X := rfl
def kClr (x : RV) (h1 : Hs) (g : Hs → Prop) : Prop := ∃ k c, x = .ref k ∧ h1[k]? = some (some c) ∧ g (h1.set k (some []))
def kSwp (ρ : Env) (o i j : Nat) (h : Hs) (k : Hs → Prop) : Prop := ∃ r c n m a b x y, ρ[o]? = some (some (.ref r)) ∧ h[r]? = some (some c) ∧ ρ[i]? = some (some (.pv (.int n))) ∧ ρ[j]? = some (some (.pv (.int m))) ∧ L2.ixN c.length n = some a ∧ L2.ixN c.length m = some b ∧ c[a]? = some x ∧ c[b]? = some y ∧ k (h.set r (some ((c.set a y).set b x)))
theorem st_fst {o k t e} : wpS P C (.fst o k t e) ρ h nx rt X = wpE P C e ρ h (fun y h1 => kFst ρ o k t y h1 fun h2 => nx ρ h2) X := rfl
theorem st_fnl {o k t e} : wpS P C (.fnl o k t e) ρ h nx rt X = wpE P C e ρ h (fun y h1 => kFnl ρ o k t y h1 fun v h2 => kSet ρ o (some v) fun ρ' => nx ρ' h2) X := rfl
theorem st_lap {o v} : wpS P C (.lap o v) ρ h nx rt X = wpE P C o ρ h (fun x h1 => kAp1 x h1 fun k => wpE P C v ρ h1 (fun y h2 => kAp2 k y h2 fun h3 => nx ρ h3) X) X := rfl
theorem s_exp {e} : wpS P C (.exp e) ρ h nx rt X = wpE P C e ρ h (fun _ h1 => nx ρ h1) X := rfl
theorem s_iff {t a b} : wpS P C (.iff t a b) ρ h nx rt X = wpE P C t ρ h (fun x h1 => kIf x fun c => if c = true then wpSL P C a ρ h1 nx rt X else wpSL P C b ρ h1 nx rt X) X := rfl
theorem s_for {kl tg it body} : wpS P C (.for kl tg it body) ρ h nx rt X = wpI P C it ρ h (fun l gd h1 => kKill ρ kl fun ρ0 => loopT gd (fun x ρ1 h2 k => bindT tg x ρ1 fun ρ2 => wpSL P C body ρ2 h2 (fun ρ3 h3 => kKill ρ3 kl fun ρ4 => k ρ4 h3) rt X) l ρ0 h1 nx) X := rfl
theorem s_whl {kl t body} : wpS P C (.whl kl t body) ρ h nx rt X = ∃ W : Nat → Env → Hs → Prop, (∃ m, W m (kill ρ kl) h) ∧ ∀ m ρ1 h1, W m ρ1 h1 → wpB P C t ρ1 h1 (fun c h2 => if c = true then
      wpSL P C body ρ1 h2 (fun ρ3 h3 => ∃ m', m' < m ∧ W m' (kill ρ3 kl) h3) rt X else nx ρ1 h2) X := rfl
theorem s_ret {e} : wpS P C (.ret e) ρ h nx rt X = wpE P C e ρ h rt X := rfl
theorem s_retN : wpS P C .retN ρ h nx rt X = rt (.pv .non) h := rfl
theorem s_rsx {c} : wpS P C (.rsx c) ρ h nx rt X = X ⟨c, []⟩ h := rfl
theorem s_rsf {c es} : wpS P C (.rsf c es) ρ h nx rt X = wpL P C es ρ h (fun vs h1 => ∃ ns : List Int, vs = ns.map (fun i => RV.pv (.int i)) ∧ ns.length = (fldN c).length ∧ X ⟨c, (fldN c).zip (ns.map PV.int)⟩ h1) X := rfl
theorem s_pass : wpS P C .pass ρ h nx rt X = nx ρ h := rfl
theorem sl_nil : wpSL P C .nil ρ h nx rt X = nx ρ h := rfl
def kWl (ρ : Env) (k : Nat) (g : PV → Prop) : Prop := ∃ p, ρ[k]? = some (some (.pv p)) ∧ g p
theorem pl_nil {Q : List PV → Hs → Prop} : wpPL P C .nil ρ h Q = Q [] h := rfl
theorem pl_cons {e r} {Q : List PV → Hs → Prop} : wpPL P C (.cons e r) ρ h Q = wpE P C e ρ h (fun v h1 => kPv v fun p => wpPL P C r ρ h1 fun ps h2 => Q (p :: ps) h2) (fun _ _ => False) := rfl
theorem sl_cons {s r} : wpSL P C (.cons s r) ρ h nx rt X = wpS P C s ρ h (fun ρ1 h1 => wpSL P C r ρ1 h1 nx rt X) rt X := rfl
end
/-! continuations -/
section
variable {h : Hs}
theorem k_if {c : Bool} {k : Bool → Prop} : kIf (.pv (.bl c)) k = k c := by unfold kIf; simp
theorem k_neg {i : Int} {k : Int → Prop} : kNeg (.pv (.int i)) k = k i := by unfold kNeg; simp
theorem k_bin {op p q k} : kBin op (.pv p) (.pv q) h k = wpBin op p q k := by unfold kBin; simp [val]
theorem k_cmp {op p q k} : kCmp op (.pv p) (.pv q) h k = wpCmp op p q k := by unfold kCmp; simp [val]
theorem k_bi0 {b k} : kBi b [] h k = wpBi b [] k := by unfold kBi; simp [val]
theorem k_bi1 {b p k} : kBi b [.pv p] h k = wpBi b [p] k := by unfold kBi; simp [val]
theorem k_bi2 {b p q k} : kBi b [.pv p, .pv q] h k = wpBi b [p, q] k := by unfold kBi; simp [val]
theorem k_bir {b i c k} (e : h[i]? = some (some c)) : kBi b [.ref i] h k = wpBi b [.lst c] k := by unfold kBi; simp [val, e]
theorem k_is {p t k} : kIs (.pv p) t h k = ∃ b, isB p t = some b ∧ k b := by unfold kIs; simp [val]
theorem is_tup {l} {k : Bool → Prop} : kIs (.pv (.tup l)) .tuple h k = k true := by rw [k_is]; simp [isB, tyOf]
theorem is_int {i} {k : Bool → Prop} : kIs (.pv (.int i)) .int h k = k true := by rw [k_is]; simp [isB, tyOf]
theorem is_intb {i} {k : Bool → Prop} : kIs (.pv (.int i)) .bool h k = k false := by rw [k_is]; simp [isB, tyOf]
theorem k_ixt {l i k} : kIx (.pv (.tup l)) (.pv (.int i)) h k = ∃ v, atI l i = some v ∧ k v := by unfold kIx; simp [val, wpIx]
theorem k_ixl {l i k} : kIx (.pv (.lst l)) (.pv (.int i)) h k = ∃ v, atI l i = some v ∧ k v := by unfold kIx; simp [val, wpIx]
theorem k_ixs {l i k} : kIx (.pv (.scr l)) (.pv (.int i)) h k = ∃ v, atI l i = some v ∧ k v := by unfold kIx; simp [val, wpIx]
theorem k_ixr {j c i k} (e : h[j]? = some (some c)) : kIx (.ref j) (.pv (.int i)) h k = ∃ v, atI c i = some v ∧ k v := by unfold kIx; simp [val, wpIx, e]
theorem k_ixt0 {a l k} : kIx (.pv (.tup (a :: l))) (.pv (.int 0)) h k = k a := by rw [k_ixt]; simp [atI, L2.atI, L2.ixN]
theorem k_ixt1 {a b l k} : kIx (.pv (.tup (a :: b :: l))) (.pv (.int 1)) h k = k b := by
  rw [k_ixt]
  have : atI (a :: b :: l) 1 = some b := by
    unfold atI L2.atI L2.ixN
    rw [if_pos (by omega), if_pos (by simp; omega)]
    rfl
  rw [this]; simp
theorem k_ixt2 {a b c l k} : kIx (.pv (.tup (a :: b :: c :: l))) (.pv (.int 2)) h k = k c := by
  rw [k_ixt]
  have : atI (a :: b :: c :: l) 2 = some c := by
    unfold atI L2.atI L2.ixN
    rw [if_pos (by omega), if_pos (by simp; omega)]
    rfl
  rw [this]; simp
theorem k_s1t {l i k} : kS1 (.pv (.tup l)) (.pv (.int i)) h k = k (.tup (cut l (some i) none)) := by unfold kS1; simp [val, wpSl]
theorem k_s1l {l i k} : kS1 (.pv (.lst l)) (.pv (.int i)) h k = k (.lst (cut l (some i) none)) := by unfold kS1; simp [val, wpSl]
theorem k_s1s {l i k} : kS1 (.pv (.scr l)) (.pv (.int i)) h k = k (.lst (cut l (some i) none)) := by unfold kS1; simp [val, wpSl]
theorem k_s2t {l i k} : kS2 (.pv (.tup l)) (.pv (.int i)) h k = k (.tup (cut l none (some i))) := by unfold kS2; simp [val, wpSl]
theorem k_s2l {l i k} : kS2 (.pv (.lst l)) (.pv (.int i)) h k = k (.lst (cut l none (some i))) := by unfold kS2; simp [val, wpSl]
theorem k_s3t {l i j k} : kS3 (.pv (.tup l)) i (.pv (.int j)) h k = k (.tup (cut l (some i) (some j))) := by unfold kS3; simp [val, wpSl]
theorem k_s3l {l i j k} : kS3 (.pv (.lst l)) i (.pv (.int j)) h k = k (.lst (cut l (some i) (some j))) := by unfold kS3; simp [val, wpSl]
theorem k_s3s {l i j k} : kS3 (.pv (.scr l)) i (.pv (.int j)) h k = k (.lst (cut l (some i) (some j))) := by unfold kS3; simp [val, wpSl]
theorem k_ps0 {k} : kPs [] k = k [] := by unfold kPs; simp
theorem k_psS {p vs k} : kPs (.pv p :: vs) k = kPs vs fun ps => k (p :: ps) := by
  unfold kPs
  apply propext
  constructor
  · rintro ⟨ps, e, z⟩
    cases ps with
    | nil => cases e
    | cons q qs => simp at e; obtain ⟨rfl, rfl⟩ := e; exact ⟨_, rfl, z⟩
  · rintro ⟨ps, rfl, z⟩
    exact ⟨p :: ps, rfl, z⟩
theorem k_rf {p k} : kRf (.ref p) k = k p := by unfold kRf; simp
theorem k_ex2 {i c l k} (e : h[i]? = some (some c)) : kEx2 i (.pv (.lst l)) h k = (c.length + l.length ≤ sizeLine ∧ k (h.set i (some (c ++ l)))) := by unfold kEx2; simp [e]
theorem k_ex2T {c l k} : kEx2 h.length (.pv (.lst l)) (h ++ [some c]) k = (c.length + l.length ≤ sizeLine ∧ k (h ++ [some (c ++ l)])) := by rw [k_ex2 (c := c) (by simp)]; simp
theorem k_pv {p k} : kPv (.pv p) k = k p := by unfold kPv; simp
theorem k_fr {i c k} (e : h[i]? = some (some c)) : kFr (.ref i) h k = k c (h.set i none) := by unfold kFr; simp [e]
theorem k_madp {l2 l Q} : kMad (.pv (.lst l2)) (.pv (.lst l)) h Q = (l2.length + l.length ≤ sizeLine ∧ Q (.ref h.length) (h ++ [some (l2 ++ l)])) := by unfold kMad; simp [val]
theorem k_rvl {l k} : kRv (.pv (.lst l)) h k = k (.lst l.reverse) := by unfold kRv; simp [val, wpRv]
theorem k_rvt {l k} : kRv (.pv (.tup l)) h k = k (.tup l.reverse) := by unfold kRv; simp [val, wpRv]
theorem k_mlil {l Q} : kMli (.pv (.lst l)) h Q = Q (.ref h.length) (h ++ [some l]) := by unfold kMli; simp [val, itemsOf]
theorem k_mlit {l Q} : kMli (.pv (.tup l)) h Q = Q (.ref h.length) (h ++ [some l]) := by unfold kMli; simp [val, itemsOf]
theorem k_mrpp {l n Q} : kMrp (.pv (.lst l)) (.pv (.int n)) h Q = (-(2 ^ 63) ≤ n ∧ n < 2 ^ 63 ∧ l.length * n.toNat ≤ sizeLine ∧ Q (.ref h.length) (h ++ [some (List.replicate n.toNat l).flatten])) := by unfold kMrp; simp [val]
theorem k_frT {c k} : kFr (.ref h.length) (h ++ [some c]) k = k c (h ++ [none]) := by rw [k_fr (c := c) (by simp)]; simp
theorem k_sql {l Q} : kSq (.pv (.lst l)) h Q = Q l (fun _ => True) h := rfl
theorem k_sqt {l Q} : kSq (.pv (.tup l)) h Q = Q l (fun _ => True) h := rfl
theorem k_sqs {l Q} : kSq (.pv (.scr l)) h Q = Q l (fun _ => True) h := rfl
theorem k_enml {l Q} : kEnm (.pv (.lst l)) h Q = Q (enmL l) (fun _ => True) h := rfl
theorem k_enmt {l Q} : kEnm (.pv (.tup l)) h Q = Q (enmL l) (fun _ => True) h := rfl
theorem k_zipl {l r k} : kZip (.pv (.lst l)) (.pv (.lst r)) k = k (zipL l r) := rfl
theorem k_zipt {l r k} : kZip (.pv (.tup l)) (.pv (.tup r)) k = k (zipL l r) := rfl
theorem k_ap1 {i c k} (e : h[i]? = some (some c)) : kAp1 (.ref i) h k = k i := by unfold kAp1; simp [e]
theorem k_ap1T {c k} : kAp1 (.ref h.length) (h ++ [some c]) k = k h.length := k_ap1 (c := c) (by simp)
theorem k_ap2 {i c p k} (e : h[i]? = some (some c)) : kAp2 i (.pv p) h k = (c.length < sizeLine ∧ k (h.set i (some (c ++ [p])))) := by unfold kAp2; simp [e]
theorem k_ap2T {c p k} : kAp2 h.length (.pv p) (h ++ [some c]) k = (c.length < sizeLine ∧ k (h ++ [some (c ++ [p])])) := by rw [k_ap2 (c := c) (by simp)]; simp
theorem k_sub {i c n p j k} (e : h[i]? = some (some c)) (e2 : L2.ixN c.length n = some j) : kSub (.ref i) (.pv (.int n)) (.pv p) h k = k (h.set i (some (c.set j p))) := by
  unfold kSub
  apply propext
  constructor
  · rintro ⟨i', c', n', j', q, e3, e4, e5, e6, e7, z⟩
    cases e3; cases e5; cases e7
    rw [e] at e4; cases e4
    rw [e2] at e6; cases e6
    exact z
  · intro z
    exact ⟨i, c, n, j, p, rfl, e, rfl, e2, rfl, z⟩
theorem take_selfS {h : Hs} {i c} : (h.set i c).take h.length = h.set i c := List.take_of_length_le (by simp)
theorem take_topS {h : Hs} {i c d} : (h.set i c ++ [d]).take h.length = h.set i c := List.take_left' (by simp)
theorem fin_pv {n Q p} : fin n Q (.pv p) h = Q (.pv p) (h.take n) := rfl
theorem take_self {h : Hs} : h.take h.length = h := List.take_length
theorem take_top {h : Hs} {c : Option (List PV)} : (h ++ [c]).take h.length = h := List.take_left
end
/-! operations -/
section
variable {k : PV → Prop} {kb : Bool → Prop}
theorem o_addi {i j} : wpBin .Add (.int i) (.int j) k = k (.int (i + j)) := rfl
theorem o_addl {i j} : wpBin .Add (.lst i) (.lst j) k = (i.length + j.length ≤ sizeLine ∧ k (.lst (i ++ j))) := rfl
theorem o_addt {i j} : wpBin .Add (.tup i) (.tup j) k = (i.length + j.length ≤ sizeLine ∧ k (.tup (i ++ j))) := rfl
theorem o_adds {i j} : wpBin .Add (.str i) (.str j) k = (i.length + j.length ≤ sizeLine ∧ k (.str (i ++ j))) := rfl
theorem o_subi {i j} : wpBin .Sub (.int i) (.int j) k = k (.int (i - j)) := rfl
theorem o_muli {i j} : wpBin .Mult (.int i) (.int j) k = (L2.CMulW i j ∧ k (.int (i * j))) := rfl
theorem o_mull {l j} : wpBin .Mult (.lst l) (.int j) k = ((-(2 ^ 63) ≤ j ∧ j < 2 ^ 63 ∧ l.length * j.toNat ≤ sizeLine) ∧ k (.lst (List.replicate j.toNat l).flatten)) := rfl
theorem o_mult {l j} : wpBin .Mult (.tup l) (.int j) k = ((True ∧ 2 ≤ j ∧ j ≤ 1000 ∧ l.length ≤ 1000) ∧ k (.tup (List.replicate j.toNat l).flatten)) := rfl
theorem o_divi {i j} : wpBin .FloorDiv (.int i) (.int j) k = (L2.CDivW i j ∧ k (.int (i / j))) := rfl
theorem o_modi {i j} : wpBin .Mod (.int i) (.int j) k = (0 < j ∧ k (.int (i % j))) := rfl
theorem o_powi {i j} : wpBin .Pow (.int i) (.int j) k = (L2.CPow i j ∧ k (.int (i ^ j.toNat))) := rfl
theorem o_shl {i j} : wpBin .LShift (.int i) (.int j) k = (L2.CPow i j ∧ k (.int (i * 2 ^ j.toNat))) := rfl
theorem o_shr {i j} : wpBin .RShift (.int i) (.int j) k = (0 ≤ j ∧ k (.int (i / 2 ^ j.toNat))) := rfl
theorem o_and {i j} : wpBin .BitAnd (.int i) (.int j) k = k (.int (Builtin.bitAnd i j)) := rfl
theorem c_isb {i j} : wpCmp .Is (.bl i) (.bl j) kb = kb (i == j) := rfl
theorem c_isnb {i j} : wpCmp .IsNot (.bl i) (.bl j) kb = kb (!(i == j)) := rfl
theorem c_eqi {i j} : wpCmp .Eq (.int i) (.int j) kb = kb (decide (i = j)) := by
  show (True ∧ True ∧ kb (i == j)) = _
  rw [show (i == j) = decide (i = j) from rfl]
  simp
theorem c_nei {i j} : wpCmp .NotEq (.int i) (.int j) kb = kb (decide (i ≠ j)) := by
  show (True ∧ True ∧ kb (!(i == j))) = _
  rw [show (i == j) = decide (i = j) from rfl]
  simp
theorem c_lti {i j} : wpCmp .Lt (.int i) (.int j) kb = kb (decide (i < j)) := rfl
theorem c_lei {i j} : wpCmp .LtE (.int i) (.int j) kb = kb (decide (i ≤ j)) := rfl
theorem c_gti {i j} : wpCmp .Gt (.int i) (.int j) kb = kb (decide (j < i)) := rfl
theorem c_gei {i j} : wpCmp .GtE (.int i) (.int j) kb = kb (decide (j ≤ i)) := rfl
theorem c_isn {a} : wpCmp .Is a .non kb = kb (isNon a) := by cases a <;> rfl
theorem c_isnn {a} : wpCmp .IsNot a .non kb = kb (!isNon a) := by cases a <;> rfl
theorem isn_non : isNon .non = true := rfl
theorem isn_tup {l} : isNon (.tup l) = false := rfl
theorem isn_int {l} : isNon (.int l) = false := rfl
theorem isn_lst {l} : isNon (.lst l) = false := rfl
theorem isn_str {l} : isNon (.str l) = false := rfl
theorem f_lent {l} : wpBi .len [.tup l] k = k (.int l.length) := rfl
theorem f_lenl {l} : wpBi .len [.lst l] k = k (.int l.length) := rfl
theorem f_lens {l} : wpBi .len [.scr l] k = k (.int l.length) := rfl
theorem f_abs {i} : wpBi .abs [.int i] k = k (.int (if i < 0 then -i else i)) := rfl
theorem f_max {i j} : wpBi .max [.int i, .int j] k = k (.int (if j > i then j else i)) := rfl
theorem f_int {i} : wpBi .int [.int i] k = k (.int i) := rfl
theorem f_intb {b} : wpBi .int [.bl b] k = k (.int (if b then 1 else 0)) := rfl
theorem f_tupl {l} : wpBi .tuple [.lst l] k = k (.tup l) := rfl
theorem f_tupt {l} : wpBi .tuple [.tup l] k = k (.tup l) := rfl
theorem f_lstl {l} : wpBi .list [.lst l] k = k (.lst l) := rfl
theorem f_lstt {l} : wpBi .list [.tup l] k = k (.lst l) := rfl
theorem f_all {α} {f : α → Bool} {l : List α} : wpBi .all [.lst (l.map fun x => .bl (f x))] k = k (.bl (l.all f)) := by
  have : ∀ l : List α, bools (l.map fun x => PV.bl (f x)) = some (l.map f) := fun l => by
    induction l with
    | nil => rfl
    | cons a l ih => simp [bools, ih]
  show (∃ bs, bools _ = some bs ∧ k (.bl (bs.all id))) = _
  rw [this]
  simp [List.all_map]
theorem f_any {α} {f : α → Bool} {l : List α} : wpBi .any [.lst (l.map fun x => .bl (f x))] k = k (.bl (l.any f)) := by
  have : ∀ l : List α, bools (l.map fun x => PV.bl (f x)) = some (l.map f) := fun l => by
    induction l with
    | nil => rfl
    | cons a l ih => simp [bools, ih]
  show (∃ bs, bools _ = some bs ∧ k (.bl (bs.any id))) = _
  rw [this]
  simp [List.any_map]
end
/-! targets -/
section
variable {x : PV} {ρ : Env} {k : Env → Prop}
theorem t_nm {i} : bindT (.nm i) x ρ k = kSet ρ i (some (.pv x)) k := rfl
theorem t_tup {a r y ys} : bindT (.cons a r) (.tup (y :: ys)) ρ k = bindT a y ρ fun ρ' => bindL r ys ρ' k := by
  show (∃ y' ys', PV.tup (y :: ys) = .tup (y' :: ys') ∧ _) = _
  apply propext
  constructor
  · rintro ⟨_, _, e, z⟩; cases e; exact z
  · intro z; exact ⟨_, _, rfl, z⟩
theorem t_lnil : bindL .nil [] ρ k = k ρ := by show (([] : List PV) = [] ∧ k ρ) = _; simp
theorem t_lcons {a r y ys} : bindL (.cons a r) (y :: ys) ρ k = bindT a y ρ fun ρ' => bindL r ys ρ' k := by
  show (∃ y' ys', y :: ys = y' :: ys' ∧ _) = _
  apply propext
  constructor
  · rintro ⟨_, _, e, z⟩; cases e; exact z
  · intro z; exact ⟨_, _, rfl, z⟩
end
/-! ### calls -/
theorem wpC_in {P : Pg} {d f : Nat} {df : Df} {vs : List RV} {h : Hs} {Q : QV} {X : QX} (e : P.defs[f]? = some df) (n : vs.length = df.npar)
    (b : wpSL P (wpC P d) df.body (vs.map some ++ List.replicate (df.N.length - vs.length) none) h (fun _ h' => fin h.length Q (.pv .non) h') (fin h.length Q) (fun x h' => X x (h'.take h.length))) (e0 : df.ini = false := by rfl) : wpC P (d + 1) f vs h Q X :=
  ⟨df, e, n, wpSL_mono (wpC_mono P d d (Nat.le_refl _)) df.body (fun ρ' h' q => by rw [if_neg (by rw [e0]; exact Bool.false_ne_true)]; exact q) (fun v h' q => ⟨e0, q⟩) (fun _ _ q => q) b⟩
/-- a def that makes an object -/
theorem wpC_ini {P : Pg} {d f : Nat} {df : Df} {vs : List RV} {h : Hs} {Q : QV} {X : QX} (e : P.defs[f]? = some df) (n : vs.length = df.npar)
    (b : wpSL P (wpC P d) df.body (vs.map some ++ List.replicate (df.N.length - vs.length) none) h (fun ρ' h' => ∃ v, ρ'[0]? = some (some v) ∧ fin h.length Q v h') (fun _ _ => False) (fun x h' => X x (h'.take h.length))) (e0 : df.ini = true := by rfl) : wpC P (d + 1) f vs h Q X :=
  ⟨df, e, n, wpSL_mono (wpC_mono P d d (Nat.le_refl _)) df.body (fun ρ' h' q => by rw [if_pos e0]; exact q) (fun v h' q => q.elim) (fun _ _ q => q) b⟩
/-- a call that gives r and leaves the cells -/
def Ret (P : Pg) (k f : Nat) (args : List PV) (r : PV) : Prop := ∀ d, k ≤ d → ∀ (h : Hs) (Q : QV) (X : QX), Q (.pv r) h → wpC P d f (args.map .pv) h Q X
theorem Ret.in {P : Pg} {k f : Nat} {df : Df} {args : List PV} {r : PV} (e : P.defs[f]? = some df) (n : args.length = df.npar) (e0 : df.ini = false)
    (b : ∀ d, k ≤ d → ∀ (h : Hs) (Q : QV) (X : QX), Q (.pv r) h → wpSL P (wpC P d) df.body ((args.map .pv).map some ++ List.replicate (df.N.length - (args.map RV.pv).length) none) h (fun _ h' => fin h.length Q (.pv .non) h') (fin h.length Q) (fun x h' => X x (h'.take h.length))) : Ret P (k + 1) f args r := fun d hd h Q X z => by
  obtain ⟨d, rfl⟩ : ∃ d', d = d' + 1 := ⟨d - 1, by omega⟩
  exact wpC_in e (by simpa using n) (b d (by omega) h Q X z) e0
theorem Ret.up {P : Pg} {k k' f : Nat} {args : List PV} {r : PV} (q : Ret P k f args r) (l : k ≤ k') : Ret P k' f args r := fun d hd => q d (Nat.le_trans l hd)
/-! ### loops -/
theorem compT_map {α : Type} {gd : Hs → Prop} {step : PV → Hs → (List PV → Hs → Prop) → Prop} {h : Hs} (enc : α → PV) (f : α → List PV) (g : gd h) :
    ∀ (l : List α) {Q : List PV → Hs → Prop}, (∀ a ∈ l, ∀ k : List PV → Hs → Prop, k (f a) h → step (enc a) h k) → Q (l.flatMap f) h → compT gd step (l.map enc) h Q
  | [], _, _, q => ⟨g, q⟩
  | x :: r, Q, hs, q => ⟨g, hs x (.head _) _ (compT_map enc f g r (fun a ha => hs a (.tail _ ha)) (by simpa using q))⟩
theorem compT_map1 {α : Type} {gd : Hs → Prop} {step : PV → Hs → (List PV → Hs → Prop) → Prop} {h : Hs} (enc : α → PV) (f : α → PV) (g : gd h)
    (l : List α) {Q : List PV → Hs → Prop} (hs : ∀ a ∈ l, ∀ k : List PV → Hs → Prop, k [f a] h → step (enc a) h k) (q : Q (l.map f) h) : compT gd step (l.map enc) h Q :=
  compT_map enc (fun a => [f a]) g l hs (by rw [← List.map_eq_flatMap]; exact q)
end G43
set_option Elab.async false
set_option linter.all false
set_option maxRecDepth 100000
set_option maxHeartbeats 4000000
namespace G43
open PySem
/-! ### parts -/
/-- a part: top and bottom -/
def pt (q : Rat) : PV := .tup [.int q.num, .int q.den]
theorem Sz.up {a b : Nat} {q : Rat} (s : Sz a q) (l : a ≤ b) : Sz b q := ⟨Nat.lt_of_lt_of_le s.1 (Nat.pow_le_pow_right (by decide) l), Nat.lt_of_lt_of_le s.2 (Nat.pow_le_pow_right (by decide) l)⟩
theorem Sz.mul {a b : Nat} {p q : Rat} (s : Sz a p) (t : Sz b q) (h : 1 ≤ a + b) : Sz (a + b) (p * q) := by
  rw [Rat.mul_def']
  refine sz_mk ?_ ?_ h
  · rw [Int.natAbs_mul, Nat.pow_add]
    exact Nat.mul_lt_mul'' s.1 t.1
  · rw [Nat.pow_add]
    exact Nat.mul_lt_mul'' s.2 t.2
theorem Sz.pos {a : Nat} {p : Rat} (s : Sz a p) : 1 ≤ a := by
  rcases Nat.eq_zero_or_pos a with rfl | h
  · have := s.2
    have := p.den_pos
    simp at *
    omega
  · exact h
theorem sz_divInt {b : Nat} {n d : Int} (hn : n.natAbs < 2 ^ b) (hd : d.natAbs < 2 ^ b) (h1 : 1 ≤ b) : Sz b (Rat.divInt n d) := by
  have h2 : 1 < 2 ^ b := Nat.one_lt_pow (by omega) (by decide)
  refine ⟨?_, ?_⟩
  · rw [Rat.num_divInt]
    refine Nat.lt_of_le_of_lt (natAbs_div_le _ _) ?_
    rw [Int.natAbs_mul]
    have : d.sign.natAbs ≤ 1 := by
      rw [Int.natAbs_sign]
      split <;> omega
    have := Nat.mul_le_mul_right n.natAbs this
    omega
  · rw [Rat.den_divInt]
    split
    · exact h2
    · exact Nat.lt_of_le_of_lt (Nat.div_le_self _ _) hd
theorem log2_le {n b : Nat} (h : n < 2 ^ b) : n.log2 ≤ b := by
  by_cases z : n = 0
  · subst z; simp
  · exact Nat.le_of_lt ((Nat.log2_lt z).mpr h)
theorem mulW {a b : Nat} {i j : Int} (h1 : i.natAbs < 2 ^ a) (h2 : j.natAbs < 2 ^ b) (h : a + b < 1000000) : L2.CMulW i j := by
  have := log2_le h1
  have := log2_le h2
  unfold L2.CMulW
  omega
theorem divW {i j : Int} {a : Nat} (h1 : 0 < j) (h2 : j.natAbs < 2 ^ a) (ha : a ≤ 9000) : L2.CDivW i j := by
  refine ⟨h1, ?_⟩
  exact (Nat.log2_lt (by omega)).mpr (Nat.lt_of_lt_of_le h2 (Nat.pow_le_pow_right (by decide) ha))
theorem den_nat (q : Rat) : ((q.den : Int)).natAbs = q.den := Int.natAbs_natCast _
theorem Sz.nn {a b : Nat} {p q : Rat} (s : Sz a p) (t : Sz b q) (h : a + b < 1000000) : L2.CMulW p.num q.num := mulW s.1 t.1 h
theorem Sz.nd {a b : Nat} {p q : Rat} (s : Sz a p) (t : Sz b q) (h : a + b < 1000000) : L2.CMulW p.num q.den := mulW s.1 (b := b) (by rw [den_nat]; exact t.2) h
theorem Sz.dd {a b : Nat} {p q : Rat} (s : Sz a p) (t : Sz b q) (h : a + b < 1000000) : L2.CMulW p.den q.den := mulW (a := a) (b := b) (by rw [den_nat]; exact s.2) (by rw [den_nat]; exact t.2) h
/-! sums as the program makes them -/
theorem divInt_cast (n : Int) (d : Nat) : Rat.divInt n (d : Int) = mkRat n d := Rat.divInt_ofNat n d
theorem add_made (p q : Rat) : Rat.divInt (p.num * q.den + q.num * p.den) (p.den * q.den) = p + q := by
  rw [← Int.natCast_mul, divInt_cast, Rat.add_def']
theorem sub_made (p q : Rat) : Rat.divInt (p.num * q.den - q.num * p.den) (p.den * q.den) = p - q := by
  rw [← Int.natCast_mul, divInt_cast, Rat.sub_def']
theorem mul_made (p q : Rat) : Rat.divInt (p.num * q.num) (p.den * q.den) = p * q := by
  rw [← Int.natCast_mul, divInt_cast, Rat.mul_def']
theorem lt_made (p q : Rat) : decide (p.num * q.den < q.num * p.den) = decide (p < q) := decide_eq_decide.mpr (Rat.lt_iff p q).symm
theorem den_pos' (q : Rat) : (0 : Int) < q.den := by have := q.den_pos; omega
/-- lowest terms -/
theorem low_pos {n d : Int} (h : 0 < d) : PV.tup [.int (n / (Int.gcd n d : Int)), .int (d / (Int.gcd n d : Int))] = pt (Rat.divInt n d) := by
  unfold pt
  rw [Rat.num_divInt, Rat.den_divInt, if_neg (by omega), Int.gcd_comm d n, Int.sign_eq_one_of_pos h, Int.one_mul]
  congr 4
  rw [Int.natCast_ediv, Int.natAbs_of_nonneg (by omega)]
theorem gcd_pos {n d : Int} (h : 0 < d) : (0 : Int) < (Int.gcd n d : Int) := by
  have : 0 < Int.gcd n d := Int.gcd_pos_of_ne_zero_right _ (by omega)
  omega
theorem gcd_lt {n d : Int} {b : Nat} (h : 0 < d) (hb : d.natAbs < 2 ^ b) : ((Int.gcd n d : Int)).natAbs < 2 ^ b := by
  rw [Int.natAbs_natCast]
  exact Nat.lt_of_le_of_lt (Int.gcd_le_natAbs_right _ (by omega)) hb
theorem gcd_step (a b : Int) (h : 0 ≤ a) (hb : 0 ≤ b) : Int.gcd (b % a) a = Int.gcd a b := by
  unfold Int.gcd
  obtain ⟨b, rfl⟩ := Int.eq_ofNat_of_zero_le hb
  obtain ⟨a, rfl⟩ := Int.eq_ofNat_of_zero_le h
  rw [← Int.natCast_emod]
  simp only [Int.natAbs_natCast]
  rw [Nat.gcd_rec a b]
theorem pt_inj {p q : Rat} : peq (pt p) (pt q) = decide (p = q) := by
  unfold pt
  simp only [peq, peqL, Bool.and_true]
  rw [show (p.num == q.num) = decide (p.num = q.num) from rfl, show ((p.den : Int) == (q.den : Int)) = decide ((p.den : Int) = (q.den : Int)) from rfl, ← Bool.decide_and]
  apply decide_eq_decide.mpr
  constructor
  · rintro ⟨a, b⟩; exact Rat.ext a (by omega)
  · rintro rfl; exact ⟨rfl, rfl⟩
theorem dt_pt {n : Nat} (p : Rat) : Dt (n + 1) (pt p) := by
  intro x hx
  simp at hx
  rcases hx with rfl | rfl <;> cases n <;> trivial
section
variable {h : Hs} {k : PV → Prop} {kb : Bool → Prop}
theorem p_ix0 {q : Rat} : kIx (.pv (pt q)) (.pv (.int 0)) h k = k (.int q.num) := k_ixt0
theorem p_ix1 {q : Rat} : kIx (.pv (pt q)) (.pv (.int 1)) h k = k (.int q.den) := k_ixt1
theorem p_len {q : Rat} : wpBi .len [pt q] k = k (.int 2) := rfl
theorem p_is {q : Rat} : kIs (.pv (pt q)) .tuple h kb = kb true := is_tup
theorem p_isn {q : Rat} : isNon (pt q) = false := rfl
theorem p_eq {p q : Rat} : wpCmp .Eq (pt p) (pt q) kb = kb (decide (p = q)) := by
  show (Dt 60 _ ∧ Dt 60 _ ∧ kb (peq (pt p) (pt q))) = _
  rw [pt_inj]
  simp [dt_pt]
theorem p_ne {p q : Rat} : wpCmp .NotEq (pt p) (pt q) kb = kb (!decide (p = q)) := by
  show (Dt 60 _ ∧ Dt 60 _ ∧ kb (!peq (pt p) (pt q))) = _
  rw [pt_inj]
  simp [dt_pt]
theorem p_01 : PV.tup [.int 0, .int 1] = pt 0 := rfl
end
end G43
set_option Elab.async false
set_option linter.all false
set_option maxRecDepth 100000
set_option maxHeartbeats 4000000
namespace G43
open PySem
/-! ### pens -/
theorem PenH.new {h : Hs} {p : Pen} : PenH h.length (h ++ [some (penL p)]) := ⟨p, by simp⟩
theorem set_app {i : Nat} {h t : Hs} {c} (P : i < h.length) : (h ++ t).set i c = h.set i c ++ t := by
  rw [List.set_append_left _ _ P]
theorem set_appS {i : Nat} {h t : Hs} {b c} (P : i < h.length) : (h.set i b ++ t).set i c = h.set i c ++ t := by
  rw [List.set_append_left _ _ (by simpa using P), List.set_set]
theorem PenH.setapp {i : Nat} {h t : Hs} (P : PenH i h) (p : Pen) : PenH i (h.set i (some (penL p)) ++ t) := (P.set p).app t
/-- a pick of a written list -/
theorem pickL {l : List PV} {v : Int} {h : Hs} {k : PV → Prop} (h0 : 0 ≤ v) (h1 : v < l.length) (z : ∀ x ∈ l, k x) : kIx (.pv (.lst l)) (.pv (.int v)) h k := by
  rw [k_ixl]
  obtain ⟨n, rfl⟩ := Int.eq_ofNat_of_zero_le h0
  have h2 : n < l.length := by omega
  refine ⟨l[n], ?_, z _ (List.getElem_mem h2)⟩
  unfold atI L2.atI L2.ixN
  rw [if_pos h0, if_pos (by omega)]
  simp [h2]
/-- folds -/
theorem loopT_fold {α σ : Type} {gd : Hs → Prop} {step : PV → Env → Hs → (Env → Hs → Prop) → Prop} {nx : Env → Hs → Prop} {h : Hs} (enc : α → PV) (st : σ → Env) (f : σ → α → σ) (g : gd h) (l : List α) (s0 : σ)
    (hs : ∀ pre a post, l = pre ++ a :: post → ∀ k : Env → Hs → Prop, k (st (f (pre.foldl f s0) a)) h → step (enc a) (st (pre.foldl f s0)) h k) (e : nx (st (l.foldl f s0)) h) : loopT gd step (l.map enc) (st s0) h nx := by
  have main : ∀ (post pre : List α), l = pre ++ post → loopT gd step (post.map enc) (st (pre.foldl f s0)) h nx := by
    intro post
    induction post with
    | nil =>
      intro pre hp
      rw [List.append_nil] at hp
      subst hp
      exact ⟨g, e⟩
    | cons a post ih =>
      intro pre hp
      refine ⟨g, hs pre a post hp _ ?_⟩
      have := ih (pre ++ [a]) (by rw [hp]; simp)
      rw [List.foldl_append] at this
      exact this
  exact main l [] rfl
/-- a loop where every turn goes on, whatever is drawn -/
theorem loopT_any {gd : Hs → Prop} {step : PV → Env → Hs → (Env → Hs → Prop) → Prop} {nx : Env → Hs → Prop} (I : Nat → Env → Hs → Prop) (g : ∀ n ρ h, I n ρ h → gd h)
    (l : List PV) (hs : ∀ n x ρ h (k : Env → Hs → Prop), l[n]? = some x → I n ρ h → (∀ ρ' h', I (n + 1) ρ' h' → k ρ' h') → step x ρ h k) (e : ∀ ρ h, I l.length ρ h → nx ρ h) {ρ : Env} {h : Hs} (i : I 0 ρ h) : loopT gd step l ρ h nx := by
  have main : ∀ (post : List PV) (n : Nat) ρ h, (∀ j, l[n + j]? = post[j]?) → I n ρ h → n + post.length = l.length → loopT gd step post ρ h nx := by
    intro post
    induction post with
    | nil =>
      intro n ρ h hj i hl
      refine ⟨g _ _ _ i, e _ _ ?_⟩
      rw [← hl]
      exact i
    | cons a post ih =>
      intro n ρ h hj i hl
      refine ⟨g _ _ _ i, hs n a ρ h _ (by have := hj 0; simpa using this) i fun ρ' h' i' => ih (n + 1) ρ' h' (fun j => ?_) i' (by simp at hl; omega)⟩
      have := hj (j + 1)
      simp at this
      rw [← this]
      congr 1
      omega
  exact main l 0 ρ h (fun j => by simp) i (by simp)
theorem compT_any {α : Type} {gd : Hs → Prop} {step : PV → Hs → (List α → Hs → Prop) → Prop} (I : Nat → List α → Hs → Prop) (g : ∀ n r h, I n r h → gd h) (l : List PV)
    (hs : ∀ n x r h (k : List α → Hs → Prop), l[n]? = some x → I n r h → (∀ y h', I (n + 1) (r ++ y) h' → k y h') → step x h k) {Q : List α → Hs → Prop} {h : Hs} (i : I 0 [] h) (e : ∀ r h, I l.length r h → Q r h) : compT gd step l h Q := by
  have main : ∀ (post : List PV) (n : Nat) (r : List α) (h : Hs) (Q' : List α → Hs → Prop), (∀ j, l[n + j]? = post[j]?) → I n r h → n + post.length = l.length → (∀ y h', I l.length (r ++ y) h' → Q' y h') → compT gd step post h Q' := by
    intro post
    induction post with
    | nil =>
      intro n r h Q' hj i hl q
      refine ⟨g _ _ _ i, q _ _ ?_⟩
      rw [← hl, List.append_nil]
      exact i
    | cons a post ih =>
      intro n r h Q' hj i hl q
      refine ⟨g _ _ _ i, hs n a r h _ (by have := hj 0; simpa using this) i fun y h' i' => ih (n + 1) (r ++ y) h' _ (fun j => ?_) i' (by simp at hl; omega) fun y' h'' i'' => q _ _ (by rw [← List.append_assoc]; exact i'')⟩
      have := hj (j + 1)
      simp at this
      rw [← this]
      congr 1
      omega
  exact main l 0 [] h Q (fun j => by simp) i (by simp) (fun y h' z => e _ _ (by simpa using z))
theorem sz0 : Sz 1 (0 : Rat) := ⟨by decide, by decide⟩
end G43
namespace G43
open PySem
section
variable {h : Hs} {i : Nat} {x : Option (List PV)}
theorem k_ap1S {c k} : kAp1 (.ref h.length) (h.set i x ++ [some c]) k = k h.length := k_ap1 (c := c) (by simp)
theorem k_ap2S {c p k} : kAp2 h.length (.pv p) (h.set i x ++ [some c]) k = (c.length < sizeLine ∧ k (h.set i x ++ [some (c ++ [p])])) := by
  rw [k_ap2 (c := c) (by simp), List.set_append_right _ _ (by simp)]
  simp
theorem k_frS {c k} : kFr (.ref h.length) (h.set i x ++ [some c]) k = k c (h.set i x ++ [none]) := by
  rw [k_fr (c := c) (by simp), List.set_append_right _ _ (by simp)]
  simp
theorem k_birT {b c k} : kBi b [.ref h.length] (h ++ [some c]) k = wpBi b [.lst c] k := k_bir (by simp)
theorem k_birS {b c k} : kBi b [.ref h.length] (h.set i x ++ [some c]) k = wpBi b [.lst c] k := k_bir (by simp)
theorem length_setH : (h.set i x).length = h.length := by simp
theorem set_setH {y} : (h.set i x).set i y = h.set i y := List.set_set ..
end
/-- a call that draws: its value is of G, the pen at place i another one -/
def Dr {α : Type} (P : Pg) (k f : Nat) (args : List RV) (i : Nat) (enc : α → PV) (G : α → Prop) : Prop :=
  ∀ d, k ≤ d → ∀ (h : Hs), PenH i h → ∀ (Q : QV) (X : QX), (∀ a p, G a → Q (.pv (enc a)) (h.set i (some (penL p)))) → wpC P d f args h Q X
/-- at least so many bits -/
theorem Sz.le {a b : Nat} {q : Rat} (s : Sz a q) (l : a ≤ b := by omega) : Sz b q := s.up l
theorem natAbs_lt {n : Int} {b : Nat} (h0 : 0 ≤ n) (h : n < 2 ^ b) : n.natAbs < 2 ^ b := by
  have : ((n.natAbs : Nat) : Int) < ((2 ^ b : Nat) : Int) := by rw [Int.natAbs_of_nonneg h0]; simpa using h
  omega
end G43
namespace G43
theorem x_mapnil {α β : Type} {f : α → β} : List.map f [] = [] := List.map_nil
theorem x_mapcons {α β : Type} {f : α → β} {a : α} {l : List α} : List.map f (a :: l) = f a :: List.map f l := List.map_cons
theorem x_appnil {α : Type} {l : List α} : l ++ [] = l := List.append_nil l
theorem x_consapp {α : Type} {a : α} {l m : List α} : (a :: l) ++ m = a :: (l ++ m) := rfl
theorem x_nilapp {α : Type} {l : List α} : [] ++ l = l := rfl
theorem x_lennil {α : Type} : ([] : List α).length = 0 := rfl
theorem x_lencons {α : Type} {a : α} {l : List α} : (a :: l).length = l.length + 1 := rfl
theorem x_decT {p : Prop} [Decidable p] : (decide p = true) = p := decide_eq_true_eq
theorem x_notT {b : Bool} : ((!b) = true) = (b = false) := by simp
theorem x_decF {p : Prop} [Decidable p] : (decide p = false) = ¬ p := by simp
theorem x_nt : (!true) = false := rfl
theorem x_nf : (!false) = true := rfl
theorem x_ft : (false = true) = False := by simp
theorem x_tt : (true = true) = True := by simp
theorem x_ff : (false = false) = True := by simp
theorem x_tf : (true = false) = False := by simp
theorem x_iteT {α : Sort _} {a b : α} : (if True then a else b) = a := by simp
theorem x_iteF {α : Sort _} {a b : α} : (if False then a else b) = b := by simp
theorem x_iteN {α : Sort _} {p : Prop} [Decidable p] {a b : α} : (if ¬ p then a else b) = (if p then b else a) := by by_cases h : p <;> simp [h]
theorem x_ta {p : Prop} : (True ∧ p) = p := by simp
theorem x_at {p : Prop} : (p ∧ True) = p := by simp
end G43
namespace G43
theorem Sz.mulp {a b : Nat} {p q : Rat} (s : Sz a p) (t : Sz b q) : Sz (a + b) (p * q) := s.mul t (by have := s.pos; omega)
end G43
set_option Elab.async false
set_option linter.all false
set_option maxRecDepth 100000
set_option maxHeartbeats 0
namespace Law
open PySem G43
/-! ### the same in the small language -/
abbrev i_is_whole : Nat := 0
abbrev i_is_from_to : Nat := 1
abbrev i_shared : Nat := 2
abbrev i_lowest : Nat := 3
abbrev i_is_part : Nat := 4
abbrev i_plus : Nat := 5
abbrev i_minus : Nat := 6
abbrev i_product : Nat := 7
abbrev i_below : Nat := 8
abbrev i_turned : Nat := 9
abbrev i_is_gain : Nat := 10
abbrev i_is_moment : Nat := 11
abbrev i_need_moment : Nat := 12
abbrev i_jumps_till : Nat := 13
abbrev i_drift_by : Nat := 14
abbrev i_shown_by : Nat := 15
abbrev i_is_clock_number : Nat := 16
abbrev i_need_clock_number : Nat := 17
abbrev i_are_bounds : Nat := 18
abbrev i_steps_of : Nat := 19
abbrev i_shortest : Nat := 20
abbrev i_ring_on : Nat := 21
abbrev i_ring_in : Nat := 22
abbrev i_together : Nat := 23
abbrev i_far_from : Nat := 24
abbrev i_stretch_by : Nat := 25
abbrev i_need_other_clock : Nat := 26
abbrev i_are_gains : Nat := 27
abbrev i_moved : Nat := 28
abbrev i__law_cell_at : Nat := 29
abbrev i__law_next : Nat := 30
abbrev i__law_pen_of : Nat := 31
abbrev i__law_draw : Nat := 32
abbrev i__law_made : Nat := 33
abbrev i__law_sum : Nat := 34
abbrev i__law_gains : Nat := 35
abbrev i__law_moments_right : Nat := 36
abbrev i__law_numbers_right : Nat := 37
abbrev i__law_rest_right : Nat := 38
abbrev i__law_full_right : Nat := 39
abbrev i_law : Nat := 40
abbrev i_Post___init__ : Nat := 41
abbrev i_Post_taken_back : Nat := 42
abbrev i_Post_become : Nat := 43
abbrev i_Post_tells : Nat := 44
abbrev i_Post_sets : Nat := 45
abbrev i_Post_calls_false : Nat := 46
abbrev i_Post_back : Nat := 47
abbrev i_Post_stretch_at : Nat := 48
abbrev i_Post_stretch_then : Nat := 49
abbrev i_Post_standing : Nat := 50
abbrev i_Post_clock_now : Nat := 51
abbrev i_Post_error_by : Nat := 52
abbrev i_Post___len__ : Nat := 53
abbrev c_Post : Nat := 0
theorem e_wd {e} {C : CallT} {ρ : G43.Env} {h : Hs} {Q : QV} {X : QX} : wpE pg C (.word e) ρ h Q X = wpE pg C e ρ h (fun v h1 => kPv v fun p => Q (.pv (.tup [.str "told", p])) h1) (fun x h1 => kWd pg x fun w fs => Q (.pv (.tup (.str w :: fs))) h1) := e_wordT rfl
section
variable {C : CallT} {ρ : G43.Env} {d : Nat} {h : Hs} {Q : QV} {X : QX}
theorem g_NOUGHT : wpE pg C (.glo 0) ρ h Q X = Q (.pv (pt 0)) h := e_glo rfl
theorem g_MOST_GAIN : wpE pg C (.glo 1) ρ h Q X = Q (.pv (pt 12)) h := e_glo rfl
theorem g_LEAST_GAIN : wpE pg C (.glo 2) ρ h Q X = Q (.pv (pt (-12))) h := e_glo rfl
theorem g_HOURS : wpE pg C (.glo 3) ρ h Q X = Q (.pv (pt 24)) h := e_glo rfl
theorem g_MOST_SETS : wpE pg C (.glo 4) ρ h Q X = Q (.pv (.int 6)) h := e_glo rfl
theorem g_CLOCKS : wpE pg C (.glo 5) ρ h Q X = Q (.pv (.int 6)) h := e_glo rfl
theorem g_MOST_STANDING : wpE pg C (.glo 6) ρ h Q X = Q (.pv (.int 10)) h := e_glo rfl
theorem in_is_whole {a0 : RV} (b : wpSL pg (wpC pg d) b_is_whole [some a0] h (fun _ h' => fin h.length Q (.pv .non) h') (fin h.length Q) (fun x h' => X x (h'.take h.length))) : wpC pg (d + 1) i_is_whole [a0] h Q X := wpC_in rfl rfl b
theorem in_is_from_to {a0 a1 a2 : RV} (b : wpSL pg (wpC pg d) b_is_from_to [some a0, some a1, some a2] h (fun _ h' => fin h.length Q (.pv .non) h') (fin h.length Q) (fun x h' => X x (h'.take h.length))) : wpC pg (d + 1) i_is_from_to [a0, a1, a2] h Q X := wpC_in rfl rfl b
theorem in_shared {a0 a1 : RV} (b : wpSL pg (wpC pg d) b_shared [some a0, some a1] h (fun _ h' => fin h.length Q (.pv .non) h') (fin h.length Q) (fun x h' => X x (h'.take h.length))) : wpC pg (d + 1) i_shared [a0, a1] h Q X := wpC_in rfl rfl b
theorem in_lowest {a0 a1 : RV} (b : wpSL pg (wpC pg d) b_lowest [some a0, some a1, none] h (fun _ h' => fin h.length Q (.pv .non) h') (fin h.length Q) (fun x h' => X x (h'.take h.length))) : wpC pg (d + 1) i_lowest [a0, a1] h Q X := wpC_in rfl rfl b
theorem in_is_part {a0 : RV} (b : wpSL pg (wpC pg d) b_is_part [some a0] h (fun _ h' => fin h.length Q (.pv .non) h') (fin h.length Q) (fun x h' => X x (h'.take h.length))) : wpC pg (d + 1) i_is_part [a0] h Q X := wpC_in rfl rfl b
theorem in_plus {a0 a1 : RV} (b : wpSL pg (wpC pg d) b_plus [some a0, some a1] h (fun _ h' => fin h.length Q (.pv .non) h') (fin h.length Q) (fun x h' => X x (h'.take h.length))) : wpC pg (d + 1) i_plus [a0, a1] h Q X := wpC_in rfl rfl b
theorem in_minus {a0 a1 : RV} (b : wpSL pg (wpC pg d) b_minus [some a0, some a1] h (fun _ h' => fin h.length Q (.pv .non) h') (fin h.length Q) (fun x h' => X x (h'.take h.length))) : wpC pg (d + 1) i_minus [a0, a1] h Q X := wpC_in rfl rfl b
theorem in_product {a0 a1 : RV} (b : wpSL pg (wpC pg d) b_product [some a0, some a1] h (fun _ h' => fin h.length Q (.pv .non) h') (fin h.length Q) (fun x h' => X x (h'.take h.length))) : wpC pg (d + 1) i_product [a0, a1] h Q X := wpC_in rfl rfl b
theorem in_below {a0 a1 : RV} (b : wpSL pg (wpC pg d) b_below [some a0, some a1] h (fun _ h' => fin h.length Q (.pv .non) h') (fin h.length Q) (fun x h' => X x (h'.take h.length))) : wpC pg (d + 1) i_below [a0, a1] h Q X := wpC_in rfl rfl b
theorem in_turned {a0 : RV} (b : wpSL pg (wpC pg d) b_turned [some a0] h (fun _ h' => fin h.length Q (.pv .non) h') (fin h.length Q) (fun x h' => X x (h'.take h.length))) : wpC pg (d + 1) i_turned [a0] h Q X := wpC_in rfl rfl b
theorem in_is_gain {a0 : RV} (b : wpSL pg (wpC pg d) b_is_gain [some a0] h (fun _ h' => fin h.length Q (.pv .non) h') (fin h.length Q) (fun x h' => X x (h'.take h.length))) : wpC pg (d + 1) i_is_gain [a0] h Q X := wpC_in rfl rfl b
theorem in_is_moment {a0 : RV} (b : wpSL pg (wpC pg d) b_is_moment [some a0] h (fun _ h' => fin h.length Q (.pv .non) h') (fin h.length Q) (fun x h' => X x (h'.take h.length))) : wpC pg (d + 1) i_is_moment [a0] h Q X := wpC_in rfl rfl b
theorem in_need_moment {a0 : RV} (b : wpSL pg (wpC pg d) b_need_moment [some a0] h (fun _ h' => fin h.length Q (.pv .non) h') (fin h.length Q) (fun x h' => X x (h'.take h.length))) : wpC pg (d + 1) i_need_moment [a0] h Q X := wpC_in rfl rfl b
theorem in_jumps_till {a0 a1 : RV} (b : wpSL pg (wpC pg d) b_jumps_till [some a0, some a1, none, none, none] h (fun _ h' => fin h.length Q (.pv .non) h') (fin h.length Q) (fun x h' => X x (h'.take h.length))) : wpC pg (d + 1) i_jumps_till [a0, a1] h Q X := wpC_in rfl rfl b
theorem in_drift_by {a0 a1 : RV} (b : wpSL pg (wpC pg d) b_drift_by [some a0, some a1] h (fun _ h' => fin h.length Q (.pv .non) h') (fin h.length Q) (fun x h' => X x (h'.take h.length))) : wpC pg (d + 1) i_drift_by [a0, a1] h Q X := wpC_in rfl rfl b
theorem in_is_clock_number {a0 : RV} (b : wpSL pg (wpC pg d) b_is_clock_number [some a0] h (fun _ h' => fin h.length Q (.pv .non) h') (fin h.length Q) (fun x h' => X x (h'.take h.length))) : wpC pg (d + 1) i_is_clock_number [a0] h Q X := wpC_in rfl rfl b
theorem in_need_clock_number {a0 : RV} (b : wpSL pg (wpC pg d) b_need_clock_number [some a0] h (fun _ h' => fin h.length Q (.pv .non) h') (fin h.length Q) (fun x h' => X x (h'.take h.length))) : wpC pg (d + 1) i_need_clock_number [a0] h Q X := wpC_in rfl rfl b
theorem in_are_bounds {a0 a1 : RV} (b : wpSL pg (wpC pg d) b_are_bounds [some a0, some a1] h (fun _ h' => fin h.length Q (.pv .non) h') (fin h.length Q) (fun x h' => X x (h'.take h.length))) : wpC pg (d + 1) i_are_bounds [a0, a1] h Q X := wpC_in rfl rfl b
theorem in_steps_of {a0 : RV} (b : wpSL pg (wpC pg d) b_steps_of [some a0, none, none, none, none, none, none] h (fun _ h' => fin h.length Q (.pv .non) h') (fin h.length Q) (fun x h' => X x (h'.take h.length))) : wpC pg (d + 1) i_steps_of [a0] h Q X := wpC_in rfl rfl b
theorem in_shortest {a0 a1 : RV} (b : wpSL pg (wpC pg d) b_shortest [some a0, some a1, none, none, none, none, none, none, none, none, none] h (fun _ h' => fin h.length Q (.pv .non) h') (fin h.length Q) (fun x h' => X x (h'.take h.length))) : wpC pg (d + 1) i_shortest [a0, a1] h Q X := wpC_in rfl rfl b
theorem in_ring_on {a0 a1 a2 : RV} (b : wpSL pg (wpC pg d) b_ring_on [some a0, some a1, some a2, none, none, none, none, none, none, none, none, none] h (fun _ h' => fin h.length Q (.pv .non) h') (fin h.length Q) (fun x h' => X x (h'.take h.length))) : wpC pg (d + 1) i_ring_on [a0, a1, a2] h Q X := wpC_in rfl rfl b
theorem in_ring_in {a0 : RV} (b : wpSL pg (wpC pg d) b_ring_in [some a0, none, none, none, none] h (fun _ h' => fin h.length Q (.pv .non) h') (fin h.length Q) (fun x h' => X x (h'.take h.length))) : wpC pg (d + 1) i_ring_in [a0] h Q X := wpC_in rfl rfl b
theorem in_together {a0 : RV} (b : wpSL pg (wpC pg d) b_together [some a0] h (fun _ h' => fin h.length Q (.pv .non) h') (fin h.length Q) (fun x h' => X x (h'.take h.length))) : wpC pg (d + 1) i_together [a0] h Q X := wpC_in rfl rfl b
theorem in_far_from {a0 a1 a2 : RV} (b : wpSL pg (wpC pg d) b_far_from [some a0, some a1, some a2, none] h (fun _ h' => fin h.length Q (.pv .non) h') (fin h.length Q) (fun x h' => X x (h'.take h.length))) : wpC pg (d + 1) i_far_from [a0, a1, a2] h Q X := wpC_in rfl rfl b
theorem in_stretch_by {a0 a1 a2 : RV} (b : wpSL pg (wpC pg d) b_stretch_by [some a0, some a1, some a2, none, none] h (fun _ h' => fin h.length Q (.pv .non) h') (fin h.length Q) (fun x h' => X x (h'.take h.length))) : wpC pg (d + 1) i_stretch_by [a0, a1, a2] h Q X := wpC_in rfl rfl b
theorem in_need_other_clock {a0 : RV} (b : wpSL pg (wpC pg d) b_need_other_clock [some a0] h (fun _ h' => fin h.length Q (.pv .non) h') (fin h.length Q) (fun x h' => X x (h'.take h.length))) : wpC pg (d + 1) i_need_other_clock [a0] h Q X := wpC_in rfl rfl b
theorem in_are_gains {a0 : RV} (b : wpSL pg (wpC pg d) b_are_gains [some a0, none] h (fun _ h' => fin h.length Q (.pv .non) h') (fin h.length Q) (fun x h' => X x (h'.take h.length))) : wpC pg (d + 1) i_are_gains [a0] h Q X := wpC_in rfl rfl b
theorem in_moved {a0 a1 : RV} (b : wpSL pg (wpC pg d) b_moved [some a0, some a1] h (fun _ h' => fin h.length Q (.pv .non) h') (fin h.length Q) (fun x h' => X x (h'.take h.length))) : wpC pg (d + 1) i_moved [a0, a1] h Q X := wpC_in rfl rfl b
theorem in__law_cell_at {a0 a1 : RV} (b : wpSL pg (wpC pg d) b__law_cell_at [some a0, some a1] h (fun _ h' => fin h.length Q (.pv .non) h') (fin h.length Q) (fun x h' => X x (h'.take h.length))) : wpC pg (d + 1) i__law_cell_at [a0, a1] h Q X := wpC_in rfl rfl b
theorem in__law_next {a0 : RV} (b : wpSL pg (wpC pg d) b__law_next [some a0] h (fun _ h' => fin h.length Q (.pv .non) h') (fin h.length Q) (fun x h' => X x (h'.take h.length))) : wpC pg (d + 1) i__law_next [a0] h Q X := wpC_in rfl rfl b
theorem in__law_pen_of {a0 : RV} (b : wpSL pg (wpC pg d) b__law_pen_of [some a0, none] h (fun _ h' => fin h.length Q (.pv .non) h') (fin h.length Q) (fun x h' => X x (h'.take h.length))) : wpC pg (d + 1) i__law_pen_of [a0] h Q X := wpC_in rfl rfl b
theorem in__law_draw {a0 a1 : RV} (b : wpSL pg (wpC pg d) b__law_draw [some a0, some a1, none] h (fun _ h' => fin h.length Q (.pv .non) h') (fin h.length Q) (fun x h' => X x (h'.take h.length))) : wpC pg (d + 1) i__law_draw [a0, a1] h Q X := wpC_in rfl rfl b
theorem in__law_made {a0 a1 : RV} (b : wpSL pg (wpC pg d) b__law_made [some a0, some a1, none, none] h (fun _ h' => fin h.length Q (.pv .non) h') (fin h.length Q) (fun x h' => X x (h'.take h.length))) : wpC pg (d + 1) i__law_made [a0, a1] h Q X := wpC_in rfl rfl b
theorem in__law_sum {a0 a1 : RV} (b : wpSL pg (wpC pg d) b__law_sum [some a0, some a1] h (fun _ h' => fin h.length Q (.pv .non) h') (fin h.length Q) (fun x h' => X x (h'.take h.length))) : wpC pg (d + 1) i__law_sum [a0, a1] h Q X := wpC_in rfl rfl b
theorem in__law_gains {a0 : RV} (b : wpSL pg (wpC pg d) b__law_gains [some a0, none, none, none] h (fun _ h' => fin h.length Q (.pv .non) h') (fin h.length Q) (fun x h' => X x (h'.take h.length))) : wpC pg (d + 1) i__law_gains [a0] h Q X := wpC_in rfl rfl b
theorem in__law_moments_right {a0 : RV} (b : wpSL pg (wpC pg d) b__law_moments_right [some a0, none, none] h (fun _ h' => fin h.length Q (.pv .non) h') (fin h.length Q) (fun x h' => X x (h'.take h.length))) : wpC pg (d + 1) i__law_moments_right [a0] h Q X := wpC_in rfl rfl b
theorem in__law_numbers_right {a0 : RV} (b : wpSL pg (wpC pg d) b__law_numbers_right [some a0, none, none] h (fun _ h' => fin h.length Q (.pv .non) h') (fin h.length Q) (fun x h' => X x (h'.take h.length))) : wpC pg (d + 1) i__law_numbers_right [a0] h Q X := wpC_in rfl rfl b
theorem in__law_rest_right {a0 : RV} (b : wpSL pg (wpC pg d) b__law_rest_right [some a0, none, none, none, none] h (fun _ h' => fin h.length Q (.pv .non) h') (fin h.length Q) (fun x h' => X x (h'.take h.length))) : wpC pg (d + 1) i__law_rest_right [a0] h Q X := wpC_in rfl rfl b
theorem in__law_full_right {a0 a1 : RV} (b : wpSL pg (wpC pg d) b__law_full_right [some a0, some a1, none, none, none, none] h (fun _ h' => fin h.length Q (.pv .non) h') (fin h.length Q) (fun x h' => X x (h'.take h.length))) : wpC pg (d + 1) i__law_full_right [a0, a1] h Q X := wpC_in rfl rfl b
theorem in_law {a0 : RV} (b : wpSL pg (wpC pg d) b_law [some a0, none, none, none, none, none, none, none, none] h (fun _ h' => fin h.length Q (.pv .non) h') (fin h.length Q) (fun x h' => X x (h'.take h.length))) : wpC pg (d + 1) i_law [a0] h Q X := wpC_in rfl rfl b
theorem in_Post___init__ {a0 a1 : RV} (b : wpSL pg (wpC pg d) b_Post___init__ [some a0, some a1, none] h (fun ρ' h' => ∃ v, ρ'[0]? = some (some v) ∧ fin h.length Q v h') (fun _ _ => False) (fun x h' => X x (h'.take h.length))) : wpC pg (d + 1) i_Post___init__ [a0, a1] h Q X := wpC_ini rfl rfl b
theorem in_Post_taken_back {a0 a1 a2 : RV} (b : wpSL pg (wpC pg d) b_Post_taken_back [some a0, some a1, some a2, none, none, none, none, none, none, none, none] h (fun _ h' => fin h.length Q (.pv .non) h') (fin h.length Q) (fun x h' => X x (h'.take h.length))) : wpC pg (d + 1) i_Post_taken_back [a0, a1, a2] h Q X := wpC_in rfl rfl b
theorem in_Post_become {a0 a1 a2 a3 : RV} (b : wpSL pg (wpC pg d) b_Post_become [some a0, some a1, some a2, some a3] h (fun _ h' => fin h.length Q (.pv .non) h') (fin h.length Q) (fun x h' => X x (h'.take h.length))) : wpC pg (d + 1) i_Post_become [a0, a1, a2, a3] h Q X := wpC_in rfl rfl b
theorem in_Post_tells {a0 a1 a2 a3 a4 a5 : RV} (b : wpSL pg (wpC pg d) b_Post_tells [some a0, some a1, some a2, some a3, some a4, some a5, none] h (fun _ h' => fin h.length Q (.pv .non) h') (fin h.length Q) (fun x h' => X x (h'.take h.length))) : wpC pg (d + 1) i_Post_tells [a0, a1, a2, a3, a4, a5] h Q X := wpC_in rfl rfl b
theorem in_Post_sets {a0 a1 a2 a3 : RV} (b : wpSL pg (wpC pg d) b_Post_sets [some a0, some a1, some a2, some a3, none, none, none, none, none, none, none] h (fun _ h' => fin h.length Q (.pv .non) h') (fin h.length Q) (fun x h' => X x (h'.take h.length))) : wpC pg (d + 1) i_Post_sets [a0, a1, a2, a3] h Q X := wpC_in rfl rfl b
theorem in_Post_calls_false {a0 a1 : RV} (b : wpSL pg (wpC pg d) b_Post_calls_false [some a0, some a1, none, none] h (fun _ h' => fin h.length Q (.pv .non) h') (fin h.length Q) (fun x h' => X x (h'.take h.length))) : wpC pg (d + 1) i_Post_calls_false [a0, a1] h Q X := wpC_in rfl rfl b
theorem in_Post_back {a0 : RV} (b : wpSL pg (wpC pg d) b_Post_back [some a0] h (fun _ h' => fin h.length Q (.pv .non) h') (fin h.length Q) (fun x h' => X x (h'.take h.length))) : wpC pg (d + 1) i_Post_back [a0] h Q X := wpC_in rfl rfl b
theorem in_Post_stretch_at {a0 a1 a2 : RV} (b : wpSL pg (wpC pg d) b_Post_stretch_at [some a0, some a1, some a2] h (fun _ h' => fin h.length Q (.pv .non) h') (fin h.length Q) (fun x h' => X x (h'.take h.length))) : wpC pg (d + 1) i_Post_stretch_at [a0, a1, a2] h Q X := wpC_in rfl rfl b
theorem in_Post_stretch_then {a0 a1 a2 : RV} (b : wpSL pg (wpC pg d) b_Post_stretch_then [some a0, some a1, some a2, none, none, none] h (fun _ h' => fin h.length Q (.pv .non) h') (fin h.length Q) (fun x h' => X x (h'.take h.length))) : wpC pg (d + 1) i_Post_stretch_then [a0, a1, a2] h Q X := wpC_in rfl rfl b
theorem in_Post_standing {a0 : RV} (b : wpSL pg (wpC pg d) b_Post_standing [some a0, none, none] h (fun _ h' => fin h.length Q (.pv .non) h') (fin h.length Q) (fun x h' => X x (h'.take h.length))) : wpC pg (d + 1) i_Post_standing [a0] h Q X := wpC_in rfl rfl b
theorem in_Post_clock_now {a0 a1 : RV} (b : wpSL pg (wpC pg d) b_Post_clock_now [some a0, some a1] h (fun _ h' => fin h.length Q (.pv .non) h') (fin h.length Q) (fun x h' => X x (h'.take h.length))) : wpC pg (d + 1) i_Post_clock_now [a0, a1] h Q X := wpC_in rfl rfl b
theorem in_Post_error_by {a0 a1 a2 a3 : RV} (b : wpSL pg (wpC pg d) b_Post_error_by [some a0, some a1, some a2, some a3, none, none, none] h (fun _ h' => fin h.length Q (.pv .non) h') (fin h.length Q) (fun x h' => X x (h'.take h.length))) : wpC pg (d + 1) i_Post_error_by [a0, a1, a2, a3] h Q X := wpC_in rfl rfl b
theorem in_Post___len__ {a0 : RV} (b : wpSL pg (wpC pg d) b_Post___len__ [some a0] h (fun _ h' => fin h.length Q (.pv .non) h') (fin h.length Q) (fun x h' => X x (h'.take h.length))) : wpC pg (d + 1) i_Post___len__ [a0] h Q X := wpC_in rfl rfl b
end
end Law
set_option Elab.async false
set_option linter.all false
set_option maxRecDepth 100000
set_option maxHeartbeats 4000000
namespace Law
open PySem PySem.Spec PyProof.Rows G43
open L2 (V HO Hp SqL SqT upd upd_same upd_ne Cx VK TE TA TS PE PA PS PSs XK Sp Room Vals Inv)
def flN : List Str := ["_law_e", "_law_marks", "_law_words", "_law_word_here"]
def wrdN : List Str := ["part", "number", "moment", "clock", "hour", "telling", "tellings", "row", "apart", "twice", "missing", "deed", "air", "signal", "quarrel", "carriage", "line", "many", "text"]
abbrev flS : Scope := L2.defScope (top 72)
def marks (c : Nat) : List Bool := [decide (c = 0), decide (c = 1), decide (c = 2), decide (c = 3), decide (c = 4), decide (c = 5), decide (c = 6), decide (c = 7), decide (c = 8), decide (c = 9), decide (c = 10), decide (c = 11), decide (c = 12), decide (c = 13), decide (c = 14), decide (c = 15), decide (c = 16), decide (c = 17), decide (c = 18)]
theorem marks_one {c : Nat} (h : c < 19) : (marks c).count true = 1 := by
  have : c = 0 ∨ c = 1 ∨ c = 2 ∨ c = 3 ∨ c = 4 ∨ c = 5 ∨ c = 6 ∨ c = 7 ∨ c = 8 ∨ c = 9 ∨ c = 10 ∨ c = 11 ∨ c = 12 ∨ c = 13 ∨ c = 14 ∨ c = 15 ∨ c = 16 ∨ c = 17 ∨ c = 18 := by omega
  rcases this with rfl | rfl | rfl | rfl | rfl | rfl | rfl | rfl | rfl | rfl | rfl | rfl | rfl | rfl | rfl | rfl | rfl | rfl | rfl <;> decide
theorem marks_at {c : Nat} (h : c < 19) : (marks c)[c]? = some true ∧ ∀ k, k < c → (marks c)[k]? = some false := by
  have : c = 0 ∨ c = 1 ∨ c = 2 ∨ c = 3 ∨ c = 4 ∨ c = 5 ∨ c = 6 ∨ c = 7 ∨ c = 8 ∨ c = 9 ∨ c = 10 ∨ c = 11 ∨ c = 12 ∨ c = 13 ∨ c = 14 ∨ c = 15 ∨ c = 16 ∨ c = 17 ∨ c = 18 := by omega
  rcases this with rfl | rfl | rfl | rfl | rfl | rfl | rfl | rfl | rfl | rfl | rfl | rfl | rfl | rfl | rfl | rfl | rfl | rfl | rfl <;> decide
theorem at_nat {l : List V} {n : Nat} {v : V} (h : l[n]? = some v) : L2.atI l (n : Int) = some v := by
  have hl := (List.getElem?_eq_some_iff.mp h).1
  unfold L2.atI L2.ixN
  rw [if_pos (by omega), if_pos (by omega)]
  simpa using h
theorem word_ne {c : Nat} {w : Str} (h : c < 17) (hw : wrdN[c]? = some w) : w ≠ "many" ∧ w ≠ "text" := by
  have : c = 0 ∨ c = 1 ∨ c = 2 ∨ c = 3 ∨ c = 4 ∨ c = 5 ∨ c = 6 ∨ c = 7 ∨ c = 8 ∨ c = 9 ∨ c = 10 ∨ c = 11 ∨ c = 12 ∨ c = 13 ∨ c = 14 ∨ c = 15 ∨ c = 16 := by omega
  rcases this with rfl | rfl | rfl | rfl | rfl | rfl | rfl | rfl | rfl | rfl | rfl | rfl | rfl | rfl | rfl | rfl | rfl <;> (cases hw; decide)
theorem PE_by {X : Cx} {e : Expr} {t : TE} {p : Prop} (h : p → PE X e t) : PE X e (fun σ H Q => p ∧ t σ H Q) := ⟨fun pins s σ H Q I z => (h z.1).run pins s σ H Q I z.2⟩
/-- the fields of an error, as its dict has them -/
def FldD (H : Hp) (c : Nat) (d : Option Addr) (ns : List Int) : Prop := (c < 17 ∧ d = none ∧ ns = []) ∨ (c = 17 ∧ ∃ dd a b, d = some dd ∧ ns = [a, b] ∧ H dd = some (.xd [("most", .int b), ("many", .int a)])) ∨ (c = 18 ∧ ∃ dd a, d = some dd ∧ ns = [a] ∧ H dd = some (.xd [("at", .int a)]))
theorem FldD.dok {H : Hp} {c : Nat} {d : Option Addr} {ns : List Int} (f : FldD H c d ns) : DOk H d := by
  rcases f with ⟨_, rfl, _⟩ | ⟨_, dd, a, b, rfl, _, z⟩ | ⟨_, dd, a, rfl, _, z⟩
  · exact DOk.none
  · intro d2 e
    cases e
    exact ⟨_, z⟩
  · intro d2 e
    cases e
    exact ⟨_, z⟩
theorem flags_body {X : Cx} {a D : Addr} {c : Nat} {CA : Nat → Addr} {d : Option Addr} {ns : List Int} {H : Hp} (F : FlX X a D d) (fd : FldD H c d ns) (hnf : ∀ f ∈ fldN c, PySem.W.findIn X.K (.ref D) f = some none) (hS : X.env.scope = flS) (hN : X.N = flN) (hcl : ∀ j x, clsN[j]? = some x → X.mg x = some (.ref (CA j)) ∧ PySem.W.kitOne X.K (.ref D) (.ref (CA j)) = some (decide (c = j)))
    (hbl : ∀ x : Str, x ∈ ([("ValueError" : Str), "LookupError", "TypeError", "ArithmeticError", "RuntimeError"] : List Str) → X.mg x = none) (hve : PySem.W.kitOne X.K (.ref D) (.type "ValueError") = some true)
    (hot : PySem.W.kitAny X.K (.ref D) [.type "LookupError", .type "TypeError", .type "ArithmeticError", .type "RuntimeError"] = some false) {w : Str} (hc : c < 19) (hw : wrdN[c]? = some w) {Q : VK}
    (hQ : ∀ H', (∀ b o, H b = some o → H' b = some o) → ∀ r, H r = none → H' r = some (.tup (.str w :: ns.map V.int)) → Q (.ref r) H') :
    ∃ t, PSs X (L2.defBody (top 72)) t ∧ t { nx := fun _ H' => Q .non H', rt := Q } (L2.start flN [.ref a]) H := by
  have dk : DOk H d := fd.dok
  have nd : X.N.Nodup := by rw [hN]; decide +kernel
  have n0 : X.N[0]? = some ("_law_e" : Str) := by rw [hN]; rfl
  have n1 : X.N[1]? = some ("_law_marks" : Str) := by rw [hN]; rfl
  have n2 : X.N[2]? = some ("_law_words" : Str) := by rw [hN]; rfl
  have n3 : X.N[3]? = some ("_law_word_here" : Str) := by rw [hN]; rfl
  have v0 : L2.Vis X.env.scope ("_law_e" : Str) := by rw [hS]; exact .inl (by decide +kernel)
  have v1 : L2.Vis X.env.scope ("_law_marks" : Str) := by rw [hS]; exact .inl (by decide +kernel)
  have v2 : L2.Vis X.env.scope ("_law_words" : Str) := by rw [hS]; exact .inl (by decide +kernel)
  have v3 : L2.Vis X.env.scope ("_law_word_here" : Str) := by rw [hS]; exact .inl (by decide +kernel)
  have l1 : L2.Loc X.env.scope ("_law_marks" : Str) := by rw [hS]; exact .inl (by decide +kernel)
  have l2 : L2.Loc X.env.scope ("_law_words" : Str) := by rw [hS]; exact .inl (by decide +kernel)
  have l3 : L2.Loc X.env.scope ("_law_word_here" : Str) := by rw [hS]; exact .inl (by decide +kernel)
  have gi : L2.Gl X "isinstance" := by show X.env.scope.names.lookup _ = _; rw [hS]; decide +kernel
  have is_ : ∀ (j : Nat) (x : Str) {p p1 p2 pos : Pos}, clsN[j]? = some x → X.env.scope.names.lookup x = some .globalImplicit → (x == ("__debug__" : Str)) = false → PE X (.Call (.Name "isinstance" p) [.Name "_law_e" p1, .Name x p2] [] pos) (tIs a d (decide (c = j))) := by
    intro j x p p1 p2 pos hj hg hd
    obtain ⟨h1, h2⟩ := hcl j x hj
    exact fl_is F gi n0 v0 hg h1 h2 hd
  have gl : ∀ x : Str, flS.names.lookup x = some .globalImplicit → X.env.scope.names.lookup x = some .globalImplicit := by rw [hS]; exact fun _ h => h
  obtain ⟨oe, q1, q2, q3⟩ := F.pin
  have ve : ∀ {p p1 p2 pos : Pos}, PE X (.Call (.Name "isinstance" p) [.Name "_law_e" p1, .Name "ValueError" p2] [] pos) (tIs a d true) := fun {p p1 p2 pos} => fl_ve (x := "ValueError") F gi n0 v0 (gl _ (by decide +kernel)) (hbl "ValueError" (by decide)) (by decide +kernel) hve (by decide) (by decide)
  have fa : ∀ (f : Str) {p1 pos : Pos}, PE X (.Attribute (.Name "_law_e" p1) f pos) (fun σ H Q => f ∈ fldN c ∧ tAt a d f σ H Q) := fun f => PE_by fun hf => fl_at F (hnf f hf) n0 v0
  refine ⟨_, (L2.pss_cons (L2.ps_set (i := 1) nd n1 l1 (L2.pe_lst (L2.pa_cons (is_ 0 "NoPart" rfl (gl _ (by decide +kernel)) (by decide)) (L2.pa_cons (is_ 1 "NoNumber" rfl (gl _ (by decide +kernel)) (by decide)) (L2.pa_cons (is_ 2 "NoMoment" rfl (gl _ (by decide +kernel)) (by decide)) (L2.pa_cons (is_ 3 "NoClock" rfl (gl _ (by decide +kernel)) (by decide)) L2.pa_nil))))) rfl (.inr (by rw [hS]; decide +kernel)))
    (L2.pss_cons (L2.ps_set (i := 1) nd n1 l1 (L2.pe_op L2.op_cat (L2.pe_var (i := 1) n1 v1) (L2.pe_lst (L2.pa_cons (is_ 4 "NoHour" rfl (gl _ (by decide +kernel)) (by decide)) (L2.pa_cons (is_ 5 "NoTelling" rfl (gl _ (by decide +kernel)) (by decide)) (L2.pa_cons (is_ 6 "NoTellings" rfl (gl _ (by decide +kernel)) (by decide)) (L2.pa_cons (is_ 7 "NoRow" rfl (gl _ (by decide +kernel)) (by decide)) L2.pa_nil)))))) rfl (.inr (by rw [hS]; decide +kernel)))
    (L2.pss_cons (L2.ps_set (i := 1) nd n1 l1 (L2.pe_op L2.op_cat (L2.pe_var (i := 1) n1 v1) (L2.pe_lst (L2.pa_cons (is_ 8 "Apart" rfl (gl _ (by decide +kernel)) (by decide)) (L2.pa_cons (is_ 9 "Twice" rfl (gl _ (by decide +kernel)) (by decide)) (L2.pa_cons (is_ 10 "Missing" rfl (gl _ (by decide +kernel)) (by decide)) (L2.pa_cons (is_ 11 "NoDeed" rfl (gl _ (by decide +kernel)) (by decide)) L2.pa_nil)))))) rfl (.inr (by rw [hS]; decide +kernel)))
    (L2.pss_cons (L2.ps_set (i := 1) nd n1 l1 (L2.pe_op L2.op_cat (L2.pe_var (i := 1) n1 v1) (L2.pe_lst (L2.pa_cons (is_ 12 "NoAir" rfl (gl _ (by decide +kernel)) (by decide)) (L2.pa_cons (is_ 13 "NoSignal" rfl (gl _ (by decide +kernel)) (by decide)) (L2.pa_cons (is_ 14 "NoQuarrel" rfl (gl _ (by decide +kernel)) (by decide)) (L2.pa_cons (is_ 15 "NoCarriage" rfl (gl _ (by decide +kernel)) (by decide)) L2.pa_nil)))))) rfl (.inr (by rw [hS]; decide +kernel)))
    (L2.pss_cons (L2.ps_set (i := 1) nd n1 l1 (L2.pe_op L2.op_cat (L2.pe_var (i := 1) n1 v1) (L2.pe_lst (L2.pa_cons (is_ 16 "NoLine" rfl (gl _ (by decide +kernel)) (by decide)) (L2.pa_cons (is_ 17 "TooMany" rfl (gl _ (by decide +kernel)) (by decide)) (L2.pa_cons (is_ 18 "NoText" rfl (gl _ (by decide +kernel)) (by decide)) L2.pa_nil))))) rfl (.inr (by rw [hS]; decide +kernel)))
    (L2.pss_cons (L2.ps_if (L2.pw_or (L2.pt_not (L2.pt_val ve (fun _ => rfl))) (L2.pw_or1 (L2.pt_val (L2.pe_callB (call_exT F.ec q1 q2 q3) gi F.bi (by decide +kernel) (L2.pa_cons (L2.pe_var (i := 0) n0 v0) (L2.pa_cons (L2.pe_tup (L2.pa_cons (L2.pe_bltn (v := .ty "LookupError") (gl _ (by decide +kernel)) (hbl "LookupError" (by decide)) (by decide +kernel) rfl) (L2.pa_cons (L2.pe_bltn (v := .ty "TypeError") (gl _ (by decide +kernel)) (hbl "TypeError" (by decide)) (by decide +kernel) rfl) (L2.pa_cons (L2.pe_bltn (v := .ty "ArithmeticError") (gl _ (by decide +kernel)) (hbl "ArithmeticError" (by decide)) (by decide +kernel) rfl) (L2.pa_cons (L2.pe_bltn (v := .ty "RuntimeError") (gl _ (by decide +kernel)) (hbl "RuntimeError" (by decide)) (by decide +kernel) rfl) L2.pa_nil))))) L2.pa_nil))) (fun _ => rfl)))).pt (L2.pss_one L2.ps_never) L2.pss_nil)
    (L2.pss_cons (L2.ps_if (L2.pt_cmpR L2.op_ne (L2.pe_bm PySem.F.plainAttrs_list PySem.F.slot_list_count PySem.F.type_list_count mt_cntB (L2.pe_var (i := 1) n1 v1) (L2.pa_cons L2.pe_bl L2.pa_nil)) L2.pe_int rfl) (L2.pss_one L2.ps_never) L2.pss_nil)
    (L2.pss_cons (L2.ps_set (i := 2) nd n2 l2 (L2.pe_lst (L2.pa_cons (L2.pe_str (x := "part")) (L2.pa_cons (L2.pe_str (x := "number")) (L2.pa_cons (L2.pe_str (x := "moment")) (L2.pa_cons (L2.pe_str (x := "clock")) (L2.pa_cons (L2.pe_str (x := "hour")) (L2.pa_cons (L2.pe_str (x := "telling")) (L2.pa_cons (L2.pe_str (x := "tellings")) (L2.pa_cons (L2.pe_str (x := "row")) (L2.pa_cons (L2.pe_str (x := "apart")) (L2.pa_cons (L2.pe_str (x := "twice")) (L2.pa_cons (L2.pe_str (x := "missing")) L2.pa_nil)))))))))))) rfl (.inr (by rw [hS]; decide +kernel)))
    (L2.pss_cons (L2.ps_set (i := 3) nd n3 l3 (L2.pe_ix L2.ix_list (L2.pe_op L2.op_cat (L2.pe_var (i := 2) n2 v2) (L2.pe_lst (L2.pa_cons (L2.pe_str (x := "deed")) (L2.pa_cons (L2.pe_str (x := "air")) (L2.pa_cons (L2.pe_str (x := "signal")) (L2.pa_cons (L2.pe_str (x := "quarrel")) (L2.pa_cons (L2.pe_str (x := "carriage")) (L2.pa_cons (L2.pe_str (x := "line")) (L2.pa_cons (L2.pe_str (x := "many")) (L2.pa_cons (L2.pe_str (x := "text")) L2.pa_nil)))))))))) (L2.pe_bm PySem.F.plainAttrs_list PySem.F.slot_list_index PySem.F.type_list_index L2.mt_index (L2.pe_var (i := 1) n1 v1) (L2.pa_cons L2.pe_bl L2.pa_nil)) (fun _ _ => rfl)) rfl (.inr (by rw [hS]; decide +kernel)))
    (L2.pss_cons (L2.ps_if (L2.pt_cmpR L2.op_eq (L2.pe_var (i := 3) n3 v3) L2.pe_str rfl) (L2.pss_one (L2.ps_ret (L2.pe_tup (L2.pa_cons (L2.pe_var (i := 3) n3 v3) (L2.pa_cons (fa _) (L2.pa_cons (fa _) L2.pa_nil)))))) L2.pss_nil)
    (L2.pss_one (L2.ps_ret (L2.pe_ifExp (L2.pt_cmpR L2.op_eq (L2.pe_var (i := 3) n3 v3) L2.pe_str rfl) (L2.pe_tup (L2.pa_cons (L2.pe_var (i := 3) n3 v3) (L2.pa_cons (fa _) L2.pa_nil))) (L2.pe_tup (L2.pa_cons (L2.pe_var (i := 3) n3 v3) L2.pa_nil))))))))))))))), ?_⟩
  refine ⟨rfl, dk, rfl, dk, rfl, dk, rfl, dk, sln (by simp), fun p1 hp1 => ?_⟩
  refine ⟨.ref p1, rfl, rfl, (dk.up hp1), rfl, (dk.up hp1), rfl, (dk.up hp1), rfl, (dk.up hp1), sln (by simp), fun r1 hr1 => ⟨p1, r1, _, _, rfl, rfl, at_old upd_same hr1, upd_same, sln (by simp), fun p2 hp2 => ?_⟩⟩
  refine ⟨.ref p2, rfl, rfl, ((((dk.up hp1)).up hr1).up hp2), rfl, ((((dk.up hp1)).up hr1).up hp2), rfl, ((((dk.up hp1)).up hr1).up hp2), rfl, ((((dk.up hp1)).up hr1).up hp2), sln (by simp), fun r2 hr2 => ⟨p2, r2, _, _, rfl, rfl, at_old upd_same hr2, upd_same, sln (by simp), fun p3 hp3 => ?_⟩⟩
  refine ⟨.ref p3, rfl, rfl, (((((((dk.up hp1)).up hr1).up hp2)).up hr2).up hp3), rfl, (((((((dk.up hp1)).up hr1).up hp2)).up hr2).up hp3), rfl, (((((((dk.up hp1)).up hr1).up hp2)).up hr2).up hp3), rfl, (((((((dk.up hp1)).up hr1).up hp2)).up hr2).up hp3), sln (by simp), fun r3 hr3 => ⟨p3, r3, _, _, rfl, rfl, at_old upd_same hr3, upd_same, sln (by simp), fun p4 hp4 => ?_⟩⟩
  refine ⟨.ref p4, rfl, rfl, ((((((((((dk.up hp1)).up hr1).up hp2)).up hr2).up hp3)).up hr3).up hp4), rfl, ((((((((((dk.up hp1)).up hr1).up hp2)).up hr2).up hp3)).up hr3).up hp4), rfl, ((((((((((dk.up hp1)).up hr1).up hp2)).up hr2).up hp3)).up hr3).up hp4), sln (by simp), fun r4 hr4 => ⟨p4, r4, _, _, rfl, rfl, at_old upd_same hr4, upd_same, sln (by simp), fun p5 hp5 => ?_⟩⟩
  refine ⟨rfl, (((((((((((((dk.up hp1)).up hr1).up hp2)).up hr2).up hp3)).up hr3).up hp4)).up hr4).up hp5), true, rfl, ?_⟩
  refine ⟨_, rfl, sln (by simp), fun p6 hp6 => ?_⟩
  refine ⟨p6, _, _, false, (((((((((((((dk.up hp1)).up hr1).up hp2)).up hr2).up hp3)).up hr3).up hp4)).up hr4).up hp5).up hp6, rfl, upd_same, .cons (.ty _) (.cons (.ty _) (.cons (.ty _) (.cons (.ty _) .nil))), hot, false, rfl, ?_⟩
  generalize hH6 : upd _ p6 _ = H6
  have e5 : H6 p5 = some (.lst ((marks c).map V.bl)) := by
    rw [← hH6]
    exact at_old upd_same hp6
  have old6 : ∀ b o, H b = some o → H6 b = some o := by
    intro b o e
    rw [← hH6]
    exact at_old (at_old (at_old (at_old (at_old (at_old (at_old (at_old (at_old (at_old e hp1) hr1) hp2) hr2) hp3) hr3) hp4) hr4) hp5) hp6
  clear hH6 hp6 hp5 hr4 hp4 hr3 hp3 hr2 hp2 hr1 hp1
  have flat : ((marks c).map V.bl).all L2.flatV = true := by
    rw [List.all_map]
    exact List.all_eq_true.mpr fun x hx => rfl
  refine ⟨.ref p5, rfl, Or.inl ⟨rfl, _, SqL.of e5⟩, p5, marks c, rfl, rfl, SqL.of e5, ?_⟩
  rw [marks_one hc]
  refine ⟨rfl, false, rfl, ?_⟩
  refine ⟨sln (by simp), fun p7 hp7 => ?_⟩
  refine ⟨.ref p7, rfl, sln (by simp), fun r7 hr7 => ⟨p7, r7, _, _, rfl, rfl, at_old upd_same hr7, upd_same, sln (by simp), fun p8 hp8 => ?_⟩⟩
  generalize hH8 : upd _ p8 _ = H8
  have e8 : H8 p8 = some (.lst (wrdN.map V.str)) := by
    rw [← hH8]
    exact upd_same
  have e5' : H8 p5 = some (.lst ((marks c).map V.bl)) := by
    rw [← hH8]
    exact at_old (at_old (at_old e5 hp7) hr7) hp8
  have old8 : ∀ b o, H b = some o → H8 b = some o := by
    intro b o e
    rw [← hH8]
    exact at_old (at_old (at_old (old6 b o e) hp7) hr7) hp8
  clear hH8 hp8 hr7 hp7
  obtain ⟨k1, k2⟩ := marks_at hc
  refine ⟨.ref p5, rfl, Or.inl ⟨rfl, _, SqL.of e5'⟩, p5, _, _, c, .bl true, rfl, rfl, SqL.of e5', rfl, flat, by rw [List.getElem?_map, k1]; rfl, rfl, ?_, ?_⟩
  · intro m z' hm hz
    rw [List.getElem?_map, k2 m hm] at hz
    cases hz
    rfl
  refine ⟨p8, _, (c : Int), .str w, rfl, rfl, SqL.of e8, at_nat (by rw [List.getElem?_map, hw]; rfl), ?_⟩
  have fin : ∀ p9, H8 p9 = none → Q (.ref p9) (upd H8 p9 (.tup (.str w :: ns.map V.int))) := fun p9 hp9 => by
    refine hQ _ (fun b o e => at_old (old8 b o e) hp9) p9 ?_ upd_same
    cases e : H p9 with
    | none => rfl
    | some o => rw [old8 p9 o e] at hp9; cases hp9
  rcases fd with ⟨h17, rfl, rfl⟩ | ⟨rfl, dd, x, y, rfl, rfl, ed⟩ | ⟨rfl, dd, x, rfl, rfl, ed⟩
  · obtain ⟨w1, w2⟩ := word_ne h17 hw
    refine ⟨.str w, rfl, rfl, false, by rw [decide_eq_false (by intro z; injection z with z; exact w1 z)], ?_⟩
    refine ⟨.str w, rfl, rfl, false, by rw [decide_eq_false (by intro z; injection z with z; exact w2 z)], ?_⟩
    exact ⟨.str w, rfl, sln (by simp), fun p9 hp9 => fin p9 hp9⟩
  · obtain rfl : "many" = w := Option.some.inj hw
    refine ⟨.str "many", rfl, rfl, true, rfl, ?_⟩
    exact ⟨.str "many", rfl, by decide, rfl, dd, _, .int x, rfl, old8 _ _ ed, rfl, by decide, rfl, dd, _, .int y, rfl, old8 _ _ ed, rfl, sln (by simp), fun p9 hp9 => fin p9 hp9⟩
  · obtain rfl : "text" = w := Option.some.inj hw
    refine ⟨.str "text", rfl, rfl, false, rfl, ?_⟩
    refine ⟨.str "text", rfl, rfl, true, rfl, ?_⟩
    exact ⟨.str "text", rfl, by decide, rfl, dd, _, .int x, rfl, old8 _ _ ed, rfl, sln (by simp), fun p9 hp9 => fin p9 hp9⟩
/-! ### what the head must tell of the errors -/
structure ErrK (K : PySem.W.Frag) (mg : Str → Option Value) (CA : Nat → Addr) : Prop where
  cls : ∀ j x, clsN[j]? = some x → mg x = some (.ref (CA j))
  ec : ∀ c, c < 19 → L2.ExcC K (CA c)
  one : ∀ c j, c < 19 → j < 19 → PySem.W.kitOne K (.ref (CA c)) (.ref (CA j)) = some (decide (c = j))
  ve : ∀ c, c < 19 → PySem.W.kitOne K (.ref (CA c)) (.type "ValueError") = some true
  ot : ∀ c, c < 19 → PySem.W.kitAny K (.ref (CA c)) [.type "LookupError", .type "TypeError", .type "ArithmeticError", .type "RuntimeError"] = some false
  ce : ∃ CE, mg "ClockError" = some (.ref CE) ∧ ∀ c, c < 19 → PySem.W.exmOne K (.ref (CA c)) (.ref CE) = some true
  bl : ∀ x ∈ others, mg x = none
  ii : mg "isinstance" = none
  nf : ∀ c, c < 19 → ∀ f ∈ fldN c, PySem.W.findIn K (.ref (CA c)) f = some none
def spFl (CA : Nat → Addr) : Addr × Obj → Sp := fun p vs H Q _ => ∃ c w d ns, c < 19 ∧ wrdN[c]? = some w ∧ vs = [.ref p.1] ∧ L2.Zc (.ref (CA c)) d p.2 ∧ (∃ us, p.2.data = .fields us) ∧ FldD H c d ns ∧ ∀ H', (∀ b o, H b = some o → H' b = some o) → ∀ r, H r = none → H' r = some (.tup (.str w :: ns.map V.int)) → Q (.ref r) H'
theorem flags_fn {Pr : Program} {w : World} {K : PySem.W.Frag} {mg : Str → Option Value} {base : Heap} {CA : Nat → Addr} {f : Addr} {pg : Arguments} {dV kV doc pm cdv ct oc : Value} {an od : Option Addr} {osl : Array (Option Value)}
    (lk : K.lookup f = some ⟨oc, od, .func (PySem.W.fnOf "_law_flags" "_law_flags" pg (L2.defBody (top 72)) flS dV kV doc pm an cdv ct), osl⟩) (hcd : PySem.W.codeIn K cdv "_law_flags" = true) (E : ErrK K mg CA) :
    FnY Pr w K mg base 1 f (PySem.W.fnOf "_law_flags" "_law_flags" pg (L2.defBody (top 72)) flS dV kV doc pm an cdv ct) ["_law_e"] (spFl CA) := by
  refine fny_of (k := 0) (N := flN) lk hcd ⟨rfl, rfl, rfl, by decide +kernel, rfl, by decide +kernel, by decide +kernel⟩ ?_ ?_
  · rintro p vs H Q E ⟨c, w, d, ns, _, _, rfl, _⟩
    rfl
  · rintro Ar outer s H vs Q E' p hr ⟨c, w, d, ns, hc, hw, rfl, hz, hf, fd, hQ⟩
    exact flags_body (X := L2H.cxH C8.CX0 Pr _ K mg base flN "_law_flags" flS f cdv Ar outer s H E' p) (a := p.1) (D := CA c) (c := c) (CA := CA) ⟨⟨p.2, List.mem_singleton.mpr rfl, hz, hf⟩, E.ec c hc, E.ii⟩ fd (E.nf c hc) rfl rfl
      (fun j x hj => ⟨E.cls j x hj, E.one c j hc (List.getElem?_eq_some_iff.mp hj).1⟩) E.bl (E.ve c hc) (E.ot c hc) hc hw hQ
theorem rpl_ints {A : Ad} {L : Addr → Prop} {H : Hp} (_ : Unit) : ∀ ns : List Int, RpL A L H (ns.map PV.int) (ns.map V.int)
  | [] => .nil
  | n :: ns => .cons (.int n) (rpl_ints () ns)
theorem fldD_of {H : Hp} {x : XV} {d : Option Addr} (hc : x.cls < 19) (ok : okF x = true) (f : FldR H x.flds d) : ∃ ns : List Int, x.flds.map (·.2) = ns.map PV.int ∧ FldD H x.cls d ns := by
  unfold okF at ok
  rw [Bool.and_eq_true, decide_eq_true_eq] at ok
  have names := ok.1
  clear ok
  rcases f with ⟨e, rfl⟩ | ⟨dd, ns, ne, rfl, e, hd⟩
  · rw [e] at names ⊢
    refine ⟨[], rfl, .inl ⟨?_, rfl, rfl⟩⟩
    apply Nat.lt_of_not_le
    intro ge
    have two : x.cls = 17 ∨ x.cls = 18 := by omega
    rcases two with q | q <;> (rw [q] at names; exact absurd names (by decide))
  · rw [e] at names ⊢
    refine ⟨ns.map (·.2), by rw [List.map_map, List.map_map]; rfl, ?_⟩
    rw [List.map_map] at names
    by_cases q : x.cls = 17
    · rw [q] at names ⊢
      match ns, names, hd with
      | [(f1, a), (f2, b)], names, hd =>
        have n1 : [f1, f2] = ([("many" : Str), "most"] : List Str) := names
        cases n1
        exact .inr (.inl ⟨rfl, dd, a, b, rfl, rfl, hd⟩)
    · by_cases q2 : x.cls = 18
      · rw [q2] at names ⊢
        match ns, names, hd with
        | [(f1, a)], names, hd =>
          have n1 : [f1] = ([("at" : Str)] : List Str) := names
          cases n1
          exact .inr (.inr ⟨rfl, dd, a, rfl, rfl, hd⟩)
      · exfalso
        have none_ : fldN x.cls = [] := by unfold fldN; rw [if_neg q, if_neg q2]
        rw [none_] at names
        exact ne (List.map_eq_nil_iff.mp names)
abbrev wdS : Scope := L2.defScope (top 73)
def wdN : List Str := ["_law_call", "_law_e"]
theorem word_gives {K : PySem.W.Frag} {mg : Str → Option Value} {CA : Nat → Addr} {A : Ad} {P : Pg} (hCA : ∀ c, c < 19 → A.CA c = CA c) (hP : ∀ c w, P.exc[c]? = some w → c < 19 ∧ wrdN[c]? = some w.2) (hsd : P.sd = false) (E : ErrK K mg CA) {f : Addr} {fd : FuncData}
    (kf : PySem.W.keepIn K (.ref f) = true) (mf : mg "_law_flags" = some (.ref f)) (bf : L2.Binds K fd ["_law_e"] []) (FY : ∀ Pr w base, FnY Pr w K mg base 1 f fd ["_law_e"] (spFl CA)) {g : Addr} {cdv : Value} :
    ∀ (X : Cx) (q : Str), X.K = K → X.mg = mg → Room 2 X.A → Gives X wdN "_law_word" wdS g cdv (L2.defBody (top 73)) "_law_call" q (TTw A P) := by
  rintro X q rfl rfl hr f' Pz s H Q tl hgd act hco h
  unfold TTw Tld at h
  simp only [hsd] at h
  skip
  obtain ⟨CE, ce1, ce2⟩ := E.ce
  refine ⟨_, L2.pss_one (L2.ps_try_as (X := (gCx X C8.CX0 wdN "_law_word" wdS g cdv s H C8.E0).nox) (i := 1) (c := .ref CE)
    (tb := fun W D σ H => ∃ Ech : XK, (∀ cls d σ' H', Ech cls d H' → W cls d σ' H') ∧ σ[0]? = some (some (.ref f')) ∧ Pz H ∧ tl Ech H fun v H' => ([.str "told", v] : List V).length ≤ sizeLine ∧ ∀ p, H' p = none → D.rt (.ref p) (upd H' p (.tup [.str "told", v])))
    (ts := fun a cls d D σ H => ∃ c w ns σ0, c < 19 ∧ wrdN[c]? = some w ∧ cls = .ref (CA c) ∧ FldD H c d ns ∧ σ = List.set σ0 1 (some (.ref a)) ∧ ∀ H', (∀ b o, H b = some o → H' b = some o) → ∀ r, H r = none → H' r = some (.tup (.str w :: ns.map V.int)) → D.rt (.ref r) H')
    rfl rfl (show wdN.Nodup by decide +kernel) rfl (show wdS.names.lookup _ = _ by decide +kernel) ⟨(show wdS.names.lookup _ = _ by decide +kernel), by decide, .inl ce1⟩ L2.takes0 (fun W pn xe tk _ => ?_) (fun a oe cls d pn hz hf => ?_)), ?_⟩
  · constructor
    rintro pins s' σ H' D I ⟨Ech, hW, h1, h2, h3⟩
    exact (L2.pss_one (L2.ps_ret (L2.pe_tup (L2.pa_cons L2.pe_str (L2.pa_cons (act W pn xe Ech _ _ tk hW) L2.pa_nil))))).run pins s' σ H' D I ⟨h1, h2, h3⟩
  · constructor
    rintro pins s' σ H' D I ⟨c, w, ns, σ0, hc, hw, rfl, fd, rfl, hQ⟩
    have hl := I.len
    have rh : L2H.RoomH 1 ((gCx X C8.CX0 wdN "_law_word" wdS g cdv s H C8.E0).nox.suite a ((a, oe) :: pn)).A := by
      constructor
      · have := hr.dp
        show X.A.depth + 1 + 3 * 1 + 5 < _
        omega
      · have := hr.un
        show X.A.units + 3 + 16 * 1 + 200 < _
        omega
    have yc := fun (q q1 pos : Pos) => y_call (X := (gCx X C8.CX0 wdN "_law_word" wdS g cdv s H C8.E0).nox.suite a ((a, oe) :: pn)) (q := q) (q1 := q1) (pos := pos) (k := 1) (i := 1) (n := "_law_e") (FY _ _ _) rh List.mem_cons_self (show wdS.names.lookup _ = _ by decide +kernel) mf kf bf rfl (.inl (show wdS.names.lookup _ = _ by decide +kernel)) (by decide) (by decide) (by decide)
    refine (L2.pss_one (L2.ps_ret (yc _ _ _))).run pins s' _ H' D I ⟨.ref a, ?_, c, w, d, ns, hc, hw, rfl, hz, hf, fd, hQ⟩
    have l2 : (List.set σ0 1 (some (V.ref a))).length = 2 := hl
    rw [List.length_set] at l2
    exact List.getElem?_set_self (by omega)
  · refine ⟨_, fun cls d σ' H' hE => ?_, rfl, hco, h⟩
    obtain ⟨x, w, B, m, hh, e1, ok, ⟨rfl, fl⟩, S, kp⟩ := hE
    obtain ⟨hc, hw⟩ := hP x.cls w e1
    rw [hCA x.cls hc]
    obtain ⟨ns, e2, fd⟩ := fldD_of hc ok fl
    refine ⟨true, ce2 x.cls hc, fun _ a ha => ⟨x.cls, w.2, ns, σ', hc, hw, rfl, fd, rfl, fun H2 ex r hr hH => ?_⟩, fun z => nomatch z⟩
    obtain ⟨S2, M2⟩ := S.ext ex
    rw [e2] at kp
    exact kp H2 _ S2 M2 (.tup (SqT.of hH) (.cons (.str _) (rpl_ints () ns)))
theorem err_of {K : PySem.W.Frag} {h : Heap} {mg : Str → Option Value} (X : K.In h) (G : h.Ns mainGlobals mg) (e : exB K = true) : ErrK K mg (caL K) ∧ mg "_law_flags" = some (.ref (He.ga K "_law_flags")) ∧ mg "_law_word" = some (.ref (He.ga K "_law_word")) := by
  unfold exB at e
  simp only [Bool.and_eq_true, List.all_eq_true, decide_eq_true_eq, List.mem_range] at e
  obtain ⟨⟨⟨⟨⟨⟨⟨h1, h2⟩, h3⟩, h4⟩, h5⟩, h6⟩, h7⟩, _⟩ := e
  refine ⟨⟨fun j x hj => ?_, fun c hc => excCB_ok (h2 c hc).1.1.1.1.1, fun c j hc hj => (h2 c hc).1.1.1.1.2 j hj, fun c hc => (h2 c hc).1.1.1.2, fun c hc => (h2 c hc).1.1.2, ⟨_, He.glo_ok X G h3, fun c hc => (h2 c hc).1.2⟩, fun x hx => He.free_ok X G (h4 x hx), He.free_ok X G h5, fun c hc => (h2 c hc).2⟩, He.glo_ok X G h6, He.glo_ok X G h7⟩
  have e : caL K j = He.ga K x := by
    unfold caL
    rw [List.getD_eq_getElem?_getD, hj]
    rfl
  rw [e]
  exact He.glo_ok X G (h1 x (List.mem_of_getElem? hj))
theorem word_at {P : Pg} {fn : List He.DefD} {K : PySem.W.Frag} {h : Heap} {mg : Str → Option Value} (X : K.In h) (G : h.Ns mainGlobals mg) (c : obsP P (fn ++ fn2) exB K = valP (fn ++ fn2)) (hP : ∀ c w, P.exc[c]? = some w → c < 19 ∧ wrdN[c]? = some w.2 ∧ clsN[c]? = some w.1) (hl : ∀ c, c < 19 → ∃ w, P.exc[c]? = some w) (hsd : P.sd = false) : WordAt (adOf P K) P K mg := by
  obtain ⟨E, m1, m2⟩ := err_of X G (ex_of c)
  obtain ⟨fd1, F1⟩ := fn2_of c (d := t__law_flags) (by simp [fn2])
  obtain ⟨fd2, F2⟩ := fn2_of c (d := t__law_word) (by simp [fn2])
  have b1 : L2.Binds K fd1 ["_law_e"] [] := L2.FunD.bindsN (ps := ["_law_e"]) F1 fun _ _ _ _ _ _ us hl => match us, hl with | [_], _ => rfl
  have b2 : L2.Binds K fd2 ["_law_call"] [] := L2.FunD.bindsN (ps := ["_law_call"]) F2 fun _ _ _ _ _ _ us hl => match us, hl with | [_], _ => rfl
  have k1 := F1.kp
  have k2 := F2.kp
  obtain ⟨oc, od, dV, kV, doc, pm, an, cdv, ct, osl, rfl, lk, hcd, -, -⟩ := F1.ex
  obtain ⟨oc2, od2, dV2, kV2, doc2, pm2, an2, cdv2, ct2, osl2, rfl, lk2, hcd2, -, -⟩ := F2.ex
  have hwn : P.wn = "_law_word" := by unfold Pg.wn; rw [hsd]; rfl
  constructor
  rw [hwn]
  refine ⟨_, _, _, _, _, _, _, _, _, _, _, _, _, _, wdN, "_law_call", m2, k2, lk2, hcd2, b2, ⟨rfl, rfl, rfl, by decide +kernel, rfl, by decide +kernel, by decide +kernel⟩, rfl, .inl (by decide +kernel), by decide, by decide, ?_⟩
  refine word_gives (CA := caL K) (fun c hc => ?_) (fun c w hw => ⟨(hP c w hw).1, (hP c w hw).2.1⟩) hsd E k1 m1 b1 fun Pr w base => flags_fn lk hcd E
  obtain ⟨w, hw⟩ := hl c hc
  rw [ca_of hw]
  unfold caL
  rw [List.getD_eq_getElem?_getD, (hP c w hw).2.2]
  rfl
theorem xf_at {P : Pg} {fn : List He.DefD} {K : PySem.W.Frag} {h : Heap} {mg : Str → Option Value} (X : K.In h) (G : h.Ns mainGlobals mg) (c : obsP P (fn ++ fn2) exB K = valP (fn ++ fn2)) (hP : ∀ c w, P.exc[c]? = some w → c < 19 ∧ wrdN[c]? = some w.2 ∧ clsN[c]? = some w.1) (hf : ∀ c ∈ P.raf, c = 17) : ∀ c ∈ P.raf, ∀ w, P.exc[c]? = some w → ExfAt (adOf P K) K mg c w.1 := by
  obtain ⟨E, _, _⟩ := err_of X G (ex_of c)
  have xb : xfB K = true := (Bool.and_eq_true_iff.mp (ex_of c)).2
  unfold xfB at xb
  simp only [Bool.and_eq_true, decide_eq_true_eq] at xb
  obtain ⟨ce, ⟨⟨o17, i17⟩, ty17⟩⟩ := xb
  obtain ⟨fd17, F17⟩ := fn2_of c (d := t_TooMany) (by simp [fn2])
  obtain ⟨CE, ce0, _⟩ := E.ce
  have hce : mg "ClockError" = some (.ref (He.ga K "ClockError")) := by
    have e := ex_of c
    unfold exB at e
    simp only [Bool.and_eq_true] at e
    exact He.glo_ok X G e.1.1.1.1.1.2
  intro c hc w hw
  obtain ⟨h19, _, hcl⟩ := hP c w hw
  have eC := ca_of (K := K) hw
  have eL : caL K c = He.ga K w.1 := by unfold caL; rw [List.getD_eq_getElem?_getD, hcl]; rfl
  rcases hf c hc with rfl
  · have ew : "TooMany" = w.1 := Option.some.inj hcl
    rw [eL] at o17 i17
    refine ⟨by rw [eC, ← eL]; exact E.cls 17 _ hcl, by rw [eC]; exact oexB_ok o17, by rw [eC, ← eL]; exact E.nf 17 (by decide), ⟨_, fd17, _, _, _, _, _, by rw [eC]; exact i17, ty17, F17, ⟨rfl, rfl, rfl, by decide +kernel, rfl, by decide +kernel, by decide +kernel⟩, L2.FunD.bindsN (ps := ["self", "many", "most"]) F17 fun _ _ _ _ _ _ us hl => match us, hl with | [_, _, _], _ => rfl, by decide +kernel, _, _, _, _, _, _, _, _, _, rfl, rfl, ?_⟩, He.ga K "ClockError", hce, ceB_ok ce⟩
    exact .inl ⟨rfl, _, _, _, _, _, _, _, _, rfl⟩
end Law
set_option Elab.async false
set_option linter.all false
set_option maxRecDepth 100000
set_option maxHeartbeats 0
namespace Law
open PySem G43
/-! ### the text -/
/-! ### the same in the small language -/
/-! ### they say the same -/
theorem s_is_whole : DefS pg d_is_whole t_is_whole := by
  refine ⟨rfl, rfl, rfl, rfl, ⟨["thing"], ⟨rfl, rfl, rfl, by decide +kernel, rfl, by decide +kernel, by decide +kernel⟩, rfl, fun K f fd F => ⟨fun n hn => ?_, ⟨(fun z => nomatch z), ⟨noKws, noKwx⟩⟩⟩⟩, by decide +kernel⟩
  obtain rfl : n = 0 := Nat.le_zero.mp hn
  exact ⟨[], [], rfl, .nil, L2.FunD.bindsN (ps := ["thing"]) F fun _ _ _ _ _ _ us hl => match us, hl with | [_], _ => rfl⟩
theorem s_is_from_to : DefS pg d_is_from_to t_is_from_to := by
  refine ⟨rfl, rfl, rfl, rfl, ⟨["thing", "least", "most"], ⟨rfl, rfl, rfl, by decide +kernel, rfl, by decide +kernel, by decide +kernel⟩, rfl, fun K f fd F => ⟨fun n hn => ?_, ⟨(fun z => nomatch z), ⟨noKws, noKwx⟩⟩⟩⟩, by decide +kernel⟩
  obtain rfl : n = 0 := Nat.le_zero.mp hn
  exact ⟨[], [], rfl, .nil, L2.FunD.bindsN (ps := ["thing", "least", "most"]) F fun _ _ _ _ _ _ us hl => match us, hl with | [_, _, _], _ => rfl⟩
theorem s_shared : DefS pg d_shared t_shared := by
  refine ⟨rfl, rfl, rfl, rfl, ⟨["one", "other"], ⟨rfl, rfl, rfl, by decide +kernel, rfl, by decide +kernel, by decide +kernel⟩, rfl, fun K f fd F => ⟨fun n hn => ?_, ⟨(fun z => nomatch z), ⟨noKws, noKwx⟩⟩⟩⟩, by decide +kernel⟩
  obtain rfl : n = 0 := Nat.le_zero.mp hn
  exact ⟨[], [], rfl, .nil, L2.FunD.bindsN (ps := ["one", "other"]) F fun _ _ _ _ _ _ us hl => match us, hl with | [_, _], _ => rfl⟩
theorem s_lowest : DefS pg d_lowest t_lowest := by
  refine ⟨rfl, rfl, rfl, rfl, ⟨["top", "bottom"], ⟨rfl, rfl, rfl, by decide +kernel, rfl, by decide +kernel, by decide +kernel⟩, rfl, fun K f fd F => ⟨fun n hn => ?_, ⟨(fun z => nomatch z), ⟨noKws, noKwx⟩⟩⟩⟩, by decide +kernel⟩
  obtain rfl : n = 0 := Nat.le_zero.mp hn
  exact ⟨[], [], rfl, .nil, L2.FunD.bindsN (ps := ["top", "bottom"]) F fun _ _ _ _ _ _ us hl => match us, hl with | [_, _], _ => rfl⟩
theorem s_is_part : DefS pg d_is_part t_is_part := by
  refine ⟨rfl, rfl, rfl, rfl, ⟨["thing"], ⟨rfl, rfl, rfl, by decide +kernel, rfl, by decide +kernel, by decide +kernel⟩, rfl, fun K f fd F => ⟨fun n hn => ?_, ⟨(fun z => nomatch z), ⟨noKws, noKwx⟩⟩⟩⟩, by decide +kernel⟩
  obtain rfl : n = 0 := Nat.le_zero.mp hn
  exact ⟨[], [], rfl, .nil, L2.FunD.bindsN (ps := ["thing"]) F fun _ _ _ _ _ _ us hl => match us, hl with | [_], _ => rfl⟩
theorem s_plus : DefS pg d_plus t_plus := by
  refine ⟨rfl, rfl, rfl, rfl, ⟨["one", "other"], ⟨rfl, rfl, rfl, by decide +kernel, rfl, by decide +kernel, by decide +kernel⟩, rfl, fun K f fd F => ⟨fun n hn => ?_, ⟨(fun z => nomatch z), ⟨noKws, noKwx⟩⟩⟩⟩, by decide +kernel⟩
  obtain rfl : n = 0 := Nat.le_zero.mp hn
  exact ⟨[], [], rfl, .nil, L2.FunD.bindsN (ps := ["one", "other"]) F fun _ _ _ _ _ _ us hl => match us, hl with | [_, _], _ => rfl⟩
theorem s_minus : DefS pg d_minus t_minus := by
  refine ⟨rfl, rfl, rfl, rfl, ⟨["one", "other"], ⟨rfl, rfl, rfl, by decide +kernel, rfl, by decide +kernel, by decide +kernel⟩, rfl, fun K f fd F => ⟨fun n hn => ?_, ⟨(fun z => nomatch z), ⟨noKws, noKwx⟩⟩⟩⟩, by decide +kernel⟩
  obtain rfl : n = 0 := Nat.le_zero.mp hn
  exact ⟨[], [], rfl, .nil, L2.FunD.bindsN (ps := ["one", "other"]) F fun _ _ _ _ _ _ us hl => match us, hl with | [_, _], _ => rfl⟩
theorem s_product : DefS pg d_product t_product := by
  refine ⟨rfl, rfl, rfl, rfl, ⟨["one", "other"], ⟨rfl, rfl, rfl, by decide +kernel, rfl, by decide +kernel, by decide +kernel⟩, rfl, fun K f fd F => ⟨fun n hn => ?_, ⟨(fun z => nomatch z), ⟨noKws, noKwx⟩⟩⟩⟩, by decide +kernel⟩
  obtain rfl : n = 0 := Nat.le_zero.mp hn
  exact ⟨[], [], rfl, .nil, L2.FunD.bindsN (ps := ["one", "other"]) F fun _ _ _ _ _ _ us hl => match us, hl with | [_, _], _ => rfl⟩
theorem s_below : DefS pg d_below t_below := by
  refine ⟨rfl, rfl, rfl, rfl, ⟨["one", "other"], ⟨rfl, rfl, rfl, by decide +kernel, rfl, by decide +kernel, by decide +kernel⟩, rfl, fun K f fd F => ⟨fun n hn => ?_, ⟨(fun z => nomatch z), ⟨noKws, noKwx⟩⟩⟩⟩, by decide +kernel⟩
  obtain rfl : n = 0 := Nat.le_zero.mp hn
  exact ⟨[], [], rfl, .nil, L2.FunD.bindsN (ps := ["one", "other"]) F fun _ _ _ _ _ _ us hl => match us, hl with | [_, _], _ => rfl⟩
theorem s_turned : DefS pg d_turned t_turned := by
  refine ⟨rfl, rfl, rfl, rfl, ⟨["one"], ⟨rfl, rfl, rfl, by decide +kernel, rfl, by decide +kernel, by decide +kernel⟩, rfl, fun K f fd F => ⟨fun n hn => ?_, ⟨(fun z => nomatch z), ⟨noKws, noKwx⟩⟩⟩⟩, by decide +kernel⟩
  obtain rfl : n = 0 := Nat.le_zero.mp hn
  exact ⟨[], [], rfl, .nil, L2.FunD.bindsN (ps := ["one"]) F fun _ _ _ _ _ _ us hl => match us, hl with | [_], _ => rfl⟩
theorem s_is_gain : DefS pg d_is_gain t_is_gain := by
  refine ⟨rfl, rfl, rfl, rfl, ⟨["thing"], ⟨rfl, rfl, rfl, by decide +kernel, rfl, by decide +kernel, by decide +kernel⟩, rfl, fun K f fd F => ⟨fun n hn => ?_, ⟨(fun z => nomatch z), ⟨noKws, noKwx⟩⟩⟩⟩, by decide +kernel⟩
  obtain rfl : n = 0 := Nat.le_zero.mp hn
  exact ⟨[], [], rfl, .nil, L2.FunD.bindsN (ps := ["thing"]) F fun _ _ _ _ _ _ us hl => match us, hl with | [_], _ => rfl⟩
theorem s_is_moment : DefS pg d_is_moment t_is_moment := by
  refine ⟨rfl, rfl, rfl, rfl, ⟨["thing"], ⟨rfl, rfl, rfl, by decide +kernel, rfl, by decide +kernel, by decide +kernel⟩, rfl, fun K f fd F => ⟨fun n hn => ?_, ⟨(fun z => nomatch z), ⟨noKws, noKwx⟩⟩⟩⟩, by decide +kernel⟩
  obtain rfl : n = 0 := Nat.le_zero.mp hn
  exact ⟨[], [], rfl, .nil, L2.FunD.bindsN (ps := ["thing"]) F fun _ _ _ _ _ _ us hl => match us, hl with | [_], _ => rfl⟩
theorem s_need_moment : DefS pg d_need_moment t_need_moment := by
  refine ⟨rfl, rfl, rfl, rfl, ⟨["moment"], ⟨rfl, rfl, rfl, by decide +kernel, rfl, by decide +kernel, by decide +kernel⟩, rfl, fun K f fd F => ⟨fun n hn => ?_, ⟨(fun z => nomatch z), ⟨noKws, noKwx⟩⟩⟩⟩, by decide +kernel⟩
  obtain rfl : n = 0 := Nat.le_zero.mp hn
  exact ⟨[], [], rfl, .nil, L2.FunD.bindsN (ps := ["moment"]) F fun _ _ _ _ _ _ us hl => match us, hl with | [_], _ => rfl⟩
theorem s_jumps_till : DefS pg d_jumps_till t_jumps_till := by
  refine ⟨rfl, rfl, rfl, rfl, ⟨["clock", "moment"], ⟨rfl, rfl, rfl, by decide +kernel, rfl, by decide +kernel, by decide +kernel⟩, rfl, fun K f fd F => ⟨fun n hn => ?_, ⟨(fun z => nomatch z), ⟨noKws, noKwx⟩⟩⟩⟩, by decide +kernel⟩
  obtain rfl : n = 0 := Nat.le_zero.mp hn
  exact ⟨[], [], rfl, .nil, L2.FunD.bindsN (ps := ["clock", "moment"]) F fun _ _ _ _ _ _ us hl => match us, hl with | [_, _], _ => rfl⟩
theorem s_drift_by : DefS pg d_drift_by t_drift_by := by
  refine ⟨rfl, rfl, rfl, rfl, ⟨["clock", "moment"], ⟨rfl, rfl, rfl, by decide +kernel, rfl, by decide +kernel, by decide +kernel⟩, rfl, fun K f fd F => ⟨fun n hn => ?_, ⟨(fun z => nomatch z), ⟨noKws, noKwx⟩⟩⟩⟩, by decide +kernel⟩
  obtain rfl : n = 0 := Nat.le_zero.mp hn
  exact ⟨[], [], rfl, .nil, L2.FunD.bindsN (ps := ["clock", "moment"]) F fun _ _ _ _ _ _ us hl => match us, hl with | [_, _], _ => rfl⟩
theorem s_shown_by : DefS pg d_shown_by t_shown_by := by
  refine ⟨rfl, rfl, rfl, rfl, ⟨["clock", "moment", "error"], ⟨rfl, rfl, rfl, by decide +kernel, rfl, by decide +kernel, by decide +kernel⟩, rfl, fun K f fd F => ⟨fun n hn => ?_, ⟨(fun z => nomatch z), ⟨noKws, noKwx⟩⟩⟩⟩, by decide +kernel⟩
  obtain rfl : n = 0 := Nat.le_zero.mp hn
  exact ⟨[], [], rfl, .nil, L2.FunD.bindsN (ps := ["clock", "moment", "error"]) F fun _ _ _ _ _ _ us hl => match us, hl with | [_, _, _], _ => rfl⟩
theorem s_is_clock_number : DefS pg d_is_clock_number t_is_clock_number := by
  refine ⟨rfl, rfl, rfl, rfl, ⟨["thing"], ⟨rfl, rfl, rfl, by decide +kernel, rfl, by decide +kernel, by decide +kernel⟩, rfl, fun K f fd F => ⟨fun n hn => ?_, ⟨(fun z => nomatch z), ⟨noKws, noKwx⟩⟩⟩⟩, by decide +kernel⟩
  obtain rfl : n = 0 := Nat.le_zero.mp hn
  exact ⟨[], [], rfl, .nil, L2.FunD.bindsN (ps := ["thing"]) F fun _ _ _ _ _ _ us hl => match us, hl with | [_], _ => rfl⟩
theorem s_need_clock_number : DefS pg d_need_clock_number t_need_clock_number := by
  refine ⟨rfl, rfl, rfl, rfl, ⟨["thing"], ⟨rfl, rfl, rfl, by decide +kernel, rfl, by decide +kernel, by decide +kernel⟩, rfl, fun K f fd F => ⟨fun n hn => ?_, ⟨(fun z => nomatch z), ⟨noKws, noKwx⟩⟩⟩⟩, by decide +kernel⟩
  obtain rfl : n = 0 := Nat.le_zero.mp hn
  exact ⟨[], [], rfl, .nil, L2.FunD.bindsN (ps := ["thing"]) F fun _ _ _ _ _ _ us hl => match us, hl with | [_], _ => rfl⟩
theorem s_are_bounds : DefS pg d_are_bounds t_are_bounds := by
  refine ⟨rfl, rfl, rfl, rfl, ⟨["low", "high"], ⟨rfl, rfl, rfl, by decide +kernel, rfl, by decide +kernel, by decide +kernel⟩, rfl, fun K f fd F => ⟨fun n hn => ?_, ⟨(fun z => nomatch z), ⟨noKws, noKwx⟩⟩⟩⟩, by decide +kernel⟩
  obtain rfl : n = 0 := Nat.le_zero.mp hn
  exact ⟨[], [], rfl, .nil, L2.FunD.bindsN (ps := ["low", "high"]) F fun _ _ _ _ _ _ us hl => match us, hl with | [_, _], _ => rfl⟩
theorem s_steps_of : DefS pg d_steps_of t_steps_of := by
  refine ⟨rfl, rfl, rfl, rfl, ⟨["tellings"], ⟨rfl, rfl, rfl, by decide +kernel, rfl, by decide +kernel, by decide +kernel⟩, rfl, fun K f fd F => ⟨fun n hn => ?_, ⟨(fun z => nomatch z), ⟨noKws, noKwx⟩⟩⟩⟩, by decide +kernel⟩
  obtain rfl : n = 0 := Nat.le_zero.mp hn
  exact ⟨[], [], rfl, .nil, L2.FunD.bindsN (ps := ["tellings"]) F fun _ _ _ _ _ _ us hl => match us, hl with | [_], _ => rfl⟩
theorem s_shortest : DefS pg d_shortest t_shortest := by
  refine ⟨rfl, rfl, rfl, rfl, ⟨["steps", "begin"], ⟨rfl, rfl, rfl, by decide +kernel, rfl, by decide +kernel, by decide +kernel⟩, rfl, fun K f fd F => ⟨fun n hn => ?_, ⟨(fun z => nomatch z), ⟨noKws, noKwx⟩⟩⟩⟩, by decide +kernel⟩
  obtain rfl : n = 0 := Nat.le_zero.mp hn
  exact ⟨[], [], rfl, .nil, L2.FunD.bindsN (ps := ["steps", "begin"]) F fun _ _ _ _ _ _ us hl => match us, hl with | [_, _], _ => rfl⟩
theorem s_ring_on : DefS pg d_ring_on t_ring_on := by
  refine ⟨rfl, rfl, rfl, rfl, ⟨["tellings", "begin", "way"], ⟨rfl, rfl, rfl, by decide +kernel, rfl, by decide +kernel, by decide +kernel⟩, rfl, fun K f fd F => ⟨fun n hn => ?_, ⟨(fun z => nomatch z), ⟨noKws, noKwx⟩⟩⟩⟩, by decide +kernel⟩
  obtain rfl : n = 0 := Nat.le_zero.mp hn
  exact ⟨[], [], rfl, .nil, L2.FunD.bindsN (ps := ["tellings", "begin", "way"]) F fun _ _ _ _ _ _ us hl => match us, hl with | [_, _, _], _ => rfl⟩
theorem s_ring_in : DefS pg d_ring_in t_ring_in := by
  refine ⟨rfl, rfl, rfl, rfl, ⟨["tellings"], ⟨rfl, rfl, rfl, by decide +kernel, rfl, by decide +kernel, by decide +kernel⟩, rfl, fun K f fd F => ⟨fun n hn => ?_, ⟨(fun z => nomatch z), ⟨noKws, noKwx⟩⟩⟩⟩, by decide +kernel⟩
  obtain rfl : n = 0 := Nat.le_zero.mp hn
  exact ⟨[], [], rfl, .nil, L2.FunD.bindsN (ps := ["tellings"]) F fun _ _ _ _ _ _ us hl => match us, hl with | [_], _ => rfl⟩
theorem s_together : DefS pg d_together t_together := by
  refine ⟨rfl, rfl, rfl, rfl, ⟨["tellings"], ⟨rfl, rfl, rfl, by decide +kernel, rfl, by decide +kernel, by decide +kernel⟩, rfl, fun K f fd F => ⟨fun n hn => ?_, ⟨(fun z => nomatch z), ⟨noKws, noKwx⟩⟩⟩⟩, by decide +kernel⟩
  obtain rfl : n = 0 := Nat.le_zero.mp hn
  exact ⟨[], [], rfl, .nil, L2.FunD.bindsN (ps := ["tellings"]) F fun _ _ _ _ _ _ us hl => match us, hl with | [_], _ => rfl⟩
theorem s_far_from : DefS pg d_far_from t_far_from := by
  refine ⟨rfl, rfl, rfl, rfl, ⟨["tellings", "clock", "other"], ⟨rfl, rfl, rfl, by decide +kernel, rfl, by decide +kernel, by decide +kernel⟩, rfl, fun K f fd F => ⟨fun n hn => ?_, ⟨(fun z => nomatch z), ⟨noKws, noKwx⟩⟩⟩⟩, by decide +kernel⟩
  obtain rfl : n = 0 := Nat.le_zero.mp hn
  exact ⟨[], [], rfl, .nil, L2.FunD.bindsN (ps := ["tellings", "clock", "other"]) F fun _ _ _ _ _ _ us hl => match us, hl with | [_, _, _], _ => rfl⟩
theorem s_stretch_by : DefS pg d_stretch_by t_stretch_by := by
  refine ⟨rfl, rfl, rfl, rfl, ⟨["tellings", "clock", "other"], ⟨rfl, rfl, rfl, by decide +kernel, rfl, by decide +kernel, by decide +kernel⟩, rfl, fun K f fd F => ⟨fun n hn => ?_, ⟨(fun z => nomatch z), ⟨noKws, noKwx⟩⟩⟩⟩, by decide +kernel⟩
  obtain rfl : n = 0 := Nat.le_zero.mp hn
  exact ⟨[], [], rfl, .nil, L2.FunD.bindsN (ps := ["tellings", "clock", "other"]) F fun _ _ _ _ _ _ us hl => match us, hl with | [_, _, _], _ => rfl⟩
theorem s_need_other_clock : DefS pg d_need_other_clock t_need_other_clock := by
  refine ⟨rfl, rfl, rfl, rfl, ⟨["clock"], ⟨rfl, rfl, rfl, by decide +kernel, rfl, by decide +kernel, by decide +kernel⟩, rfl, fun K f fd F => ⟨fun n hn => ?_, ⟨(fun z => nomatch z), ⟨noKws, noKwx⟩⟩⟩⟩, by decide +kernel⟩
  obtain rfl : n = 0 := Nat.le_zero.mp hn
  exact ⟨[], [], rfl, .nil, L2.FunD.bindsN (ps := ["clock"]) F fun _ _ _ _ _ _ us hl => match us, hl with | [_], _ => rfl⟩
theorem s_are_gains : DefS pg d_are_gains t_are_gains := by
  refine ⟨rfl, rfl, rfl, rfl, ⟨["thing"], ⟨rfl, rfl, rfl, by decide +kernel, rfl, by decide +kernel, by decide +kernel⟩, rfl, fun K f fd F => ⟨fun n hn => ?_, ⟨(fun z => nomatch z), ⟨noKws, noKwx⟩⟩⟩⟩, by decide +kernel⟩
  obtain rfl : n = 0 := Nat.le_zero.mp hn
  exact ⟨[], [], rfl, .nil, L2.FunD.bindsN (ps := ["thing"]) F fun _ _ _ _ _ _ us hl => match us, hl with | [_], _ => rfl⟩
theorem s_moved : DefS pg d_moved t_moved := by
  refine ⟨rfl, rfl, rfl, rfl, ⟨["bound", "by"], ⟨rfl, rfl, rfl, by decide +kernel, rfl, by decide +kernel, by decide +kernel⟩, rfl, fun K f fd F => ⟨fun n hn => ?_, ⟨(fun z => nomatch z), ⟨noKws, noKwx⟩⟩⟩⟩, by decide +kernel⟩
  obtain rfl : n = 0 := Nat.le_zero.mp hn
  exact ⟨[], [], rfl, .nil, L2.FunD.bindsN (ps := ["bound", "by"]) F fun _ _ _ _ _ _ us hl => match us, hl with | [_, _], _ => rfl⟩
theorem s__law_cell_at : DefS pg d__law_cell_at t__law_cell_at := by
  refine ⟨rfl, rfl, rfl, rfl, ⟨["_law_script", "_law_k"], ⟨rfl, rfl, rfl, by decide +kernel, rfl, by decide +kernel, by decide +kernel⟩, rfl, fun K f fd F => ⟨fun n hn => ?_, ⟨(fun z => nomatch z), ⟨noKws, noKwx⟩⟩⟩⟩, by decide +kernel⟩
  obtain rfl : n = 0 := Nat.le_zero.mp hn
  exact ⟨[], [], rfl, .nil, L2.FunD.bindsN (ps := ["_law_script", "_law_k"]) F fun _ _ _ _ _ _ us hl => match us, hl with | [_, _], _ => rfl⟩
theorem s__law_next : DefS pg d__law_next t__law_next := by
  refine ⟨rfl, rfl, rfl, rfl, ⟨["_law_seed"], ⟨rfl, rfl, rfl, by decide +kernel, rfl, by decide +kernel, by decide +kernel⟩, rfl, fun K f fd F => ⟨fun n hn => ?_, ⟨(fun z => nomatch z), ⟨noKws, noKwx⟩⟩⟩⟩, by decide +kernel⟩
  obtain rfl : n = 0 := Nat.le_zero.mp hn
  exact ⟨[], [], rfl, .nil, L2.FunD.bindsN (ps := ["_law_seed"]) F fun _ _ _ _ _ _ us hl => match us, hl with | [_], _ => rfl⟩
theorem s__law_pen_of : DefS pg d__law_pen_of t__law_pen_of := by
  refine ⟨rfl, rfl, rfl, rfl, ⟨["_law_cell"], ⟨rfl, rfl, rfl, by decide +kernel, rfl, by decide +kernel, by decide +kernel⟩, rfl, fun K f fd F => ⟨fun n hn => ?_, ⟨(fun z => nomatch z), ⟨noKws, noKwx⟩⟩⟩⟩, by decide +kernel⟩
  obtain rfl : n = 0 := Nat.le_zero.mp hn
  exact ⟨[], [], rfl, .nil, L2.FunD.bindsN (ps := ["_law_cell"]) F fun _ _ _ _ _ _ us hl => match us, hl with | [_], _ => rfl⟩
theorem s__law_draw : DefS pg d__law_draw t__law_draw := by
  refine ⟨rfl, rfl, rfl, rfl, ⟨["_law_pen", "_law_many"], ⟨rfl, rfl, rfl, by decide +kernel, rfl, by decide +kernel, by decide +kernel⟩, rfl, fun K f fd F => ⟨fun n hn => ?_, ⟨(fun z => nomatch z), ⟨noKws, noKwx⟩⟩⟩⟩, by decide +kernel⟩
  obtain rfl : n = 0 := Nat.le_zero.mp hn
  exact ⟨[], [], rfl, .nil, L2.FunD.bindsN (ps := ["_law_pen", "_law_many"]) F fun _ _ _ _ _ _ us hl => match us, hl with | [_, _], _ => rfl⟩
theorem s__law_made : DefS pg d__law_made t__law_made := by
  refine ⟨rfl, rfl, rfl, rfl, ⟨["_law_top", "_law_bottom"], ⟨rfl, rfl, rfl, by decide +kernel, rfl, by decide +kernel, by decide +kernel⟩, rfl, fun K f fd F => ⟨fun n hn => ?_, ⟨(fun z => nomatch z), ⟨noKws, noKwx⟩⟩⟩⟩, by decide +kernel⟩
  obtain rfl : n = 0 := Nat.le_zero.mp hn
  exact ⟨[], [], rfl, .nil, L2.FunD.bindsN (ps := ["_law_top", "_law_bottom"]) F fun _ _ _ _ _ _ us hl => match us, hl with | [_, _], _ => rfl⟩
theorem s__law_sum : DefS pg d__law_sum t__law_sum := by
  refine ⟨rfl, rfl, rfl, rfl, ⟨["_law_one", "_law_other"], ⟨rfl, rfl, rfl, by decide +kernel, rfl, by decide +kernel, by decide +kernel⟩, rfl, fun K f fd F => ⟨fun n hn => ?_, ⟨(fun z => nomatch z), ⟨noKws, noKwx⟩⟩⟩⟩, by decide +kernel⟩
  obtain rfl : n = 0 := Nat.le_zero.mp hn
  exact ⟨[], [], rfl, .nil, L2.FunD.bindsN (ps := ["_law_one", "_law_other"]) F fun _ _ _ _ _ _ us hl => match us, hl with | [_, _], _ => rfl⟩
theorem s__law_gains : DefS pg d__law_gains t__law_gains := by
  refine ⟨rfl, rfl, rfl, rfl, ⟨["_law_pen"], ⟨rfl, rfl, rfl, by decide +kernel, rfl, by decide +kernel, by decide +kernel⟩, rfl, fun K f fd F => ⟨fun n hn => ?_, ⟨(fun z => nomatch z), ⟨noKws, noKwx⟩⟩⟩⟩, by decide +kernel⟩
  obtain rfl : n = 0 := Nat.le_zero.mp hn
  exact ⟨[], [], rfl, .nil, L2.FunD.bindsN (ps := ["_law_pen"]) F fun _ _ _ _ _ _ us hl => match us, hl with | [_], _ => rfl⟩
theorem s__law_moments_right : DefS pg d__law_moments_right t__law_moments_right := by
  refine ⟨rfl, rfl, rfl, rfl, ⟨["_law_post"], ⟨rfl, rfl, rfl, by decide +kernel, rfl, by decide +kernel, by decide +kernel⟩, rfl, fun K f fd F => ⟨fun n hn => ?_, ⟨(fun z => nomatch z), ⟨noKws, noKwx⟩⟩⟩⟩, by decide +kernel⟩
  obtain rfl : n = 0 := Nat.le_zero.mp hn
  exact ⟨[], [], rfl, .nil, L2.FunD.bindsN (ps := ["_law_post"]) F fun _ _ _ _ _ _ us hl => match us, hl with | [_], _ => rfl⟩
theorem s__law_numbers_right : DefS pg d__law_numbers_right t__law_numbers_right := by
  refine ⟨rfl, rfl, rfl, rfl, ⟨["_law_post"], ⟨rfl, rfl, rfl, by decide +kernel, rfl, by decide +kernel, by decide +kernel⟩, rfl, fun K f fd F => ⟨fun n hn => ?_, ⟨(fun z => nomatch z), ⟨noKws, noKwx⟩⟩⟩⟩, by decide +kernel⟩
  obtain rfl : n = 0 := Nat.le_zero.mp hn
  exact ⟨[], [], rfl, .nil, L2.FunD.bindsN (ps := ["_law_post"]) F fun _ _ _ _ _ _ us hl => match us, hl with | [_], _ => rfl⟩
theorem s__law_rest_right : DefS pg d__law_rest_right t__law_rest_right := by
  refine ⟨rfl, rfl, rfl, rfl, ⟨["_law_post"], ⟨rfl, rfl, rfl, by decide +kernel, rfl, by decide +kernel, by decide +kernel⟩, rfl, fun K f fd F => ⟨fun n hn => ?_, ⟨(fun z => nomatch z), ⟨noKws, noKwx⟩⟩⟩⟩, by decide +kernel⟩
  obtain rfl : n = 0 := Nat.le_zero.mp hn
  exact ⟨[], [], rfl, .nil, L2.FunD.bindsN (ps := ["_law_post"]) F fun _ _ _ _ _ _ us hl => match us, hl with | [_], _ => rfl⟩
theorem s__law_full_right : DefS pg d__law_full_right t__law_full_right := by
  refine ⟨rfl, rfl, rfl, rfl, ⟨["_law_pen", "_law_post"], ⟨rfl, rfl, rfl, by decide +kernel, rfl, by decide +kernel, by decide +kernel⟩, rfl, fun K f fd F => ⟨fun n hn => ?_, ⟨(fun z => nomatch z), ⟨noKws, noKwx⟩⟩⟩⟩, by decide +kernel⟩
  obtain rfl : n = 0 := Nat.le_zero.mp hn
  exact ⟨[], [], rfl, .nil, L2.FunD.bindsN (ps := ["_law_pen", "_law_post"]) F fun _ _ _ _ _ _ us hl => match us, hl with | [_, _], _ => rfl⟩
theorem s_law : DefS pg d_law t_law := by
  refine ⟨rfl, rfl, rfl, rfl, ⟨["_law_script"], ⟨rfl, rfl, rfl, by decide +kernel, rfl, by decide +kernel, by decide +kernel⟩, rfl, fun K f fd F => ⟨fun n hn => ?_, ⟨(fun z => nomatch z), ⟨noKws, noKwx⟩⟩⟩⟩, by decide +kernel⟩
  obtain rfl : n = 0 := Nat.le_zero.mp hn
  exact ⟨[], [], rfl, .nil, L2.FunD.bindsN (ps := ["_law_script"]) F fun _ _ _ _ _ _ us hl => match us, hl with | [_], _ => rfl⟩
theorem s_Post___init__ : DefS pg d_Post___init__ t_Post___init__ := by
  refine ⟨rfl, rfl, rfl, rfl, ⟨["self", "gains"], ⟨rfl, rfl, rfl, by decide +kernel, rfl, by decide +kernel, by decide +kernel⟩, rfl, fun K f fd F => ⟨fun n hn => ?_, ⟨(fun z => nomatch z), ⟨noKws, noKwx⟩⟩⟩⟩, by decide +kernel⟩
  obtain rfl : n = 0 := Nat.le_zero.mp hn
  exact ⟨[], [], rfl, .nil, L2.FunD.bindsN (ps := ["self", "gains"]) F fun _ _ _ _ _ _ us hl => match us, hl with | [_, _], _ => rfl⟩
theorem s_Post_taken_back : DefS pg d_Post_taken_back t_Post_taken_back := by
  refine ⟨rfl, rfl, rfl, rfl, ⟨["self", "clocks", "told"], ⟨rfl, rfl, rfl, by decide +kernel, rfl, by decide +kernel, by decide +kernel⟩, rfl, fun K f fd F => ⟨fun n hn => ?_, ⟨(fun z => nomatch z), ⟨noKws, noKwx⟩⟩⟩⟩, by decide +kernel⟩
  obtain rfl : n = 0 := Nat.le_zero.mp hn
  exact ⟨[], [], rfl, .nil, L2.FunD.bindsN (ps := ["self", "clocks", "told"]) F fun _ _ _ _ _ _ us hl => match us, hl with | [_, _, _], _ => rfl⟩
theorem s_Post_become : DefS pg d_Post_become t_Post_become := by
  refine ⟨rfl, rfl, rfl, rfl, ⟨["self", "clocks", "told", "next_number"], ⟨rfl, rfl, rfl, by decide +kernel, rfl, by decide +kernel, by decide +kernel⟩, rfl, fun K f fd F => ⟨fun n hn => ?_, ⟨(fun z => nomatch z), ⟨noKws, noKwx⟩⟩⟩⟩, by decide +kernel⟩
  obtain rfl : n = 0 := Nat.le_zero.mp hn
  exact ⟨[], [], rfl, .nil, L2.FunD.bindsN (ps := ["self", "clocks", "told", "next_number"]) F fun _ _ _ _ _ _ us hl => match us, hl with | [_, _, _, _], _ => rfl⟩
theorem s_Post_tells : DefS pg d_Post_tells t_Post_tells := by
  refine ⟨rfl, rfl, rfl, rfl, ⟨["self", "moment", "one", "other", "low", "high"], ⟨rfl, rfl, rfl, by decide +kernel, rfl, by decide +kernel, by decide +kernel⟩, rfl, fun K f fd F => ⟨fun n hn => ?_, ⟨(fun z => nomatch z), ⟨noKws, noKwx⟩⟩⟩⟩, by decide +kernel⟩
  have hn : n ≤ 2 := hn
  have hc : n = 0 ∨ n = 1 ∨ n = 2 := by omega
  rcases hc with rfl | rfl | rfl
  · obtain ⟨ds, q1, q2⟩ := L2.FunD.binds1 (ps := ["self", "moment", "one", "other", "low", "high"]) F 4 0 (by intro z; cases z) rfl (fun _ _ _ _ _ _ _ us its hu hi => match us, its, hu, hi with | [_, _, _, _], [_, _], _, _ => ⟨_, rfl, rfl⟩)
    exact ⟨_, ds, rfl, q1, q2⟩
  · obtain ⟨ds, q1, q2⟩ := L2.FunD.binds1 (ps := ["self", "moment", "one", "other", "low", "high"]) F 5 1 (by intro z; cases z) rfl (fun _ _ _ _ _ _ _ us its hu hi => match us, its, hu, hi with | [_, _, _, _, _], [_, _], _, _ => ⟨_, rfl, rfl⟩)
    exact ⟨_, ds, rfl, q1, q2⟩
  · obtain ⟨ds, q1, q2⟩ := L2.FunD.binds1 (ps := ["self", "moment", "one", "other", "low", "high"]) F 6 2 (by intro z; cases z) rfl (fun _ _ _ _ _ _ _ us its hu hi => match us, its, hu, hi with | [_, _, _, _, _, _], [_, _], _, _ => ⟨_, rfl, rfl⟩)
    exact ⟨_, ds, rfl, q1, q2⟩
theorem s_Post_sets : DefS pg d_Post_sets t_Post_sets := by
  refine ⟨rfl, rfl, rfl, rfl, ⟨["self", "clock", "moment", "jump"], ⟨rfl, rfl, rfl, by decide +kernel, rfl, by decide +kernel, by decide +kernel⟩, rfl, fun K f fd F => ⟨fun n hn => ?_, ⟨(fun z => nomatch z), ⟨noKws, noKwx⟩⟩⟩⟩, by decide +kernel⟩
  obtain rfl : n = 0 := Nat.le_zero.mp hn
  exact ⟨[], [], rfl, .nil, L2.FunD.bindsN (ps := ["self", "clock", "moment", "jump"]) F fun _ _ _ _ _ _ us hl => match us, hl with | [_, _, _, _], _ => rfl⟩
theorem s_Post_calls_false : DefS pg d_Post_calls_false t_Post_calls_false := by
  refine ⟨rfl, rfl, rfl, rfl, ⟨["self", "number"], ⟨rfl, rfl, rfl, by decide +kernel, rfl, by decide +kernel, by decide +kernel⟩, rfl, fun K f fd F => ⟨fun n hn => ?_, ⟨(fun z => nomatch z), ⟨noKws, noKwx⟩⟩⟩⟩, by decide +kernel⟩
  obtain rfl : n = 0 := Nat.le_zero.mp hn
  exact ⟨[], [], rfl, .nil, L2.FunD.bindsN (ps := ["self", "number"]) F fun _ _ _ _ _ _ us hl => match us, hl with | [_, _], _ => rfl⟩
theorem s_Post_back : DefS pg d_Post_back t_Post_back := by
  refine ⟨rfl, rfl, rfl, rfl, ⟨["self"], ⟨rfl, rfl, rfl, by decide +kernel, rfl, by decide +kernel, by decide +kernel⟩, rfl, fun K f fd F => ⟨fun n hn => ?_, ⟨(fun z => nomatch z), ⟨noKws, noKwx⟩⟩⟩⟩, by decide +kernel⟩
  obtain rfl : n = 0 := Nat.le_zero.mp hn
  exact ⟨[], [], rfl, .nil, L2.FunD.bindsN (ps := ["self"]) F fun _ _ _ _ _ _ us hl => match us, hl with | [_], _ => rfl⟩
theorem s_Post_stretch_at : DefS pg d_Post_stretch_at t_Post_stretch_at := by
  refine ⟨rfl, rfl, rfl, rfl, ⟨["self", "clock", "moment"], ⟨rfl, rfl, rfl, by decide +kernel, rfl, by decide +kernel, by decide +kernel⟩, rfl, fun K f fd F => ⟨fun n hn => ?_, ⟨(fun z => nomatch z), ⟨noKws, noKwx⟩⟩⟩⟩, by decide +kernel⟩
  have hn : n ≤ 1 := hn
  have hc : n = 0 ∨ n = 1 := by omega
  rcases hc with rfl | rfl
  · obtain ⟨ds, q1, q2⟩ := L2.FunD.binds1 (ps := ["self", "clock", "moment"]) F 2 0 (by intro z; cases z) rfl (fun _ _ _ _ _ _ _ us its hu hi => match us, its, hu, hi with | [_, _], [_], _, _ => ⟨_, rfl, rfl⟩)
    exact ⟨_, ds, rfl, q1, q2⟩
  · obtain ⟨ds, q1, q2⟩ := L2.FunD.binds1 (ps := ["self", "clock", "moment"]) F 3 1 (by intro z; cases z) rfl (fun _ _ _ _ _ _ _ us its hu hi => match us, its, hu, hi with | [_, _, _], [_], _, _ => ⟨_, rfl, rfl⟩)
    exact ⟨_, ds, rfl, q1, q2⟩
theorem s_Post_stretch_then : DefS pg d_Post_stretch_then t_Post_stretch_then := by
  refine ⟨rfl, rfl, rfl, rfl, ⟨["self", "clock", "moment"], ⟨rfl, rfl, rfl, by decide +kernel, rfl, by decide +kernel, by decide +kernel⟩, rfl, fun K f fd F => ⟨fun n hn => ?_, ⟨(fun z => nomatch z), ⟨noKws, noKwx⟩⟩⟩⟩, by decide +kernel⟩
  obtain rfl : n = 0 := Nat.le_zero.mp hn
  exact ⟨[], [], rfl, .nil, L2.FunD.bindsN (ps := ["self", "clock", "moment"]) F fun _ _ _ _ _ _ us hl => match us, hl with | [_, _, _], _ => rfl⟩
theorem s_Post_standing : DefS pg d_Post_standing t_Post_standing := by
  refine ⟨rfl, rfl, rfl, rfl, ⟨["self"], ⟨rfl, rfl, rfl, by decide +kernel, rfl, by decide +kernel, by decide +kernel⟩, rfl, fun K f fd F => ⟨fun n hn => ?_, ⟨(fun z => nomatch z), ⟨noKws, noKwx⟩⟩⟩⟩, by decide +kernel⟩
  obtain rfl : n = 0 := Nat.le_zero.mp hn
  exact ⟨[], [], rfl, .nil, L2.FunD.bindsN (ps := ["self"]) F fun _ _ _ _ _ _ us hl => match us, hl with | [_], _ => rfl⟩
theorem s_Post_clock_now : DefS pg d_Post_clock_now t_Post_clock_now := by
  refine ⟨rfl, rfl, rfl, rfl, ⟨["self", "clock"], ⟨rfl, rfl, rfl, by decide +kernel, rfl, by decide +kernel, by decide +kernel⟩, rfl, fun K f fd F => ⟨fun n hn => ?_, ⟨(fun z => nomatch z), ⟨noKws, noKwx⟩⟩⟩⟩, by decide +kernel⟩
  obtain rfl : n = 0 := Nat.le_zero.mp hn
  exact ⟨[], [], rfl, .nil, L2.FunD.bindsN (ps := ["self", "clock"]) F fun _ _ _ _ _ _ us hl => match us, hl with | [_, _], _ => rfl⟩
theorem s_Post_error_by : DefS pg d_Post_error_by t_Post_error_by := by
  refine ⟨rfl, rfl, rfl, rfl, ⟨["self", "clock", "moment", "hour"], ⟨rfl, rfl, rfl, by decide +kernel, rfl, by decide +kernel, by decide +kernel⟩, rfl, fun K f fd F => ⟨fun n hn => ?_, ⟨(fun z => nomatch z), ⟨noKws, noKwx⟩⟩⟩⟩, by decide +kernel⟩
  obtain rfl : n = 0 := Nat.le_zero.mp hn
  exact ⟨[], [], rfl, .nil, L2.FunD.bindsN (ps := ["self", "clock", "moment", "hour"]) F fun _ _ _ _ _ _ us hl => match us, hl with | [_, _, _, _], _ => rfl⟩
theorem s_Post___len__ : DefS pg d_Post___len__ t_Post___len__ := by
  refine ⟨rfl, rfl, rfl, rfl, ⟨["self"], ⟨rfl, rfl, rfl, by decide +kernel, rfl, by decide +kernel, by decide +kernel⟩, rfl, fun K f fd F => ⟨fun n hn => ?_, ⟨(fun z => nomatch z), ⟨noKws, noKwx⟩⟩⟩⟩, by decide +kernel⟩
  obtain rfl : n = 0 := Nat.le_zero.mp hn
  exact ⟨[], [], rfl, .nil, L2.FunD.bindsN (ps := ["self"]) F fun _ _ _ _ _ _ us hl => match us, hl with | [_], _ => rfl⟩
theorem all_s : DefsS pg pg.defs fn := .cons s_is_whole (.cons s_is_from_to (.cons s_shared (.cons s_lowest (.cons s_is_part (.cons s_plus (.cons s_minus (.cons s_product (.cons s_below (.cons s_turned (.cons s_is_gain (.cons s_is_moment (.cons s_need_moment (.cons s_jumps_till (.cons s_drift_by (.cons s_shown_by (.cons s_is_clock_number (.cons s_need_clock_number (.cons s_are_bounds (.cons s_steps_of (.cons s_shortest (.cons s_ring_on (.cons s_ring_in (.cons s_together (.cons s_far_from (.cons s_stretch_by (.cons s_need_other_clock (.cons s_are_gains (.cons s_moved (.cons s__law_cell_at (.cons s__law_next (.cons s__law_pen_of (.cons s__law_draw (.cons s__law_made (.cons s__law_sum (.cons s__law_gains (.cons s__law_moments_right (.cons s__law_numbers_right (.cons s__law_rest_right (.cons s__law_full_right (.cons s_law (.cons s_Post___init__ (.cons s_Post_taken_back (.cons s_Post_become (.cons s_Post_tells (.cons s_Post_sets (.cons s_Post_calls_false (.cons s_Post_back (.cons s_Post_stretch_at (.cons s_Post_stretch_then (.cons s_Post_standing (.cons s_Post_clock_now (.cons s_Post_error_by (.cons s_Post___len__ (.nil))))))))))))))))))))))))))))))))))))))))))))))))))))))
/-! ### the head -/
abbrev hk : PySem.W.Hook := hookP asF pg (fn ++ fn2) exB
theorem ob_eq (s : PySem.W.SharedT) : obI s = hk.obs s.abs := seeP_eq (HandSHeadRun.getT_eq s)
theorem run (w : World) : HandSHeadRun.RunEq R qv hk obI 60000 names w := runEq_of (runA w) (runB w) (runC w) (runD w)
theorem exc_p : ∀ c w, pg.exc[c]? = some w → c < 19 ∧ wrdN[c]? = some w.2 ∧ clsN[c]? = some w.1 := by
  intro c w h
  have hc : c < 19 := (List.getElem?_eq_some_iff.mp h).1
  have : c = 0 ∨ c = 1 ∨ c = 2 ∨ c = 3 ∨ c = 4 ∨ c = 5 ∨ c = 6 ∨ c = 7 ∨ c = 8 ∨ c = 9 ∨ c = 10 ∨ c = 11 ∨ c = 12 ∨ c = 13 ∨ c = 14 ∨ c = 15 ∨ c = 16 ∨ c = 17 ∨ c = 18 := by omega
  rcases this with rfl | rfl | rfl | rfl | rfl | rfl | rfl | rfl | rfl | rfl | rfl | rfl | rfl | rfl | rfl | rfl | rfl | rfl | rfl <;> (cases h; decide)
theorem exc_l : ∀ c, c < 19 → ∃ w, pg.exc[c]? = some w := fun c hc => ⟨_, List.getElem?_eq_getElem hc⟩
end Law
set_option Elab.async false
set_option linter.all false
set_option maxRecDepth 100000
set_option maxHeartbeats 4000000
namespace G43
open PySem
/-! ### clocks -/
def encS (a : Rat × Rat) : PV := .tup [pt a.1, pt a.2]
def ck (g : Rat) (s : List (Rat × Rat)) : PV := .tup [pt g, .tup (s.map encS)]
structure OkC (b : Nat) (g : Rat) (s : List (Rat × Rat)) : Prop where
  g1 : -12 ≤ g
  g2 : g ≤ 12
  l : s.length ≤ 6
  p : ∀ x ∈ s, 0 ≤ x.1 ∧ x.2 ≠ 0
  o : s.Pairwise (fun a b => a.1 < b.1)
  z : ∀ x ∈ s, Sz b x.1 ∧ Sz b x.2
  zg : Sz b g
theorem sz_fold {α : Type} {b : Nat} {f : Rat → α → Rat} : ∀ (s : List α) (hf : ∀ a c, ∀ x ∈ s, Sz c a → Sz (c + (b + 1)) (f a x)) {c : Nat} {a : Rat}, Sz c a → Sz (c + s.length * (b + 1)) (s.foldl f a)
  | [], _, _, _, z => by simpa using z
  | x :: s, hf, c, a, z => by
    have := sz_fold s (fun a c y hy => hf a c y (by simp [hy])) (hf a c x (by simp) z)
    rw [List.foldl_cons]
    refine this.up ?_
    rw [List.length_cons, Nat.succ_mul]
    omega
theorem sz_foldn {α : Type} {b : Nat} {f : Rat → α → Rat} (n : Nat) (s : List α) (l : s.length ≤ n) (hf : ∀ a c, ∀ x ∈ s, Sz c a → Sz (c + (b + 1)) (f a x)) {c : Nat} {a : Rat} (z : Sz c a) : Sz (c + n * (b + 1)) (s.foldl f a) :=
  (sz_fold s hf z).up (by have := Nat.mul_le_mul_right (b + 1) l; omega)
/-- the jumps till a moment -/
def jf (m : Rat) (a : Rat) (x : Rat × Rat) : Rat := if m < x.1 then a else a + x.2
def jt (s : List (Rat × Rat)) (m : Rat) : Rat := s.foldl (jf m) 0
theorem jf_sz {b c : Nat} {m a : Rat} {x : Rat × Rat} (z : Sz b x.2) (s : Sz c a) : Sz (c + (b + 1)) (jf m a x) := by
  unfold jf
  split
  · exact s.up (by omega)
  · exact (s.add z).up (by omega)
theorem sz_jt {b n : Nat} {s : List (Rat × Rat)} {m : Rat} (z : ∀ x ∈ s, Sz b x.1 ∧ Sz b x.2) (l : s.length ≤ n) : Sz (1 + n * (b + 1)) (jt s m) :=
  sz_foldn n s l (fun a c x hx y => jf_sz (z x hx).2 y) sz0
def drf (g : Rat) (s : List (Rat × Rat)) (m : Rat) : Rat := m * g + jt s m
def shw (g : Rat) (s : List (Rat × Rat)) (m e : Rat) : Rat := 24 * m + e + drf g s m
/-- stretches -/
def enO : Option Rat → PV
  | none => .non
  | some q => pt q
def enSt (x : Rat × Option Rat × Rat) : PV := .tup [pt x.1, enO x.2.1, pt x.2.2]
def stf (a : Rat × Rat × List (Rat × Option Rat × Rat)) (x : Rat × Rat) : Rat × Rat × List (Rat × Option Rat × Rat) := (x.1, a.2.1 + x.2, a.2.2 ++ [(a.1, some x.1, a.2.1)])
def stAll (s : List (Rat × Rat)) : Rat × Rat × List (Rat × Option Rat × Rat) := s.foldl stf (0, 0, [])
def sts (s : List (Rat × Rat)) : List (Rat × Option Rat × Rat) := (stAll s).2.2 ++ [((stAll s).1, none, (stAll s).2.1)]
def momOf (g hour own : Rat) (x : Rat × Option Rat × Rat) : Rat := (hour - (own + x.2.2)) / (24 + g)
def momIn (g hour own : Rat) (x : Rat × Option Rat × Rat) : Bool := !decide (momOf g hour own x < x.1) && (match x.2.1 with | none => true | some e => decide (momOf g hour own x < e))
def moms (g : Rat) (s : List (Rat × Rat)) (hour own : Rat) : List Rat := (sts s).foldl (fun l x => if momIn g hour own x = true then l ++ [momOf g hour own x] else l) []
/-- changes -/
def chf (g e : Rat) (a : Rat × List (Rat × Rat)) (x : Rat × Rat) : Rat × List (Rat × Rat) := (a.1 + x.2, a.2 ++ [((24 + g) * x.1 + e + a.1, (24 + g) * x.1 + e + a.1 + x.2)])
def chs (g e : Rat) (s : List (Rat × Rat)) : List (Rat × Rat) := (s.foldl (chf g e) (0, [])).2
def tbk (g : Rat) (s : List (Rat × Rat)) (e : Rat) : List (Rat × Rat) := ((chs g e s).filter fun x => decide (x.2 < x.1)).map fun x => (x.2, x.1)
def skp (g : Rat) (s : List (Rat × Rat)) (e : Rat) : List (Rat × Rat) := (chs g e s).filter fun x => decide (x.1 < x.2)
end G43
namespace G43
open PySem
/-! ### stretches: sizes -/
def okSt (b : Nat) (y : Rat × Option Rat × Rat) : Prop := Sz b y.1 ∧ (∀ e, y.2.1 = some e → Sz b e) ∧ Sz (7 * b + 7) y.2.2
/-! ### changes: sizes -/
end G43
namespace G43
end G43
namespace G43
open PySem
section
variable {h : Hs} {i : Nat} {a b c : Int} {k : PV → Prop}
theorem pn_ix0 (e : h[i]? = some (some [.int a, .int b, .int c])) : kIx (.ref i) (.pv (.int 0)) h k = k (.int a) := by
  rw [k_ixr e]
  simp [atI, L2.atI, L2.ixN]
theorem pn_ix1 (e : h[i]? = some (some [.int a, .int b, .int c])) : kIx (.ref i) (.pv (.int 1)) h k = k (.int b) := by
  rw [k_ixr e]
  have : atI [PV.int a, .int b, .int c] 1 = some (.int b) := by
    unfold atI L2.atI L2.ixN
    rw [if_pos (by omega), if_pos (by simp)]
    rfl
  rw [this]; simp
theorem pn_ix2 (e : h[i]? = some (some [.int a, .int b, .int c])) : kIx (.ref i) (.pv (.int 2)) h k = k (.int c) := by
  rw [k_ixr e]
  have : atI [PV.int a, .int b, .int c] 2 = some (.int c) := by
    unfold atI L2.atI L2.ixN
    rw [if_pos (by omega), if_pos (by simp)]
    rfl
  rw [this]; simp
variable {kh : Hs → Prop} {v : PV}
theorem pn_sub0 (e : h[i]? = some (some [.int a, .int b, .int c])) : kSub (.ref i) (.pv (.int 0)) (.pv v) h kh = kh (h.set i (some [v, .int b, .int c])) := by
  rw [k_sub (j := 0) e (by unfold L2.ixN; rw [if_pos (by omega), if_pos (by simp)]; rfl)]
  rfl
theorem pn_sub2 (e : h[i]? = some (some [.int a, .int b, .int c])) : kSub (.ref i) (.pv (.int 2)) (.pv v) h kh = kh (h.set i (some [.int a, .int b, v])) := by
  rw [k_sub (j := 2) e (by unfold L2.ixN; rw [if_pos (by omega), if_pos (by simp)]; rfl)]
  rfl
end
end G43
namespace G43
theorem fin_new {h : Hs} {Q : QV} {c : List PV} : fin h.length Q (.ref h.length) (h ++ [some c]) = Q (.ref h.length) (h ++ [some c]) := by
  unfold fin
  simp
end G43
namespace G43
open PySem
/-- a pick of parts -/
theorem pickQ {l : List PV} {v : Int} {h : Hs} {k : PV → Prop} (G : Rat → Prop) (h0 : 0 ≤ v) (h1 : v < l.length) (hl : ∀ x ∈ l, ∃ n, x = pt n ∧ G n) (z : ∀ n, G n → k (pt n)) : kIx (.pv (.lst l)) (.pv (.int v)) h k := by
  refine pickL h0 h1 fun x hx => ?_
  obtain ⟨n, rfl, g⟩ := hl x hx
  exact z n g
/-- a written list's items, one by one -/
theorem all1 {α : Type} {G : α → Prop} : ∀ x ∈ ([] : List α), G x := by simp
theorem allC {α : Type} {G : α → Prop} {a : α} {l : List α} (h : G a) (hl : ∀ x ∈ l, G x) : ∀ x ∈ a :: l, G x := by
  intro x hx
  rcases List.mem_cons.mp hx with rfl | hx
  · exact h
  · exact hl x hx
theorem divInt_nonneg {n d : Int} (hn : 0 ≤ n) (hd : 0 < d) : 0 ≤ Rat.divInt n d := by
  rw [Rat.divInt_nonneg_iff_of_pos_right hd]
  exact hn
end G43
namespace G43
open PySem
theorem rng_get {lo : Int} {m n : Nat} {x : PV} (e : (rngL lo m)[n]? = some x) : x = .int (lo + n) ∧ n < m := by
  have h : n < m := by
    have := (List.getElem?_eq_some_iff.mp e).1
    simpa [rngL] using this
  unfold rngL at e
  rw [List.getElem?_map, List.getElem?_range h] at e
  simp at e
  exact ⟨e.symm, h⟩
theorem rngL_len {lo : Int} {m : Nat} : (rngL lo m).length = m := by simp [rngL]
/-- what is drawn for sets -/
structure DrS (b n : Nat) (s : List (Rat × Rat)) : Prop where
  l : s.length ≤ n
  p : ∀ x ∈ s, 0 ≤ x.1 ∧ x.2 ≠ 0
  o : s.Pairwise (fun a b => a.1 < b.1)
  z : ∀ x ∈ s, Sz b x.1 ∧ Sz b x.2
theorem DrS.ok {b : Nat} {g : Rat} {s : List (Rat × Rat)} (d : DrS b 6 s) (g1 : -12 ≤ g) (g2 : g ≤ 12) (zg : Sz b g) : OkC b g s := ⟨g1, g2, d.l, d.p, d.o, d.z, zg⟩
theorem DrS.nil {b n : Nat} : DrS b n [] := ⟨by simp, by simp, .nil, by simp⟩
theorem divInt_pos {n d : Int} (hn : 0 < n) (hd : 0 < d) : 0 < Rat.divInt n d := by
  rw [Rat.divInt_eq_div, Rat.div_def]
  exact Rat.mul_pos (Rat.intCast_pos.mpr hn) (Rat.inv_pos.mpr (Rat.intCast_pos.mpr hd))
theorem DrS.snoc {b n : Nat} {s : List (Rat × Rat)} {w j : Rat} (d : DrS b n s) (hw : 0 ≤ w) (hj : j ≠ 0) (zw : Sz b w) (zj : Sz b j) (lt : ∀ x ∈ s, x.1 < w) : DrS b (n + 1) (s ++ [(w, j)]) := by
  refine ⟨by simp; exact d.l, ?_, ?_, ?_⟩
  · intro x hx
    rcases List.mem_append.mp hx with hx | hx
    · exact d.p x hx
    · rw [List.mem_singleton] at hx; subst hx; exact ⟨hw, hj⟩
  · rw [List.pairwise_append]
    exact ⟨d.o, by simp, fun x hx y hy => by rw [List.mem_singleton] at hy; subst hy; exact lt x hx⟩
  · intro x hx
    rcases List.mem_append.mp hx with hx | hx
    · exact d.z x hx
    · rw [List.mem_singleton] at hx; subst hx; exact ⟨zw, zj⟩
theorem DrS.up {b n m : Nat} {s : List (Rat × Rat)} (d : DrS b n s) (h : n ≤ m) : DrS b m s := ⟨Nat.le_trans d.l h, d.p, d.o, d.z⟩
end G43
namespace G43
open PySem
theorem szl {n : Nat} (h : n ≤ 1000) : n ≤ sizeLine := Nat.le_trans h (by decide)
theorem szlt {n : Nat} (h : n ≤ 1000) : n < sizeLine := Nat.lt_of_le_of_lt h (by decide)
end G43
set_option Elab.async false
set_option linter.all false
set_option maxRecDepth 100000
set_option maxHeartbeats 4000000
namespace G43
open PySem
theorem divInt_mul_self (n : Int) {d : Int} (hd : 0 < d) : Rat.divInt n d * (d : Rat) = (n : Rat) := by
  have hd' : (0 : Rat) < (d : Rat) := Rat.intCast_pos.mpr hd
  rw [Rat.divInt_eq_div]
  exact Rat.div_mul_cancel (by grind)
theorem divInt_le {n d M : Int} (hd : 0 < d) (h : n ≤ M * d) : Rat.divInt n d ≤ (M : Rat) := by
  have hd' : (0 : Rat) < (d : Rat) := Rat.intCast_pos.mpr hd
  have h2 : (n : Rat) ≤ ((M * d : Int) : Rat) := Rat.intCast_le_intCast.mpr h
  rw [Rat.intCast_mul] at h2
  rw [← Rat.not_lt]
  intro hlt
  have := Rat.mul_lt_mul_of_pos_right hlt hd'
  rw [divInt_mul_self n hd] at this
  grind
theorem le_divInt {n d M : Int} (hd : 0 < d) (h : M * d ≤ n) : (M : Rat) ≤ Rat.divInt n d := by
  have hd' : (0 : Rat) < (d : Rat) := Rat.intCast_pos.mpr hd
  have h2 : ((M * d : Int) : Rat) ≤ (n : Rat) := Rat.intCast_le_intCast.mpr h
  rw [Rat.intCast_mul] at h2
  rw [← Rat.not_lt]
  intro hlt
  have := Rat.mul_lt_mul_of_pos_right hlt hd'
  rw [divInt_mul_self n hd] at this
  grind
theorem DrS.sub {b n : Nat} {s t : List (Rat × Rat)} (d : DrS b n s) (h : t.Sublist s) : DrS b n t := ⟨Nat.le_trans h.length_le d.l, fun x hx => d.p x (h.subset hx), d.o.sublist h, fun x hx => d.z x (h.subset hx)⟩
def upb (e : Rat) (x : Rat × Rat) : Rat × Rat := (x.1 + e, x.2 + e)
/-! equality of what is the same -/
mutual
theorem peq_refl : ∀ {n : Nat} {p : PV}, Dt n p → peq p p = true
  | _, .non, _ => rfl
  | _, .bl b, _ => by simp [peq]
  | _, .int i, _ => by simp [peq]
  | _, .str s, _ => by simp [peq]
  | 0, .tup l, h => by simp [Dt] at h
  | 0, .lst l, h => by simp [Dt] at h
  | n + 1, .tup l, h => by simp only [peq]; exact peqL_refl (n := n) h
  | n + 1, .lst l, h => by simp only [peq]; exact peqL_refl (n := n) h
  | 0, .fn _, h => by simp [Dt] at h
  | 0, .obj _ _, h => by simp [Dt] at h
  | 0, .scr _, h => by simp [Dt] at h
  | n + 1, .fn _, h => by simp [Dt] at h
  | n + 1, .obj _ _, h => by simp [Dt] at h
  | n + 1, .scr _, h => by simp [Dt] at h
  | 0, .dct _, h => by simp [Dt] at h
  | n + 1, .dct _, h => by simp [Dt] at h
theorem peqL_refl : ∀ {n : Nat} {l : List PV}, (∀ x ∈ l, Dt n x) → peqL l l = true
  | _, [], _ => rfl
  | n, x :: l, h => by
    simp only [peqL, Bool.and_eq_true]
    exact ⟨peq_refl (h x (by simp)), peqL_refl (fun y hy => h y (by simp [hy]))⟩
end
theorem dt_lst {n : Nat} {l : List PV} (h : ∀ x ∈ l, Dt n x) : Dt (n + 1) (.lst l) := h
theorem dt_tup {n : Nat} {l : List PV} (h : ∀ x ∈ l, Dt n x) : Dt (n + 1) (.tup l) := h
end G43
namespace G43
open PySem
theorem PenH.eq {i : Nat} {h : Hs} (P : PenH i h) : ∃ p, h = h.set i (some (penL p)) := by
  have hl := P.lt
  obtain ⟨p, e⟩ := P
  refine ⟨p, ?_⟩
  apply List.ext_getElem?
  intro j
  by_cases hj : i = j
  · subst hj
    rw [List.getElem?_set_self hl, e]
  · rw [List.getElem?_set_ne hj]
end G43
namespace G43
open PySem
theorem cut_mem {l : List PV} {a b : Option Int} {x : PV} (h : x ∈ cut l a b) : x ∈ l := by
  unfold cut at h
  exact List.mem_of_mem_drop (List.mem_of_mem_take h)
theorem cut_len {l : List PV} {a b : Option Int} : (cut l a b).length ≤ l.length := by
  unfold cut
  simp
  omega
theorem cells_int {ns : List Int} {c0 : Int} {a b : Option Int} {n : Nat} {x : PV} (h : (PV.int c0 :: cut (ns.map PV.int) a b)[n]? = some x) : ∃ i, x = .int i := by
  rcases List.mem_cons.mp (List.mem_of_getElem? h) with rfl | h
  · exact ⟨_, rfl⟩
  · obtain ⟨i, _, rfl⟩ := List.mem_map.mp (cut_mem h)
    exact ⟨i, rfl⟩
end G43
set_option Elab.async false
set_option linter.all false
set_option maxRecDepth 100000
set_option maxHeartbeats 4000000
namespace G43
open PySem
/-! ### stretch by stretch -/
def stR : Rat → Rat → List (Rat × Rat) → List (Rat × Option Rat × Rat)
  | b, J, [] => [(b, none, J)]
  | b, J, x :: s => (b, some x.1, J) :: stR x.1 (J + x.2) s
def chR (g e : Rat) : Rat → List (Rat × Rat) → List (Rat × Rat)
  | _, [] => []
  | J, x :: s => ((24 + g) * x.1 + e + J, (24 + g) * x.1 + e + J + x.2) :: chR g e (J + x.2) s
/-- 1 where it is so -/
def ind (p : Prop) [Decidable p] : Int := if p then 1 else 0
/-- an hour lies in a pair -/
def inP (hour : Rat) (x : Rat × Rat) : Bool := !decide (hour < x.1) && decide (hour < x.2)
end G43
set_option Elab.async false
set_option linter.all false
set_option maxRecDepth 100000
set_option maxHeartbeats 4000000
namespace G43
open PySem
/-! ### what is shown by repr -/
def Shw (n w : Nat) (p : PV) : Prop := Dt n p ∧ (dat p).showable = true ∧ (dat p).shown.length ≤ w
theorem Dt.up : ∀ {n m : Nat} {p : PV}, Dt n p → n ≤ m → Dt m p := by
  intro n
  induction n with
  | zero =>
    intro m p h _
    cases p <;> first | (cases m <;> trivial) | (simp [Dt] at h; done) | (cases m <;> simpa [Dt] using h)
  | succ n ih =>
    intro m p h z
    obtain ⟨m, rfl⟩ : ∃ k, m = k + 1 := ⟨m - 1, by omega⟩
    cases p with
    | tup l =>
      have h' : ∀ x ∈ l, Dt n x := h
      exact fun x hx => ih (h' x hx) (by omega)
    | lst l =>
      have h' : ∀ x ∈ l, Dt n x := h
      exact fun x hx => ih (h' x hx) (by omega)
    | non => trivial
    | bl b => trivial
    | int i => trivial
    | str s => simpa [Dt] using h
    | fn f => simp [Dt] at h
    | obj f => simp [Dt] at h
    | scr f => simp [Dt] at h
    | dct => simp [Dt] at h
theorem Shw.up {n m w v : Nat} {p : PV} (h : Shw n w p) (hn : n ≤ m) (hw : w ≤ v) : Shw m v p := ⟨h.1.up hn, h.2.1, Nat.le_trans h.2.2 hw⟩
theorem shwAll {n w : Nat} : ∀ {l : List PV}, (∀ x ∈ l, Shw n w x) → PyData.showableAll (datL l) = true ∧ ((PyData.shownAll (datL l)).map (·.length)).sum ≤ l.length * w ∧ (datL l).length = l.length
  | [], _ => ⟨by simp [datL, PyData.showableAll], by simp [datL, PyData.shownAll], rfl⟩
  | x :: l, h => by
    obtain ⟨h1, h2, h3⟩ := shwAll (n := n) (w := w) (l := l) fun y hy => h y (by simp [hy])
    obtain ⟨q1, q2, q3⟩ := h x (by simp)
    refine ⟨by simp [datL, PyData.showableAll, q2, h1], ?_, by simp [datL, h3]⟩
    simp only [datL, PyData.shownAll, List.map_cons, List.sum_cons, List.length_cons, Nat.succ_mul]
    omega
theorem shw_tup {n w : Nat} {l : List PV} (h : ∀ x ∈ l, Shw n w x) : Shw (n + 1) (l.length * (w + 2) + 3) (.tup l) := by
  obtain ⟨h1, h2, h3⟩ := shwAll h
  refine ⟨fun x hx => (h x hx).1, by simp only [dat, PyData.showable]; exact h1, ?_⟩
  have h4 := tupleText_len_le (PyData.shownAll (datL l))
  have h5 := PyData.shownAll_length (datL l)
  simp only [dat, PyData.shown]
  rw [Nat.mul_add]
  omega
theorem shw_lst {n w : Nat} {l : List PV} (h : ∀ x ∈ l, Shw n w x) : Shw (n + 1) (l.length * (w + 2) + 3) (.lst l) := by
  obtain ⟨h1, h2, h3⟩ := shwAll h
  refine ⟨fun x hx => (h x hx).1, by simp only [dat, PyData.showable]; exact h1, ?_⟩
  have h4 := listText_len_le (PyData.shownAll (datL l))
  have h5 := PyData.shownAll_length (datL l)
  simp only [dat, PyData.shown]
  rw [Nat.mul_add]
  omega
theorem shw_int {n : Nat} {i : Int} (h : i.natAbs < 2 ^ 1900) : Shw n 1925 (.int i) := by
  have h0 : i.natAbs.log2 < 1910 := by
    by_cases z : i.natAbs = 0
    · rw [z]; decide
    · exact (Nat.log2_lt z).mpr (Nat.lt_of_lt_of_le h (Nat.pow_le_pow_right (by decide) (by decide)))
  clear h
  refine ⟨by cases n <;> trivial, ?_, ?_⟩
  · simp only [dat, PyData.showable, decide_eq_true_eq]
    omega
  · simp only [dat]
    rw [PyData.shown_int, ofString_length]
    have := int_text_length_le (k := 1910) (by decide) h0
    omega
theorem shw_pt {n : Nat} {q : Rat} (s : Sz 1900 q) : Shw (n + 1) 4000 (pt q) := by
  refine (shw_tup (n := n) (w := 1925) (allC (shw_int s.1) (allC (shw_int ?_) all1))).up (Nat.le_refl _) (by simp)
  rw [den_nat]
  exact s.2
theorem f_repr {n w : Nat} {p : PV} {k : PV → Prop} (h : Shw n w p) (hn : n ≤ 60) (hw : w ≤ 16777216) : wpBi .repr [p] k = k (.str (dat p).shown) := by
  show ((Dt 60 p ∧ (dat p).showable = true ∧ (dat p).shown.length ≤ sizeLine ∧ k (.str (dat p).shown)) ∨ (p = .dct [] ∧ k (.str (Str.ofString "{}")))) = _
  have : (dat p).shown.length ≤ sizeLine := Nat.le_trans h.2.2 (by rw [sizeLine_eq]; exact hw)
  have d := h.1.up hn
  have nd : p ≠ .dct [] := by
    rintro rfl
    exact d
  simp [d, h.2.1, this, nd]
theorem ns_same {s : Str} {k : Bool → Prop} : wpCmp .NotEq (.str s) (.str s) k = k false := by
  show k (!(s == s)) = _
  simp
end G43
namespace G43
open PySem
theorem get_set_ne {h : Hs} {i j : Nat} {c : Option (List PV)} {v} (n : i ≠ j) (e : h[j]? = some v) : (h.set i c)[j]? = some v := by rw [List.getElem?_set_ne n]; exact e
end G43
namespace G43
open PySem
end G43
set_option Elab.async false
set_option linter.all false
set_option maxRecDepth 100000
set_option maxHeartbeats 4000000
namespace G43
open PySem
/-! ### any things -/
def plain : PV → Bool
  | .fn _ => false
  | .obj _ _ => false
  | .scr _ => false
  | _ => true
def plain2 : PV → Bool
  | .tup l => l.all plain
  | p => plain p
def whole : PV → Bool
  | .int _ => true
  | _ => false
def isPt : PV → Bool
  | .tup [.int n, .int d] => decide (0 < d) && decide (Int.gcd n d = 1)
  | _ => false
theorem isPt_pt {p : PV} (h : isPt p = true) : ∃ q : Rat, p = pt q := by
  unfold isPt at h
  split at h
  · rename_i n d
    rw [Bool.and_eq_true, decide_eq_true_eq, decide_eq_true_eq] at h
    refine ⟨⟨n, d.toNat, by omega, ?_⟩, ?_⟩
    · have : Nat.gcd n.natAbs d.natAbs = 1 := h.2
      have e : d.toNat = d.natAbs := by omega
      show Nat.Coprime _ _
      rw [e]
      exact this
    · unfold pt
      have e : (d.toNat : Int) = d := Int.toNat_of_nonneg (by omega)
      show _ = PV.tup [.int n, .int (d.toNat : Int)]
      rw [e]
  · cases h
theorem pt_isPt (q : Rat) : isPt (pt q) = true := by
  unfold pt isPt
  rw [Bool.and_eq_true, decide_eq_true_eq, decide_eq_true_eq]
  refine ⟨den_pos' q, ?_⟩
  unfold Int.gcd
  rw [den_nat]
  exact q.reduced
/-- a call that raises, whatever its fields -/
def Rsx (P : Pg) (k f : Nat) (args : List PV) (x : XV) : Prop := ∀ d, k ≤ d → ∀ (h : Hs) (Q : QV) (X : QX), X x h → wpC P d f (args.map .pv) h Q X
/-- a call that raises -/
def Rse (P : Pg) (k f : Nat) (args : List PV) (c : Nat) : Prop := ∀ d, k ≤ d → ∀ (h : Hs) (Q : QV) (X : QX), X ⟨c, []⟩ h → wpC P d f (args.map .pv) h Q X
end G43
namespace G43
open PySem
section
variable {h : Hs} {k : Bool → Prop}
theorem is_tupA {p : PV} (hp : plain p = true) : kIs (.pv p) .tuple h k = k (match p with | .tup _ => true | _ => false) := by
  rw [k_is]; cases p <;> first | (cases hp; done) | simp [isB, tyOf]
theorem is_intA {p : PV} (hp : plain p = true) : kIs (.pv p) .int h k = k (match p with | .int _ => true | .bl _ => true | _ => false) := by
  rw [k_is]; cases p <;> first | (cases hp; done) | simp [isB, tyOf]
theorem is_boolA {p : PV} (hp : plain p = true) : kIs (.pv p) .bool h k = k (match p with | .bl _ => true | _ => false) := by
  rw [k_is]; cases p <;> first | (cases hp; done) | simp [isB, tyOf]
end
end G43
set_option Elab.async false
set_option linter.all false
set_option maxRecDepth 100000
set_option maxHeartbeats 4000000
namespace G43
open PySem
/-! ### tellings and rows -/
structure Tel where
  a : Nat
  b : Nat
  lo : Option Rat
  hi : Option Rat
def ob : Option Rat → PV
  | none => .non
  | some q => pt q
def encT (t : Tel) : PV := .tup [.int t.a, .int t.b, ob t.lo, ob t.hi]
structure OkT (s : Nat) (t : Tel) : Prop where
  a6 : t.a < 6
  b6 : t.b < 6
  ne : t.a ≠ t.b
  so : t.lo ≠ none ∨ t.hi ≠ none
  le : ∀ l h, t.lo = some l → t.hi = some h → ¬ h < l
  zl : ∀ l, t.lo = some l → Sz s l
  zh : ∀ l, t.hi = some l → Sz s l
def tls (ts : List Tel) : PV := .tup (ts.map encT)
def rowP (r : List Rat) : PV := .tup (r.map pt)
def keptT (t : Tel) (r : List Rat) : Bool :=
  (match t.lo with | none => true | some l => !decide (r.getD t.b 0 - r.getD t.a 0 < l)) && (match t.hi with | none => true | some h => !decide (h < r.getD t.b 0 - r.getD t.a 0))
def fstIdx {α : Type} (bad : α → Bool) : List α → Nat → Option Nat
  | [], _ => none
  | a :: l, n => if bad a = true then some n else fstIdx bad l (n + 1)
def numP : Option Nat → PV
  | none => .non
  | some n => .int n
theorem enmL_map {α : Type} (f : α → PV) (l : List α) : enmL (l.map f) = (l.zipIdx).map fun p => PV.tup [.int p.2, f p.1] := by
  unfold enmL
  rw [List.zipIdx_map, List.map_map]
  rfl
def inB (a b : Int) : PV → Bool
  | .int n => decide (a ≤ n) && decide (n ≤ b)
  | _ => false
def isRow : PV → Bool
  | .tup (x :: l) => decide (l.length = 5) && (x :: l).all isPt && peq x (.tup [.int 0, .int 1])
  | _ => false
structure RowOk (s : Nat) (r : List Rat) : Prop where
  l : r.length = 6
  z : r.getD 0 0 = 0
  s : ∀ i, Sz s (r.getD i 0)
theorem getD_sz {s : Nat} (hs : 1 ≤ s) {r : List Rat} (h : ∀ q ∈ r, Sz s q) (i : Nat) : Sz s (r.getD i 0) := by
  by_cases hi : i < r.length
  · rw [List.getD_eq_getElem?_getD, List.getElem?_eq_getElem hi]
    exact h _ (List.getElem_mem hi)
  · rw [List.getD_eq_getElem?_getD, List.getElem?_eq_none (by omega)]
    exact sz0.up hs
theorem cut_drop {l : List PV} {n : Int} (h0 : 0 ≤ n) (h : n ≤ l.length) : cut l (some n) none = l.drop n.toNat := by
  have e1 : HT.sIx l.length 0 (some n) = n.toNat := by
    unfold HT.sIx
    simp only
    split <;> omega
  have e2 : HT.sIx l.length l.length none = l.length := rfl
  unfold cut
  rw [e1, e2, List.take_of_length_le (by rw [List.length_drop]; omega)]
theorem dt_str {n : Nat} {s : Str} (e : PyData.strOk s = true) : Dt n (.str s) := by cases n <;> exact e
/-- a thing that is no row -/
structure Bd (b : Nat) (x : PV) : Prop where
  p : plain x = true
  q : ∀ l, x = .tup l → ∀ y ∈ l, plain2 y = true ∧ ∀ n m, y = .tup [.int n, .int m] → m.natAbs < 2 ^ b
  r : isRow x = false
theorem RowOk.up {a b : Nat} {r : List Rat} (k : RowOk a r) (h : a ≤ b) : RowOk b r := ⟨k.l, k.z, fun i => (k.s i).up h⟩
theorem OkT.up {a b : Nat} {t : Tel} (k : OkT a t) (h : a ≤ b) : OkT b t := ⟨k.a6, k.b6, k.ne, k.so, k.le, fun l e => (k.zl l e).up h, fun l e => (k.zh l e).up h⟩
/-! ### lengths on a grid -/
def GG : Nat := 591133442051411133755680800
def Gz (B : Nat) (x : Rat) : Prop := ∃ z : Int, x * (GG : Rat) = (z : Rat) ∧ z.natAbs ≤ B
theorem Gz.up {A B : Nat} {x : Rat} (h : Gz A x) (l : A ≤ B) : Gz B x := let ⟨z, e, k⟩ := h; ⟨z, e, Nat.le_trans k l⟩
theorem Gz.add {A B : Nat} {x y : Rat} (h : Gz A x) (k : Gz B y) : Gz (A + B) (x + y) := by
  obtain ⟨z, e, l⟩ := h
  obtain ⟨w, e2, l2⟩ := k
  refine ⟨z + w, ?_, by omega⟩
  rw [Rat.intCast_add, ← e, ← e2]
  grind
theorem Gz.neg {A : Nat} {x : Rat} (h : Gz A x) : Gz A (-x) := by
  obtain ⟨z, e, l⟩ := h
  refine ⟨-z, ?_, by omega⟩
  rw [Rat.intCast_neg, ← e]
  grind
theorem Gz.sub {A B : Nat} {x y : Rat} (h : Gz A x) (k : Gz B y) : Gz (A + B) (x - y) := by
  have := h.add k.neg
  rwa [show x + -y = x - y by grind] at this
theorem num_den (x : Rat) : x * (x.den : Rat) = (x.num : Rat) := by
  have h : (x.num : Rat) / (x.den : Rat) = x := by rw [← Rat.mkRat_eq_div, Rat.mkRat_self]
  have hd : (x.den : Rat) ≠ 0 := by
    intro e
    exact x.den_nz (by exact_mod_cast e)
  generalize (x.den : Rat) = d at h hd
  generalize (x.num : Rat) = n at h
  grind
/-- a telling's bounds on the grid -/
def GdT (B : Nat) (t : Tel) : Prop := ∀ x, (t.lo = some x ∨ t.hi = some x) → Gz (B * GG) x
theorem GdT.up {A B : Nat} {t : Tel} (h : GdT A t) (l : A ≤ B) : GdT B t := fun x hx => (h x hx).up (Nat.mul_le_mul_right GG l)
end G43
set_option Elab.async false
set_option linter.all false
set_option maxRecDepth 100000
set_option maxHeartbeats 4000000
namespace G43
open PySem
/-! ### ways -/
def stepOf (n : Nat) : PV → Option (Nat × Bool)
  | .tup [.int a, .int b] => if (0 ≤ a ∧ a < n) ∧ (b = 1 ∨ b = -1) then some (a.toNat, decide (b = 1)) else none
  | _ => none
theorem stepOf_int {n : Nat} {a b : Int} : stepOf n (.tup [.int a, .int b]) = if (0 ≤ a ∧ a < n) ∧ (b = 1 ∨ b = -1) then some (a.toNat, decide (b = 1)) else none := rfl
def goT (t : Tel) (s : Bool) (c : Nat × Rat) : Option (Nat × Rat) :=
  if s = true then (match t.hi with | some h => if c.1 = t.a then some (t.b, c.2 + h) else none | none => none)
  else (match t.lo with | some l => if c.1 = t.b then some (t.a, c.2 - l) else none | none => none)
def stepW (ts : List Tel) (c : Nat × Rat) (x : PV) : Option (Nat × Rat) :=
  match stepOf ts.length x with
  | none => none
  | some (a, s) => match ts[a]? with | some t => goT t s c | none => none
def foldO {σ : Type} (f : σ → PV → Option σ) : List PV → σ → Option σ
  | [], s => some s
  | x :: r, s => match f s x with | none => none | some s' => foldO f r s'
def resP : Option (Nat × Rat) → PV
  | none => .non
  | some c => .tup [.int c.1, pt c.2]
def wayR (ts : List Tel) (n : Nat) : PV → Option (Nat × Rat)
  | .tup l => if l.length ≤ 60 then foldO (stepW ts) l (n, 0) else none
  | _ => none
/-- how long what is come to may be -/
def InvW (s : Nat) (i : Nat) (c : Nat × Rat) : Prop := c.1 < 6 ∧ Sz (1 + i * (s + 1)) c.2
theorem InvW.go {s i : Nat} {c c' : Nat × Rat} {t : Tel} {b : Bool} (h : InvW s i c) (k : OkT s t) (e : goT t b c = some c') : InvW s (i + 1) c' := by
  have hn : 1 + (i + 1) * (s + 1) = 1 + i * (s + 1) + s + 1 := by rw [Nat.succ_mul]; omega
  unfold goT at e
  split at e
  · split at e
    · rename_i q hq
      split at e
      · cases e
        exact ⟨k.b6, by rw [hn]; exact h.2.add (k.zh _ hq)⟩
      · cases e
    · cases e
  · split at e
    · rename_i q hq
      split at e
      · cases e
        exact ⟨k.a6, by rw [hn]; exact h.2.sub (k.zl _ hq)⟩
      · cases e
    · cases e
theorem InvW.step {s i : Nat} {ts : List Tel} {c c' : Nat × Rat} {x : PV} (h : InvW s i c) (k : ∀ a b t, stepOf ts.length x = some (a, b) → ts[a]? = some t → OkT s t) (e : stepW ts c x = some c') : InvW s (i + 1) c' := by
  unfold stepW at e
  split at e
  · cases e
  · rename_i a b hab
    split at e
    · rename_i t ht
      exact h.go (k a b t hab ht) e
    · cases e
theorem atTel {ts : List Tel} {a : Nat} {t : Tel} {h : Hs} {k : PV → Prop} (e : ts[a]? = some t) : kIx (.pv (.tup (ts.map encT))) (.pv (.int a)) h k = k (encT t) := by
  rw [k_ixt]
  have hl := (List.getElem?_eq_some_iff.mp e).1
  have e2 : atI (ts.map encT) (a : Int) = some (encT t) := by
    unfold atI L2.atI L2.ixN
    rw [if_pos (by omega), if_pos (by rw [List.length_map]; omega)]
    simp [e]
  rw [e2]
  simp
theorem cut_tk {l : List PV} {n : Nat} : cut l none (some (n : Int)) = l.take n := by
  have e1 : HT.sIx l.length 0 none = 0 := rfl
  have e2 : HT.sIx l.length l.length (some (n : Int)) = min n l.length := by
    unfold HT.sIx
    simp only
    split <;> omega
  unfold cut
  rw [e1, e2, List.drop_zero, Nat.sub_zero]
  rcases Nat.le_total n l.length with q | q
  · rw [Nat.min_eq_left q]
  · rw [Nat.min_eq_right q, List.take_of_length_le (Nat.le_refl _), List.take_of_length_le q]
theorem allA {α : Type} {P : α → Prop} {a b : List α} (ha : ∀ x ∈ a, P x) (hb : ∀ x ∈ b, P x) : ∀ x ∈ a ++ b, P x := fun x hx => (List.mem_append.mp hx).elim (ha x) (hb x)
end G43
set_option Elab.async false
set_option linter.all false
set_option maxRecDepth 100000
set_option maxHeartbeats 4000000
namespace G43
open PySem
/-! ### the numbers of what is kept -/
def goodIx {α : Type} (good : α → Bool) : List α → Nat → List Nat
  | [], _ => []
  | t :: ts, n => (if good t = true then [n] else []) ++ goodIx good ts (n + 1)
def numsP (l : List Nat) : PV := .tup (l.map fun n => PV.int (n : Nat))
/-- a thing that may be a row -/
structure BdR (b : Nat) (x : PV) : Prop where
  p : plain x = true
  q : ∀ l, x = .tup l → ∀ y ∈ l, plain2 y = true ∧ ∀ n m, y = .tup [.int n, .int m] → n.natAbs < 2 ^ b ∧ m.natAbs < 2 ^ b
theorem parts_of {b : Nat} : ∀ {l : List PV}, (∀ y ∈ l, isPt y = true) → (∀ y ∈ l, ∀ n m, y = .tup [.int n, .int m] → n.natAbs < 2 ^ b ∧ m.natAbs < 2 ^ b) → ∃ r : List Rat, l = r.map pt ∧ ∀ q ∈ r, Sz b q
  | [], _, _ => ⟨[], rfl, by simp⟩
  | y :: l, h1, h2 => by
    obtain ⟨r, e, hr⟩ := parts_of (l := l) (fun y hy => h1 y (by simp [hy])) (fun y hy => h2 y (by simp [hy]))
    obtain ⟨q, rfl⟩ := isPt_pt (h1 y (by simp))
    refine ⟨q :: r, by rw [e]; rfl, ?_⟩
    have := h2 (pt q) (by simp) q.num q.den rfl
    intro w hw
    rcases List.mem_cons.mp hw with rfl | hw
    · exact ⟨this.1, by rw [← den_nat]; exact this.2⟩
    · exact hr w hw
theorem BdR.row {b : Nat} {x : PV} (k : BdR b x) (hb : 1 ≤ b) (h : isRow x = true) : ∃ r, x = rowP r ∧ RowOk b r := by
  cases x with
  | tup l =>
    cases l with
    | nil => cases h
    | cons y l =>
      have h' : (decide (l.length = 5) && (y :: l).all isPt && peq y (.tup [.int 0, .int 1])) = true := h
      rw [Bool.and_eq_true, Bool.and_eq_true, decide_eq_true_eq, List.all_eq_true] at h'
      obtain ⟨⟨h1, h2⟩, h3⟩ := h'
      obtain ⟨r, e, hr⟩ := parts_of h2 (fun w hw => (k.q _ rfl w hw).2)
      refine ⟨r, by rw [e]; rfl, ?_, ?_, getD_sz hb hr⟩
      · have : (y :: l).length = r.length := by rw [e, List.length_map]
        rw [← this, List.length_cons, h1]
      · cases r with
        | nil => cases e
        | cons q r =>
          rw [List.map_cons] at e
          injection e with e1 e2
          rw [e1] at h3
          have : peq (pt q) (pt 0) = true := h3
          rw [pt_inj, decide_eq_true_eq] at this
          exact this
  | _ => cases h
end G43
set_option Elab.async false
set_option linter.all false
set_option maxRecDepth 100000
set_option maxHeartbeats 4000000
namespace G43
open PySem
/-! ### elements of things -/
def ElR (b : Nat) (y : PV) : Prop := plain2 y = true ∧ ∀ n m, y = .tup [.int n, .int m] → n.natAbs < 2 ^ b ∧ m.natAbs < 2 ^ b
theorem elr_pt {b : Nat} {q : Rat} (s : Sz b q) : ElR b (pt q) := by
  refine ⟨rfl, ?_⟩
  intro n m e
  unfold pt at e
  cases e
  exact ⟨s.1, by rw [den_nat]; exact s.2⟩
theorem elr_flat {b : Nat} {y : PV} (h : flat y = true) : ElR b y := by
  cases y <;> first
    | (cases h; done)
    | exact ⟨rfl, by intro n m e; cases e⟩
theorem ElR.up {a b : Nat} {y : PV} (h : ElR a y) (hb : a ≤ b) : ElR b y := ⟨h.1, fun n m e => ⟨Nat.lt_of_lt_of_le (h.2 n m e).1 (Nat.pow_le_pow_right (by decide) hb), Nat.lt_of_lt_of_le (h.2 n m e).2 (Nat.pow_le_pow_right (by decide) hb)⟩⟩
theorem ElR.sz {b : Nat} {q : Rat} (h : ElR b (pt q)) : Sz b q := by
  have := h.2 q.num q.den rfl
  exact ⟨this.1, by rw [← den_nat]; exact this.2⟩
/-! ### carriages -/
structure Car where
  a : Nat
  b : Nat
  left : Rat
  came : Rat
  days : Rat
  least : Rat
  most : Rat
def encC (c : Car) : PV := .tup [.int c.a, .int c.b, pt c.left, pt c.came, pt c.days, pt c.least, pt c.most]
structure OkCar (s : Nat) (c : Car) : Prop where
  a6 : c.a < 6
  b6 : c.b < 6
  ne : c.a ≠ c.b
  d0 : 0 ≤ c.days
  le : ¬ c.most < c.least
  z1 : Sz s c.left
  z2 : Sz s c.came
  z3 : Sz s c.days
  z4 : Sz s c.least
  z5 : Sz s c.most
theorem OkCar.up {s t : Nat} {c : Car} (k : OkCar s c) (h : s ≤ t) : OkCar t c := ⟨k.a6, k.b6, k.ne, k.d0, k.le, k.z1.up h, k.z2.up h, k.z3.up h, k.z4.up h, k.z5.up h⟩
/-- its days are from 0 on, its most is no less than its least -/
def carEnd : PV → PV → PV → Bool
  | .tup [.int n, _], .tup [.int a, .int b], .tup [.int c, .int d] => decide (0 ≤ n) && !decide (c * b < a * d)
  | _, _, _ => false
def isCar : PV → Bool
  | .tup [x0, x1, x2, x3, x4, x5, x6] => inB 0 5 x0 && (inB 0 5 x1 && (!peq x0 x1 && ([x2, x3, x4, x5, x6].all isPt && carEnd x4 x5 x6)))
  | _ => false
theorem carEnd_pt {d a b : Rat} : carEnd (pt d) (pt a) (pt b) = (decide (0 ≤ d.num) && !decide (b < a)) := by
  show (decide (0 ≤ d.num) && !decide (b.num * (a.den : Int) < a.num * (b.den : Int))) = _
  rw [lt_made]
theorem OkCar.is {s : Nat} {c : Car} (k : OkCar s c) : isCar (encC c) = true := by
  show (inB 0 5 (.int c.a) && (inB 0 5 (.int c.b) && (!peq (.int c.a) (.int c.b) && ([pt c.left, pt c.came, pt c.days, pt c.least, pt c.most].all isPt && carEnd (pt c.days) (pt c.least) (pt c.most))))) = true
  have h1 := k.a6
  have h2 := k.b6
  have h3 := k.ne
  rw [carEnd_pt]
  simp [inB, peq, pt_isPt, k.le, Rat.num_nonneg, k.d0]
  omega
theorem OkCar.bd {s : Nat} {c : Car} (k : OkCar s c) : ∀ y ∈ [PV.int c.a, .int c.b, pt c.left, pt c.came, pt c.days, pt c.least, pt c.most], ElR s y :=
  allC (elr_flat rfl) (allC (elr_flat rfl) (allC (elr_pt k.z1) (allC (elr_pt k.z2) (allC (elr_pt k.z3) (allC (elr_pt k.z4) (allC (elr_pt k.z5) all1))))))
/-- what a carriage tells -/
def telC (c : Car) : Tel := ⟨c.a, c.b, some (c.left - c.came + c.least * c.days), some (c.left - c.came + c.most * c.days)⟩
/-! ### rounds -/
def qdiv (p q : Rat) : Rat := Rat.divInt (p.num * q.den) (p.den * q.num)
def lacksC (c1 c2 : Car) : Rat := (c1.left - c1.came) + (c2.left - c2.came)
def gainC (c1 c2 : Car) : Option Rat :=
  if c1.days + c2.days = 0 then (if lacksC c1 c2 = 0 then some (if c1.least < c2.least then c2.least else c1.least) else none) else some (qdiv (-(lacksC c1 c2)) (c1.days + c2.days))
def inC (g : Rat) (c : Car) : Bool := !decide (g < c.least) && !decide (c.most < g)
def endC (c1 c2 : Car) : Option Rat → PV
  | none => .non
  | some g => if (inC g c1 && inC g c2) = true then .tup [pt g, pt (c1.left - c1.came + g * c1.days)] else .non
theorem pt_neg0 (q : Rat) : PV.tup [.int (0 - q.num), .int q.den] = pt (-q) := by
  unfold pt
  rw [Rat.neg_num, Rat.neg_den, Int.zero_sub]
end G43
set_option Elab.async false
set_option linter.all false
set_option maxRecDepth 100000
set_option maxHeartbeats 4000000
namespace G43
open PySem
/-! ### steps and shortest ways -/
structure Stp where
  a : Nat
  c : Nat
  w : Rat
  n : Nat
  s : Int
abbrev Lab := Rat × List (Nat × Int)
def relax (F : List (Option Lab)) (e : Stp) : List (Option Lab) × Bool :=
  match F.getD e.a none with
  | none => (F, false)
  | some x => match F.getD e.c none with
    | none => (F.set e.c (some (x.1 + e.w, x.2 ++ [(e.n, e.s)])), true)
    | some z => if x.1 + e.w < z.1 then (F.set e.c (some (x.1 + e.w, x.2 ++ [(e.n, e.s)])), true) else (F, false)
def stepR (st : List (Option Lab) × Option Nat) (e : Stp) : List (Option Lab) × Option Nat := ((relax st.1 e).1, if (relax st.1 e).2 = true then some e.c else st.2)
def rnd (es : List Stp) (F : List (Option Lab)) : List (Option Lab) × Option Nat := es.foldl stepR (F, none)
def rounds (es : List Stp) (F : List (Option Lab)) : Nat → List (Option Lab) × Option Nat
  | 0 => (F, none)
  | k + 1 => rnd es (rounds es F k).1
/-- a step is kept -/
def sat (F : List (Option Lab)) (e : Stp) : Prop := F.getD e.a none = none ∨ ∃ x z, F.getD e.a none = some x ∧ F.getD e.c none = some z ∧ z.1 ≤ x.1 + e.w
def InE (es : List Stp) : Prop := ∀ e ∈ es, e.a < 6 ∧ e.c < 6
theorem relax_cases (F : List (Option Lab)) (e : Stp) : (relax F e = (F, false) ∧ sat F e) ∨ (∃ x, F.getD e.a none = some x ∧ relax F e = (F.set e.c (some (x.1 + e.w, x.2 ++ [(e.n, e.s)])), true) ∧ ¬ sat F e) := by
  unfold relax
  cases ha : F.getD e.a none with
  | none => exact .inl ⟨rfl, .inl ha⟩
  | some x =>
    cases hc : F.getD e.c none with
    | none =>
      refine .inr ⟨x, rfl, rfl, ?_⟩
      rintro (h | ⟨x', z, h1, h2, h3⟩)
      · rw [ha] at h; cases h
      · rw [hc] at h2; cases h2
    | some z =>
      by_cases hl : x.1 + e.w < z.1
      · refine .inr ⟨x, rfl, by simp only [if_pos hl], ?_⟩
        rintro (h | ⟨x', z', h1, h2, h3⟩)
        · rw [ha] at h; cases h
        · rw [ha] at h1; cases h1
          rw [hc] at h2; cases h2
          exact absurd hl (Rat.not_lt.mpr h3)
      · exact .inl ⟨by simp only [if_neg hl], .inr ⟨x, z, ha, hc, Rat.not_lt.mp hl⟩⟩
theorem getD_set_self {F : List (Option Lab)} {i : Nat} {v : Option Lab} (h : i < F.length) : (F.set i v).getD i none = v := by
  rw [List.getD_eq_getElem?_getD, List.getElem?_set_self h]
  rfl
theorem getD_set_ne {F : List (Option Lab)} {i j : Nat} {v : Option Lab} (h : i ≠ j) : (F.set i v).getD j none = F.getD j none := by
  rw [List.getD_eq_getElem?_getD, List.getElem?_set_ne h, ← List.getD_eq_getElem?_getD]
/-! ### how long ways are -/
/-- in turn k, the steps of pre gone along -/
def Aged (k : Nat) (F : List (Option Lab)) (e : Stp) : Prop := sat F e ∨ ∃ x, F.getD e.a none = some x ∧ k ≤ x.2.length
theorem aged_up {k : Nat} {F : List (Option Lab)} {e f : Stp} {x : Lab} (hl : F.length = 6) (hf : f.a < 6 ∧ f.c < 6) (hx : F.getD f.a none = some x) (ns : ¬ sat F f) (hk : k ≤ (x.2 ++ [(f.n, f.s)]).length) {j : Nat} (hj : j ≤ k) (h : Aged j F e) (he : e.a < 6 ∧ e.c < 6) :
    Aged j (F.set f.c (some (x.1 + f.w, x.2 ++ [(f.n, f.s)]))) e := by
  by_cases ea : f.c = e.a
  · right
    refine ⟨_, by rw [← ea, getD_set_self (by omega)], Nat.le_trans hj hk⟩
  · rcases h with (h | ⟨y, z, h1, h2, h3⟩) | ⟨y, h1, h2⟩
    · exact .inl (.inl (by rw [getD_set_ne ea]; exact h))
    · left
      right
      by_cases ec : f.c = e.c
      · refine ⟨y, _, by rw [getD_set_ne ea]; exact h1, by rw [← ec, getD_set_self (by omega)], ?_⟩
        -- the label of that clock got less
        have : x.1 + f.w ≤ z.1 := by
          by_cases q : z.1 < x.1 + f.w
          · exact absurd (.inr ⟨x, z, hx, by rw [ec]; exact h2, Rat.le_of_lt q⟩) ns
          · exact Rat.not_lt.mp q
        exact Rat.le_trans this h3
      · exact ⟨y, z, by rw [getD_set_ne ea]; exact h1, by rw [getD_set_ne ec]; exact h2, h3⟩
    · exact .inr ⟨y, by rw [getD_set_ne ea]; exact h1, h2⟩
theorem aged_round {es : List Stp} (hE : InE es) {k : Nat} : ∀ (post pre : List Stp) (F : List (Option Lab)) (nr : Option Nat), es = pre ++ post → F.length = 6 → (∀ e ∈ pre, Aged (k + 1) F e) → (∀ e ∈ post, Aged k F e) → (∀ c, nr = some c → c < 6 ∧ ∃ x, F.getD c none = some x ∧ k + 1 ≤ x.2.length) →
    (post.foldl stepR (F, nr)).1.length = 6 ∧ (∀ e ∈ es, Aged (k + 1) (post.foldl stepR (F, nr)).1 e) ∧ ∀ c, (post.foldl stepR (F, nr)).2 = some c → c < 6 ∧ ∃ x, (post.foldl stepR (F, nr)).1.getD c none = some x ∧ k + 1 ≤ x.2.length
  | [], pre, F, nr, e, hl, h1, h2, h3 => by
    rw [List.append_nil] at e
    subst e
    exact ⟨hl, h1, h3⟩
  | f :: post, pre, F, nr, e, hl, h1, h2, h3 => by
    rw [List.foldl_cons]
    have hf : f.a < 6 ∧ f.c < 6 := hE f (by rw [e]; simp)
    have e' : es = (pre ++ [f]) ++ post := by rw [e]; simp
    have ag := h2 f (by simp)
    rcases relax_cases F f with ⟨h, hs⟩ | ⟨x, hx, h, ns⟩
    · have es' : stepR (F, nr) f = (F, nr) := by
        unfold stepR
        rw [h]
        rfl
      rw [es']
      refine aged_round hE post (pre ++ [f]) F nr e' hl ?_ (fun g hg => h2 g (by simp [hg])) h3
      intro g hg
      rcases List.mem_append.mp hg with hg | hg
      · exact h1 g hg
      · rw [List.mem_singleton] at hg
        subst hg
        exact .inl hs
    · have es' : stepR (F, nr) f = (F.set f.c (some (x.1 + f.w, x.2 ++ [(f.n, f.s)])), some f.c) := by
        unfold stepR
        rw [h]
        rfl
      rw [es']
      have hk : k + 1 ≤ (x.2 ++ [(f.n, f.s)]).length := by
        rcases ag with ag | ⟨y, hy, hk⟩
        · exact absurd ag ns
        · rw [hx] at hy
          cases hy
          rw [List.length_append]
          simp
          omega
      have hE2 : ∀ g ∈ es, g.a < 6 ∧ g.c < 6 := hE
      refine aged_round hE post (pre ++ [f]) _ _ e' (by rw [List.length_set]; exact hl) ?_ ?_ ?_
      · intro g hg
        rcases List.mem_append.mp hg with hg | hg
        · exact aged_up hl hf hx ns hk (Nat.le_refl _) (h1 g hg) (hE2 g (by rw [e]; simp [hg]))
        · rw [List.mem_singleton] at hg
          subst hg
          by_cases ea : g.c = g.a
          · right
            exact ⟨_, by rw [← ea, getD_set_self (by omega)], hk⟩
          · left
            right
            exact ⟨x, _, by rw [getD_set_ne ea]; exact hx, getD_set_self (by omega), Rat.le_refl⟩
      · intro g hg
        exact aged_up hl hf hx ns hk (Nat.le_succ k) (h2 g (by simp [hg])) (hE2 g (by rw [e]; simp [hg]))
      · intro c hc
        cases hc
        exact ⟨hf.2, _, getD_set_self (by omega), hk⟩
theorem aged_rounds {es : List Stp} (hE : InE es) {F : List (Option Lab)} (hl : F.length = 6) : ∀ k, (rounds es F k).1.length = 6 ∧ (∀ e ∈ es, Aged k (rounds es F k).1 e) ∧ ∀ c, (rounds es F k).2 = some c → c < 6 ∧ ∃ x, (rounds es F k).1.getD c none = some x ∧ k ≤ x.2.length
  | 0 => by
    refine ⟨hl, fun e _ => ?_, fun c h => by cases h⟩
    cases h : F.getD e.a none with
    | none => exact .inl (.inl h)
    | some x => exact .inr ⟨x, h, Nat.zero_le _⟩
  | k + 1 => by
    obtain ⟨h1, h2, _⟩ := aged_rounds hE hl k
    exact aged_round hE es [] _ none rfl h1 (by simp) h2 (by intro c h; cases h)
/-! ### nothing got nearer -/
theorem fold_none : ∀ {es : List Stp} {F : List (Option Lab)} {nr : Option Nat}, (es.foldl stepR (F, nr)).2 = none → nr = none ∧ (es.foldl stepR (F, nr)).1 = F ∧ ∀ e ∈ es, sat F e
  | [], F, nr, h => ⟨h, rfl, by simp⟩
  | e :: es, F, nr, h => by
    rw [List.foldl_cons] at h ⊢
    rcases relax_cases F e with ⟨hr, hs⟩ | ⟨x, hx, hr, ns⟩
    · have e1 : stepR (F, nr) e = (F, nr) := by unfold stepR; rw [hr]; rfl
      rw [e1] at h ⊢
      obtain ⟨q1, q2, q3⟩ := fold_none h
      refine ⟨q1, q2, fun g hg => ?_⟩
      rcases List.mem_cons.mp hg with rfl | hg
      · exact hs
      · exact q3 g hg
    · have e1 : stepR (F, nr) e = (F.set e.c (some (x.1 + e.w, x.2 ++ [(e.n, e.s)])), some e.c) := by unfold stepR; rw [hr]; rfl
      rw [e1] at h
      obtain ⟨q1, _⟩ := fold_none h
      cases q1
/-! ### errors that keep all -/
def Feas (es : List Stp) : Prop := ∃ φ : Nat → Rat, ∀ e ∈ es, φ e.c ≤ φ e.a + e.w
def Pot (φ : Nat → Rat) (F : List (Option Lab)) : Prop := ∀ a x, F.getD a none = some x → ∃ pts : List Nat, pts.length = x.2.length + 1 ∧ pts.Nodup ∧ a ∈ pts ∧ ∀ c ∈ pts, c < 6 ∧ ∃ y, F.getD c none = some y ∧ y.1 - φ c ≤ x.1 - φ a
theorem pot_step {φ : Nat → Rat} {F : List (Option Lab)} {f : Stp} {x : Lab} (hl : F.length = 6) (hf : f.a < 6 ∧ f.c < 6) (hw : φ f.c ≤ φ f.a + f.w) (P : Pot φ F) (hx : F.getD f.a none = some x) (ns : ¬ sat F f) :
    Pot φ (F.set f.c (some (x.1 + f.w, x.2 ++ [(f.n, f.s)]))) := by
  obtain ⟨pts, p1, p2, p3, p4⟩ := P f.a x hx
  have nin : f.c ∉ pts := by
    intro hin
    obtain ⟨_, y, hy, hle⟩ := p4 _ hin
    refine ns (.inr ⟨x, y, hx, hy, ?_⟩)
    grind
  have old : ∀ c y, F.getD c none = some y → c < 6 → ∃ z, (F.set f.c (some (x.1 + f.w, x.2 ++ [(f.n, f.s)]))).getD c none = some z ∧ z.1 ≤ y.1 := by
    intro c y hy hc
    by_cases e : f.c = c
    · subst e
      refine ⟨_, getD_set_self (by omega), ?_⟩
      by_cases q : y.1 < x.1 + f.w
      · exact absurd (.inr ⟨x, y, hx, hy, Rat.le_of_lt q⟩) ns
      · exact Rat.not_lt.mp q
    · exact ⟨y, by rw [getD_set_ne e]; exact hy, Rat.le_refl⟩
  intro a z hz
  by_cases e : f.c = a
  · subst e
    rw [getD_set_self (by omega)] at hz
    cases hz
    refine ⟨f.c :: pts, by rw [List.length_cons, p1, List.length_append]; simp, List.nodup_cons.mpr ⟨nin, p2⟩, by simp, ?_⟩
    intro c hc
    rcases List.mem_cons.mp hc with rfl | hc
    · exact ⟨hf.2, _, getD_set_self (by omega), Rat.le_refl⟩
    · obtain ⟨h6, y, hy, hle⟩ := p4 c hc
      have ne : f.c ≠ c := fun z => nin (by rw [z]; exact hc)
      refine ⟨h6, y, by rw [getD_set_ne ne]; exact hy, ?_⟩
      show y.1 - φ c ≤ x.1 + f.w - φ f.c
      grind
  · rw [getD_set_ne e] at hz
    obtain ⟨qs, q1, q2, q3, q4⟩ := P a z hz
    refine ⟨qs, q1, q2, q3, fun c hc => ?_⟩
    obtain ⟨h6, y, hy, hle⟩ := q4 c hc
    obtain ⟨w, hw1, hw2⟩ := old c y hy h6
    exact ⟨h6, w, hw1, by grind⟩
theorem pot_fold {φ : Nat → Rat} : ∀ {es : List Stp} {F : List (Option Lab)} {nr : Option Nat}, (∀ e ∈ es, (e.a < 6 ∧ e.c < 6) ∧ φ e.c ≤ φ e.a + e.w) → F.length = 6 → Pot φ F → Pot φ (es.foldl stepR (F, nr)).1 ∧ (es.foldl stepR (F, nr)).1.length = 6
  | [], F, nr, _, hl, P => ⟨P, hl⟩
  | e :: es, F, nr, hE, hl, P => by
    rw [List.foldl_cons]
    rcases relax_cases F e with ⟨hr, hs⟩ | ⟨x, hx, hr, ns⟩
    · have e1 : stepR (F, nr) e = (F, nr) := by unfold stepR; rw [hr]; rfl
      rw [e1]
      exact pot_fold (fun g hg => hE g (by simp [hg])) hl P
    · have e1 : stepR (F, nr) e = (F.set e.c (some (x.1 + e.w, x.2 ++ [(e.n, e.s)])), some e.c) := by unfold stepR; rw [hr]; rfl
      rw [e1]
      exact pot_fold (fun g hg => hE g (by simp [hg])) (by rw [List.length_set]; exact hl) (pot_step hl (hE e (by simp)).1 (hE e (by simp)).2 P hx ns)
theorem pot_rounds {φ : Nat → Rat} {es : List Stp} (hE : ∀ e ∈ es, (e.a < 6 ∧ e.c < 6) ∧ φ e.c ≤ φ e.a + e.w) {F : List (Option Lab)} (hl : F.length = 6) (P : Pot φ F) : ∀ k, Pot φ (rounds es F k).1 ∧ (rounds es F k).1.length = 6
  | 0 => ⟨P, hl⟩
  | k + 1 => by
    obtain ⟨h1, h2⟩ := pot_rounds hE hl P k
    exact pot_fold hE h2 h1
theorem nodup_le : ∀ (n : Nat) (l : List Nat), l.Nodup → (∀ x ∈ l, x < n) → l.length ≤ n
  | 0, l, _, h => by
    cases l with
    | nil => simp
    | cons a l => exact absurd (h a (by simp)) (by omega)
  | n + 1, l, hd, h => by
    by_cases hn : n ∈ l
    · have h1 := nodup_le n (l.erase n) (hd.erase n) (fun x hx => by
        have h2 := h x (List.mem_of_mem_erase hx)
        have h3 : x ≠ n := fun e => by
          subst e
          exact (List.Nodup.mem_erase_iff hd).mp hx |>.1 rfl
        omega)
      rw [List.length_erase_of_mem hn] at h1
      have := List.length_pos_of_mem hn
      omega
    · have := nodup_le n l hd (fun x hx => by
        have h2 := h x hx
        have h3 : x ≠ n := fun e => hn (by rw [← e]; exact hx)
        omega)
      omega
theorem pot_len {φ : Nat → Rat} {F : List (Option Lab)} (P : Pot φ F) {a : Nat} {x : Lab} (h : F.getD a none = some x) : x.2.length ≤ 5 := by
  obtain ⟨pts, p1, p2, _, p4⟩ := P a x h
  have := nodup_le 6 pts p2 (fun c hc => (p4 c hc).1)
  omega
/-- where some errors keep all, nothing gets nearer in the sixth turn -/
theorem calm {es : List Stp} (hE : InE es) {φ : Nat → Rat} (hφ : ∀ e ∈ es, φ e.c ≤ φ e.a + e.w) {F : List (Option Lab)} (hl : F.length = 6) (P : Pot φ F) {k : Nat} (hk : 6 ≤ k) : (rounds es F k).2 = none := by
  cases e : (rounds es F k).2 with
  | none => rfl
  | some c =>
    obtain ⟨_, x, hx, h6⟩ := (aged_rounds hE hl k).2.2 c e
    have := pot_len (pot_rounds (fun e he => ⟨hE e he, hφ e he⟩) hl P k).1 hx
    omega
/-! ### beginnings -/
def one0 (b : Nat) : List (Option Lab) := (List.replicate 6 none).set b (some (0, []))
def all0 : List (Option Lab) := List.replicate 6 (some (0, []))
theorem one0_len (b : Nat) : (one0 b).length = 6 := by simp [one0]
theorem one0_at {b a : Nat} {x : Lab} (h : (one0 b).getD a none = some x) : a = b ∧ b < 6 ∧ x = (0, []) := by
  unfold one0 at h
  by_cases e : b = a
  · subst e
    by_cases hb : b < 6
    · rw [getD_set_self (by simpa using hb)] at h
      cases h
      exact ⟨rfl, hb, rfl⟩
    · rw [List.getD_eq_getElem?_getD, List.getElem?_eq_none (by simp; omega)] at h
      cases h
  · rw [getD_set_ne e, List.getD_eq_getElem?_getD, List.getElem?_replicate] at h
    split at h <;> cases h
theorem one0_pot {φ : Nat → Rat} {b : Nat} : Pot φ (one0 b) := by
  intro a x h
  have h' := h
  obtain ⟨rfl, hb, rfl⟩ := one0_at h
  exact ⟨[a], rfl, by simp, by simp, fun c hc => by rw [List.mem_singleton] at hc; subst hc; exact ⟨hb, _, h', Rat.le_refl⟩⟩
/-! ### labels stay -/
theorem kept_fold {c : Nat} (hc : c < 6) : ∀ {es : List Stp} {F : List (Option Lab)} {nr : Option Nat}, F.length = 6 → (F.getD c none).isSome = true → (((es.foldl stepR (F, nr)).1).getD c none).isSome = true ∧ (es.foldl stepR (F, nr)).1.length = 6
  | [], F, nr, hl, h => ⟨h, hl⟩
  | e :: es, F, nr, hl, h => by
    rw [List.foldl_cons]
    rcases relax_cases F e with ⟨hr, hs⟩ | ⟨x, hx, hr, ns⟩
    · have e1 : stepR (F, nr) e = (F, nr) := by unfold stepR; rw [hr]; rfl
      rw [e1]
      exact kept_fold hc hl h
    · have e1 : stepR (F, nr) e = (F.set e.c (some (x.1 + e.w, x.2 ++ [(e.n, e.s)])), some e.c) := by unfold stepR; rw [hr]; rfl
      rw [e1]
      refine kept_fold hc (by rw [List.length_set]; exact hl) ?_
      by_cases q : e.c = c
      · rw [← q, getD_set_self (by omega)]
        rfl
      · rw [getD_set_ne q]
        exact h
theorem kept_rounds {es : List Stp} {F : List (Option Lab)} {c : Nat} (hc : c < 6) (hl : F.length = 6) (h : (F.getD c none).isSome = true) : ∀ k, (((rounds es F k).1).getD c none).isSome = true ∧ (rounds es F k).1.length = 6
  | 0 => ⟨h, hl⟩
  | k + 1 => by
    obtain ⟨h1, h2⟩ := kept_rounds hc hl h k
    exact kept_fold hc h2 h1
/-! ### from calm turns to errors -/
def minD (d : Rat) : List Rat → Rat
  | [] => d
  | x :: r => if x < minD d r then x else minD d r
theorem minD_le {d : Rat} : ∀ {l : List Rat} {x : Rat}, x = d ∨ x ∈ l → minD d l ≤ x
  | [], x, h => by
    rcases h with rfl | h
    · exact Rat.le_refl
    · cases h
  | y :: l, x, h => by
    unfold minD
    have ih : ∀ {x}, x = d ∨ x ∈ l → minD d l ≤ x := fun h => minD_le h
    split
    · rename_i hlt
      rcases h with rfl | h
      · exact Rat.le_trans (Rat.le_of_lt hlt) (ih (.inl rfl))
      · rcases List.mem_cons.mp h with rfl | h
        · exact Rat.le_refl
        · exact Rat.le_trans (Rat.le_of_lt hlt) (ih (.inr h))
    · rename_i hlt
      rcases h with rfl | h
      · exact ih (.inl rfl)
      · rcases List.mem_cons.mp h with rfl | h
        · exact Rat.not_lt.mp hlt
        · exact ih (.inr h)
theorem minD_mem {d : Rat} : ∀ {l : List Rat}, minD d l = d ∨ minD d l ∈ l
  | [] => .inl rfl
  | y :: l => by
    unfold minD
    split
    · exact .inr (by simp)
    · rcases minD_mem (d := d) (l := l) with h | h
      · exact .inl h
      · exact .inr (by simp [h])
/-- nearest over all beginnings -/
theorem feas_of {es : List Stp} (hE : InE es) (D : Nat → List (Option Lab)) (hs : ∀ b, b < 6 → (∀ e ∈ es, sat (D b) e) ∧ ((D b).getD b none).isSome = true) : Feas es := by
  refine ⟨fun v => minD (match (D v).getD v none with | some x => x.1 | none => 0) ((List.range 6).filterMap fun b => ((D b).getD v none).map (·.1)), ?_⟩
  intro e he
  obtain ⟨ha, hc⟩ := hE e he
  -- some beginning has the least one of the step's begin
  have att : ∃ b, b < 6 ∧ ∃ x, (D b).getD e.a none = some x ∧ x.1 = minD (match (D e.a).getD e.a none with | some x => x.1 | none => 0) ((List.range 6).filterMap fun b => ((D b).getD e.a none).map (·.1)) := by
    rcases minD_mem (d := match (D e.a).getD e.a none with | some x => x.1 | none => 0) (l := (List.range 6).filterMap fun b => ((D b).getD e.a none).map (·.1)) with h | h
    · obtain ⟨x, hx⟩ := Option.isSome_iff_exists.mp (hs e.a ha).2
      refine ⟨e.a, ha, x, hx, ?_⟩
      rw [h, hx]
    · obtain ⟨b, hb, e1⟩ := List.mem_filterMap.mp h
      rw [Option.map_eq_some_iff] at e1
      obtain ⟨x, hx, e2⟩ := e1
      exact ⟨b, List.mem_range.mp hb, x, hx, e2⟩
  obtain ⟨b, hb, x, hx, ex⟩ := att
  dsimp only
  rw [← ex]
  rcases (hs b hb).1 e he with h | ⟨x', z, h1, h2, h3⟩
  · rw [hx] at h; cases h
  · rw [hx] at h1
    cases h1
    refine Rat.le_trans (minD_le (.inr ?_)) h3
    exact List.mem_filterMap.mpr ⟨b, List.mem_range.mpr hb, by rw [h2]; rfl⟩
/-- errors that keep all, just where from no clock anything gets nearer in the sixth turn -/
theorem feas_iff {es : List Stp} (hE : InE es) : Feas es ↔ ∀ b, b < 6 → (rounds es (one0 b) 6).2 = none := by
  constructor
  · rintro ⟨φ, hφ⟩ b hb
    exact calm hE hφ (one0_len b) one0_pot (Nat.le_refl _)
  · intro h
    refine feas_of hE (fun b => (rounds es (one0 b) 6).1) fun b hb => ?_
    have h0 : ((one0 b).getD b none).isSome = true := by
      unfold one0
      rw [getD_set_self (by simpa using hb)]
      rfl
    refine ⟨?_, (kept_rounds hb (one0_len b) h0 6).1⟩
    obtain ⟨_, e1, e2⟩ := fold_none (es := es) (F := (rounds es (one0 b) 5).1) (nr := none) (h b hb)
    intro e he
    have e3 : (rounds es (one0 b) 6).1 = (rounds es (one0 b) 5).1 := e1
    rw [e3]
    exact e2 e he
end G43
set_option Elab.async false
set_option linter.all false
set_option maxRecDepth 100000
set_option maxHeartbeats 4000000
namespace G43
open PySem
/-! ### steps of tellings -/
def stp (t : Tel) (n : Nat) : List Stp := (match t.hi with | some h => [⟨t.a, t.b, h, n, 1⟩] | none => []) ++ (match t.lo with | some l => [⟨t.b, t.a, -l, n, -1⟩] | none => [])
def stepsFrom : List Tel → Nat → List Stp
  | [], _ => []
  | t :: ts, n => stp t n ++ stepsFrom ts (n + 1)
theorem steps_snoc {t : Tel} : ∀ {l : List Tel} {n : Nat}, stepsFrom (l ++ [t]) n = stepsFrom l n ++ stp t (n + l.length)
  | [], n => by simp [stepsFrom]
  | a :: l, n => by
    rw [List.cons_append, stepsFrom, stepsFrom, steps_snoc, List.length_cons, List.append_assoc, show n + 1 + l.length = n + (l.length + 1) by omega]
theorem stp_len (t : Tel) (n : Nat) : (stp t n).length ≤ 2 := by
  unfold stp
  cases t.hi <;> cases t.lo <;> simp
theorem steps_len : ∀ (ts : List Tel) (n : Nat), (stepsFrom ts n).length ≤ 2 * ts.length
  | [], n => by simp [stepsFrom]
  | t :: ts, n => by
    have h1 := stp_len t n
    have h2 := steps_len ts (n + 1)
    rw [stepsFrom, List.length_append, List.length_cons]
    omega
/-- what a step of tellings is -/
def StOf (s m : Nat) (e : Stp) : Prop := (e.a < 6 ∧ e.c < 6) ∧ Sz s e.w ∧ e.n < m ∧ (e.s = 1 ∨ e.s = -1)
theorem stp_of {s n m : Nat} {t : Tel} (k : OkT s t) (h : n < m) : ∀ e ∈ stp t n, StOf s m e := by
  intro e he
  unfold stp at he
  rcases List.mem_append.mp he with he | he
  · cases hh : t.hi with
    | none => rw [hh] at he; cases he
    | some q =>
      rw [hh] at he
      simp at he
      subst he
      exact ⟨⟨k.a6, k.b6⟩, k.zh _ hh, h, .inl rfl⟩
  · cases hh : t.lo with
    | none => rw [hh] at he; cases he
    | some q =>
      rw [hh] at he
      simp at he
      subst he
      exact ⟨⟨k.b6, k.a6⟩, (k.zl _ hh).neg, h, .inr rfl⟩
theorem steps_of {s : Nat} : ∀ {ts : List Tel} {n m : Nat}, (∀ t ∈ ts, OkT s t) → n + ts.length ≤ m → ∀ e ∈ stepsFrom ts n, StOf s m e
  | [], n, m, _, _, e, he => by cases he
  | t :: ts, n, m, k, h, e, he => by
    rw [List.length_cons] at h
    rw [stepsFrom] at he
    rcases List.mem_append.mp he with he | he
    · exact stp_of (k t (by simp)) (by omega) e he
    · exact steps_of (fun t ht => k t (by simp [ht])) (by omega) e he
/-- some errors keep all tellings -/
def FeasT (ts : List Tel) : Prop := Feas (stepsFrom ts 0)
noncomputable def togB (ts : List Tel) : Bool := @decide (FeasT ts) (Classical.propDecidable _)
theorem togB_true {ts : List Tel} (h : FeasT ts) : togB ts = true := @decide_eq_true _ (Classical.propDecidable _) h
theorem togB_false {ts : List Tel} (h : ¬ FeasT ts) : togB ts = false := @decide_eq_false _ (Classical.propDecidable _) h
/-! ### labels as the program has them -/
def encW (q : Nat × Int) : PV := .tup [.int q.1, .int q.2]
def encL : Option Lab → PV
  | none => .non
  | some x => .tup [pt x.1, .tup (x.2.map encW)]
def encP (e : Stp) : PV := .tup [.int e.a, .int e.c, pt e.w, .int e.n, .int e.s]
structure WI (es : List Stp) (s i : Nat) (F : List (Option Lab)) : Prop where
  l : F.length = 6
  z : ∀ a x, F.getD a none = some x → Sz (1 + x.2.length * (s + 1)) x.1 ∧ x.2.length ≤ i ∧ ∀ q ∈ x.2, ∃ e ∈ es, q = (e.n, e.s)
theorem WI.mono {es : List Stp} {s i j : Nat} {F : List (Option Lab)} (h : WI es s i F) (hj : i ≤ j) : WI es s j F := ⟨h.l, fun a x e => ⟨(h.z a x e).1, Nat.le_trans (h.z a x e).2.1 hj, (h.z a x e).2.2⟩⟩
theorem WI.step {es : List Stp} {s i m : Nat} {F : List (Option Lab)} {e : Stp} (h : WI es s i F) (he : e ∈ es) (k : StOf s m e) : WI es s (i + 1) (relax F e).1 := by
  rcases relax_cases F e with ⟨hr, _⟩ | ⟨x, hx, hr, _⟩
  · rw [hr]
    exact h.mono (Nat.le_succ i)
  · rw [hr]
    refine ⟨by rw [List.length_set]; exact h.l, fun a y hy => ?_⟩
    have h6 := h.l
    by_cases ec : e.c = a
    · subst ec
      rw [getD_set_self (by have := k.1.2; omega)] at hy
      cases hy
      obtain ⟨z1, z2, z3⟩ := h.z _ _ hx
      have hl : (x.2 ++ [(e.n, e.s)]).length = x.2.length + 1 := by simp
      refine ⟨?_, by rw [hl]; omega, ?_⟩
      · rw [hl]
        have := z1.add k.2.1
        have e2 : 1 + (x.2.length + 1) * (s + 1) = 1 + x.2.length * (s + 1) + s + 1 := by rw [Nat.succ_mul]; omega
        rw [e2]
        exact this
      · intro q hq
        rcases List.mem_append.mp hq with hq | hq
        · exact z3 q hq
        · rw [List.mem_singleton] at hq
          exact ⟨e, he, hq⟩
    · rw [getD_set_ne ec] at hy
      exact ⟨(h.z a y hy).1, Nat.le_succ_of_le (h.z a y hy).2.1, (h.z a y hy).2.2⟩
theorem one0_wi {es : List Stp} {s b : Nat} : WI es s 0 (one0 b) := by
  refine ⟨one0_len b, fun a x h => ?_⟩
  obtain ⟨_, _, rfl⟩ := one0_at h
  exact ⟨by simpa using sz0, by simp, by simp⟩
/-! ### a loop that goes on -/
theorem loopT_run {α σ : Type} {gd : Hs → Prop} {step : PV → Env → Hs → (Env → Hs → Prop) → Prop} {nx : Env → Hs → Prop} (enc : α → PV) (E : σ → Env) (H : σ → Hs) (f : σ → α → σ) (I : Nat → σ → Prop) (N : Nat) (g : ∀ s, gd (H s)) :
    ∀ (l : List α) (i : Nat) (s : σ), i + l.length ≤ N → I i s → (∀ a ∈ l, ∀ i s, i < N → I i s → I (i + 1) (f s a) ∧ ∀ k : Env → Hs → Prop, k (E (f s a)) (H (f s a)) → step (enc a) (E s) (H s) k) →
      (I (i + l.length) (l.foldl f s) → nx (E (l.foldl f s)) (H (l.foldl f s))) → loopT gd step (l.map enc) (E s) (H s) nx
  | [], i, s, _, hI, _, e => ⟨g s, e hI⟩
  | a :: l, i, s, hN, hI, hs, e => by
    rw [List.length_cons] at hN
    obtain ⟨h1, h2⟩ := hs a (by simp) i s (by omega) hI
    refine ⟨g s, h2 _ ?_⟩
    exact loopT_run enc E H f I N g l (i + 1) (f s a) (by omega) h1 (fun b hb => hs b (by simp [hb])) (fun hI' => e (by rw [List.length_cons, show i + (l.length + 1) = i + 1 + l.length by omega]; exact hI'))
theorem ixF {h : Hs} {F : List (Option Lab)} {n : Nat} {k : PV → Prop} (hl : F.length = 6) (hn : n < 6) : kIx (.ref h.length) (.pv (.int n)) (h ++ [some (F.map encL)]) k = k (encL (F.getD n none)) := by
  rw [k_ixr (c := F.map encL) (by simp)]
  have e : atI (F.map encL) (n : Int) = some (encL (F.getD n none)) := by
    unfold atI L2.atI L2.ixN
    rw [if_pos (by omega), if_pos (by rw [List.length_map]; omega)]
    simp [List.getD, List.getElem?_eq_getElem (show n < F.length by omega)]
  rw [e]
  simp
theorem rounds_fold (es : List Stp) : ∀ (k : Nat) (st : List (Option Lab) × Option Nat), (List.range (k + 1)).foldl (fun (st : List (Option Lab) × Option Nat) (_ : Nat) => rnd es st.1) st = rounds es st.1 (k + 1)
  | 0, st => rfl
  | k + 1, st => by
    rw [List.range_succ, List.foldl_append, rounds_fold es k st]
    rfl
/-! ### lengths alone -/
abbrev EdV := Nat × Nat × Rat
def edV (e : Stp) : EdV := (e.a, e.c, e.w)
def relaxV (V : List (Option Rat)) (e : EdV) : List (Option Rat) :=
  match V.getD e.1 none with
  | none => V
  | some x => match V.getD e.2.1 none with
    | none => V.set e.2.1 (some (x + e.2.2))
    | some z => if x + e.2.2 < z then V.set e.2.1 (some (x + e.2.2)) else V
def roundsV (ed : List EdV) (V : List (Option Rat)) : Nat → List (Option Rat)
  | 0 => V
  | k + 1 => ed.foldl relaxV (roundsV ed V k)
def strip (F : List (Option Lab)) : List (Option Rat) := F.map (Option.map Prod.fst)
theorem strip_at (F : List (Option Lab)) (a : Nat) : (strip F).getD a none = (F.getD a none).map Prod.fst := by
  unfold strip
  rw [List.getD_eq_getElem?_getD, List.getElem?_map, List.getD_eq_getElem?_getD]
  cases F[a]? <;> rfl
theorem strip_relax (F : List (Option Lab)) (e : Stp) : strip (relax F e).1 = relaxV (strip F) (edV e) := by
  unfold relax relaxV edV
  rw [strip_at, strip_at]
  cases ha : F.getD e.a none with
  | none => rfl
  | some x =>
    cases hc : F.getD e.c none with
    | none =>
      show strip (F.set e.c _) = (strip F).set e.c _
      unfold strip
      rw [List.map_set]
      rfl
    | some z =>
      show strip (if x.1 + e.w < z.1 then (F.set e.c _, true) else (F, false)).1 = if x.1 + e.w < z.1 then (strip F).set e.c _ else strip F
      split
      · unfold strip
        rw [List.map_set]
        rfl
      · rfl
theorem strip_fold : ∀ (es : List Stp) (F : List (Option Lab)) (nr : Option Nat), strip (es.foldl stepR (F, nr)).1 = (es.map edV).foldl relaxV (strip F)
  | [], F, nr => rfl
  | e :: es, F, nr => by
    rw [List.foldl_cons, List.map_cons, List.foldl_cons, ← strip_relax]
    exact strip_fold es _ _
theorem strip_rounds (es : List Stp) (F : List (Option Lab)) : ∀ k, strip (rounds es F k).1 = roundsV (es.map edV) (strip F) k
  | 0 => rfl
  | k + 1 => by
    show strip (es.foldl stepR ((rounds es F k).1, none)).1 = _
    rw [strip_fold, strip_rounds es F k]
    rfl
def edT (t : Tel) : List EdV := (match t.hi with | some h => [(t.a, t.b, h)] | none => []) ++ (match t.lo with | some l => [(t.b, t.a, -l)] | none => [])
theorem edT_stp (t : Tel) (n : Nat) : (stp t n).map edV = edT t := by
  unfold stp edT
  cases t.hi <;> cases t.lo <;> rfl
theorem steps_ed : ∀ (ts : List Tel) (n : Nat), (stepsFrom ts n).map edV = ts.flatMap edT
  | [], n => rfl
  | t :: ts, n => by
    rw [stepsFrom, List.map_append, edT_stp, steps_ed ts, List.flatMap_cons]
theorem k_subT {h : Hs} {c : List PV} {n : Nat} {q : PV} {k : Hs → Prop} (hn : n < c.length) (z : k (h ++ [some (c.set n q)])) : kSub (.ref h.length) (.pv (.int n)) (.pv q) (h ++ [some c]) k := by
  refine ⟨h.length, c, n, n, q, rfl, by simp, rfl, ?_, rfl, ?_⟩
  · unfold L2.ixN
    rw [if_pos (by omega), if_pos (by omega)]
    simp
  · simpa using z
theorem wi_fold {es : List Stp} {s m : Nat} (k : ∀ e ∈ es, StOf s m e) : ∀ (l : List Stp) (j : Nat) (st : List (Option Lab) × Option Nat), (∀ e ∈ l, e ∈ es) → WI es s j st.1 → WI es s (j + l.length) (l.foldl stepR st).1
  | [], j, st, _, h => h
  | e :: l, j, st, hm, h => by
    have := wi_fold k l (j + 1) (stepR st e) (fun g hg => hm g (by simp [hg])) (h.step (hm e (by simp)) (k e (hm e (by simp))))
    rw [List.foldl_cons, List.length_cons, show j + (l.length + 1) = j + 1 + l.length by omega]
    exact this
theorem wi_rounds {es : List Stp} {s m b : Nat} (k : ∀ e ∈ es, StOf s m e) : ∀ n, WI es s (n * es.length) (rounds es (one0 b) n).1
  | 0 => by rw [Nat.zero_mul]; exact one0_wi
  | n + 1 => by
    rw [Nat.succ_mul]
    exact wi_fold k es _ _ (fun _ h => h) (wi_rounds k n)
theorem ixLab {h : Hs} {F : List (Option Lab)} {n : Nat} {k : PV → Prop} (hl : F.length = 6) (hn : n < 6) : kIx (.pv (.lst (F.map encL))) (.pv (.int n)) h k = k (encL (F.getD n none)) := by
  rw [k_ixl]
  have e : atI (F.map encL) (n : Int) = some (encL (F.getD n none)) := by
    unfold atI L2.atI L2.ixN
    rw [if_pos (by omega), if_pos (by rw [List.length_map]; omega)]
    simp [List.getD, List.getElem?_eq_getElem (show n < F.length by omega)]
  rw [e]
  simp
/-! ### lengths as the law has them -/
def encO : Option Rat → PV
  | none => .non
  | some x => pt x
structure VN (s c : Nat) (V : List (Option Rat)) : Prop where
  l : V.length = 6
  z : ∀ a x, V.getD a none = some x → Sz (1 + c * (s + 1)) x
theorem VN.mono {s c d : Nat} {V : List (Option Rat)} (h : VN s c V) (hd : c ≤ d) : VN s d V := ⟨h.l, fun a x e => (h.z a x e).up (by have := Nat.mul_le_mul_right (s + 1) hd; omega)⟩
theorem getD_setV {V : List (Option Rat)} {i : Nat} {v : Option Rat} (h : i < V.length) : (V.set i v).getD i none = v := by
  rw [List.getD_eq_getElem?_getD, List.getElem?_set_self h]
  rfl
theorem getD_setV_ne {V : List (Option Rat)} {i j : Nat} {v : Option Rat} (h : i ≠ j) : (V.set i v).getD j none = V.getD j none := by
  rw [List.getD_eq_getElem?_getD, List.getElem?_set_ne h, ← List.getD_eq_getElem?_getD]
theorem VN.put {s c a : Nat} {V : List (Option Rat)} {x w : Rat} {n : Nat} (h : VN s c V) (hx : V.getD a none = some x) (zw : Sz s w) : VN s (c + 1) (V.set n (some (x + w))) := by
  refine ⟨by rw [List.length_set]; exact h.l, fun b y hy => ?_⟩
  have e : 1 + (c + 1) * (s + 1) = 1 + c * (s + 1) + s + 1 := by rw [Nat.succ_mul]; omega
  by_cases q : n = b
  · subst q
    by_cases hn : n < V.length
    · rw [getD_setV hn] at hy
      cases hy
      rw [e]
      exact (h.z a x hx).add zw
    · rw [List.getD_eq_getElem?_getD, List.getElem?_eq_none (by rw [List.length_set]; omega)] at hy
      cases hy
  · rw [getD_setV_ne q] at hy
    exact (h.z b y hy).up (by omega)
theorem VN.step {s c : Nat} {V : List (Option Rat)} {e : EdV} (h : VN s c V) (zw : Sz s e.2.2) : VN s (c + 1) (relaxV V e) := by
  unfold relaxV
  cases ha : V.getD e.1 none with
  | none => exact h.mono (Nat.le_succ c)
  | some x =>
    cases hc : V.getD e.2.1 none with
    | none => exact h.put ha zw
    | some z =>
      dsimp only
      split
      · exact h.put ha zw
      · exact h.mono (Nat.le_succ c)
theorem VN.edT {s c : Nat} {V : List (Option Rat)} {t : Tel} (h : VN s c V) (k : OkT s t) : VN s (c + 2) ((edT t).foldl relaxV V) := by
  unfold G43.edT
  cases h1 : t.hi with
  | none =>
    cases h2 : t.lo with
    | none => exact h.mono (by omega)
    | some l => exact (h.step (e := (t.b, t.a, -l)) (k.zl _ h2).neg).mono (by omega)
  | some hh =>
    cases h2 : t.lo with
    | none => exact (h.step (e := (t.a, t.b, hh)) (k.zh _ h1)).mono (by omega)
    | some l => exact (h.step (e := (t.a, t.b, hh)) (k.zh _ h1)).step (e := (t.b, t.a, -l)) (k.zl _ h2).neg
theorem VN.tels {s : Nat} : ∀ {ts : List Tel} {c : Nat} {V : List (Option Rat)}, VN s c V → (∀ t ∈ ts, OkT s t) → VN s (c + 2 * ts.length) ((ts.flatMap G43.edT).foldl relaxV V)
  | [], c, V, h, _ => h
  | t :: ts, c, V, h, k => by
    rw [List.flatMap_cons, List.foldl_append, List.length_cons, show c + 2 * (ts.length + 1) = c + 2 + 2 * ts.length by omega]
    exact VN.tels (h.edT (k t (by simp))) (fun t ht => k t (by simp [ht]))
theorem VN.rounds {s : Nat} {ts : List Tel} {V : List (Option Rat)} (h : VN s 0 V) (k : ∀ t ∈ ts, OkT s t) : ∀ n, VN s (n * (2 * ts.length)) (roundsV (ts.flatMap G43.edT) V n)
  | 0 => by rw [Nat.zero_mul]; exact h
  | n + 1 => by
    rw [Nat.succ_mul]
    exact (VN.rounds h k n).tels k
/-- how far at most -/
def farV (ts : List Tel) (o c : Nat) : Option Rat := (roundsV (ts.flatMap edT) (strip (one0 o)) 6).getD c none
theorem far_lab (ts : List Tel) (o c : Nat) : farV ts o c = ((rounds (stepsFrom ts 0) (one0 o) 6).1.getD c none).map Prod.fst := by
  unfold farV
  rw [← steps_ed ts 0, ← strip_rounds, strip_at]
theorem far_sz {s : Nat} {ts : List Tel} (k : ∀ t ∈ ts, OkT s t) (hF : FeasT ts) {o c : Nat} {x : Rat} (h : farV ts o c = some x) : Sz (1 + 5 * (s + 1)) x := by
  have kS : ∀ e ∈ stepsFrom ts 0, StOf s ts.length e := steps_of k (by omega)
  rw [far_lab, Option.map_eq_some_iff] at h
  obtain ⟨y, hy, rfl⟩ := h
  obtain ⟨φ, hφ⟩ := hF
  have l5 := pot_len (pot_rounds (fun e he => ⟨(kS e he).1, hφ e he⟩) (one0_len o) one0_pot 6).1 hy
  refine ((wi_rounds kS (b := o) 6).z c y hy).1.up ?_
  have := Nat.mul_le_mul_right (s + 1) l5
  omega
theorem compT_filt {α : Type} {gd : Hs → Prop} {step : PV → Hs → (List PV → Hs → Prop) → Prop} {h : Hs} (enc out : α → PV) (good : α → Bool) (g : gd h) :
    ∀ (l : List α), (∀ a ∈ l, ∀ k, k (if good a = true then [out a] else []) h → step (enc a) h k) → ∀ {Q : List PV → Hs → Prop}, Q ((l.filter good).map out) h → compT gd step (l.map enc) h Q
  | [], _, Q, q => ⟨g, q⟩
  | a :: l, hs, Q, q => by
    rw [List.map_cons]
    refine ⟨g, hs a (by simp) _ ?_⟩
    refine compT_filt enc out good g l (fun b hb => hs b (by simp [hb])) ?_
    rw [List.filter_cons] at q
    cases hg : good a with
    | true => rw [hg] at q; exact q
    | false => rw [hg] at q; exact q
def encE (e : EdV) : PV := .tup [.int e.1, .int e.2.1, pt e.2.2]
/-- the numbers of those without which the others agree -/
noncomputable def dbtP (ts : List Tel) : PV := if togB ts = true then .tup [] else numsP ((List.range ts.length).filter fun n => togB (ts.take n ++ ts.drop (n + 1)))
end G43
set_option Elab.async false
set_option linter.all false
set_option maxRecDepth 100000
set_option maxHeartbeats 4000000
namespace G43
open PySem
/-! ### tellings without some -/
def leftT (ts : List Tel) (ks : List Nat) : List Tel := (ts.zipIdx.filter fun p => !ks.contains p.2).map Prod.fst
/-! ### rising numbers -/
def rising : List Int → Bool
  | [] => true
  | a :: r => (match r with | [] => true | b :: _ => decide (a < b)) && rising r
theorem rising_iff : ∀ l : List Int, rising l = true ↔ l.Pairwise (· < ·)
  | [] => by simp [rising]
  | [a] => by simp [rising]
  | a :: b :: r => by
    have ih := rising_iff (b :: r)
    rw [rising, Bool.and_eq_true, ih]
    constructor
    · rintro ⟨h1, h2⟩
      have h1 : a < b := by simpa using h1
      refine List.pairwise_cons.mpr ⟨fun x hx => ?_, h2⟩
      rcases List.mem_cons.mp hx with rfl | hx
      · exact h1
      · have := (List.pairwise_cons.mp h2).1 x hx
        omega
    · intro h
      obtain ⟨h1, h2⟩ := List.pairwise_cons.mp h
      exact ⟨by simpa using h1 b (by simp), h2⟩
/-- numbers of tellings -/
def areNums (m : Nat) : PV → Bool
  | .tup l => l.all (inB 0 ((m : Int) - 1)) && rising (l.map ival)
  | _ => false
where ival : PV → Int
  | .int i => i
  | _ => 0
theorem map_ival (ks : List Nat) : (ks.map (fun (k : Nat) => PV.int k)).map areNums.ival = ks.map fun (k : Nat) => (k : Int) := by
  rw [List.map_map]
  rfl
/-- a thing that may be a false set -/
structure ThF (x : PV) : Prop where
  p : plain x = true
  q : ∀ l, x = .tup l → l.all flat = true ∧ l.length ≤ 40
end G43
set_option Elab.async false
set_option linter.all false
set_option maxRecDepth 100000
set_option maxHeartbeats 400000
namespace G43
open PySem
/-! ### ways along steps -/
inductive Way (ed : List EdV) : Nat → Nat → Rat → Prop
  | nil (a : Nat) : Way ed a a 0
  | snoc {a : Nat} {e : EdV} {L : Rat} : Way ed a e.1 L → e ∈ ed → Way ed a e.2.1 (L + e.2.2)
theorem Way.one {ed : List EdV} {e : EdV} (h : e ∈ ed) : Way ed e.1 e.2.1 e.2.2 := by
  have := Way.snoc (Way.nil e.1) h
  rwa [show (0 : Rat) + e.2.2 = e.2.2 by grind] at this
theorem Way.append {ed : List EdV} {a b c : Nat} {L M : Rat} (h : Way ed a b L) (k : Way ed b c M) : Way ed a c (L + M) := by
  induction k with
  | nil => rwa [show L + 0 = L by grind]
  | snoc w he ih => rw [show ∀ x y : Rat, L + (x + y) = L + x + y by intros; grind]; exact ih.snoc he
/-- a table of lengths from a clock that keeps all steps -/
def SatT (ed : List EdV) (f : Nat → Option Rat) : Prop := ∀ e ∈ ed, ∀ x, f e.1 = some x → ∃ z, f e.2.1 = some z ∧ z ≤ x + e.2.2
/-! ### the program's lengths -/
/-- feasible: by the steps alone -/
theorem feas_ed {ts : List Tel} : FeasT ts ↔ ∃ φ : Nat → Rat, ∀ e ∈ ts.flatMap edT, φ e.2.1 ≤ φ e.1 + e.2.2 := by
  unfold FeasT Feas
  rw [← steps_ed ts 0]
  constructor
  · rintro ⟨φ, h⟩
    refine ⟨φ, fun e he => ?_⟩
    obtain ⟨s, hs, rfl⟩ := List.mem_map.mp he
    exact h s hs
  · rintro ⟨φ, h⟩
    exact ⟨φ, fun e he => h (edV e) (List.mem_map_of_mem he)⟩
/-! ### the law's lengths between all clocks -/
abbrev Mt := List (List (Option Rat))
def gM (M : Mt) (i j : Nat) : Option Rat := (M.getD i []).getD j none
def sM (M : Mt) (i j : Nat) (v : Option Rat) : Mt := M.set i ((M.getD i []).set j v)
structure Sq (M : Mt) : Prop where
  l : M.length = 6
  r : ∀ i, i < 6 → (M.getD i []).length = 6
theorem Sq.set {M : Mt} (s : Sq M) (i j : Nat) (v : Option Rat) : Sq (sM M i j v) := by
  refine ⟨by simp [sM, s.l], fun k hk => ?_⟩
  unfold sM
  by_cases e : i = k
  · subst e
    rw [List.getD_eq_getElem?_getD, List.getElem?_set_self (by rw [s.l]; exact hk)]
    show (List.set _ j v).length = 6
    rw [List.length_set]
    exact s.r i hk
  · rw [List.getD_eq_getElem?_getD, List.getElem?_set_ne e, ← List.getD_eq_getElem?_getD]
    exact s.r k hk
theorem gM_set {M : Mt} (s : Sq M) {i j : Nat} (hi : i < 6) (hj : j < 6) {v : Option Rat} (a b : Nat) : gM (sM M i j v) a b = if a = i ∧ b = j then v else gM M a b := by
  unfold gM sM
  by_cases e : i = a
  · subst e
    rw [List.getD_eq_getElem?_getD (l := M.set i _), List.getElem?_set_self (by rw [s.l]; exact hi)]
    show (List.set (M.getD i []) j v).getD b none = _
    by_cases e2 : j = b
    · subst e2
      rw [if_pos ⟨rfl, rfl⟩, getD_setV (by rw [s.r i hi]; exact hj)]
    · rw [if_neg (fun q => e2 q.2.symm), getD_setV_ne e2]
  · rw [if_neg (fun q => e q.1.symm), List.getD_eq_getElem?_getD (l := M.set i _), List.getElem?_set_ne e, ← List.getD_eq_getElem?_getD]
def near : Option Rat → Option Rat → Option Rat
  | none, y => y
  | some x, none => some x
  | some x, some y => if y < x then some y else some x
def addO : Option Rat → Option Rat → Option Rat
  | some x, some y => some (x + y)
  | _, _ => none
/-- no more than -/
def leO (a b : Option Rat) : Prop := ∀ y, b = some y → ∃ x, a = some x ∧ x ≤ y
theorem leO.refl (a : Option Rat) : leO a a := fun y e => ⟨y, e, Rat.le_refl⟩
theorem leO.trans {a b c : Option Rat} (h : leO a b) (k : leO b c) : leO a c := fun y e => by
  obtain ⟨x, e1, l1⟩ := k y e
  obtain ⟨z, e2, l2⟩ := h x e1
  exact ⟨z, e2, Rat.le_trans l2 l1⟩
theorem near_l (a b : Option Rat) : leO (near a b) a := by
  intro y e
  subst e
  cases b with
  | none => exact ⟨y, rfl, Rat.le_refl⟩
  | some z =>
    show ∃ x, (if z < y then some z else some y) = some x ∧ x ≤ y
    split
    · exact ⟨z, rfl, by grind⟩
    · exact ⟨y, rfl, Rat.le_refl⟩
theorem near_or (a b : Option Rat) : near a b = a ∨ near a b = b := by
  cases a with
  | none => exact .inr rfl
  | some x =>
    cases b with
    | none => exact .inl rfl
    | some y =>
      show (if y < x then some y else some x) = some x ∨ (if y < x then some y else some x) = some y
      split
      · exact .inr rfl
      · exact .inl rfl
theorem zero_add (a : Option Rat) : addO (some 0) a = a := by
  cases a with
  | none => rfl
  | some x => simp only [addO]; congr 1; grind
def fwS (k : Nat) (M : Mt) (p : Nat × Nat) : Mt := match gM M p.1 k, gM M k p.2 with
  | some a, some b => sM M p.1 p.2 (near (gM M p.1 p.2) (some (a + b)))
  | _, _ => M
def prs : List (Nat × Nat) := (List.range 6).flatMap fun i => (List.range 6).map fun j => (i, j)
def fwK (M : Mt) (k : Nat) : Mt := prs.foldl (fwS k) M
theorem fwS_sq {k : Nat} {M : Mt} (s : Sq M) (p : Nat × Nat) : Sq (fwS k M p) := by
  unfold fwS
  split
  · exact s.set _ _ _
  · exact s
theorem fwS_at {k : Nat} {M : Mt} (s : Sq M) {p : Nat × Nat} (h1 : p.1 < 6) (h2 : p.2 < 6) (a b : Nat) : gM (fwS k M p) a b = if a = p.1 ∧ b = p.2 then near (gM M a b) (addO (gM M a k) (gM M k b)) else gM M a b := by
  unfold fwS
  cases e1 : gM M p.1 k with
  | none =>
    dsimp only
    split
    · rename_i h
      rw [h.1, e1]
      show _ = near _ (addO none _)
      rw [show ∀ z, addO none z = none from fun z => by cases z <;> rfl]
      cases gM M p.1 b <;> rfl
    · rfl
  | some x =>
    cases e2 : gM M k p.2 with
    | none =>
      dsimp only
      split
      · rename_i h
        rw [h.2, e2]
        rw [show ∀ z, addO z none = none from fun z => by cases z <;> rfl]
        cases gM M a p.2 <;> rfl
      · rfl
    | some y =>
      dsimp only
      rw [gM_set s h1 h2]
      split
      · rename_i h
        rw [h.1, h.2, e1, e2]
        rfl
      · rfl
theorem prs_lt {p : Nat × Nat} (h : p ∈ prs) : p.1 < 6 ∧ p.2 < 6 := by
  unfold prs at h
  obtain ⟨i, hi, h⟩ := List.mem_flatMap.mp h
  obtain ⟨j, hj, rfl⟩ := List.mem_map.mp h
  exact ⟨List.mem_range.mp hi, List.mem_range.mp hj⟩
/-- entries only get less -/
theorem fwS_le {k : Nat} {M : Mt} (s : Sq M) {p : Nat × Nat} (h1 : p.1 < 6) (h2 : p.2 < 6) (a b : Nat) : leO (gM (fwS k M p) a b) (gM M a b) := by
  rw [fwS_at s h1 h2]
  split
  · exact near_l _ _
  · exact leO.refl _
theorem fold_fw {k : Nat} : ∀ {l : List (Nat × Nat)} {M : Mt}, (∀ p ∈ l, p.1 < 6 ∧ p.2 < 6) → Sq M → Sq (l.foldl (fwS k) M) ∧ ∀ a b, leO (gM (l.foldl (fwS k) M) a b) (gM M a b)
  | [], M, _, s => ⟨s, fun a b => leO.refl _⟩
  | p :: l, M, h, s => by
    rw [List.foldl_cons]
    obtain ⟨q1, q2⟩ := fold_fw (l := l) (M := fwS k M p) (fun p hp => h p (by simp [hp])) (fwS_sq s p)
    exact ⟨q1, fun a b => (q2 a b).trans (fwS_le s (h p (by simp)).1 (h p (by simp)).2 a b)⟩
/-- closed by a middle clock -/
def Cls (M : Mt) (m : Nat) : Prop := ∀ a b, a < 6 → b < 6 → leO (gM M a b) (addO (gM M a m) (gM M m b))
def fwR (M : Mt) : Nat → Mt
  | 0 => M
  | k + 1 => fwK (fwR M k) k
theorem fwR_le {M : Mt} (s : Sq M) : ∀ n, Sq (fwR M n) ∧ ∀ a b, leO (gM (fwR M n) a b) (gM M a b)
  | 0 => ⟨s, fun a b => leO.refl _⟩
  | n + 1 => by
    obtain ⟨s1, l1⟩ := fwR_le s n
    obtain ⟨s2, l2⟩ := fold_fw (k := n) (l := prs) (fun p hp => prs_lt hp) s1
    exact ⟨s2, fun a b => (l2 a b).trans (l1 a b)⟩
/-! what ways come to -/
def Att (ed : List EdV) (M : Mt) : Prop := ∀ a b x, gM M a b = some x → Way ed a b x
theorem Att.fwS {ed : List EdV} {k : Nat} {M : Mt} (h : Att ed M) (s : Sq M) {p : Nat × Nat} (h1 : p.1 < 6) (h2 : p.2 < 6) : Att ed (fwS k M p) := by
  intro a b x hx
  rw [fwS_at s h1 h2] at hx
  split at hx
  · rcases near_or (gM M a b) (addO (gM M a k) (gM M k b)) with e | e
    · rw [e] at hx; exact h a b x hx
    · rw [e] at hx
      cases e1 : gM M a k with
      | none => rw [e1] at hx; cases hx
      | some y =>
        cases e2 : gM M k b with
        | none => rw [e1, e2] at hx; cases hx
        | some z =>
          rw [e1, e2] at hx
          cases hx
          exact (h a k y e1).append (h k b z e2)
  · exact h a b x hx
theorem Att.fold {ed : List EdV} {k : Nat} : ∀ {l : List (Nat × Nat)} {M : Mt}, (∀ p ∈ l, p.1 < 6 ∧ p.2 < 6) → Sq M → Att ed M → Att ed (l.foldl (G43.fwS k) M)
  | [], M, _, _, h => h
  | p :: l, M, hl, s, h => by
    rw [List.foldl_cons]
    exact Att.fold (fun p hp => hl p (by simp [hp])) (fwS_sq s p) (h.fwS s (hl p (by simp)).1 (hl p (by simp)).2)
theorem Att.fwR {ed : List EdV} {M : Mt} (s : Sq M) (h : Att ed M) : ∀ n, Att ed (fwR M n)
  | 0 => h
  | n + 1 => Att.fold (fun p hp => prs_lt hp) (fwR_le s n).1 (Att.fwR s h n)
@[irreducible] def fwN (M : Mt) (n : Nat) : Mt := fwR M n
theorem fwN_eq : fwN = fwR := by funext M n; rw [fwN]
theorem Att.fwN {ed : List EdV} {M : Mt} (s : Sq M) (h : Att ed M) : ∀ n, Att ed (fwN M n) := by rw [fwN_eq]; exact Att.fwR s h
/-! the beginning: the tellings' own bounds -/
def m0 : Mt := (List.range 6).map fun i => (List.range 6).map fun j => if i = j then some 0 else none
def putE (M : Mt) (e : EdV) : Mt := sM M e.1 e.2.1 (near (gM M e.1 e.2.1) (some e.2.2))
@[irreducible] def mT (ed : List EdV) : Mt := ed.foldl putE m0
theorem m0_sq : Sq m0 := ⟨rfl, by decide⟩
theorem putE_sq {M : Mt} (s : Sq M) (e : EdV) : Sq (putE M e) := s.set _ _ _
structure MT (ed : List EdV) (M : Mt) : Prop where
  s : Sq M
  a : Att ed M
  d : ∀ a, a < 6 → leO (gM M a a) (some 0)
/-- the law's lengths between all clocks -/
def farM (ts : List Tel) : Mt := fwN (mT (ts.flatMap edT)) 6
end G43
set_option Elab.async false
set_option linter.all false
set_option maxRecDepth 100000
set_option maxHeartbeats 4000000
namespace G43
open PySem
/-! ### the way that a label holds -/
theorem foldO_app {σ : Type} {f : σ → PV → Option σ} : ∀ {l r : List PV} {s : σ}, foldO f (l ++ r) s = (foldO f l s).bind (foldO f r)
  | [], r, s => rfl
  | x :: l, r, s => by
    rw [List.cons_append, foldO, foldO]
    cases f s x with
    | none => rfl
    | some t => exact foldO_app
theorem mem_steps {e : Stp} : ∀ {ts : List Tel} {k : Nat}, e ∈ stepsFrom ts k → ∃ j t, ts[j]? = some t ∧ e ∈ stp t (k + j)
  | [], k, h => by cases h
  | t :: ts, k, h => by
    rw [stepsFrom] at h
    rcases List.mem_append.mp h with h | h
    · exact ⟨0, t, rfl, h⟩
    · obtain ⟨j, u, hj, hu⟩ := mem_steps h
      exact ⟨j + 1, u, by simpa using hj, by rw [show k + (j + 1) = k + 1 + j by omega]; exact hu⟩
theorem step_go {ts : List Tel} {e : Stp} (h : e ∈ stepsFrom ts 0) (x : Rat) : stepW ts (e.a, x) (encW (e.n, e.s)) = some (e.c, x + e.w) := by
  obtain ⟨j, t, hj, he⟩ := mem_steps h
  rw [Nat.zero_add] at he
  have hl := (List.getElem?_eq_some_iff.mp hj).1
  unfold stp at he
  unfold stepW encW
  rcases List.mem_append.mp he with he | he
  · cases hh : t.hi with
    | none => rw [hh] at he; cases he
    | some q =>
      rw [hh] at he
      simp only [List.mem_singleton] at he
      subst he
      have e1 : stepOf ts.length (.tup [.int (j : Int), .int 1]) = some (j, true) := by
        rw [stepOf_int, if_pos ⟨⟨by omega, by omega⟩, .inl rfl⟩]
        simp
      dsimp only
      rw [e1]
      dsimp only
      rw [hj]
      unfold goT
      simp [hh]
  · cases hh : t.lo with
    | none => rw [hh] at he; cases he
    | some q =>
      rw [hh] at he
      simp only [List.mem_singleton] at he
      subst he
      have e1 : stepOf ts.length (.tup [.int (j : Int), .int (-1)]) = some (j, false) := by
        rw [stepOf_int, if_pos ⟨⟨by omega, by omega⟩, .inr rfl⟩]
        simp
      dsimp only
      rw [e1]
      dsimp only
      rw [hj]
      unfold goT
      simp [hh]
      grind
abbrev wkP (ts : List Tel) (b : Nat) (p : List (Nat × Int)) : Option (Nat × Rat) := foldO (stepW ts) (p.map encW) (b, 0)
structure RI (ts : List Tel) (b : Nat) (F : List (Option Lab)) : Prop where
  l : F.length = 6
  w : ∀ a x, F.getD a none = some x → wkP ts b x.2 = some (a, x.1)
  a : ∀ a x, F.getD a none = some x → ∀ i v ℓ, wkP ts b (x.2.take i) = some (v, ℓ) → ∃ y, F.getD v none = some y ∧ y.1 ≤ ℓ
  b : ∀ a x, F.getD a none = some x → ∀ i j v l1 l2, i < j → j ≤ x.2.length → wkP ts b (x.2.take i) = some (v, l1) → wkP ts b (x.2.take j) = some (v, l2) → l2 < l1
theorem RI.step {ts : List Tel} {b : Nat} {F : List (Option Lab)} {e : Stp} {x : Lab} (h : RI ts b F) (he : e ∈ stepsFrom ts 0) (h6 : e.c < 6) (hx : F.getD e.a none = some x) (ns : ¬ sat F e) : RI ts b (F.set e.c (some (x.1 + e.w, x.2 ++ [(e.n, e.s)]))) := by
  have hl := h.l
  have wn : wkP ts b (x.2 ++ [(e.n, e.s)]) = some (e.c, x.1 + e.w) := by
    show foldO _ _ _ = _
    have hw : foldO (stepW ts) (x.2.map encW) (b, 0) = some (e.a, x.1) := h.w _ _ hx
    rw [List.map_append, foldO_app, hw]
    show foldO (stepW ts) [encW (e.n, e.s)] (e.a, x.1) = _
    rw [foldO, step_go he]
    rfl
  have lt : ∀ y, F.getD e.c none = some y → x.1 + e.w < y.1 := by
    intro y hy
    by_cases q : x.1 + e.w < y.1
    · exact q
    · exact absurd (.inr ⟨x, y, hx, hy, Rat.not_lt.mp q⟩) ns
  have low : ∀ v ℓ, (∃ y, F.getD v none = some y ∧ y.1 ≤ ℓ) → ∃ y, (F.set e.c (some (x.1 + e.w, x.2 ++ [(e.n, e.s)]))).getD v none = some y ∧ y.1 ≤ ℓ := by
    rintro v ℓ ⟨y, hy, ly⟩
    by_cases q : e.c = v
    · subst q
      refine ⟨_, getD_set_self (by omega), ?_⟩
      have := lt y hy
      show x.1 + e.w ≤ ℓ
      grind
    · exact ⟨y, by rw [getD_set_ne q]; exact hy, ly⟩
  have tk : ∀ i, i ≤ x.2.length → (x.2 ++ [(e.n, e.s)]).take i = x.2.take i := fun i hi => List.take_append_of_le_length hi
  have tw : ∀ i, x.2.length < i → (x.2 ++ [(e.n, e.s)]).take i = x.2 ++ [(e.n, e.s)] := fun i hi => List.take_of_length_le (by simp; omega)
  refine ⟨by rw [List.length_set]; exact hl, ?_, ?_, ?_⟩
  · intro a y hy
    by_cases q : e.c = a
    · subst q
      rw [getD_set_self (by omega)] at hy
      cases hy
      exact wn
    · rw [getD_set_ne q] at hy
      exact h.w a y hy
  · intro a y hy i v ℓ hv
    by_cases q : e.c = a
    · subst q
      rw [getD_set_self (by omega)] at hy
      cases hy
      by_cases hi : i ≤ x.2.length
      · rw [tk i hi] at hv
        exact low v ℓ (h.a _ x hx i v ℓ hv)
      · rw [tw i (by omega), wn] at hv
        cases hv
        exact ⟨_, getD_set_self (by omega), Rat.le_refl⟩
    · rw [getD_set_ne q] at hy
      exact low v ℓ (h.a a y hy i v ℓ hv)
  · intro a y hy i j v l1 l2 hij hj h1 h2
    by_cases q : e.c = a
    · subst q
      rw [getD_set_self (by omega)] at hy
      cases hy
      rw [List.length_append, List.length_singleton] at hj
      by_cases hjl : j ≤ x.2.length
      · rw [tk j hjl] at h2
        rw [tk i (by omega)] at h1
        exact h.b _ x hx i j v l1 l2 hij hjl h1 h2
      · rw [tw j (by omega), wn] at h2
        cases h2
        rw [tk i (by omega)] at h1
        obtain ⟨y, hy, ly⟩ := h.a _ x hx i _ l1 h1
        have := lt y hy
        grind
    · rw [getD_set_ne q] at hy
      exact h.b a y hy i j v l1 l2 hij hj h1 h2
theorem RI.fold {ts : List Tel} {b : Nat} : ∀ {es : List Stp} {F : List (Option Lab)} {nr : Option Nat}, (∀ e ∈ es, e ∈ stepsFrom ts 0 ∧ e.c < 6) → RI ts b F → RI ts b (es.foldl stepR (F, nr)).1
  | [], F, nr, _, h => h
  | e :: es, F, nr, he, h => by
    rw [List.foldl_cons]
    rcases relax_cases F e with ⟨hr, hs⟩ | ⟨x, hx, hr, ns⟩
    · have e1 : stepR (F, nr) e = (F, nr) := by unfold stepR; rw [hr]; rfl
      rw [e1]
      exact RI.fold (fun g hg => he g (by simp [hg])) h
    · have e1 : stepR (F, nr) e = (F.set e.c (some (x.1 + e.w, x.2 ++ [(e.n, e.s)])), some e.c) := by unfold stepR; rw [hr]; rfl
      rw [e1]
      exact RI.fold (fun g hg => he g (by simp [hg])) (h.step (he e (by simp)).1 (he e (by simp)).2 hx ns)
theorem RI.one {ts : List Tel} {b : Nat} : RI ts b (one0 b) := by
  refine ⟨one0_len b, ?_, ?_, ?_⟩
  · intro a x hx
    obtain ⟨rfl, _, rfl⟩ := one0_at hx
    rfl
  · intro a x hx i v ℓ hv
    have hx' := hx
    obtain ⟨rfl, _, rfl⟩ := one0_at hx
    rw [List.take_nil] at hv
    cases hv
    exact ⟨_, hx', Rat.le_refl⟩
  · intro a x hx i j v l1 l2 hij hj
    obtain ⟨rfl, _, rfl⟩ := one0_at hx
    simp at hj
    omega
theorem RI.rounds {s : Nat} {ts : List Tel} (k : ∀ t ∈ ts, OkT s t) {b : Nat} : ∀ n, RI ts b (G43.rounds (stepsFrom ts 0) (one0 b) n).1
  | 0 => RI.one
  | n + 1 => RI.fold (fun e he => ⟨he, (steps_of k (Nat.le_refl _) e he).1.2⟩) (RI.rounds k n)
/-! ### rings -/
def ptO (ts : List Tel) (q : Nat × Int) : Nat := match ts[q.1]? with | some t => if q.2 = 1 then t.b else t.a | none => 0
structure RingOk (ts : List Tel) (v : Nat) (p : List (Nat × Int)) : Prop where
  v6 : v < 6
  ne : p ≠ []
  l6 : p.length ≤ 6
  st : ∀ q ∈ p, q.1 < ts.length ∧ (q.2 = 1 ∨ q.2 = -1)
  go : ∃ L, wkP ts v p = some (v, L) ∧ L < 0
end G43
set_option Elab.async false
set_option linter.all false
set_option maxRecDepth 100000
set_option maxHeartbeats 4000000
namespace G43
open PySem
/-! ### a list of lists of lengths, in cells -/
def hM (h : Hs) (M : Mt) : Hs := h ++ M.map fun r => some (r.map encO)
def isM (h : Hs) (n : Nat) : List Nat := (List.range n).map fun i => h.length + i
/-- entries on the grid -/
structure MB (B : Nat) (M : Mt) : Prop where
  s : Sq M
  g : ∀ i j x, gM M i j = some x → Gz B x
theorem MB.up {A B : Nat} {M : Mt} (h : MB A M) (l : A ≤ B) : MB B M := ⟨h.s, fun i j x e => (h.g i j x e).up l⟩
theorem MB.put {B : Nat} {M : Mt} {e : EdV} (h : MB B M) (h1 : e.1 < 6) (h2 : e.2.1 < 6) (g : Gz B e.2.2) : MB B (putE M e) := by
  refine ⟨putE_sq h.s e, fun i j x hx => ?_⟩
  unfold putE at hx
  rw [gM_set h.s h1 h2] at hx
  split at hx
  · rcases near_or (gM M e.1 e.2.1) (some e.2.2) with q | q
    · rw [q] at hx; exact h.g _ _ x hx
    · rw [q] at hx; cases hx; exact g
  · exact h.g i j x hx
def BF (n : Nat) : Nat := 256 * GG * 2 ^ n
/-- what the law tells of tellings -/
def farP (M : Mt) : PV := .lst (M.map fun r => PV.lst (r.map encO))
/-! ### what is a ring -/
def ringR (ts : List Tel) : PV → Bool
  | .tup [.int c, w] => decide (0 ≤ c ∧ c ≤ 5) && !peq w (.tup []) && (match wayR ts c.toNat w with | some r => decide (r.1 = c.toNat) && decide (r.2.num < 0) | none => false)
  | _ => false
structure RgT (x : PV) : Prop where
  p : plain x = true
  e : ∀ a b, x = .tup [a, b] → plain a = true ∧ Dt 60 b ∧ plain b = true ∧ ∀ l, b = .tup l → ∀ y ∈ l, plain2 y = true
theorem RingOk.is {ts : List Tel} {v : Nat} {p : List (Nat × Int)} (h : RingOk ts v p) : ringR ts (.tup [.int v, .tup (p.map encW)]) = true := by
  obtain ⟨L, e, l⟩ := h.go
  have v6 := h.v6
  have hl := h.l6
  show (decide (0 ≤ (v : Int) ∧ (v : Int) ≤ 5) && !peq (.tup (p.map encW)) (.tup []) && (match wayR ts (v : Int).toNat (.tup (p.map encW)) with | some r => decide (r.1 = (v : Int).toNat) && decide (r.2.num < 0) | none => false)) = true
  have e1 : wayR ts (v : Int).toNat (.tup (p.map encW)) = some (v, L) := by
    rw [Int.toNat_natCast]
    show (if (p.map encW).length ≤ 60 then _ else _) = _
    rw [if_pos (by rw [List.length_map]; omega)]
    exact e
  have e2 : peq (.tup (p.map encW)) (.tup []) = false := by
    cases p with
    | nil => exact absurd rfl h.ne
    | cons a p => rfl
  have e3 : L.num < 0 := Int.not_le.mp fun h => absurd (Rat.num_nonneg.mp h) (Rat.not_le.mpr l)
  rw [e1, e2, decide_eq_true (by omega)]
  simp [e3]
end G43
set_option Elab.async false
set_option linter.all false
set_option maxRecDepth 100000
set_option maxHeartbeats 4000000
namespace G43
open PySem
/-! ### bottoms of bounds -/
def DnT (m : Nat) (t : Tel) : Prop := ∀ x, (t.lo = some x ∨ t.hi = some x) → x.den ≤ m
theorem sz_gd {B m b : Nat} {x : Rat} (h : Gz (B * GG) x) (hd : x.den ≤ m) (h1 : B * m < 2 ^ b) (h2 : m < 2 ^ b) : Sz b x := by
  obtain ⟨z, e, l⟩ := h
  have e2 : x.num * (GG : Int) = z * (x.den : Int) := by
    have : ((x.num * (GG : Int) : Int) : Rat) = ((z * (x.den : Int) : Int) : Rat) := by
      rw [Rat.intCast_mul, Rat.intCast_mul, ← e, ← num_den x]
      push_cast
      grind
    exact_mod_cast this
  have e3 : x.num.natAbs * GG = z.natAbs * x.den := by
    have := congrArg Int.natAbs e2
    rwa [Int.natAbs_mul, Int.natAbs_mul, Int.natAbs_natCast, Int.natAbs_natCast] at this
  refine ⟨?_, Nat.lt_of_le_of_lt hd h2⟩
  have h3 : x.num.natAbs * GG ≤ B * m * GG := by
    rw [e3]
    have := Nat.mul_le_mul l hd
    rwa [Nat.mul_right_comm] at this
  have h4 : x.num.natAbs ≤ B * m := Nat.le_of_mul_le_mul_right h3 (by decide)
  omega
theorem OkT.gd {s : Nat} {t : Tel} (k : OkT s t) (g : GdT 256 t) (d : DnT 10368 t) : OkT 22 t :=
  ⟨k.a6, k.b6, k.ne, k.so, k.le, fun l e => sz_gd (g l (.inl e)) (d l (.inl e)) (by decide) (by decide), fun l e => sz_gd (g l (.inr e)) (d l (.inr e)) (by decide) (by decide)⟩
theorem DnT.up {a b : Nat} {t : Tel} (k : DnT a t) (h : a ≤ b) : DnT b t := fun x hx => Nat.le_trans (k x hx) h
/-- what a row keeps can all be -/
theorem kept_feas {ts : List Tel} {r : List Rat} (h : ∀ t ∈ ts, keptT t r = true) : FeasT ts := by
  refine feas_ed.mpr ⟨fun i => r.getD i 0, ?_⟩
  intro e he
  obtain ⟨t, ht, he⟩ := List.mem_flatMap.mp he
  have kt := h t ht
  unfold keptT at kt
  rw [Bool.and_eq_true] at kt
  obtain ⟨k1, k2⟩ := kt
  unfold edT at he
  rcases List.mem_append.mp he with he | he
  · split at he
    · rename_i q hq
      rw [List.mem_singleton] at he
      subst he
      rw [hq] at k2
      simp at k2
      dsimp only
      grind
    · cases he
  · split at he
    · rename_i q hq
      rw [List.mem_singleton] at he
      subst he
      rw [hq] at k1
      simp at k1
      dsimp only
      grind
    · cases he
end G43
namespace G43
open PySem
/-- a stretch -/
def strP (ts : List Tel) (a b : Nat) : PV := .tup [encO ((farV ts a b).map fun x => -x), encO (farV ts b a)]
end G43
namespace G43
open PySem
/-! ### watched clocks, widths -/
def watB : PV → Bool
  | .tup l => !l.isEmpty && l.all (inB 1 5) && rising (l.map areNums.ival)
  | _ => false
structure WatOk (cs : List Nat) : Prop where
  ne : cs ≠ []
  r : ∀ c ∈ cs, 1 ≤ c ∧ c < 6
  o : rising (cs.map fun (k : Nat) => (k : Int)) = true
theorem WatOk.is {cs : List Nat} (k : WatOk cs) : watB (numsP cs) = true := by
  show (!(cs.map fun (n : Nat) => PV.int n).isEmpty && (cs.map fun (n : Nat) => PV.int n).all (inB 1 5) && rising ((cs.map fun (n : Nat) => PV.int n).map areNums.ival)) = true
  rw [map_ival, k.o]
  have h1 : (cs.map fun (n : Nat) => PV.int n).all (inB 1 5) = true := by
    rw [List.all_eq_true]
    intro x hx
    obtain ⟨c, hc, rfl⟩ := List.mem_map.mp hx
    have := k.r c hc
    simp [inB]
    omega
  rw [h1]
  have := k.ne
  cases cs with
  | nil => exact absurd rfl this
  | cons a l => rfl
theorem WatOk.len {cs : List Nat} (k : WatOk cs) : cs.length ≤ 5 := by
  have hp := (rising_iff _).mp k.o
  have hn : cs.Nodup := (List.pairwise_map.mp hp).imp (fun h => by intro e; omega)
  have := nodup_le 6 (0 :: cs) (List.nodup_cons.mpr ⟨fun h => by have := k.r 0 h; omega, hn⟩) (fun x hx => by
    rcases List.mem_cons.mp hx with rfl | hx
    · omega
    · exact (k.r x hx).2)
  simp at this
  omega
/-- a width -/
def subO : Option Rat → Option Rat → Option Rat
  | some x, some y => some (x - y)
  | _, _ => none
def widV (ts : List Tel) (c : Nat) : Option Rat := subO (farV ts 0 c) ((farV ts c 0).map fun x => -x)
/-- the greatest of some widths, none where one has none -/
def worstF (w : Nat → Option Rat) : List Nat → Option Rat → Option (Option Rat)
  | [], f => some f
  | c :: cs, f => match w c with
    | none => none
    | some x => worstF w cs (match f with | none => some x | some y => if y < x then some x else some y)
def worstV (w : Nat → Option Rat) (cs : List Nat) : Option Rat := (worstF w cs none).getD none
def withoutT (ts : List Tel) (n : Nat) : List Tel := ts.take n ++ ts.drop (n + 1)
theorem dt_encO {n : Nat} (a : Option Rat) : Dt (n + 1) (encO a) := by
  cases a with
  | none => trivial
  | some x => exact dt_pt x
end G43
set_option Elab.async false
set_option linter.all false
set_option maxRecDepth 100000
set_option maxHeartbeats 4000000
namespace G43
open PySem
/-! ### airs, signals -/
def airP (slow fast : Rat) : PV := .obj 0 [pt slow, pt fast]
structure OkAir (s : Nat) (slow fast : Rat) : Prop where
  p : 0 < slow
  le : ¬ fast < slow
  z1 : Sz s slow
  z2 : Sz s fast
theorem OkAir.up {s t : Nat} {p q : Rat} (k : OkAir s p q) (h : s ≤ t) : OkAir t p q := ⟨k.p, k.le, k.z1.up h, k.z2.up h⟩
theorem OkAir.fp {s : Nat} {p q : Rat} (k : OkAir s p q) : 0 < q := by
  have := k.p
  have := k.le
  grind
inductive SK where
  | ball
  | gun (f : Rat)
  | wire (l m : Rat)
structure Sig where
  k : SK
  a : Nat
  b : Nat
  sent : Rat
  came : Option Rat
def sigL (g : Sig) : List PV := match g.k with
  | .ball => [.str "ball", .int g.a, .int g.b, pt g.sent, ob g.came]
  | .gun f => [.str "gun", .int g.a, .int g.b, pt g.sent, ob g.came, pt f]
  | .wire l m => [.str "wire", .int g.a, .int g.b, pt g.sent, ob g.came, pt l, pt m]
def encG (g : Sig) : PV := .tup (sigL g)
def OkK (s : Nat) : SK → Prop
  | .ball => True
  | .gun f => 0 ≤ f ∧ Sz s f
  | .wire l m => 0 ≤ l ∧ ¬ m < l ∧ Sz s l ∧ Sz s m
structure OkG (s : Nat) (g : Sig) : Prop where
  a6 : g.a < 6
  b6 : g.b < 6
  ne : g.a ≠ g.b
  zs : Sz s g.sent
  zc : ∀ c, g.came = some c → Sz s c
  kk : OkK s g.k
theorem OkK.up {s t : Nat} {k : SK} (h : OkK s k) (l : s ≤ t) : OkK t k := by
  cases k with
  | ball => trivial
  | gun f => exact ⟨h.1, h.2.up l⟩
  | wire a b => exact ⟨h.1, h.2.1, h.2.2.1.up l, h.2.2.2.up l⟩
theorem OkG.up {s t : Nat} {g : Sig} (k : OkG s g) (h : s ≤ t) : OkG t g := ⟨k.a6, k.b6, k.ne, k.zs.up h, fun c e => (k.zc c e).up h, k.kk.up h⟩
/-- how long it may take -/
def lagK (slow fast : Rat) : SK → Rat × Rat
  | .ball => (0, 0)
  | .gun f => (qdiv f fast, qdiv f slow)
  | .wire l m => (l, m)
def tellG (slow fast : Rat) (g : Sig) : Option Tel := g.came.map fun c => ⟨g.a, g.b, some (c - g.sent - (lagK slow fast g.k).2), some (c - g.sent - (lagK slow fast g.k).1)⟩
def enOT : Option Tel → PV
  | none => .non
  | some t => encT t
end G43
namespace G43
open PySem
/-- a log: where its fields lie, where its list -/
structure LogH (h : Hs) (i j : Nat) (p q : Rat) (gs : List Sig) : Prop where
  o : h[i]? = some (some [.obj 1 [], airP p q, .scr []])
  l : h[j]? = some (some (gs.map encG))
theorem LogH.ne {h : Hs} {i j i2 j2 : Nat} {p q p2 q2 : Rat} {gs gs2 : List Sig} (L : LogH h i j p q gs) (M : LogH h i2 j2 p2 q2 gs2) : i ≠ j2 := by
  rintro rfl
  have e := L.o.symm.trans M.l
  cases gs2 with
  | nil => cases e
  | cons g r => cases e
theorem LogH.put {h : Hs} {i j : Nat} {p q : Rat} {gs : List Sig} (L : LogH h i j p q gs) (g : Sig) : LogH (h.set j (some ((gs ++ [g]).map encG))) i j p q (gs ++ [g]) :=
  ⟨get_set_ne (fun e => L.ne L e.symm) L.o, List.getElem?_set_self (List.getElem?_eq_some_iff.mp L.l).1⟩
theorem LogH.off {h : Hs} {i j n : Nat} {p q : Rat} {gs : List Sig} {c : Option (List PV)} (L : LogH h i j p q gs) (h1 : n ≠ i) (h2 : n ≠ j) : LogH (h.set n c) i j p q gs := ⟨get_set_ne h1 L.o, get_set_ne h2 L.l⟩
theorem LogH.app {h t : Hs} {i j : Nat} {p q : Rat} {gs : List Sig} (L : LogH h i j p q gs) : LogH (h ++ t) i j p q gs :=
  ⟨by rw [List.getElem?_append_left (List.getElem?_eq_some_iff.mp L.o).1]; exact L.o, by rw [List.getElem?_append_left (List.getElem?_eq_some_iff.mp L.l).1]; exact L.l⟩
end G43
namespace G43
open PySem
end G43
namespace G43
open PySem
end G43
namespace G43
end G43
set_option Elab.async false
set_option linter.all false
set_option maxRecDepth 100000
set_option maxHeartbeats 4000000
namespace G43
open PySem
/-! ### things that may be signals -/
def moreOf (w : Str) : Option Nat := if w == ("ball" : Str) then some 0 else if w == ("gun" : Str) then some 1 else if w == ("wire" : Str) then some 2 else none
def nnPt (y : PV) : Bool := isPt y && (match y with
  | .tup (.int n :: _) => decide (0 ≤ n)
  | _ => false)
def blwP : PV → PV → Bool
  | .tup [.int a, .int b], .tup [.int c, .int d] => decide (a * d < c * b)
  | _, _ => false
def endW : List PV → Bool
  | [l, m] => !blwP m l
  | _ => true
def isSig : PV → Bool
  | .tup (.str w :: y1 :: y2 :: y3 :: y4 :: rest) => (match moreOf w with
    | some n => decide (rest.length = n) && (inB 0 5 y1 && (inB 0 5 y2 && (!peq y1 y2 && (isPt y3 && ((isNon y4 || isPt y4) && (rest.all nnPt && endW rest))))))
    | none => false)
  | _ => false
def sigB (n : Nat) (y1 y2 y3 y4 : PV) (rest : List PV) : Bool := decide (rest.length = n) && (inB 0 5 y1 && (inB 0 5 y2 && (!peq y1 y2 && (isPt y3 && ((isNon y4 || isPt y4) && (rest.all nnPt && endW rest))))))
theorem isSig_some {w : Str} {n : Nat} {y1 y2 y3 y4 : PV} {rest : List PV} (h : moreOf w = some n) : isSig (.tup (.str w :: y1 :: y2 :: y3 :: y4 :: rest)) = sigB n y1 y2 y3 y4 rest := by
  show (match moreOf w with | some n => sigB n y1 y2 y3 y4 rest | none => false) = _
  rw [h]
theorem blwP_pt {p q : Rat} : blwP (pt p) (pt q) = decide (p < q) := by
  show decide (p.num * (q.den : Int) < q.num * (p.den : Int)) = _
  rw [lt_made]
theorem nnPt_pt {q : Rat} : nnPt (pt q) = decide (0 ≤ q.num) := by
  unfold nnPt
  rw [pt_isPt, Bool.true_and]
  rfl
theorem OkG.bd {b : Nat} {g : Sig} (k : OkG b g) : ∀ y ∈ sigL g, ElR b y := by
  have kk := k.kk
  obtain ⟨gk, n1, n2, s, c⟩ := g
  have eo : ElR b (ob c) := by
    cases c with
    | none => exact elr_flat rfl
    | some q => exact elr_pt (k.zc q rfl)
  cases gk with
  | ball => exact allC (elr_flat rfl) (allC (elr_flat rfl) (allC (elr_flat rfl) (allC (elr_pt k.zs) (allC eo all1))))
  | gun f => exact allC (elr_flat rfl) (allC (elr_flat rfl) (allC (elr_flat rfl) (allC (elr_pt k.zs) (allC eo (allC (elr_pt kk.2) all1)))))
  | wire l m => exact allC (elr_flat rfl) (allC (elr_flat rfl) (allC (elr_flat rfl) (allC (elr_pt k.zs) (allC eo (allC (elr_pt kk.2.2.1) (allC (elr_pt kk.2.2.2) all1))))))
theorem OkG.is {b : Nat} {g : Sig} (k : OkG b g) : isSig (encG g) = true := by
  have kk := k.kk
  obtain ⟨gk, n1, n2, s, c⟩ := g
  have h1 : inB 0 5 (.int n1) = true := by have := k.a6; have : n1 < 6 := this; simp [inB]; omega
  have h2 : inB 0 5 (.int n2) = true := by have := k.b6; have : n2 < 6 := this; simp [inB]; omega
  have h3 : peq (.int n1) (.int n2) = false := by
    have := k.ne
    have : n1 ≠ n2 := this
    simp [peq]
    omega
  have h5 : (isNon (ob c) || isPt (ob c)) = true := by
    cases c with
    | none => rfl
    | some q => show (false || isPt (pt q)) = true; rw [pt_isPt]; rfl
  have w0 : moreOf "ball" = some 0 := by decide +kernel
  have w1 : moreOf "gun" = some 1 := by decide +kernel
  have w2 : moreOf "wire" = some 2 := by decide +kernel
  cases gk with
  | ball =>
    unfold encG sigL
    dsimp only
    rw [isSig_some w0]
    unfold sigB
    rw [h1, h2, h3, pt_isPt, h5]
    rfl
  | gun f =>
    unfold encG sigL
    dsimp only
    rw [isSig_some w1]
    unfold sigB
    rw [h1, h2, h3, pt_isPt, h5]
    simp only [List.all_cons, List.all_nil, nnPt_pt, decide_eq_true (Rat.num_nonneg.mpr kk.1)]
    rfl
  | wire l m =>
    have hm : 0 ≤ m := by
      have h1 := kk.1
      have h2 := kk.2.1
      grind
    unfold encG sigL
    dsimp only
    rw [isSig_some w2]
    unfold sigB
    rw [h1, h2, h3, pt_isPt, h5]
    simp only [List.all_cons, List.all_nil, nnPt_pt, decide_eq_true (Rat.num_nonneg.mpr kk.1), decide_eq_true (Rat.num_nonneg.mpr hm)]
    show (!blwP (pt m) (pt l)) = true
    rw [blwP_pt, decide_eq_false kk.2.1]
    rfl
end G43
set_option Elab.async false
set_option linter.all false
set_option maxRecDepth 100000
set_option maxHeartbeats 4000000
namespace G43
open PySem
/-! ### things that may be clocks -/
def isSetP : PV → Bool
  | .tup [m, j] => nnPt m && (isPt j && !peq j (pt 0))
  | _ => false
def fst2 : PV → PV
  | .tup (m :: _) => m
  | p => p
def risP : List PV → Bool
  | [] => true
  | [_] => true
  | a :: b :: l => blwP (fst2 a) (fst2 b) && risP (b :: l)
def isClk : PV → Bool
  | .tup [g, .tup l] => isPt g && (!blwP g (pt (-12)) && (!blwP (pt 12) g && (decide (l.length ≤ 6) && (l.all isSetP && risP l))))
  | _ => false
/-- what is asked of a thing that may be a set -/
structure BdS (b : Nat) (y : PV) : Prop where
  p : plain y = true
  q : ∀ m j, y = .tup [m, j] → ElR b m ∧ ElR b j
structure BdC (b : Nat) (x : PV) : Prop where
  p : plain x = true
  q : ∀ g s, x = .tup [g, s] → ElR b g ∧ plain s = true ∧ ∀ l, s = .tup l → l.length ≤ 60 ∧ ∀ y ∈ l, BdS b y
end G43
set_option Elab.async false
set_option linter.all false
set_option maxRecDepth 100000
set_option maxHeartbeats 4000000
namespace G43
open PySem
/-! ### things that may be tellings -/
def bndP (lo hi : PV) : Bool := if (isNon lo || isNon hi) = true then isPt lo || isPt hi else isPt lo && (isPt hi && !blwP hi lo)
def isTelP : PV → Bool
  | .tup [a, b, lo, hi] => inB 0 5 a && (inB 0 5 b && (!peq a b && bndP lo hi))
  | _ => false
def isTels : PV → Bool
  | .tup l => decide (l.length ≤ 16) && l.all isTelP
  | _ => false
/-- plain, of parts of bounded size, n deep -/
def Hb (b : Nat) : Nat → PV → Prop
  | 0, x => plain x = true
  | n + 1, x => plain x = true ∧ (∀ i j, x = .tup [.int i, .int j] → i.natAbs < 2 ^ b ∧ j.natAbs < 2 ^ b) ∧ ∀ l, x = .tup l → l.length ≤ 40 ∧ ∀ y ∈ l, Hb b n y
theorem Hb.pl {b : Nat} : ∀ {n : Nat} {x : PV}, Hb b n x → plain x = true
  | 0, _, h => h
  | _ + 1, _, h => h.1
theorem Hb.el {b n : Nat} {x : PV} (h : Hb b (n + 2) x) : ElR b x := by
  refine ⟨?_, h.2.1⟩
  cases x with
  | tup l => exact List.all_eq_true.mpr fun y hy => Hb.pl ((h.2.2 l rfl).2 y hy)
  | _ => first | rfl | (cases h.1; done) | exact h.1
theorem Hb.bd {b n : Nat} {x : PV} (h : Hb b (n + 3) x) : BdR b x := ⟨h.1, fun l e y hy => Hb.el ((h.2.2 l e).2 y hy)⟩
theorem Hb.fl {b : Nat} {x : PV} (h : plain x = true) (n : ∀ l, x ≠ .tup l) : ∀ {k : Nat}, Hb b k x
  | 0 => h
  | _ + 1 => ⟨h, fun i j e => absurd e (n _), fun l e => absurd e (n _)⟩
theorem Hb.tp {b k : Nat} {l : List PV} (h : ∀ y ∈ l, Hb b k y) (hl : l.length ≤ 40) (z : ∀ i j, l = [.int i, .int j] → i.natAbs < 2 ^ b ∧ j.natAbs < 2 ^ b) : Hb b (k + 1) (.tup l) :=
  ⟨rfl, fun i j e => by injection e with e; exact z i j e, fun l' e => by cases e; exact ⟨hl, h⟩⟩
end G43
set_option Elab.async false
set_option linter.all false
set_option maxRecDepth 100000
set_option maxHeartbeats 4000000
namespace G43
open PySem
/-! ### offers -/
noncomputable def ofW (ts : List Tel) (cs : List Nat) (o : Tel) : Option Rat := if togB (ts ++ [o]) = true then worstV (widV (ts ++ [o])) cs else none
def bestN (n : Nat) (f : Option (Nat × Rat)) : Option Rat → Option (Nat × Rat)
  | none => f
  | some w => match f with
    | none => some (n, w)
    | some (m, y) => if w < y then some (n, w) else some (m, y)
def bestL (w : Tel → Option Rat) : List Tel → Nat → Option (Nat × Rat) → Option (Nat × Rat)
  | [], _, f => f
  | o :: l, n, f => bestL w l (n + 1) (bestN n f (w o))
def encB : Option (Nat × Rat) → PV
  | none => .non
  | some x => .tup [.int x.1, pt x.2]
structure CaseOk (c : List Tel × List Tel × List Nat) : Prop where
  l1 : c.1.length ≤ 10
  l2 : 1 ≤ c.2.1.length ∧ c.2.1.length ≤ 6
  k1 : ∀ t ∈ c.1, OkT 19 t ∧ GdT 256 t
  k2 : ∀ t ∈ c.2.1, OkT 26 t ∧ GdT 256 t
  r : ∃ r, RowOk 6 r ∧ ∀ t ∈ c.1, keptT t r = true
  w : WatOk c.2.2
def encCs (c : List Tel × List Tel × List Nat) : PV := .tup [tls c.1, tls c.2.1, numsP c.2.2]
end G43
set_option Elab.async false
set_option linter.all false
set_option maxRecDepth 100000
set_option maxHeartbeats 4000000
namespace G43
open PySem
/-! ### posts: six clocks, the tellings as they were told -/
abbrev Ck := Rat × List (Rat × Rat)
def ckP (c : Ck) : PV := ck c.1 c.2
def cksP (cs : List Ck) : PV := .tup (cs.map ckP)
structure Td where
  n : Nat
  m : Rat
  t : Tel
def encD (d : Td) : PV := .tup [.int d.n, pt d.m, .int d.t.a, .int d.t.b, ob d.t.lo, ob d.t.hi]
def tdsP (ds : List Td) : PV := .tup (ds.map encD)
def ckA (cs : List Ck) (i : Nat) : Ck := cs.getD i (0, [])
def drA (cs : List Ck) (i : Nat) (m : Rat) : Rat := drf (ckA cs i).1 (ckA cs i).2 m
def byD (cs : List Ck) (a b : Nat) (m : Rat) : Rat := drA cs b m - drA cs a m
def backT (cs : List Ck) (d : Td) : Tel := ⟨d.t.a, d.t.b, d.t.lo.map fun x => x - byD cs d.t.a d.t.b d.m, d.t.hi.map fun x => x - byD cs d.t.a d.t.b d.m⟩
structure OkCs (b : Nat) (cs : List Ck) : Prop where
  l : cs.length = 6
  k : ∀ c ∈ cs, OkC b c.1 c.2
theorem OkCs.at {b : Nat} {cs : List Ck} (k : OkCs b cs) {i : Nat} (h : i < 6) : (cs.map ckP)[i]? = some (ckP (ckA cs i)) ∧ OkC b (ckA cs i).1 (ckA cs i).2 := by
  have lt : i < cs.length := by rw [k.l]; exact h
  have e : ckA cs i = cs[i] := by
    unfold ckA
    rw [List.getD_eq_getElem?_getD, List.getElem?_eq_getElem lt]
    rfl
  rw [List.getElem?_map, List.getElem?_eq_getElem lt, e]
  exact ⟨rfl, k.k _ (List.getElem_mem lt)⟩
/-- a telling as it was told -/
structure OkD (c e : Nat) (d : Td) : Prop where
  a6 : d.t.a < 6
  b6 : d.t.b < 6
  m0 : 0 ≤ d.m
  zm : Sz c d.m
  zl : ∀ x, d.t.lo = some x → Sz e x
  zh : ∀ x, d.t.hi = some x → Sz e x
/-- told of a telling's own bounds -/
def toldT (cs : List Ck) (n : Nat) (m : Rat) (t : Tel) : Td := ⟨n, m, ⟨t.a, t.b, t.lo.map fun x => x + byD cs t.a t.b m, t.hi.map fun x => x + byD cs t.a t.b m⟩⟩
theorem map_back {o : Option Rat} {q : Rat} : (o.map fun x => x + q).map (fun x => x - q) = o := by
  cases o with
  | none => rfl
  | some x =>
    show some (x + q - q) = some x
    congr 1
    grind
theorem back_told (cs : List Ck) (n : Nat) (m : Rat) (t : Tel) : backT cs (toldT cs n m t) = t := by
  obtain ⟨a, b, lo, hi⟩ := t
  show Tel.mk a b ((lo.map fun x => x + byD cs a b m).map fun x => x - byD cs a b m) ((hi.map fun x => x + byD cs a b m).map fun x => x - byD cs a b m) = _
  rw [map_back, map_back]
theorem sz_drA {b c : Nat} {cs : List Ck} (k : OkCs b cs) {i : Nat} (h : i < 6) {m : Rat} (zm : Sz c m) : Sz (c + 7 * b + 8) (drA cs i m) := by
  have kc := (k.at h).2
  have b1 := kc.zg.pos
  exact ((zm.mul kc.zg (by omega)).add (sz_jt (n := 6) kc.z kc.l)).up (by omega)
theorem sz_by {b c : Nat} {cs : List Ck} (k : OkCs b cs) {x y : Nat} (hx : x < 6) (hy : y < 6) {m : Rat} (zm : Sz c m) : Sz (2 * (c + 7 * b + 8) + 1) (byD cs x y m) := ((sz_drA k hy zm).sub (sz_drA k hx zm)).up (by omega)
theorem atc_nat {l : List PV} {n : Nat} {x : PV} (e : l[n]? = some x) : atI l (n : Int) = some x := by
  have lt := (List.getElem?_eq_some_iff.mp e).1
  have e2 : L2.ixN l.length (n : Int) = some n := by
    unfold L2.ixN
    rw [if_pos (by omega), if_pos (by omega)]
    simp
  unfold atI L2.atI
  rw [e2]
  exact e
theorem ixCk {b : Nat} {cs : List Ck} (k : OkCs b cs) {i : Nat} (h : i < 6) {hh : Hs} {K : PV → Prop} : kIx (.pv (cksP cs)) (.pv (.int i)) hh K = K (ckP (ckA cs i)) := by
  unfold cksP
  rw [k_ixt]
  apply propext
  rw [atc_nat (k.at h).1]
  constructor
  · rintro ⟨v, e, z⟩
    cases e
    exact z
  · intro z
    exact ⟨_, rfl, z⟩
/-! ### where posts lie -/
structure PostH (h : Hs) (i j : Nat) (cs : List Ck) (ds : List Td) (n : Nat) (past : List PV) : Prop where
  o : h[i]? = some (some [.obj 0 [], cksP cs, tdsP ds, .int n, .scr []])
  l : h[j]? = some (some past)
  ne : i ≠ j
/-- all cells but two are as they were -/
structure SameP (i j : Nat) (h h2 : Hs) : Prop where
  n : h2.length = h.length
  e : ∀ n, n ≠ i → n ≠ j → h2[n]? = h[n]?
theorem SameP.rf {i j : Nat} {h : Hs} : SameP i j h h := ⟨rfl, fun _ _ _ => rfl⟩
theorem SameP.trans {i j : Nat} {h h2 h3 : Hs} (a : SameP i j h h2) (b : SameP i j h2 h3) : SameP i j h h3 := ⟨b.n.trans a.n, fun n x y => (b.e n x y).trans (a.e n x y)⟩
theorem SameP.take {i j n : Nat} {h h2 : Hs} (S : SameP i j h h2) (h1 : n ≤ i) (h3 : n ≤ j) : h2.take n = h.take n := by
  apply List.ext_getElem?
  intro m
  rw [List.getElem?_take, List.getElem?_take]
  split
  · exact S.e m (by omega) (by omega)
  · rfl
theorem PostH.lt {h : Hs} {i j n : Nat} {cs : List Ck} {ds : List Td} {past : List PV} (L : PostH h i j cs ds n past) : i < h.length ∧ j < h.length := ⟨(List.getElem?_eq_some_iff.mp L.o).1, (List.getElem?_eq_some_iff.mp L.l).1⟩
theorem PostH.app {h t : Hs} {i j n : Nat} {cs : List Ck} {ds : List Td} {past : List PV} (L : PostH h i j cs ds n past) : PostH (h ++ t) i j cs ds n past :=
  ⟨by rw [List.getElem?_append_left L.lt.1]; exact L.o, by rw [List.getElem?_append_left L.lt.2]; exact L.l, L.ne⟩
theorem PostH.off {h : Hs} {i j n m : Nat} {cs : List Ck} {ds : List Td} {past : List PV} {c : Option (List PV)} (L : PostH h i j cs ds n past) (h1 : m ≠ i) (h2 : m ≠ j) : PostH (h.set m c) i j cs ds n past := ⟨get_set_ne h1 L.o, get_set_ne h2 L.l, L.ne⟩
theorem k_fstL {k t i : Nat} {j : Option Nat} {q : PV} {fs : List PV} {h : Hs} {ρ : Env} {g : Hs → Prop} (e : h[i]? = some (some (.obj k [] :: fs))) : kFst (some (.ob k i j) :: ρ) 0 k t (.pv q) h g = (isMk q = false ∧ t ≤ fs.length ∧ g (h.set i (some (.obj k [] :: putN fs t q)))) := by
  unfold kFst
  apply propext
  constructor
  · rintro ⟨q', i', j', fs', e1, e2, e3, e4, e5, z⟩
    cases e1; simp at e3
    obtain ⟨rfl, rfl⟩ := e3
    rw [e] at e4
    simp at e4
    subst e4
    exact ⟨e2, e5, z⟩
  · rintro ⟨e2, e5, z⟩
    exact ⟨q, _, _, fs, rfl, e2, rfl, e, e5, z⟩
/-- two cells more -/
structure ExtP (h h2 : Hs) : Prop where
  n : h2.length = h.length + 2
  e : ∀ n, n < h.length → h2[n]? = h[n]?
theorem ExtP.take {n : Nat} {h h2 : Hs} (E : ExtP h h2) (h1 : n ≤ h.length) : h2.take n = h.take n := by
  apply List.ext_getElem?
  intro m
  rw [List.getElem?_take, List.getElem?_take]
  split
  · exact E.e m (by omega)
  · rfl
theorem PostH.ext {h h2 : Hs} {i j n : Nat} {cs : List Ck} {ds : List Td} {past : List PV} (L : PostH h i j cs ds n past) (E : ExtP h h2) : PostH h2 i j cs ds n past := ⟨by rw [E.e _ L.lt.1]; exact L.o, by rw [E.e _ L.lt.2]; exact L.l, L.ne⟩
theorem PostH.same {h h2 : Hs} {i j i2 j2 n : Nat} {cs : List Ck} {ds : List Td} {past : List PV} (L : PostH h i j cs ds n past) (S : SameP i2 j2 h h2) (h1 : i ≠ i2) (h3 : i ≠ j2) (h4 : j ≠ i2) (h5 : j ≠ j2) : PostH h2 i j cs ds n past := ⟨by rw [S.e _ h1 h3]; exact L.o, by rw [S.e _ h4 h5]; exact L.l, L.ne⟩
theorem PostH.isK {h : Hs} {i j n : Nat} {cs : List Ck} {ds : List Td} {past : List PV} (L : PostH h i j cs ds n past) : G43.isK h 0 (.ob 0 i (some j)) := ⟨rfl, _, L.o⟩
def lowB (o : Option Rat) (b q : Rat) : Bool := match o with
  | none => false
  | some w => decide (q < -w + b)
def hiB (o : Option Rat) (b q : Rat) : Bool := match o with
  | none => false
  | some w => decide (w + b < q)
/-- the error then, where it can be -/
noncomputable def dueV (ts : List Tel) (x : Nat) (b q : Rat) : PV := if (lowB (farV ts x 0) b q || hiB (farV ts 0 x) b q) = true then .str "no" else pt q
/-! ### a clock is set -/
def atS (S : List (Rat × Rat)) (m : Rat) : Nat := (S.filter fun y => decide (y.1 < m)).length
def insS (S : List (Rat × Rat)) (m q : Rat) : List (Rat × Rat) := S.take (atS S m) ++ [(m, q)] ++ S.drop (atS S m)
def setC (cs : List Ck) (x : Nat) (m q : Rat) : List Ck := cs.take x ++ [((ckA cs x).1, insS (ckA cs x).2 m q)] ++ cs.drop (x + 1)
theorem inS_no {m : Rat} : ∀ {S : List (Rat × Rat)}, (∀ y ∈ S, y.1 ≠ m) → inL (pt m) (S.map fun y => pt y.1) = false
  | [], _ => rfl
  | y :: S, h => by
    rw [List.map_cons, inL, inS_no fun z hz => h z (by simp [hz]), pt_inj, decide_eq_false (h y (by simp))]
    rfl
end G43
set_option Elab.async false
set_option linter.all false
set_option maxRecDepth 100000
set_option maxHeartbeats 4000000
namespace G43
open PySem
/-! ### a row that keeps all lies within the stretches -/
/-! ### clocks that are set by turns -/
def whenR (n : Nat) : Rat := Rat.divInt (3 * (n : Int) + 1) 2
theorem whenR_eq (n : Nat) : whenR n = (3 * (n : Rat) + 1) / 2 := by
  unfold whenR
  rw [Rat.divInt_eq_div]
  push_cast
  rfl
theorem whenR_lt (n : Nat) : whenR n < whenR (n + 1) := by
  rw [whenR_eq, whenR_eq]
  push_cast
  grind
structure CsN (n : Nat) (cs : List Ck) : Prop where
  l : cs.length = 6
  g : ∀ c ∈ cs, Sz 5 c.1 ∧ -12 ≤ c.1 ∧ c.1 ≤ 12
  s : ∀ c ∈ cs, DrS 5 n c.2
  b : ∀ c ∈ cs, ∀ y ∈ c.2, y.1 < whenR n
theorem CsN.ok {n : Nat} {cs : List Ck} (k : CsN n cs) (h : n ≤ 6) : OkCs 5 cs := ⟨k.l, fun c hc => ((k.s c hc).up h).ok (k.g c hc).2.1 (k.g c hc).2.2 (k.g c hc).1⟩
theorem ckA_mem {cs : List Ck} {x : Nat} (h : x < cs.length) : ckA cs x ∈ cs := by
  unfold ckA
  rw [List.getD_eq_getElem?_getD, List.getElem?_eq_getElem h]
  exact List.getElem_mem h
theorem ins_end {S : List (Rat × Rat)} {m q : Rat} (h : ∀ y ∈ S, y.1 < m) : insS S m q = S ++ [(m, q)] := by
  have e : atS S m = S.length := by
    unfold atS
    rw [List.filter_eq_self.mpr fun y hy => decide_eq_true (h y hy)]
  unfold insS
  rw [e, List.take_length, List.drop_length, List.append_nil]
theorem setC_set {cs : List Ck} {x : Nat} {m q : Rat} (hx : x < cs.length) : setC cs x m q = cs.set x ((ckA cs x).1, insS (ckA cs x).2 m q) := by
  unfold setC
  rw [List.set_eq_take_append_cons_drop, if_pos hx]
  simp
theorem CsN.set {n x : Nat} {cs : List Ck} {q : Rat} (k : CsN n cs) (hn : n ≤ 3) (hx : x < 6) (q0 : q ≠ 0) (zq : Sz 5 q) : CsN (n + 1) (setC cs x (whenR n) q) := by
  have lx : x < cs.length := by rw [k.l]; exact hx
  have hm := ckA_mem lx
  rw [setC_set lx, ins_end (k.b (ckA cs x) hm)]
  have zw : Sz 5 (whenR n) := sz_divInt (by omega) (by omega) (by omega)
  have mem : ∀ c ∈ cs.set x ((ckA cs x).1, (ckA cs x).2 ++ [(whenR n, q)]), c ∈ cs ∨ c = ((ckA cs x).1, (ckA cs x).2 ++ [(whenR n, q)]) := fun c hc => List.mem_or_eq_of_mem_set hc
  refine ⟨by rw [List.length_set]; exact k.l, ?_, ?_, ?_⟩
  · intro c hc
    rcases mem c hc with h | rfl
    · exact k.g c h
    · exact k.g (ckA cs x) hm
  · intro c hc
    rcases mem c hc with h | rfl
    · exact (k.s c h).up (by omega)
    · exact (k.s (ckA cs x) hm).snoc (divInt_nonneg (by omega) (by omega)) q0 zw zq (k.b (ckA cs x) hm)
  · intro c hc y hy
    have lt := whenR_lt n
    rcases mem c hc with h | rfl
    · have := k.b c h y hy
      grind
    · rcases List.mem_append.mp hy with hy | hy
      · have := k.b (ckA cs x) hm y hy
        grind
      · rw [List.mem_singleton] at hy
        subst hy
        exact lt
/-! ### what a post was told that a row keeps -/
structure KpOk (r : List Rat) (cs : List Ck) (ds : List Td) : Prop where
  c : OkCs 5 cs
  l : ds.length ≤ 8
  d : ∀ d ∈ ds, OkD 5 120 d
  k : ∀ u ∈ ds.map (backT cs), (OkT 19 u ∧ keptT u r = true) ∧ GdT 256 u
theorem KpOk.f {r : List Rat} {cs : List Ck} {ds : List Td} (k : KpOk r cs ds) : FeasT (ds.map (backT cs)) := kept_feas (r := r) fun u hu => (k.k u hu).1.2
theorem told_sz {cs : List Ck} {n : Nat} {m : Rat} {t : Tel} (k : OkCs 5 cs) (kt : OkT 19 t) (zm : Sz 5 m) : OkT 120 (toldT cs n m t).t := by
  have zb := sz_by k kt.a6 kt.b6 zm
  have up : ∀ {o : Option Rat}, (∀ x, o = some x → Sz 19 x) → ∀ x, (o.map fun x => x + byD cs t.a t.b m) = some x → Sz 120 x := by
    intro o h x e
    obtain ⟨y, hy, rfl⟩ := Option.map_eq_some_iff.mp e
    exact ((h y hy).add zb).up (by omega)
  refine ⟨kt.a6, kt.b6, kt.ne, ?_, ?_, up kt.zl, up kt.zh⟩
  · rcases kt.so with h | h
    · exact .inl fun e => h (by
        have e : (t.lo.map fun x => x + byD cs t.a t.b m) = none := e
        simpa using e)
    · exact .inr fun e => h (by
        have e : (t.hi.map fun x => x + byD cs t.a t.b m) = none := e
        simpa using e)
  · intro l h e1 e2
    obtain ⟨l', h1, rfl⟩ := Option.map_eq_some_iff.mp (show (t.lo.map fun x => x + byD cs t.a t.b m) = some l from e1)
    obtain ⟨h', h2, rfl⟩ := Option.map_eq_some_iff.mp (show (t.hi.map fun x => x + byD cs t.a t.b m) = some h from e2)
    have := kt.le l' h' h1 h2
    grind
theorem KpOk.nil {r : List Rat} {cs : List Ck} (k : OkCs 5 cs) : KpOk r cs [] := ⟨k, by simp, by simp, by simp⟩
theorem KpOk.snoc {r : List Rat} {cs : List Ck} {ds : List Td} {n : Nat} {m : Rat} {t : Tel} (K : KpOk r cs ds) (hl : ds.length < 8) (zm : Sz 5 m) (m0 : 0 ≤ m) (kt : OkT 19 t) (kk : keptT t r = true) (g : GdT 256 t) : KpOk r cs (ds ++ [toldT cs n m t]) := by
  have z := told_sz (n := n) K.c kt zm
  refine ⟨K.c, by simp; omega, ?_, ?_⟩
  · intro d hd
    rcases List.mem_append.mp hd with hd | hd
    · exact K.d d hd
    · rw [List.mem_singleton] at hd
      subst hd
      exact ⟨kt.a6, kt.b6, m0, zm, z.zl, z.zh⟩
  · intro u hu
    rw [List.map_append] at hu
    rcases List.mem_append.mp hu with hu | hu
    · exact K.k u hu
    · rw [List.map_singleton, List.mem_singleton, back_told] at hu
      subst hu
      exact ⟨⟨kt, kk⟩, g⟩
/-! ### where a law tells a post -/
structure StH (m : Nat) (h h' : Hs) (cs lc : List Ck) (ds : List Td) (n : Nat) (past : List PV) : Prop where
  lt : m < h.length
  t : ∃ p, h'.take h.length = h.set m (some (penL p))
  L : PostH h' h.length (h.length + 1) cs ds n past
  C : h'[h.length + 2]? = some (some (lc.map ckP))
section
variable {m n : Nat} {h h' h2 : Hs} {cs cs2 lc lc2 : List Ck} {ds ds2 : List Td} {n2 : Nat} {past past2 : List PV}
theorem StH.P (S : StH m h h' cs lc ds n past) : PenH m h' := by
  obtain ⟨p, e⟩ := S.t
  refine ⟨p, ?_⟩
  have : (h'.take h.length)[m]? = some (some (penL p)) := by rw [e, List.getElem?_set_self S.lt]
  rw [List.getElem?_take, if_pos S.lt] at this
  exact this
theorem StH.draw (S : StH m h h' cs lc ds n past) (p : Pen) : StH m h (h'.set m (some (penL p))) cs lc ds n past := by
  have hm := S.lt
  obtain ⟨q, e⟩ := S.t
  refine ⟨hm, ⟨p, ?_⟩, S.L.off (by omega) (by omega), get_set_ne (by omega) S.C⟩
  rw [List.take_set, e, List.set_set]
theorem StH.post (S : StH m h h' cs lc ds n past) (E : SameP h.length (h.length + 1) h' h2) (L : PostH h2 h.length (h.length + 1) cs2 ds2 n2 past2) : StH m h h2 cs2 lc ds2 n2 past2 := by
  obtain ⟨q, e⟩ := S.t
  exact ⟨S.lt, ⟨q, by rw [E.take (Nat.le_refl _) (by omega), e]⟩, L, by rw [E.e _ (by omega) (by omega)]; exact S.C⟩
theorem StH.sub (S : StH m h h' cs lc ds n past) : StH m h (h'.set (h.length + 2) (some (lc2.map ckP))) cs lc2 ds n past := by
  obtain ⟨q, e⟩ := S.t
  refine ⟨S.lt, ⟨q, ?_⟩, S.L.off (by omega) (by omega), List.getElem?_set_self (List.getElem?_eq_some_iff.mp S.C).1⟩
  rw [List.take_set_of_le (by omega), e]
end
end G43
set_option Elab.async false
set_option linter.all false
set_option maxRecDepth 100000
set_option maxHeartbeats 4000000
namespace G43
open PySem
/-! ### things that are none, looked at -/
def elB (b : Nat) (y : PV) : Bool := plain2 y && (match y with
  | .tup [.int n, .int m] => decide (n.natAbs < 2 ^ b) && decide (m.natAbs < 2 ^ b)
  | _ => true)
theorem elB_ok {b : Nat} {y : PV} (h : elB b y = true) : ElR b y := by
  unfold elB at h
  rw [Bool.and_eq_true] at h
  refine ⟨h.1, fun n m e => ?_⟩
  subst e
  have h2 := h.2
  rw [Bool.and_eq_true] at h2
  exact ⟨of_decide_eq_true h2.1, of_decide_eq_true h2.2⟩
/-- a moment that is none -/
def badM (x : PV) : Bool := elB 3 x && !nnPt x
/-- a clock's number that is none -/
def badN (x : PV) : Bool := plain x && !inB 0 5 x && !inB 1 5 x
/-- a jump that is none -/
def badP (x : PV) : Bool := plain2 x && (!isPt x || peq x (pt 0))
/-- an hour that is none -/
def badH (x : PV) : Bool := plain2 x && !isPt x
/-- a telling's number that is none of any -/
def badW (x : PV) : Bool := plain x && !whole x
theorem peqL_rf : ∀ {l : List PV}, (∀ x ∈ l, peq x x = true) → peqL l l = true
  | [], _ => rfl
  | x :: l, h => by
    rw [peqL, h x (by simp), peqL_rf fun y hy => h y (by simp [hy])]
    rfl
theorem peq_rf : ∀ {n : Nat} {p : PV}, Dt n p → peq p p = true
  | _, .non, _ => rfl
  | _, .bl _, _ => by simp [peq]
  | _, .int _, _ => by simp [peq]
  | _, .str _, _ => by simp [peq]
  | 0, .tup l, h => h.elim
  | 0, .lst l, h => h.elim
  | 0, .fn _, h => h.elim
  | 0, .obj _ _, h => h.elim
  | 0, .scr _, h => h.elim
  | 0, .dct _, h => h.elim
  | _ + 1, .fn _, h => h.elim
  | _ + 1, .obj _ _, h => h.elim
  | _ + 1, .scr _, h => h.elim
  | _ + 1, .dct _, h => h.elim
  | n + 1, .tup l, h => by rw [peq]; exact peqL_rf fun x hx => peq_rf (n := n) (h x hx)
  | n + 1, .lst l, h => by rw [peq]; exact peqL_rf fun x hx => peq_rf (n := n) (h x hx)
theorem ne_rep {l : List PV} {h : Hs} {k : Bool → Prop} (d : Dt 60 (.lst l)) (z : k false) : kCmp .NotEq (.ref h.length) (.pv (.lst l)) (h ++ [some l]) k := by
  refine ⟨.lst l, .lst l, by simp [val], rfl, d, d, ?_⟩
  rw [peq_rf d]
  exact z
theorem eq_rep {l : List PV} {h : Hs} {k : Bool → Prop} (d : Dt 60 (.lst l)) (z : k true) : kCmp .Eq (.ref h.length) (.pv (.lst l)) (h ++ [some l]) k := by
  refine ⟨.lst l, .lst l, by simp [val], rfl, d, d, ?_⟩
  rw [peq_rf d]
  exact z
theorem ne_pv {l : List PV} {k : Bool → Prop} (d : Dt 60 (.tup l)) (z : k false) : wpCmp .NotEq (.tup l) (.tup l) k := by
  refine ⟨d, d, ?_⟩
  rw [peq_rf d]
  exact z
theorem eq_pv {l : List PV} {k : Bool → Prop} (d : Dt 60 (.tup l)) (z : k true) : wpCmp .Eq (.tup l) (.tup l) k := by
  refine ⟨d, d, ?_⟩
  rw [peq_rf d]
  exact z
theorem dt_w {s : Str} (h : PyData.strOk s = true) : Dt 59 (.tup [.str s]) := dt_tup (n := 58) (allC (dt_str h) all1)
/-- later heaps of a function that makes cells only -/
def GrH (h h2 : Hs) : Prop := ∃ t, h2 = h ++ t
theorem GrH.rf {h : Hs} : GrH h h := ⟨[], by simp⟩
theorem GrH.app {h h2 t : Hs} (g : GrH h h2) : GrH h (h2 ++ t) := by
  obtain ⟨u, rfl⟩ := g
  exact ⟨u ++ t, by rw [List.append_assoc]⟩
theorem GrH.take {h h2 : Hs} (g : GrH h h2) : h2.take h.length = h := by
  obtain ⟨u, rfl⟩ := g
  exact List.take_left
theorem GrH.post {h h2 : Hs} {i j n : Nat} {cs : List Ck} {ds : List Td} {past : List PV} (g : GrH h h2) (L : PostH h i j cs ds n past) : PostH h2 i j cs ds n past := by
  obtain ⟨u, rfl⟩ := g
  exact L.app
theorem ne_lst' {l : List PV} {k : Bool → Prop} (d : Dt 60 (.lst l)) (z : k false) : wpCmp .NotEq (.lst l) (.lst l) k := by
  refine ⟨d, d, ?_⟩
  rw [peq_rf d]
  exact z
/-! ### six sets of one clock, ten tellings of two -/
theorem pt_nat (n : Nat) : pt (n : Rat) = .tup [.int n, .int 1] := by
  unfold pt
  rw [Rat.num_natCast, Rat.den_natCast]
  rfl
theorem sz_nat {n b : Nat} (h : n < 2 ^ b) (hb : 1 ≤ b) : Sz b (n : Rat) := by
  refine ⟨?_, ?_⟩
  · rw [Rat.num_natCast]
    exact h
  · rw [Rat.den_natCast]
    exact Nat.lt_of_lt_of_le (by decide : 1 < 2 ^ 1) (Nat.pow_le_pow_right (by decide) hb)
theorem sz_1000 : Sz 10 (1000 : Rat) := ⟨by decide, by decide⟩
def ss (u n : Nat) : List (Rat × Rat) := (List.range n).map fun t => (((u + t : Nat) : Rat), Rat.divInt (1 + (t : Int)) 3)
theorem ss_succ (u n : Nat) : ss u (n + 1) = ss u n ++ [(((u + n : Nat) : Rat), Rat.divInt (1 + (n : Int)) 3)] := by
  unfold ss
  rw [List.range_succ, List.map_append]
  rfl
theorem ss_lt {u n : Nat} : ∀ y ∈ ss u n, y.1 < ((u + n : Nat) : Rat) := by
  intro y hy
  obtain ⟨t, ht, rfl⟩ := List.mem_map.mp hy
  exact Rat.natCast_lt_natCast.mpr (by have := List.mem_range.mp ht; omega)
theorem ss_dr {u : Nat} (h : u ≤ 30) : ∀ n, n ≤ 6 → DrS 6 n (ss u n)
  | 0, _ => .nil
  | n + 1, hn => by
    rw [ss_succ]
    exact (ss_dr h n (by omega)).snoc (by exact_mod_cast Nat.zero_le _) (Rat.ne_of_gt (divInt_pos (by omega) (by omega))) (sz_nat (by omega) (by omega)) (sz_divInt (by omega) (by omega) (by omega)) ss_lt
def csn (cs : List Ck) (u n : Nat) : List Ck := cs.set 2 ((ckA cs 2).1, ss u n)
theorem csn_l {cs : List Ck} {u n : Nat} : (csn cs u n).length = cs.length := List.length_set
theorem csn_0 {cs : List Ck} {u : Nat} (l : cs.length = 6) (k0 : ∀ c ∈ cs, c.2 = []) : csn cs u 0 = cs := by
  have lt : 2 < cs.length := by omega
  have e : ckA cs 2 = cs[2] := by
    unfold ckA
    rw [List.getD_eq_getElem?_getD, List.getElem?_eq_getElem lt]
    rfl
  have e2 : ((ckA cs 2).1, ss u 0) = cs[2] := by
    rw [e, show ss u 0 = [] from rfl, ← k0 _ (List.getElem_mem lt)]
  unfold csn
  rw [e2, List.set_getElem_self]
theorem csn_at {cs : List Ck} {u n : Nat} (l : cs.length = 6) : ckA (csn cs u n) 2 = ((ckA cs 2).1, ss u n) := by
  have lt : 2 < cs.length := by omega
  unfold csn
  rw [ckA, List.getD_eq_getElem?_getD, List.getElem?_set_self lt]
  rfl
theorem csn_ne {cs : List Ck} {u n x : Nat} (h : x ≠ 2) : ckA (csn cs u n) x = ckA cs x := by
  unfold csn ckA
  rw [List.getD_eq_getElem?_getD, List.getElem?_set_ne (Ne.symm h), ← List.getD_eq_getElem?_getD]
theorem csn_ok {cs : List Ck} {u n : Nat} (k : CsN 0 cs) (hu : u ≤ 30) (hn : n ≤ 6) : OkCs 6 (csn cs u n) := by
  refine ⟨csn_l.trans k.l, fun c hc => ?_⟩
  rcases List.mem_or_eq_of_mem_set hc with h | rfl
  · have g := k.g c h
    have s := k.s c h
    exact ⟨g.2.1, g.2.2, (s.up (by omega : 0 ≤ 6)).l, s.p, s.o, fun x hx => ⟨(s.z x hx).1.up (by omega), (s.z x hx).2.up (by omega)⟩, g.1.up (by omega)⟩
  · have g := k.g _ (ckA_mem (x := 2) (by rw [k.l]; decide))
    exact ((ss_dr hu n hn).up hn).ok g.2.1 g.2.2 (g.1.up (by omega))
theorem csn_set {cs : List Ck} {u n : Nat} (l : cs.length = 6) : setC (csn cs u n) 2 ((u + n : Nat) : Rat) (Rat.divInt (1 + (n : Int)) 3) = csn cs u (n + 1) := by
  rw [setC_set (by rw [csn_l, l]; decide), csn_at l, ins_end ss_lt, ← ss_succ]
  unfold csn
  rw [List.set_set]
def hiT : Tel := ⟨0, 1, none, some 1000⟩
def loT (x : Rat) : Tel := ⟨0, 1, some x, none⟩
def dsn (n : Nat) : List Td := (List.range n).map fun t => ⟨t, Rat.divInt t 2, hiT⟩
theorem dsn_succ (n : Nat) : dsn (n + 1) = dsn n ++ [⟨n, Rat.divInt n 2, hiT⟩] := by
  unfold dsn
  rw [List.range_succ, List.map_append]
  rfl
theorem by01 {cs : List Ck} {u n : Nat} {m : Rat} (k : CsN 0 cs) (k0 : ∀ c ∈ cs, c.2 = []) (kz : (ckA cs 0).1 = 0) : byD (csn cs u n) 0 1 m = m * (ckA cs 1).1 := by
  have s0 := k0 _ (ckA_mem (cs := cs) (x := 0) (by rw [k.l]; decide))
  have s1 := k0 _ (ckA_mem (cs := cs) (x := 1) (by rw [k.l]; decide))
  unfold byD drA
  rw [csn_ne (by decide), csn_ne (by decide), s0, s1, kz]
  unfold drf jt
  rw [List.foldl_nil]
  grind
theorem half_le {t : Nat} (h : t < 10) : 0 ≤ Rat.divInt t 2 ∧ Rat.divInt t 2 ≤ 5 := ⟨divInt_nonneg (by omega) (by omega), divInt_le (M := 5) (by omega) (by omega)⟩
theorem hi_low {m g : Rat} (m0 : 0 ≤ m) (m5 : m ≤ 5) (g1 : -12 ≤ g) (g2 : g ≤ 12) : -60 ≤ m * g ∧ m * g ≤ 60 := by
  have h1 := Rat.mul_le_mul_of_nonneg_left g2 m0
  have h2 := Rat.mul_le_mul_of_nonneg_left g1 m0
  constructor <;> grind
/-- what of two clocks' tellings stands -/
structure FewOk (cs : List Ck) (ds : List Td) : Prop where
  d : ∀ d ∈ ds, OkD 5 15 d
  k : ∀ u ∈ ds.map (backT cs), OkT 30 u ∧ keptT u [0, -2000] = true
section
variable {cs : List Ck} {u : Nat} (k : CsN 0 cs) (k0 : ∀ c ∈ cs, c.2 = []) (kz : (ckA cs 0).1 = 0)
include k k0 kz
theorem back_hi {m : Rat} {n : Nat} : backT (csn cs u 6) ⟨n, m, hiT⟩ = ⟨0, 1, none, some (1000 - m * (ckA cs 1).1)⟩ := by
  show Tel.mk 0 1 none (some (1000 - byD (csn cs u 6) 0 1 m)) = _
  rw [by01 k k0 kz]
theorem back_lo {m x : Rat} {n : Nat} : backT (csn cs u 6) ⟨n, m, loT x⟩ = ⟨0, 1, some (x - m * (ckA cs 1).1), none⟩ := by
  show Tel.mk 0 1 (some (x - byD (csn cs u 6) 0 1 m)) none = _
  rw [by01 k k0 kz]
theorem few_hi {t : Nat} (h : t < 10) : FewOk (csn cs u 6) [⟨t, Rat.divInt t 2, hiT⟩] := by
  have g := k.g _ (ckA_mem (cs := cs) (x := 1) (by rw [k.l]; decide))
  obtain ⟨m0, m5⟩ := half_le h
  have zm : Sz 5 (Rat.divInt t 2) := sz_divInt (by omega) (by omega) (by omega)
  have zh : Sz 15 (1000 : Rat) := ⟨by decide, by decide⟩
  refine ⟨?_, ?_⟩
  · intro d hd
    rw [List.mem_singleton] at hd
    subst hd
    exact ⟨by show 0 < 6; decide, by show 1 < 6; decide, m0, zm, (fun x e => by cases e), (fun x e => by cases e; exact zh)⟩
  · intro v hv
    rw [List.map_singleton, List.mem_singleton, back_hi k k0 kz] at hv
    subst hv
    have lh := hi_low m0 m5 g.2.1 g.2.2
    refine ⟨⟨by show 0 < 6; decide, by show 1 < 6; decide, by show 0 ≠ 1; decide, .inr (by simp), (fun l h e1 e2 => by cases e1), (fun l e => by cases e), fun l e => ?_⟩, ?_⟩
    · cases e
      exact ((sz_1000).sub (zm.mul g.1 (by omega))).up (by omega)
    · unfold keptT
      simp
      grind
theorem few_lo {x : Rat} {n : Nat} (zx : Sz 15 x) (hx : x ≤ -2000) : FewOk (csn cs u 6) [⟨n, 0, loT x⟩] := by
  refine ⟨?_, ?_⟩
  · intro d hd
    rw [List.mem_singleton] at hd
    subst hd
    exact ⟨by show 0 < 6; decide, by show 1 < 6; decide, by show (0 : Rat) ≤ 0; decide, sz0.up (by omega), (fun y e => by cases e; exact zx), (fun y e => by cases e)⟩
  · intro v hv
    rw [List.map_singleton, List.mem_singleton, back_lo k k0 kz] at hv
    subst hv
    refine ⟨⟨by show 0 < 6; decide, by show 1 < 6; decide, by show 0 ≠ 1; decide, .inl (by simp), (fun l h e1 e2 => by cases e2), fun l e => ?_, (fun l e => by cases e)⟩, ?_⟩
    · cases e
      rw [show x - 0 * (ckA cs 1).1 = x by grind]
      exact zx.up (by omega)
    · unfold keptT
      simp
      grind
omit k k0 kz in
theorem FewOk.app {cs : List Ck} {a b : List Td} (x : FewOk cs a) (y : FewOk cs b) : FewOk cs (a ++ b) := by
  refine ⟨fun d hd => (List.mem_append.mp hd).elim (x.d d) (y.d d), fun v hv => ?_⟩
  rw [List.map_append] at hv
  exact (List.mem_append.mp hv).elim (x.k v) (y.k v)
omit k k0 kz in
theorem FewOk.f {cs : List Ck} {a : List Td} (x : FewOk cs a) : FeasT (a.map (backT cs)) := kept_feas (r := [0, -2000]) fun v hv => (x.k v hv).2
theorem few_dsn : ∀ n, n ≤ 10 → FewOk (csn cs u 6) (dsn n)
  | 0, _ => ⟨by simp [dsn], by simp [dsn]⟩
  | n + 1, h => by
    rw [dsn_succ]
    exact (few_dsn n (by omega)).app (few_hi k k0 kz (by omega))
omit k k0 kz in
theorem FewOk.filter {cs : List Ck} {a : List Td} (x : FewOk cs a) (f : Td → Bool) : FewOk cs (a.filter f) := ⟨fun d hd => x.d d (List.mem_filter.mp hd).1, fun v hv => by
  obtain ⟨d, hd, rfl⟩ := List.mem_map.mp hv
  exact x.k _ (List.mem_map_of_mem (List.mem_filter.mp hd).1)⟩
/-- 9000 at least is of the right size -/
theorem lo_app {n : Nat} {ds : List Td} (F : FewOk (csn cs u 6) ds) : (∀ d ∈ ds ++ [(⟨n, 0, loT 9000⟩ : Td)], OkD 5 15 d) ∧ ∀ v ∈ (ds ++ [(⟨n, 0, loT 9000⟩ : Td)]).map (backT (csn cs u 6)), OkT 30 v := by
  have zx : Sz 15 (9000 : Rat) := ⟨by decide, by decide⟩
  constructor
  · intro d hd
    rcases List.mem_append.mp hd with hd | hd
    · exact F.d d hd
    · rw [List.mem_singleton] at hd
      subst hd
      exact ⟨by show 0 < 6; decide, by show 1 < 6; decide, by show (0 : Rat) ≤ 0; decide, sz0.up (by omega), (fun y e => by cases e; exact zx), (fun y e => by cases e)⟩
  · intro v hv
    rw [List.map_append] at hv
    rcases List.mem_append.mp hv with hv | hv
    · exact (F.k v hv).1
    · rw [List.map_singleton, List.mem_singleton, back_lo k k0 kz] at hv
      subst hv
      refine ⟨by show 0 < 6; decide, by show 1 < 6; decide, by show 0 ≠ 1; decide, .inl (by simp), (fun l h e1 e2 => by cases e2), fun l e => ?_, (fun l e => by cases e)⟩
      cases e
      rw [show (9000 : Rat) - 0 * (ckA cs 1).1 = 9000 by grind]
      exact zx.up (by omega)
theorem lo_apart {n : Nat} {ds : List Td} (h : (⟨0, Rat.divInt (0 : Nat) 2, hiT⟩ : Td) ∈ ds) : ¬ FeasT ((ds ++ [(⟨n, 0, loT 9000⟩ : Td)]).map (backT (csn cs u 6))) := by
  intro hF
  obtain ⟨φ, hφ⟩ := feas_ed.mp hF
  have b1 := back_hi k k0 kz (u := u) (n := 0) (m := Rat.divInt (0 : Nat) 2)
  have b2 := back_lo k k0 kz (u := u) (n := n) (m := 0) (x := 9000)
  have m1 : (⟨0, 1, none, some (1000 - Rat.divInt (0 : Nat) 2 * (ckA cs 1).1)⟩ : Tel) ∈ (ds ++ [(⟨n, 0, loT 9000⟩ : Td)]).map (backT (csn cs u 6)) := by
    rw [← b1]
    exact List.mem_map_of_mem (List.mem_append_left _ h)
  have m2 : (⟨0, 1, some (9000 - 0 * (ckA cs 1).1), none⟩ : Tel) ∈ (ds ++ [(⟨n, 0, loT 9000⟩ : Td)]).map (backT (csn cs u 6)) := by
    rw [← b2]
    exact List.mem_map_of_mem (List.mem_append_right _ (List.mem_singleton.mpr rfl))
  have h1 := hφ (0, 1, 1000 - Rat.divInt (0 : Nat) 2 * (ckA cs 1).1) (List.mem_flatMap.mpr ⟨_, m1, by simp [edT]⟩)
  have h2 := hφ (1, 0, -(9000 - 0 * (ckA cs 1).1)) (List.mem_flatMap.mpr ⟨_, m2, by simp [edT]⟩)
  dsimp only at h1 h2
  have e0 : Rat.divInt (0 : Nat) 2 = 0 := by decide
  rw [e0] at h1
  grind
end
theorem ok_hi : OkT 15 hiT := ⟨by decide, by decide, by decide, .inr (by simp [hiT]), (fun l h e1 e2 => by cases e1), (fun l e => by cases e), (fun l e => by cases e; exact ⟨by decide, by decide⟩)⟩
theorem ok_lo {x : Rat} (zx : Sz 15 x) : OkT 15 (loT x) := ⟨by show 0 < 6; decide, by show 1 < 6; decide, by show 0 ≠ 1; decide, .inl (by simp [loT]), (fun l h e1 e2 => by cases e2), (fun l e => by cases e; exact zx), (fun l e => by cases e)⟩
theorem len9 : ((dsn 10).filter fun d => decide (d.n ≠ 3)).length = 9 := by
  unfold dsn
  rw [List.filter_map, List.length_map]
  decide
end G43
set_option Elab.async false
set_option linter.all false
set_option maxRecDepth 100000
set_option maxHeartbeats 0
namespace Law
open PySem G43
local macro_rules
  | `(tactic| exists $es,*) => `(tactic| simp only [↓e_var0, ↓e_varS, ↓e_cst, ↓e_bin, ↓e_neg, ↓e_nt, ↓e_and, ↓e_or, ↓e_cmp, ↓e_chn, ↓e_ite, ↓e_call, ↓e_bi, ↓e_isi, ↓e_idx, ↓e_slo, ↓e_shi, ↓e_slh, ↓e_tup, ↓e_lst, ↓e_mls, ↓e_frz, ↓e_comp, ↓l_nil, ↓l_cons, ↓i_seq, ↓i_rng1, ↓i_rng2, ↓i_enm, ↓ts_nil, ↓ts_cons, ↓b_def, ↓st_set, ↓st_par, ↓st_unp, ↓st_sub, ↓st_app, ↓s_exp, ↓s_iff, ↓s_for, ↓s_whl, ↓s_ret, ↓s_retN, ↓s_pass, ↓sl_nil, ↓sl_cons, ↓wlsE, ↓EL.words, ↓n_set0, ↓n_setS, ↓n_kil0, ↓n_kilS, ↓n_sa0, ↓n_saS, ↓t_nm, ↓t_tup, ↓t_lnil, ↓t_lcons, ↓k_if, ↓k_neg, ↓k_bin, ↓k_cmp, ↓k_bi0, ↓k_bi1, ↓k_bi2, ↓is_tup, ↓is_int, ↓is_intb, ↓p_ix0, ↓p_ix1, ↓p_is, ↓k_ixt0, ↓k_ixt1, ↓k_ixt2, ↓k_s1t, ↓k_s1l, ↓k_s1s, ↓k_s2t, ↓k_s2l, ↓k_s3t, ↓k_s3l, ↓k_s3s, ↓k_ps0, ↓k_psS, ↓k_pv, ↓k_frT, ↓k_sql, ↓k_sqt, ↓k_sqs, ↓k_zipl, ↓k_enml, ↓k_enmt, ↓k_zipt, ↓k_ap1T, ↓k_ap2T, ↓fin_pv, ↓o_addi, ↓o_addl, ↓o_addt, ↓o_adds, ↓o_subi, ↓o_muli, ↓o_mult, ↓o_divi, ↓o_modi, ↓o_powi, ↓c_eqi, ↓c_nei, ↓c_lti, ↓c_lei, ↓c_gti, ↓c_gei, ↓c_isn, ↓c_isnn, ↓f_lent, ↓f_lenl, ↓f_lens, ↓f_abs, ↓f_max, ↓f_int, ↓f_intb, ↓f_tupl, ↓f_tupt, ↓f_lstl, ↓f_lstt, ↓p_len, ↓p_eq, ↓p_ne, ↓k_ap1S, ↓k_ap2S, ↓k_frS, ↓k_birT, ↓k_birS, ↓e_mrp, ↓k_madp, ↓k_mrpp, ↓e_wd, ↓k_rvl, ↓k_rvt, ↓k_mlil, ↓k_mlit, ↓o_mull, ↓s_rsx, ↓s_rsf, ↓k_rf, ↓k_ex2T, ↓k_vls0, ↓k_vlsP, ↓k_vlsR, ↓e_fld, ↓e_lfd, ↓e_mko, ↓e_mth, ↓e_lno, ↓e_fm1, ↓pq_nil, ↓pq_none, ↓pq_0, ↓pq_1, ↓pq_2, ↓k_fld0, ↓k_fld1, ↓k_lfd, ↓k_isK, ↓k_isc, ↓k_iscC, ↓k_bl, ↓k_str, ↓st_fst, ↓st_fnl, ↓st_lap, ↓k_fstT, ↓k_fnlT, ↓o_shl, ↓o_shr, ↓o_and, ↓c_isb, ↓c_isnb, ↓k_dc, ↓k_dgt, ↓in_nil, ↓in_cons, ↓dif_ob, ↓k_vec, ↓lv_nil, ↓lv_cons, ↓it_p, ↓it_c, ↓it_o, ↓k_vlsO, ↓k_irp, ↓k_iro, ↓k_zv, ↓cv_nil, ↓cv_cons, ↓lz_cons, ↓lz_nil, ↓pl_nil, ↓pl_cons, ↓e_lze, ↓k_lze, ↓e_lrg, ↓k_lrg, ↓st_nev, ↓k_tpo, ↓k_upo, ↓g_NOUGHT, ↓g_MOST_GAIN, ↓g_LEAST_GAIN, ↓g_HOURS, ↓g_MOST_SETS, ↓g_CLOCKS, ↓g_MOST_STANDING, n_slot0, n_slot1, n_slotS, take_self, take_top, take_selfS, take_topS, isn_non, isn_tup, isn_int, isn_lst, isn_str, p_isn, p_01, length_setH, set_setH, f_all, f_any, x_mapnil, x_mapcons, x_appnil, x_consapp, x_nilapp, x_lennil, x_lencons, x_decT, x_notT, x_decF, x_nt, x_nf, x_ft, x_tt, x_ff, x_tf, x_iteT, x_iteF, x_iteN, x_ta, x_at, $[$es:term],*])
theorem is_whole_ok (i : Int) : Ret pg 1 i_is_whole [.int i] (.bl true) := by
  intro d hd h Q X z
  obtain ⟨d, rfl⟩ : ∃ e, d = e + 1 := ⟨d - 1, by omega⟩
  refine in_is_whole ?_
  (try exists x_ta, b_is_whole)
  exact z
theorem is_whole_any {p : PV} (hp : plain p = true) : Ret pg 1 i_is_whole [p] (.bl (whole p)) := by
  intro d hd h Q X z
  obtain ⟨d, rfl⟩ : ∃ e, d = e + 1 := ⟨d - 1, by omega⟩
  refine in_is_whole ?_
  (try exists x_ta, b_is_whole)
  rw [is_intA hp]
  cases p <;> first
    | (cases hp; done)
    | (simp only [Bool.false_eq_true, if_false]; exact z)
    | (simp only [if_true]; rw [is_boolA rfl]; exact z)
theorem is_from_to_any {p : PV} {a b : Int} (hp : plain p = true) : Ret pg 2 i_is_from_to [p, .int a, .int b] (.bl (inB a b p)) := by
  intro d hd h Q X z
  obtain ⟨d, rfl⟩ : ∃ e, d = e + 1 := ⟨d - 1, by omega⟩
  refine in_is_from_to ?_
  (try exists x_ta, b_is_from_to)
  refine is_whole_any hp d (by omega) _ _ _ ?_
  (try exists x_ta)
  cases p with
  | int n =>
    (try exists x_ta, whole)
    by_cases h1 : a ≤ n
    · by_cases h2 : n ≤ b
      · simpa [inB, h1, h2] using z
      · simpa [inB, h1, h2] using z
    · simpa [inB, h1] using z
  | _ => exact z
theorem shared_ok (a b : Int) (hb : 0 ≤ b) : Ret pg 1 i_shared [.int a, .int b] (.int (Int.gcd a b)) := by
  intro d hd h Q X z
  obtain ⟨d, rfl⟩ : ∃ e, d = e + 1 := ⟨d - 1, by omega⟩
  refine in_shared ?_
  (try exists x_ta, b_shared)
  refine ⟨fun m ρ h' => ∃ x y : Int, ρ = [some (.pv (.int x)), some (.pv (.int y))] ∧ h' = h ∧ 0 ≤ x ∧ 0 ≤ y ∧ Int.gcd x y = Int.gcd a b ∧ m = x.toNat, ⟨_, _, _, rfl, rfl, ?_, hb, ?_, rfl⟩, ?_⟩
  · split <;> omega
  · split
    · rw [Int.neg_gcd]
    · rfl
  · rintro m ρ h' ⟨x, y, rfl, rfl, hx, hy, hg, rfl⟩
    (try exists x_ta)
    split
    · rename_i hx0
      have h1 := Int.emod_lt_of_pos y hx0
      have h2 := Int.emod_nonneg y (show x ≠ 0 by omega)
      exact ⟨hx0, (y % x).toNat, by omega, y % x, x, rfl, h2, hx, by rw [gcd_step _ _ hx hy, hg], rfl⟩
    · obtain rfl : x = 0 := by omega
      rw [Int.zero_gcd] at hg
      have e : y = (Int.gcd a b : Int) := by omega
      rw [e]
      exact z
theorem lowest_ok (n m : Int) {b : Nat} (hm : m ≠ 0) (hb : m.natAbs < 2 ^ b) (h9 : b ≤ 9000) : Ret pg 2 i_lowest [.int n, .int m] (pt (Rat.divInt n m)) := by
  intro d hd h Q X z
  obtain ⟨d, rfl⟩ : ∃ e, d = e + 1 := ⟨d - 1, by omega⟩
  refine in_lowest ?_
  (try exists x_ta, b_lowest)
  split
  · rename_i h0
    refine shared_ok _ _ (by omega) d (by omega) _ _ _ ?_
    have hp : 0 < 0 - m := by omega
    have hc : ∀ x, L2.CDivW x ((Int.gcd (0 - n) (0 - m) : Int)) := fun x => divW (gcd_pos hp) (gcd_lt hp (by rw [Int.zero_sub, Int.natAbs_neg]; exact hb)) h9
    (try exists x_ta)
    refine ⟨hc _, hc _, ?_⟩
    rw [low_pos hp, Int.zero_sub, Int.zero_sub, Rat.neg_divInt_neg]
    exact z
  · rename_i h0
    refine shared_ok _ _ (by omega) d (by omega) _ _ _ ?_
    have hp : 0 < m := by omega
    have hc : ∀ x, L2.CDivW x ((Int.gcd n m : Int)) := fun x => divW (gcd_pos hp) (gcd_lt hp hb) h9
    (try exists x_ta)
    refine ⟨hc _, hc _, ?_⟩
    rw [low_pos hp]
    exact z
theorem is_part_ok (q : Rat) : Ret pg 2 i_is_part [pt q] (.bl true) := by
  intro d hd h Q X z
  obtain ⟨d, rfl⟩ : ∃ e, d = e + 1 := ⟨d - 1, by omega⟩
  refine in_is_part ?_
  (try exists x_ta, b_is_part)
  refine is_whole_ok _ d (by omega) _ _ _ ?_
  (try exists x_ta)
  refine is_whole_ok _ d (by omega) _ _ _ ?_
  (try exists x_ta)
  rw [if_pos (den_pos' q)]
  refine shared_ok _ _ (by omega) d (by omega) _ _ _ ?_
  (try exists x_ta)
  have e : Int.gcd q.num q.den = 1 := by
    unfold Int.gcd
    rw [den_nat]
    exact q.reduced
  rw [e]
  exact z
theorem is_part_any {p : PV} (hp : plain2 p = true) : Ret pg 2 i_is_part [p] (.bl (isPt p)) := by
  have hp1 : plain p = true := by cases p <;> first | rfl | (cases hp; done)
  intro d hd h Q X z
  obtain ⟨d, rfl⟩ : ∃ e, d = e + 1 := ⟨d - 1, by omega⟩
  refine in_is_part ?_
  (try exists x_ta, b_is_part)
  rw [is_tupA hp1]
  have no : ∀ {p : PV}, (∀ l, p ≠ .tup l) → isPt p = false := by
    intro p h
    unfold isPt
    split
    · exact absurd rfl (h _)
    · rfl
  cases p with
  | tup l =>
    (try exists x_ta)
    rcases l with _ | ⟨a, _ | ⟨b, _ | ⟨c, l⟩⟩⟩
    · (try exists x_ta)
      exact z
    · (try exists x_ta)
      rw [if_neg (by decide)]
      rw [show isPt (.tup [a]) = false by cases a <;> rfl] at z
      exact z
    · have ha : plain a = true := by have : ([a, b] : List PV).all plain = true := hp; simp at this; exact this.1
      have hb : plain b = true := by have : ([a, b] : List PV).all plain = true := hp; simp at this; exact this.2
      (try exists x_ta)
      refine is_whole_any ha d (by omega) _ _ _ ?_
      (try exists x_ta)
      cases a with
      | int n =>
        rw [if_neg (by simp [whole])]
        refine is_whole_any hb d (by omega) _ _ _ ?_
        (try exists x_ta)
        cases b with
        | int m =>
          rw [if_neg (by simp [whole])]
          (try exists x_ta)
          split
          · rename_i h0
            refine shared_ok _ _ (by omega) d (by omega) _ _ _ ?_
            (try exists x_ta)
            have e : isPt (.tup [.int n, .int m]) = decide ((Int.gcd n m : Int) = 1) := by
              show (decide (0 < m) && decide (Int.gcd n m = 1)) = _
              rw [decide_eq_true h0, Bool.true_and]
              exact decide_eq_decide.mpr (by omega)
            rw [e] at z
            exact z
          · rename_i h0
            have e : isPt (.tup [.int n, .int m]) = false := by
              show (decide (0 < m) && decide (Int.gcd n m = 1)) = _
              rw [decide_eq_false h0, Bool.false_and]
            rw [e] at z
            exact z
        | _ => exact z
      | _ => exact z
    · (try exists x_ta)
      rw [if_neg (by omega)]
      rw [show isPt (.tup (a :: b :: c :: l)) = false by cases a <;> cases b <;> rfl] at z
      exact z
  | _ => first | (cases hp1; done) | (rw [no (by intro l z; cases z)] at z; simp only [Bool.false_eq_true, if_false, Bool.not_false, if_true]; (try exists x_ta); exact z)
theorem plus_ok {p q : Rat} {a b : Nat} (sp : Sz a p) (sq : Sz b q) (h9 : a + b ≤ 9000) : Ret pg 3 i_plus [pt p, pt q] (pt (p + q)) := by
  intro d hd h Q X z
  obtain ⟨d, rfl⟩ : ∃ e, d = e + 1 := ⟨d - 1, by omega⟩
  refine in_plus ?_
  (try exists x_ta, b_plus)
  refine ⟨sp.nd sq (by omega), sq.nd sp (by omega), sp.dd sq (by omega), ?_⟩
  refine lowest_ok _ _ (b := a + b) (Int.ne_of_gt (Int.mul_pos (den_pos' p) (den_pos' q))) ?_ h9 d (by omega) _ _ _ ?_
  · rw [Int.natAbs_mul, den_nat, den_nat, Nat.pow_add]
    exact Nat.mul_lt_mul'' sp.2 sq.2
  · (try exists x_ta, add_made)
    exact z
theorem minus_ok {p q : Rat} {a b : Nat} (sp : Sz a p) (sq : Sz b q) (h9 : a + b ≤ 9000) : Ret pg 3 i_minus [pt p, pt q] (pt (p - q)) := by
  intro d hd h Q X z
  obtain ⟨d, rfl⟩ : ∃ e, d = e + 1 := ⟨d - 1, by omega⟩
  refine in_minus ?_
  (try exists x_ta, b_minus)
  refine ⟨sp.nd sq (by omega), sq.nd sp (by omega), sp.dd sq (by omega), ?_⟩
  refine lowest_ok _ _ (b := a + b) (Int.ne_of_gt (Int.mul_pos (den_pos' p) (den_pos' q))) ?_ h9 d (by omega) _ _ _ ?_
  · rw [Int.natAbs_mul, den_nat, den_nat, Nat.pow_add]
    exact Nat.mul_lt_mul'' sp.2 sq.2
  · (try exists x_ta, sub_made)
    exact z
theorem product_ok {p q : Rat} {a b : Nat} (sp : Sz a p) (sq : Sz b q) (h9 : a + b ≤ 9000) : Ret pg 3 i_product [pt p, pt q] (pt (p * q)) := by
  intro d hd h Q X z
  obtain ⟨d, rfl⟩ : ∃ e, d = e + 1 := ⟨d - 1, by omega⟩
  refine in_product ?_
  (try exists x_ta, b_product)
  refine ⟨sp.nn sq (by omega), sp.dd sq (by omega), ?_⟩
  refine lowest_ok _ _ (b := a + b) (Int.ne_of_gt (Int.mul_pos (den_pos' p) (den_pos' q))) ?_ h9 d (by omega) _ _ _ ?_
  · rw [Int.natAbs_mul, den_nat, den_nat, Nat.pow_add]
    exact Nat.mul_lt_mul'' sp.2 sq.2
  · (try exists x_ta, mul_made)
    exact z
theorem below_ok {p q : Rat} {a b : Nat} (sp : Sz a p) (sq : Sz b q) (h9 : a + b ≤ 9000) : Ret pg 1 i_below [pt p, pt q] (.bl (decide (p < q))) := by
  intro d hd h Q X z
  obtain ⟨d, rfl⟩ : ∃ e, d = e + 1 := ⟨d - 1, by omega⟩
  refine in_below ?_
  (try exists x_ta, b_below, lt_made)
  exact ⟨sp.nd sq (by omega), sq.nd sp (by omega), z⟩
theorem turned_ok (q : Rat) : Ret pg 1 i_turned [pt q] (pt (-q)) := by
  intro d hd h Q X z
  obtain ⟨d, rfl⟩ : ∃ e, d = e + 1 := ⟨d - 1, by omega⟩
  refine in_turned ?_
  (try exists x_ta, b_turned)
  rw [pt_neg0]
  exact z
theorem is_gain_ok {q : Rat} {a : Nat} (s : Sz a q) (h9 : a ≤ 8000) (h1 : -12 ≤ q) (h2 : q ≤ 12) : Ret pg 3 i_is_gain [pt q] (.bl true) := by
  have s1 : Sz 4 (-12 : Rat) := ⟨by decide, by decide⟩
  have s2 : Sz 4 (12 : Rat) := ⟨by decide, by decide⟩
  intro d hd h Q X z
  obtain ⟨d, rfl⟩ : ∃ e, d = e + 1 := ⟨d - 1, by omega⟩
  refine in_is_gain ?_
  (try exists x_ta, b_is_gain)
  (repeat ((first | refine is_whole_ok _ _ (by omega) _ _ _ ?_ | refine is_part_ok _ _ (by omega) _ _ _ ?_ | refine plus_ok (by repeat' (first | assumption | exact sz0 | apply Sz.add | apply Sz.sub | apply Sz.mulp | apply Sz.neg)) (by repeat' (first | assumption | exact sz0 | apply Sz.add | apply Sz.sub | apply Sz.mulp | apply Sz.neg)) (by omega) _ (by omega) _ _ _ ?_ | refine minus_ok (by repeat' (first | assumption | exact sz0 | apply Sz.add | apply Sz.sub | apply Sz.mulp | apply Sz.neg)) (by repeat' (first | assumption | exact sz0 | apply Sz.add | apply Sz.sub | apply Sz.mulp | apply Sz.neg)) (by omega) _ (by omega) _ _ _ ?_ | refine product_ok (by repeat' (first | assumption | exact sz0 | apply Sz.add | apply Sz.sub | apply Sz.mulp | apply Sz.neg)) (by repeat' (first | assumption | exact sz0 | apply Sz.add | apply Sz.sub | apply Sz.mulp | apply Sz.neg)) (by omega) _ (by omega) _ _ _ ?_ | refine below_ok (by repeat' (first | assumption | exact sz0 | apply Sz.add | apply Sz.sub | apply Sz.mulp | apply Sz.neg)) (by repeat' (first | assumption | exact sz0 | apply Sz.add | apply Sz.sub | apply Sz.mulp | apply Sz.neg)) (by omega) _ (by omega) _ _ _ ?_); (try exists x_ta)))
  rw [if_neg (Rat.not_lt.mpr h1)]
  (repeat ((first | refine is_whole_ok _ _ (by omega) _ _ _ ?_ | refine is_part_ok _ _ (by omega) _ _ _ ?_ | refine plus_ok (by repeat' (first | assumption | exact sz0 | apply Sz.add | apply Sz.sub | apply Sz.mulp | apply Sz.neg)) (by repeat' (first | assumption | exact sz0 | apply Sz.add | apply Sz.sub | apply Sz.mulp | apply Sz.neg)) (by omega) _ (by omega) _ _ _ ?_ | refine minus_ok (by repeat' (first | assumption | exact sz0 | apply Sz.add | apply Sz.sub | apply Sz.mulp | apply Sz.neg)) (by repeat' (first | assumption | exact sz0 | apply Sz.add | apply Sz.sub | apply Sz.mulp | apply Sz.neg)) (by omega) _ (by omega) _ _ _ ?_ | refine product_ok (by repeat' (first | assumption | exact sz0 | apply Sz.add | apply Sz.sub | apply Sz.mulp | apply Sz.neg)) (by repeat' (first | assumption | exact sz0 | apply Sz.add | apply Sz.sub | apply Sz.mulp | apply Sz.neg)) (by omega) _ (by omega) _ _ _ ?_ | refine below_ok (by repeat' (first | assumption | exact sz0 | apply Sz.add | apply Sz.sub | apply Sz.mulp | apply Sz.neg)) (by repeat' (first | assumption | exact sz0 | apply Sz.add | apply Sz.sub | apply Sz.mulp | apply Sz.neg)) (by omega) _ (by omega) _ _ _ ?_); (try exists x_ta)))
  rw [decide_eq_false (Rat.not_lt.mpr h2)]
  exact z
theorem is_gain_any {b : Nat} {g : PV} (k : ElR b g) (h9 : b ≤ 8000) : Ret pg 3 i_is_gain [g] (.bl (isPt g && (!blwP g (pt (-12)) && !blwP (pt 12) g))) := by
  have s1 : Sz 4 (-12 : Rat) := ⟨by decide, by decide⟩
  have s2 : Sz 4 (12 : Rat) := ⟨by decide, by decide⟩
  intro d hd h Q X z
  obtain ⟨d, rfl⟩ : ∃ e, d = e + 1 := ⟨d - 1, by omega⟩
  refine in_is_gain ?_
  (try exists x_ta, b_is_gain)
  refine is_part_any k.1 d (by omega) _ _ _ ?_
  (try exists x_ta)
  cases hp : isPt g with
  | false => rw [hp] at z; exact z
  | true =>
    rw [hp, Bool.true_and] at z
    obtain ⟨q, rfl⟩ := isPt_pt hp
    have sq : Sz b q := ElR.sz k
    rw [blwP_pt, blwP_pt] at z
    (try exists x_ta)
    refine below_ok sq s1 (by omega) d (by omega) _ _ _ ?_
    (try exists x_ta)
    cases h1 : decide (q < -12) with
    | true => rw [h1] at z; simpa [of_decide_eq_true h1] using z
    | false =>
      rw [h1] at z
      rw [if_neg (of_decide_eq_false h1)]
      refine below_ok s2 sq (by omega) d (by omega) _ _ _ ?_
      (try exists x_ta)
      exact z
theorem is_moment_ok {q : Rat} (h1 : 0 ≤ q) : Ret pg 3 i_is_moment [pt q] (.bl true) := by
  intro d hd h Q X z
  obtain ⟨d, rfl⟩ : ∃ e, d = e + 1 := ⟨d - 1, by omega⟩
  refine in_is_moment ?_
  (try exists x_ta, b_is_moment)
  (repeat ((first | refine is_whole_ok _ _ (by omega) _ _ _ ?_ | refine is_part_ok _ _ (by omega) _ _ _ ?_ | refine plus_ok (by repeat' (first | assumption | exact sz0 | apply Sz.add | apply Sz.sub | apply Sz.mulp | apply Sz.neg)) (by repeat' (first | assumption | exact sz0 | apply Sz.add | apply Sz.sub | apply Sz.mulp | apply Sz.neg)) (by omega) _ (by omega) _ _ _ ?_ | refine minus_ok (by repeat' (first | assumption | exact sz0 | apply Sz.add | apply Sz.sub | apply Sz.mulp | apply Sz.neg)) (by repeat' (first | assumption | exact sz0 | apply Sz.add | apply Sz.sub | apply Sz.mulp | apply Sz.neg)) (by omega) _ (by omega) _ _ _ ?_ | refine product_ok (by repeat' (first | assumption | exact sz0 | apply Sz.add | apply Sz.sub | apply Sz.mulp | apply Sz.neg)) (by repeat' (first | assumption | exact sz0 | apply Sz.add | apply Sz.sub | apply Sz.mulp | apply Sz.neg)) (by omega) _ (by omega) _ _ _ ?_ | refine below_ok (by repeat' (first | assumption | exact sz0 | apply Sz.add | apply Sz.sub | apply Sz.mulp | apply Sz.neg)) (by repeat' (first | assumption | exact sz0 | apply Sz.add | apply Sz.sub | apply Sz.mulp | apply Sz.neg)) (by omega) _ (by omega) _ _ _ ?_ | refine is_gain_ok (by repeat' (first | assumption | exact sz0 | apply Sz.add | apply Sz.sub | apply Sz.mulp | apply Sz.neg)) (by omega) (by assumption) (by assumption) _ (by omega) _ _ _ ?_); (try exists x_ta)))
  rw [decide_eq_true (Rat.num_nonneg.mpr h1)]
  exact z
theorem is_moment_any {b : Nat} {m : PV} (k : ElR b m) : Ret pg 3 i_is_moment [m] (.bl (nnPt m)) := by
  intro d hd h Q X z
  obtain ⟨d, rfl⟩ : ∃ e, d = e + 1 := ⟨d - 1, by omega⟩
  refine in_is_moment ?_
  (try exists x_ta, b_is_moment)
  refine is_part_any k.1 d (by omega) _ _ _ ?_
  (try exists x_ta)
  cases hp : isPt m with
  | false => rw [show nnPt m = false by unfold nnPt; rw [hp]; rfl] at z; exact z
  | true =>
    obtain ⟨q, rfl⟩ := isPt_pt hp
    rw [nnPt_pt] at z
    (try exists x_ta)
    exact z
theorem need_moment_ok {q : Rat} (h1 : 0 ≤ q) : Ret pg 4 i_need_moment [pt q] .non := by
  intro d hd h Q X z
  obtain ⟨d, rfl⟩ : ∃ e, d = e + 1 := ⟨d - 1, by omega⟩
  refine in_need_moment ?_
  (try exists x_ta, b_need_moment)
  (repeat ((first | refine is_whole_ok _ _ (by omega) _ _ _ ?_ | refine is_part_ok _ _ (by omega) _ _ _ ?_ | refine plus_ok (by repeat' (first | assumption | exact sz0 | apply Sz.add | apply Sz.sub | apply Sz.mulp | apply Sz.neg)) (by repeat' (first | assumption | exact sz0 | apply Sz.add | apply Sz.sub | apply Sz.mulp | apply Sz.neg)) (by omega) _ (by omega) _ _ _ ?_ | refine minus_ok (by repeat' (first | assumption | exact sz0 | apply Sz.add | apply Sz.sub | apply Sz.mulp | apply Sz.neg)) (by repeat' (first | assumption | exact sz0 | apply Sz.add | apply Sz.sub | apply Sz.mulp | apply Sz.neg)) (by omega) _ (by omega) _ _ _ ?_ | refine product_ok (by repeat' (first | assumption | exact sz0 | apply Sz.add | apply Sz.sub | apply Sz.mulp | apply Sz.neg)) (by repeat' (first | assumption | exact sz0 | apply Sz.add | apply Sz.sub | apply Sz.mulp | apply Sz.neg)) (by omega) _ (by omega) _ _ _ ?_ | refine below_ok (by repeat' (first | assumption | exact sz0 | apply Sz.add | apply Sz.sub | apply Sz.mulp | apply Sz.neg)) (by repeat' (first | assumption | exact sz0 | apply Sz.add | apply Sz.sub | apply Sz.mulp | apply Sz.neg)) (by omega) _ (by omega) _ _ _ ?_ | refine is_gain_ok (by repeat' (first | assumption | exact sz0 | apply Sz.add | apply Sz.sub | apply Sz.mulp | apply Sz.neg)) (by omega) (by assumption) (by assumption) _ (by omega) _ _ _ ?_ | refine is_moment_ok (by assumption) _ (by omega) _ _ _ ?_); (try exists x_ta)))
  exact z
theorem need_moment_bad {b : Nat} {m : PV} (k : ElR b m) (hn : nnPt m = false) : Rse pg 4 i_need_moment [m] 2 := by
  intro d hd h Q X z
  obtain ⟨d, rfl⟩ : ∃ e, d = e + 1 := ⟨d - 1, by omega⟩
  refine in_need_moment ?_
  (try exists x_ta, b_need_moment)
  refine is_moment_any k d (by omega) _ _ _ ?_
  rw [hn]
  (try exists x_ta)
  exact z
theorem jumps_till_ok {b c : Nat} {g m : Rat} {s : List (Rat × Rat)} (k : OkC b g s) (sm : Sz c m) (h9 : 7 * b + c ≤ 8000) : Ret pg 4 i_jumps_till [ck g s, pt m] (pt (jt s m)) := by
  intro d hd h Q X z
  obtain ⟨d, rfl⟩ : ∃ e, d = e + 1 := ⟨d - 1, by omega⟩
  refine in_jumps_till ?_
  (try exists x_ta, b_jumps_till, ck)
  refine loopT_fold encS (fun a => [some (.pv (ck g s)), some (.pv (pt m)), some (.pv (pt a)), none, none]) (jf m) trivial s 0 (fun pre a post hs q hq => ?_) ?_
  · (try exists x_ta, encS)
    have hz := k.z a (by rw [hs]; simp)
    have z1 := hz.1
    have z2 := hz.2
    have hl := k.l
    have zj : Sz (1 + 5 * (b + 1)) (pre.foldl (jf m) 0) := sz_jt (fun x hx => k.z x (by rw [hs]; simp [hx])) (by rw [hs] at hl; simp at hl; omega)
    (repeat ((first | refine is_whole_ok _ _ (by omega) _ _ _ ?_ | refine is_part_ok _ _ (by omega) _ _ _ ?_ | refine plus_ok (by repeat' (first | assumption | exact sz0 | apply Sz.add | apply Sz.sub | apply Sz.mulp | apply Sz.neg)) (by repeat' (first | assumption | exact sz0 | apply Sz.add | apply Sz.sub | apply Sz.mulp | apply Sz.neg)) (by omega) _ (by omega) _ _ _ ?_ | refine minus_ok (by repeat' (first | assumption | exact sz0 | apply Sz.add | apply Sz.sub | apply Sz.mulp | apply Sz.neg)) (by repeat' (first | assumption | exact sz0 | apply Sz.add | apply Sz.sub | apply Sz.mulp | apply Sz.neg)) (by omega) _ (by omega) _ _ _ ?_ | refine product_ok (by repeat' (first | assumption | exact sz0 | apply Sz.add | apply Sz.sub | apply Sz.mulp | apply Sz.neg)) (by repeat' (first | assumption | exact sz0 | apply Sz.add | apply Sz.sub | apply Sz.mulp | apply Sz.neg)) (by omega) _ (by omega) _ _ _ ?_ | refine below_ok (by repeat' (first | assumption | exact sz0 | apply Sz.add | apply Sz.sub | apply Sz.mulp | apply Sz.neg)) (by repeat' (first | assumption | exact sz0 | apply Sz.add | apply Sz.sub | apply Sz.mulp | apply Sz.neg)) (by omega) _ (by omega) _ _ _ ?_ | refine is_gain_ok (by repeat' (first | assumption | exact sz0 | apply Sz.add | apply Sz.sub | apply Sz.mulp | apply Sz.neg)) (by omega) (by assumption) (by assumption) _ (by omega) _ _ _ ?_ | refine is_moment_ok (by assumption) _ (by omega) _ _ _ ?_ | refine need_moment_ok (by assumption) _ (by omega) _ _ _ ?_); (try exists x_ta)))
    unfold jf at hq
    split
    · rename_i hm
      rw [if_pos hm] at hq
      exact hq
    · rename_i hm
      rw [if_neg hm] at hq
      (repeat ((first | refine is_whole_ok _ _ (by omega) _ _ _ ?_ | refine is_part_ok _ _ (by omega) _ _ _ ?_ | refine plus_ok (by repeat' (first | assumption | exact sz0 | apply Sz.add | apply Sz.sub | apply Sz.mulp | apply Sz.neg)) (by repeat' (first | assumption | exact sz0 | apply Sz.add | apply Sz.sub | apply Sz.mulp | apply Sz.neg)) (by omega) _ (by omega) _ _ _ ?_ | refine minus_ok (by repeat' (first | assumption | exact sz0 | apply Sz.add | apply Sz.sub | apply Sz.mulp | apply Sz.neg)) (by repeat' (first | assumption | exact sz0 | apply Sz.add | apply Sz.sub | apply Sz.mulp | apply Sz.neg)) (by omega) _ (by omega) _ _ _ ?_ | refine product_ok (by repeat' (first | assumption | exact sz0 | apply Sz.add | apply Sz.sub | apply Sz.mulp | apply Sz.neg)) (by repeat' (first | assumption | exact sz0 | apply Sz.add | apply Sz.sub | apply Sz.mulp | apply Sz.neg)) (by omega) _ (by omega) _ _ _ ?_ | refine below_ok (by repeat' (first | assumption | exact sz0 | apply Sz.add | apply Sz.sub | apply Sz.mulp | apply Sz.neg)) (by repeat' (first | assumption | exact sz0 | apply Sz.add | apply Sz.sub | apply Sz.mulp | apply Sz.neg)) (by omega) _ (by omega) _ _ _ ?_ | refine is_gain_ok (by repeat' (first | assumption | exact sz0 | apply Sz.add | apply Sz.sub | apply Sz.mulp | apply Sz.neg)) (by omega) (by assumption) (by assumption) _ (by omega) _ _ _ ?_ | refine is_moment_ok (by assumption) _ (by omega) _ _ _ ?_ | refine need_moment_ok (by assumption) _ (by omega) _ _ _ ?_); (try exists x_ta)))
      exact hq
  · (try exists x_ta)
    exact z
theorem drift_by_ok {b c : Nat} {g m : Rat} {s : List (Rat × Rat)} (k : OkC b g s) (sm : Sz c m) (h9 : 8 * b + 2 * c ≤ 8000) : Ret pg 5 i_drift_by [ck g s, pt m] (pt (drf g s m)) := by
  have zg := k.zg
  have b1 := zg.pos
  have zj : Sz (1 + 6 * (b + 1)) (jt s m) := sz_jt k.z k.l
  intro d hd h Q X z
  obtain ⟨d, rfl⟩ : ∃ e, d = e + 1 := ⟨d - 1, by omega⟩
  refine in_drift_by ?_
  (try exists x_ta, b_drift_by)
  simp only [show ck g s = .tup [pt g, .tup (s.map encS)] from rfl]
  (try exists x_ta)
  rw [show PV.tup [pt g, .tup (s.map encS)] = ck g s from rfl]
  (repeat ((first | refine is_whole_ok _ _ (by omega) _ _ _ ?_ | refine is_part_ok _ _ (by omega) _ _ _ ?_ | refine plus_ok (by repeat' (first | assumption | exact sz0 | apply Sz.add | apply Sz.sub | apply Sz.mulp | apply Sz.neg)) (by repeat' (first | assumption | exact sz0 | apply Sz.add | apply Sz.sub | apply Sz.mulp | apply Sz.neg)) (by omega) _ (by omega) _ _ _ ?_ | refine minus_ok (by repeat' (first | assumption | exact sz0 | apply Sz.add | apply Sz.sub | apply Sz.mulp | apply Sz.neg)) (by repeat' (first | assumption | exact sz0 | apply Sz.add | apply Sz.sub | apply Sz.mulp | apply Sz.neg)) (by omega) _ (by omega) _ _ _ ?_ | refine product_ok (by repeat' (first | assumption | exact sz0 | apply Sz.add | apply Sz.sub | apply Sz.mulp | apply Sz.neg)) (by repeat' (first | assumption | exact sz0 | apply Sz.add | apply Sz.sub | apply Sz.mulp | apply Sz.neg)) (by omega) _ (by omega) _ _ _ ?_ | refine below_ok (by repeat' (first | assumption | exact sz0 | apply Sz.add | apply Sz.sub | apply Sz.mulp | apply Sz.neg)) (by repeat' (first | assumption | exact sz0 | apply Sz.add | apply Sz.sub | apply Sz.mulp | apply Sz.neg)) (by omega) _ (by omega) _ _ _ ?_ | refine is_gain_ok (by repeat' (first | assumption | exact sz0 | apply Sz.add | apply Sz.sub | apply Sz.mulp | apply Sz.neg)) (by omega) (by assumption) (by assumption) _ (by omega) _ _ _ ?_ | refine is_moment_ok (by assumption) _ (by omega) _ _ _ ?_ | refine need_moment_ok (by assumption) _ (by omega) _ _ _ ?_ | refine jumps_till_ok (by assumption) (by repeat' (first | assumption | exact sz0 | apply Sz.add | apply Sz.sub | apply Sz.mulp | apply Sz.neg)) (by omega) _ (by omega) _ _ _ ?_); (try exists x_ta)))
  exact z
theorem is_clock_number_any {p : PV} (hp : plain p = true) : Ret pg 3 i_is_clock_number [p] (.bl (inB 0 5 p)) := by
  intro d hd h Q X z
  obtain ⟨d, rfl⟩ : ∃ e, d = e + 1 := ⟨d - 1, by omega⟩
  refine in_is_clock_number ?_
  (try exists x_ta, b_is_clock_number)
  refine is_from_to_any hp d (by omega) _ _ _ ?_
  (try exists x_ta)
  exact z
theorem is_clock_number_ok {n : Nat} (h : n < 6) : Ret pg 3 i_is_clock_number [.int n] (.bl true) := by
  have e : inB 0 5 (.int n) = true := by simp [inB]; omega
  rw [← e]
  exact is_clock_number_any rfl
theorem need_clock_number_ok {n : Nat} (h6 : n < 6) : Ret pg 4 i_need_clock_number [.int n] .non := by
  intro d hd h Q X z
  obtain ⟨d, rfl⟩ : ∃ e, d = e + 1 := ⟨d - 1, by omega⟩
  refine in_need_clock_number ?_
  (try exists x_ta, b_need_clock_number)
  refine is_clock_number_ok h6 d (by omega) _ _ _ ?_
  (try exists x_ta)
  exact z
theorem need_clock_number_bad {p : PV} (hp : plain p = true) (hb : inB 0 5 p = false) : Rse pg 4 i_need_clock_number [p] 1 := by
  intro d hd h Q X z
  obtain ⟨d, rfl⟩ : ∃ e, d = e + 1 := ⟨d - 1, by omega⟩
  refine in_need_clock_number ?_
  (try exists x_ta, b_need_clock_number)
  refine is_clock_number_any hp d (by omega) _ _ _ ?_
  rw [hb]
  (try exists x_ta)
  exact z
theorem are_bounds_ok {s : Nat} {t : Tel} (k : OkT s t) (h9 : 2 * s ≤ 9000) : Ret pg 3 i_are_bounds [ob t.lo, ob t.hi] (.bl true) := by
  intro d hd h Q X z
  obtain ⟨d, rfl⟩ : ∃ e, d = e + 1 := ⟨d - 1, by omega⟩
  refine in_are_bounds ?_
  (try exists x_ta, b_are_bounds)
  obtain ⟨_, _, _, so, le, zl, zh⟩ := k
  cases e1 : t.lo with
  | none =>
    cases e2 : t.hi with
    | none => rw [e1, e2] at so; simp at so
    | some h =>
      (try exists x_ta, ob)
      refine is_part_any rfl d (by omega) _ _ _ ?_
      (try exists x_ta, isPt)
      refine is_part_ok _ d (by omega) _ _ _ ?_
      (try exists x_ta)
      exact z
  | some l =>
    cases e2 : t.hi with
    | none =>
      (try exists x_ta, ob)
      refine is_part_ok _ d (by omega) _ _ _ ?_
      (try exists x_ta)
      exact z
    | some h =>
      (try exists x_ta, ob)
      refine is_part_ok _ d (by omega) _ _ _ ?_
      (try exists x_ta)
      refine is_part_ok _ d (by omega) _ _ _ ?_
      (try exists x_ta)
      refine below_ok (zh _ e2) (zl _ e1) (by omega) d (by omega) _ _ _ ?_
      (try exists x_ta)
      rw [decide_eq_false (le _ _ e1 e2)]
      exact z
theorem bounds_any {b : Nat} {lo hi : PV} (k1 : ElR b lo) (k2 : ElR b hi) (h9 : 2 * b ≤ 9000) : Ret pg 3 i_are_bounds [lo, hi] (.bl (bndP lo hi)) := by
  intro d hd h Q X z
  obtain ⟨d, rfl⟩ : ∃ e, d = e + 1 := ⟨d - 1, by omega⟩
  refine in_are_bounds ?_
  (try exists x_ta, b_are_bounds)
  cases n1 : isNon lo with
  | true =>
    have e : bndP lo hi = (isPt lo || isPt hi) := by unfold bndP; rw [n1]; rfl
    rw [e] at z
    (try exists x_ta)
    refine is_part_any k1.1 d (by omega) _ _ _ ?_
    (try exists x_ta)
    cases hp : isPt lo with
    | true => rw [hp] at z; (try exists x_ta); exact z
    | false =>
      rw [hp, Bool.false_or] at z
      (try exists x_ta)
      refine is_part_any k2.1 d (by omega) _ _ _ ?_
      rw [G43.fin_pv, take_self]
      exact z
  | false =>
    cases n2 : isNon hi with
    | true =>
      have e : bndP lo hi = (isPt lo || isPt hi) := by unfold bndP; rw [n1, n2]; rfl
      rw [e] at z
      (try exists x_ta)
      refine is_part_any k1.1 d (by omega) _ _ _ ?_
      (try exists x_ta)
      cases hp : isPt lo with
      | true => rw [hp] at z; (try exists x_ta); exact z
      | false =>
        rw [hp, Bool.false_or] at z
        (try exists x_ta)
        refine is_part_any k2.1 d (by omega) _ _ _ ?_
        rw [G43.fin_pv, take_self]
        exact z
    | false =>
      have e : bndP lo hi = (isPt lo && (isPt hi && !blwP hi lo)) := by unfold bndP; rw [n1, n2]; rfl
      rw [e] at z
      (try exists x_ta)
      refine is_part_any k1.1 d (by omega) _ _ _ ?_
      (try exists x_ta)
      cases p1 : isPt lo with
      | false => rw [p1] at z; (try exists x_ta); exact z
      | true =>
        rw [p1, Bool.true_and] at z
        obtain ⟨q1, rfl⟩ := isPt_pt p1
        (try exists x_ta)
        refine is_part_any k2.1 d (by omega) _ _ _ ?_
        (try exists x_ta)
        cases p2 : isPt hi with
        | false => rw [p2] at z; (try exists x_ta); exact z
        | true =>
          rw [p2, Bool.true_and] at z
          obtain ⟨q2, rfl⟩ := isPt_pt p2
          rw [blwP_pt] at z
          (try exists x_ta)
          refine below_ok (ElR.sz k2) (ElR.sz k1) (by omega) d (by omega) _ _ _ ?_
          (try exists x_ta)
          exact z
theorem steps_of_ok {s : Nat} {ts : List Tel} (k : ∀ t ∈ ts, OkT s t) (hl : ts.length ≤ 16) : Ret pg 2 i_steps_of [tls ts] (.lst ((stepsFrom ts 0).map encP)) := by
  intro d hd h Q X z
  obtain ⟨d, rfl⟩ : ∃ e, d = e + 1 := ⟨d - 1, by omega⟩
  refine in_steps_of ?_
  (try exists x_ta, b_steps_of, tls)
  rw [enmL_map]
  refine loopT_any (fun n ρ h2 => ρ = [some (RV.pv (tls ts)), some (.ref h.length), none, none, none, none, none] ∧ h2 = h ++ [some ((stepsFrom (ts.take n) 0).map encP)]) (fun _ _ _ _ => trivial) _ ?_ ?_ ⟨rfl, rfl⟩
  · rintro n x ρ h3 kk hx ⟨rfl, rfl⟩ hk
    rw [List.getElem?_map, List.getElem?_zipIdx] at hx
    have hn3 : n < ts.length := by
      rcases Nat.lt_or_ge n ts.length with q | q
      · exact q
      · rw [List.getElem?_eq_none q] at hx
        cases hx
    have et : ts.take (n + 1) = ts.take n ++ [ts[n]] := (List.take_append_getElem hn3).symm
    rw [List.getElem?_eq_getElem hn3] at hx
    simp at hx
    subst hx
    have ok := k _ (List.getElem_mem hn3)
    rw [et] at hk
    generalize ts[n] = t at ok hk
    have hk := hk _ _ ⟨rfl, rfl⟩
    have hl2 : (ts.take n).length = n := by rw [List.length_take]; omega
    rw [steps_snoc, hl2, Nat.zero_add] at hk
    have gl := steps_len (ts.take n) 0
    rw [hl2] at gl
    have hlt : ((stepsFrom (ts.take n) 0).map encP).length + 2 < sizeLine := by
      rw [List.length_map, sizeLine_eq]
      omega
    generalize stepsFrom (ts.take n) 0 = g at hk hlt
    unfold stp at hk
    (try exists x_ta, encT)
    cases e1 : t.hi with
    | none =>
      cases e2 : t.lo with
      | none => exact absurd ok.so (by simp [e1, e2])
      | some l =>
        rw [e1, e2] at hk
        (try exists x_ta, ob)
        refine turned_ok _ d (by omega) _ _ _ ?_
        (try exists x_ta)
        refine ⟨by omega, ?_⟩
        simpa [encP] using hk
    | some hh =>
      cases e2 : t.lo with
      | none =>
        rw [e1, e2] at hk
        (try exists x_ta, ob)
        refine ⟨by omega, ?_⟩
        simpa [encP] using hk
      | some l =>
        rw [e1, e2] at hk
        (try exists x_ta, ob)
        refine ⟨by omega, ?_⟩
        refine turned_ok _ d (by omega) _ _ _ ?_
        (try exists x_ta)
        refine ⟨by simp at hlt ⊢; omega, ?_⟩
        simpa [encP] using hk
  · rintro ρ h3 ⟨rfl, rfl⟩
    (try exists x_ta)
    rw [List.length_map, List.length_zipIdx, List.take_length]
    exact z
theorem szl2 {n : Nat} (h : n ≤ 10000) : n ≤ sizeLine := by rw [sizeLine_eq]; omega
theorem shortest_ok {es : List Stp} {s b m : Nat} (k : ∀ e ∈ es, StOf s m e) (hle : es.length ≤ 1000) (h9 : 3 + 2 * (6 * es.length * (s + 1)) + s ≤ 9000) (hb : b < 6) : Ret pg 4 i_shortest [.lst (es.map encP), .int b] (.tup [.lst ((rounds es (one0 b) 6).1.map encL), numP (rounds es (one0 b) 6).2]) := by
  intro d hd h Q X z
  obtain ⟨d, rfl⟩ : ∃ e, d = e + 1 := ⟨d - 1, by omega⟩
  refine in_shortest ?_
  (try exists x_ta, b_shortest)
  refine ⟨by decide, by decide, szl (by decide), ?_⟩
  have e0 : (List.replicate (Int.toNat 6) [PV.non]).flatten = (List.replicate 6 none).map encL := rfl
  rw [e0]
  refine k_subT (by simpa using hb) ?_
  have e1 : ((List.replicate 6 none).map encL).set b (.tup [pt 0, .tup []]) = (one0 b).map encL := by
    unfold one0
    rw [List.map_set]
    rfl
  rw [e1]
  refine ⟨by decide, by decide, ?_⟩
  have er : rngL 0 (Int.toNat 6) = (List.range 6).map fun (i : Nat) => PV.int (0 + (i : Int)) := rfl
  rw [er]
  refine loopT_run (fun (i : Nat) => PV.int (0 + (i : Int))) (fun (st : List (Option Lab) × Option Nat) => [some (RV.pv (PV.lst (List.map encP es))), some (RV.pv (PV.int ↑b)), some (RV.ref (List.length h)), some (RV.pv (numP st.2)), none, none, none, none, none, none, none]) (fun st => h ++ [some (st.1.map encL)]) (fun st _ => rnd es st.1) (fun i st => WI es s (i * es.length) st.1) 6 (fun _ => trivial) (List.range 6) 0 (one0 b, none) (by simp) (by simpa using one0_wi) ?_ ?_
  · intro t _ i st hi hI
    have aux : ∀ (l : List Stp) (j : Nat) (st3 : List (Option Lab) × Option Nat), (∀ e ∈ l, e ∈ es) → WI es s j st3.1 → WI es s (j + l.length) (l.foldl stepR st3).1 := by
      intro l
      induction l with
      | nil => intro j st3 _ h; exact h
      | cons e l ih =>
        intro j st3 hm h
        have := ih (j + 1) (stepR st3 e) (fun g hg => hm g (by simp [hg])) (h.step (hm e (by simp)) (k e (hm e (by simp))))
        rw [List.foldl_cons, List.length_cons, show j + (l.length + 1) = j + 1 + l.length by omega]
        exact this
    refine ⟨by rw [Nat.succ_mul]; exact aux es _ (st.1, none) (fun _ h => h) hI, fun kk hk => ?_⟩
    (try exists x_ta)
    refine loopT_run encP (fun (st : List (Option Lab) × Option Nat) => [some (RV.pv (PV.lst (List.map encP es))), some (RV.pv (PV.int ↑b)), some (RV.ref (List.length h)), some (RV.pv (numP st.2)), some (.pv (.int (0 + (t : Int)))), none, none, none, none, none, none]) (fun st => h ++ [some (st.1.map encL)]) stepR (fun j st => WI es s (i * es.length + j) st.1) es.length (fun _ => trivial) es 0 (st.1, none) (by simp) hI ?_ ?_
    · intro e he j st2 hj hW
      have ke := k e he
      refine ⟨hW.step he ke, fun k2 hk2 => ?_⟩
      have sz9 : ∀ x : Lab, x.2.length ≤ i * es.length + j → x.2.length * (s + 1) ≤ 6 * es.length * (s + 1) ∧ x.2.length ≤ 6000 := by
        intro x hx
        have h1 : i * es.length + j ≤ 6 * es.length := by
          have := Nat.mul_le_mul_right es.length (show i + 1 ≤ 6 by omega)
          rw [Nat.succ_mul] at this
          omega
        have h2 := Nat.mul_le_mul_right (s + 1) (Nat.le_trans hx h1)
        exact ⟨h2, by omega⟩
      (try exists x_ta, encP)
      rw [ixF hW.l ke.1.1]
      have hst : stepR st2 e = ((relax st2.1 e).1, if (relax st2.1 e).2 = true then some e.c else st2.2) := rfl
      unfold relax at hst
      cases ha : st2.1.getD e.a none with
      | none =>
        rw [ha] at hst
        simp only [Bool.false_eq_true, if_false] at hst
        rw [hst] at hk2
        (try exists x_ta, encL)
        exact hk2
      | some x =>
        obtain ⟨z1, z2, _⟩ := hW.z _ _ ha
        obtain ⟨q1, q2⟩ := sz9 x z2
        rw [ha] at hst
        (try exists x_ta, encL)
        rw [ixF hW.l ke.1.1, ha]
        (try exists x_ta, encL)
        refine plus_ok z1 ke.2.1 (by omega) d (by omega) _ _ _ ?_
        (try exists x_ta)
        rw [ixF hW.l ke.1.2]
        cases hc : st2.1.getD e.c none with
        | none =>
          rw [hc] at hst
          simp only [if_true] at hst
          rw [hst] at hk2
          (try exists x_ta, encL)
          rw [ixF hW.l ke.1.1, ha]
          (try exists x_ta, encL)
          refine ⟨szl2 (by rw [List.length_map]; omega), ?_⟩
          refine k_subT (by rw [List.length_map, hW.l]; exact ke.1.2) ?_
          rw [List.map_set] at hk2
          simpa [encL, encW, numP] using hk2
        | some zz =>
          obtain ⟨y1, y2, _⟩ := hW.z _ _ hc
          obtain ⟨r1, r2⟩ := sz9 zz y2
          rw [hc] at hst
          (try exists x_ta, encL)
          rw [ixF hW.l ke.1.2, hc]
          (try exists x_ta, encL)
          refine below_ok (z1.add ke.2.1) y1 (by omega) d (by omega) _ _ _ ?_
          (try exists x_ta)
          by_cases lt : x.1 + e.w < zz.1
          · rw [if_pos lt]
            simp only [if_pos lt, if_true] at hst
            rw [hst] at hk2
            (try exists x_ta, encL)
            rw [ixF hW.l ke.1.1, ha]
            (try exists x_ta, encL)
            refine ⟨szl2 (by rw [List.length_map]; omega), ?_⟩
            refine k_subT (by rw [List.length_map, hW.l]; exact ke.1.2) ?_
            rw [List.map_set] at hk2
            simpa [encL, encW, numP] using hk2
          · rw [if_neg lt]
            simp only [if_neg lt, Bool.false_eq_true, if_false] at hst
            rw [hst] at hk2
            exact hk2
    · intro _
      (try exists x_ta)
      exact hk
  · intro _
    rw [rounds_fold es 5 (one0 b, none)]
    (try exists x_ta)
    exact z
def ptOf (ts : List Tel) (q : Nat × Int) : Nat := match ts[q.1]? with | some t => if q.2 = 1 then t.b else t.a | none => 0
theorem fold_snoc {α β : Type} (g : α → β) : ∀ (l : List α) (s : List β), l.foldl (fun s a => s ++ [g a]) s = s ++ l.map g
  | [], s => by simp
  | a :: l, s => by rw [List.foldl_cons, fold_snoc g l]; simp
theorem ixI {h : Hs} {l : List Nat} {n : Nat} {k : PV → Prop} {x : Nat} (e : l[n]? = some x) : kIx (.ref h.length) (.pv (.int n)) (h ++ [some (l.map fun (x : Nat) => PV.int x)]) k = k (.int x) := by
  have hl := (List.getElem?_eq_some_iff.mp e).1
  rw [k_ixr (c := l.map fun (x : Nat) => PV.int x) (by simp)]
  have e2 : atI (l.map fun (x : Nat) => PV.int x) (n : Int) = some (.int x) := by
    unfold atI L2.atI L2.ixN
    rw [if_pos (by omega), if_pos (by rw [List.length_map]; omega)]
    simp [e]
  rw [e2]
  simp
theorem sIx_nat {n d i : Nat} (h : i ≤ n) : HT.sIx n d (some (i : Int)) = i := by
  rw [HT.sIx_nat]
  omega
theorem ring_on_ring {s b : Nat} {ts : List Tel} {p : List (Nat × Int)} (k : ∀ t ∈ ts, OkT s t) (hb : b < 6) (hv : ∀ q ∈ p, q.1 < ts.length) (h6 : 6 ≤ p.length) (h9 : p.length ≤ 9000) (d : Nat) (hd : 2 ≤ d) (h : Hs) (Q : QV) (X : QX)
    (z : ∀ i j v, i < j → j ≤ p.length → j ≤ 6 → ([b] ++ p.map (ptOf ts))[i]? = some v → ([b] ++ p.map (ptOf ts))[j]? = some v → Q (.pv (.tup [.int (v : Nat), .tup (((p.drop i).take (j - i)).map encW)])) h) : wpC pg d i_ring_on [.pv (tls ts), .pv (.int b), .pv (.tup (p.map encW))] h Q X := by
  obtain ⟨d, rfl⟩ : ∃ e, d = e + 1 := ⟨d - 1, by omega⟩
  refine in_ring_on ?_
  (try exists x_ta, b_ring_on)
  have e0 : [PV.int b] = [b].map fun (x : Nat) => PV.int x := rfl
  rw [e0]
  refine loopT_run encW (fun (_ : List Nat) => [some (RV.pv (tls ts)), some (.pv (.int b)), some (.pv (.tup (p.map encW))), some (.ref h.length), none, none, none, none, none, none, none, none]) (fun pts => h ++ [some (pts.map fun (x : Nat) => PV.int x)]) (fun pts q => pts ++ [ptOf ts q]) (fun i pts => pts.length = i + 1) p.length (fun _ => trivial) p 0 [b] (by simp) rfl ?_ ?_
  · intro q hq i pts hi hI
    refine ⟨by simp [hI], fun kk hk => ?_⟩
    obtain ⟨t, ht⟩ : ∃ t, ts[q.1]? = some t := ⟨_, List.getElem?_eq_getElem (hv q hq)⟩
    have ep : ptOf ts q = if q.2 = 1 then t.b else t.a := by
      unfold ptOf
      rw [ht]
    (try exists x_ta, tls, encW)
    rw [atTel ht]
    unfold encT
    (try exists x_ta)
    rw [ep] at hk
    have lt : (pts.map fun (x : Nat) => PV.int x).length < sizeLine := by rw [List.length_map, sizeLine_eq]; omega
    by_cases hs : q.2 = 1
    · rw [if_pos hs]
      rw [if_pos hs] at hk
      refine ⟨lt, ?_⟩
      rw [List.map_append] at hk
      exact hk
    · rw [if_neg hs]
      rw [if_neg hs] at hk
      refine ⟨lt, ?_⟩
      rw [List.map_append] at hk
      exact hk
  · intro _
    rw [fold_snoc]
    have hp6 : ∀ x ∈ [b] ++ p.map (ptOf ts), x < 6 := by
      refine allA (allC hb all1) ?_
      intro x hx
      obtain ⟨q, hq, rfl⟩ := List.mem_map.mp hx
      obtain ⟨t, ht⟩ : ∃ t, ts[q.1]? = some t := ⟨_, List.getElem?_eq_getElem (hv q hq)⟩
      have kt := k t (List.mem_of_getElem? ht)
      unfold ptOf
      rw [ht]
      dsimp only
      split
      · exact kt.b6
      · exact kt.a6
    have hpl : ([b] ++ p.map (ptOf ts)).length = p.length + 1 := by simp
    generalize [b] ++ p.map (ptOf ts) = pts at hp6 hpl z
    (try exists x_ta, List.length_map)
    refine ⟨by omega, ?_⟩
    refine loopT_any (fun n ρ h2 => ρ = [some (RV.pv (tls ts)), some (.pv (.int b)), some (.pv (.tup (p.map encW))), some (.ref h.length), none, none, none, none, none, none, none, none] ∧ h2 = h ++ [some (pts.map fun (x : Nat) => PV.int x)] ∧ (pts.take (n + 1)).Nodup) (fun _ _ _ _ => trivial) _ ?_ ?_ ⟨rfl, rfl, by cases pts <;> simp⟩
    · rintro n x ρ h2 k2 hx ⟨rfl, rfl, hnd⟩ hk2
      obtain ⟨rfl, hn⟩ := rng_get hx
      (try exists x_ta)
      have hn1 : n + 1 < pts.length := by omega
      refine ⟨by omega, by omega, ?_⟩
      have e1 : (1 + (n : Int)) = ((n + 1 : Nat) : Int) := by omega
      rw [e1, Int.toNat_natCast]
      have el : pts[n + 1]? = some pts[n + 1] := List.getElem?_eq_getElem hn1
      refine loopT_any (fun m ρ h2 => ρ = [some (RV.pv (tls ts)), some (.pv (.int b)), some (.pv (.tup (p.map encW))), some (.ref h.length), none, none, none, none, none, none, some (.pv (.int ((n + 1 : Nat) : Int))), none] ∧ h2 = h ++ [some (pts.map fun (x : Nat) => PV.int x)] ∧ ∀ j, j < m → pts[j]? ≠ some pts[n + 1]) (fun _ _ _ _ => trivial) _ ?_ ?_ ⟨rfl, rfl, by intro j hj; omega⟩
      · rintro m x ρ h2 k3 hx3 ⟨rfl, rfl, hne⟩ hk3
        obtain ⟨rfl, hm⟩ := rng_get hx3
        have em : pts[m]? = some (pts[m]'(by omega)) := List.getElem?_eq_getElem (by omega)
        (try exists x_ta)
        rw [show (0 + (m : Int)) = (m : Int) by omega, ixI em, ixI el]
        (try exists x_ta)
        by_cases he : ((pts[m]'(by omega) : Nat) : Int) = pts[n + 1]
        · rw [if_pos he, ixI em]
          (try exists x_ta)
          have hm2 : m < n + 1 := by simpa [rngL_len] using hm
          have n6 : n + 1 ≤ 6 := by
            have := nodup_le 6 _ hnd (fun x hx => hp6 x (List.mem_of_mem_take hx))
            rw [List.length_take] at this
            omega
          have ev : pts[m]'(by omega) = pts[n + 1] := by omega
          have ct : cut (p.map encW) (some (m : Int)) (some ((n + 1 : Nat) : Int)) = ((p.drop m).take (n + 1 - m)).map encW := by
            unfold cut
            rw [sIx_nat (by rw [List.length_map]; omega), sIx_nat (by rw [List.length_map]; omega), List.map_take, List.map_drop]
          rw [ct]
          exact z m (n + 1) _ hm2 (by omega) n6 em (by rw [el, ev])
        · rw [if_neg he]
          refine hk3 _ _ ⟨rfl, rfl, fun j hj => ?_⟩
          by_cases hjm : j = m
          · subst hjm
            rw [em]
            intro q
            injection q with q
            exact he (by rw [q])
          · exact hne j (by omega)
      · rintro ρ h2 ⟨rfl, rfl, hne⟩
        rw [rngL_len] at hne
        (try exists x_ta)
        refine hk2 _ _ ⟨rfl, rfl, ?_⟩
        have et : pts.take (n + 1 + 1) = pts.take (n + 1) ++ [pts[n + 1]] := (List.take_append_getElem hn1).symm
        rw [et, List.nodup_append]
        refine ⟨hnd, by simp, ?_⟩
        intro a ha c hc hac
        rw [List.mem_singleton] at hc
        subst hc
        obtain ⟨j, hj, ej⟩ := List.mem_iff_getElem.mp ha
        have hj2 : j < n + 1 := by rw [List.length_take] at hj; omega
        rw [List.getElem_take] at ej
        exact hne j hj2 (by rw [List.getElem?_eq_getElem (by omega), ej, hac])
    · rintro ρ h2 ⟨rfl, rfl, hnd⟩
      exfalso
      rw [rngL_len] at hnd
      rw [List.take_of_length_le (by omega)] at hnd
      have := nodup_le 6 pts hnd hp6
      omega
theorem ring_on_some {s b : Nat} {ts : List Tel} {p : List (Nat × Int)} (k : ∀ t ∈ ts, OkT s t) (hb : b < 6) (hv : ∀ q ∈ p, q.1 < ts.length) (h6 : 6 ≤ p.length) (h9 : p.length ≤ 9000) (d : Nat) (hd : 2 ≤ d) (h : Hs) (Q : QV) (X : QX)
    (z : ∀ l, Q (.pv (.tup l)) h) : wpC pg d i_ring_on [.pv (tls ts), .pv (.int b), .pv (.tup (p.map encW))] h Q X := ring_on_ring k hb hv h6 h9 d hd h Q X fun _ _ _ _ _ _ _ _ => z _
theorem ring_in_none {s : Nat} {ts : List Tel} (k : ∀ t ∈ ts, OkT s t) (hl : ts.length ≤ 16) (h9 : 3 + 2 * (12 * ts.length * (s + 1)) + s ≤ 9000) (hF : FeasT ts) : Ret pg 6 i_ring_in [tls ts] .non := by
  have kS : ∀ e ∈ stepsFrom ts 0, StOf s ts.length e := steps_of k (by omega)
  have hE : InE (stepsFrom ts 0) := fun e he => (kS e he).1
  have sl := steps_len ts 0
  have h92 : 3 + 2 * (6 * (stepsFrom ts 0).length * (s + 1)) + s ≤ 9000 := by
    have := Nat.mul_le_mul_right (s + 1) (Nat.mul_le_mul_left 6 sl)
    rw [show 6 * (2 * ts.length) = 12 * ts.length by omega] at this
    omega
  have hc := (feas_iff hE).mp hF
  intro d hd h Q X z
  obtain ⟨d, rfl⟩ : ∃ e, d = e + 1 := ⟨d - 1, by omega⟩
  refine in_ring_in ?_
  (try exists x_ta, b_ring_in)
  refine steps_of_ok k hl d (by omega) _ _ _ ?_
  (try exists x_ta)
  refine ⟨by decide, by decide, ?_⟩
  refine loopT_any (fun n ρ h2 => ρ = [some (RV.pv (tls ts)), some (.pv (.lst ((stepsFrom ts 0).map encP))), none, none, none] ∧ h2 = h) (fun _ _ _ _ => trivial) _ ?_ ?_ ⟨rfl, rfl⟩
  · rintro n x ρ h2 k2 hx ⟨rfl, rfl⟩ hk2
    obtain ⟨rfl, hn⟩ := rng_get hx
    have hn : n < 6 := by simpa using hn
    (try exists x_ta)
    rw [show (0 + (n : Int)) = (n : Int) by omega]
    refine shortest_ok (m := ts.length) kS (by omega) h92 hn d (by omega) _ _ _ ?_
    rw [hc n hn]
    (try exists x_ta, numP)
    exact hk2 _ _ ⟨rfl, rfl⟩
  · rintro ρ h2 ⟨rfl, rfl⟩
    (try exists x_ta)
    exact z
theorem ring_in_some {s : Nat} {ts : List Tel} (k : ∀ t ∈ ts, OkT s t) (hl : ts.length ≤ 16) (h9 : 3 + 2 * (12 * ts.length * (s + 1)) + s ≤ 9000) (hF : ¬ FeasT ts) (d : Nat) (hd : 6 ≤ d) (h : Hs) (Q : QV) (X : QX)
    (z : ∀ l, Q (.pv (.tup l)) h) : wpC pg d i_ring_in [.pv (tls ts)] h Q X := by
  have kS : ∀ e ∈ stepsFrom ts 0, StOf s ts.length e := steps_of k (by omega)
  have hE : InE (stepsFrom ts 0) := fun e he => (kS e he).1
  have sl := steps_len ts 0
  have h92 : 3 + 2 * (6 * (stepsFrom ts 0).length * (s + 1)) + s ≤ 9000 := by
    have := Nat.mul_le_mul_right (s + 1) (Nat.mul_le_mul_left 6 sl)
    rw [show 6 * (2 * ts.length) = 12 * ts.length by omega] at this
    omega
  have hc : ¬ ∀ b, b < 6 → (rounds (stepsFrom ts 0) (one0 b) 6).2 = none := fun q => hF ((feas_iff hE).mpr q)
  obtain ⟨d, rfl⟩ : ∃ e, d = e + 1 := ⟨d - 1, by omega⟩
  refine in_ring_in ?_
  (try exists x_ta, b_ring_in)
  refine steps_of_ok k hl d (by omega) _ _ _ ?_
  (try exists x_ta)
  refine ⟨by decide, by decide, ?_⟩
  refine loopT_any (fun n ρ h2 => (ρ = [some (RV.pv (tls ts)), some (.pv (.lst ((stepsFrom ts 0).map encP))), none, none, none] ∧ h2 = h) ∧ ∀ b, b < n → (rounds (stepsFrom ts 0) (one0 b) 6).2 = none) (fun _ _ _ _ => trivial) _ ?_ ?_ ⟨⟨rfl, rfl⟩, by intro b hb; omega⟩
  · rintro n x ρ h2 k2 hx ⟨⟨rfl, rfl⟩, hb⟩ hk2
    obtain ⟨rfl, hn⟩ := rng_get hx
    have hn : n < 6 := by simpa using hn
    (try exists x_ta)
    rw [show (0 + (n : Int)) = (n : Int) by omega]
    refine shortest_ok (m := ts.length) kS (by omega) h92 hn d (by omega) _ _ _ ?_
    cases e : (rounds (stepsFrom ts 0) (one0 n) 6).2 with
    | none =>
      (try exists x_ta, numP)
      refine hk2 _ _ ⟨⟨rfl, rfl⟩, fun b hb2 => ?_⟩
      by_cases q : b = n
      · rw [q]; exact e
      · exact hb b (by omega)
    | some c =>
      obtain ⟨l6, _, ag⟩ := aged_rounds hE (one0_len n) 6
      obtain ⟨hc6, x, hx, hlen⟩ := ag c e
      have wi := wi_rounds kS (b := n) 6
      obtain ⟨_, w2, w3⟩ := wi.z c x hx
      (try exists x_ta, numP)
      rw [ixLab l6 hc6, hx]
      (try exists x_ta, encL)
      refine ring_on_some k hn (fun q hq => ?_) hlen (by omega) d (by omega) _ _ _ ?_
      · obtain ⟨f, hf, rfl⟩ := w3 q hq
        exact (kS f hf).2.2.1
      · intro l
        (try exists x_ta)
        exact z l
  · rintro ρ h2 ⟨⟨rfl, rfl⟩, hb⟩
    exact absurd (fun b hb2 => hb b (by rw [rngL_len]; exact hb2)) hc
theorem together_ok {s : Nat} {ts : List Tel} (k : ∀ t ∈ ts, OkT s t) (hl : ts.length ≤ 16) (h9 : 3 + 2 * (12 * ts.length * (s + 1)) + s ≤ 9000) : Ret pg 7 i_together [tls ts] (.bl (togB ts)) := by
  intro d hd h Q X z
  obtain ⟨d, rfl⟩ : ∃ e, d = e + 1 := ⟨d - 1, by omega⟩
  refine in_together ?_
  (try exists x_ta, b_together)
  by_cases hF : FeasT ts
  · rw [togB_true hF] at z
    refine ring_in_none k hl h9 hF d (by omega) _ _ _ ?_
    (try exists x_ta)
    exact z
  · rw [togB_false hF] at z
    refine ring_in_some k hl h9 hF d (by omega) _ _ _ ?_
    intro l
    (try exists x_ta)
    exact z
theorem far_from_ok {s a b : Nat} {ts : List Tel} (k : ∀ t ∈ ts, OkT s t) (hl : ts.length ≤ 16) (h9 : 3 + 2 * (12 * ts.length * (s + 1)) + s ≤ 9000) (ha : a < 6) (hb : b < 6) : Ret pg 5 i_far_from [tls ts, .int a, .int b] (encO (farV ts b a)) := by
  have kS : ∀ e ∈ stepsFrom ts 0, StOf s ts.length e := steps_of k (by omega)
  have hE : InE (stepsFrom ts 0) := fun e he => (kS e he).1
  have sl := steps_len ts 0
  have h92 : 3 + 2 * (6 * (stepsFrom ts 0).length * (s + 1)) + s ≤ 9000 := by
    have := Nat.mul_le_mul_right (s + 1) (Nat.mul_le_mul_left 6 sl)
    rw [show 6 * (2 * ts.length) = 12 * ts.length by omega] at this
    omega
  intro d hd h Q X z
  obtain ⟨d, rfl⟩ : ∃ e, d = e + 1 := ⟨d - 1, by omega⟩
  refine in_far_from ?_
  (try exists x_ta, b_far_from)
  refine steps_of_ok k hl d (by omega) _ _ _ ?_
  (try exists x_ta)
  refine shortest_ok (m := ts.length) kS (by omega) h92 hb d (by omega) _ _ _ ?_
  (try exists x_ta)
  rw [ixLab (aged_rounds hE (one0_len b) 6).1 ha]
  rw [far_lab] at z
  cases e : (rounds (stepsFrom ts 0) (one0 b) 6).1.getD a none with
  | none =>
    rw [e] at z
    (try exists x_ta, encL)
    exact z
  | some x =>
    rw [e] at z
    (try exists x_ta, encL)
    exact z
theorem stretch_by_ok {s a b : Nat} {ts : List Tel} (k : ∀ t ∈ ts, OkT s t) (hl : ts.length ≤ 16) (h9 : 3 + 2 * (12 * ts.length * (s + 1)) + s ≤ 9000) (ha : a < 6) (hb : b < 6) : Ret pg 6 i_stretch_by [tls ts, .int a, .int b] (.tup [encO ((farV ts a b).map fun x => -x), encO (farV ts b a)]) := by
  intro d hd h Q X z
  obtain ⟨d, rfl⟩ : ∃ e, d = e + 1 := ⟨d - 1, by omega⟩
  refine in_stretch_by ?_
  (try exists x_ta, b_stretch_by)
  refine far_from_ok k hl h9 ha hb d (by omega) _ _ _ ?_
  (try exists x_ta)
  refine far_from_ok k hl h9 hb ha d (by omega) _ _ _ ?_
  (try exists x_ta)
  cases e : farV ts a b with
  | none =>
    rw [e] at z
    (try exists x_ta, encO)
    exact z
  | some x =>
    rw [e] at z
    (try exists x_ta, encO)
    refine turned_ok _ d (by omega) _ _ _ ?_
    (try exists x_ta)
    exact z
theorem need_other_clock_ok {n : Nat} (h1 : 1 ≤ n) (h6 : n < 6) : Ret pg 4 i_need_other_clock [.int n] .non := by
  intro d hd h Q X z
  obtain ⟨d, rfl⟩ : ∃ e, d = e + 1 := ⟨d - 1, by omega⟩
  refine in_need_other_clock ?_
  (try exists x_ta, b_need_other_clock)
  refine is_from_to_any rfl d (by omega) _ _ _ ?_
  have e : inB 1 5 (.int (n : Nat)) = true := by simp [inB]; omega
  (try exists x_ta)
  rw [show (6 : Int) - 1 = 5 by decide, e]
  (try exists x_ta)
  exact z
theorem need_other_clock_bad {p : PV} (hp : plain p = true) (hb : inB 1 5 p = false) : Rse pg 4 i_need_other_clock [p] 1 := by
  intro d hd h Q X z
  obtain ⟨d, rfl⟩ : ∃ e, d = e + 1 := ⟨d - 1, by omega⟩
  refine in_need_other_clock ?_
  (try exists x_ta, b_need_other_clock)
  refine is_from_to_any hp d (by omega) _ _ _ ?_
  (try exists x_ta)
  rw [show (6 : Int) - 1 = 5 by decide, hb]
  (try exists x_ta)
  exact z
theorem are_gains_ok {cs : List Ck} {b : Nat} (l6 : cs.length = 6) (hb : b ≤ 8000) (k : ∀ c ∈ cs, Sz b c.1 ∧ -12 ≤ c.1 ∧ c.1 ≤ 12) (h0 : (ckA cs 0).1 = 0) : Ret pg 4 i_are_gains [.tup (cs.map fun c => pt c.1)] (.bl true) := by
  intro d hd h Q X z
  obtain ⟨d, rfl⟩ : ∃ e, d = e + 1 := ⟨d - 1, by omega⟩
  refine in_are_gains ?_
  (try exists x_ta, b_are_gains)
  rw [if_pos (by rw [List.length_map, l6]; rfl)]
  (try exists x_ta)
  refine ⟨szl (by rw [List.length_map]; omega), ?_⟩
  refine compT_map1 (fun c : Ck => pt c.1) (fun _ => PV.bl true) trivial cs (fun c hc q hq => ?_) ?_
  · obtain ⟨k1, k2, k3⟩ := k c hc
    refine is_gain_ok k1 hb k2 k3 d (by omega) _ _ _ ?_
    (try exists x_ta)
    exact hq
  · rw [f_all (f := fun _ => true)]
    (try exists x_ta)
    rw [if_neg (by simp)]
    rw [k_ixt]
    have lt : 0 < cs.length := by omega
    have e0 : ckA cs 0 = cs[0] := by
      unfold ckA
      rw [List.getD_eq_getElem?_getD, List.getElem?_eq_getElem lt]
      rfl
    refine ⟨pt 0, atc_nat (n := 0) (by rw [List.getElem?_map, List.getElem?_eq_getElem lt, ← e0, ← h0]; rfl), ?_⟩
    refine ⟨dt_tup (n := 59) (allC trivial (allC trivial all1)), dt_tup (n := 59) (allC trivial (allC trivial all1)), ?_⟩
    rw [pt_inj, decide_eq_true rfl]
    exact z
theorem elr_pt {b : Nat} {q : Rat} (z : Sz b q) : ElR b (pt q) := ⟨rfl, fun n m e => by
  unfold pt at e
  injection e with e
  injection e with e1 e
  injection e with e2 _
  injection e1 with e1
  injection e2 with e2
  subst e1 e2
  exact ⟨z.1, by rw [den_nat]; exact z.2⟩⟩
def gnB (x : PV) : Bool := isPt x && (!blwP x (pt (-12)) && !blwP (pt 12) x)
def gnsB (l : List PV) : Bool := decide (l.length = 6) && (l.all gnB && (match l with
  | x :: _ => peq x (pt 0)
  | [] => false))
theorem compT_map1' {gd : Hs → Prop} {body : PV → Hs → (List PV → Hs → Prop) → Prop} {h : Hs} {Q : List PV → Hs → Prop} (f : PV → PV) (hg : gd h) (l : List PV) (hb : ∀ x ∈ l, ∀ q : List PV → Hs → Prop, q [f x] h → body x h q) (z : Q (l.map f) h) : compT gd body l h Q := by
  have := compT_map1 (gd := gd) (step := body) (id : PV → PV) f hg l hb z
  rw [List.map_id] at this
  exact this
theorem are_gains_tup {l : List PV} (hl : l.length ≤ 60) (k : ∀ x ∈ l, ElR 9 x) (kd : ∀ x ∈ l, Dt 59 x) : Ret pg 5 i_are_gains [.tup l] (.bl (gnsB l)) := by
  intro d hd h Q X z
  obtain ⟨d, rfl⟩ : ∃ e, d = e + 1 := ⟨d - 1, by omega⟩
  refine in_are_gains ?_
  (try exists x_ta, b_are_gains)
  by_cases h6 : l.length = 6
  · rw [if_pos (by omega)]
    (try exists x_ta)
    refine ⟨szl (by omega), ?_⟩
    refine compT_map1' (fun x => PV.bl (gnB x)) trivial l (fun x hx q hq => ?_) ?_
    · refine is_gain_any (k x hx) (by omega) d (by omega) _ _ _ ?_
      (try exists x_ta)
      exact hq
    · rw [f_all (f := gnB)]
      (try exists x_ta)
      unfold gnsB at z
      rw [decide_eq_true h6, Bool.true_and] at z
      cases e : l.all gnB with
      | false =>
        rw [e] at z
        exact z
      | true =>
        rw [e, Bool.true_and] at z
        cases l with
        | nil => cases h6
        | cons x r =>
          rw [List.all_cons, Bool.and_eq_true] at e
          have e1 := e.1
          unfold gnB at e1
          rw [Bool.and_eq_true] at e1
          obtain ⟨q, rfl⟩ := isPt_pt e1.1
          rw [if_neg (by simp), k_ixt0]
          exact ⟨dt_tup (n := 59) (allC trivial (allC trivial all1)), dt_tup (n := 59) (allC trivial (allC trivial all1)), z⟩
  · rw [if_neg (by omega)]
    (try exists x_ta)
    unfold gnsB at z
    rw [decide_eq_false h6] at z
    exact z
theorem are_gains_non {p : PV} (hp : plain p = true) (ht : ∀ l, p ≠ .tup l) : Ret pg 5 i_are_gains [p] (.bl false) := by
  intro d hd h Q X z
  obtain ⟨d, rfl⟩ : ∃ e, d = e + 1 := ⟨d - 1, by omega⟩
  refine in_are_gains ?_
  (try exists x_ta, b_are_gains)
  rw [is_tupA hp]
  cases p with
  | tup l => exact absurd rfl (ht l)
  | _ => exact z
theorem moved_ok {o : Option Rat} {q : Rat} {a b : Nat} (zo : ∀ x, o = some x → Sz a x) (zq : Sz b q) (h9 : a + b ≤ 9000) : Ret pg 4 i_moved [ob o, pt q] (ob (o.map fun x => x - q)) := by
  intro d hd h Q X z
  obtain ⟨d, rfl⟩ : ∃ e, d = e + 1 := ⟨d - 1, by omega⟩
  refine in_moved ?_
  (try exists x_ta, b_moved)
  cases o with
  | none =>
    (try exists x_ta)
    exact z
  | some x =>
    (try exists x_ta, show ob (some x) = pt x from rfl)
    refine minus_ok (zo x rfl) zq h9 d (by omega) _ _ _ ?_
    (try exists x_ta)
    exact z
theorem Post_init_ok {cs : List Ck} {b : Nat} (l6 : cs.length = 6) (hb : b ≤ 8000) (k : ∀ c ∈ cs, (Sz b c.1 ∧ -12 ≤ c.1 ∧ c.1 ≤ 12) ∧ c.2 = []) (h0 : (ckA cs 0).1 = 0) {d : Nat} (hd : 6 ≤ d) {h : Hs} {n : Nat} (hn : n = h.length) {Q : QV} {X : QX}
    (z : ∀ h2, ExtP h h2 → PostH h2 n (n + 1) cs [] 0 [] → Q (.ob 0 n (some (n + 1))) h2) :
    wpC pg d i_Post___init__ [.ob 0 n none, .pv (.tup (cs.map fun c => pt c.1))] (h ++ [some [.obj 0 []]]) (fun v h2 => (∃ j, v = .ob 0 n j) ∧ Q v h2) X := by
  subst hn
  obtain ⟨d, rfl⟩ : ∃ e, d = e + 1 := ⟨d - 1, by omega⟩
  refine in_Post___init__ ?_
  (try exists x_ta, b_Post___init__)
  refine are_gains_ok l6 hb (fun c hc => (k c hc).1) h0 d (by omega) _ _ _ ?_
  (try exists x_ta)
  refine ⟨szl (by rw [List.length_map]; omega), ?_⟩
  refine compT_map1 (fun c : Ck => pt c.1) ckP trivial cs (fun c hc q hq => ?_) ?_
  · (try exists x_ta)
    have e : ckP c = .tup [pt c.1, .tup []] := by
      unfold ckP ck
      rw [(k c hc).2]
      rfl
    rw [e] at hq
    exact hq
  · (try exists x_ta)
    refine ⟨rfl, Nat.zero_le _, rfl, by simp [putN], rfl, by simp [putN], ?_⟩
    have e : ∀ c : Option (List PV), (h ++ [c]).length = h.length + 1 := fun c => by simp
    rw [e, k_fnlT]
    refine ⟨by simp [putN], _, rfl, ?_⟩
    rw [e]
    show if h.length < h.length + 1 then _ else _
    rw [if_pos (Nat.lt_succ_self _), if_neg (Nat.lt_irrefl _)]
    refine ⟨[], by simp, ⟨_, rfl⟩, ?_⟩
    rw [List.take_left' (by simp)]
    refine z _ ⟨by simp, fun n hn => by rw [List.append_assoc, List.getElem?_append_left hn]⟩ ⟨by simp [putN, cksP, tdsP], by simp, by omega⟩
theorem Post_init_bad {p : PV} (hb : Ret pg 5 i_are_gains [p] (.bl false)) {d : Nat} (hd : 7 ≤ d) {h : Hs} {n : Nat} {Q : QV} {X : QX} (z : X ⟨3, []⟩ (h ++ [some [.obj 0 []]])) :
    wpC pg d i_Post___init__ [.ob 0 n none, .pv p] (h ++ [some [.obj 0 []]]) Q X := by
  obtain ⟨d, rfl⟩ : ∃ e, d = e + 1 := ⟨d - 1, by omega⟩
  refine in_Post___init__ ?_
  (try exists x_ta, b_Post___init__)
  refine hb d (by omega) _ _ _ ?_
  (try exists x_ta)
  exact z
theorem taken_back_ok {b c e : Nat} {cs : List Ck} {ds : List Td} {x : RV} (k : OkCs b cs) (kd : ∀ d ∈ ds, OkD c e d) (hl : ds.length ≤ 16) (h8 : 8 * b + 2 * c ≤ 8000) (h9 : 2 * (c + 7 * b + 8) + 1 + e ≤ 9000) {d : Nat} (hd : 7 ≤ d) {h : Hs} {Q : QV} {X : QX} (z : Q (.pv (tls (ds.map (backT cs)))) h) :
    wpC pg d i_Post_taken_back [x, .pv (cksP cs), .pv (tdsP ds)] h Q X := by
  obtain ⟨d, rfl⟩ : ∃ e, d = e + 1 := ⟨d - 1, by omega⟩
  refine in_Post_taken_back ?_
  (try exists x_ta, b_Post_taken_back)
  unfold tdsP
  (try exists x_ta)
  refine loopT_any (fun n ρ h2 => ρ = [some x, some (.pv (cksP cs)), some (.pv (.tup (ds.map encD))), some (.ref h.length), none, none, none, none, none, none, none] ∧ h2 = h ++ [some (((ds.take n).map (backT cs)).map encT)]) (fun _ _ _ _ => trivial) _ ?_ ?_ ⟨rfl, rfl⟩
  · rintro n y ρ h2 k2 hx ⟨rfl, rfl⟩ hk2
    rw [List.getElem?_map, Option.map_eq_some_iff] at hx
    obtain ⟨a, ha, rfl⟩ := hx
    have ka := kd a (List.mem_of_getElem? ha)
    have et : ds.take (n + 1) = ds.take n ++ [a] := by rw [List.take_succ, ha]; rfl
    rw [show encD a = .tup [.int a.n, pt a.m, .int a.t.a, .int a.t.b, ob a.t.lo, ob a.t.hi] from rfl]
    have k1 := (k.at ka.b6).2
    have k2' := (k.at ka.a6).2
    (try exists x_ta)
    rw [ixCk k ka.b6]
    refine drift_by_ok k1 ka.zm h8 d (by omega) _ _ _ ?_
    (try exists x_ta)
    rw [ixCk k ka.a6]
    refine drift_by_ok k2' ka.zm h8 d (by omega) _ _ _ ?_
    (try exists x_ta)
    refine minus_ok (sz_drA k ka.b6 ka.zm) (sz_drA k ka.a6 ka.zm) (by omega) d (by omega) _ _ _ ?_
    (try exists x_ta)
    have zb := sz_by k ka.a6 ka.b6 ka.zm
    refine moved_ok ka.zl zb (by omega) d (by omega) _ _ _ ?_
    (try exists x_ta)
    refine moved_ok ka.zh zb (by omega) d (by omega) _ _ _ ?_
    (try exists x_ta)
    refine ⟨szlt (by rw [List.length_map, List.length_map, List.length_take]; omega), ?_⟩
    refine hk2 _ _ ⟨rfl, ?_⟩
    rw [et, List.map_append, List.map_append]
    rfl
  · rintro ρ h2 ⟨rfl, rfl⟩
    (try exists x_ta, List.length_map, List.take_length)
    exact z
theorem Post_become_ok {h : Hs} {i j n n2 : Nat} {cs cs2 : List Ck} {ds ds2 : List Td} {past : List PV} (L : PostH h i j cs ds n past) (lp : past.length ≤ 1000) {d : Nat} (hd : 1 ≤ d) {Q : QV} {X : QX}
    (z : ∀ h2, SameP i j h h2 → PostH h2 i j cs2 ds2 n2 (past ++ [.tup [cksP cs, tdsP ds, .int n]]) → Q (.pv .non) h2) :
    wpC pg d i_Post_become [.ob 0 i (some j), .pv (cksP cs2), .pv (tdsP ds2), .pv (.int n2)] h Q X := by
  obtain ⟨d, rfl⟩ : ∃ e, d = e + 1 := ⟨d - 1, by omega⟩
  refine in_Post_become ?_
  (try exists x_ta, b_Post_become)
  rw [k_ap1 L.l, k_fldC L.o rfl rfl, k_fldC L.o rfl rfl, k_fldC L.o rfl rfl, k_ap2 L.l]
  refine ⟨szlt (by omega), ?_⟩
  have L0 : (h.set j (some (past ++ [.tup [cksP cs, tdsP ds, .int n]])))[i]? = some (some [.obj 0 [], cksP cs, tdsP ds, .int n, .scr []]) := get_set_ne (Ne.symm L.ne) L.o
  have lt := L.lt
  rw [k_fstL L0]
  refine ⟨rfl, by simp, ?_⟩
  have L1 : ∀ (h : Hs) (c : List PV), i < h.length → (h.set i (some c))[i]? = some (some c) := fun h c l => List.getElem?_set_self l
  rw [k_fstL (L1 _ _ (by rw [List.length_set]; exact lt.1))]
  refine ⟨rfl, by simp [putN], ?_⟩
  rw [k_fstL (L1 _ _ (by rw [List.length_set, List.length_set]; exact lt.1))]
  refine ⟨rfl, by simp [putN], ?_⟩
  rw [List.set_set, List.set_set, List.take_of_length_le (by simp)]
  refine z _ ⟨by simp, fun m h1 h2 => by rw [List.getElem?_set_ne (Ne.symm h1), List.getElem?_set_ne (Ne.symm h2)]⟩ ⟨?_, ?_, L.ne⟩
  · rw [L1 _ _ (by rw [List.length_set]; exact lt.1)]
    simp [putN]
  · rw [List.getElem?_set_ne L.ne]
    exact List.getElem?_set_self lt.2
theorem Post_tells_ok {b c e s : Nat} {h : Hs} {i j n : Nat} {cs : List Ck} {ds : List Td} {past : List PV} {m : Rat} {t : Tel} (k : OkCs b cs) (L : PostH h i j cs ds n past) (lp : past.length ≤ 1000) (kd : ∀ d ∈ ds ++ [(⟨n, m, t⟩ : Td)], OkD c e d) (kt : OkT e t) (hl : ds.length < 10)
    (h8 : 8 * b + 2 * c ≤ 8000) (h9 : 2 * (c + 7 * b + 8) + 1 + e ≤ 9000) (he : 2 * e ≤ 9000) (kb : ∀ u ∈ (ds ++ [(⟨n, m, t⟩ : Td)]).map (backT cs), OkT s u) (hs : s ≤ 30) (hF : FeasT ((ds ++ [(⟨n, m, t⟩ : Td)]).map (backT cs))) {d : Nat} (hd : 9 ≤ d) {Q : QV} {X : QX}
    (z : ∀ h2 e2, SameP i j h h2 → PostH h2 i j cs (ds ++ [(⟨n, m, t⟩ : Td)]) (n + 1) (past ++ [e2]) → Q (.pv (.int n)) h2) :
    wpC pg d i_Post_tells [.ob 0 i (some j), .pv (pt m), .pv (.int t.a), .pv (.int t.b), .pv (ob t.lo), .pv (ob t.hi)] h Q X := by
  have kn := kd _ (List.mem_append_right _ (List.mem_singleton.mpr rfl))
  have len : (ds ++ [(⟨n, m, t⟩ : Td)]).length = ds.length + 1 := by simp
  obtain ⟨d, rfl⟩ : ∃ e, d = e + 1 := ⟨d - 1, by omega⟩
  refine in_Post_tells ?_
  (try exists x_ta, b_Post_tells)
  refine need_moment_ok kn.m0 d (by omega) _ _ _ ?_
  (try exists x_ta)
  refine need_clock_number_ok kn.a6 d (by omega) _ _ _ ?_
  (try exists x_ta)
  refine need_clock_number_ok kn.b6 d (by omega) _ _ _ ?_
  (try exists x_ta)
  rw [if_neg (by have := kt.ne; omega)]
  refine are_bounds_ok kt he d (by omega) _ _ _ ?_
  (try exists x_ta)
  rw [k_fldC L.o rfl rfl]
  unfold tdsP
  (try exists x_ta, List.length_map)
  rw [if_neg (by omega), k_fldC L.o rfl rfl, k_fldC L.o rfl rfl]
  (try exists x_ta)
  have bl : (tdsP ds) = .tup (ds.map encD) := rfl
  rw [bl]
  (try exists x_ta, List.length_map)
  refine ⟨by rw [sizeLine_eq]; simp; omega, L.isK, ?_⟩
  rw [k_fldC L.o rfl rfl]
  have ea : PV.tup (ds.map encD ++ [.tup [.int n, pt m, .int t.a, .int t.b, ob t.lo, ob t.hi]]) = tdsP (ds ++ [(⟨n, m, t⟩ : Td)]) := by
    unfold tdsP
    rw [List.map_append]
    rfl
  rw [ea]
  refine taken_back_ok k kd (by omega) h8 h9 (by omega) ?_
  (try exists x_ta)
  refine together_ok (s := s) kb (by rw [List.length_map]; omega) (by
    rw [List.length_map, len]
    have := Nat.mul_le_mul (show 12 * (ds.length + 1) ≤ 120 by omega) (show s + 1 ≤ 31 by omega)
    omega) d (by omega) _ _ _ ?_
  rw [togB_true hF]
  (try exists x_ta)
  refine ⟨L.isK, ?_⟩
  rw [k_fldC L.o rfl rfl, k_fldC L.o rfl rfl]
  (try exists x_ta)
  have en : ((n : Int) + 1) = ((n + 1 : Nat) : Int) := rfl
  rw [en]
  refine Post_become_ok L lp (by omega) fun h2 S2 L2 => ?_
  (try exists x_ta)
  rw [k_fldC L2.o rfl rfl]
  (try exists x_ta)
  rw [List.take_of_length_le (by rw [S2.n]; exact Nat.le_refl _)]
  have e2 : (((n + 1 : Nat) : Int) - 1) = n := by omega
  rw [e2]
  exact z h2 _ S2 L2
theorem tells_bad_m {x : PV} (k : badM x = true) {h : Hs} {i j : Nat} {a c lo hi : PV} {d : Nat} (hd : 6 ≤ d) {Q : QV} {X : QX} (z : X ⟨2, []⟩ h) :
    wpC pg d i_Post_tells [.ob 0 i (some j), .pv x, .pv a, .pv c, .pv lo, .pv hi] h Q X := by
  unfold badM at k
  rw [Bool.and_eq_true] at k
  obtain ⟨d, rfl⟩ : ∃ e, d = e + 1 := ⟨d - 1, by omega⟩
  refine in_Post_tells ?_
  (try exists x_ta, b_Post_tells)
  refine need_moment_bad (elB_ok k.1) (by simpa using k.2) d (by omega) _ _ _ ?_
  (try exists x_ta)
  exact z
theorem tells_bad_a {x : PV} (k : badN x = true) {h : Hs} {i j : Nat} {c lo hi : PV} {d : Nat} (hd : 6 ≤ d) {Q : QV} {X : QX} (z : X ⟨1, []⟩ h) :
    wpC pg d i_Post_tells [.ob 0 i (some j), .pv (pt 0), .pv x, .pv c, .pv lo, .pv hi] h Q X := by
  unfold badN at k
  simp only [Bool.and_eq_true, Bool.not_eq_true'] at k
  obtain ⟨d, rfl⟩ : ∃ e, d = e + 1 := ⟨d - 1, by omega⟩
  refine in_Post_tells ?_
  (try exists x_ta, b_Post_tells)
  refine need_moment_ok (by decide) d (by omega) _ _ _ ?_
  (try exists x_ta)
  refine need_clock_number_bad k.1.1 k.1.2 d (by omega) _ _ _ ?_
  (try exists x_ta)
  exact z
theorem tells_bad_b {x : PV} (k : badN x = true) {h : Hs} {i j : Nat} {lo hi : PV} {d : Nat} (hd : 6 ≤ d) {Q : QV} {X : QX} (z : X ⟨1, []⟩ h) :
    wpC pg d i_Post_tells [.ob 0 i (some j), .pv (pt 0), .pv (.int 1), .pv x, .pv lo, .pv hi] h Q X := by
  unfold badN at k
  simp only [Bool.and_eq_true, Bool.not_eq_true'] at k
  obtain ⟨d, rfl⟩ : ∃ e, d = e + 1 := ⟨d - 1, by omega⟩
  refine in_Post_tells ?_
  (try exists x_ta, b_Post_tells)
  refine need_moment_ok (by decide) d (by omega) _ _ _ ?_
  (try exists x_ta)
  refine need_clock_number_ok (n := 1) (by decide) d (by omega) _ _ _ ?_
  (try exists x_ta)
  refine need_clock_number_bad k.1.1 k.1.2 d (by omega) _ _ _ ?_
  (try exists x_ta)
  exact z
theorem tells_same {h : Hs} {i j : Nat} {lo hi : PV} {d : Nat} (hd : 6 ≤ d) {Q : QV} {X : QX} (z : X ⟨1, []⟩ h) :
    wpC pg d i_Post_tells [.ob 0 i (some j), .pv (pt 0), .pv (.int 2), .pv (.int 2), .pv lo, .pv hi] h Q X := by
  obtain ⟨d, rfl⟩ : ∃ e, d = e + 1 := ⟨d - 1, by omega⟩
  refine in_Post_tells ?_
  (try exists x_ta, b_Post_tells)
  refine need_moment_ok (by decide) d (by omega) _ _ _ ?_
  (try exists x_ta)
  refine need_clock_number_ok (n := 2) (by decide) d (by omega) _ _ _ ?_
  (try exists x_ta)
  refine need_clock_number_ok (n := 2) (by decide) d (by omega) _ _ _ ?_
  (try exists x_ta)
  exact z
theorem tells_bad_t {lo hi : PV} (k1 : elB 3 lo = true) (k2 : elB 3 hi = true) (hb : bndP lo hi = false) {h : Hs} {i j : Nat} {d : Nat} (hd : 6 ≤ d) {Q : QV} {X : QX} (z : X ⟨5, []⟩ h) :
    wpC pg d i_Post_tells [.ob 0 i (some j), .pv (pt 0), .pv (.int 0), .pv (.int 1), .pv lo, .pv hi] h Q X := by
  obtain ⟨d, rfl⟩ : ∃ e, d = e + 1 := ⟨d - 1, by omega⟩
  refine in_Post_tells ?_
  (try exists x_ta, b_Post_tells)
  refine need_moment_ok (by decide) d (by omega) _ _ _ ?_
  (try exists x_ta)
  refine need_clock_number_ok (n := 0) (by decide) d (by omega) _ _ _ ?_
  (try exists x_ta)
  refine need_clock_number_ok (n := 1) (by decide) d (by omega) _ _ _ ?_
  (try exists x_ta)
  rw [if_neg (by decide)]
  refine bounds_any (elB_ok k1) (elB_ok k2) (by omega) d (by omega) _ _ _ ?_
  rw [hb]
  (try exists x_ta)
  exact z
theorem tells_many {h : Hs} {i j n : Nat} {cs : List Ck} {ds : List Td} {past : List PV} (L : PostH h i j cs ds n past) {e : Nat} {t : Tel} (kt : OkT e t) (he : 2 * e ≤ 9000) (hl : ds.length = 10) {d : Nat} (hd : 6 ≤ d) {Q : QV} {X : QX} (z : X ⟨17, [("many", .int 11), ("most", .int 10)]⟩ h) :
    wpC pg d i_Post_tells [.ob 0 i (some j), .pv (pt 0), .pv (.int t.a), .pv (.int t.b), .pv (ob t.lo), .pv (ob t.hi)] h Q X := by
  obtain ⟨d, rfl⟩ : ∃ e, d = e + 1 := ⟨d - 1, by omega⟩
  refine in_Post_tells ?_
  (try exists x_ta, b_Post_tells)
  refine need_moment_ok (by decide) d (by omega) _ _ _ ?_
  (try exists x_ta)
  refine need_clock_number_ok kt.a6 d (by omega) _ _ _ ?_
  (try exists x_ta)
  refine need_clock_number_ok kt.b6 d (by omega) _ _ _ ?_
  (try exists x_ta)
  rw [if_neg (by have := kt.ne; omega)]
  refine are_bounds_ok kt he d (by omega) _ _ _ ?_
  (try exists x_ta)
  rw [k_fldC L.o rfl rfl]
  unfold tdsP
  (try exists x_ta, List.length_map)
  rw [if_pos (by omega)]
  exact ⟨[11, 10], rfl, rfl, z⟩
theorem tells_apart {b c e s : Nat} {h : Hs} {i j n : Nat} {cs : List Ck} {ds : List Td} {past : List PV} {m : Rat} {t : Tel} (k : OkCs b cs) (L : PostH h i j cs ds n past) (kd : ∀ d ∈ ds ++ [(⟨n, m, t⟩ : Td)], OkD c e d) (kt : OkT e t) (hl : ds.length < 10)
    (h8 : 8 * b + 2 * c ≤ 8000) (h9 : 2 * (c + 7 * b + 8) + 1 + e ≤ 9000) (he : 2 * e ≤ 9000) (kb : ∀ u ∈ (ds ++ [(⟨n, m, t⟩ : Td)]).map (backT cs), OkT s u) (hs : s ≤ 30) (hF : ¬ FeasT ((ds ++ [(⟨n, m, t⟩ : Td)]).map (backT cs))) {d : Nat} (hd : 9 ≤ d) {Q : QV} {X : QX}
    (z : X ⟨8, []⟩ h) :
    wpC pg d i_Post_tells [.ob 0 i (some j), .pv (pt m), .pv (.int t.a), .pv (.int t.b), .pv (ob t.lo), .pv (ob t.hi)] h Q X := by
  have kn := kd _ (List.mem_append_right _ (List.mem_singleton.mpr rfl))
  have len : (ds ++ [(⟨n, m, t⟩ : Td)]).length = ds.length + 1 := by simp
  obtain ⟨d, rfl⟩ : ∃ e, d = e + 1 := ⟨d - 1, by omega⟩
  refine in_Post_tells ?_
  (try exists x_ta, b_Post_tells)
  refine need_moment_ok kn.m0 d (by omega) _ _ _ ?_
  (try exists x_ta)
  refine need_clock_number_ok kn.a6 d (by omega) _ _ _ ?_
  (try exists x_ta)
  refine need_clock_number_ok kn.b6 d (by omega) _ _ _ ?_
  (try exists x_ta)
  rw [if_neg (by have := kt.ne; omega)]
  refine are_bounds_ok kt he d (by omega) _ _ _ ?_
  (try exists x_ta)
  rw [k_fldC L.o rfl rfl]
  unfold tdsP
  (try exists x_ta, List.length_map)
  rw [if_neg (by omega), k_fldC L.o rfl rfl, k_fldC L.o rfl rfl]
  (try exists x_ta)
  have bl : (tdsP ds) = .tup (ds.map encD) := rfl
  rw [bl]
  (try exists x_ta, List.length_map)
  refine ⟨by rw [sizeLine_eq]; simp; omega, L.isK, ?_⟩
  rw [k_fldC L.o rfl rfl]
  have ea : PV.tup (ds.map encD ++ [.tup [.int n, pt m, .int t.a, .int t.b, ob t.lo, ob t.hi]]) = tdsP (ds ++ [(⟨n, m, t⟩ : Td)]) := by
    unfold tdsP
    rw [List.map_append]
    rfl
  rw [ea]
  refine taken_back_ok k kd (by omega) h8 h9 (by omega) ?_
  (try exists x_ta)
  refine together_ok (s := s) kb (by rw [List.length_map]; omega) (by
    rw [List.length_map, len]
    have := Nat.mul_le_mul (show 12 * (ds.length + 1) ≤ 120 by omega) (show s + 1 ≤ 31 by omega)
    omega) d (by omega) _ _ _ ?_
  rw [togB_false hF]
  (try exists x_ta)
  exact z
theorem Post_sets_ok {b c e s : Nat} {h : Hs} {i j n x : Nat} {cs : List Ck} {ds : List Td} {past : List PV} {m q : Rat} (k : OkCs b cs) (L : PostH h i j cs ds n past) (lp : past.length ≤ 1000) (x1 : 1 ≤ x) (x6 : x < 6) (m0 : 0 ≤ m) (zm : Sz b m) (q0 : q ≠ 0)
    (hm : ∀ y ∈ (ckA cs x).2, y.1 ≠ m) (l6 : (ckA cs x).2.length < 6) (kd : ∀ d ∈ ds, OkD c e d) (hl : ds.length ≤ 10) (k2 : OkCs b (setC cs x m q))
    (h8 : 8 * b + 2 * c ≤ 8000) (h9 : 2 * (c + 7 * b + 8) + 1 + e ≤ 9000) (kb : ∀ u ∈ ds.map (backT (setC cs x m q)), OkT s u) (hs : s ≤ 30) (hF : FeasT (ds.map (backT (setC cs x m q)))) {d : Nat} (hd : 9 ≤ d) {Q : QV} {X : QX}
    (z : ∀ h2 e2, SameP i j h h2 → PostH h2 i j (setC cs x m q) ds n (past ++ [e2]) → Q (.pv .non) h2) :
    wpC pg d i_Post_sets [.ob 0 i (some j), .pv (.int x), .pv (pt m), .pv (pt q)] h Q X := by
  have kx := (k.at x6).2
  obtain ⟨d, rfl⟩ : ∃ e, d = e + 1 := ⟨d - 1, by omega⟩
  refine in_Post_sets ?_
  (try exists x_ta, b_Post_sets)
  refine need_other_clock_ok x1 x6 d (by omega) _ _ _ ?_
  (try exists x_ta)
  refine need_moment_ok m0 d (by omega) _ _ _ ?_
  (try exists x_ta)
  refine is_part_ok _ d (by omega) _ _ _ ?_
  (try exists x_ta)
  rw [if_neg q0]
  (try exists x_ta)
  rw [k_fldC L.o rfl rfl]
  (try exists x_ta)
  rw [ixCk k x6]
  rw [show ckP (ckA cs x) = .tup [pt (ckA cs x).1, .tup ((ckA cs x).2.map encS)] from rfl]
  generalize hS : (ckA cs x).2 = S at hm l6
  (try exists x_ta)
  refine ⟨szl (by rw [List.length_map]; omega), ?_⟩
  refine compT_map1 encS (fun y => pt y.1) trivial S (fun y hy p hp => ?_) ?_
  · (try exists x_ta, encS)
    exact hp
  · (try exists x_ta)
    have di : Dt 60 (pt m) := dt_tup (n := 59) (allC trivial (allC trivial all1))
    have dl : Dt 60 (.lst (S.map fun y => pt y.1)) := dt_lst (n := 59) fun y hy => by
      obtain ⟨a, _, rfl⟩ := List.mem_map.mp hy
      exact dt_tup (n := 58) (allC trivial (allC trivial all1))
    refine ⟨di, dl, ?_⟩
    rw [inS_no hm]
    (try exists x_ta, List.length_map)
    rw [if_neg (by omega)]
    refine ⟨szl (by omega), ?_⟩
    have zS : ∀ y ∈ S, Sz b y.1 := fun y hy => (kx.z y (by rw [hS]; exact hy)).1
    refine compT_filt encS (fun _ => PV.int 1) (fun y => decide (y.1 < m)) trivial S (fun y hy p hp => ?_) ?_
    · (try exists x_ta, encS)
      refine below_ok (zS y hy) zm (by omega) d (by omega) _ _ _ ?_
      (try exists x_ta)
      by_cases lt : y.1 < m
      · rw [if_pos lt]
        rw [decide_eq_true lt] at hp
        exact hp
      · rw [if_neg lt]
        rw [decide_eq_false lt] at hp
        exact hp
    · (try exists x_ta, List.length_map)
      have la : (S.filter fun y => decide (y.1 < m)).length ≤ S.length := List.length_filter_le _ _
      have ec : PV.tup [pt (ckA cs x).1, .tup ((S.map encS).take (S.filter fun y => decide (y.1 < m)).length ++ [PV.tup [pt m, pt q]] ++ (S.map encS).drop (S.filter fun y => decide (y.1 < m)).length)] = ckP ((ckA cs x).1, insS S m q) := by
        unfold ckP ck insS atS
        rw [List.map_append, List.map_append, List.map_take, List.map_drop]
        rfl
      generalize (S.filter fun y => decide (y.1 < m)).length = a at la ec
      rw [cut_tk, cut_drop (by omega) (by rw [List.length_map]; omega), Int.toNat_natCast, ec]
      refine ⟨by rw [sizeLine_eq, List.length_take, List.length_map]; omega, by rw [sizeLine_eq, List.length_append, List.length_take, List.length_drop, List.length_map, List.length_singleton]; omega, ?_⟩
      rw [k_fldC L.o rfl rfl]
      have lc := k.l
      have er : PV.tup ((cs.map ckP).take x ++ [ckP ((ckA cs x).1, insS S m q)] ++ (cs.map ckP).drop (x + 1)) = cksP (setC cs x m q) := by
        unfold cksP setC
        rw [hS, List.map_append, List.map_append, List.map_take, List.map_drop]
        rfl
      have ek : cksP cs = .tup (cs.map ckP) := rfl
      rw [ek]
      (try exists x_ta)
      rw [cut_tk]
      refine ⟨by rw [sizeLine_eq, List.length_take, List.length_map]; simp; omega, ?_⟩
      rw [k_fldC L.o rfl rfl, ek]
      (try exists x_ta)
      rw [cut_drop (by omega) (by rw [List.length_map]; omega), show ((x : Int) + 1).toNat = x + 1 by omega, er]
      refine ⟨by rw [sizeLine_eq, List.length_append, List.length_take, List.length_drop, List.length_map, List.length_singleton]; omega, L.isK, ?_⟩
      rw [k_fldC L.o rfl rfl]
      refine taken_back_ok k2 kd (by omega) h8 h9 (by omega) ?_
      (try exists x_ta)
      refine together_ok (s := s) kb (by rw [List.length_map]; omega) (by
        rw [List.length_map]
        have := Nat.mul_le_mul (show 12 * ds.length ≤ 120 by omega) (show s + 1 ≤ 31 by omega)
        omega) d (by omega) _ _ _ ?_
      rw [togB_true hF]
      (try exists x_ta)
      refine ⟨L.isK, ?_⟩
      rw [k_fldC L.o rfl rfl, k_fldC L.o rfl rfl]
      refine Post_become_ok L lp (by omega) fun h2 S2 L2 => ?_
      (try exists x_ta)
      rw [List.take_of_length_le (by rw [S2.n]; exact Nat.le_refl _)]
      exact z h2 _ S2 L2
theorem sets_bad_c {x y q : PV} (k : badN x = true) {h : Hs} {i j : Nat} {d : Nat} (hd : 6 ≤ d) {Q : QV} {X : QX} (z : X ⟨1, []⟩ h) :
    wpC pg d i_Post_sets [.ob 0 i (some j), .pv x, .pv y, .pv q] h Q X := by
  unfold badN at k
  simp only [Bool.and_eq_true, Bool.not_eq_true'] at k
  obtain ⟨d, rfl⟩ : ∃ e, d = e + 1 := ⟨d - 1, by omega⟩
  refine in_Post_sets ?_
  (try exists x_ta, b_Post_sets)
  refine need_other_clock_bad k.1.1 k.2 d (by omega) _ _ _ ?_
  (try exists x_ta)
  exact z
theorem sets_bad_0 {y q : PV} {h : Hs} {i j : Nat} {d : Nat} (hd : 6 ≤ d) {Q : QV} {X : QX} (z : X ⟨1, []⟩ h) :
    wpC pg d i_Post_sets [.ob 0 i (some j), .pv (.int 0), .pv y, .pv q] h Q X := by
  obtain ⟨d, rfl⟩ : ∃ e, d = e + 1 := ⟨d - 1, by omega⟩
  refine in_Post_sets ?_
  (try exists x_ta, b_Post_sets)
  refine need_other_clock_bad rfl rfl d (by omega) _ _ _ ?_
  (try exists x_ta)
  exact z
theorem sets_bad_m {x q : PV} (k : badM x = true) {h : Hs} {i j : Nat} {d : Nat} (hd : 6 ≤ d) {Q : QV} {X : QX} (z : X ⟨2, []⟩ h) :
    wpC pg d i_Post_sets [.ob 0 i (some j), .pv (.int 1), .pv x, .pv q] h Q X := by
  unfold badM at k
  rw [Bool.and_eq_true] at k
  obtain ⟨d, rfl⟩ : ∃ e, d = e + 1 := ⟨d - 1, by omega⟩
  refine in_Post_sets ?_
  (try exists x_ta, b_Post_sets)
  refine need_other_clock_ok (n := 1) (by decide) (by decide) d (by omega) _ _ _ ?_
  (try exists x_ta)
  refine need_moment_bad (elB_ok k.1) (by simpa using k.2) d (by omega) _ _ _ ?_
  (try exists x_ta)
  exact z
theorem sets_bad_p {x : PV} (k : badP x = true) {h : Hs} {i j : Nat} {d : Nat} (hd : 6 ≤ d) {Q : QV} {X : QX} (z : X ⟨0, []⟩ h) :
    wpC pg d i_Post_sets [.ob 0 i (some j), .pv (.int 1), .pv (pt 0), .pv x] h Q X := by
  unfold badP at k
  rw [Bool.and_eq_true] at k
  obtain ⟨k1, k2⟩ := k
  obtain ⟨d, rfl⟩ : ∃ e, d = e + 1 := ⟨d - 1, by omega⟩
  refine in_Post_sets ?_
  (try exists x_ta, b_Post_sets)
  refine need_other_clock_ok (n := 1) (by decide) (by decide) d (by omega) _ _ _ ?_
  (try exists x_ta)
  refine need_moment_ok (by decide) d (by omega) _ _ _ ?_
  (try exists x_ta)
  refine is_part_any k1 d (by omega) _ _ _ ?_
  (try exists x_ta)
  cases e : isPt x with
  | false =>
    (try exists x_ta)
    exact z
  | true =>
    rw [e] at k2
    obtain ⟨q, rfl⟩ := isPt_pt e
    have q0 : q = 0 := by
      by_cases q0 : q = 0
      · exact q0
      · rw [pt_inj, decide_eq_false q0] at k2
        cases k2
    subst q0
    (try exists x_ta)
    exact z
theorem inS_yes {m : Rat} : ∀ {S : List (Rat × Rat)}, (∃ y ∈ S, y.1 = m) → inL (pt m) (S.map fun y => pt y.1) = true
  | [], h => by obtain ⟨y, hy, _⟩ := h; cases hy
  | y :: S, h => by
    rw [List.map_cons, inL]
    obtain ⟨w, hw, e⟩ := h
    rcases List.mem_cons.mp hw with rfl | hw
    · rw [pt_inj, decide_eq_true e]
      rfl
    · rw [inS_yes ⟨w, hw, e⟩, Bool.or_true]
theorem sets_head {b : Nat} {h : Hs} {i j n x : Nat} {cs : List Ck} {ds : List Td} {past : List PV} {m q : Rat} (k : OkCs b cs) (L : PostH h i j cs ds n past) (x1 : 1 ≤ x) (x6 : x < 6) (m0 : 0 ≤ m) (q0 : q ≠ 0) {d : Nat} (hd : 9 ≤ d) {Q : QV} {X : QX} (c9 : (∃ y ∈ (ckA cs x).2, y.1 = m) → X ⟨9, []⟩ h)
    (c17 : (∀ y ∈ (ckA cs x).2, y.1 ≠ m) → X ⟨17, [("many", .int 7), ("most", .int 6)]⟩ h) (l6 : (ckA cs x).2.length = 6 ∨ ∃ y ∈ (ckA cs x).2, y.1 = m) :
    wpC pg d i_Post_sets [.ob 0 i (some j), .pv (.int x), .pv (pt m), .pv (pt q)] h Q X := by
  have kx := (k.at x6).2
  obtain ⟨d, rfl⟩ : ∃ e, d = e + 1 := ⟨d - 1, by omega⟩
  refine in_Post_sets ?_
  (try exists x_ta, b_Post_sets)
  refine need_other_clock_ok x1 x6 d (by omega) _ _ _ ?_
  (try exists x_ta)
  refine need_moment_ok m0 d (by omega) _ _ _ ?_
  (try exists x_ta)
  refine is_part_ok _ d (by omega) _ _ _ ?_
  (try exists x_ta)
  rw [if_neg q0]
  (try exists x_ta)
  rw [k_fldC L.o rfl rfl]
  (try exists x_ta)
  rw [ixCk k x6]
  rw [show ckP (ckA cs x) = .tup [pt (ckA cs x).1, .tup ((ckA cs x).2.map encS)] from rfl]
  have l7 := kx.l
  generalize hS : (ckA cs x).2 = S at c9 c17 l6 l7
  (try exists x_ta)
  refine ⟨szl (by rw [List.length_map]; omega), ?_⟩
  refine compT_map1 encS (fun y => pt y.1) trivial S (fun y hy p hp => ?_) ?_
  · (try exists x_ta, encS)
    exact hp
  · (try exists x_ta)
    have di : Dt 60 (pt m) := dt_tup (n := 59) (allC trivial (allC trivial all1))
    have dl : Dt 60 (.lst (S.map fun y => pt y.1)) := dt_lst (n := 59) fun y hy => by
      obtain ⟨a, _, rfl⟩ := List.mem_map.mp hy
      exact dt_tup (n := 58) (allC trivial (allC trivial all1))
    refine ⟨di, dl, ?_⟩
    by_cases he : ∃ y ∈ S, y.1 = m
    · rw [inS_yes he]
      (try exists x_ta)
      exact c9 he
    · have hne : ∀ y ∈ S, y.1 ≠ m := fun y hy e => he ⟨y, hy, e⟩
      rw [inS_no hne]
      (try exists x_ta, List.length_map)
      rw [if_pos (by rcases l6 with l6 | l6 <;> first | omega | exact absurd l6 he)]
      exact ⟨[7, 6], rfl, rfl, c17 hne⟩
theorem calls_false_bad {x : PV} (k : badW x = true) {h : Hs} {i j : Nat} {d : Nat} (hd : 3 ≤ d) {Q : QV} {X : QX} (z : X ⟨10, []⟩ h) :
    wpC pg d i_Post_calls_false [.ob 0 i (some j), .pv x] h Q X := by
  unfold badW at k
  rw [Bool.and_eq_true] at k
  obtain ⟨d, rfl⟩ : ∃ e, d = e + 1 := ⟨d - 1, by omega⟩
  refine in_Post_calls_false ?_
  (try exists x_ta, b_Post_calls_false)
  refine is_whole_any k.1 d (by omega) _ _ _ ?_
  rw [show whole x = false by simpa using k.2]
  (try exists x_ta)
  exact z
theorem inD_int {m : Nat} : ∀ {ds : List Td}, inL (.int m) (ds.map fun d => PV.int d.n) = decide (∃ d ∈ ds, d.n = m)
  | [] => by simp [inL]
  | d :: ds => by
    rw [List.map_cons, inL, inD_int (ds := ds)]
    simp only [peq]
    by_cases h : d.n = m
    · subst h
      simp
    · have h2 : ((d.n : Int) == (m : Int)) = false := by simp; omega
      rw [h2]
      simp [h]
theorem calls_false_none {h : Hs} {i j n : Nat} {cs : List Ck} {ds : List Td} {past : List PV} (L : PostH h i j cs ds n past) (hl : ds.length ≤ 16) {m : Nat} (hm : ∀ d ∈ ds, d.n ≠ m) {d : Nat} (hd : 3 ≤ d) {Q : QV} {X : QX} (z : X ⟨10, []⟩ h) :
    wpC pg d i_Post_calls_false [.ob 0 i (some j), .pv (.int m)] h Q X := by
  obtain ⟨d, rfl⟩ : ∃ e, d = e + 1 := ⟨d - 1, by omega⟩
  refine in_Post_calls_false ?_
  (try exists x_ta, b_Post_calls_false)
  refine is_whole_ok _ d (by omega) _ _ _ ?_
  (try exists x_ta)
  rw [k_fldC L.o rfl rfl, show tdsP ds = .tup (ds.map encD) from rfl]
  (try exists x_ta)
  refine ⟨szl (by rw [List.length_map]; omega), ?_⟩
  refine compT_map1 encD (fun d => PV.int d.n) trivial ds (fun y hy p hp => ?_) ?_
  · (try exists x_ta, encD)
    exact hp
  · (try exists x_ta)
    have dl : Dt 60 (.lst (ds.map fun d => PV.int d.n)) := dt_lst (n := 59) fun y hy => by
      obtain ⟨a, _, rfl⟩ := List.mem_map.mp hy
      trivial
    refine ⟨trivial, dl, ?_⟩
    rw [inD_int, decide_eq_false (by rintro ⟨y, hy, e⟩; exact hm y hy e)]
    (try exists x_ta)
    exact z
theorem calls_false_ok {h : Hs} {i j n : Nat} {cs : List Ck} {ds : List Td} {past : List PV} (L : PostH h i j cs ds n past) (lp : past.length ≤ 1000) (hl : ds.length ≤ 16) {m : Nat} (hm : ∃ d ∈ ds, d.n = m) {d : Nat} (hd : 3 ≤ d) {Q : QV} {X : QX}
    (z : ∀ h2 e2, SameP i j h h2 → PostH h2 i j cs (ds.filter fun d => decide (d.n ≠ m)) n (past ++ [e2]) → Q (.pv .non) h2) :
    wpC pg d i_Post_calls_false [.ob 0 i (some j), .pv (.int m)] h Q X := by
  obtain ⟨d, rfl⟩ : ∃ e, d = e + 1 := ⟨d - 1, by omega⟩
  refine in_Post_calls_false ?_
  (try exists x_ta, b_Post_calls_false)
  refine is_whole_ok _ d (by omega) _ _ _ ?_
  (try exists x_ta)
  rw [k_fldC L.o rfl rfl, show tdsP ds = .tup (ds.map encD) from rfl]
  (try exists x_ta)
  refine ⟨szl (by rw [List.length_map]; omega), ?_⟩
  refine compT_map1 encD (fun d => PV.int d.n) trivial ds (fun y hy p hp => ?_) ?_
  · (try exists x_ta, encD)
    exact hp
  · (try exists x_ta)
    have dl : Dt 60 (.lst (ds.map fun d => PV.int d.n)) := dt_lst (n := 59) fun y hy => by
      obtain ⟨a, _, rfl⟩ := List.mem_map.mp hy
      trivial
    refine ⟨trivial, dl, ?_⟩
    rw [inD_int, decide_eq_true hm]
    (try exists x_ta)
    rw [k_fldC L.o rfl rfl, show tdsP ds = .tup (ds.map encD) from rfl]
    (try exists x_ta)
    refine ⟨szl (by rw [List.length_map]; omega), ?_⟩
    refine compT_filt encD encD (fun d => decide (d.n ≠ m)) trivial ds (fun y hy p hp => ?_) ?_
    · (try exists x_ta, encD)
      by_cases e : y.n = m
      · rw [if_pos (by omega)]
        simpa [e] using hp
      · rw [if_neg (by omega)]
        simp [e] at hp
        exact hp
    · (try exists x_ta)
      refine ⟨L.isK, ?_⟩
      rw [k_fldC L.o rfl rfl, k_fldC L.o rfl rfl]
      refine Post_become_ok (ds2 := ds.filter fun d => decide (d.n ≠ m)) (cs2 := cs) (n2 := n) L lp (by omega) fun h2 S2 L2 => ?_
      (try exists x_ta)
      rw [List.take_of_length_le (by rw [S2.n]; exact Nat.le_refl _)]
      exact z h2 _ S2 L2
theorem calls_false_neg {h : Hs} {i j n : Nat} {cs : List Ck} {past : List PV} (L : PostH h i j cs [] n past) {d : Nat} (hd : 3 ≤ d) {Q : QV} {X : QX} (z : X ⟨10, []⟩ h) :
    wpC pg d i_Post_calls_false [.ob 0 i (some j), .pv (.int (-1))] h Q X := by
  obtain ⟨d, rfl⟩ : ∃ e, d = e + 1 := ⟨d - 1, by omega⟩
  refine in_Post_calls_false ?_
  (try exists x_ta, b_Post_calls_false)
  refine is_whole_ok _ d (by omega) _ _ _ ?_
  (try exists x_ta)
  rw [k_fldC L.o rfl rfl, show tdsP [] = .tup (([] : List Td).map encD) from rfl]
  (try exists x_ta)
  refine ⟨Nat.zero_le _, ?_⟩
  refine compT_map1 encD (fun d => PV.int d.n) trivial [] (fun y hy p hp => by cases hy) ?_
  (try exists x_ta, List.map_nil)
  refine ⟨trivial, dt_lst (n := 59) (by simp), ?_⟩
  simp only [inL]
  (try exists x_ta)
  exact z
theorem back_none {h : Hs} {i j n : Nat} {cs : List Ck} {ds : List Td} (L : PostH h i j cs ds n []) {d : Nat} (hd : 1 ≤ d) {Q : QV} {X : QX} (z : X ⟨11, []⟩ h) :
    wpC pg d i_Post_back [.ob 0 i (some j)] h Q X := by
  obtain ⟨d, rfl⟩ : ∃ e, d = e + 1 := ⟨d - 1, by omega⟩
  refine in_Post_back ?_
  (try exists x_ta, b_Post_back)
  refine ⟨.lst [], .lst [], by simp [val, L.l], rfl, ?_⟩
  refine ⟨dt_lst (n := 59) (by simp), dt_lst (n := 59) (by simp), ?_⟩
  simpa [peq, peqL] using z
theorem stretch_at_bad_n {x y : PV} (k : badN x = true) {h : Hs} {i j : Nat} {d : Nat} (hd : 6 ≤ d) {Q : QV} {X : QX} (z : X ⟨1, []⟩ h) :
    wpC pg d i_Post_stretch_at [.ob 0 i (some j), .pv x, .pv y] h Q X := by
  unfold badN at k
  simp only [Bool.and_eq_true, Bool.not_eq_true'] at k
  obtain ⟨d, rfl⟩ : ∃ e, d = e + 1 := ⟨d - 1, by omega⟩
  refine in_Post_stretch_at ?_
  (try exists x_ta, b_Post_stretch_at)
  refine need_clock_number_bad k.1.1 k.1.2 d (by omega) _ _ _ ?_
  (try exists x_ta)
  exact z
theorem stretch_at_bad_m {x : PV} (k : badM x = true) (hn : isNon x = false) {h : Hs} {i j : Nat} {d : Nat} (hd : 6 ≤ d) {Q : QV} {X : QX} (z : X ⟨2, []⟩ h) :
    wpC pg d i_Post_stretch_at [.ob 0 i (some j), .pv (.int 0), .pv x] h Q X := by
  unfold badM at k
  rw [Bool.and_eq_true] at k
  obtain ⟨d, rfl⟩ : ∃ e, d = e + 1 := ⟨d - 1, by omega⟩
  refine in_Post_stretch_at ?_
  (try exists x_ta, b_Post_stretch_at)
  refine need_clock_number_ok (n := 0) (by decide) d (by omega) _ _ _ ?_
  (try exists x_ta, hn)
  refine need_moment_bad (elB_ok k.1) (by simpa using k.2) d (by omega) _ _ _ ?_
  (try exists x_ta)
  exact z
theorem Post_stretch_then_ok {b c e s : Nat} {h : Hs} {i j n x : Nat} {cs : List Ck} {ds : List Td} {past : List PV} {m : Rat} (k : OkCs b cs) (L : PostH h i j cs ds n past) (kd : ∀ d ∈ ds, OkD c e d) (hl : ds.length ≤ 10) (hx : x < 6) (zm : Sz c m)
    (h8 : 8 * b + 2 * c ≤ 8000) (h9 : 2 * (c + 7 * b + 8) + 1 + e ≤ 9000) (kb : ∀ t ∈ ds.map (backT cs), OkT s t) (hs : s ≤ 30) (hF : FeasT (ds.map (backT cs))) {d : Nat} (hd : 9 ≤ d) {Q : QV} {X : QX}
    (z : Q (.pv (.tup [encO ((farV (ds.map (backT cs)) x 0).map fun y => -y + drA cs x m), encO ((farV (ds.map (backT cs)) 0 x).map fun y => y + drA cs x m)])) h) :
    wpC pg d i_Post_stretch_then [.ob 0 i (some j), .pv (.int x), .pv (pt m)] h Q X := by
  obtain ⟨d, rfl⟩ : ∃ e, d = e + 1 := ⟨d - 1, by omega⟩
  refine in_Post_stretch_then ?_
  (try exists x_ta, b_Post_stretch_then)
  refine ⟨L.isK, ?_⟩
  rw [k_fldC L.o rfl rfl, k_fldC L.o rfl rfl]
  refine taken_back_ok k kd (by omega) h8 h9 (by omega) ?_
  (try exists x_ta)
  have l2 : (ds.map (backT cs)).length ≤ 16 := by rw [List.length_map]; omega
  refine stretch_by_ok (b := 0) kb l2 (by
    rw [List.length_map]
    have := Nat.mul_le_mul (show 12 * ds.length ≤ 120 by omega) (show s + 1 ≤ 31 by omega)
    omega) hx (by omega) d (by omega) _ _ _ ?_
  (try exists x_ta)
  rw [k_fldC L.o rfl rfl]
  (try exists x_ta)
  rw [ixCk k hx]
  have kc := (k.at hx).2
  refine drift_by_ok kc zm h8 d (by omega) _ _ _ ?_
  have zd := sz_drA k hx zm
  (try exists x_ta)
  cases e1 : farV (ds.map (backT cs)) x 0 with
  | none =>
    rw [e1] at z
    (try exists x_ta, Option.map, encO)
    cases e2 : farV (ds.map (backT cs)) 0 x with
    | none =>
      rw [e2] at z
      (try exists x_ta, Option.map, encO)
      exact z
    | some y =>
      rw [e2] at z
      (try exists x_ta, Option.map, encO)
      refine plus_ok (far_sz kb hF e2) zd (by omega) d (by omega) _ _ _ ?_
      (try exists x_ta)
      exact z
  | some w =>
    rw [e1] at z
    (try exists x_ta, Option.map, encO)
    refine plus_ok (far_sz kb hF e1).neg zd (by omega) d (by omega) _ _ _ ?_
    (try exists x_ta)
    cases e2 : farV (ds.map (backT cs)) 0 x with
    | none =>
      rw [e2] at z
      (try exists x_ta, Option.map, encO)
      exact z
    | some y =>
      rw [e2] at z
      (try exists x_ta, Option.map, encO)
      refine plus_ok (far_sz kb hF e2) zd (by omega) d (by omega) _ _ _ ?_
      (try exists x_ta)
      exact z
theorem stretch_at_non {b c e s : Nat} {h : Hs} {i j n x : Nat} {cs : List Ck} {ds : List Td} {past : List PV} (k : OkCs b cs) (L : PostH h i j cs ds n past) (kd : ∀ d ∈ ds, OkD c e d) (hl : ds.length ≤ 10) (hx : x < 6)
    (h8 : 8 * b + 2 * c ≤ 8000) (h9 : 2 * (c + 7 * b + 8) + 1 + e ≤ 9000) (zc : Sz c (0 : Rat)) (kb : ∀ t ∈ ds.map (backT cs), OkT s t) (hs : s ≤ 30) (hF : FeasT (ds.map (backT cs))) {d : Nat} (hd : 10 ≤ d) {Q : QV} {X : QX}
    (z : Q (.pv (.tup [encO ((farV (ds.map (backT cs)) x 0).map fun y => -y + drA cs x 0), encO ((farV (ds.map (backT cs)) 0 x).map fun y => y + drA cs x 0)])) h) :
    wpC pg d i_Post_stretch_at [.ob 0 i (some j), .pv (.int x), .pv .non] h Q X := by
  obtain ⟨d, rfl⟩ : ∃ e, d = e + 1 := ⟨d - 1, by omega⟩
  refine in_Post_stretch_at ?_
  (try exists x_ta, b_Post_stretch_at)
  refine need_clock_number_ok hx d (by omega) _ _ _ ?_
  (try exists x_ta)
  refine ⟨L.isK, ?_⟩
  refine Post_stretch_then_ok k L kd hl hx zc h8 h9 kb hs hF (by omega) ?_
  (try exists x_ta)
  exact z
theorem standing_none {b : Nat} {h : Hs} {i j n : Nat} {cs : List Ck} {past : List PV} (k : OkCs b cs) (hb : b ≤ 100) (L : PostH h i j cs [] n past) {d : Nat} (hd : 9 ≤ d) {Q : QV} {X : QX} (z : Q (.pv (.lst [])) h) :
    wpC pg d i_Post_standing [.ob 0 i (some j)] h Q X := by
  obtain ⟨d, rfl⟩ : ∃ e, d = e + 1 := ⟨d - 1, by omega⟩
  refine in_Post_standing ?_
  (try exists x_ta, b_Post_standing)
  rw [k_fldC L.o rfl rfl]
  (try exists x_ta, tdsP)
  refine ⟨Nat.zero_le _, ?_⟩
  refine compT_map1 encD (fun d => PV.int d.n) trivial [] (fun y hy => by cases hy) ?_
  (try exists x_ta, List.map_nil)
  refine ⟨L.isK, ?_⟩
  rw [k_fldC L.o rfl rfl, k_fldC L.o rfl rfl]
  refine taken_back_ok (c := 1) (e := 1) (ds := []) k (by simp) (by simp) (by omega) (by omega) (by omega) ?_
  (try exists x_ta, tls, List.map_nil)
  exact z
theorem clock_now_bad {x : PV} (k : badN x = true) {h : Hs} {i j : Nat} {d : Nat} (hd : 6 ≤ d) {Q : QV} {X : QX} (z : X ⟨1, []⟩ h) :
    wpC pg d i_Post_clock_now [.ob 0 i (some j), .pv x] h Q X := by
  unfold badN at k
  simp only [Bool.and_eq_true, Bool.not_eq_true'] at k
  obtain ⟨d, rfl⟩ : ∃ e, d = e + 1 := ⟨d - 1, by omega⟩
  refine in_Post_clock_now ?_
  (try exists x_ta, b_Post_clock_now)
  refine need_clock_number_bad k.1.1 k.1.2 d (by omega) _ _ _ ?_
  (try exists x_ta)
  exact z
theorem clock_now_ok {b : Nat} {h : Hs} {i j n x : Nat} {cs : List Ck} {ds : List Td} {past : List PV} (k : OkCs b cs) (L : PostH h i j cs ds n past) (hx : x < 6) {d : Nat} (hd : 6 ≤ d) {Q : QV} {X : QX} (z : Q (.pv (ckP (ckA cs x))) h) :
    wpC pg d i_Post_clock_now [.ob 0 i (some j), .pv (.int x)] h Q X := by
  obtain ⟨d, rfl⟩ : ∃ e, d = e + 1 := ⟨d - 1, by omega⟩
  refine in_Post_clock_now ?_
  (try exists x_ta, b_Post_clock_now)
  refine need_clock_number_ok hx d (by omega) _ _ _ ?_
  (try exists x_ta)
  rw [k_fldC L.o rfl rfl]
  (try exists x_ta)
  rw [ixCk k hx]
  (try exists x_ta)
  exact z
theorem error_by_bad_n {x y q : PV} (k : badN x = true) {h : Hs} {i j : Nat} {d : Nat} (hd : 6 ≤ d) {Q : QV} {X : QX} (z : X ⟨1, []⟩ h) :
    wpC pg d i_Post_error_by [.ob 0 i (some j), .pv x, .pv y, .pv q] h Q X := by
  unfold badN at k
  simp only [Bool.and_eq_true, Bool.not_eq_true'] at k
  obtain ⟨d, rfl⟩ : ∃ e, d = e + 1 := ⟨d - 1, by omega⟩
  refine in_Post_error_by ?_
  (try exists x_ta, b_Post_error_by)
  refine need_clock_number_bad k.1.1 k.1.2 d (by omega) _ _ _ ?_
  (try exists x_ta)
  exact z
theorem error_by_bad_m {x q : PV} (k : badM x = true) {h : Hs} {i j : Nat} {d : Nat} (hd : 6 ≤ d) {Q : QV} {X : QX} (z : X ⟨2, []⟩ h) :
    wpC pg d i_Post_error_by [.ob 0 i (some j), .pv (.int 0), .pv x, .pv q] h Q X := by
  unfold badM at k
  rw [Bool.and_eq_true] at k
  obtain ⟨d, rfl⟩ : ∃ e, d = e + 1 := ⟨d - 1, by omega⟩
  refine in_Post_error_by ?_
  (try exists x_ta, b_Post_error_by)
  refine need_clock_number_ok (n := 0) (by decide) d (by omega) _ _ _ ?_
  (try exists x_ta)
  refine need_moment_bad (elB_ok k.1) (by simpa using k.2) d (by omega) _ _ _ ?_
  (try exists x_ta)
  exact z
theorem error_by_bad_h {x : PV} (k : badH x = true) {h : Hs} {i j : Nat} {d : Nat} (hd : 6 ≤ d) {Q : QV} {X : QX} (z : X ⟨4, []⟩ h) :
    wpC pg d i_Post_error_by [.ob 0 i (some j), .pv (.int 1), .pv (pt 0), .pv x] h Q X := by
  unfold badH at k
  rw [Bool.and_eq_true] at k
  obtain ⟨d, rfl⟩ : ∃ e, d = e + 1 := ⟨d - 1, by omega⟩
  refine in_Post_error_by ?_
  (try exists x_ta, b_Post_error_by)
  refine need_clock_number_ok (n := 1) (by decide) d (by omega) _ _ _ ?_
  (try exists x_ta)
  refine need_moment_ok (by decide) d (by omega) _ _ _ ?_
  (try exists x_ta)
  refine is_part_any k.1 d (by omega) _ _ _ ?_
  rw [show isPt x = false by simpa using k.2]
  (try exists x_ta)
  exact z
theorem Post_len_ok {h : Hs} {i j n : Nat} {cs : List Ck} {ds : List Td} {past : List PV} (L : PostH h i j cs ds n past) {d : Nat} (hd : 1 ≤ d) {Q : QV} {X : QX} (z : Q (.pv (.int ds.length)) h) :
    wpC pg d i_Post___len__ [.ob 0 i (some j)] h Q X := by
  obtain ⟨d, rfl⟩ : ∃ e, d = e + 1 := ⟨d - 1, by omega⟩
  refine in_Post___len__ ?_
  (try exists x_ta, b_Post___len__)
  rw [k_fldC L.o rfl rfl]
  unfold tdsP
  (try exists x_ta, List.length_map)
  exact z
theorem cell_at_ok {l : List PV} {k : Int} (hk : 0 ≤ k) (hi : ∀ x ∈ l, ∃ i, x = PV.int i) : ∀ d, 1 ≤ d → ∀ (h : Hs) (Q : QV) (X : QX), (∀ i, Q (.pv (.int i)) h) → wpC pg d i__law_cell_at [.pv (.scr l), .pv (.int k)] h Q X := by
  intro d hd h Q X z
  obtain ⟨d, rfl⟩ : ∃ e, d = e + 1 := ⟨d - 1, by omega⟩
  refine in__law_cell_at ?_
  (try exists x_ta, b__law_cell_at)
  split
  · rename_i hl
    obtain ⟨n, rfl⟩ := Int.eq_ofNat_of_zero_le hk
    have h2 : n < l.length := by omega
    rw [k_ixs]
    refine ⟨l[n], ?_, ?_⟩
    · unfold atI L2.atI L2.ixN
      rw [if_pos hk, if_pos (by omega)]
      simp [h2]
    · obtain ⟨i, e⟩ := hi _ (List.getElem_mem h2)
      rw [e]
      exact z i
  · exact z 0
theorem next_ok (s : Int) : ∃ r : Int, 0 ≤ r ∧ r < 2147483629 ∧ Ret pg 1 i__law_next [.int s] (.int r) := by
  have h1 : 0 ≤ (s + 7919) % 2147483647 := Int.emod_nonneg _ (by decide)
  have h2 : (s + 7919) % 2147483647 < 2147483647 := Int.emod_lt_of_pos _ (by decide)
  generalize hs : (s + 7919) % 2147483647 = t at h1 h2
  have n1 : t.natAbs < 2 ^ 31 := by
    have : (2 : Nat) ^ 31 = 2147483648 := by decide
    omega
  refine ⟨(t * t + 48271 * t + 12345) % 2147483629, Int.emod_nonneg _ (by decide), Int.emod_lt_of_pos _ (by decide), ?_⟩
  intro d hd h Q X z
  obtain ⟨d, rfl⟩ : ∃ e, d = e + 1 := ⟨d - 1, by omega⟩
  refine in__law_next ?_
  (try exists x_ta, b__law_next)
  rw [hs]
  (try exists x_ta)
  refine ⟨by decide, mulW n1 n1 (by decide), mulW (a := 16) (b := 31) (by decide) n1 (by decide), by decide, z⟩
theorem pen_of_ok (c : Int) : ∀ d, 1 ≤ d → ∀ (h : Hs) (Q : QV) (X : QX), (∀ p : Pen, Q (.ref h.length) (h ++ [some (penL p)])) → wpC pg d i__law_pen_of [.pv (.int c)] h Q X := by
  intro d hd h Q X z
  obtain ⟨d, rfl⟩ : ∃ e, d = e + 1 := ⟨d - 1, by omega⟩
  refine in__law_pen_of ?_
  (try exists x_ta, b__law_pen_of)
  refine ⟨⟨by decide, by decide, by decide⟩, by decide, ?_⟩
  rw [fin_new]
  have h1 := Int.emod_nonneg (if 0 - c > c then 0 - c else c) (show (1000003 : Int) ≠ 0 by decide)
  have h2 := Int.emod_lt_of_pos (if 0 - c > c then 0 - c else c) (show (0 : Int) < 1000003 by decide)
  have h0 : 0 ≤ (if 0 - c > c then 0 - c else c) := by split <;> omega
  exact z ⟨_, _, _, h0, h1, by omega⟩
theorem draw_ok {i : Nat} {n : Int} {b : Nat} (h0 : 0 < n) (h1 : n.natAbs < 2 ^ b) (hb : b ≤ 9000) : Dr pg 2 i__law_draw [.ref i, .pv (.int n)] i PV.int (fun v => 0 ≤ v ∧ v < n) := by
  intro d hd h P Q X z
  have hi := P.lt
  obtain ⟨p, e⟩ := P
  obtain ⟨d, rfl⟩ : ∃ e, d = e + 1 := ⟨d - 1, by omega⟩
  refine in__law_draw ?_
  unfold penL at e
  have hc : ∀ x, L2.CDivW x n := fun x => divW h0 h1 hb
  have low : ∀ (X : QX) , kIx (RV.ref i) (RV.pv (PV.int 2)) h fun r =>
        wpC pg d i__law_next [RV.pv r] h
          (fun x h1 =>
            kBin Operator.Add x (RV.pv (PV.int 7)) h1 fun r =>
              wpC pg d i__law_next [RV.pv r] h1
                (fun y h1 =>
                  kSub (RV.ref i) (RV.pv (PV.int 2)) y h1 fun h4 =>
                    kIx (RV.ref i) (RV.pv (PV.int 2)) h4 fun r =>
                      wpBin Operator.FloorDiv r (PV.int 64) fun r =>
                        wpBin Operator.Mod r (PV.int n) fun r => Q (RV.pv r) (List.take (List.length h) h4)) X) X := by
    intro X
    rw [pn_ix2 e]
    obtain ⟨r1, a1, a2, a3⟩ := next_ok p.c
    refine a3 d (by omega) _ _ _ ?_
    (try exists x_ta)
    obtain ⟨r2, b1, b2, b3⟩ := next_ok (r1 + 7)
    refine b3 d (by omega) _ _ _ ?_
    rw [pn_sub2 e, pn_ix2 (List.getElem?_set_self hi)]
    (try exists x_ta)
    refine ⟨⟨by decide, by decide⟩, h0, ?_⟩
    exact z _ ⟨p.a, p.b, r2, p.ha, b1, by omega⟩ ⟨Int.emod_nonneg _ (by omega), Int.emod_lt_of_pos _ h0⟩
  (try exists x_ta, b__law_draw)
  rw [pn_ix1 e]
  (try exists x_ta)
  split
  · rw [pn_ix0 e]
    (try exists x_ta)
    split
    · rename_i hp
      rw [pn_ix0 e]
      (try exists x_ta)
      refine ⟨h0, ?_⟩
      rw [pn_ix0 e]
      (try exists x_ta)
      refine ⟨hc _, ?_⟩
      rw [pn_sub0 e]
      (try exists x_ta)
      exact z _ ⟨p.a / n, p.b, p.c, Int.ediv_nonneg p.ha (by omega), p.hc, p.hc2⟩ ⟨Int.emod_nonneg _ (by omega), Int.emod_lt_of_pos _ h0⟩
    · exact low _
  · exact low _
theorem draw_n {i : Nat} {n : Int} (h0 : 0 < n) (h1 : n < 2 ^ 64) : Dr pg 2 i__law_draw [.ref i, .pv (.int n)] i PV.int (fun v => 0 ≤ v ∧ v < n) := draw_ok (b := 64) h0 (natAbs_lt (by omega) h1) (by decide)
theorem law_made_ok (n m : Int) {b : Nat} (hm : 0 < m) (hb : m.natAbs < 2 ^ b) (h9 : b ≤ 9000) : Ret pg 1 i__law_made [.int n, .int m] (pt (Rat.divInt n m)) := by
  intro d hd h Q X z
  obtain ⟨d, rfl⟩ : ∃ e, d = e + 1 := ⟨d - 1, by omega⟩
  refine in__law_made ?_
  (try exists x_ta, b__law_made)
  refine ⟨fun k ρ h' => ∃ x y : Int, ρ = [some (.pv (.int n)), some (.pv (.int m)), some (.pv (.int x)), some (.pv (.int y))] ∧ h' = h ∧ 0 ≤ x ∧ 0 ≤ y ∧ Int.gcd x y = Int.gcd n m ∧ k = y.toNat, ⟨_, _, _, rfl, rfl, ?_, by omega, ?_, rfl⟩, ?_⟩
  · split <;> omega
  · split
    · rw [Int.neg_gcd]
    · rfl
  · rintro k ρ h' ⟨x, y, rfl, rfl, hx, hy, hg, rfl⟩
    (try exists x_ta)
    split
    · rename_i hy0
      have h1 := Int.emod_lt_of_pos x hy0
      have h2 := Int.emod_nonneg x (show y ≠ 0 by omega)
      exact ⟨hy0, (x % y).toNat, by omega, y, x % y, rfl, hy, h2, by rw [Int.gcd_comm, gcd_step _ _ hy hx, Int.gcd_comm, hg], rfl⟩
    · obtain rfl : y = 0 := by omega
      rw [Int.gcd_zero] at hg
      have e : x = (Int.gcd n m : Int) := by omega
      rw [e]
      have hc : ∀ x, L2.CDivW x ((Int.gcd n m : Int)) := fun x => divW (gcd_pos hm) (gcd_lt hm hb) h9
      refine ⟨hc _, hc _, ?_⟩
      rw [low_pos hm]
      exact z
theorem law_sum_ok {p q : Rat} {a b : Nat} (sp : Sz a p) (sq : Sz b q) (h9 : a + b ≤ 9000) : Ret pg 2 i__law_sum [pt p, pt q] (pt (p + q)) := by
  intro d hd h Q X z
  obtain ⟨d, rfl⟩ : ∃ e, d = e + 1 := ⟨d - 1, by omega⟩
  refine in__law_sum ?_
  (try exists x_ta, b__law_sum)
  refine ⟨sp.nd sq (by omega), sq.nd sp (by omega), sp.dd sq (by omega), ?_⟩
  refine law_made_ok _ _ (b := a + b) (Int.mul_pos (den_pos' p) (den_pos' q)) ?_ h9 d (by omega) _ _ _ ?_
  · rw [Int.natAbs_mul, den_nat, den_nat, Nat.pow_add]
    exact Nat.mul_lt_mul'' sp.2 sq.2
  · (try exists x_ta, add_made)
    exact z
theorem law_gains_ok {i : Nat} : Dr pg 4 i__law_gains [.ref i] i (fun cs : List Ck => .tup (cs.map fun c => pt c.1)) (fun cs => CsN 0 cs ∧ (∀ c ∈ cs, c.2 = []) ∧ (ckA cs 0).1 = 0) := by
  intro d hd h P Q X z
  have hi := P.lt
  obtain ⟨d, rfl⟩ : ∃ e, d = e + 1 := ⟨d - 1, by omega⟩
  refine in__law_gains ?_
  (try exists x_ta, b__law_gains)
  obtain ⟨p0, e0⟩ := P.eq
  refine ⟨by decide, by decide, ?_⟩
  refine loopT_any (fun n ρ h' => ∃ (qs : List Rat) (pn : Pen), ρ = [some (.ref i), some (.ref h.length), none, none] ∧ h' = h.set i (some (penL pn)) ++ [some (qs.map pt)] ∧ qs.length = n ∧ ∀ q ∈ qs, Sz 5 q ∧ -12 ≤ q ∧ q ≤ 12) (fun _ _ _ _ => trivial) _ ?_ ?_ ?_
  · rintro n x ρ h' k hx ⟨qs, pn, rfl, rfl, hc, hq⟩ hk
    obtain ⟨rfl, hn⟩ := rng_get hx
    (try exists x_ta)
    refine draw_n (n := 25) (by decide) (by decide) d (by omega) _ (by first | assumption | exact PenH.set (by assumption) _ | exact PenH.setapp (by assumption) _ | exact PenH.new | exact PenH.app (by assumption) _) _ _ ?_
    rintro a p1 ⟨a1, a2⟩
    (try exists x_ta, set_appS hi, set_app hi)
    refine draw_n (n := 6) (by decide) (by decide) d (by omega) _ (by first | assumption | exact PenH.set (by assumption) _ | exact PenH.setapp (by assumption) _ | exact PenH.new | exact PenH.app (by assumption) _) _ _ ?_
    rintro b p2 ⟨b1, b2⟩
    (try exists x_ta, set_appS hi, set_app hi)
    refine law_made_ok _ _ (b := 5) (by omega) (by omega) (by omega) d (by omega) _ _ _ ?_
    (try exists x_ta)
    refine draw_n (n := 2) (by decide) (by decide) d (by omega) _ (by first | assumption | exact PenH.set (by assumption) _ | exact PenH.setapp (by assumption) _ | exact PenH.new | exact PenH.app (by assumption) _) _ _ ?_
    rintro c p3 ⟨c1, c2⟩
    (try exists x_ta, set_appS hi, set_app hi)
    refine pickQ (fun q => Sz 5 q ∧ -12 ≤ q ∧ q ≤ 12) c1 c2 (allC ⟨0, rfl, ⟨by decide, by decide⟩, by decide, by decide⟩ (allC ⟨_, rfl, sz_divInt (by omega) (by omega) (by omega), le_divInt (M := -12) (by omega) (by omega), divInt_le (M := 12) (by omega) (by omega)⟩ all1)) ?_
    rintro q zq
    refine ⟨szlt (by rw [List.length_map]; omega), hk _ _ ⟨qs ++ [q], p3, rfl, by simp, by simp [hc], ?_⟩⟩
    intro y hy
    rcases List.mem_append.mp hy with hy | hy
    · exact hq y hy
    · rw [List.mem_singleton] at hy; subst hy; exact zq
  · rintro ρ h' ⟨qs, pn, rfl, rfl, hc, hq⟩
    rw [rngL_len] at hc
    have hc : qs.length = 5 := hc
    (try exists x_ta)
    have e : PV.tup (pt 0 :: qs.map pt) = .tup (((0, []) :: qs.map fun q => (q, [])).map fun c : Ck => pt c.1) := by
      rw [List.map_cons, List.map_map]
      rfl
    have zz := z ((0, []) :: qs.map fun q => (q, [])) pn ⟨⟨by simp [hc], ?_, ?_, ?_⟩, ?_, rfl⟩
    · refine ⟨szl (by rw [List.length_map]; omega), ?_⟩
      rw [e]
      exact zz
    · intro c hc
      rcases List.mem_cons.mp hc with rfl | hc
      · exact ⟨sz0.up (by omega), by decide, by decide⟩
      · obtain ⟨q, hq', rfl⟩ := List.mem_map.mp hc
        exact hq q hq'
    · intro c hc
      rcases List.mem_cons.mp hc with rfl | hc
      · exact .nil
      · obtain ⟨q, hq', rfl⟩ := List.mem_map.mp hc
        exact .nil
    · intro c hc y hy
      rcases List.mem_cons.mp hc with rfl | hc
      · cases hy
      · obtain ⟨q, hq', rfl⟩ := List.mem_map.mp hc
        cases hy
    · intro c hc
      rcases List.mem_cons.mp hc with rfl | hc
      · rfl
      · obtain ⟨q, hq', rfl⟩ := List.mem_map.mp hc
        rfl
  · exact ⟨[], p0, rfl, by rw [← e0]; rfl, rfl, by simp⟩
theorem law_moments_ok {b : Nat} {h : Hs} {i j n : Nat} {cs : List Ck} {past : List PV} (k : OkCs b cs) (hb : b ≤ 100) (L : PostH h i j cs [] n past) {d : Nat} (hd : 14 ≤ d) {Q : QV} {X : QX} (z : Q (.pv (.bl true)) h) :
    wpC pg d i__law_moments_right [.ob 0 i (some j)] h Q X := by
  obtain ⟨d, rfl⟩ : ∃ e, d = e + 1 := ⟨d - 1, by omega⟩
  refine in__law_moments_right ?_
  (try exists x_ta, b__law_moments_right)
  refine ⟨by unfold L2.CPow; decide, ?_⟩
  refine loopT_any (fun _ ρ h2 => ρ = [some (.ob 0 i (some j)), none, none] ∧ GrH h h2) (fun _ _ _ _ => trivial) _ ?_ ?_ ⟨rfl, .rf⟩
  · rintro m x ρ h2 k2 hx ⟨rfl, G⟩ hk
    have hb : badM x = true := by
      have := List.mem_of_getElem? hx
      simp only [List.mem_cons, List.not_mem_nil, or_false] at this
      rcases this with rfl | rfl | rfl | rfl | rfl | rfl | rfl | rfl | rfl | rfl | rfl | rfl | rfl <;> decide +kernel
    have L2 := G.post L
    (try exists x_ta)
    refine ⟨L2.isK, ?_⟩
    refine tells_bad_m hb (by omega) ?_
    refine ⟨_, rfl, rfl, ?_⟩
    (try exists x_ta)
    refine ⟨L2.app.isK, ?_⟩
    refine sets_bad_m hb (by omega) ?_
    refine ⟨_, rfl, rfl, ?_⟩
    (try exists x_ta)
    refine ⟨szlt (by simp), L2.app.isK, ?_⟩
    refine error_by_bad_m hb (by omega) ?_
    refine ⟨_, rfl, rfl, ?_⟩
    (try exists x_ta)
    refine ⟨szlt (by simp), ⟨by decide, by decide, szl (by decide)⟩, ?_⟩
    have dw : Dt 59 (PV.tup [PV.str (Str.ofString "moment")]) := dt_w (by decide +kernel)
    rw [show (List.replicate (Int.toNat 3) [PV.tup [PV.str (Str.ofString "moment")]]).flatten = [PV.tup [PV.str (Str.ofString "moment")], PV.tup [PV.str (Str.ofString "moment")], PV.tup [PV.str (Str.ofString "moment")]] from rfl]
    refine ne_rep (dt_lst (n := 59) (allC dw (allC dw (allC dw all1)))) ?_
    (try exists x_ta)
    cases hn : isNon x with
    | true =>
      (try exists x_ta)
      exact hk _ _ ⟨rfl, G.app⟩
    | false =>
      (try exists x_ta)
      refine ⟨L2.app.isK, ?_⟩
      refine stretch_at_bad_m hb hn (by omega) ?_
      refine ⟨_, rfl, rfl, ?_⟩
      (try exists x_ta)
      refine ne_pv (dt_tup (n := 59) (allC (dt_str (by decide +kernel)) all1)) ?_
      (try exists x_ta)
      exact hk _ _ ⟨rfl, G.app⟩
  · rintro ρ h2 ⟨rfl, G⟩
    have L2 := G.post L
    (try exists x_ta)
    refine ⟨L2.isK, ?_⟩
    refine stretch_at_non (c := 5) (e := 1) (s := 1) (x := 1) k L2 (by simp) (by simp) (by omega) (by omega) (by omega) ⟨by decide, by decide⟩ (by simp) (by omega) (kept_feas (r := []) (by simp)) (by omega) ?_
    (try exists x_ta)
    refine ⟨L2.isK, ?_⟩
    refine stretch_at_non (c := 5) (e := 1) (s := 1) (x := 1) k L2 (by simp) (by simp) (by omega) (by omega) (by omega) ⟨by decide, by decide⟩ (by simp) (by omega) (kept_feas (r := []) (by simp)) (by omega) ?_
    (try exists x_ta)
    refine eq_pv (dt_tup (n := 59) (allC (dt_encO _) (allC (dt_encO _) all1))) ?_
    (try exists x_ta)
    rw [G.take]
    exact z
theorem law_numbers_ok {h : Hs} {i j n : Nat} {cs : List Ck} {past : List PV} (L : PostH h i j cs [] n past) {d : Nat} (hd : 14 ≤ d) {Q : QV} {X : QX} (z : Q (.pv (.bl true)) h) :
    wpC pg d i__law_numbers_right [.ob 0 i (some j)] h Q X := by
  obtain ⟨d, rfl⟩ : ∃ e, d = e + 1 := ⟨d - 1, by omega⟩
  have dw : Dt 59 (PV.tup [PV.str (Str.ofString "number")]) := dt_w (by decide +kernel)
  refine in__law_numbers_right ?_
  (try exists x_ta, b__law_numbers_right)
  refine ⟨by unfold L2.CPow; decide, ?_⟩
  refine loopT_any (fun _ ρ h2 => ρ = [some (.ob 0 i (some j)), none, none] ∧ GrH h h2) (fun _ _ _ _ => trivial) _ ?_ ?_ ⟨rfl, .rf⟩
  · rintro m x ρ h2 k2 hx ⟨rfl, G⟩ hk
    have hb : badN x = true := by
      have := List.mem_of_getElem? hx
      simp only [List.mem_cons, List.not_mem_nil, or_false] at this
      rcases this with rfl | rfl | rfl | rfl | rfl | rfl | rfl <;> decide +kernel
    have L2 := G.post L
    (try exists x_ta)
    refine ⟨L2.isK, ?_⟩
    refine tells_bad_a hb (by omega) ?_
    refine ⟨_, rfl, rfl, ?_⟩
    (try exists x_ta)
    refine ⟨L2.app.isK, ?_⟩
    refine tells_bad_b hb (by omega) ?_
    refine ⟨_, rfl, rfl, ?_⟩
    (try exists x_ta)
    refine ⟨szlt (by simp), L2.app.isK, ?_⟩
    refine sets_bad_c hb (by omega) ?_
    refine ⟨_, rfl, rfl, ?_⟩
    (try exists x_ta)
    refine ⟨szlt (by simp), L2.app.isK, ?_⟩
    refine stretch_at_bad_n hb (by omega) ?_
    refine ⟨_, rfl, rfl, ?_⟩
    (try exists x_ta)
    refine ⟨szlt (by simp), L2.app.isK, ?_⟩
    refine clock_now_bad hb (by omega) ?_
    refine ⟨_, rfl, rfl, ?_⟩
    (try exists x_ta)
    refine ⟨szlt (by simp), L2.app.isK, ?_⟩
    refine error_by_bad_n hb (by omega) ?_
    refine ⟨_, rfl, rfl, ?_⟩
    (try exists x_ta)
    refine ⟨szlt (by simp), ⟨by decide, by decide, szl (by decide)⟩, ?_⟩
    rw [show (List.replicate (Int.toNat 6) [PV.tup [PV.str (Str.ofString "number")]]).flatten = [PV.tup [PV.str (Str.ofString "number")], PV.tup [PV.str (Str.ofString "number")], PV.tup [PV.str (Str.ofString "number")], PV.tup [PV.str (Str.ofString "number")], PV.tup [PV.str (Str.ofString "number")], PV.tup [PV.str (Str.ofString "number")]] from rfl]
    refine ne_rep (dt_lst (n := 59) (allC dw (allC dw (allC dw (allC dw (allC dw (allC dw all1))))))) ?_
    (try exists x_ta)
    exact hk _ _ ⟨rfl, G.app⟩
  · rintro ρ h2 ⟨rfl, G⟩
    have L2 := G.post L
    (try exists x_ta)
    refine ⟨L2.isK, ?_⟩
    refine tells_same (by omega) ?_
    refine ⟨_, rfl, rfl, ?_⟩
    (try exists x_ta)
    refine ⟨L2.app.isK, ?_⟩
    refine sets_bad_0 (by omega) ?_
    refine ⟨_, rfl, rfl, ?_⟩
    (try exists x_ta)
    refine ⟨szlt (by simp), ⟨by decide, by decide, szl (by decide)⟩, ?_⟩
    rw [show (List.replicate (Int.toNat 2) [PV.tup [PV.str (Str.ofString "number")]]).flatten = [PV.tup [PV.str (Str.ofString "number")], PV.tup [PV.str (Str.ofString "number")]] from rfl]
    refine eq_rep (dt_lst (n := 59) (allC dw (allC dw all1))) ?_
    (try exists x_ta)
    rw [G.app.take]
    exact z
theorem law_rest_ok {h : Hs} {i j n : Nat} {cs : List Ck} (L : PostH h i j cs [] n []) {d : Nat} (hd : 14 ≤ d) {Q : QV} {X : QX} (z : Q (.pv (.bl true)) h) :
    wpC pg d i__law_rest_right [.ob 0 i (some j)] h Q X := by
  obtain ⟨d, rfl⟩ : ∃ e, d = e + 1 := ⟨d - 1, by omega⟩
  refine in__law_rest_right ?_
  (try exists x_ta, b__law_rest_right)
  refine ⟨szl (by simp), ?_⟩
  refine loopT_any (fun _ ρ h2 => (∃ l, ρ = [some (.ob 0 i (some j)), some (.pv l), none, none, none]) ∧ h2 = h) (fun _ _ _ _ => trivial) _ ?_ ?_ ⟨⟨_, rfl⟩, rfl⟩
  · rintro m x ρ h2 k2 hx ⟨⟨l, rfl⟩, rfl⟩ hk
    obtain ⟨lo, hi, rfl, k1, k2', k3⟩ : ∃ lo hi, x = .tup [lo, hi] ∧ elB 3 lo = true ∧ elB 3 hi = true ∧ bndP lo hi = false := by
      have := List.mem_of_getElem? hx
      simp only [List.mem_cons, List.mem_append, List.not_mem_nil, or_false] at this
      rcases this with rfl | rfl | rfl | rfl | rfl | rfl | rfl <;> exact ⟨_, _, rfl, by decide +kernel, by decide +kernel, by decide +kernel⟩
    (try exists x_ta)
    refine ⟨L.isK, ?_⟩
    refine tells_bad_t k1 k2' k3 (by omega) ?_
    refine ⟨_, rfl, rfl, ?_⟩
    (try exists x_ta)
    refine ne_pv (dt_tup (n := 59) (allC (dt_str (by decide +kernel)) all1)) ?_
    (try exists x_ta)
    exact hk _ _ ⟨⟨_, rfl⟩, rfl⟩
  · rintro ρ h2 ⟨⟨l, rfl⟩, rfl⟩
    (try exists x_ta)
    refine ⟨L.isK, ?_⟩
    refine tells_bad_t (lo := .non) (hi := .non) rfl rfl rfl (by omega) ?_
    refine ⟨_, rfl, rfl, ?_⟩
    (try exists x_ta)
    refine ne_pv (dt_tup (n := 59) (allC (dt_str (by decide +kernel)) all1)) ?_
    (try exists x_ta)
    refine loopT_any (fun _ ρ h3 => ρ = [some (.ob 0 i (some j)), some (.pv l), none, none, none] ∧ h3 = h2) (fun _ _ _ _ => trivial) _ ?_ ?_ ⟨rfl, rfl⟩
    · rintro m x ρ h3 k3 hx ⟨rfl, rfl⟩ hk
      have hb : badP x = true := by
        have := List.mem_of_getElem? hx
        simp only [List.mem_cons, List.not_mem_nil, or_false] at this
        rcases this with rfl | rfl | rfl | rfl | rfl | rfl | rfl <;> decide +kernel
      (try exists x_ta)
      refine ⟨L.isK, ?_⟩
      refine sets_bad_p hb (by omega) ?_
      refine ⟨_, rfl, rfl, ?_⟩
      (try exists x_ta)
      refine ne_pv (dt_tup (n := 59) (allC (dt_str (by decide +kernel)) all1)) ?_
      (try exists x_ta)
      exact hk _ _ ⟨rfl, rfl⟩
    · rintro ρ h3 ⟨rfl, rfl⟩
      (try exists x_ta)
      refine loopT_any (fun _ ρ h4 => ρ = [some (.ob 0 i (some j)), some (.pv l), none, none, none] ∧ h4 = h3) (fun _ _ _ _ => trivial) _ ?_ ?_ ⟨rfl, rfl⟩
      · rintro m x ρ h4 k4 hx ⟨rfl, rfl⟩ hk
        have hb : badH x = true := by
          have := List.mem_of_getElem? hx
          simp only [List.mem_cons, List.not_mem_nil, or_false] at this
          rcases this with rfl | rfl | rfl | rfl | rfl <;> decide +kernel
        (try exists x_ta)
        refine ⟨L.isK, ?_⟩
        refine error_by_bad_h hb (by omega) ?_
        refine ⟨_, rfl, rfl, ?_⟩
        (try exists x_ta)
        refine ne_pv (dt_tup (n := 59) (allC (dt_str (by decide +kernel)) all1)) ?_
        (try exists x_ta)
        exact hk _ _ ⟨rfl, rfl⟩
      · rintro ρ h4 ⟨rfl, rfl⟩
        (try exists x_ta)
        refine loopT_any (fun _ ρ h5 => ρ = [some (.ob 0 i (some j)), some (.pv l), none, none, none] ∧ h5 = h4) (fun _ _ _ _ => trivial) _ ?_ ?_ ⟨rfl, rfl⟩
        · rintro m x ρ h5 k5 hx ⟨rfl, rfl⟩ hk
          have hb : x = .int 0 ∨ x = .int (-1) ∨ badW x = true := by
            have := List.mem_of_getElem? hx
            simp only [List.mem_cons, List.not_mem_nil, or_false] at this
            rcases this with rfl | rfl | rfl | rfl | rfl | rfl | rfl
            · exact .inl rfl
            · exact .inr (.inl rfl)
            all_goals exact .inr (.inr (by decide +kernel))
          (try exists x_ta)
          refine ⟨L.isK, ?_⟩
          have fin : ∀ {K : Prop}, (∃ w, pg.exc[10]? = some w ∧ okF ⟨10, []⟩ = true ∧ K) → K := fun ⟨_, _, _, z⟩ => z
          rcases hb with rfl | rfl | hb
          · refine calls_false_none (m := 0) L (by simp) (by simp) (by omega) ?_
            refine ⟨_, rfl, rfl, ?_⟩
            (try exists x_ta)
            refine ne_pv (dt_tup (n := 59) (allC (dt_str (by decide +kernel)) all1)) ?_
            (try exists x_ta)
            exact hk _ _ ⟨rfl, rfl⟩
          · refine calls_false_neg L (by omega) ?_
            refine ⟨_, rfl, rfl, ?_⟩
            (try exists x_ta)
            refine ne_pv (dt_tup (n := 59) (allC (dt_str (by decide +kernel)) all1)) ?_
            (try exists x_ta)
            exact hk _ _ ⟨rfl, rfl⟩
          · refine calls_false_bad hb (by omega) ?_
            refine ⟨_, rfl, rfl, ?_⟩
            (try exists x_ta)
            refine ne_pv (dt_tup (n := 59) (allC (dt_str (by decide +kernel)) all1)) ?_
            (try exists x_ta)
            exact hk _ _ ⟨rfl, rfl⟩
        · rintro ρ h5 ⟨rfl, rfl⟩
          (try exists x_ta)
          refine ⟨L.isK, ?_⟩
          refine back_none L (by omega) ?_
          refine ⟨_, rfl, rfl, ?_⟩
          (try exists x_ta)
          refine eq_pv (dt_tup (n := 59) (allC (dt_str (by decide +kernel)) all1)) ?_
          (try exists x_ta)
          exact z
structure PHq (m i j : Nat) (cs : List Ck) (ds : List Td) (nn : Nat) (past : List PV) (h : Hs) : Prop where
  n1 : m ≠ i
  n2 : m ≠ j
  P : PenH m h
  L : PostH h i j cs ds nn past
theorem PHq.draw {m i j nn : Nat} {cs : List Ck} {ds : List Td} {past : List PV} {h : Hs} (S : PHq m i j cs ds nn past h) (p : Pen) : PHq m i j cs ds nn past (h.set m (some (penL p))) := ⟨S.n1, S.n2, S.P.set p, S.L.off S.n1 S.n2⟩
theorem PHq.post {m i j nn n2 : Nat} {cs c2 : List Ck} {ds d2 : List Td} {past p2 : List PV} {h h2 : Hs} (S : PHq m i j cs ds nn past h) (E : SameP i j h h2) (L : PostH h2 i j c2 d2 n2 p2) : PHq m i j c2 d2 n2 p2 h2 := ⟨S.n1, S.n2, by obtain ⟨p, e⟩ := S.P; exact ⟨p, by rw [E.e m S.n1 S.n2]; exact e⟩, L⟩
theorem law_full_ok {m i j : Nat} {cs0 : List Ck} {h : Hs} (k : CsN 0 cs0) (k0 : ∀ c ∈ cs0, c.2 = []) (kz : (ckA cs0 0).1 = 0) (S : PHq m i j cs0 [] 0 [] h) {d : Nat} (hd : 14 ≤ d) {Q : QV} {X : QX} (z : ∀ h', Q (.pv (.bl true)) h') :
    wpC pg d i__law_full_right [.ref m, .ob 0 i (some j)] h Q X := by
  obtain ⟨d, rfl⟩ : ∃ e, d = e + 1 := ⟨d - 1, by omega⟩
  refine in__law_full_right ?_
  (try exists x_ta, b__law_full_right)
  refine draw_n (n := 30) (by decide) (by decide) _ (by omega) _ S.P _ _ ?_
  rintro a p1 ⟨a1, a2⟩
  have S := S.draw p1
  generalize h.set m (some (penL p1)) = h2 at S
  obtain ⟨u, hu, u1, u2⟩ : ∃ u : Nat, 1 + a = (u : Int) ∧ 1 ≤ u ∧ u ≤ 30 := ⟨(1 + a).toNat, by omega, by omega, by omega⟩
  (try exists x_ta)
  rw [hu, ← pt_nat]
  refine ⟨by decide, by decide, ?_⟩
  have zu : Sz 6 (u : Rat) := sz_nat (by omega) (by omega)
  refine loopT_any (fun n ρ h3 => ρ = [some (.ref m), some (.ob 0 i (some j)), some (.pv (pt (u : Rat))), none, none, none] ∧ ∃ past, past.length ≤ n ∧ PHq m i j (csn cs0 u n) [] 0 past h3) (fun _ _ _ _ => trivial) _ ?_ ?_ ⟨rfl, [], Nat.le_refl _, by rw [csn_0 k.l k0]; exact S⟩
  · rintro n x ρ h3 k3 hx ⟨rfl, past, lp, S⟩ hk
    obtain ⟨rfl, hn⟩ := rng_get hx
    have hn : n < 6 := by simpa using hn
    rw [Int.zero_add]
    (try exists x_ta)
    refine ⟨S.L.isK, ?_⟩
    rw [← pt_nat]
    have zn : Sz 6 (n : Rat) := sz_nat (by omega) (by omega)
    refine law_sum_ok zu zn (by omega) d (by omega) _ _ _ ?_
    (try exists x_ta)
    refine law_made_ok _ _ (b := 5) (by omega) (by omega) (by omega) d (by omega) _ _ _ ?_
    have es : (u : Rat) + (n : Rat) = ((u + n : Nat) : Rat) := by push_cast; rfl
    rw [es]
    have ec := csn_set (cs := cs0) (u := u) (n := n) k.l
    have at2 := csn_at (cs := cs0) (u := u) (n := n) k.l
    (try exists x_ta)
    refine Post_sets_ok (b := 6) (c := 5) (e := 0) (s := 19) (x := 2) (csn_ok k u2 (by omega)) S.L (by omega) (by decide) (by decide) (by exact_mod_cast Nat.zero_le _) (sz_nat (by omega) (by omega)) (Rat.ne_of_gt (divInt_pos (by omega) (by omega))) (fun y hy => by rw [at2] at hy; exact Rat.ne_of_lt (ss_lt y hy)) (by rw [at2]; exact (show (ss u n).length < 6 by unfold ss; rw [List.length_map, List.length_range]; exact hn)) (by simp) (by simp) (by rw [ec]; exact csn_ok k u2 (by omega)) (by omega) (by omega) (by simp) (by omega) (kept_feas (r := []) (by simp)) (by omega) ?_
    intro h5 e5 E5 L5
    rw [ec] at L5
    have S := S.post E5 L5
    (try exists x_ta)
    exact hk _ _ ⟨rfl, _, by simp; omega, S⟩
  · rintro ρ h3 ⟨rfl, past, lp, S⟩
    have lp : past.length ≤ 6 := by simpa [rngL] using lp
    have S : PHq m i j (csn cs0 u 6) [] 0 past h3 := S
    have at2 := csn_at (cs := cs0) (u := u) (n := 6) k.l
    have kc := csn_ok (u := u) (n := 6) k u2 (by omega)
    have e5 : PV.tup [PV.int 5, PV.int 1] = pt 5 := rfl
    have e9 : PV.tup [PV.int 9000, PV.int 1] = pt 9000 := rfl
    have e19 : PV.tup [PV.int (-9000), PV.int 1] = pt (-9000) := rfl
    have e1 : PV.tup [PV.int 1000, PV.int 1] = pt 1000 := rfl
    (try exists x_ta)
    refine ⟨S.L.isK, ?_⟩
    rw [e5, e9, e19, e1]
    refine sets_head (x := 2) kc S.L (by decide) (by decide) (by exact_mod_cast Nat.zero_le _) (by decide) (by omega) (fun _ => ?_) (fun hne => absurd rfl (hne ((u : Rat), Rat.divInt (1 + (0 : Nat)) 3) (by rw [at2]; exact List.mem_map.mpr ⟨0, by decide, rfl⟩))) (.inr ⟨((u : Rat), Rat.divInt (1 + (0 : Nat)) 3), by rw [at2]; exact List.mem_map.mpr ⟨0, by decide, rfl⟩, rfl⟩) 
    refine ⟨_, rfl, rfl, ?_⟩
    (try exists x_ta)
    refine ne_pv (dt_tup (n := 59) (allC (dt_str (by decide +kernel)) all1)) ?_
    (try exists x_ta)
    refine ⟨S.L.isK, ?_⟩
    refine sets_head (x := 2) kc S.L (by decide) (by decide) (by decide) (by decide) (by omega) (fun he => ?_) (fun _ => ?_) (.inl (by rw [at2]; show (ss u 6).length = 6; unfold ss; rw [List.length_map, List.length_range]))
    · obtain ⟨y, hy, e⟩ := he
      rw [at2] at hy
      obtain ⟨t, ht, rfl⟩ := List.mem_map.mp hy
      have h0 : (0 : Rat) < ((u + t : Nat) : Rat) := by
        have := (Rat.natCast_lt_natCast (a := 0) (b := u + t)).mpr (by omega)
        simpa using this
      exact absurd e (Rat.ne_of_gt h0)
    refine ⟨_, rfl, rfl, ?_⟩
    (try exists x_ta)
    refine ne_pv (dt_tup (n := 59) (allC (dt_str (by decide +kernel)) (allC trivial (allC trivial all1)))) ?_
    (try exists x_ta)
    refine ⟨by decide, by decide, szl (by decide), ?_⟩
    refine compT_any (fun n l h4 => l = (List.range n).map (fun (t : Nat) => PV.int t) ∧ ∃ past, past.length ≤ 6 + n ∧ PHq m i j (csn cs0 u 6) (dsn n) n past h4) (fun _ _ _ _ => trivial) _ ?_ ⟨rfl, past, by omega, S⟩ ?_
    · rintro n x l h4 k4 hx ⟨rfl, past, lp, S⟩ hk
      obtain ⟨rfl, hn⟩ := rng_get hx
      have hn : n < 10 := by simpa using hn
      rw [Int.zero_add]
      (try exists x_ta)
      refine ⟨S.L.isK, ?_⟩
      refine law_made_ok _ _ (b := 5) (by omega) (by omega) (by omega) d (by omega) _ _ _ ?_
      (try exists x_ta)
      have F := few_dsn k k0 kz (u := u) (n + 1) (by omega)
      have lds : (dsn n).length = n := by unfold dsn; rw [List.length_map, List.length_range]
      rw [dsn_succ] at F
      refine Post_tells_ok (b := 6) (c := 5) (e := 15) (s := 30) (t := hiT) kc S.L (by omega) F.d ok_hi (by omega) (by omega) (by omega) (by omega) (fun v hv => (F.k v hv).1) (by omega) F.f (by omega) ?_
      intro h5 e5 E5 L5
      rw [← dsn_succ] at L5
      have S := S.post E5 L5
      (try exists x_ta)
      exact hk _ _ ⟨by rw [List.range_succ, List.map_append]; rfl, _, by simp; omega, S⟩
    · rintro l h4 ⟨rfl, past, lp, S⟩
      have S : PHq m i j (csn cs0 u 6) (dsn 10) 10 past h4 := S
      have lp : past.length ≤ 16 := by simpa [rngL] using lp
      (try exists x_ta)
      refine ⟨by decide, by decide, ?_⟩
      rw [show (List.range (rngL 0 (Int.toNat 10)).length).map (fun (t : Nat) => PV.int t) = rngL 0 (Int.toNat 10) from by rw [rngL_len]; unfold rngL; exact List.map_congr_left fun t _ => by rw [Int.zero_add]]
      refine ne_lst' (dt_lst (n := 59) fun y hy => by obtain ⟨t, _, rfl⟩ := List.mem_map.mp hy; trivial) ?_
      (try exists x_ta)
      refine ⟨S.L.isK, ?_⟩
      refine tells_many (t := loT 9000) (e := 15) S.L (ok_lo ⟨by decide, by decide⟩) (by omega) (by unfold dsn; rw [List.length_map, List.length_range]) (by omega) ?_
      refine ⟨_, rfl, rfl, ?_⟩
      (try exists x_ta)
      refine ne_pv (dt_tup (n := 59) (allC (dt_str (by decide +kernel)) (allC trivial (allC trivial all1)))) ?_
      (try exists x_ta)
      refine ⟨S.L.isK, ?_⟩
      refine calls_false_ok (m := 3) S.L (by omega) (by unfold dsn; rw [List.length_map, List.length_range]; decide) ⟨_, List.mem_map.mpr ⟨3, by decide, rfl⟩, rfl⟩ (by omega) ?_
      intro h5 e5 E5 L5
      have S := S.post E5 L5
      have l9 := len9
      have n3 : ∀ d ∈ (dsn 10).filter (fun d => decide (d.n ≠ 3)), d.n ≠ 3 := fun d hd => of_decide_eq_true (List.mem_filter.mp hd).2
      have F10 := few_dsn k k0 kz (u := u) 10 (by omega)
      have F9 : FewOk (csn cs0 u 6) ((dsn 10).filter fun d => decide (d.n ≠ 3)) := F10.filter _
      have mem0 : (⟨0, Rat.divInt (0 : Nat) 2, hiT⟩ : Td) ∈ (dsn 10).filter fun d => decide (d.n ≠ 3) := List.mem_filter.mpr ⟨List.mem_map.mpr ⟨0, by decide, rfl⟩, by decide⟩
      generalize (dsn 10).filter (fun d => decide (d.n ≠ 3)) = d9 at S l9 n3 F9 mem0
      (try exists x_ta)
      refine loopT_any (fun _ ρ h6 => (∃ r, ρ = [some (.ref m), some (.ob 0 i (some j)), some (.pv (pt (u : Rat))), none, some (.pv r), none]) ∧ h6 = h5) (fun _ _ _ _ => trivial) _ ?_ ?_ ⟨⟨_, rfl⟩, rfl⟩
      · rintro n x ρ h6 k6 hx ⟨⟨r, rfl⟩, rfl⟩ hk
        have hb : x = .int 3 ∨ badW x = true := by
          have := List.mem_of_getElem? hx
          simp only [List.mem_cons, List.not_mem_nil, or_false] at this
          rcases this with rfl | rfl | rfl | rfl | rfl
          · exact .inl rfl
          all_goals exact .inr (by decide +kernel)
        (try exists x_ta)
        refine ⟨S.L.isK, ?_⟩
        rcases hb with rfl | hb
        · refine calls_false_none (m := 3) S.L (by omega) n3 (by omega) ?_
          refine ⟨_, rfl, rfl, ?_⟩
          (try exists x_ta)
          refine ne_pv (dt_tup (n := 59) (allC (dt_str (by decide +kernel)) all1)) ?_
          (try exists x_ta)
          exact hk _ _ ⟨⟨_, rfl⟩, rfl⟩
        · refine calls_false_bad hb (by omega) ?_
          refine ⟨_, rfl, rfl, ?_⟩
          (try exists x_ta)
          refine ne_pv (dt_tup (n := 59) (allC (dt_str (by decide +kernel)) all1)) ?_
          (try exists x_ta)
          exact hk _ _ ⟨⟨_, rfl⟩, rfl⟩
      · rintro ρ h6 ⟨⟨r, rfl⟩, rfl⟩
        (try exists x_ta)
        refine ⟨S.L.isK, ?_⟩
        have A9 := lo_app k k0 kz (u := u) (n := 10) F9
        refine tells_apart (m := 0) (t := loT 9000) (b := 6) (c := 5) (e := 15) (s := 30) kc S.L A9.1 (ok_lo ⟨by decide, by decide⟩) (by omega) (by omega) (by omega) (by omega) A9.2 (by omega) (lo_apart k k0 kz mem0) (by omega) ?_
        refine ⟨_, rfl, rfl, ?_⟩
        (try exists x_ta)
        refine ne_pv (dt_tup (n := 59) (allC (dt_str (by decide +kernel)) all1)) ?_
        (try exists x_ta)
        refine ⟨S.L.isK, ?_⟩
        refine Post_len_ok S.L (by omega) ?_
        rw [l9]
        refine ⟨_, rfl, ⟨by omega, by omega⟩, ?_⟩
        (try exists x_ta)
        refine ⟨S.L.isK, ?_⟩
        have F := F9.app (few_lo k k0 kz (u := u) (n := 10) (x := -9000) ⟨by decide, by decide⟩ (by decide))
        refine Post_tells_ok (m := 0) (b := 6) (c := 5) (e := 15) (s := 30) (t := loT (-9000)) kc S.L (by simp; omega) F.d (ok_lo ⟨by decide, by decide⟩) (by omega) (by omega) (by omega) (by omega) (fun v hv => (F.k v hv).1) (by omega) F.f (by omega) ?_
        intro h7 e7 E7 L7
        (try exists x_ta)
        exact z _
theorem shw_ck {c : Ck} (z : Sz 5 c.1) (h : c.2 = []) : Shw 2 9000 (ckP c) := by
  unfold ckP ck
  rw [h]
  exact (shw_tup (n := 1) (w := 4000) (allC (shw_pt (z.up (by omega))) (allC ((shw_tup (n := 0) (w := 0) all1).up (by decide) (by decide)) all1))).up (by decide) (by simp)
theorem shw_held {cs : List Ck} (k : CsN 0 cs) (k0 : ∀ c ∈ cs, c.2 = []) : Shw 4 200000 (.tup [.lst [], .lst ((List.range 6).map fun i => ckP (ckA cs i))]) := by
  have hc : ∀ x ∈ (List.range 6).map (fun i => ckP (ckA cs i)), Shw 2 9000 x := by
    intro x hx
    obtain ⟨i, hi, rfl⟩ := List.mem_map.mp hx
    have hm := ckA_mem (cs := cs) (x := i) (by rw [k.l]; exact List.mem_range.mp hi)
    exact shw_ck (k.g _ hm).1 (k0 _ hm)
  exact (shw_tup (n := 3) (w := 60000) (allC ((shw_lst (n := 0) (w := 0) all1).up (by decide) (by decide)) (allC ((shw_lst (n := 2) (w := 9000) hc).up (by decide) (by simp)) all1))).up (by decide) (by simp)
theorem law_wp : ∀ ns : List Int, ns.length ≤ 63 → wpC pg 40 i_law [.pv (.scr (ns.map PV.int))] [] (fun v _ => v = .pv (.bl true)) (fun _ _ => False) := by
  intro ns hn
  refine in_law (d := 39) ?_
  (try exists x_ta, b_law)
  refine cell_at_ok (by omega) (by simp) _ (by omega) _ _ _ ?_
  intro c0
  (try exists x_ta)
  refine ⟨szl (by have := cut_len (l := ns.map PV.int) (a := some 1) (b := some 2); rw [List.length_map] at this; omega), ?_⟩
  refine loopT_any (fun n ρ h' => ρ = some (RV.pv (PV.scr (ns.map PV.int))) :: List.replicate 8 none) (fun _ _ _ _ => trivial) _ ?_ (fun _ _ _ => trivial) rfl
  rintro n x ρ h' k hx rfl hk
  obtain ⟨i, rfl⟩ := cells_int hx
  simp only [List.replicate]
  (try exists x_ta)
  refine pen_of_ok _ _ (by omega) _ _ _ ?_
  intro p
  (try exists x_ta)
  refine law_gains_ok _ (by omega) _ PenH.new _ _ ?_
  rintro cs p2 ⟨kc, k0, kz⟩
  have P1 : PenH h'.length ((h' ++ [some (penL p)]).set h'.length (some (penL p2))) := PenH.new.set _
  have n1 : ((h' ++ [some (penL p)]).set h'.length (some (penL p2))).length = h'.length + 1 := by simp
  generalize (h' ++ [some (penL p)]).set h'.length (some (penL p2)) = h2 at P1 n1
  (try exists x_ta)
  refine Post_init_ok (b := 5) kc.l (by omega) (fun c hc => ⟨kc.g c hc, k0 c hc⟩) kz (by omega) rfl fun h3 E3 L3 => ?_
  have S : PHq h'.length h2.length (h2.length + 1) cs [] 0 [] h3 := ⟨by omega, by omega, by obtain ⟨q, e⟩ := P1; exact ⟨q, by rw [E3.e _ (by omega)]; exact e⟩, L3⟩
  generalize h2.length = N at S
  have kok := kc.ok (by omega : 0 ≤ 6)
  have sh := shw_held kc k0
  refine ⟨S.L.isK, ?_⟩
  refine standing_none kok (by omega) S.L (by omega) ?_
  (try exists x_ta)
  refine ⟨by decide, by decide, szl (by decide), ?_⟩
  try rw [show rngL 0 (Int.toNat 6) = (List.range 6).map fun (i : Nat) => PV.int (0 + (i : Int)) from rfl]
  refine compT_map1 (fun (i : Nat) => PV.int (0 + (i : Int))) (fun i => ckP (ckA cs i)) trivial (List.range 6) (fun i hi q hq => ?_) ?_
  · (try exists x_ta)
    refine ⟨S.L.isK, ?_⟩
    rw [Int.zero_add]
    refine clock_now_ok kok S.L (List.mem_range.mp hi) (by omega) ?_
    (try exists x_ta)
    exact hq
  (try exists x_ta)
  rw [f_repr sh (by omega) (by omega)]
  (try exists x_ta)
  refine law_moments_ok kok (by omega) S.L (by omega) ?_
  (try exists x_ta)
  refine law_numbers_ok S.L (by omega) ?_
  (try exists x_ta)
  refine law_rest_ok S.L (by omega) ?_
  (try exists x_ta)
  refine ⟨S.L.isK, ?_⟩
  refine standing_none kok (by omega) S.L (by omega) ?_
  (try exists x_ta)
  refine ⟨by decide, by decide, szl (by decide), ?_⟩
  try rw [show rngL 0 (Int.toNat 6) = (List.range 6).map fun (i : Nat) => PV.int (0 + (i : Int)) from rfl]
  refine compT_map1 (fun (i : Nat) => PV.int (0 + (i : Int))) (fun i => ckP (ckA cs i)) trivial (List.range 6) (fun i hi q hq => ?_) ?_
  · (try exists x_ta)
    refine ⟨S.L.isK, ?_⟩
    rw [Int.zero_add]
    refine clock_now_ok kok S.L (List.mem_range.mp hi) (by omega) ?_
    (try exists x_ta)
    exact hq
  (try exists x_ta)
  rw [f_repr sh (by omega) (by omega)]
  rw [ns_same]
  (try exists x_ta)
  have l6 : (cs.map fun c => pt c.1).length = 6 := by rw [List.length_map]; exact kc.l
  have gl : ∀ x ∈ cs.map (fun c => pt c.1), ElR 9 x ∧ Dt 59 x := by
    intro x hx
    obtain ⟨c, hc, rfl⟩ := List.mem_map.mp hx
    exact ⟨elr_pt ((kc.g c hc).1.up (by omega)), dt_tup (n := 58) (allC trivial (allC trivial all1))⟩
  generalize hgl : cs.map (fun c => pt c.1) = g at l6 gl
  have c5 : cut g none (some 5) = g.take 5 := by rw [show (5 : Int) = ((5 : Nat) : Int) from rfl, cut_tk]
  have c1 : cut g (some 1) none = g.drop 1 := by rw [cut_drop (by decide) (by omega)]; rfl
  rw [c5, c1]
  have t5 : (g.take 5).length = 5 := by rw [List.length_take, l6]; rfl
  have d1 : (g.drop 1).length = 5 := by rw [List.length_drop, l6]
  rw [t5, d1]
  refine ⟨szl (by omega), szl (by omega), szl (by omega), szl (by omega), szl (by omega), szl (by omega), szl (by omega), ?_⟩
  have dl : ∀ y, ElR 9 y → Dt 59 y → (∀ x ∈ g.take 5 ++ [y], ElR 9 x) ∧ ∀ x ∈ g.take 5 ++ [y], Dt 59 x := fun y e e2 => ⟨allA (fun x hx => (gl x (List.mem_of_mem_take hx)).1) (allC e all1), allA (fun x hx => (gl x (List.mem_of_mem_take hx)).2) (allC e2 all1)⟩
  have no : ∀ y, ElR 9 y → Dt 59 y → gnB y = false → Ret pg 5 i_are_gains [.tup (g.take 5 ++ [y])] (.bl false) := fun y e e2 hb => by
    have q := are_gains_tup (l := g.take 5 ++ [y]) (by simp; omega) (dl y e e2).1 (dl y e e2).2
    have hg : gnsB (g.take 5 ++ [y]) = false := by
      unfold gnsB
      rw [List.all_append, List.all_cons, hb]
      simp
    rw [hg] at q
    exact q
  have len : ∀ l : List PV, l.length ≠ 6 → l.length ≤ 60 → (∀ x ∈ l, ElR 9 x ∧ Dt 59 x) → Ret pg 5 i_are_gains [.tup l] (.bl false) := fun l h1 h2 h3 => by
    have q := are_gains_tup (l := l) h2 (fun x hx => (h3 x hx).1) (fun x hx => (h3 x hx).2)
    have hg : gnsB l = false := by
      unfold gnsB
      rw [decide_eq_false h1]
      rfl
    rw [hg] at q
    exact q
  refine loopT_any (fun _ ρ h5 => (∃ a b, ρ = [some (RV.pv (PV.scr (List.map PV.int ns))), some (RV.pv (PV.int i)), some (RV.ref (List.length h')), some (.pv (.tup g)), some (.ob 0 N (some (N + 1))), some a, none, some b, none]) ∧ h5 = h3) (fun _ _ _ _ => trivial) _ ?_ ?_ ⟨⟨_, _, rfl⟩, rfl⟩
  · rintro n x ρ h5 k5 hx ⟨⟨a, b, rfl⟩, rfl⟩ hk5
    have hb : Ret pg 5 i_are_gains [x] (.bl false) := by
      have := List.mem_of_getElem? hx
      simp only [List.mem_cons, List.not_mem_nil, or_false] at this
      rcases this with rfl | rfl | rfl | rfl | rfl | rfl | rfl | rfl | rfl | rfl | rfl
      · exact are_gains_non rfl (fun l e => by cases e)
      · exact len [] (by decide) (by decide) (by simp)
      · exact len _ (by omega) (by omega) fun x hx => gl x (List.mem_of_mem_take hx)
      · exact len _ (by simp; omega) (by simp; omega) (allA gl (allC ⟨elr_pt (by exact ⟨by decide, by decide⟩), dt_tup (n := 58) (allC trivial (allC trivial all1))⟩ all1))
      · exact are_gains_non rfl (fun l e => by cases e)
      · have q := are_gains_tup (l := PV.tup [PV.int 1, PV.int 1] :: g.drop 1) (by simp; omega) (allC (elB_ok rfl) fun x hx => (gl x (List.mem_of_mem_drop hx)).1) (allC (dt_tup (n := 58) (allC trivial (allC trivial all1))) fun x hx => (gl x (List.mem_of_mem_drop hx)).2)
        have hg : gnsB (PV.tup [PV.int 1, PV.int 1] :: g.drop 1) = false := by
          show (_ && (_ && peq (PV.tup [PV.int 1, PV.int 1]) (pt 0))) = false
          rw [show peq (PV.tup [PV.int 1, PV.int 1]) (pt 0) = false by decide +kernel, Bool.and_false, Bool.and_false]
        rw [hg] at q
        exact q
      · exact no _ (elB_ok rfl) (dt_tup (n := 58) (allC trivial (allC trivial all1))) (by decide +kernel)
      · exact no _ (elB_ok rfl) (dt_tup (n := 58) (allC trivial (allC trivial all1))) (by decide +kernel)
      · exact no _ (elB_ok rfl) trivial (by decide +kernel)
      · exact no _ (elB_ok rfl) (dt_tup (n := 58) (allC trivial (allC trivial all1))) (by decide +kernel)
      · exact are_gains_non rfl (fun l e => by cases e)
    (try exists x_ta)
    refine Post_init_bad hb (by omega) ?_
    refine ⟨_, rfl, rfl, ?_⟩
    (try exists x_ta)
    refine ne_pv (dt_tup (n := 59) (allC (dt_str (by decide +kernel)) all1)) ?_
    (try exists x_ta)
    exact hk5 _ _ ⟨⟨_, _, rfl⟩, rfl⟩
  · rintro ρ h5 ⟨⟨a, b, rfl⟩, rfl⟩
    (try exists x_ta)
    refine law_full_ok kc k0 kz S (by omega) fun h6 => ?_
    (try exists x_ta)
    exact hk _ _ rfl
end Law
set_option Elab.async false
set_option linter.all false
set_option maxRecDepth 100000
set_option maxHeartbeats 0
namespace Law
open PySem PySem.W PySem.Calls PyProof.Rows
theorem f_e : opening R.prog = plainProg R.prog.main.scope.names := by kernel_rfl
theorem f_f : ∀ s, fenceModules? R.prog s = some s := fun s => by kernel_rfl
theorem f_def : defOf (view R.prog [78]) R.name = some (HandSHeadRun.topDef R.prog 78, []) := by kernel_rfl
theorem f_hp : R.prog.theDef R.name = some ((HandSHeadRun.topDef R.prog 78).params, (HandSHeadRun.topDef R.prog 78).body, (HandSHeadRun.topDef R.prog 78).scope) := by kernel_rfl
theorem f_hk : kwWritten? (HandSHeadRun.topDef R.prog 78).params.kwonlyargs (HandSHeadRun.topDef R.prog 78).params.kw_defaults = some [] := by kernel_rfl
theorem f_hwr : (!R.writes || R.records.isEmpty) = true := by rfl
theorem f_ok : (chainsOk (view R.prog [78]) && opensWell R.prog && (frees R.toRowW && R.within.isEmpty)) = true := by decide +kernel
theorem f_nm : (HandSHeadRun.topDef R.prog 78).name = ("law" : PySem.Str) := by kernel_rfl
theorem f_df : (HandSHeadRun.topDef R.prog 78).params.defaults = [] := by kernel_rfl
theorem f_call : WalkO (view R.prog [78]) names (XL (view R.prog [78]) []) hk.says R.toRowW (HandSHeadRun.topDef R.prog 78) [] fun f vs => PySem.call f vs := by
  refine G43.walkG (l := PySem.Challenge.rw_gunclocks_k62_posts_refused) (n := 63) (k := 40) rfl (by decide) f_df ⟨rfl, by decide, by decide⟩ ?F
  intro w mg fa h Y G hm
  obtain ⟨K, KX, c, tb, dc⟩ := Y
  have T := G43.prog_of KX G c Law.all_s dc (fun _ => Law.word_at KX G c Law.exc_p Law.exc_l rfl) (Law.xf_at KX G c Law.exc_p (fun c hc => by simpa [Law.pg] using hc))
  have hd : Law.pg.defs[40]? = some Law.d_law := rfl
  rw [f_nm] at hm
  refine ⟨G43.adOf Law.pg K, Law.pg, 40, Law.d_law, KX, T, hd, ?_, rfl, rfl, rfl, (fun z => nomatch z), G43.cs_of tb, Law.law_wp⟩
  · obtain ⟨_, _, _, _, _, _, t⟩ := T.defs 40 _ hd
    have n := (t.nm rfl).symm.trans hm
    injection n with n
    injection n
theorem f_row : R.Holds := HandSHeadRun.head_any (r := R) (q := view R.prog [78]) (H := hk) (ob := obI) (M := 60000) (loose := names) (d := HandSHeadRun.topDef R.prog 78) (kwd := []) ob_eq f_e f_f run f_def f_hp f_hk f_hwr f_k1 f_ok f_bare f_hw f_call
end Law
open PySem PySem.W PySem.Calls PyProof.Rows
set_option maxRecDepth 100000 in
set_option maxHeartbeats 0 in
theorem PySem.Challenge.cw_gunclocks_k62_posts_refused_holds : PySem.Challenge.rw_gunclocks_k62_posts_refused.Holds := by
  exact Law.law_of Law.f_row
