import PyProof.Rows.All
import Wide.All
import OpenK.AllK
import Wide.FinOn
import PySem.PyData
import HandS.ForMost
import HandS.ForExc
import HandS.Star
import HandS.Flow
import HandS.TupAny
import HandS.Deep
import HandS.IsInst
import HandS.SortInts
import HandS.CallSlots
import HandS.SetFor
import HandS.Zip
import HandS.Style
import HandS.TryOnly
import KE.DataMinMax
import KE.SortData
import HandS.Ends
import HandS.Words
import HandS.WordsExc
import HandS.Defaults
import HandS.Head0
import HandS.Head1
import HandS.Head2
import HandS.HeadEnd
import HandS.HeadHook1
import HandS.HeadHook2
import KE.KStateDown
import PyProof.ExcBaseAll.ValueError
import PySem.Challenge.RW_stripehole_k02_whole_contents
set_option linter.all false
/-! Ev0: a small evaluator: pure values, expressions without effects, statements over slots and a small heap of one's own objects. -/
namespace Ev
open PySem (Str)

/-- pure values -/
inductive PV where
  | non | bl (b : Bool) | int (i : Int) | str (s : Str)
  | tup (xs : List PV) | lst (xs : List PV) | dct (ks vs : List PV)
  | ins (c : Str) (fs : List PV) | ty (n : String) | cl (c : Str)
  deriving Inhabited

mutual
def peq : PV → PV → Bool
  | .non, .non => true
  | .bl a, .bl b => a == b
  | .bl a, .int j => (if a then 1 else 0) == j
  | .int i, .bl b => i == (if b then 1 else 0)
  | .int i, .int j => i == j
  | .str x, .str y => x == y
  | .lst xs, .lst ys => peqs xs ys
  | .tup xs, .tup ys => peqs xs ys
  | _, _ => false
def peqs : List PV → List PV → Bool
  | [], [] => true
  | x :: xs, y :: ys => peq x y && peqs xs ys
  | _, _ => false
end

mutual
/-- data that == of lists and tuples knows -/
def isData : PV → Bool
  | .non | .bl _ | .int _ => true
  | .str s => s.cps.all (· < 0x110000)
  | .lst xs | .tup xs => areData xs
  | .dct _ _ | .ins _ _ | .ty _ | .cl _ => false
def areData : List PV → Bool
  | [] => true
  | x :: xs => isData x && areData xs
def depth : PV → Nat
  | .lst xs | .tup xs => depths xs + 1
  | .non | .bl _ | .int _ | .str _ | .dct _ _ | .ins _ _ | .ty _ | .cl _ => 0
def depths : List PV → Nat
  | [] => 0
  | x :: xs => max (depth x) (depths xs)
end
/-- values that may be compared -/
def cmpOk (p : PV) : Bool := isData p && decide (depth p ≤ 64)

/-- an exception of one's own class, with its one field -/
structure Exn where
  cls : Str
  fld : Option PV
abbrev R (α : Type) := Option (Except Exn α)
abbrev ok {α : Type} (a : α) : R α := some (.ok a)
def bnd {α β : Type} (r : R α) (k : α → R β) : R β := match r with
  | some (.ok a) => k a
  | some (.error x) => some (.error x)
  | none => none
@[simp] theorem bnd_ok {α β : Type} (a : α) (k : α → R β) : bnd (some (.ok a)) k = k a := rfl
@[simp] theorem bnd_err {α β : Type} (x : Exn) (k : α → R β) : bnd (some (.error x)) k = some (.error x) := rfl
@[simp] theorem bnd_none {α β : Type} (k : α → R β) : bnd none k = none := rfl

/-- a slot: a value (k: a caller's list that may change behind our back, not to be kept) or one's own object -/
inductive SV where
  | d (k : Bool) (p : PV) | r (n : Nat)
inductive OO where
  | l (xs : List PV) | d (ks vs : List PV) | ins (c : Str) (fs : List (Option PV))
abbrev St := List (Option SV)
abbrev OH := List OO

inductive Op where
  | add | sub | mul | fdiv | mod
  deriving DecidableEq
inductive Cm where
  | eq | ne | lt | le | gt | ge | isN | notN | in_ | notIn
  deriving DecidableEq
inductive Bi where
  | len | int | sum | all | any | tuple | list | sorted | sset | max | min | abs | max2 | min2
  deriving DecidableEq
/-- builtin classes that isinstance asks for, and own ones -/
inductive Tk where
  | b (n : String) | own (c : Str)
inductive TN where
  | nm (i : Nat) | tp (ts : List TN)

inductive CE where
  | cst (p : PV)
  | loc (i : Nat)
  | glo (x : Str)
  | star (a : CE)
  | tup (es : List CE)
  | lst (es : List CE)
  | dct0
  | bin (o : Op) (a b : CE)
  | neg (a : CE)
  | cmp (o : Cm) (a b : CE)
  | chain (o o' : Cm) (a b c : CE)
  | not (a : CE)
  | and (a b : CE)
  | or (a b : CE)
  | ite (c a b : CE)
  | idx (a i : CE)
  | slN (a : CE) | slL (a lo : CE) | slU (a hi : CE) | slLU (a lo hi : CE)
  | bi (f : Bi) (es : List CE)
  | isi (a : CE) (ts : List Tk)
  | cnt (a b : CE)
  | call (f : Str) (es : List CE)
  | range (lo hi : CE) | zip (a b : CE) | enum (a : CE)
  | comp (e : CE) (t : TN) (it : CE) (cs : List CE)

/-- the program around: the defs, by what they give; the module's constants; the classes that an own class is under -/
structure Pg where
  fn : Str → List SV → OH → R (SV × OH)
  con : Str → Option PV
  sub : Str → Str → Bool
  esub : Str → Str → Option Bool

def big : Nat := 16777216

def seqOf : PV → Option (List PV)
  | .lst xs | .tup xs => some xs
  | _ => none
def listOf : PV → Option (List PV)
  | .lst xs => some xs
  | _ => none
/-- the items of what is walked -/
def itemsOf : PV → Option (List PV)
  | .lst xs | .tup xs => some xs
  | _ => none
def withO {α β : Type} (o : Option α) (k : α → R β) : R β := match o with
  | some a => k a
  | none => none
@[simp] theorem withO_some {α β : Type} (a : α) (k : α → R β) : withO (some a) k = k a := rfl
@[simp] theorem withO_none {α β : Type} (k : α → R β) : withO none k = none := rfl
def asInt : PV → Option Int
  | .int i => some i
  | _ => none
def asInts : List PV → Option (List Int)
  | [] => some []
  | .int i :: r => (asInts r).map (i :: ·)
  | _ => none
def asIntss : List PV → Option (List (List Int))
  | [] => some []
  | .tup xs :: r => (asInts xs).bind fun x => (asIntss r).map (x :: ·)
  | _ => none

/-- truth -/
def truth : PV → Option Bool
  | .non => some false
  | .bl b => some b
  | .int i => some (i != 0)
  | .lst xs | .tup xs => some !xs.isEmpty
  | _ => none

def op2 : Op → PV → PV → Option PV
  | .add, .int i, .int j => some (.int (i + j))
  | .add, .int i, .bl b => some (.int (i + if b then 1 else 0))
  | .add, .lst xs, .lst ys => if xs.length + ys.length ≤ big then some (.lst (xs ++ ys)) else none
  | .add, .tup xs, .tup ys => if xs.length + ys.length ≤ big then some (.tup (xs ++ ys)) else none
  | .sub, .int i, .int j => some (.int (i - j))
  | .mul, .int i, .int j => if (-(2 ^ 64) < i ∧ i < 2 ^ 64) ∨ (-(2 ^ 64) < j ∧ j < 2 ^ 64) then some (.int (i * j)) else none
  | .fdiv, .int i, .int j => if 0 < j ∧ j < 1073741824 then some (.int (i / j)) else none
  | .mod, .int i, .int j => if 0 < j then some (.int (i % j)) else none
  | _, _, _ => none

def augI : Op → PV → PV → Option Int
  | .add, .int i, .int j => some (i + j)
  | .sub, .int i, .int j => some (i - j)
  | _, _, _ => none
def cmpI (f : Int → Int → Bool) : PV → PV → Option Bool
  | .int i, .int j => some (f i j)
  | _, _ => none
def inSeq (x : PV) (xs : List PV) : Bool := xs.any fun z => peq z x
/-- a scalar key -/
def keyOk : PV → Bool
  | .int _ | .str _ => true
  | _ => false
def isIn (x y : PV) : Option Bool := match y with
  | .lst xs | .tup xs => if cmpOk x && cmpOk (.lst xs) then some (inSeq x xs) else none
  | .dct ks _ => if keyOk x then some (inSeq x ks) else none
  | _ => none
def isNon : PV → Bool
  | .non => true
  | _ => false
def cm2 : Cm → PV → PV → Option Bool
  | .eq, x, y => if cmpOk x && cmpOk y then some (peq x y) else none
  | .ne, x, y => if cmpOk x && cmpOk y then some !(peq x y) else none
  | .lt, x, y => cmpI (fun i j => decide (i < j)) x y
  | .le, x, y => cmpI (fun i j => decide (i ≤ j)) x y
  | .gt, x, y => cmpI (fun i j => decide (j < i)) x y
  | .ge, x, y => cmpI (fun i j => decide (j ≤ i)) x y
  | .isN, x, .non => some (isNon x)
  | .notN, x, .non => some !(isNon x)
  | .in_, x, y => isIn x y
  | .notIn, x, y => (isIn x y).map (!·)
  | _, _, _ => none

/-- the place of an index of any sign -/
def ixN (n : Nat) (i : Int) : Option Nat := if 0 ≤ i then (if i < n then some i.toNat else none) else if -(n : Int) ≤ i then some (i + n).toNat else none
def lookK (x : PV) : List PV → List PV → Option PV
  | k :: ks, v :: vs => if peq k x then some v else lookK x ks vs
  | _, _ => none
def index (a i : PV) : Option PV := match a, i with
  | .lst xs, .int j | .tup xs, .int j => (ixN xs.length j).bind fun k => xs[k]?
  | .dct ks vs, k => if keyOk k then lookK k ks vs else none
  | _, _ => none
/-- an end of a slice -/
def sEnd (n d : Nat) : Option Int → Nat
  | none => d
  | some i => if i < 0 then (i + n).toNat else min i.toNat n
def cut (xs : List PV) (lo hi : Option Int) : List PV := (xs.drop (sEnd xs.length 0 lo)).take (sEnd xs.length xs.length hi - sEnd xs.length 0 lo)
def slice (a : PV) (lo hi : Option Int) : Option PV := match a with
  | .lst xs => some (.lst (cut xs lo hi))
  | .tup xs => some (.tup (cut xs lo hi))
  | _ => none

def asBls : List PV → Option (List Bool)
  | [] => some []
  | .bl b :: r => (asBls r).map (b :: ·)
  | _ => none
/-- insertion sort -/
def insI (x : Int) : List Int → List Int
  | [] => [x]
  | y :: r => if x ≤ y then x :: y :: r else y :: insI x r
def sortI : List Int → List Int
  | [] => []
  | x :: r => insI x (sortI r)
/-- each once, in its order -/
def nubI : List Int → List Int
  | [] => []
  | x :: r => if x ∈ r then nubI r else x :: nubI r
def maxI : List Int → Option Int
  | [] => none
  | x :: r => some (r.foldl (fun a b => if b > a then b else a) x)
def minI : List Int → Option Int
  | [] => none
  | x :: r => some (r.foldl (fun a b => if b < a then b else a) x)
def ltL : List Int → List Int → Bool
  | [], [] => false
  | [], _ :: _ => true
  | _ :: _, [] => false
  | x :: xs, y :: ys => if x = y then ltL xs ys else decide (x < y)
def minL : List (List Int) → Option (List Int)
  | [] => none
  | x :: r => some (r.foldl (fun a b => if ltL b a then b else a) x)

def bi1 (f : Bi) (a : PV) : Option PV := match f, a with
  | .len, .lst xs | .len, .tup xs => some (.int xs.length)
  | .len, .dct ks _ => some (.int ks.length)
  | .int, .int i => some (.int i)
  | .int, .bl b => some (.int (if b then 1 else 0))
  | .abs, .int i => some (.int (if i < 0 then -i else i))
  | .sum, .lst xs => (asInts xs).map fun ns => .int ns.sum
  | .all, .lst xs => (asBls xs).map fun bs => .bl (bs.all id)
  | .any, .lst xs => (asBls xs).map fun bs => .bl (bs.any id)
  | .tuple, .lst xs | .tuple, .tup xs => some (.tup xs)
  | .list, .lst xs | .list, .tup xs => some (.lst xs)
  | .sorted, .lst xs => (asInts xs).map fun ns => .lst ((sortI ns).map .int)
  | .sset, .lst xs => (asInts xs).bind fun ns => if ns.length < 64 then some (.lst ((sortI (nubI ns)).map .int)) else none
  | .max, .lst xs => (asInts xs).bind fun ns => (maxI ns).map .int
  | .min, .lst xs => match asIntss xs with
    | some ns => (minL ns).map fun z => .tup (z.map .int)
    | none => none
  | _, _ => none
def bi2 (f : Bi) (a b : PV) : Option PV := match f, a, b with
  | .max2, .int i, .int j => some (.int (if j > i then j else i))
  | .min2, .int i, .int j => some (.int (if j < i then j else i))
  | _, _, _ => none

/-- isinstance of a builtin class -/
def isTy (n : String) : PV → Bool
  | .non => n == "NoneType"
  | .bl _ => n == "bool" || n == "int"
  | .int _ => n == "int"
  | .str _ => n == "str"
  | .tup _ => n == "tuple"
  | .lst _ => n == "list"
  | .dct _ _ => n == "dict"
  | _ => false
def hasTy : PV → Bool
  | .ty _ | .cl _ => false
  | _ => true
def isTk (P : Pg) (p : PV) : Tk → Bool
  | .b n => isTy n p
  | .own c => match p with | .ins d _ => P.sub d c | _ => false
def cntOf (x : PV) (xs : List PV) : Option PV := match asInts xs, x with
  | some ns, .int i => some (.int (ns.count i))
  | _, _ => none

mutual
def bindT : TN → PV → St → Option St
  | .nm i, p, σ => some (σ.set i (some (.d false p)))
  | .tp ts, p, σ => match p with
    | .tup xs => bindTs ts xs σ
    | _ => none
def bindTs : List TN → List PV → St → Option St
  | [], [], σ => some σ
  | t :: ts, p :: ps, σ => (bindT t p σ).bind (bindTs ts ps)
  | _, _, _ => none
end

/-- an expression's value may not be kept: 2: one's own object's, 1: a caller's -/
def flg (σ : St) : CE → Nat
  | .loc i => match σ[i]? with
    | some (some (.r _)) => 2
    | some (some (.d true _)) => 1
    | _ => 0
  | .ite _ a b => max (flg σ a) (flg σ b)
  | .and a b => max (flg σ a) (flg σ b)
  | .or a b => max (flg σ a) (flg σ b)
  | _ => 0
/-- the same of what is walked -/
def flgI (σ : St) : CE → Nat
  | .zip a b => max (flg σ a) (flg σ b)
  | .enum a => flg σ a
  | .range _ _ => 0
  | e => flg σ e
def flgs (σ : St) : List CE → Nat
  | [] => 0
  | e :: es => max (flg σ e) (flgs σ es)
def viewO : OO → Option PV
  | .l xs => some (.lst xs)
  | .d ks vs => some (.dct ks vs)
  | .ins _ _ => none
def viewS (h : OH) : SV → Option PV
  | .d _ p => some p
  | .r n => h[n]?.bind viewO
/-- arguments as slots of the callee -/
def argsOf (σ : St) : List CE → List PV → List SV
  | e :: es, x :: xs => .d (decide (flg σ e ≠ 0)) x :: argsOf σ es xs
  | _, _ => []
def zipP : List PV → List PV → List PV
  | x :: xs, y :: ys => .tup [x, y] :: zipP xs ys
  | _, _ => []
def enumP (i : Nat) : List PV → List PV
  | [] => []
  | x :: xs => .tup [.int i, x] :: enumP (i + 1) xs
def rangeP (lo : Int) : Nat → List PV
  | 0 => []
  | n + 1 => .int lo :: rangeP (lo + 1) n

mutual
def slotsT : TN → List Nat
  | .nm i => [i]
  | .tp ts => slotsTs ts
def slotsTs : List TN → List Nat
  | [] => []
  | t :: ts => slotsT t ++ slotsTs ts
end
def wipeS (σ : St) : List Nat → St
  | [] => σ
  | v :: vs => (wipeS σ vs).set v none
/-- two lists, or two tuples -/
def seq2 : PV → PV → Option (List PV)
  | .lst xs, .lst ys => some (zipP xs ys)
  | .tup xs, .tup ys => some (zipP xs ys)
  | _, _ => none
/-- a comprehension's turns -/
def compL (f : St → R (Option PV)) (t : TN) (σ : St) : List PV → R (List PV)
  | [] => ok []
  | x :: xs => match bindT t x σ with
    | none => none
    | some σ' => bnd (f σ') fun o => bnd (compL f t σ xs) fun ys => ok (match o with | some y => y :: ys | none => ys)
/-- what raises inside a comprehension stops the evaluator -/
def calm {α : Type} : R α → R α
  | some (.error _) => none
  | r => r
/-- a pure call's answer, told to the caller -/
def toldS (h : OH) : SV → Option PV
  | .d false p => some p
  | .d true _ => none
  | .r n => h[n]?.bind viewO
def told (r : R (SV × OH)) : R PV := match r with
  | some (.ok (s, h)) => (toldS h s).map .ok
  | some (.error x) => some (.error x)
  | none => none

mutual
def ev (P : Pg) : CE → St → OH → R PV
  | .cst p, _, _ => ok p
  | .loc i, σ, h => match σ[i]? with
    | some (some s) => (viewS h s).map .ok
    | _ => none
  | .glo x, _, _ => (P.con x).map .ok
  | .star _, _, _ => none
  | .tup es, σ, h => bnd (evs P es σ h) fun xs => if xs.length ≤ big ∧ flgs σ es = 0 then ok (.tup xs) else none
  | .lst es, σ, h => bnd (evs P es σ h) fun xs => if xs.length ≤ big ∧ flgs σ es = 0 then ok (.lst xs) else none
  | .dct0, _, _ => ok (.dct [] [])
  | .bin o a b, σ, h => bnd (ev P a σ h) fun x => bnd (ev P b σ h) fun y => match op2 o x y with
    | some (.lst zs) => if flg σ a = 0 ∧ flg σ b = 0 then ok (.lst zs) else none
    | z => z.map .ok
  | .neg a, σ, h => bnd (ev P a σ h) fun x => withO (asInt x) fun i => ok (.int (-i))
  | .cmp o a b, σ, h => bnd (ev P a σ h) fun x => bnd (ev P b σ h) fun y => (cm2 o x y).map fun b => .ok (.bl b)
  | .chain o o' a b c, σ, h => bnd (ev P a σ h) fun x => bnd (ev P b σ h) fun y => withO (cm2 o x y) fun t => if t then bnd (ev P c σ h) fun z => (cm2 o' y z).map fun b => .ok (.bl b) else ok (.bl false)
  | .not a, σ, h => bnd (ev P a σ h) fun x => (truth x).map fun b => .ok (.bl !b)
  | .and a b, σ, h => bnd (ev P a σ h) fun x => withO (truth x) fun t => if t then ev P b σ h else ok x
  | .or a b, σ, h => bnd (ev P a σ h) fun x => withO (truth x) fun t => if t then ok x else ev P b σ h
  | .ite c a b, σ, h => bnd (ev P c σ h) fun x => withO (truth x) fun t => if t then ev P a σ h else ev P b σ h
  | .idx a i, σ, h => bnd (ev P a σ h) fun x => bnd (ev P i σ h) fun y => (index x y).map .ok
  | .slN a, σ, h => bnd (ev P a σ h) fun x => (slice x none none).map .ok
  | .slL a l, σ, h => bnd (ev P a σ h) fun x => bnd (ev P l σ h) fun y => withO (asInt y) fun i => (slice x (some i) none).map .ok
  | .slU a u, σ, h => bnd (ev P a σ h) fun x => bnd (ev P u σ h) fun y => withO (asInt y) fun i => (slice x none (some i)).map .ok
  | .slLU a l u, σ, h => bnd (ev P a σ h) fun x => bnd (ev P l σ h) fun y => withO (asInt y) fun i => bnd (ev P u σ h) fun z => withO (asInt z) fun j => (slice x (some i) (some j)).map .ok
  | .bi f es, σ, h => bnd (evs P es σ h) fun xs => match xs with
    | [x] => (bi1 f x).map .ok
    | [x, y] => (bi2 f x y).map .ok
    | _ => none
  | .isi a ts, σ, h => bnd (ev P a σ h) fun x => if hasTy x then ok (.bl (ts.any (isTk P x))) else none
  | .cnt a b, σ, h => bnd (ev P a σ h) fun x => withO (listOf x) fun xs => bnd (ev P b σ h) fun y => (cntOf y xs).map .ok
  | .call f es, σ, h => bnd (evs P es σ h) fun xs => told (P.fn f (argsOf σ es xs) [])
  | .range a b, σ, h => bnd (ev P a σ h) fun x => withO (asInt x) fun i => bnd (ev P b σ h) fun y => withO (asInt y) fun j => if -(2 ^ 62) ≤ i ∧ i < 2 ^ 62 ∧ -(2 ^ 62) ≤ j ∧ j < 2 ^ 62 ∧ (j - i).toNat ≤ big then ok (.lst (rangeP i (j - i).toNat)) else none
  | .zip a b, σ, h => bnd (ev P a σ h) fun x => bnd (ev P b σ h) fun y => withO (seq2 x y) fun zs => ok (.lst zs)
  | .enum a, σ, h => bnd (ev P a σ h) fun x => withO (listOf x) fun xs => ok (.lst (enumP 0 xs))
  | .comp e t it cs, σ, h => bnd (ev P it σ h) fun x => withO (itemsOf x) fun xs => bnd (calm (compL (fun σ' => bnd (evC P cs σ' h) fun b => if b then bnd (ev P e σ' h) fun y => if flg σ' e = 0 then ok (some y) else none else ok none) t (wipeS σ (slotsT t)) xs)) fun ys => ok (.lst ys)
/-- items, with stars -/
def evs (P : Pg) : List CE → St → OH → R (List PV)
  | [], _, _ => ok []
  | e :: es, σ, h => match e with
    | .star a => bnd (ev P a σ h) fun x => withO (seqOf x) fun ys => bnd (evs P es σ h) fun xs => ok (ys ++ xs)
    | e => bnd (ev P e σ h) fun x => bnd (evs P es σ h) fun xs => ok (x :: xs)
/-- all tests of a comprehension -/
def evC (P : Pg) : List CE → St → OH → R Bool
  | [], _, _ => ok true
  | c :: cs, σ, h => bnd (ev P c σ h) fun x => withO (truth x) fun t => if t then evC P cs σ h else ok false
end
/-- what is walked -/
def evI (P : Pg) (e : CE) (σ : St) (h : OH) : R (List PV) := bnd (ev P e σ h) fun x => withO (itemsOf x) ok
/-- a test -/
def evT (P : Pg) (e : CE) (σ : St) (h : OH) : R Bool := bnd (ev P e σ h) fun x => (truth x).map .ok

/-! ### statements -/
/-- how an argument is handed on: its value; a new object of one's own; an own object as it is -/
inductive AM where
  | v | n | o
inductive CS where
  | pass | brk | cont
  | asg (t : TN) (e : CE)
  | new (i : Nat) (e : CE)
  | par (is : List Nat) (ms : List AM) (es : List CE)
  | aug (i : Nat) (o : Op) (e : CE)
  | app (i : Nat) (e : CE)
  | ext (i : Nat) (e : CE)
  | seti (i : Nat) (k v : CE)
  | expr (e : CE)
  | ret (e : CE)
  | retN
  | if_ (c : CE) (a b : List CS)
  | for_ (t : TN) (it : CE) (b : List CS)
  | while_ (n : Nat) (c : CE) (b : List CS)
  | raise_ (c : Str)
  | raiseF (c : Str) (e : CE)
  | try_ (b : List CS) (c : Str) (hb : List CS)
  | callS (i : Option Nat) (f : Str) (ms : List AM) (es : List CE)

inductive Fl where
  | nx | ret (s : SV) | bk | ct | exc (x : Exn)
abbrev O := Option (Fl × St × OH)
/-- go on behind a statement -/
def seq (r : O) (k : St → OH → O) : O := match r with
  | some (.nx, σ, h) => k σ h
  | r => r
@[simp] theorem seq_nx (σ : St) (h : OH) (k : St → OH → O) : seq (some (.nx, σ, h)) k = k σ h := rfl
@[simp] theorem seq_ret (s : SV) (σ : St) (h : OH) (k : St → OH → O) : seq (some (.ret s, σ, h)) k = some (.ret s, σ, h) := rfl
@[simp] theorem seq_bk (σ : St) (h : OH) (k : St → OH → O) : seq (some (.bk, σ, h)) k = some (.bk, σ, h) := rfl
@[simp] theorem seq_ct (σ : St) (h : OH) (k : St → OH → O) : seq (some (.ct, σ, h)) k = some (.ct, σ, h) := rfl
@[simp] theorem seq_exc (x : Exn) (σ : St) (h : OH) (k : St → OH → O) : seq (some (.exc x, σ, h)) k = some (.exc x, σ, h) := rfl
@[simp] theorem seq_none (k : St → OH → O) : seq none k = none := rfl
/-- an expression's value, for a statement -/
def val {α : Type} (r : R α) (σ : St) (h : OH) (k : α → O) : O := match r with
  | some (.ok a) => k a
  | some (.error x) => some (.exc x, σ, h)
  | none => none
@[simp] theorem val_ok {α : Type} (a : α) (σ : St) (h : OH) (k : α → O) : val (some (.ok a)) σ h k = k a := rfl
@[simp] theorem val_err {α : Type} (x : Exn) (σ : St) (h : OH) (k : α → O) : val (α := α) (some (.error x)) σ h k = some (.exc x, σ, h) := rfl
@[simp] theorem val_none {α : Type} (σ : St) (h : OH) (k : α → O) : val (α := α) none σ h k = none := rfl

/-- a value as an object of one's own -/
def ownO : PV → Option OO
  | .lst xs => some (.l xs)
  | .dct ks vs => some (.d ks vs)
  | _ => none
def forL (f : St → OH → O) (t : TN) : List PV → St → OH → O
  | [], σ, h => some (.nx, σ, h)
  | x :: xs, σ, h => match bindT t x σ with
    | none => none
    | some σ1 => match f σ1 h with
      | some (.nx, σ2, h2) => forL f t xs σ2 h2
      | some (.ct, σ2, h2) => forL f t xs σ2 h2
      | some (.bk, σ2, h2) => some (.nx, σ2, h2)
      | r => r
def whileL (c : St → OH → R Bool) (f : St → OH → O) : Nat → St → OH → O
  | 0, _, _ => none
  | n + 1, σ, h => val (c σ h) σ h fun b => if b then (match f σ h with
      | some (.nx, σ2, h2) => whileL c f n σ2 h2
      | some (.ct, σ2, h2) => whileL c f n σ2 h2
      | some (.bk, σ2, h2) => some (.nx, σ2, h2)
      | r => r) else some (.nx, σ, h)
def setH (h : OH) (n : Nat) (o : OO) : OH := h.set n o
/-- d[k] = v: in its place, or behind -/
def hasK (k : PV) (ks : List PV) : Bool := ks.any fun x => peq x k
def putVs (k v : PV) : List PV → List PV → List PV
  | x :: xs, y :: ys => (if peq x k then v else y) :: putVs k v xs ys
  | _, _ => []
def putKs (k : PV) (ks : List PV) : List PV := if hasK k ks then ks else ks ++ [k]
def putVv (k v : PV) (ks vs : List PV) : List PV := if hasK k ks then putVs k v ks vs else vs ++ [v]
def setItem (o : OO) (k v : PV) : Option OO := match o, k with
  | .l xs, .int j => (ixN xs.length j).map fun i => .l (xs.set i v)
  | .d ks vs, k => if keyOk k ∧ ks.length < big then some (.d (putKs k ks) (putVv k v ks vs)) else none
  | _, _ => none
def slotR (σ : St) (i : Nat) : Option Nat := match σ[i]? with
  | some (some (.r n)) => some n
  | _ => none
def evP (P : Pg) : List AM → List CE → St → OH → R (List SV × OH)
  | [], [], _, h => ok ([], h)
  | .v :: ms, e :: es, σ, h => bnd (ev P e σ h) fun p => if flg σ e ≤ 1 then bnd (evP P ms es σ h) fun r => ok (.d (decide (flg σ e = 1)) p :: r.1, r.2) else none
  | .n :: ms, e :: es, σ, h => bnd (ev P e σ h) fun p => withO (ownO p) fun o => bnd (evP P ms es σ (h ++ [o])) fun r => ok (.r h.length :: r.1, r.2)
  | .o :: ms, e :: es, σ, h => match e with
    | .loc i => withO (slotR σ i) fun n => bnd (evP P ms es σ h) fun r => ok (.r n :: r.1, r.2)
    | _ => none
  | _, _, _, _ => none
def storeS : List Nat → List SV → St → Option St
  | [], [], σ => some σ
  | i :: is, s :: ss, σ => storeS is ss (σ.set i (some s))
  | _, _, _ => none

/-- what raises inside a suite stops the evaluator -/
def noExc : O → O
  | some (.exc _, _, _) => none
  | r => r
mutual
def evS (P : Pg) : CS → St → OH → O
  | .pass, σ, h => some (.nx, σ, h)
  | .brk, σ, h => some (.bk, σ, h)
  | .cont, σ, h => some (.ct, σ, h)
  | .asg t e, σ, h => val (ev P e σ h) σ h fun p => match t with
    | .nm i => if flg σ e ≤ 1 then some (.nx, σ.set i (some (.d (decide (flg σ e = 1)) p)), h) else none
    | t => if flg σ e = 0 then (bindT t p σ).map fun σ' => (.nx, σ', h) else none
  | .new i e, σ, h => val (ev P e σ h) σ h fun p => (ownO p).map fun o => (.nx, σ.set i (some (.r h.length)), h ++ [o])
  | .par is ms es, σ, h => val (evP P ms es σ h) σ h fun r => (storeS is r.1 σ).map fun σ' => (.nx, σ', r.2)
  | .aug i o e, σ, h => match σ[i]? with
    | some (some (.d _ x)) => val (ev P e σ h) σ h fun y => (augI o x y).map fun j => (.nx, σ.set i (some (.d false (.int j))), h)
    | _ => none
  | .app i e, σ, h => match slotR σ i with
    | some n => (match h[n]? with
      | some (.l xs) => val (ev P e σ h) σ h fun p => if flg σ e = 0 ∧ xs.length < big then some (.nx, σ, h.set n (.l (xs ++ [p]))) else none
      | _ => none)
    | none => none
  | .ext i e, σ, h => match slotR σ i with
    | some n => (match h[n]? with
      | some (.l xs) => val (ev P e σ h) σ h fun p => (listOf p).bind fun ys => if flg σ e = 0 ∧ xs.length + ys.length ≤ big then some (.nx, σ, h.set n (.l (xs ++ ys))) else none
      | _ => none)
    | none => none
  | .seti i k v, σ, h => match slotR σ i with
    | some n => val (ev P v σ h) σ h fun p => val (ev P k σ h) σ h fun q => if flg σ v = 0 then (h[n]?.bind fun o => setItem o q p).map fun o => (.nx, σ, h.set n o) else none
    | none => none
  | .expr e, σ, h => val (ev P e σ h) σ h fun _ => some (.nx, σ, h)
  | .ret e, σ, h => match e with
    | .loc i => (match slotR σ i with
      | some n => some (.ret (.r n), σ, h)
      | none => val (ev P (.loc i) σ h) σ h fun p => if flg σ (.loc i) = 0 then some (.ret (.d false p), σ, h) else none)
    | e => val (ev P e σ h) σ h fun p => if flg σ e = 0 then some (.ret (.d false p), σ, h) else none
  | .retN, σ, h => some (.ret (.d false .non), σ, h)
  | .if_ c a b, σ, h => val (evT P c σ h) σ h fun t => if t then evSs P a σ h else evSs P b σ h
  | .for_ t it b, σ, h => val (ev P it σ h) σ h fun x => match itemsOf x with
    | some xs => if flgI σ it ≤ 1 then forL (evSs P b) t xs σ h else none
    | none => none
  | .while_ n c b, σ, h => whileL (evT P c) (evSs P b) n σ h
  | .raise_ c, σ, h => some (.exc ⟨c, none⟩, σ, h)
  | .raiseF c e, σ, h => val (ev P e σ h) σ h fun p => if flg σ e = 0 then some (.exc ⟨c, some p⟩, σ, h) else none
  | .try_ b c hb, σ, h => match evSs P b σ h with
    | some (.exc x, σ', h') => (match P.esub x.cls c with
      | some true => noExc (evSs P hb σ' h')
      | some false => some (.exc x, σ', h')
      | none => none)
    | r => r
  | .callS i f ms es, σ, h => val (evP P ms es σ h) σ h fun r => match P.fn f r.1 r.2 with
    | some (.ok (s, h')) => (match i, s with
      | none, _ => some (.nx, σ, h')
      | some i, .d false p => some (.nx, σ.set i (some (.d false p)), h')
      | some i, .r n => some (.nx, σ.set i (some (.r n)), h')
      | _, _ => none)
    | some (.error x) => none
    | none => none
def evSs (P : Pg) : List CS → St → OH → O
  | [], σ, h => some (.nx, σ, h)
  | s :: ss, σ, h => seq (evS P s σ h) (evSs P ss)
end

/-- a def: its parameters' number, its slots' number, its body, its defaults -/
structure Df where
  ps : Nat
  n : Nat
  body : List CS
  dfl : List PV := []
def start (d : Df) (as : List SV) : St := as.map some ++ List.replicate (d.n - as.length) none
/-- arguments, filled up -/
def fill (d : Df) (as : List SV) : Option (List SV) :=
  if as.length ≤ d.ps ∧ d.ps ≤ as.length + d.dfl.length then some (as ++ (d.dfl.drop (as.length + d.dfl.length - d.ps)).map (SV.d false)) else none
def run (P : Pg) (d : Df) (as : List SV) (h : OH) : R (SV × OH) := match fill d as with
  | none => none
  | some as => match evSs P d.body (start d as) h with
    | some (.nx, _, h') => ok (.d false .non, h')
    | some (.ret s, _, h') => ok (s, h')
    | some (.exc x, _, _) => some (.error x)
    | _ => none
end Ev

set_option Elab.async false
set_option linter.all false
set_option maxRecDepth 100000
/-! Ev1: what the evaluator's values, slots and objects stand for in the layer's abstract heap. -/
namespace Ev
open PySem PySem.Spec PyProof.Rows L2

abbrev Fb := Addr → Prop
/-- a key of a dict as a value -/
def kP : Key → PV
  | .inl i => .int i
  | .inr x => .str x

mutual
/-- the value v is p; no list or dict in it stands at a forbidden address -/
def RV (K : PySem.W.Frag) (H : Hp) (F : Fb) : PV → V → Prop
  | .non, v => v = .non
  | .bl b, v => v = .bl b
  | .int i, v => v = .int i
  | .str s, v => v = .str s
  | .tup xs, v => ∃ a vs, v = .ref a ∧ SqT K H a vs ∧ vs.length ≤ sizeLine ∧ RVs K H F xs vs
  | .lst xs, v => ∃ a vs, v = .ref a ∧ H a = some (.lst vs) ∧ vs.length ≤ sizeLine ∧ ¬ F a ∧ RVs K H F xs vs
  | .dct ks xs, v => ∃ a kvs, v = .ref a ∧ H a = some (.dK kvs) ∧ kvs.length ≤ sizeLine ∧ ¬ F a ∧ ks = kvs.map (fun z => kP z.1) ∧ RVs K H F xs (kvs.map (·.2))
  | .ins _ _, _ => False
  | .ty n, v => v = .ty n
  | .cl _, _ => False
def RVs (K : PySem.W.Frag) (H : Hp) (F : Fb) : List PV → List V → Prop
  | [], vs => vs = []
  | p :: ps, vs => ∃ v r, vs = v :: r ∧ RV K H F p v ∧ RVs K H F ps r
end
/-- .. the list or dict itself may stand anywhere -/
def RT (K : PySem.W.Frag) (H : Hp) (F : Fb) : PV → V → Prop
  | .lst xs, v => ∃ a vs, v = .ref a ∧ SqL K H a vs ∧ vs.length ≤ sizeLine ∧ RVs K H F xs vs
  | .dct ks xs, v => ∃ a kvs, v = .ref a ∧ H a = some (.dK kvs) ∧ kvs.length ≤ sizeLine ∧ ks = kvs.map (fun z => kP z.1) ∧ RVs K H F xs (kvs.map (·.2))
  | p, v => RV K H F p v

section
variable {K : PySem.W.Frag} {H H' : Hp} {F F' : Fb}
theorem RV.top : ∀ {p : PV} {v : V}, RV K H F p v → RT K H F p v
  | .non, _, h => h
  | .bl _, _, h => h
  | .int _, _, h => h
  | .str _, _, h => h
  | .tup _, _, h => h
  | .ins _ _, _, h => h
  | .ty _, _, h => h
  | .cl _, _, h => h
  | .lst xs, v, h => by
    obtain ⟨a, vs, e, r, z, _, q⟩ := h
    exact ⟨a, vs, e, .inl (.inl r), z, q⟩
  | .dct ks xs, v, h => by
    obtain ⟨a, vs, e, r, z, _, k, q⟩ := h
    exact ⟨a, vs, e, r, z, k, q⟩
theorem RVs.length : ∀ {ps : List PV} {vs : List V}, RVs K H F ps vs → ps.length = vs.length
  | [], _, h => by
    have e : _ = [] := h
    rw [e]; rfl
  | p :: ps, _, h => by
    obtain ⟨v, r, rfl, _, q⟩ := h
    rw [List.length_cons, List.length_cons, RVs.length q]
theorem RVs.get : ∀ {ps : List PV} {vs : List V} {i : Nat} {p : PV}, RVs K H F ps vs → ps[i]? = some p → ∃ v, vs[i]? = some v ∧ RV K H F p v
  | [], _, _, _, _, e => by simp at e
  | q :: ps, _, 0, p, h, e => by
    obtain ⟨v, r, rfl, hv, _⟩ := h
    have e' : q = p := by simpa using e
    subst e'
    exact ⟨v, rfl, hv⟩
  | q :: ps, _, i + 1, p, h, e => by
    obtain ⟨v, r, rfl, _, hr⟩ := h
    obtain ⟨w, h1, h2⟩ := RVs.get (i := i) hr (by simpa using e)
    exact ⟨w, by simpa using h1, h2⟩
theorem RVs.getV {ps : List PV} {vs : List V} {i : Nat} {v : V} (h : RVs K H F ps vs) (e : vs[i]? = some v) : ∃ p, ps[i]? = some p ∧ RV K H F p v := by
  have hl := h.length
  obtain ⟨hi, _⟩ := List.getElem?_eq_some_iff.mp e
  have e2 : ps[i]? = some ps[i] := List.getElem?_eq_getElem (by omega)
  obtain ⟨w, h1, h2⟩ := h.get e2
  rw [e] at h1; cases h1
  exact ⟨_, e2, h2⟩
theorem RVs.append : ∀ {ps qs : List PV} {vs ws : List V}, RVs K H F ps vs → RVs K H F qs ws → RVs K H F (ps ++ qs) (vs ++ ws)
  | [], _, _, _, h, h' => by
    have e : _ = [] := h
    rw [e]; exact h'
  | p :: ps, _, _, _, h, h' => by
    obtain ⟨v, r, rfl, hv, hr⟩ := h
    exact ⟨v, _, rfl, hv, hr.append h'⟩
theorem RVs.take : ∀ {ps : List PV} {vs : List V} (n : Nat), RVs K H F ps vs → RVs K H F (ps.take n) (vs.take n)
  | ps, vs, 0, h => by
    rw [List.take_zero, List.take_zero]
    exact (rfl : ([] : List V) = [])
  | [], _, n + 1, h => by
    have e : _ = [] := h
    rw [e]; exact (rfl : ([] : List V) = [])
  | p :: ps, _, n + 1, h => by
    obtain ⟨v, r, rfl, hv, hr⟩ := h
    exact ⟨v, _, rfl, hv, hr.take n⟩
theorem RVs.drop : ∀ {ps : List PV} {vs : List V} (n : Nat), RVs K H F ps vs → RVs K H F (ps.drop n) (vs.drop n)
  | ps, vs, 0, h => h
  | [], _, n + 1, h => by
    have e : _ = [] := h
    rw [e]; exact (rfl : ([] : List V) = [])
  | p :: ps, _, n + 1, h => by
    obtain ⟨v, r, rfl, hv, hr⟩ := h
    exact hr.drop n
theorem RVs.set : ∀ {ps : List PV} {vs : List V} (n : Nat) {p : PV} {v : V}, RVs K H F ps vs → RV K H F p v → RVs K H F (ps.set n p) (vs.set n v)
  | [], _, n, _, _, h, _ => by
    have e : _ = [] := h
    rw [e]; exact (rfl : ([] : List V) = [])
  | q :: ps, _, 0, p, v, h, hp => by
    obtain ⟨w, r, rfl, hv, hr⟩ := h
    exact ⟨v, r, rfl, hp, hr⟩
  | q :: ps, _, n + 1, p, v, h, hp => by
    obtain ⟨w, r, rfl, hv, hr⟩ := h
    exact ⟨w, _, rfl, hv, hr.set n hp⟩
theorem RVs.one {p : PV} {v : V} (h : RV K H F p v) : RVs K H F [p] [v] := ⟨v, [], rfl, h, rfl⟩
theorem RVs.nil : RVs K H F [] [] := rfl
theorem RVs.cons {p : PV} {v : V} {ps : List PV} {vs : List V} (h : RV K H F p v) (t : RVs K H F ps vs) : RVs K H F (p :: ps) (v :: vs) := ⟨v, vs, rfl, h, t⟩

theorem Rd.same (s : Same H H') {a : Addr} {u : HO} (r : Rd H a u) : Rd H' a u := by
  rcases r with r | ⟨o, r⟩
  · exact .inl (s _ _ r)
  · exact .inr ⟨o, s _ _ r⟩
theorem Rd.ne {a : Addr} {u : HO} (r : Rd H a u) : H a ≠ none := by
  rcases r with r | ⟨o, r⟩ <;> (rw [r]; exact fun z => nomatch z)
/-- the heap may change at forbidden addresses, but for tuples and locked things; new forbidden ones were free -/
structure Ext (F : Fb) (H H' : Hp) : Prop where
  keep : ∀ b x, ¬ F b → H b = some x → H' b = some x
  tup : ∀ b xs, H b = some (.tup xs) → H' b = some (.tup xs)
  frz : ∀ b o u, H b = some (.frz o u) → H' b = some (.frz o u)
theorem Ext.refl : Ext F H H := ⟨fun _ _ _ e => e, fun _ _ e => e, fun _ _ _ e => e⟩
theorem Ext.of_same (s : Same H H') : Ext F H H' := ⟨fun b x _ e => s b x e, fun b xs e => s b _ e, fun b o u e => s b _ e⟩
theorem Ext.rd (x : Ext F H H') {a : Addr} {u : HO} (r : Rd H a u) (h : ¬ F a) : Rd H' a u := by
  rcases r with r | ⟨o, r⟩
  · exact .inl (x.keep _ _ h r)
  · exact .inr ⟨o, x.frz _ _ _ r⟩
theorem Ext.sqT (x : Ext F H H') {a : Addr} {vs : List V} (r : SqT K H a vs) : SqT K H' a vs := by
  rcases r with r | r
  · rcases r with r | ⟨o, r⟩
    · exact .inl (.inl (x.tup _ _ r))
    · exact .inl (.inr ⟨o, x.frz _ _ _ r⟩)
  · exact .inr r
/-- the new forbidden addresses were forbidden, or free -/
def Grows (H : Hp) (F F' : Fb) : Prop := ∀ b, F' b → F b ∨ H b = none
theorem Grows.refl : Grows H F F := fun _ h => .inl h
mutual
theorem RV.mono (x : Ext F H H') (g : Grows H F F') : ∀ {p : PV} {v : V}, RV K H F p v → RV K H' F' p v
  | .non, _, h => h
  | .bl _, _, h => h
  | .int _, _, h => h
  | .str _, _, h => h
  | .ins _ _, _, h => h
  | .ty _, _, h => h
  | .cl _, _, h => h
  | .tup xs, v, h => by
    obtain ⟨a, vs, e, r, z, q⟩ := h
    exact ⟨a, vs, e, x.sqT r, z, RVs.mono x g q⟩
  | .lst xs, v, h => by
    obtain ⟨a, vs, e, r, z, nf, q⟩ := h
    refine ⟨a, vs, e, x.keep _ _ nf r, z, fun f => ?_, RVs.mono x g q⟩
    rcases g a f with f | f
    · exact nf f
    · rw [r] at f; cases f
  | .dct ks xs, v, h => by
    obtain ⟨a, vs, e, r, z, nf, k, q⟩ := h
    refine ⟨a, vs, e, x.keep _ _ nf r, z, fun f => ?_, k, RVs.mono x g q⟩
    rcases g a f with f | f
    · exact nf f
    · rw [r] at f; cases f
theorem RVs.mono (x : Ext F H H') (g : Grows H F F') : ∀ {p : List PV} {v : List V}, RVs K H F p v → RVs K H' F' p v
  | [], _, h => h
  | p :: ps, _, h => by
    obtain ⟨v, r, e, hv, hr⟩ := h
    exact ⟨v, r, e, RV.mono x g hv, RVs.mono x g hr⟩
end
theorem RV.same (s : Same H H') {p : PV} {v : V} (h : RV K H F p v) : RV K H' F p v := h.mono (.of_same s) .refl
theorem RVs.same (s : Same H H') {p : List PV} {v : List V} (h : RVs K H F p v) : RVs K H' F p v := h.mono (.of_same s) .refl
theorem SqL.same (s : Same H H') {a : Addr} {vs : List V} (r : SqL K H a vs) : SqL K H' a vs := by
  rcases r with r | r
  · exact .inl (Rd.same s r)
  · exact .inr r
theorem RT.same (s : Same H H') : ∀ {p : PV} {v : V}, RT K H F p v → RT K H' F p v
  | .non, _, h => h
  | .bl _, _, h => h
  | .int _, _, h => h
  | .str _, _, h => h
  | .ins _ _, _, h => h
  | .ty _, _, h => h
  | .cl _, _, h => h
  | .tup xs, v, h => RV.same (p := .tup xs) s h
  | .lst xs, v, h => by
    obtain ⟨a, vs, e, r, z, q⟩ := h
    exact ⟨a, vs, e, SqL.same s r, z, q.same s⟩
  | .dct ks xs, v, h => by
    obtain ⟨a, vs, e, r, z, k, q⟩ := h
    exact ⟨a, vs, e, s _ _ r, z, k, q.same s⟩
/-- forbidden: what callers own, what is one's own -/
def fb (B : Fb) (m : List Addr) : Fb := fun b => B b ∨ b ∈ m
/-- a list among what is kept for good -/
def KL (K : PySem.W.Frag) (a : Addr) (vs : List V) : Prop := SqL K (fun _ => none) a vs
theorem KL.sq {a : Addr} {vs : List V} (h : KL K a vs) : SqL K H a vs := by
  rcases h with h | h
  · rcases h with h | ⟨o, h⟩ <;> cases h
  · exact .inr h
/-- .. a caller's: the list or dict itself is not one's own -/
def RB (K : PySem.W.Frag) (H : Hp) (F : Fb) (m : List Addr) : PV → V → Prop
  | .lst xs, v => ∃ a vs, v = .ref a ∧ ((Rd H a (.lst vs) ∧ a ∉ m) ∨ KL K a vs) ∧ vs.length ≤ sizeLine ∧ RVs K H F xs vs
  | .dct ks xs, v => ∃ a kvs, v = .ref a ∧ H a = some (.dK kvs) ∧ a ∉ m ∧ kvs.length ≤ sizeLine ∧ ks = kvs.map (fun z => kP z.1) ∧ RVs K H F xs (kvs.map (·.2))
  | p, v => RV K H F p v
theorem RB.top {m : List Addr} : ∀ {p : PV} {v : V}, RB K H F m p v → RT K H F p v
  | .non, _, h => h
  | .bl _, _, h => h
  | .int _, _, h => h
  | .str _, _, h => h
  | .tup _, _, h => h
  | .ins _ _, _, h => h
  | .ty _, _, h => h
  | .cl _, _, h => h
  | .lst xs, v, h => by
    obtain ⟨a, vs, e, r, z, q⟩ := h
    refine ⟨a, vs, e, ?_, z, q⟩
    rcases r with r | r
    · exact .inl r.1
    · exact r.sq
  | .dct ks xs, v, h => by
    obtain ⟨a, vs, e, r, _, z, k, q⟩ := h
    exact ⟨a, vs, e, r, z, k, q⟩
theorem RB.same (s : Same H H') {m : List Addr} : ∀ {p : PV} {v : V}, RB K H F m p v → RB K H' F m p v
  | .non, _, h => h
  | .bl _, _, h => h
  | .int _, _, h => h
  | .str _, _, h => h
  | .ins _ _, _, h => h
  | .ty _, _, h => h
  | .cl _, _, h => h
  | .tup xs, v, h => RV.same (p := .tup xs) s h
  | .lst xs, v, h => by
    obtain ⟨a, vs, e, r, z, q⟩ := h
    refine ⟨a, vs, e, ?_, z, q.same s⟩
    rcases r with r | r
    · exact .inl ⟨Rd.same s r.1, r.2⟩
    · exact .inr r
  | .dct ks xs, v, h => by
    obtain ⟨a, vs, e, r, n, z, k, q⟩ := h
    exact ⟨a, vs, e, s _ _ r, n, z, k, q.same s⟩
theorem RV.bor {B : Fb} {m : List Addr} : ∀ {p : PV} {v : V}, RV K H (fb B m) p v → RB K H (fb B m) m p v
  | .non, _, h => h
  | .bl _, _, h => h
  | .int _, _, h => h
  | .str _, _, h => h
  | .tup _, _, h => h
  | .ins _ _, _, h => h
  | .ty _, _, h => h
  | .cl _, _, h => h
  | .lst xs, v, h => by
    obtain ⟨a, vs, e, r, z, nf, q⟩ := h
    exact ⟨a, vs, e, .inl ⟨.inl r, fun w => nf (.inr w)⟩, z, q⟩
  | .dct ks xs, v, h => by
    obtain ⟨a, vs, e, r, z, nf, k, q⟩ := h
    exact ⟨a, vs, e, r, fun w => nf (.inr w), z, k, q⟩
/-- what an expression gives -/
def RF (K : PySem.W.Frag) (H : Hp) (B : Fb) (m : List Addr) (n : Nat) (p : PV) (v : V) : Prop := if n = 0 then RV K H (fb B m) p v else RT K H (fb B m) p v ∧ (n = 1 → RB K H (fb B m) m p v)
section
variable {B : Fb} {m : List Addr}
theorem RF.top {n : Nat} {p : PV} {v : V} (h : RF K H B m n p v) : RT K H (fb B m) p v := by
  unfold RF at h
  split at h
  · exact h.top
  · exact h.1
theorem RF.zero {n : Nat} {p : PV} {v : V} (h : RF K H B m n p v) (e : n = 0) : RV K H (fb B m) p v := by
  unfold RF at h
  rw [if_pos e] at h
  exact h
theorem RF.bor {n : Nat} {p : PV} {v : V} (h : RF K H B m n p v) (e : n ≤ 1) : RB K H (fb B m) m p v := by
  unfold RF at h
  split at h
  · exact h.bor
  · exact h.2 (by omega)
theorem RF.mk {n : Nat} {p : PV} {v : V} (e : n ≠ 0) (h : RT K H (fb B m) p v) (t : n = 1 → RB K H (fb B m) m p v) : RF K H B m n p v := by
  unfold RF
  rw [if_neg e]
  exact ⟨h, t⟩
theorem RF.of {n : Nat} {p : PV} {v : V} (h : RV K H (fb B m) p v) : RF K H B m n p v := by
  unfold RF
  split
  · exact h
  · exact ⟨h.top, fun _ => h.bor⟩
theorem RF.same (s : Same H H') {n : Nat} {p : PV} {v : V} (h : RF K H B m n p v) : RF K H' B m n p v := by
  unfold RF at h ⊢
  split
  · rename_i e; rw [if_pos e] at h; exact h.same s
  · rename_i e; rw [if_neg e] at h; exact ⟨h.1.same s, fun z => (h.2 z).same s⟩
end

/-! ### slots and own objects -/
def RO (K : PySem.W.Frag) (H : Hp) (F : Fb) (a : Addr) : OO → Prop
  | .l xs => ∃ vs, H a = some (.lst vs) ∧ vs.length ≤ sizeLine ∧ RVs K H F xs vs
  | .d ks xs => ∃ kvs, H a = some (.dK kvs) ∧ kvs.length ≤ sizeLine ∧ ks = kvs.map (fun z => kP z.1) ∧ RVs K H F xs (kvs.map (·.2))
  | .ins _ _ => False
def RS (K : PySem.W.Frag) (H : Hp) (F : Fb) (m : List Addr) : SV → V → Prop
  | .d false p, v => RV K H F p v
  | .d true p, v => RB K H F m p v
  | .r n, v => ∃ a, m[n]? = some a ∧ v = .ref a
/-- the own objects -/
structure Rh (K : PySem.W.Frag) (H : Hp) (B : Fb) (m : List Addr) (h : OH) : Prop where
  fok : ∀ b, B b → H b ≠ none
  ap : ∀ a ∈ m, ¬ B a
  nd : m.Nodup
  len : m.length = h.length
  obj : ∀ (n : Nat) a o, m[n]? = some a → h[n]? = some o → RO K H (fb B m) a o
/-- the evaluator's state is the layer's -/
structure Rl (K : PySem.W.Frag) (H : Hp) (B : Fb) (m : List Addr) (σ : St) (h : OH) (τ : L2.St) : Prop extends Rh K H B m h where
  sl : σ.length = τ.length
  slot : ∀ (i : Nat) s, σ[i]? = some (some s) → ∃ v, τ[i]? = some (some v) ∧ RS K H (fb B m) m s v
theorem RO.same (s : Same H H') {a : Addr} : ∀ {o : OO}, RO K H F a o → RO K H' F a o
  | .l xs, h => by
    obtain ⟨vs, e, z, q⟩ := h
    exact ⟨vs, s _ _ e, z, q.same s⟩
  | .d ks xs, h => by
    obtain ⟨vs, e, z, k, q⟩ := h
    exact ⟨vs, s _ _ e, z, k, q.same s⟩
  | .ins _ _, h => h
theorem RS.same (s : Same H H') {m : List Addr} : ∀ {x : SV} {v : V}, RS K H F m x v → RS K H' F m x v
  | .d false p, v, h => RV.same s h
  | .d true p, v, h => RB.same s h
  | .r n, v, h => h
theorem RO.ne {a : Addr} : ∀ {o : OO}, RO K H F a o → H a ≠ none
  | .l xs, h => by
    obtain ⟨vs, e, _⟩ := h
    rw [e]; exact fun z => nomatch z
  | .d ks xs, h => by
    obtain ⟨vs, e, _⟩ := h
    rw [e]; exact fun z => nomatch z
  | .ins _ _, h => h.elim
theorem Rh.ne {B : Fb} {m : List Addr} {h : OH} (r : Rh K H B m h) {b : Addr} (f : fb B m b) : H b ≠ none := by
  rcases f with f | f
  · exact r.fok b f
  · obtain ⟨n, hn, e⟩ := List.getElem_of_mem f
    have e1 : m[n]? = some b := by rw [List.getElem?_eq_getElem hn, e]
    have hh : n < h.length := by rw [← r.len]; exact hn
    exact (r.obj n b _ e1 (List.getElem?_eq_getElem hh)).ne
theorem Rh.free {B : Fb} {m : List Addr} {h : OH} (r : Rh K H B m h) {b : Addr} (f : H b = none) : ¬ fb B m b := fun q => r.ne q f
theorem Rh.same {B : Fb} {m : List Addr} {h : OH} (s : Same H H') (r : Rh K H B m h) : Rh K H' B m h where
  fok := fun b f => by
    have q := r.fok b f
    cases e : H b with
    | none => exact absurd e q
    | some x => rw [s _ _ e]; exact fun z => nomatch z
  ap := r.ap
  nd := r.nd
  len := r.len
  obj := fun n a o h1 h2 => (r.obj n a o h1 h2).same s
theorem Rl.same {B : Fb} {m : List Addr} {σ : St} {h : OH} {τ : L2.St} (s : Same H H') (r : Rl K H B m σ h τ) : Rl K H' B m σ h τ where
  toRh := r.toRh.same s
  sl := r.sl
  slot := fun i x e => by
    obtain ⟨v, h1, h2⟩ := r.slot i x e
    exact ⟨v, h1, h2.same s⟩
end
end Ev

set_option Elab.async false
set_option linter.all false
set_option maxRecDepth 100000
/-! Ev2: the evaluator's expressions, over the layer's rules. -/
namespace Ev
open PySem PySem.Spec PyProof.Rows L2

theorem Same.refl {H : Hp} : Same H H := fun _ _ e => e
theorem Same.trans' {H H1 H2 : Hp} (a : Same H H1) (b : Same H1 H2) : Same H H2 := fun x y e => b x y (a x y e)
theorem same_upd {H : Hp} {p : Addr} {o : HO} (h : H p = none) : Same H (upd H p o) := fun b x e => by
  rw [upd_ne (ne_of_none e h)]
  exact e

/-- an exception of one's own: its class, its one field -/
def RX (K : PySem.W.Frag) (mg : Str → Option Value) (H : Hp) (F : Fb) (cls : Value) (d : Option Addr) (x : Exn) : Prop :=
  mg x.cls = some cls ∧ match x.fld with
    | none => d = none
    | some p => ∃ da nm v, d = some da ∧ H da = some (.xd [(nm, v)]) ∧ RV K H F p v
theorem RX.same {K : PySem.W.Frag} {mg : Str → Option Value} {H H' : Hp} {F : Fb} {cls : Value} {d : Option Addr} {x : Exn} (s : Same H H') (h : RX K mg H F cls d x) : RX K mg H' F cls d x := by
  obtain ⟨h1, h2⟩ := h
  refine ⟨h1, ?_⟩
  cases e : x.fld with
  | none => rw [e] at h2; exact h2
  | some p =>
    rw [e] at h2
    obtain ⟨da, nm, v, e1, e2, r⟩ := h2
    exact ⟨da, nm, v, e1, s _ _ e2, r.same s⟩

section
variable (K : PySem.W.Frag) (mg : Str → Option Value) (W : WX) (B : Fb) (m : List Addr) (τ : L2.St)
/-- what is wanted of an answer -/
def Gd {α β : Type} (rel : Hp → α → β → Prop) (H : Hp) (r : R α) (Q : β → Hp → Prop) : Prop := match r with
  | some (.ok p) => ∀ v H', Same H H' → rel H' p v → Q v H'
  | some (.error x) => ∀ cls d H', Same H H' → RX K mg H' (fb B m) cls d x → W cls d τ H'
  | none => False
end
section
variable {K : PySem.W.Frag} {mg : Str → Option Value} {W : WX} {B : Fb} {m : List Addr} {τ : L2.St} {α β γ δ : Type} {H H1 : Hp}
theorem Gd.later {rel : Hp → α → β → Prop} {r : R α} {Q : β → Hp → Prop} (s : Same H H1) (g : Gd K mg W B m τ rel H r Q) : Gd K mg W B m τ rel H1 r Q := by
  cases r with
  | none => exact g
  | some r =>
    cases r with
    | ok p => exact fun v H' s' q => g v H' (Same.trans' s s') q
    | error x => exact fun cls d H' s' q => g cls d H' (Same.trans' s s') q
theorem Gd.bnd {rel : Hp → α → β → Prop} {rel' : Hp → γ → δ → Prop} {r : R α} {k : α → R γ} {Q : δ → Hp → Prop} (g : Gd K mg W B m τ rel' H (Ev.bnd r k) Q) :
    Gd K mg W B m τ rel H r (fun v H1 => ∃ p, Same H H1 ∧ rel H1 p v ∧ Gd K mg W B m τ rel' H1 (k p) Q) := by
  cases r with
  | none => exact g
  | some r =>
    cases r with
    | ok p => exact fun v H' s q => ⟨p, s, q, Gd.later s g⟩
    | error x => exact g
theorem Gd.imp {rel : Hp → α → β → Prop} {r : R α} {Q Q' : β → Hp → Prop} (g : Gd K mg W B m τ rel H r Q) (h : ∀ v H', Q v H' → Q' v H') : Gd K mg W B m τ rel H r Q' := by
  cases r with
  | none => exact g
  | some r =>
    cases r with
    | ok p => exact fun v H' s q => h v H' (g v H' s q)
    | error x => exact g
theorem Gd.ok {rel : Hp → α → β → Prop} {p : α} {v : β} {Q : β → Hp → Prop} (g : Gd K mg W B m τ rel H (some (.ok p)) Q) (q : rel H p v) : Q v H := g v H (fun _ _ e => e) q
theorem Gd.new {rel : Hp → α → β → Prop} {p : α} {v : β} {Q : β → Hp → Prop} (g : Gd K mg W B m τ rel H (some (.ok p)) Q) (s : Same H H1) (q : rel H1 p v) : Q v H1 := g v H1 s q
theorem Gd.some {rel : Hp → α → β → Prop} {o : Option α} {Q : β → Hp → Prop} (g : Gd K mg W B m τ rel H (o.map .ok) Q) : ∃ p, o = some p ∧ Gd K mg W B m τ rel H (.some (.ok p)) Q := by
  cases o with
  | none => exact g.elim
  | some p => exact ⟨p, rfl, g⟩
theorem Gd.wo {rel : Hp → α → β → Prop} {o : Option γ} {k : γ → R α} {Q : β → Hp → Prop} (g : Gd K mg W B m τ rel H (withO o k) Q) : ∃ p, o = .some p ∧ Gd K mg W B m τ rel H (k p) Q := by
  cases o with
  | none => exact g.elim
  | some p => exact ⟨p, rfl, g⟩
theorem Gd.ite {rel : Hp → α → β → Prop} {c : Prop} [Decidable c] {r : R α} {Q : β → Hp → Prop} (g : Gd K mg W B m τ rel H (if c then r else none) Q) : c ∧ Gd K mg W B m τ rel H r Q := by
  by_cases h : c
  · rw [if_pos h] at g; exact ⟨h, g⟩
  · rw [if_neg h] at g; exact g.elim
end
/-- an expression's value -/
abbrev rF (K : PySem.W.Frag) (B : Fb) (m : List Addr) (n : Nat) : Hp → PV → V → Prop := fun H p v => RF K H B m n p v
abbrev rB : Hp → Bool → Bool → Prop := fun _ p v => p = v
/-- an expression's reading by the evaluator -/
def tE (K : PySem.W.Frag) (mg : Str → Option Value) (P : Pg) (W : WX) (c : CE) : TE := fun τ H Q => ∃ B m σ h, Rl K H B m σ h τ ∧ Gd K mg W B m τ (rF K B m (flg σ c)) H (ev P c σ h) Q
def tT (K : PySem.W.Frag) (mg : Str → Option Value) (P : Pg) (W : WX) (c : CE) : TT := fun τ H Q => ∃ B m σ h, Rl K H B m σ h τ ∧ Gd K mg W B m τ rB H (evT P c σ h) Q

theorem PE.imp {X : Cx} {e : Expr} {t t' : TE} (h : PE X e t) (i : ∀ σ H Q, t' σ H Q → t σ H Q) : PE X e t' := ⟨fun pins s σ H Q I hw => h.run pins s σ H Q I (i _ _ _ hw)⟩
theorem PT.imp {X : Cx} {e : Expr} {t t' : TT} (h : PT X e t) (i : ∀ σ H Q, t' σ H Q → t σ H Q) : PT X e t' := ⟨fun pins s σ H Q I hw => h.run pins s σ H Q I (i _ _ _ hw)⟩
theorem PW.imp {X : Cx} {e : Expr} {t t' : TT} (h : PW X e t) (i : ∀ σ H Q, t' σ H Q → t σ H Q) : PW X e t' := ⟨fun w pins s σ H Q I hw => h.run w pins s σ H Q I (i _ _ _ hw)⟩
theorem PA.imp {X : Cx} {e : List Expr} {t t' : TA} (h : PA X e t) (i : ∀ σ H Q, t' σ H Q → t σ H Q) : PA X e t' := ⟨fun pos pins s σ H Q I hw => h.run pos pins s σ H Q I (i _ _ _ hw)⟩

theorem OpR.or {X : Cx} {f : Value → Value → Sem Value} {r r' : R2} (h : OpR X f r) (h' : OpR X f r') : OpR X f (fun x y H Q => r x y H Q ∨ r' x y H Q) := by
  intro pins s σ H x y v u Q I rx ry q
  rcases q with q | q
  · exact h pins s σ H x y v u Q I rx ry q
  · exact h' pins s σ H x y v u Q I rx ry q
theorem CallR.or {X : Cx} {f : Value} {r r' : List V → Hp → VK → Prop} (h : CallR X f r) (h' : CallR X f r') : CallR X f (fun xs H Q => r xs H Q ∨ r' xs H Q) := by
  intro pins s σ H xs us Q I rx q
  rcases q with q | q
  · exact h pins s σ H xs us Q I rx q
  · exact h' pins s σ H xs us Q I rx q

/-! ### data -/
mutual
def dat : PV → PyData
  | .non => .none
  | .bl b => .bool b
  | .int i => .int i
  | .str s => .str s
  | .tup xs => .tuple (dats xs)
  | .lst xs => .list (dats xs)
  | .dct _ _ | .ins _ _ | .ty _ | .cl _ => .none
def dats : List PV → List PyData
  | [] => []
  | x :: xs => dat x :: dats xs
end
mutual
theorem peq_dat : ∀ (a b : PV), isData a = true → isData b = true → peq a b = PyData.eqv (dat a) (dat b) := by
  intro a b ha hb
  cases a <;> cases b <;> first
    | (simp only [isData] at ha; exact absurd ha (by decide))
    | (simp only [isData] at hb; exact absurd hb (by decide))
    | (simp only [isData] at ha hb; simp only [peq, dat, PyData.eqv]; done)
    | (simp only [isData] at ha hb; simp only [peq, dat, PyData.eqv]; exact peqs_dat _ _ ha hb)
theorem peqs_dat : ∀ (a b : List PV), areData a = true → areData b = true → peqs a b = PyData.eqvAll (dats a) (dats b)
  | [], [], _, _ => by simp only [peqs, dats, PyData.eqvAll]
  | [], _ :: _, _, _ => by simp only [peqs, dats, PyData.eqvAll]
  | _ :: _, [], _, _ => by simp only [peqs, dats, PyData.eqvAll]
  | x :: xs, y :: ys, ha, hb => by
    simp only [areData, Bool.and_eq_true] at ha hb
    simp only [peqs, dats, PyData.eqvAll, peq_dat x y ha.1 hb.1, peqs_dat xs ys ha.2 hb.2]
end

mutual
theorem lay_dat : ∀ (a : PV), isData a = true → (dat a).canLay0 = true ∧ (dat a).depth = depth a := by
  intro a ha
  cases a <;> first
    | (simp only [isData] at ha; exact absurd ha (by decide))
    | (simp only [isData] at ha; simp only [dat, PyData.canLay0, PyData.depth, depth, and_self]; done)
    | (simp only [isData] at ha; exact ⟨by simp only [dat, PyData.canLay0]; exact ha, by simp only [dat, PyData.depth, depth]⟩)
    | (simp only [isData] at ha
       obtain ⟨h1, h2⟩ := lays_dat _ ha
       exact ⟨by simp only [dat, PyData.canLay0]; exact h1, by simp only [dat, PyData.depth, depth, h2]⟩)
theorem lays_dat : ∀ (a : List PV), areData a = true → PyData.canLayAll0 (dats a) = true ∧ PyData.depthAll (dats a) = depths a
  | [], _ => ⟨rfl, rfl⟩
  | x :: xs, ha => by
    simp only [areData, Bool.and_eq_true] at ha
    obtain ⟨h1, h2⟩ := lay_dat x ha.1
    obtain ⟨h3, h4⟩ := lays_dat xs ha.2
    exact ⟨by simp only [dats, PyData.canLayAll0, h1, h3, Bool.and_self], by simp only [dats, PyData.depthAll, depths, h2, h4]⟩
end
theorem cmpOk_data {p : PV} (h : cmpOk p = true) : isData p = true := (Bool.and_eq_true_iff.mp h).1
theorem shaped_dat {p : PV} (h : cmpOk p = true) : SeqAt.shaped (dat p) = true := by
  obtain ⟨h1, h2⟩ := Bool.and_eq_true_iff.mp h
  obtain ⟨h3, h4⟩ := lay_dat p h1
  unfold SeqAt.shaped
  rw [h3, h4]
  exact h2
section
variable {K : PySem.W.Frag} {H : Hp} {F : Fb}
mutual
theorem RV.dp : ∀ {p : PV} {v : V}, isData p = true → RV K H F p v → Dp K H v (dat p)
  | .non, _, _, h => by cases (show _ = V.non from h); exact .non
  | .bl b, _, _, h => by cases (show _ = V.bl b from h); exact .bl b
  | .int i, _, _, h => by cases (show _ = V.int i from h); exact .int i
  | .str x, _, _, h => by cases (show _ = V.str x from h); exact .str x
  | .tup xs, _, d, h => by
    obtain ⟨a, vs, rfl, r, _, q⟩ := h
    exact .tup r (RVs.dp (by simpa only [isData] using d) q)
  | .lst xs, _, d, h => by
    obtain ⟨a, vs, rfl, r, _, _, q⟩ := h
    exact .lst (.inl (.inl r)) (RVs.dp (by simpa only [isData] using d) q)
  | .dct _ _, _, d, _ => by simp only [isData] at d; cases d
  | .ins _ _, _, d, _ => by simp only [isData] at d; cases d
  | .ty _, _, d, _ => by simp only [isData] at d; cases d
  | .cl _, _, d, _ => by simp only [isData] at d; cases d
theorem RVs.dp : ∀ {p : List PV} {v : List V}, areData p = true → RVs K H F p v → DpAll K H v (dats p)
  | [], _, _, h => by cases (show _ = [] from h); exact .nil
  | p :: ps, _, d, h => by
    obtain ⟨v, r, rfl, hv, hr⟩ := h
    simp only [areData, Bool.and_eq_true] at d
    exact .cons (RV.dp d.1 hv) (RVs.dp d.2 hr)
end
theorem RT.dp {p : PV} {v : V} (d : isData p = true) (h : RT K H F p v) : Dp K H v (dat p) := by
  cases p with
  | lst xs =>
    obtain ⟨a, vs, rfl, r, _, q⟩ := h
    exact .lst r (RVs.dp (by simpa only [isData] using d) q)
  | dct _ _ => simp only [isData] at d; cases d
  | _ => exact RV.dp (F := F) d h
theorem RT.int {i : Int} {v : V} (h : RT K H F (.int i) v) : v = .int i := h
theorem RT.bl {b : Bool} {v : V} (h : RT K H F (.bl b) v) : v = .bl b := h
theorem RT.non {v : V} (h : RT K H F .non v) : v = .non := h
theorem RT.lst {xs : List PV} {v : V} (h : RT K H F (.lst xs) v) : ∃ a vs, v = .ref a ∧ SqL K H a vs ∧ vs.length ≤ sizeLine ∧ RVs K H F xs vs := by
  obtain ⟨a, vs, e, r, z, q⟩ := h
  exact ⟨a, vs, e, r, z, q⟩
theorem RT.tup {xs : List PV} {v : V} (h : RT K H F (.tup xs) v) : ∃ a vs, v = .ref a ∧ SqT K H a vs ∧ vs.length ≤ sizeLine ∧ RVs K H F xs vs := h
end

/-! ### the context -/
/-- what is told once for a def's text: the names by slots, the scope, what is around -/
structure Cok (X : Cx) (N : List Str) (sc : Scope) (W : WX) : Prop where
  hN : X.N = N
  nd : N.Nodup
  scp : X.env.scope = sc
  cal : X.calm = true
  rm : Room 1 X.A
  tk : Takes X W
  fnl : ∀ x, sc.names.lookup x = some .cell → X.fn x = true

section
variable {X : Cx} {N : List Str} {sc : Scope} {W : WX} {P : Pg} {e a b : Expr} {ca cb : CE} {pos : Pos}
theorem flg_cst {σ : St} {p : PV} : flg σ (.cst p) = 0 := rfl
theorem s_cst {p : PV} {v : V} (h : PE X e (tC v)) (hp : ∀ H F, RV X.K H F p v) : PE X e (tE X.K X.mg P W (.cst p)) := by
  refine PE.imp h fun τ H Q ⟨B, m, σ, h, R, g⟩ => ?_
  exact Gd.ok (p := p) (by simpa only [ev] using g) (RF.of (hp _ _))
theorem s_loc {i : Nat} (h : PE X e (tVar i)) : PE X e (tE X.K X.mg P W (.loc i)) := by
  refine PE.imp h fun τ H Q ⟨B, m, σ, h, R, g⟩ => ?_
  simp only [ev] at g
  cases q : σ[i]? with
  | none => rw [q] at g; exact g.elim
  | some o =>
    cases o with
    | none => rw [q] at g; exact g.elim
    | some s =>
      rw [q] at g
      obtain ⟨p, hp, g⟩ := Gd.some g
      obtain ⟨v, hv, rs⟩ := R.slot i s q
      refine ⟨v, hv, Gd.ok g ?_⟩
      cases s with
      | d k p' =>
        have e1 : p' = p := by simpa only [viewS, Option.some.injEq] using hp
        subst e1
        cases k with
        | false => exact RF.of rs
        | true =>
          have e2 : flg σ (.loc i) = 1 := by simp only [flg, q]
          show RF _ _ _ _ (flg σ (.loc i)) _ _
          rw [e2]
          exact RF.mk (by decide) (RB.top rs) fun _ => rs
      | r n =>
        have e2 : flg σ (.loc i) = 2 := by simp only [flg, q]
        show RF _ _ _ _ (flg σ (.loc i)) _ _
        rw [e2]
        refine RF.mk (by decide) ?_ (fun z => by cases z)
        obtain ⟨a, ha, rfl⟩ := rs
        simp only [viewS] at hp
        cases qo : h[n]? with
        | none => rw [qo] at hp; cases hp
        | some o =>
          rw [qo] at hp
          have ro := R.obj n a o ha qo
          cases o with
          | l xs =>
            have e3 : PV.lst xs = p := by simpa only [Option.bind_some, viewO, Option.some.injEq] using hp
            subst e3
            obtain ⟨vs, h1, h2, h3⟩ := ro
            exact ⟨a, vs, rfl, .inl (.inl h1), h2, h3⟩
          | d ks xs =>
            have e3 : PV.dct ks xs = p := by simpa only [Option.bind_some, viewO, Option.some.injEq] using hp
            subst e3
            obtain ⟨vs, h1, h2, h3, h4⟩ := ro
            exact ⟨a, vs, rfl, h1, h2, h3, h4⟩
          | ins c fs => exact ro.elim
end
end Ev

set_option Elab.async false
set_option linter.all false
set_option maxRecDepth 100000
/-! Ev3: operators, comparisons, subscripts by values. -/
namespace Ev
open PySem PySem.Spec PyProof.Rows L2
theorem big_eq : big = sizeLine := by decide

section
variable {X : Cx}
/-- a new object's value -/
theorem RV.newLst {K : PySem.W.Frag} {H : Hp} {B : Fb} {m : List Addr} {h : OH} (R : Rh K H B m h) {p : Addr} (np : H p = none) {xs : List PV} {vs : List V} (z : vs.length ≤ sizeLine) (r : RVs K H (fb B m) xs vs) :
    RV K (upd H p (.lst vs)) (fb B m) (.lst xs) (.ref p) := ⟨p, vs, rfl, upd_same, z, R.free np, r.same (same_upd np)⟩
theorem RV.newTup {K : PySem.W.Frag} {H : Hp} {F : Fb} {p : Addr} (np : H p = none) {xs : List PV} {vs : List V} (z : vs.length ≤ sizeLine) (r : RVs K H F xs vs) :
    RV K (upd H p (.tup vs)) F (.tup xs) (.ref p) := ⟨p, vs, rfl, .inl (.inl upd_same), z, r.same (same_upd np)⟩

/-! ### binary operators -/
def opB : Op → Operator
  | .add => .Add | .sub => .Sub | .mul => .Mult | .fdiv => .FloorDiv | .mod => .Mod
def isLst : PV → Bool
  | .lst _ => true
  | _ => false
/-- the operator on values that are so: a list comes of lists that may be kept -/
def rOp2 (K : PySem.W.Frag) (o : Op) : R2 := fun x y H Q => ∃ B m h p q z, Rh K H B m h ∧ RT K H (fb B m) p x ∧ RT K H (fb B m) q y ∧ op2 o p q = some z ∧
  (isLst z = true → RV K H (fb B m) p x ∧ RV K H (fb B m) q y) ∧ ∀ v H', Same H H' → RV K H' (fb B m) z v → Q v H'
theorem op_add2 : OpR X (binaryOp .Add) (rOp2 X.K .add) := by
  intro pins s σ H x y v u Q I rx ry ⟨B, m, h, p, q, z, R, hp, hq, e, hl, k⟩
  cases p with
  | int i =>
    cases (show x = V.int i from hp)
    cases q with
    | int j =>
      cases (show y = V.int j from hq)
      have e' : PV.int (i + j) = z := by simpa only [op2, Option.some.injEq] using e
      subst e'
      exact op_add pins s σ H _ _ v u Q I rx ry ⟨i, j, rfl, rfl, k _ _ Same.refl rfl⟩
    | bl b =>
      cases (show y = V.bl b from hq)
      have e' : PV.int (i + if b then 1 else 0) = z := by simpa only [op2, Option.some.injEq] using e
      subst e'
      refine op_add_ib pins s σ H _ _ v u Q I rx ry ⟨i, b, rfl, rfl, k _ _ Same.refl ?_⟩
      show V.int _ = V.int _
      cases b <;> rfl
    | _ => simp only [op2] at e; cases e
  | lst xs =>
    cases q with
    | lst ys =>
      simp only [op2] at e
      split at e
      · rename_i hz
        have e' : PV.lst (xs ++ ys) = z := by simpa only [Option.some.injEq] using e
        subst e'
        obtain ⟨⟨a, vs, rfl, ha, za, _, ra⟩, ⟨b, ws, rfl, hb, zb, _, rb⟩⟩ := hl rfl
        have hn : vs.length + ws.length ≤ sizeLine := by rw [← ra.length, ← rb.length, ← big_eq]; exact hz
        refine op_cat pins s σ H _ _ v u Q I rx ry ⟨a, b, vs, ws, rfl, rfl, ha, hb, hn, fun t nt => k _ _ (same_upd nt) ?_⟩
        exact RV.newLst R nt (by rw [List.length_append]; exact hn) (ra.append rb)
      · cases e
    | _ => simp only [op2] at e; cases e
  | tup xs =>
    cases q with
    | tup ys =>
      simp only [op2] at e
      split at e
      · rename_i hz
        have e' : PV.tup (xs ++ ys) = z := by simpa only [Option.some.injEq] using e
        subst e'
        obtain ⟨a, vs, rfl, ha, za, ra⟩ := hp.tup
        obtain ⟨b, ws, rfl, hb, zb, rb⟩ := hq.tup
        have hn : vs.length + ws.length ≤ sizeLine := by rw [← ra.length, ← rb.length, ← big_eq]; exact hz
        refine op_catA pins s σ H _ _ v u Q I rx ry ⟨a, b, vs, ws, rfl, rfl, ha, hb, hn, fun e0 => k _ _ Same.refl ?_, fun _ e0 => k _ _ Same.refl ?_, fun _ _ t nt => k _ _ (same_upd nt) ?_⟩
        · subst e0
          have : xs = [] := by
            cases xs with
            | nil => rfl
            | cons _ _ => have := ra.length; simp at this
          subst this
          exact ⟨b, ws, rfl, hb, zb, rb⟩
        · subst e0
          have : ys = [] := by
            cases ys with
            | nil => rfl
            | cons _ _ => have := rb.length; simp at this
          subst this
          rw [List.append_nil]
          exact ⟨a, vs, rfl, ha, za, ra⟩
        · exact RV.newTup nt (by rw [List.length_append]; exact hn) (ra.append rb)
      · cases e
    | _ => simp only [op2] at e; cases e
  | _ => simp only [op2] at e; cases e
theorem op_int2 {o : Op} {C : Int → Int → Prop} {g : Int → Int → Int} (h : OpR X (binaryOp (opB o)) (rI C fun i j => .int (g i j))) (ho : ∀ p q z, op2 o p q = some z → ∃ i j, p = .int i ∧ q = .int j ∧ C i j ∧ z = .int (g i j)) :
    OpR X (binaryOp (opB o)) (rOp2 X.K o) := by
  intro pins s σ H x y v u Q I rx ry ⟨B, m, hh, p, q, z, R, hp, hq, e, hl, k⟩
  obtain ⟨i, j, rfl, rfl, c, rfl⟩ := ho p q z e
  exact h pins s σ H _ _ v u Q I rx ry ⟨i, j, hp, hq, c, k _ _ Same.refl rfl⟩
theorem op_b2 : ∀ o : Op, OpR X (binaryOp (opB o)) (rOp2 X.K o)
  | .add => op_add2
  | .sub => op_int2 (C := fun _ _ => True) (g := fun i j => i - j) (by
      intro pins s σ H x y v u Q I rx ry ⟨i, j, e1, e2, _, q⟩
      exact op_sub pins s σ H x y v u Q I rx ry ⟨i, j, e1, e2, q⟩) (by
      intro p q z e
      cases p with
      | int i =>
        cases q with
        | int j => exact ⟨i, j, rfl, rfl, trivial, by simpa only [op2, Option.some.injEq] using e.symm⟩
        | _ => simp only [op2] at e; cases e
      | _ => simp only [op2] at e; cases e)
  | .mul => op_int2 (C := CMul) (g := fun i j => i * j) op_mul (by
      intro p q z e
      cases p with
      | int i =>
        cases q with
        | int j =>
          simp only [op2] at e
          split at e
          · rename_i c
            exact ⟨i, j, rfl, rfl, c, by simpa only [Option.some.injEq] using e.symm⟩
          · cases e
        | _ => simp only [op2] at e; cases e
      | _ => simp only [op2] at e; cases e)
  | .fdiv => op_int2 (C := CDiv) (g := fun i j => i / j) op_fdiv (by
      intro p q z e
      cases p with
      | int i =>
        cases q with
        | int j =>
          simp only [op2] at e
          split at e
          · rename_i c
            exact ⟨i, j, rfl, rfl, c, by simpa only [Option.some.injEq] using e.symm⟩
          · cases e
        | _ => simp only [op2] at e; cases e
      | _ => simp only [op2] at e; cases e)
  | .mod => op_int2 (C := fun _ j => 0 < j) (g := fun i j => i % j) op_mod (by
      intro p q z e
      cases p with
      | int i =>
        cases q with
        | int j =>
          simp only [op2] at e
          split at e
          · rename_i c
            exact ⟨i, j, rfl, rfl, c, by simpa only [Option.some.injEq] using e.symm⟩
          · cases e
        | _ => simp only [op2] at e; cases e
      | _ => simp only [op2] at e; cases e)
end

/-! ### comparisons -/
def opC : Cm → CmpOp
  | .eq => .Eq | .ne => .NotEq | .lt => .Lt | .le => .LtE | .gt => .Gt | .ge => .GtE | .isN => .Is | .notN => .IsNot | .in_ => .In | .notIn => .NotIn
def rCm (K : PySem.W.Frag) (o : Cm) : R2 := fun x y H Q => ∃ F p q b, RT K H F p x ∧ RT K H F q y ∧ cm2 o p q = some b ∧ Q (.bl b) H
theorem cmpI_some {f : Int → Int → Bool} {p q : PV} {b : Bool} (e : cmpI f p q = some b) : ∃ i j, p = .int i ∧ q = .int j ∧ b = f i j := by
  cases p with
  | int i =>
    cases q with
    | int j => exact ⟨i, j, rfl, rfl, by simpa only [cmpI, Option.some.injEq] using e.symm⟩
    | _ => simp only [cmpI] at e; cases e
  | _ => simp only [cmpI] at e; cases e
theorem peq_kP (a b : Key) : peq (kP a) (kP b) = decide (a = b) := by
  cases a <;> cases b <;> simp [kP, peq, Bool.beq_eq_decide_eq]
theorem keyOk_kP {p : PV} (h : keyOk p = true) : ∃ k, p = kP k := by
  cases p with
  | int i => exact ⟨.inl i, rfl⟩
  | str x => exact ⟨.inr x, rfl⟩
  | _ => simp [keyOk] at h
theorem kP_kV {K : PySem.W.Frag} {H : Hp} {F : Fb} {k : Key} {v : V} (h : RT K H F (kP k) v) : v = kV k := by
  cases k with
  | inl i => exact h
  | inr x => exact h
theorem hasK_valV (k : Key) : ∀ kvs : List (Key × V), hasK (kP k) (kvs.map fun z => kP z.1) = (valV kvs k).isSome
  | [] => rfl
  | z :: r => by
    show (peq (kP z.1) (kP k) || hasK (kP k) (r.map fun z => kP z.1)) = _
    rw [peq_kP, hasK_valV k r]
    by_cases e : z.1 = k
    · rw [valV_pos e, decide_eq_true e]; rfl
    · rw [valV_neg e, decide_eq_false e]; rfl
theorem inSeq_hasK (x : PV) (ks : List PV) : inSeq x ks = hasK x ks := rfl
theorem lookK_valV {K : PySem.W.Frag} {H : Hp} {F : Fb} (k : Key) : ∀ {kvs : List (Key × V)} {xs : List PV} {p : PV}, RVs K H F xs (kvs.map (·.2)) → lookK (kP k) (kvs.map fun z => kP z.1) xs = some p → ∃ v, valV kvs k = some v ∧ RV K H F p v
  | [], xs, p, _, e => by simp [lookK] at e
  | z :: r, [], p, h, e => by simp [lookK] at e
  | z :: r, x :: xs, p, h, e => by
    obtain ⟨v, r', ev, hv, hr⟩ := h
    have e1 : z.2 = v ∧ r.map (·.2) = r' := by simpa using ev
    obtain ⟨e1, e2⟩ := e1
    subst e1 e2
    simp only [List.map_cons, lookK, peq_kP] at e
    by_cases ek : z.1 = k
    · rw [decide_eq_true ek, if_pos rfl] at e
      have e3 : x = p := by simpa using e
      subst e3
      exact ⟨z.2, valV_pos ek, hv⟩
    · rw [decide_eq_false ek, if_neg (by simp)] at e
      obtain ⟨w, h1, h2⟩ := lookK_valV k hr e
      exact ⟨w, by rw [valV_neg ek]; exact h1, h2⟩
theorem any_dat (d : PV) (hd : isData d = true) : ∀ xs : List PV, areData xs = true → ((dats xs).any fun z => PyData.eqv z (dat d)) = inSeq d xs
  | [], _ => rfl
  | x :: xs, h => by
    simp only [areData, Bool.and_eq_true] at h
    show (PyData.eqv (dat x) (dat d) || (dats xs).any _) = (peq x d || inSeq d xs)
    rw [any_dat d hd xs h.2, peq_dat x d h.1 hd]
section
variable {X : Cx}
theorem op_eqP (hu : X.A.units + 64 < cLine) : OpR X (compareOp .Eq) (rCm X.K .eq) := by
  intro pins s σ H x y v u Q I rx ry ⟨F, p, q, b, hp, hq, e, k⟩
  simp only [cm2] at e
  split at e
  · rename_i c
    obtain ⟨c1, c2⟩ := Bool.and_eq_true_iff.mp c
    refine op_eqD hu pins s σ H x y v u Q I rx ry ⟨dat p, dat q, hp.dp (cmpOk_data c1), hq.dp (cmpOk_data c2), shaped_dat c1, shaped_dat c2, ?_⟩
    rw [← peq_dat p q (cmpOk_data c1) (cmpOk_data c2)]
    rw [Option.some.inj e]
    exact k
  · cases e
theorem op_neP (hu : X.A.units + 64 < cLine) : OpR X (compareOp .NotEq) (rCm X.K .ne) := by
  intro pins s σ H x y v u Q I rx ry ⟨F, p, q, b, hp, hq, e, k⟩
  simp only [cm2] at e
  split at e
  · rename_i c
    obtain ⟨c1, c2⟩ := Bool.and_eq_true_iff.mp c
    refine op_neD hu pins s σ H x y v u Q I rx ry ⟨dat p, dat q, hp.dp (cmpOk_data c1), hq.dp (cmpOk_data c2), shaped_dat c1, shaped_dat c2, ?_⟩
    rw [← peq_dat p q (cmpOk_data c1) (cmpOk_data c2)]
    rw [Option.some.inj e]
    exact k
  · cases e
theorem op_intC {o : Cm} {g : Int → Int → Bool} (h : OpR X (compareOp (opC o)) (rI0 fun i j => .bl (g i j))) (ho : ∀ p q, cm2 o p q = cmpI g p q) : OpR X (compareOp (opC o)) (rCm X.K o) := by
  intro pins s σ H x y v u Q I rx ry ⟨F, p, q, b, hp, hq, e, k⟩
  rw [ho] at e
  obtain ⟨i, j, rfl, rfl, rfl⟩ := cmpI_some e
  exact h pins s σ H x y v u Q I rx ry ⟨i, j, hp, hq, k⟩
theorem non_iff {K : PySem.W.Frag} {H : Hp} {F : Fb} {p : PV} {v : V} (h : RT K H F p v) : decide (v = .non) = isNon p := by
  cases p with
  | non => cases (show v = V.non from h); rfl
  | bl b => cases (show v = V.bl b from h); rfl
  | int b => cases (show v = V.int b from h); rfl
  | str b => cases (show v = V.str b from h); rfl
  | ty b => cases (show v = V.ty b from h); rfl
  | tup xs => obtain ⟨a, vs, rfl, _⟩ := h; rfl
  | lst xs => obtain ⟨a, vs, rfl, _⟩ := h; rfl
  | dct xs ys => obtain ⟨a, vs, rfl, _⟩ := h; rfl
  | ins c fs => exact h.elim
  | cl c => exact h.elim
theorem op_isP : OpR X (compareOp .Is) (rCm X.K .isN) := by
  intro pins s σ H x y v u Q I rx ry ⟨F, p, q, b, hp, hq, e, k⟩
  cases q with
  | non =>
    refine op_isN pins s σ H x y v u Q I rx ry ⟨hq, ?_⟩
    rw [non_iff hp]
    have e' : isNon p = b := by simpa only [cm2, Option.some.injEq] using e
    rw [e']
    exact k
  | _ => simp only [cm2] at e; cases e
theorem op_isNotP : OpR X (compareOp .IsNot) (rCm X.K .notN) := by
  intro pins s σ H x y v u Q I rx ry ⟨F, p, q, b, hp, hq, e, k⟩
  cases q with
  | non =>
    refine op_notN pins s σ H x y v u Q I rx ry ⟨hq, ?_⟩
    rw [non_iff hp]
    have e' : (!isNon p) = b := by simpa only [cm2, Option.some.injEq] using e
    rw [e']
    exact k
  | _ => simp only [cm2] at e; cases e
theorem room_in' {xs : List PV} {p : PV} (hu : X.A.units + 65 < cLine) (hp : cmpOk p = true) : X.A.units + 1 + min (PyData.depthAll (dats xs)) (dat p).depth < cLine := by
  have h1 := SeqAt.depth_of_shaped (shaped_dat hp)
  have h2 : min (PyData.depthAll (dats xs)) (dat p).depth ≤ (dat p).depth := Nat.min_le_right _ _
  omega
theorem isIn_ok (neg : Bool) (hu : X.A.units + 65 < cLine) : OpR X (compareOp (if neg then .NotIn else .In)) (fun x y H Q => ∃ F p q b, RT X.K H F p x ∧ RT X.K H F q y ∧ isIn p q = some b ∧ Q (.bl (if neg then !b else b)) H) := by
  intro pins s σ H x y v u Q I rx ry ⟨F, p, q, b, hp, hq, e, k⟩
  cases q with
  | lst xs =>
    simp only [isIn] at e
    split at e
    · rename_i c
      obtain ⟨c1, c2⟩ := Bool.and_eq_true_iff.mp c
      obtain ⟨as, r1⟩ := Dp.reads I (dat p) x v (hp.dp (cmpOk_data c1)) rx
      obtain ⟨bs, r2⟩ := Dp.reads I (.list (dats xs)) y u (by simpa only [dat] using hq.dp (cmpOk_data c2)) ry
      have hx : areData xs = true := by simpa only [isData] using cmpOk_data c2
      have e' := any_dat p (cmpOk_data c1) xs hx
      have eb : inSeq p xs = b := Option.some.inj e
      cases neg with
      | false => exact SeqAt.in_list_reads r2 r1 (lays_dat xs hx).1 (lay_dat p (cmpOk_data c1)).1 (room_in' hu c1) ⟨.bl _, H, I, rfl, by rw [e', eb]; exact k⟩
      | true => exact SeqAt.notIn_list_reads r2 r1 (lays_dat xs hx).1 (lay_dat p (cmpOk_data c1)).1 (room_in' hu c1) ⟨.bl _, H, I, rfl, by rw [e', eb]; exact k⟩
    · cases e
  | tup xs =>
    simp only [isIn] at e
    split at e
    · rename_i c
      obtain ⟨c1, c2⟩ := Bool.and_eq_true_iff.mp c
      have hx : areData xs = true := by simpa only [isData] using cmpOk_data c2
      obtain ⟨as, r1⟩ := Dp.reads I (dat p) x v (hp.dp (cmpOk_data c1)) rx
      obtain ⟨bs, r2⟩ := Dp.reads I (.tuple (dats xs)) y u (by
        have := hq.dp (p := .tup xs) (by simpa only [isData] using hx)
        simpa only [dat] using this) ry
      have e' := any_dat p (cmpOk_data c1) xs hx
      have eb : inSeq p xs = b := Option.some.inj e
      cases neg with
      | false => exact SeqAt.in_tuple_reads r2 r1 (lays_dat xs hx).1 (lay_dat p (cmpOk_data c1)).1 (room_in' hu c1) ⟨.bl _, H, I, rfl, by rw [e', eb]; exact k⟩
      | true => exact SeqAt.notIn_tuple_reads r2 r1 (lays_dat xs hx).1 (lay_dat p (cmpOk_data c1)).1 (room_in' hu c1) ⟨.bl _, H, I, rfl, by rw [e', eb]; exact k⟩
    · cases e
  | dct ks xs =>
    simp only [isIn] at e
    split at e
    · rename_i c
      obtain ⟨kk, rfl⟩ := keyOk_kP c
      cases kP_kV hp
      obtain ⟨a, kvs, rfl, hr, _, rfl, _⟩ := hq
      cases ry
      have g : DGet H a (kV kk) (valV kvs kk) := .inl ⟨kvs, kk, .inl hr, rfl, rfl⟩
      have eb : (valV kvs kk).isSome = b := by rw [← hasK_valV, ← inSeq_hasK]; exact Option.some.inj e
      cases neg with
      | false => exact d_in (by omega) I g rx fun s' I' => ⟨.bl _, H, I', rfl, by rw [eb]; exact k⟩
      | true => exact d_notIn (by omega) I g rx fun s' I' => ⟨.bl _, H, I', rfl, by rw [eb]; exact k⟩
    · cases e
  | _ => simp only [isIn] at e; cases e
theorem op_cm (hu : X.A.units + 65 < cLine) : ∀ o : Cm, OpR X (compareOp (opC o)) (rCm X.K o)
  | .eq => op_eqP (by omega)
  | .ne => op_neP (by omega)
  | .lt => op_intC (g := fun i j => decide (i < j)) op_lt fun _ _ => rfl
  | .le => op_intC (g := fun i j => decide (i ≤ j)) op_le fun _ _ => rfl
  | .gt => op_intC (g := fun i j => decide (j < i)) op_gt fun _ _ => rfl
  | .ge => op_intC (g := fun i j => decide (j ≤ i)) op_ge fun _ _ => rfl
  | .isN => op_isP
  | .notN => op_isNotP
  | .in_ => by
    intro pins s σ H x y v u Q I rx ry ⟨F, p, q, b, hp, hq, e, k⟩
    exact isIn_ok false hu pins s σ H x y v u Q I rx ry ⟨F, p, q, b, hp, hq, e, k⟩
  | .notIn => by
    intro pins s σ H x y v u Q I rx ry ⟨F, p, q, b, hp, hq, e, k⟩
    have e2 : (isIn p q).map (!·) = some b := by simpa only [cm2] using e
    obtain ⟨b', e3, rfl⟩ := Option.map_eq_some_iff.mp e2
    exact isIn_ok true hu pins s σ H x y v u Q I rx ry ⟨F, p, q, b', hp, hq, e3, k⟩
end
end Ev

set_option Elab.async false
set_option linter.all false
set_option maxRecDepth 100000
/-! Ev4: subscripts, slices, truth, built-in functions by values; expressions. -/
namespace Ev
open PySem PySem.Spec PyProof.Rows L2
section
variable {X : Cx}
def rIdx (K : PySem.W.Frag) : R2 := fun x y H Q => ∃ F p q z, RT K H F p x ∧ RT K H F q y ∧ index p q = some z ∧ ∀ v, RV K H F z v → Q v H
theorem ixN_eq (n : Nat) (i : Int) : Ev.ixN n i = L2.ixN n i := rfl
theorem at_get {K : PySem.W.Frag} {H : Hp} {F : Fb} {xs : List PV} {vs : List V} {j : Int} {z : PV} (r : RVs K H F xs vs) (e : ((Ev.ixN xs.length j).bind fun k => xs[k]?) = some z) : ∃ v, atI vs j = some v ∧ RV K H F z v := by
  obtain ⟨k, e1, e2⟩ := Option.bind_eq_some_iff.mp e
  obtain ⟨v, e3, hv⟩ := r.get e2
  refine ⟨v, ?_, hv⟩
  unfold atI
  rw [← r.length, ← ixN_eq, e1]
  exact e3
theorem ix_dK (hu : X.A.units + 1 < cLine) : IxR X (fun x y H Q => ∃ a v, x = .ref a ∧ DGet H a y (some v) ∧ Q v H) := by
  intro value slice pins s σ H x y v u Q I rx ry ⟨a, w', ex, g, q⟩ hs
  subst ex
  cases rx
  have hT := dict_typeIs I g
  unfold subscriptTail
  refine wpAny_bind ?_
  rw [getitemInPython_of_ne hT.not_modules]
  refine wpAny_bind (wpAny_specialOf hT PySem.F.slot_dict_getitem.lookup ?_)
  have fin : wpAny (model X.prog X.w) X.A (subscripted slice false (.ref a) u) (fun r s3 => wpAny (model X.prog X.w) X.A (letTemporaryGo value (.ref a) r >>= fun _ => pure r) (EP X pins σ Q) X.xe s3) X.xe s := by
    rw [hs]
    exact wpAny_operating (d_getItem hu I g ry fun w2 s3 I3 rw' => wpAny_bind (wpAny_letTemporaryGo (wpAny_pure ⟨w', H, I3, rw', q⟩)))
  first
    | exact wpAny_pure (wpAny_bind fin)
    | exact wpAny_bind (wpAny_pure (wpAny_bind fin))
    | exact wpAny_bind fin
theorem ix_p (hu : X.A.units + 1 < cLine) : IxR X (rIdx X.K) := by
  intro value slice pins s σ H x y v u Q I rx ry ⟨F, p, q, z, hp, hq, e, k⟩ hs
  cases p with
  | lst xs =>
    cases q with
    | int j =>
      obtain ⟨a, vs, rfl, ha, _, r⟩ := hp.lst
      obtain ⟨w', e1, hw⟩ := at_get r (by simpa only [index] using e)
      exact ix_list value slice pins s σ H _ y v u Q I rx ry ⟨a, vs, j, w', rfl, hq, ha, e1, k _ hw⟩ hs
    | _ => simp only [index] at e; cases e
  | tup xs =>
    cases q with
    | int j =>
      obtain ⟨a, vs, rfl, ha, _, r⟩ := hp.tup
      obtain ⟨w', e1, hw⟩ := at_get r (by simpa only [index] using e)
      exact ix_tup value slice pins s σ H _ y v u Q I rx ry ⟨a, vs, j, w', rfl, hq, ha, e1, k _ hw⟩ hs
    | _ => simp only [index] at e; cases e
  | dct ks xs =>
    have e' : (if keyOk q = true then lookK q ks xs else none) = some z := by simpa only [index] using e
    split at e'
    · rename_i c
      obtain ⟨kk, rfl⟩ := keyOk_kP c
      cases kP_kV hq
      obtain ⟨a, kvs, rfl, hr, _, rfl, r⟩ := hp
      obtain ⟨w', e1, hw⟩ := lookK_valV kk r e'
      exact ix_dK hu value slice pins s σ H _ _ v u Q I rx ry ⟨a, w', rfl, .inl ⟨kvs, kk, .inl hr, rfl, e1.symm⟩, k _ hw⟩ hs
    · cases e'
  | _ => simp only [index] at e; cases e
/-! ### slices -/
theorem sEnd_eq (n d : Nat) (o : Option Int) : sEnd n d o = HT.sIx n d o := by cases o <;> rfl
theorem cut_eq {K : PySem.W.Frag} {H : Hp} {F : Fb} {xs : List PV} {vs : List V} (r : RVs K H F xs vs) (lo hi : Option Int) : RVs K H F (cut xs lo hi) (cutV vs lo hi) := by
  unfold cut cutV
  rw [r.length, sEnd_eq, sEnd_eq]
  exact (r.drop _).take _
def rSlc (K : PySem.W.Frag) : V → Option Int → Option Int → Hp → VK → Prop := fun x lo hi H Q => ∃ B m h p z, Rh K H B m h ∧ RT K H (fb B m) p x ∧ slice p lo hi = some z ∧ ∀ v H', Same H H' → RV K H' (fb B m) z v → Q v H'
theorem sl_p : L2.SlR X (rSlc X.K) := by
  intro pins s σ H x v vl vu lo hi sl Q I rx hs pl pu ⟨B, m, h, p, z, R, hp, e, k⟩
  cases p with
  | lst xs =>
    obtain ⟨a, vs, rfl, ha, hz, r⟩ := hp.lst
    have e' : PV.lst (cut xs lo hi) = z := by simpa only [slice, Option.some.injEq] using e
    subst e'
    exact sl_list pins s σ H _ v vl vu lo hi sl Q I rx hs pl pu ⟨a, vs, rfl, ha, fun t nt => k _ _ (same_upd nt) (RV.newLst R nt (Nat.le_trans (cutV_length vs lo hi) hz) (cut_eq r lo hi))⟩
  | tup xs =>
    obtain ⟨a, vs, rfl, ha, hz, r⟩ := hp.tup
    have e' : PV.tup (cut xs lo hi) = z := by simpa only [slice, Option.some.injEq] using e
    subst e'
    refine sl_tupA pins s σ H _ v vl vu lo hi sl Q I rx hs pl pu ⟨a, vs, rfl, ha, fun ⟨w1, w2⟩ => k _ _ Same.refl ?_, fun _ t nt => k _ _ (same_upd nt) (RV.newTup nt (Nat.le_trans (cutV_length vs lo hi) hz) (cut_eq r lo hi))⟩
    have q := cut_eq r lo hi
    have ec : cutV vs lo hi = vs := by
      unfold cutV
      rw [w1, w2, List.drop_zero, Nat.sub_zero, List.take_length]
    rw [ec] at q
    exact ⟨a, vs, rfl, ha, hz, q⟩
  | _ => simp only [slice] at e; cases e
/-! ### truth -/
theorem truth_V {K : PySem.W.Frag} {H : Hp} {F : Fb} {p : PV} {v : V} {b : Bool} (h : RT K H F p v) (e : truth p = some b) : TruV K v H b := by
  cases p with
  | non => cases (show v = V.non from h); simp only [truth, Option.some.injEq] at e; exact e.symm
  | bl c => cases (show v = V.bl c from h); simp only [truth, Option.some.injEq] at e; exact e.symm
  | int i => cases (show v = V.int i from h); simp only [truth, Option.some.injEq] at e; exact e.symm
  | lst xs =>
    obtain ⟨a, vs, rfl, ha, _, r⟩ := h.lst
    simp only [truth, Option.some.injEq] at e
    refine .inl ⟨vs, ha, ?_⟩
    rw [← e]
    have := r.length
    cases xs <;> cases vs <;> simp at this ⊢
  | tup xs =>
    obtain ⟨a, vs, rfl, ha, _, r⟩ := h.tup
    simp only [truth, Option.some.injEq] at e
    refine .inr (.inl ⟨vs, ha, ?_⟩)
    rw [← e]
    have := r.length
    cases xs <;> cases vs <;> simp at this ⊢
  | _ => simp only [truth] at e; cases e
/-! ### built-in functions -/
theorem asInts_map {K : PySem.W.Frag} {H : Hp} {F : Fb} : ∀ {xs : List PV} {vs : List V} {ns : List Int}, RVs K H F xs vs → asInts xs = some ns → vs = ns.map V.int
  | [], vs, ns, r, e => by
    cases (show vs = [] from r)
    simp only [asInts, Option.some.injEq] at e
    subst e; rfl
  | x :: xs, vs, ns, r, e => by
    obtain ⟨v, r', rfl, hv, hr⟩ := r
    cases x with
    | int i =>
      simp only [asInts] at e
      obtain ⟨ms, e1, rfl⟩ := Option.map_eq_some_iff.mp e
      cases (show v = V.int i from hv)
      rw [asInts_map hr e1]; rfl
    | _ => simp only [asInts] at e; cases e
theorem RVs.ints {K : PySem.W.Frag} {H : Hp} {F : Fb} : ∀ (ns : List Int), RVs K H F (ns.map PV.int) (ns.map V.int)
  | [] => rfl
  | n :: ns => ⟨_, _, rfl, rfl, RVs.ints ns⟩
theorem asBls_map {K : PySem.W.Frag} {H : Hp} {F : Fb} : ∀ {xs : List PV} {vs : List V} {ns : List Bool}, RVs K H F xs vs → asBls xs = some ns → vs = ns.map V.bl
  | [], vs, ns, r, e => by
    cases (show vs = [] from r)
    simp only [asBls, Option.some.injEq] at e
    subst e; rfl
  | x :: xs, vs, ns, r, e => by
    obtain ⟨v, r', rfl, hv, hr⟩ := r
    cases x with
    | bl i =>
      simp only [asBls] at e
      obtain ⟨ms, e1, rfl⟩ := Option.map_eq_some_iff.mp e
      cases (show v = V.bl i from hv)
      rw [asBls_map hr e1]; rfl
    | _ => simp only [asBls] at e; cases e
theorem insI_perm (x : Int) : ∀ l : List Int, (insI x l).Perm (x :: l)
  | [] => .refl _
  | y :: r => by
    unfold insI
    split
    · exact .refl _
    · exact ((insI_perm x r).cons y).trans (.swap x y r)
theorem sortI_perm : ∀ l : List Int, (sortI l).Perm l
  | [] => .refl _
  | x :: r => (insI_perm x (sortI r)).trans ((sortI_perm r).cons x)
theorem insI_sorted (x : Int) : ∀ {l : List Int}, l.Pairwise (· ≤ ·) → (insI x l).Pairwise (· ≤ ·)
  | [], _ => by simp [insI]
  | y :: r, h => by
    unfold insI
    have hy := List.pairwise_cons.mp h
    split
    · rename_i q
      refine List.pairwise_cons.mpr ⟨fun z hz => ?_, h⟩
      rcases List.mem_cons.mp hz with rfl | hz
      · exact q
      · exact Int.le_trans q (hy.1 z hz)
    · rename_i q
      refine List.pairwise_cons.mpr ⟨fun z hz => ?_, insI_sorted x hy.2⟩
      have hz' : z ∈ x :: r := (insI_perm x r).mem_iff.mp hz
      rcases List.mem_cons.mp hz' with rfl | hz'
      · omega
      · exact hy.1 z hz'
theorem sortI_sorted : ∀ l : List Int, (sortI l).Pairwise (· ≤ ·)
  | [] => .nil
  | x :: r => insI_sorted x (sortI_sorted r)
theorem sorted_unique {a b : List Int} (p : a.Perm b) (ha : a.Pairwise (· ≤ ·)) (hb : b.Pairwise (· ≤ ·)) : a = b :=
  p.eq_of_pairwise (fun x y _ _ h1 h2 => Int.le_antisymm h1 h2) ha hb
theorem maxI_of {ns : List Int} {m : Int} : maxI ns = some m → m ∈ ns ∧ ∀ y ∈ ns, y ≤ m := by
  cases ns with
  | nil => intro e; cases e
  | cons x r =>
    intro e
    have key : ∀ (l : List Int) (a : Int), (l.foldl (fun a b => if b > a then b else a) a = a ∨ l.foldl (fun a b => if b > a then b else a) a ∈ l) ∧ a ≤ l.foldl (fun a b => if b > a then b else a) a ∧ ∀ y ∈ l, y ≤ l.foldl (fun a b => if b > a then b else a) a := by
      intro l
      induction l with
      | nil => intro a; exact ⟨.inl rfl, Int.le_refl _, fun y h => by cases h⟩
      | cons z l ih =>
        intro a
        simp only [List.foldl_cons]
        obtain ⟨h1, h2, h3⟩ := ih (if z > a then z else a)
        refine ⟨?_, ?_, fun y hy => ?_⟩
        · rcases h1 with h1 | h1
          · rw [h1]
            split
            · exact .inr List.mem_cons_self
            · exact .inl rfl
          · exact .inr (List.mem_cons_of_mem _ h1)
        · refine Int.le_trans ?_ h2
          split <;> omega
        · rcases List.mem_cons.mp hy with rfl | hy
          · refine Int.le_trans ?_ h2
            split <;> omega
          · exact h3 y hy
    obtain ⟨h1, h2, h3⟩ := key r x
    have e' : r.foldl (fun a b => if b > a then b else a) x = m := by simpa only [maxI, Option.some.injEq] using e
    rw [e'] at h1 h2 h3
    refine ⟨?_, fun y hy => ?_⟩
    · rcases h1 with h1 | h1
      · rw [h1]; exact List.mem_cons_self
      · exact List.mem_cons_of_mem _ h1
    · rcases List.mem_cons.mp hy with rfl | hy
      · exact h2
      · exact h3 y hy
theorem max_unique {ns : List Int} {a b : Int} (ha : a ∈ ns ∧ ∀ y ∈ ns, y ≤ a) (hb : b ∈ ns) (hb2 : ∀ y, y ∈ ns → y ≤ b) : a = b := Int.le_antisymm (hb2 a ha.1) (ha.2 b hb)
/-- a built-in function of one value -/
def rBi (K : PySem.W.Frag) (f : Bi) : List V → Hp → VK → Prop := fun vs H Q => ∃ B m h p v z, vs = [v] ∧ Rh K H B m h ∧ RT K H (fb B m) p v ∧ bi1 f p = some z ∧ ∀ v H', Same H H' → RV K H' (fb B m) z v → Q v H'
theorem cr_len1 : CallR X (.builtin "len") (rBi X.K .len) := by
  intro pins s σ H xs us Q I r ⟨B, m, h, p, v, z, ex, R, hp, e, k⟩
  subst ex
  cases p with
  | lst ps =>
    obtain ⟨a, vs, rfl, ha, _, rr⟩ := hp.lst
    have e' : PV.int ps.length = z := by simpa only [bi1, Option.some.injEq] using e
    subst e'
    exact call_len_seq pins s σ H _ us Q I r ⟨a, vs, rfl, .inl ha, by rw [← rr.length]; exact k _ _ Same.refl rfl⟩
  | tup ps =>
    obtain ⟨a, vs, rfl, ha, _, rr⟩ := hp.tup
    have e' : PV.int ps.length = z := by simpa only [bi1, Option.some.injEq] using e
    subst e'
    exact call_len_seq pins s σ H _ us Q I r ⟨a, vs, rfl, .inr ha, by rw [← rr.length]; exact k _ _ Same.refl rfl⟩
  | dct ks ps =>
    obtain ⟨a, kvs, rfl, hr, _, ek, rr⟩ := hp
    have e' : PV.int ks.length = z := by simpa only [bi1, Option.some.injEq] using e
    subst e'
    refine call_lenD pins s σ H _ us Q I r ⟨a, kvs, rfl, hr, k _ _ Same.refl ?_⟩
    show V.int _ = V.int _
    rw [ek, List.length_map]
  | _ => simp only [bi1] at e; cases e
theorem cr_int1' : CallR X (.type "int") (rBi X.K .int) := by
  intro pins s σ H xs us Q I r ⟨B, m, h, p, v, z, ex, R, hp, e, k⟩
  subst ex
  cases p with
  | int i =>
    have e' : PV.int i = z := by simpa only [bi1, Option.some.injEq] using e
    subst e'
    exact call_int1 pins s σ H _ us Q I r (.inl ⟨i, by rw [hp.int], k _ _ Same.refl rfl⟩)
  | bl b =>
    have e' : PV.int (if b then 1 else 0) = z := by simpa only [bi1, Option.some.injEq] using e
    subst e'
    exact call_int1 pins s σ H _ us Q I r (.inr ⟨b, by rw [hp.bl], k _ _ Same.refl rfl⟩)
  | _ => simp only [bi1] at e; cases e
theorem cr_abs1 : CallR X (.builtin "abs") (rBi X.K .abs) := by
  intro pins s σ H xs us Q I r ⟨B, m, h, p, v, z, ex, R, hp, e, k⟩
  subst ex
  cases p with
  | int i =>
    have e' : PV.int (if i < 0 then -i else i) = z := by simpa only [bi1, Option.some.injEq] using e
    subst e'
    exact call_abs pins s σ H _ us Q I r ⟨i, by rw [hp.int], k _ _ Same.refl rfl⟩
  | _ => simp only [bi1] at e; cases e
theorem cr_tuple1 : CallR X (.type "tuple") (rBi X.K .tuple) := by
  intro pins s σ H xs us Q I r ⟨B, m, h, p, v, z, ex, R, hp, e, k⟩
  subst ex
  cases p with
  | lst ps =>
    obtain ⟨a, vs, rfl, ha, hz, rr⟩ := hp.lst
    have e' : PV.tup ps = z := by simpa only [bi1, Option.some.injEq] using e
    subst e'
    exact call_tuple_of pins s σ H _ us Q I r ⟨a, vs, rfl, .inl ⟨ha, fun l nl => k _ _ (same_upd nl) (RV.newTup nl hz rr)⟩⟩
  | tup ps =>
    obtain ⟨a, vs, rfl, ha, hz, rr⟩ := hp.tup
    have e' : PV.tup ps = z := by simpa only [bi1, Option.some.injEq] using e
    subst e'
    exact call_tuple_of pins s σ H _ us Q I r ⟨a, vs, rfl, .inr ⟨ha, k _ _ Same.refl ⟨a, vs, rfl, ha, hz, rr⟩⟩⟩
  | _ => simp only [bi1] at e; cases e
theorem cr_list1 : CallR X (.type "list") (rBi X.K .list) := by
  intro pins s σ H xs us Q I r ⟨B, m, h, p, v, z, ex, R, hp, e, k⟩
  subst ex
  cases p with
  | lst ps =>
    obtain ⟨a, vs, rfl, ha, hz, rr⟩ := hp.lst
    have e' : PV.lst ps = z := by simpa only [bi1, Option.some.injEq] using e
    subst e'
    exact call_list_of pins s σ H _ us Q I r ⟨a, vs, rfl, .inl ha, fun l nl => k _ _ (same_upd nl) (RV.newLst R nl hz rr)⟩
  | tup ps =>
    obtain ⟨a, vs, rfl, ha, hz, rr⟩ := hp.tup
    have e' : PV.lst ps = z := by simpa only [bi1, Option.some.injEq] using e
    subst e'
    exact call_list_of pins s σ H _ us Q I r ⟨a, vs, rfl, .inr ha, fun l nl => k _ _ (same_upd nl) (RV.newLst R nl hz rr)⟩
  | _ => simp only [bi1] at e; cases e
theorem cr_sum1 (hc : X.calm = true) : CallR X (.builtin "sum") (rBi X.K .sum) := by
  intro pins s σ H xs us Q I r ⟨B, m, h, p, v, z, ex, R, hp, e, k⟩
  subst ex
  cases p with
  | lst ps =>
    obtain ⟨a, vs, rfl, ha, hz, rr⟩ := hp.lst
    simp only [bi1] at e
    obtain ⟨ns, e1, rfl⟩ := Option.map_eq_some_iff.mp e
    have ev := asInts_map rr e1
    subst ev
    exact cr_sum hc pins s σ H _ us Q I r ⟨a, ns, rfl, ha, k _ _ Same.refl rfl⟩
  | _ => simp only [bi1] at e; cases e
theorem cr_all1 (hc : X.calm = true) : CallR X (.builtin "all") (rBi X.K .all) := by
  intro pins s σ H xs us Q I r ⟨B, m, h, p, v, z, ex, R, hp, e, k⟩
  subst ex
  cases p with
  | lst ps =>
    obtain ⟨a, vs, rfl, ha, hz, rr⟩ := hp.lst
    simp only [bi1] at e
    obtain ⟨ns, e1, rfl⟩ := Option.map_eq_some_iff.mp e
    have ev := asBls_map rr e1
    subst ev
    exact cr_all hc pins s σ H _ us Q I r ⟨a, ns, rfl, ha, k _ _ Same.refl rfl⟩
  | _ => simp only [bi1] at e; cases e
theorem cr_any1 (hc : X.calm = true) : CallR X (.builtin "any") (rBi X.K .any) := by
  intro pins s σ H xs us Q I r ⟨B, m, h, p, v, z, ex, R, hp, e, k⟩
  subst ex
  cases p with
  | lst ps =>
    obtain ⟨a, vs, rfl, ha, hz, rr⟩ := hp.lst
    simp only [bi1] at e
    obtain ⟨ns, e1, rfl⟩ := Option.map_eq_some_iff.mp e
    have ev := asBls_map rr e1
    subst ev
    exact cr_any hc pins s σ H _ us Q I r ⟨a, ns, rfl, ha, k _ _ Same.refl rfl⟩
  | _ => simp only [bi1] at e; cases e
theorem cr_sorted1 : CallR X (.builtin "sorted") (rBi X.K .sorted) := by
  intro pins s σ H xs us Q I r ⟨B, m, h, p, v, z, ex, R, hp, e, k⟩
  subst ex
  cases p with
  | lst ps =>
    obtain ⟨a, vs, rfl, ha, hz, rr⟩ := hp.lst
    simp only [bi1] at e
    obtain ⟨ns, e1, rfl⟩ := Option.map_eq_some_iff.mp e
    have ev := asInts_map rr e1
    subst ev
    refine cr_sortedI pins s σ H _ us Q I r ⟨a, ns, rfl, ha, fun ns' t p1 p2 nt => k _ _ (same_upd nt) ?_⟩
    have en : ns' = sortI ns := sorted_unique (p1.trans (sortI_perm ns).symm) p2 (sortI_sorted ns)
    subst en
    exact RV.newLst R nt (by rw [List.length_map, p1.length_eq]; simpa using hz) (RVs.ints _)
  | _ => simp only [bi1] at e; cases e
theorem cr_max1 (hc : X.calm = true) : CallR X (.builtin "max") (rBi X.K .max) := by
  intro pins s σ H xs us Q I r ⟨B, m, h, p, v, z, ex, R, hp, e, k⟩
  subst ex
  cases p with
  | lst ps =>
    obtain ⟨a, vs, rfl, ha, hz, rr⟩ := hp.lst
    simp only [bi1] at e
    obtain ⟨ns, e1, e2⟩ := Option.bind_eq_some_iff.mp e
    obtain ⟨mm, e3, rfl⟩ := Option.map_eq_some_iff.mp e2
    have ev := asInts_map rr e1
    subst ev
    have hm := maxI_of e3
    refine cr_max hc pins s σ H _ us Q I r ⟨a, ns, rfl, ha, List.length_pos_of_mem hm.1, fun t h1 h2 => k _ _ Same.refl ?_⟩
    rw [max_unique hm h1 h2]
    rfl
  | _ => simp only [bi1] at e; cases e
def biV : Bi → Value
  | .len => .builtin "len" | .int => .type "int" | .sum => .builtin "sum" | .all => .builtin "all" | .any => .builtin "any" | .tuple => .type "tuple" | .list => .type "list"
  | .sorted => .builtin "sorted" | .max => .builtin "max" | .abs => .builtin "abs" | .max2 => .builtin "max" | .min2 => .builtin "min" | .sset => .none | .min => .builtin "min"
def biS : Bi → Str
  | .len => "len" | .int => "int" | .sum => "sum" | .all => "all" | .any => "any" | .tuple => "tuple" | .list => "list"
  | .sorted => "sorted" | .max => "max" | .abs => "abs" | .max2 => "max" | .min2 => "min" | .sset => "set" | .min => "min"
def bi1ok : Bi → Bool
  | .sset | .min | .max2 | .min2 => false
  | _ => true
theorem cr_bi1 (hc : X.calm = true) : ∀ f : Bi, bi1ok f = true → CallR X (biV f) (rBi X.K f)
  | .len, _ => cr_len1
  | .int, _ => cr_int1'
  | .sum, _ => cr_sum1 hc
  | .all, _ => cr_all1 hc
  | .any, _ => cr_any1 hc
  | .tuple, _ => cr_tuple1
  | .list, _ => cr_list1
  | .sorted, _ => cr_sorted1
  | .max, _ => cr_max1 hc
  | .abs, _ => cr_abs1
  | .sset, h => by cases h
  | .min, h => by cases h
  | .max2, h => by cases h
  | .min2, h => by cases h
theorem boot_bi : ∀ f : Bi, bi1ok f = true → bootBuiltins (biS f) = some (biV f) := by
  intro f h
  cases f <;> first | (cases h; done) | decide +kernel
end
end Ev

set_option Elab.async false
set_option linter.all false
set_option maxRecDepth 100000
/-! Ev5: expressions by the evaluator. -/
namespace Ev
open PySem PySem.Spec PyProof.Rows L2

/-! ### a def's promise -/
/-- the arguments -/
def RSs (K : PySem.W.Frag) (H : Hp) (F : Fb) (m : List Addr) : List SV → List V → Prop
  | [], vs => vs = []
  | s :: ss, vs => ∃ v r, vs = v :: r ∧ RS K H F m s v ∧ RSs K H F m ss r
/-- own objects alone have changed -/
structure ExtM (m : List Addr) (H H' : Hp) : Prop where
  keep : ∀ b x, b ∉ m → H b = some x → H' b = some x
  tup : ∀ b xs, H b = some (.tup xs) → H' b = some (.tup xs)
  frz : ∀ b o u, H b = some (.frz o u) → H' b = some (.frz o u)
theorem ExtM.same {H H' : Hp} (x : ExtM [] H H') : Same H H' := fun b y e => x.keep b y (by simp) e
theorem ExtM.of {m : List Addr} {H H' : Hp} (s : Same H H') : ExtM m H H' := ⟨fun b x _ e => s b x e, fun b _ e => s b _ e, fun b _ _ e => s b _ e⟩
def spD (K : PySem.W.Frag) (mg : Str → Option Value) (n : Nat) (D : List SV → OH → R (SV × OH)) : Sp := fun vs H Q E => vs.length = n ∧ ∃ B m as h, Rh K H B m h ∧ RSs K H (fb B m) m as vs ∧ match D as h with
  | none => False
  | some (.ok (s, h')) => ∀ v H' m', m <+: m' → (∀ a ∈ m', a ∈ m ∨ H a = none) → ExtM m H H' → Rh K H' B m' h' → RS K H' (fb B m') m' s v → Q v H'
  | some (.error x) => ∀ cls d H', ExtM m H H' → RX K mg H' (fb B m) cls d x → E cls d H'

/-- a def that may be called -/
structure FnF (X : Cx) (P : Pg) (lv : Nat) (f : Str) : Prop where
  ex : ∃ (fa : Addr) (fd : FuncData) (ps : List Str) (k : Nat), k ≤ lv ∧ FnOk X.prog X.w X.K X.mg X.base (L2.CX X.prog X.w) k fa fd ps (spD X.K X.mg ps.length (P.fn f)) ∧ X.mg f = some (.ref fa) ∧ PySem.W.keepIn X.K (.ref fa) = true ∧ Binds X.K fd ps [] ∧
    ∀ as h, P.fn f as h ≠ none → as.length = ps.length

def bltNames : List Str := ["len", "int", "sum", "all", "any", "tuple", "list", "sorted", "max", "min", "abs", "set", "isinstance", "range", "zip", "enumerate", "bool", "str", "dict"]
/-- what is told once for a def's text -/
structure Ctx (X : Cx) (N : List Str) (sc : Scope) (W : WX) (P : Pg) (lv : Nat) (fns : List Str) : Prop where
  hN : X.N = N
  nd : N.Nodup
  scp : X.env.scope = sc
  cal : X.calm = true
  rm : Room lv X.A
  tk : Takes X W
  fnl : ∀ x, sc.names.lookup x = some .cell → X.fn x = true
  blt : ∀ x ∈ bltNames, X.mg x = none
  fnf : ∀ f ∈ fns, FnF X P lv f
theorem Ctx.u65 {X : Cx} {N : List Str} {sc : Scope} {W : WX} {P : Pg} {lv : Nat} {fns : List Str} (c : Ctx X N sc W P lv fns) : X.A.units + 65 < cLine := by
  have := c.rm.un
  omega

/-! ### arguments -/
def isStarE : CE → Bool
  | .star _ => true
  | _ => false
def RAs (K : PySem.W.Frag) (H : Hp) (B : Fb) (m : List Addr) (σ : St) : List CE → List PV → List V → Prop
  | [], ps, vs => ps = [] ∧ vs = []
  | e :: es, ps, vs => if isStarE e = true then ∃ p1 p2 v1 v2, ps = p1 ++ p2 ∧ vs = v1 ++ v2 ∧ RVs K H (fb B m) p1 v1 ∧ RAs K H B m σ es p2 v2
    else ∃ p r v w, ps = p :: r ∧ vs = v :: w ∧ RF K H B m (flg σ e) p v ∧ RAs K H B m σ es r w
theorem RAs.zero {K : PySem.W.Frag} {H : Hp} {B : Fb} {m : List Addr} {σ : St} : ∀ {es : List CE} {ps : List PV} {vs : List V}, flgs σ es = 0 → RAs K H B m σ es ps vs → RVs K H (fb B m) ps vs
  | [], ps, vs, _, h => by
    obtain ⟨rfl, rfl⟩ := h
    rfl
  | e :: es, ps, vs, z, h => by
    have z' : max (flg σ e) (flgs σ es) = 0 := z
    have z1 : flg σ e = 0 := by omega
    have z2 : flgs σ es = 0 := by omega
    unfold RAs at h
    split at h
    · obtain ⟨p1, p2, v1, v2, rfl, rfl, h1, h2⟩ := h
      exact h1.append (RAs.zero z2 h2)
    · obtain ⟨p, r, v, w, rfl, rfl, h1, h2⟩ := h
      exact RVs.cons (h1.zero z1) (RAs.zero z2 h2)
theorem RAs.same {K : PySem.W.Frag} {H H' : Hp} {B : Fb} {m : List Addr} {σ : St} (s : Same H H') : ∀ {es : List CE} {ps : List PV} {vs : List V}, RAs K H B m σ es ps vs → RAs K H' B m σ es ps vs
  | [], ps, vs, h => h
  | e :: es, ps, vs, h => by
    unfold RAs at h ⊢
    split
    · rename_i c
      rw [if_pos c] at h
      obtain ⟨p1, p2, v1, v2, e1, e2, h1, h2⟩ := h
      exact ⟨p1, p2, v1, v2, e1, e2, h1.same s, RAs.same s h2⟩
    · rename_i c
      rw [if_neg c] at h
      obtain ⟨p, r, v, w, e1, e2, h1, h2⟩ := h
      exact ⟨p, r, v, w, e1, e2, h1.same s, RAs.same s h2⟩
abbrev rA (K : PySem.W.Frag) (B : Fb) (m : List Addr) (σ : St) (es : List CE) : Hp → List PV → List V → Prop := fun H ps vs => RAs K H B m σ es ps vs
def tAs (K : PySem.W.Frag) (mg : Str → Option Value) (P : Pg) (W : WX) (es : List CE) : TA := fun τ H Q => ∃ B m σ h, Rl K H B m σ h τ ∧ Gd K mg W B m τ (rA K B m σ es) H (evs P es σ h) Q
def notStar : Expr → Bool
  | .Starred _ _ => false
  | _ => true
theorem star_no {e : Expr} {es : List Expr} {env : Env} (h : notStar e = true) : starEach (e :: es) env = (false, eval e env) :: starEach es env := by
  cases e <;> first | rfl | cases h
theorem star_any0 : ∀ {es : List Expr} {env : Env} {pos : Pos}, es.all notStar = true → (backTo pos (starEach es env)).any (·.1) = false
  | [], _, _, _ => rfl
  | e :: es, env, pos, h => by
    rw [List.all_cons, Bool.and_eq_true] at h
    rw [star_no h.1]
    have := star_any0 (env := env) (pos := pos) h.2
    simpa [backTo] using this
section
variable {X : Cx} {W : WX} {P : Pg} {a b : Expr} {es : List Expr} {ca cb cc : CE} {ces : List CE} {pos sp_ : Pos}
theorem evs_cons {P : Pg} {e : CE} {es : List CE} {σ : St} {h : OH} (hs : isStarE e = false) : evs P (e :: es) σ h = bnd (ev P e σ h) fun x => bnd (evs P es σ h) fun xs => ok (x :: xs) := by
  cases e <;> first | (cases hs; done) | (simp only [evs])
theorem s_anil : PA X [] (tAs X.K X.mg P W []) := by
  refine PA.imp pa_nil fun τ H Q ⟨B, m, σ, h, R, g⟩ => ?_
  exact Gd.ok (rel := rA X.K B m σ []) (p := []) (v := []) (by simpa only [evs] using g) ⟨rfl, rfl⟩
theorem s_acons (ha : PE X a (tE X.K X.mg P W ca)) (hr : PA X es (tAs X.K X.mg P W ces)) (hn : notStar a = true) (hc : isStarE ca = false) : PA X (a :: es) (tAs X.K X.mg P W (ca :: ces)) := by
  have h0 := pa_cons ha hr (star_no (env := X.env) (es := es) hn)
  refine PA.imp h0 fun τ H Q ⟨B, m, σ, h, R, g⟩ => ?_
  rw [evs_cons hc] at g
  refine ⟨B, m, σ, h, R, Gd.imp (Gd.bnd (rel := rF X.K B m (flg σ ca)) g) fun v H1 ⟨p, s1, r1, g1⟩ => ?_⟩
  refine ⟨B, m, σ, h, R.same s1, Gd.imp (Gd.bnd (rel := rA X.K B m σ ces) g1) fun vs H2 ⟨ps, s2, r2, g2⟩ => ?_⟩
  refine Gd.ok g2 ?_
  show RAs _ _ _ _ _ (ca :: ces) _ _
  unfold RAs
  rw [if_neg (by rw [hc]; exact fun z => nomatch z)]
  exact ⟨p, ps, v, vs, rfl, rfl, RF.same s2 r1, r2⟩
theorem seqV {K : PySem.W.Frag} {H : Hp} {F : Fb} {p : PV} {v : V} {ys : List PV} (h : RT K H F p v) (e : seqOf p = some ys) : ∃ a vs, v = .ref a ∧ (SqT K H a vs ∨ SqL K H a vs) ∧ vs.length ≤ sizeLine ∧ RVs K H F ys vs := by
  cases p with
  | lst xs =>
    obtain ⟨a, vs, e1, ha, hz, r⟩ := h.lst
    cases e
    exact ⟨a, vs, e1, .inr ha, hz, r⟩
  | tup xs =>
    obtain ⟨a, vs, e1, ha, hz, r⟩ := h.tup
    cases e
    exact ⟨a, vs, e1, .inl ha, hz, r⟩
  | _ => simp only [seqOf] at e; cases e
theorem s_astar (ha : PE X a (tE X.K X.mg P W ca)) (hr : PA X es (tAs X.K X.mg P W ces)) : PA X (.Starred a sp_ :: es) (tAs X.K X.mg P W (.star ca :: ces)) := by
  refine PA.imp (StX.pa_star ha hr) fun τ H Q ⟨B, m, σ, h, R, g⟩ => ?_
  simp only [evs] at g
  refine ⟨B, m, σ, h, R, Gd.imp (Gd.bnd (rel := rF X.K B m (flg σ ca)) g) fun v H1 ⟨p, s1, r1, g1⟩ => ?_⟩
  obtain ⟨ys, q, g1⟩ := Gd.wo g1
  obtain ⟨a, vs, rfl, ha, hz, rr⟩ := seqV r1.top q
  refine ⟨a, vs, rfl, ha, B, m, σ, h, R.same s1, Gd.imp (Gd.bnd (rel := rA X.K B m σ ces) g1) fun ws H2 ⟨ps, s2, r2, g2⟩ => ?_⟩
  refine Gd.ok g2 ?_
  show RAs _ _ _ _ _ (.star ca :: ces) _ _
  unfold RAs
  rw [if_pos (show isStarE (CE.star ca) = true from rfl)]
  exact ⟨ys, ps, vs, ws, rfl, rfl, rr.same s2, r2⟩

/-! ### expressions -/
theorem s_tup {k : Nat} (ha : PA X es (tAs X.K X.mg P W ces)) : PE X (.Tuple es k pos) (tE X.K X.mg P W (.tup ces)) := by
  refine PE.imp (pe_tup ha) fun τ H Q ⟨B, m, σ, h, R, g⟩ => ?_
  simp only [ev] at g
  refine ⟨B, m, σ, h, R, Gd.imp (Gd.bnd (rel := rA X.K B m σ ces) g) fun vs H1 ⟨ps, s1, r1, g1⟩ => ?_⟩
  obtain ⟨⟨c1, c2⟩, g1⟩ := Gd.ite g1
  have r2 := r1.zero c2
  have hz : vs.length ≤ sizeLine := by rw [← r2.length, ← big_eq]; exact c1
  exact ⟨hz, fun t nt => Gd.new g1 (same_upd nt) (RF.of (RV.newTup nt hz r2))⟩
theorem s_lst (ha : PA X es (tAs X.K X.mg P W ces)) : PE X (.List es pos) (tE X.K X.mg P W (.lst ces)) := by
  refine PE.imp (pe_lst ha) fun τ H Q ⟨B, m, σ, h, R, g⟩ => ?_
  simp only [ev] at g
  refine ⟨B, m, σ, h, R, Gd.imp (Gd.bnd (rel := rA X.K B m σ ces) g) fun vs H1 ⟨ps, s1, r1, g1⟩ => ?_⟩
  obtain ⟨⟨c1, c2⟩, g1⟩ := Gd.ite g1
  have r2 := r1.zero c2
  have hz : vs.length ≤ sizeLine := by rw [← r2.length, ← big_eq]; exact c1
  exact ⟨hz, fun t nt => Gd.new g1 (same_upd nt) (RF.of (RV.newLst (R.toRh.same s1) nt hz r2))⟩
theorem s_dct0 : PE X (.Dict [] [] pos) (tE X.K X.mg P W .dct0) := by
  refine PE.imp pe_dnewK fun τ H Q ⟨B, m, σ, h, R, g⟩ => ?_
  simp only [ev] at g
  refine fun t nt => Gd.new g (same_upd nt) (RF.of ?_)
  exact ⟨t, [], rfl, upd_same, Nat.zero_le _, R.free nt, rfl, rfl⟩
theorem s_bin {o : Op} (ha : PE X a (tE X.K X.mg P W ca)) (hb : PE X b (tE X.K X.mg P W cb)) : PE X (.BinOp a (opB o) b pos) (tE X.K X.mg P W (.bin o ca cb)) := by
  refine PE.imp (pe_op (op_b2 o) ha hb) fun τ H Q ⟨B, m, σ, h, R, g⟩ => ?_
  simp only [ev] at g
  refine ⟨B, m, σ, h, R, Gd.imp (Gd.bnd (rel := rF X.K B m (flg σ ca)) g) fun x H1 ⟨p, s1, r1, g1⟩ => ?_⟩
  refine ⟨B, m, σ, h, R.same s1, Gd.imp (Gd.bnd (rel := rF X.K B m (flg σ cb)) g1) fun y H2 ⟨q, s2, r2, g2⟩ => ?_⟩
  cases e : op2 o p q with
  | none => rw [e] at g2; exact g2.elim
  | some z =>
    rw [e] at g2
    refine ⟨B, m, h, p, q, z, (R.toRh.same s1).same s2, (RF.same s2 r1).top, r2.top, e, fun hl => ?_, fun v H3 s3 r3 => ?_⟩
    · cases z with
      | lst zs =>
        obtain ⟨⟨c1, c2⟩, _⟩ := Gd.ite g2
        exact ⟨(RF.same s2 r1).zero c1, r2.zero c2⟩
      | _ => cases hl
    · cases z with
      | lst zs =>
        obtain ⟨_, g3⟩ := Gd.ite g2
        exact Gd.new g3 s3 (RF.of r3)
      | _ => exact Gd.new g2 s3 (RF.of r3)
theorem asIntV {K : PySem.W.Frag} {H : Hp} {F : Fb} {p : PV} {v : V} {i : Int} (h : RT K H F p v) (e : asInt p = some i) : v = .int i := by
  cases p with
  | int j => cases e; exact h
  | _ => simp only [asInt] at e; cases e
theorem s_neg (ha : PE X a (tE X.K X.mg P W ca)) : PE X (.UnaryOp .USub a pos) (tE X.K X.mg P W (.neg ca)) := by
  refine PE.imp (pe_un un_neg ha) fun τ H Q ⟨B, m, σ, h, R, g⟩ => ?_
  simp only [ev] at g
  refine ⟨B, m, σ, h, R, Gd.imp (Gd.bnd (rel := rF X.K B m (flg σ ca)) g) fun x H1 ⟨p, s1, r1, g1⟩ => ?_⟩
  obtain ⟨i, e, g1⟩ := Gd.wo g1
  exact ⟨i, asIntV r1.top e, Gd.ok g1 (RF.of rfl)⟩
theorem s_cmp {o : Cm} (hu : X.A.units + 65 < cLine) (ha : PE X a (tE X.K X.mg P W ca)) (hb : PE X b (tE X.K X.mg P W cb)) (hm : behindInMarks (opC o) b = false) : PE X (.Compare a [opC o] [b] pos) (tE X.K X.mg P W (.cmp o ca cb)) := by
  refine PE.imp (pe_cmpR (op_cm hu o) ha hb hm) fun τ H Q ⟨B, m, σ, h, R, g⟩ => ?_
  simp only [ev] at g
  refine ⟨B, m, σ, h, R, Gd.imp (Gd.bnd (rel := rF X.K B m (flg σ ca)) g) fun x H1 ⟨p, s1, r1, g1⟩ => ?_⟩
  refine ⟨B, m, σ, h, R.same s1, Gd.imp (Gd.bnd (rel := rF X.K B m (flg σ cb)) g1) fun y H2 ⟨q, s2, r2, g2⟩ => ?_⟩
  cases e : cm2 o p q with
  | none => rw [e] at g2; exact g2.elim
  | some c =>
    rw [e] at g2
    exact ⟨fb B m, p, q, c, (RF.same s2 r1).top, r2.top, e, Gd.ok (p := PV.bl c) g2 (RF.of rfl)⟩
/-- tests -/
theorem evT_def {c : CE} {σ : St} {h : OH} : evT P c σ h = bnd (ev P c σ h) fun x => (truth x).map .ok := rfl
theorem s_test (ha : PE X a (tE X.K X.mg P W ca)) (he : ∀ whole, isTrue a X.env whole = (do let v ← whole; standAt a.pos; holding [v] (truthy v))) : PT X a (tT X.K X.mg P W ca) := by
  refine PT.imp (pt_truth ha he) fun τ H Q ⟨B, m, σ, h, R, g⟩ => ?_
  rw [evT_def] at g
  refine ⟨B, m, σ, h, R, Gd.imp (Gd.bnd (rel := rF X.K B m (flg σ ca)) g) fun x H1 ⟨p, s1, r1, g1⟩ => ?_⟩
  obtain ⟨c, e, g2⟩ := Gd.some g1
  exact ⟨c, truth_V r1.top e, Gd.ok g2 rfl⟩
theorem s_cmpT {o : Cm} (hu : X.A.units + 65 < cLine) (ha : PE X a (tE X.K X.mg P W ca)) (hb : PE X b (tE X.K X.mg P W cb)) (hm : behindInMarks (opC o) b = false) : PT X (.Compare a [opC o] [b] pos) (tT X.K X.mg P W (.cmp o ca cb)) := by
  refine PT.imp (pt_cmpR (op_cm hu o) ha hb hm) fun τ H Q ⟨B, m, σ, h, R, g⟩ => ?_
  rw [evT_def] at g
  simp only [ev] at g
  refine ⟨B, m, σ, h, R, ?_⟩
  cases qa : ev P ca σ h with
  | none => rw [qa] at g; exact g.elim
  | some ra =>
    cases ra with
    | error x => rw [qa] at g; exact g
    | ok p =>
      rw [qa] at g
      intro x H1 s1 r1
      refine ⟨B, m, σ, h, R.same s1, ?_⟩
      cases qb : ev P cb σ h with
      | none => simp only [bnd_ok, qb, bnd_none] at g; exact g.elim
      | some rb =>
        cases rb with
        | error x => simp only [bnd_ok, qb, bnd_err] at g; exact Gd.later (rel := rB) s1 g
        | ok q =>
          intro y H2 s2 r2
          simp only [bnd_ok, qb] at g
          cases e : cm2 o p q with
          | none => rw [e] at g; exact g.elim
          | some c =>
            rw [e] at g
            refine ⟨fb B m, p, q, c, (RF.same s2 r1).top, r2.top, e, c, rfl, ?_⟩
            exact Gd.ok (p := c) (Gd.later (rel := rB) s2 (Gd.later (rel := rB) s1 g)) rfl
end
end Ev

set_option Elab.async false
set_option linter.all false
set_option maxRecDepth 100000
/-! Ev6: more expressions by the evaluator. -/
namespace Ev
open PySem PySem.Spec PyProof.Rows L2
section
variable {X : Cx} {W : WX} {P : Pg} {a b c : Expr} {es : List Expr} {ca cb cc : CE} {ces : List CE} {pos p2 : Pos}
theorem evT_not {σ : St} {h : OH} : evT P (.not ca) σ h = bnd (evT P ca σ h) fun x => ok !x := by
  simp only [evT, ev]
  cases ev P ca σ h with
  | none => rfl
  | some r =>
    cases r with
    | error x => rfl
    | ok p => simp only [bnd_ok]; cases truth p <;> rfl
theorem evT_and {σ : St} {h : OH} : evT P (.and ca cb) σ h = bnd (evT P ca σ h) fun x => if x then evT P cb σ h else ok false := by
  simp only [evT, ev]
  cases ev P ca σ h with
  | none => rfl
  | some r =>
    cases r with
    | error x => rfl
    | ok p =>
      simp only [bnd_ok]
      cases e : truth p with
      | none => rfl
      | some t =>
        cases t with
        | true => simp
        | false => simp [e]
theorem evT_or {σ : St} {h : OH} : evT P (.or ca cb) σ h = bnd (evT P ca σ h) fun x => if x then ok true else evT P cb σ h := by
  simp only [evT, ev]
  cases ev P ca σ h with
  | none => rfl
  | some r =>
    cases r with
    | error x => rfl
    | ok p =>
      simp only [bnd_ok]
      cases e : truth p with
      | none => rfl
      | some t =>
        cases t with
        | true => simp [e]
        | false => simp
theorem ev_tr {σ : St} {h : OH} {β : Type} {k : Bool → R β} : (bnd (ev P ca σ h) fun x => withO (truth x) k) = bnd (evT P ca σ h) k := by
  simp only [evT]
  cases ev P ca σ h with
  | none => rfl
  | some r =>
    cases r with
    | error x => rfl
    | ok p => simp only [bnd_ok]; cases truth p <;> rfl
theorem s_notT (ha : PT X a (tT X.K X.mg P W ca)) : PT X (.UnaryOp .Not a pos) (tT X.K X.mg P W (.not ca)) := by
  refine PT.imp (pt_not ha) fun τ H Q ⟨B, m, σ, h, R, g⟩ => ?_
  rw [evT_not] at g
  refine ⟨B, m, σ, h, R, Gd.imp (Gd.bnd (rel := rB) g) fun x H1 ⟨p, s1, r1, g1⟩ => ?_⟩
  cases (show p = x from r1)
  exact Gd.ok g1 rfl
theorem s_not (ha : PE X a (tE X.K X.mg P W ca)) : PE X (.UnaryOp .Not a pos) (tE X.K X.mg P W (.not ca)) := by
  refine PE.imp (pe_notT ha) fun τ H Q ⟨B, m, σ, h, R, g⟩ => ?_
  simp only [ev] at g
  refine ⟨B, m, σ, h, R, Gd.imp (Gd.bnd (rel := rF X.K B m (flg σ ca)) g) fun x H1 ⟨p, s1, r1, g1⟩ => ?_⟩
  cases e : truth p with
  | none => rw [e] at g1; exact g1.elim
  | some t =>
    rw [e] at g1
    exact ⟨t, truth_V r1.top e, Gd.ok (p := PV.bl !t) g1 (RF.of rfl)⟩
theorem s_andW {rest : List Expr} (ha : PT X a (tT X.K X.mg P W ca)) (hb : PW X (.BoolOp .And (b :: rest) pos) (tT X.K X.mg P W cb)) : PW X (.BoolOp .And (a :: b :: rest) pos) (tT X.K X.mg P W (.and ca cb)) := by
  refine PW.imp (pw_and ha hb) fun τ H Q ⟨B, m, σ, h, R, g⟩ => ?_
  rw [evT_and] at g
  refine ⟨B, m, σ, h, R, Gd.imp (Gd.bnd (rel := rB) g) fun x H1 ⟨p, s1, r1, g1⟩ => ?_⟩
  cases (show p = x from r1)
  cases x with
  | true => rw [if_pos rfl] at g1 ⊢; exact ⟨B, m, σ, h, R.same s1, g1⟩
  | false => rw [if_neg (by decide)] at g1 ⊢; exact Gd.ok g1 rfl
theorem s_orW {rest : List Expr} (ha : PT X a (tT X.K X.mg P W ca)) (hb : PW X (.BoolOp .Or (b :: rest) pos) (tT X.K X.mg P W cb)) : PW X (.BoolOp .Or (a :: b :: rest) pos) (tT X.K X.mg P W (.or ca cb)) := by
  refine PW.imp (pw_or ha hb) fun τ H Q ⟨B, m, σ, h, R, g⟩ => ?_
  rw [evT_or] at g
  refine ⟨B, m, σ, h, R, Gd.imp (Gd.bnd (rel := rB) g) fun x H1 ⟨p, s1, r1, g1⟩ => ?_⟩
  cases (show p = x from r1)
  cases x with
  | true => rw [if_pos rfl] at g1 ⊢; exact Gd.ok g1 rfl
  | false => rw [if_neg (by decide)] at g1 ⊢; exact ⟨B, m, σ, h, R.same s1, g1⟩
theorem RF.max {K : PySem.W.Frag} {H : Hp} {B : Fb} {m : List Addr} {i j : Nat} {p : PV} {v : V} (h : RF K H B m i p v) : RF K H B m (max i j) p v := by
  by_cases e : i = 0
  · exact RF.of (h.zero e)
  · exact RF.mk (by omega) h.top fun z => h.bor (by omega)
theorem RF.max' {K : PySem.W.Frag} {H : Hp} {B : Fb} {m : List Addr} {i j : Nat} {p : PV} {v : V} (h : RF K H B m j p v) : RF K H B m (Max.max i j) p v := by
  by_cases e : j = 0
  · exact RF.of (h.zero e)
  · exact RF.mk (by omega) h.top fun z => h.bor (by omega)
theorem Gd.rel {K : PySem.W.Frag} {mg : Str → Option Value} {B : Fb} {m : List Addr} {τ : L2.St} {H : Hp} {α β : Type} {rel rel' : Hp → α → β → Prop} {r : R α} {Q : β → Hp → Prop} (g : Gd K mg W B m τ rel H r Q) (h : ∀ H p v, rel' H p v → rel H p v) : Gd K mg W B m τ rel' H r Q := by
  cases r with
  | none => exact g
  | some r =>
    cases r with
    | ok p => exact fun v H' s q => g v H' s (h _ _ _ q)
    | error x => exact g
theorem s_and {rest : List Expr} (ha : PE X a (tE X.K X.mg P W ca)) (hb : PE X (.BoolOp .And (b :: rest) pos) (tE X.K X.mg P W cb)) : PE X (.BoolOp .And (a :: b :: rest) pos) (tE X.K X.mg P W (.and ca cb)) := by
  refine PE.imp (pe_andT ha hb) fun τ H Q ⟨B, m, σ, h, R, g⟩ => ?_
  simp only [ev] at g
  refine ⟨B, m, σ, h, R, Gd.imp (Gd.bnd (rel := rF X.K B m (flg σ ca)) g) fun x H1 ⟨p, s1, r1, g1⟩ => ?_⟩
  obtain ⟨t, e, g1⟩ := Gd.wo g1
  refine ⟨t, truth_V r1.top e, ?_⟩
  cases t with
  | true =>
    rw [if_pos rfl] at g1 ⊢
    exact ⟨B, m, σ, h, R.same s1, g1.rel fun H p v q => RF.max' q⟩
  | false =>
    rw [if_neg (by decide)] at g1 ⊢
    exact Gd.ok g1 (RF.max r1)
theorem s_or {rest : List Expr} (ha : PE X a (tE X.K X.mg P W ca)) (hb : PE X (.BoolOp .Or (b :: rest) pos) (tE X.K X.mg P W cb)) : PE X (.BoolOp .Or (a :: b :: rest) pos) (tE X.K X.mg P W (.or ca cb)) := by
  refine PE.imp (pe_orT ha hb) fun τ H Q ⟨B, m, σ, h, R, g⟩ => ?_
  simp only [ev] at g
  refine ⟨B, m, σ, h, R, Gd.imp (Gd.bnd (rel := rF X.K B m (flg σ ca)) g) fun x H1 ⟨p, s1, r1, g1⟩ => ?_⟩
  obtain ⟨t, e, g1⟩ := Gd.wo g1
  refine ⟨t, truth_V r1.top e, ?_⟩
  cases t with
  | true =>
    rw [if_pos rfl] at g1 ⊢
    exact Gd.ok g1 (RF.max r1)
  | false =>
    rw [if_neg (by decide)] at g1 ⊢
    exact ⟨B, m, σ, h, R.same s1, g1.rel fun H p v q => RF.max' q⟩
theorem s_ite (hc : PT X c (tT X.K X.mg P W cc)) (ha : PE X a (tE X.K X.mg P W ca)) (hb : PE X b (tE X.K X.mg P W cb)) : PE X (.IfExp c a b pos) (tE X.K X.mg P W (.ite cc ca cb)) := by
  refine PE.imp (pe_ifExp hc ha hb) fun τ H Q ⟨B, m, σ, h, R, g⟩ => ?_
  simp only [ev, ev_tr] at g
  refine ⟨B, m, σ, h, R, Gd.imp (Gd.bnd (rel := rB) g) fun x H1 ⟨p, s1, r1, g1⟩ => ?_⟩
  cases (show p = x from r1)
  cases x with
  | true =>
    rw [if_pos rfl] at g1 ⊢
    exact ⟨B, m, σ, h, R.same s1, g1.rel fun H p v q => RF.max q⟩
  | false =>
    rw [if_neg (by decide)] at g1 ⊢
    exact ⟨B, m, σ, h, R.same s1, g1.rel fun H p v q => RF.max' q⟩
theorem s_idx (hu : X.A.units + 1 < cLine) (ha : PE X a (tE X.K X.mg P W ca)) (hb : PE X b (tE X.K X.mg P W cb)) (hs : PlainIx b) : PE X (.Subscript a b pos) (tE X.K X.mg P W (.idx ca cb)) := by
  refine PE.imp (pe_ix (ix_p hu) ha hb hs) fun τ H Q ⟨B, m, σ, h, R, g⟩ => ?_
  simp only [ev] at g
  refine ⟨B, m, σ, h, R, Gd.imp (Gd.bnd (rel := rF X.K B m (flg σ ca)) g) fun x H1 ⟨p, s1, r1, g1⟩ => ?_⟩
  refine ⟨B, m, σ, h, R.same s1, Gd.imp (Gd.bnd (rel := rF X.K B m (flg σ cb)) g1) fun y H2 ⟨q, s2, r2, g2⟩ => ?_⟩
  obtain ⟨z, e, g2⟩ := Gd.some g2
  exact ⟨fb B m, p, q, z, (RF.same s2 r1).top, r2.top, e, fun v hv => Gd.ok g2 (RF.of hv)⟩
theorem s_slL (ha : PE X a (tE X.K X.mg P W ca)) (hb : PE X b (tE X.K X.mg P W cb)) : PE X (.Subscript a (.Slice (some b) none none p2) pos) (tE X.K X.mg P W (.slL ca cb)) := by
  refine PE.imp (pe_slice sl_p ha (po_some hb) po_none) fun τ H Q ⟨B, m, σ, h, R, g⟩ => ?_
  simp only [ev] at g
  refine ⟨B, m, σ, h, R, Gd.imp (Gd.bnd (rel := rF X.K B m (flg σ ca)) g) fun x H1 ⟨p, s1, r1, g1⟩ => ?_⟩
  refine ⟨B, m, σ, h, R.same s1, Gd.imp (Gd.bnd (rel := rF X.K B m (flg σ cb)) g1) fun y H2 ⟨q, s2, r2, g2⟩ => ?_⟩
  obtain ⟨i, ei, g2⟩ := Gd.wo g2
  obtain ⟨z, e, g2⟩ := Gd.some g2
  exact ⟨i, asIntV r2.top ei, B, m, h, p, z, (R.toRh.same s1).same s2, (RF.same s2 r1).top, e, fun v H3 s3 hv => Gd.new g2 s3 (RF.of hv)⟩
theorem s_slU (ha : PE X a (tE X.K X.mg P W ca)) (hb : PE X b (tE X.K X.mg P W cb)) : PE X (.Subscript a (.Slice none (some b) none p2) pos) (tE X.K X.mg P W (.slU ca cb)) := by
  refine PE.imp (pe_slice sl_p ha po_none (po_some hb)) fun τ H Q ⟨B, m, σ, h, R, g⟩ => ?_
  simp only [ev] at g
  refine ⟨B, m, σ, h, R, Gd.imp (Gd.bnd (rel := rF X.K B m (flg σ ca)) g) fun x H1 ⟨p, s1, r1, g1⟩ => ?_⟩
  refine ⟨B, m, σ, h, R.same s1, Gd.imp (Gd.bnd (rel := rF X.K B m (flg σ cb)) g1) fun y H2 ⟨q, s2, r2, g2⟩ => ?_⟩
  obtain ⟨i, ei, g2⟩ := Gd.wo g2
  obtain ⟨z, e, g2⟩ := Gd.some g2
  exact ⟨i, asIntV r2.top ei, B, m, h, p, z, (R.toRh.same s1).same s2, (RF.same s2 r1).top, e, fun v H3 s3 hv => Gd.new g2 s3 (RF.of hv)⟩
theorem s_slN (ha : PE X a (tE X.K X.mg P W ca)) : PE X (.Subscript a (.Slice none none none p2) pos) (tE X.K X.mg P W (.slN ca)) := by
  refine PE.imp (pe_slice sl_p ha po_none po_none) fun τ H Q ⟨B, m, σ, h, R, g⟩ => ?_
  simp only [ev] at g
  refine ⟨B, m, σ, h, R, Gd.imp (Gd.bnd (rel := rF X.K B m (flg σ ca)) g) fun x H1 ⟨p, s1, r1, g1⟩ => ?_⟩
  obtain ⟨z, e, g2⟩ := Gd.some g1
  exact ⟨B, m, h, p, z, R.toRh.same s1, r1.top, e, fun v H3 s3 hv => Gd.new g2 s3 (RF.of hv)⟩
theorem s_slLU (ha : PE X a (tE X.K X.mg P W ca)) (hb : PE X b (tE X.K X.mg P W cb)) (hc : PE X c (tE X.K X.mg P W cc)) : PE X (.Subscript a (.Slice (some b) (some c) none p2) pos) (tE X.K X.mg P W (.slLU ca cb cc)) := by
  refine PE.imp (pe_slice sl_p ha (po_some hb) (po_some hc)) fun τ H Q ⟨B, m, σ, h, R, g⟩ => ?_
  simp only [ev] at g
  refine ⟨B, m, σ, h, R, Gd.imp (Gd.bnd (rel := rF X.K B m (flg σ ca)) g) fun x H1 ⟨p, s1, r1, g1⟩ => ?_⟩
  refine ⟨B, m, σ, h, R.same s1, Gd.imp (Gd.bnd (rel := rF X.K B m (flg σ cb)) g1) fun y H2 ⟨q, s2, r2, g2⟩ => ?_⟩
  obtain ⟨i, ei, g2⟩ := Gd.wo g2
  refine ⟨i, asIntV r2.top ei, B, m, σ, h, (R.same s1).same s2, Gd.imp (Gd.bnd (rel := rF X.K B m (flg σ cc)) g2) fun z H3 ⟨z3, s3, r3, g3⟩ => ?_⟩
  obtain ⟨j, ej, g3⟩ := Gd.wo g3
  obtain ⟨zz, e, g3⟩ := Gd.some g3
  exact ⟨j, asIntV r3.top ej, B, m, h, p, zz, ((R.toRh.same s1).same s2).same s3, (RF.same s3 (RF.same s2 r1)).top, e, fun v H4 s4 hv => Gd.new g3 s4 (RF.of hv)⟩
end
end Ev

set_option Elab.async false
set_option linter.all false
set_option maxRecDepth 100000
/-! Ev7: chains, built-in calls, isinstance, calls of defs. -/
namespace Ev
open PySem PySem.Spec PyProof.Rows L2
section
variable {X : Cx} {W : WX} {P : Pg} {a b c : Expr} {es : List Expr} {ca cb cc : CE} {ces : List CE} {pos p p2 : Pos}
theorem s_chain {o o' : Cm} (hu : X.A.units + 65 < cLine) (ha : PE X a (tE X.K X.mg P W ca)) (hb : PE X b (tE X.K X.mg P W cb)) (hc : PE X c (tE X.K X.mg P W cc)) (hm : lastMarks [opC o, opC o'] [b, c] = false) :
    PE X (.Compare a [opC o, opC o'] [b, c] pos) (tE X.K X.mg P W (.chain o o' ca cb cc)) := by
  refine PE.imp (pe_chain (op_cm hu o) (op_cm hu o') ha hb hc hm) fun τ H Q ⟨B, m, σ, h, R, g⟩ => ?_
  simp only [ev] at g
  refine ⟨B, m, σ, h, R, Gd.imp (Gd.bnd (rel := rF X.K B m (flg σ ca)) g) fun x H1 ⟨p, s1, r1, g1⟩ => ?_⟩
  refine ⟨B, m, σ, h, R.same s1, Gd.imp (Gd.bnd (rel := rF X.K B m (flg σ cb)) g1) fun y H2 ⟨q, s2, r2, g2⟩ => ?_⟩
  obtain ⟨t, e, g2⟩ := Gd.wo g2
  refine ⟨fb B m, p, q, t, (RF.same s2 r1).top, r2.top, e, t, rfl, ?_⟩
  cases t with
  | true =>
    rw [if_pos rfl] at g2 ⊢
    refine ⟨B, m, σ, h, (R.same s1).same s2, Gd.imp (Gd.bnd (rel := rF X.K B m (flg σ cc)) g2) fun z H3 ⟨q3, s3, r3, g3⟩ => ?_⟩
    cases e3 : cm2 o' q q3 with
    | none => rw [e3] at g3; exact g3.elim
    | some c3 =>
      rw [e3] at g3
      exact ⟨fb B m, q, q3, c3, (RF.same s3 r2).top, r3.top, e3, Gd.ok (p := PV.bl c3) g3 (RF.of rfl)⟩
  | false =>
    rw [if_neg (by decide)] at g2 ⊢
    exact Gd.ok g2 (RF.of rfl)
theorem evT_plain {σ : St} {h : OH} : evT P ca σ h = bnd (ev P ca σ h) fun x => (truth x).map .ok := rfl
theorem s_chainT {o o' : Cm} (hu : X.A.units + 65 < cLine) (ha : PE X a (tE X.K X.mg P W ca)) (hb : PE X b (tE X.K X.mg P W cb)) (hc : PE X c (tE X.K X.mg P W cc)) (hm : lastMarks [opC o, opC o'] [b, c] = false) :
    PT X (.Compare a [opC o, opC o'] [b, c] pos) (tT X.K X.mg P W (.chain o o' ca cb cc)) := by
  refine PT.imp (pt_chain (op_cm hu o) (op_cm hu o') ha hb hc hm) fun τ H Q ⟨B, m, σ, h, R, g⟩ => ?_
  have e0 : evT P (.chain o o' ca cb cc) σ h = bnd (ev P ca σ h) fun x => bnd (ev P cb σ h) fun y => withO (cm2 o x y) fun t => if t then bnd (ev P cc σ h) fun z => (cm2 o' y z).map .ok else ok false := by
    simp only [evT, ev]
    cases ev P ca σ h with
    | none => rfl
    | some ra =>
      cases ra with
      | error x => rfl
      | ok pa =>
        simp only [bnd_ok]
        cases ev P cb σ h with
        | none => rfl
        | some rb =>
          cases rb with
          | error x => rfl
          | ok pb =>
            simp only [bnd_ok]
            cases cm2 o pa pb with
            | none => rfl
            | some t =>
              cases t with
              | false => rfl
              | true =>
                simp only [withO_some, if_true]
                cases ev P cc σ h with
                | none => rfl
                | some rc =>
                  cases rc with
                  | error x => rfl
                  | ok pc => simp only [bnd_ok]; cases cm2 o' pb pc <;> rfl
  rw [e0] at g
  refine ⟨B, m, σ, h, R, Gd.imp (Gd.bnd (rel := rF X.K B m (flg σ ca)) g) fun x H1 ⟨p, s1, r1, g1⟩ => ?_⟩
  refine ⟨B, m, σ, h, R.same s1, Gd.imp (Gd.bnd (rel := rF X.K B m (flg σ cb)) g1) fun y H2 ⟨q, s2, r2, g2⟩ => ?_⟩
  obtain ⟨t, e, g2⟩ := Gd.wo g2
  refine ⟨fb B m, p, q, t, (RF.same s2 r1).top, r2.top, e, t, rfl, ?_⟩
  cases t with
  | true =>
    rw [if_pos rfl] at g2 ⊢
    refine ⟨B, m, σ, h, (R.same s1).same s2, Gd.imp (Gd.bnd (rel := rF X.K B m (flg σ cc)) g2) fun z H3 ⟨q3, s3, r3, g3⟩ => ?_⟩
    obtain ⟨c3, e3, g3⟩ := Gd.some g3
    exact ⟨fb B m, q, q3, c3, (RF.same s3 r2).top, r3.top, e3, c3, rfl, Gd.ok g3 rfl⟩
  | false =>
    rw [if_neg (by decide)] at g2 ⊢
    exact ⟨false, rfl, Gd.ok g2 rfl⟩
/-! ### built-in functions -/
theorem mem_blt (f : Bi) : biS f ∈ bltNames := by cases f <;> decide +kernel
theorem bi_ne (f : Bi) : biS f ≠ "__name__" ∧ (biS f == ("__debug__" : Str)) = false := by cases f <;> decide +kernel
theorem RAs.one {K : PySem.W.Frag} {H : Hp} {B : Fb} {m : List Addr} {σ : St} {c : CE} {ps : List PV} {vs : List V} (hc : isStarE c = false) (h : RAs K H B m σ [c] ps vs) : ∃ p v, ps = [p] ∧ vs = [v] ∧ RF K H B m (flg σ c) p v := by
  unfold RAs at h
  rw [if_neg (by rw [hc]; exact fun z => nomatch z)] at h
  obtain ⟨p, r, v, w, rfl, rfl, h1, rfl, rfl⟩ := h
  exact ⟨p, v, rfl, rfl, h1⟩
theorem s_bi {f : Bi} (hf : bi1ok f = true) (hc : X.calm = true) (hg : Gl X (biS f)) (hm : X.mg (biS f) = none) (ha : PA X [a] (tAs X.K X.mg P W [ca])) (hn : notStar a = true) (hs : isStarE ca = false) :
    PE X (.Call (.Name (biS f) p) [a] [] pos) (tE X.K X.mg P W (.bi f [ca])) := by
  have he : starEach [a] X.env = (false, eval a X.env) :: starEach [] X.env := star_no hn
  have key : PE X (.Call (.Name (biS f) p) [a] [] pos) (tCB (rBi X.K f) (tAs X.K X.mg P W [ca])) := by
    have hb := boot_bi f hf
    have cr := cr_bi1 (X := X) hc f hf
    obtain ⟨n1, n2⟩ := bi_ne f
    cases e : biV f with
    | builtin id => rw [e] at hb cr; exact pe_callB cr hg hm hb ha n1 n2 he rfl
    | type T => rw [e] at hb cr; exact pe_callTy cr hg hm hb ha n1 n2 he rfl
    | _ => cases f <;> first | (cases hf; done) | (cases e; done)
  refine PE.imp key fun τ H Q ⟨B, m, σ, h, R, g⟩ => ?_
  simp only [ev] at g
  refine ⟨B, m, σ, h, R, Gd.imp (Gd.bnd (rel := rA X.K B m σ [ca]) g) fun vs H1 ⟨ps, s1, r1, g1⟩ => ?_⟩
  obtain ⟨q, v, rfl, rfl, r2⟩ := RAs.one hs r1
  obtain ⟨z, e, g2⟩ := Gd.some g1
  exact ⟨B, m, h, q, v, z, rfl, R.toRh.same s1, r2.top, e, fun v H3 s3 hv => Gd.new g2 s3 (RF.of hv)⟩
theorem s_bi2 {f : Bi} (hf : f = .max2 ∨ f = .min2) (hc : X.calm = true) (hg : Gl X (biS f)) (hm : X.mg (biS f) = none) (ha : PA X [a, b] (tAs X.K X.mg P W [ca, cb])) (hn : notStar a = true) (hn2 : notStar b = true) (hs : isStarE ca = false) (hs2 : isStarE cb = false) :
    PE X (.Call (.Name (biS f) p) [a, b] [] pos) (tE X.K X.mg P W (.bi f [ca, cb])) := by
  have he : starEach [a, b] X.env = (false, eval a X.env) :: starEach [b] X.env := star_no hn
  have hpl : (backTo pos (starEach [b] X.env)).any (·.1) = false := star_any0 (by simp [hn2])
  obtain ⟨n1, n2⟩ := bi_ne f
  have r2 : ∀ {H : Hp} {B : Fb} {m : List Addr} {σ : St} {ps : List PV} {vs : List V}, RAs X.K H B m σ [ca, cb] ps vs → ∃ p q v w, ps = [p, q] ∧ vs = [v, w] ∧ RF X.K H B m (flg σ ca) p v ∧ RF X.K H B m (flg σ cb) q w := by
    intro H B m σ ps vs h
    unfold RAs at h
    rw [if_neg (by rw [hs]; exact fun z => nomatch z)] at h
    obtain ⟨p, r, v, w, rfl, rfl, h1, h2⟩ := h
    obtain ⟨q, z, rfl, rfl, h3⟩ := RAs.one hs2 h2
    exact ⟨p, q, v, z, rfl, rfl, h1, h3⟩
  rcases hf with rfl | rfl
  · refine PE.imp (pe_callB (call_max2 hc) hg hm (by decide +kernel) ha n1 n2 he hpl) fun τ H Q ⟨B, m, σ, h, R, g⟩ => ?_
    simp only [ev] at g
    refine ⟨B, m, σ, h, R, Gd.imp (Gd.bnd (rel := rA X.K B m σ [ca, cb]) g) fun vs H1 ⟨ps, s1, r1, g1⟩ => ?_⟩
    obtain ⟨q1, q2, v, w, rfl, rfl, h1, h2⟩ := r2 r1
    obtain ⟨z, e, g2⟩ := Gd.some g1
    cases q1 with
    | int i =>
      cases q2 with
      | int j =>
        have e' : PV.int (if j > i then j else i) = z := by simpa only [bi2, Option.some.injEq] using e
        subst e'
        exact ⟨i, j, by rw [h1.top.int, h2.top.int], Gd.ok g2 (RF.of rfl)⟩
      | _ => simp only [bi2] at e; cases e
    | _ => simp only [bi2] at e; cases e
  · refine PE.imp (pe_callB (call_min2 hc) hg hm (by decide +kernel) ha n1 n2 he hpl) fun τ H Q ⟨B, m, σ, h, R, g⟩ => ?_
    simp only [ev] at g
    refine ⟨B, m, σ, h, R, Gd.imp (Gd.bnd (rel := rA X.K B m σ [ca, cb]) g) fun vs H1 ⟨ps, s1, r1, g1⟩ => ?_⟩
    obtain ⟨q1, q2, v, w, rfl, rfl, h1, h2⟩ := r2 r1
    obtain ⟨z, e, g2⟩ := Gd.some g1
    cases q1 with
    | int i =>
      cases q2 with
      | int j =>
        have e' : PV.int (if j < i then j else i) = z := by simpa only [bi2, Option.some.injEq] using e
        subst e'
        exact ⟨i, j, by rw [h1.top.int, h2.top.int], Gd.ok g2 (RF.of rfl)⟩
      | _ => simp only [bi2] at e; cases e
    | _ => simp only [bi2] at e; cases e
/-! ### isinstance of built-in classes -/
def tyN : PV → Option String
  | .non => some "NoneType" | .bl _ => some "bool" | .int _ => some "int" | .str _ => some "str" | .tup _ => some "tuple" | .lst _ => some "list" | .dct _ _ => some "dict"
  | _ => none
def tyNames : List String := ["int", "bool", "tuple", "list", "str", "dict"]
theorem ty_of {K : PySem.W.Frag} {H : Hp} {F : Fb} {p : PV} {v : V} {t : String} (h : RT K H F p v) (e : tyN p = some t) : TyX K H v (.type t) := by
  cases p with
  | non => cases e; cases (show v = V.non from h); exact .base .non
  | bl b => cases e; cases (show v = V.bl b from h); exact .base (.bl b)
  | int b => cases e; cases (show v = V.int b from h); exact .base (.int b)
  | str b => cases e; cases (show v = V.str b from h); exact .base (.str b)
  | tup xs =>
    cases e
    obtain ⟨a, vs, rfl, ha, _⟩ := h.tup
    rcases ha with (ha | ⟨o, ha⟩) | ⟨o, its, n, h1, h2, _⟩
    · exact .base (.tup ha)
    · exact .fTuple ha
    · exact .kTuple h1 h2
  | lst xs =>
    cases e
    obtain ⟨a, vs, rfl, ha, _⟩ := h
    rcases ha with (ha | ⟨o, ha⟩) | ⟨o, its, n, h1, h2, _⟩
    · exact .base (.lst ha)
    · exact .base (.frz ha)
    · exact .kList h1 h2
  | dct ks xs =>
    cases e
    obtain ⟨a, vs, rfl, ha, _⟩ := h
    exact .base (.dK ha)
  | _ => cases e
theorem kit_is {p : PV} {t n : String} (e : tyN p = some t) (hn : n ∈ tyNames) : kitB t n = some (isTy n p) := by
  simp only [tyNames, List.mem_cons, List.not_mem_nil, or_false] at hn
  cases p <;> first
    | (cases e; done)
    | (cases e; rcases hn with rfl | rfl | rfl | rfl | rfl | rfl <;> (show kitB _ _ = some (isTy _ _); simp only [isTy]; decide +kernel))
theorem RT.tyN {K : PySem.W.Frag} {H : Hp} {F : Fb} {p : PV} {v : V} (h : RT K H F p v) : (∃ t, Ev.tyN p = some t) ∨ ∃ n, p = .ty n := by
  cases p with
  | ins c fs => exact h.elim
  | cl c => exact h.elim
  | ty n => exact .inr ⟨n, rfl⟩
  | _ => exact .inl ⟨_, rfl⟩
theorem hasTyN {K : PySem.W.Frag} {H : Hp} {F : Fb} {p : PV} {v : V} (h : RT K H F p v) (e : hasTy p = true) : ∃ t, Ev.tyN p = some t := by
  rcases RT.tyN h with h | ⟨n, rfl⟩
  · exact h
  · cases e
/-- the class names of a test, as the text has them -/
def tkB : Tk → Option String
  | .b n => if n ∈ tyNames then some n else none
  | .own _ => none
theorem s_isi1 {n : String} {x : Str} {px : Pos} (hn : n ∈ tyNames) (hx : bootBuiltins x = some (.type n)) (hx1 : x ≠ "__name__") (hx2 : (x == ("__debug__" : Str)) = false) (hgx : Gl X x) (hmx : X.mg x = none)
    (hg : Gl X "isinstance") (hm : X.mg "isinstance" = none) (ha : PE X a (tE X.K X.mg P W ca)) (hna : notStar a = true) :
    PE X (.Call (.Name "isinstance" p) [a, .Name x px] [] pos) (tE X.K X.mg P W (.isi ca [.b n])) := by
  have hT : PE X (.Name x px) (tC (.ty n)) := pe_bltn hgx hmx hx rfl hx1 hx2
  have he : starEach [a, .Name x px] X.env = (false, eval a X.env) :: starEach [.Name x px] X.env := star_no hna
  refine PE.imp (pe_callB call_isi hg hm PyProof.Rows.boot_isinstance (pa_cons ha (pa_cons hT pa_nil) (star_no hna)) (by decide) (by decide) he (star_any0 rfl)) fun τ H Q ⟨B, m, σ, h, R, g⟩ => ?_
  simp only [ev] at g
  refine ⟨B, m, σ, h, R, Gd.imp (Gd.bnd (rel := rF X.K B m (flg σ ca)) g) fun v H1 ⟨q, s1, r1, g1⟩ => ?_⟩
  obtain ⟨c, g1⟩ := Gd.ite g1
  obtain ⟨t, et⟩ := hasTyN r1.top c
  refine ⟨v, .ty n, .type t, .type n, isTy n q, rfl, .ty n, ty_of r1.top et, kit_ty (kit_is et hn), Gd.ok g1 (RF.of ?_)⟩
  show V.bl _ = V.bl _
  simp only [List.any_cons, List.any_nil, isTk, Bool.or_false]
/-- the names of built-in classes -/
def clsRow : List Expr → List String → Bool
  | [], [] => true
  | .Name x _ :: es, n :: ns => decide (bootBuiltins x = some (.type n)) && decide (x ≠ "__name__") && !(x == ("__debug__" : Str)) && decide (x ∈ bltNames) && decide (n ∈ tyNames) && clsRow es ns
  | _, _ => false
theorem clsRow_pa (hg : ∀ x, x ∈ bltNames → Gl X x → X.mg x = none) : ∀ {es : List Expr} {ns : List String}, clsRow es ns = true → (∀ x px, Expr.Name x px ∈ es → Gl X x) → PA X es (fun _ H Q => Q (ns.map V.ty) H) ∧ es.all notStar = true
  | [], [], _, _ => ⟨PA.imp pa_nil fun τ H Q q => q, rfl⟩
  | e :: es, n :: ns, h, hgl => by
    cases e with
    | Name x px =>
      simp only [clsRow, Bool.and_eq_true, decide_eq_true_eq, Bool.not_eq_true'] at h
      obtain ⟨⟨⟨⟨⟨h1, h2⟩, h3⟩, h4⟩, h5⟩, h6⟩ := h
      have gx := hgl x px List.mem_cons_self
      obtain ⟨i1, i2⟩ := clsRow_pa hg h6 fun y py hy => hgl y py (List.mem_cons_of_mem _ hy)
      have hT : PE X (.Name x px) (tC (.ty n)) := pe_bltn gx (hg x h4 gx) h1 rfl h2 h3
      exact ⟨PA.imp (pa_cons hT i1) fun τ H Q q => q, by simpa [notStar] using i2⟩
    | _ => simp only [clsRow] at h; cases h
  | [], _ :: _, h, _ => by cases h
  | e :: _, [], h, _ => by cases e <;> (simp only [clsRow] at h; cases h)
theorem clsRow_mem : ∀ {es : List Expr} {ns : List String}, clsRow es ns = true → (∀ n ∈ ns, n ∈ tyNames) ∧ ns.length = es.length
  | [], [], _ => ⟨fun _ h => (by cases h), rfl⟩
  | e :: es, n :: ns, h => by
    cases e with
    | Name x px =>
      simp only [clsRow, Bool.and_eq_true, decide_eq_true_eq, Bool.not_eq_true'] at h
      obtain ⟨⟨⟨⟨⟨h1, h2⟩, h3⟩, h4⟩, h5⟩, h6⟩ := h
      obtain ⟨i1, i2⟩ := clsRow_mem h6
      refine ⟨fun z hz => ?_, by simp [i2]⟩
      rcases List.mem_cons.mp hz with rfl | hz
      · exact h5
      · exact i1 z hz
    | _ => simp only [clsRow] at h; cases h
  | [], _ :: _, h => by cases h
  | e :: _, [], h => by cases e <;> (simp only [clsRow] at h; cases h)
theorem kitAny_is {K : PySem.W.Frag} {p : PV} {t : String} (e : Ev.tyN p = some t) : ∀ {ns : List String}, (∀ n ∈ ns, n ∈ tyNames) → PySem.W.kitAny K (.type t) (ns.map Value.type) = some (ns.any fun n => isTy n p)
  | [], _ => rfl
  | n :: ns, h => by
    have h1 := kit_ty (K := K) (kit_is e (h n List.mem_cons_self))
    have ih := kitAny_is (K := K) e fun z hz => h z (List.mem_cons_of_mem _ hz)
    show (match PySem.W.kitOne K (.type t) (.type n) with | some true => some true | some false => PySem.W.kitAny K (.type t) (ns.map Value.type) | none => none) = _
    rw [h1, ih]
    cases q : isTy n p <;> simp [q]
theorem clsV_row : ∀ ns : List String, Paired ClsV (ns.map V.ty) (ns.map Value.type)
  | [] => .nil
  | n :: ns => .cons (.ty n) (clsV_row ns)
theorem s_isiT {ns : List String} {k : Nat} {pt : Pos} (hr : clsRow es ns = true) (hgl : ∀ x px, Expr.Name x px ∈ es → Gl X x) (hgb : ∀ x, x ∈ bltNames → Gl X x → X.mg x = none)
    (hg : Gl X "isinstance") (hm : X.mg "isinstance" = none) (hl : ns.length ≤ 100) (ha : PE X a (tE X.K X.mg P W ca)) (hna : notStar a = true) :
    PE X (.Call (.Name "isinstance" p) [a, .Tuple es k pt] [] pos) (tE X.K X.mg P W (.isi ca (ns.map .b))) := by
  obtain ⟨pa, _⟩ := clsRow_pa hgb hr hgl
  obtain ⟨hmem, hlen⟩ := clsRow_mem hr
  have he : starEach [a, .Tuple es k pt] X.env = (false, eval a X.env) :: starEach [.Tuple es k pt] X.env := star_no hna
  refine PE.imp (pe_callB call_isiT hg hm PyProof.Rows.boot_isinstance (pa_cons ha (pa_cons (pe_tup pa) pa_nil) (star_no hna)) (by decide) (by decide) he (star_any0 rfl)) fun τ H Q ⟨B, m, σ, h, R, g⟩ => ?_
  simp only [ev] at g
  refine ⟨B, m, σ, h, R, Gd.imp (Gd.bnd (rel := rF X.K B m (flg σ ca)) g) fun v H1 ⟨q, s1, r1, g1⟩ => ?_⟩
  obtain ⟨c, g1⟩ := Gd.ite g1
  obtain ⟨t, et⟩ := hasTyN r1.top c
  refine ⟨by rw [List.length_map, sizeLine_eq]; omega, fun tp ntp => ?_⟩
  have s2 : Same H1 (upd H1 tp (.tup (ns.map V.ty))) := same_upd ntp
  refine ⟨v, tp, ns.map V.ty, .type t, ns.map Value.type, ns.any fun n => isTy n q, rfl, upd_same, ?_, ty_of (RT.same s2 r1.top) et, kitAny_is et hmem, Gd.new g1 s2 (RF.of ?_)⟩
  · exact clsV_row ns
  · show V.bl _ = V.bl _
    rw [List.any_map]
    rfl
end
end Ev

set_option Elab.async false
set_option linter.all false
set_option maxRecDepth 100000
/-! Ev8: calls of defs; what is walked; targets; comprehensions. -/
namespace Ev
open PySem PySem.Spec PyProof.Rows L2
section
variable {K : PySem.W.Frag} {H H' : Hp} {F F' : Fb}
mutual
theorem RV.weak (s : ∀ b, F b → F' b) : ∀ {p : PV} {v : V}, RV K H F' p v → RV K H F p v
  | .non, _, h => h
  | .bl _, _, h => h
  | .int _, _, h => h
  | .str _, _, h => h
  | .ins _ _, _, h => h
  | .ty _, _, h => h
  | .cl _, _, h => h
  | .tup xs, v, h => by
    obtain ⟨a, vs, e, r, z, q⟩ := h
    exact ⟨a, vs, e, r, z, RVs.weak s q⟩
  | .lst xs, v, h => by
    obtain ⟨a, vs, e, r, z, nf, q⟩ := h
    exact ⟨a, vs, e, r, z, fun f => nf (s _ f), RVs.weak s q⟩
  | .dct ks xs, v, h => by
    obtain ⟨a, vs, e, r, z, nf, k, q⟩ := h
    exact ⟨a, vs, e, r, z, fun f => nf (s _ f), k, RVs.weak s q⟩
theorem RVs.weak (s : ∀ b, F b → F' b) : ∀ {p : List PV} {v : List V}, RVs K H F' p v → RVs K H F p v
  | [], _, h => h
  | p :: ps, _, h => by
    obtain ⟨v, r, e, hv, hr⟩ := h
    exact ⟨v, r, e, RV.weak s hv, RVs.weak s hr⟩
end
theorem RT.weak (s : ∀ b, F b → F' b) : ∀ {p : PV} {v : V}, RT K H F' p v → RT K H F p v
  | .non, _, h => h
  | .bl _, _, h => h
  | .int _, _, h => h
  | .str _, _, h => h
  | .ins _ _, _, h => h
  | .ty _, _, h => h
  | .cl _, _, h => h
  | .tup xs, v, h => RV.weak (p := .tup xs) s h
  | .lst xs, v, h => by
    obtain ⟨a, vs, e, r, z, q⟩ := h
    exact ⟨a, vs, e, r, z, q.weak s⟩
  | .dct ks xs, v, h => by
    obtain ⟨a, vs, e, r, z, k, q⟩ := h
    exact ⟨a, vs, e, r, z, k, q.weak s⟩
theorem RX.weak {mg : Str → Option Value} {cls : Value} {d : Option Addr} {x : Exn} (s : ∀ b, F b → F' b) (h : RX K mg H F' cls d x) : RX K mg H F cls d x := by
  obtain ⟨h1, h2⟩ := h
  refine ⟨h1, ?_⟩
  cases e : x.fld with
  | none => rw [e] at h2; exact h2
  | some p =>
    rw [e] at h2
    obtain ⟨da, nm, v, e1, e2, r⟩ := h2
    exact ⟨da, nm, v, e1, e2, r.weak s⟩
theorem fb_nil {B : Fb} : ∀ b, fb B [] b → B b := fun b h => by
  rcases h with h | h
  · exact h
  · cases h
end
theorem RT.bor0 {K : PySem.W.Frag} {H : Hp} {F F' : Fb} (s : ∀ b, F b → F' b) : ∀ {p : PV} {v : V}, RT K H F' p v → RB K H F [] p v
  | .non, _, h => h
  | .bl _, _, h => h
  | .int _, _, h => h
  | .str _, _, h => h
  | .ins _ _, _, h => h
  | .ty _, _, h => h
  | .cl _, _, h => h
  | .tup xs, v, h => RV.weak (p := .tup xs) s h
  | .lst xs, v, h => by
    obtain ⟨a, vs, e, r, z, q⟩ := h
    refine ⟨a, vs, e, ?_, z, q.weak s⟩
    rcases r with r | r
    · exact .inl ⟨r, (fun w => nomatch w)⟩
    · exact .inr (.inr r)
  | .dct ks xs, v, h => by
    obtain ⟨a, vs, e, r, z, k, q⟩ := h
    exact ⟨a, vs, e, r, (fun w => nomatch w), z, k, q.weak s⟩
section
variable {X : Cx} {W : WX} {P : Pg} {a b c : Expr} {es : List Expr} {ca cb cc : CE} {ces : List CE} {pos p p2 : Pos}
theorem rss_args {K : PySem.W.Frag} {H : Hp} {B : Fb} {m : List Addr} {σ : St} : ∀ {es : List CE} {ps : List PV} {vs : List V}, es.all (fun e => !isStarE e) = true → RAs K H B m σ es ps vs → RSs K H (fb (fb B m) []) [] (argsOf σ es ps) vs
  | [], ps, vs, _, h => by
    obtain ⟨rfl, rfl⟩ := h
    rfl
  | e :: es, ps, vs, hs, h => by
    rw [List.all_cons, Bool.and_eq_true] at hs
    have h1 : isStarE e = false := by simpa using hs.1
    unfold RAs at h
    rw [if_neg (by rw [h1]; exact fun z => nomatch z)] at h
    obtain ⟨p, r, v, w, rfl, rfl, hp, hr⟩ := h
    refine ⟨v, w, rfl, ?_, rss_args hs.2 hr⟩
    by_cases z : flg σ e = 0
    · rw [show decide (flg σ e ≠ 0) = false by simp [z]]
      exact RV.weak (fun b f => fb_nil b f) (hp.zero z)
    · rw [show decide (flg σ e ≠ 0) = true by simp [z]]
      exact RT.bor0 (fun b f => fb_nil b f) hp.top
theorem args_len {σ : St} : ∀ {es : List CE} {ps : List PV}, ps.length = es.length → (argsOf σ es ps).length = es.length
  | [], _, _ => rfl
  | e :: es, [], h => by simp at h
  | e :: es, p :: ps, h => by simp only [argsOf, List.length_cons, args_len (es := es) (ps := ps) (by simpa using h)]
theorem ras_len {K : PySem.W.Frag} {H : Hp} {B : Fb} {m : List Addr} {σ : St} : ∀ {es : List CE} {ps : List PV} {vs : List V}, es.all (fun e => !isStarE e) = true → RAs K H B m σ es ps vs → ps.length = es.length ∧ vs.length = es.length
  | [], ps, vs, _, h => by
    obtain ⟨rfl, rfl⟩ := h
    exact ⟨rfl, rfl⟩
  | e :: es, ps, vs, hs, h => by
    rw [List.all_cons, Bool.and_eq_true] at hs
    have h1 : isStarE e = false := by simpa using hs.1
    unfold RAs at h
    rw [if_neg (by rw [h1]; exact fun z => nomatch z)] at h
    obtain ⟨p, r, v, w, rfl, rfl, hp, hr⟩ := h
    obtain ⟨l1, l2⟩ := ras_len hs.2 hr
    exact ⟨by simp [l1], by simp [l2]⟩
/-- the answer of a pure call -/
theorem sp_told {K : PySem.W.Frag} {mg : Str → Option Value} {B : Fb} {m : List Addr} {τ : L2.St} {H : Hp} {h : OH} {D : List SV → OH → R (SV × OH)} {as : List SV} {vs : List V} {Q : VK} {n : Nat}
    (hl : vs.length = n) (R : Rh K H B m h) (ra : RSs K H (fb (fb B m) []) [] as vs) (g : Gd K mg W B m τ (rF K B m 0) H (told (D as [])) Q) : spD K mg n D vs H Q (WE W τ) := by
  refine ⟨hl, fb B m, [], as, [], ⟨fun b f => R.ne f, fun a z => (by cases z), List.nodup_nil, rfl, fun n a o z => (by simp at z)⟩, ra, ?_⟩
  cases e : D as [] with
  | none => rw [e] at g; exact g
  | some r =>
    rw [e] at g
    cases r with
    | error x => exact fun cls d H' xe rx => g cls d H' xe.same (rx.weak fun b f => .inl f)
    | ok sh =>
      obtain ⟨s, h'⟩ := sh
      intro v H' m' hp hn xe rh rs
      have g' : Gd K mg W B m τ (rF K B m 0) H ((toldS h' s).map .ok) Q := g
      obtain ⟨q, eq, g2⟩ := Gd.some g'
      refine Gd.new g2 xe.same (RF.of ?_)
      cases s with
      | d k p =>
        cases k with
        | true => simp only [toldS] at eq; cases eq
        | false =>
          have e2 : p = q := by simpa only [toldS, Option.some.injEq] using eq
          subst e2
          exact RV.weak (fun b f => .inl f) rs
      | r n =>
        obtain ⟨a, ha, rfl⟩ := rs
        simp only [toldS] at eq
        cases qo : h'[n]? with
        | none => rw [qo] at eq; cases eq
        | some o =>
          rw [qo] at eq
          have ro := rh.obj n a o ha qo
          have na : ¬ fb B m a := rh.ap a (List.mem_of_getElem? ha)
          cases o with
          | l xs =>
            have e3 : PV.lst xs = q := by simpa only [Option.bind_some, viewO, Option.some.injEq] using eq
            subst e3
            obtain ⟨ws, h1, h2, h3⟩ := ro
            exact ⟨a, ws, rfl, h1, h2, na, h3.weak fun b f => .inl f⟩
          | d ks xs =>
            have e3 : PV.dct ks xs = q := by simpa only [Option.bind_some, viewO, Option.some.injEq] using eq
            subst e3
            obtain ⟨ws, h1, h2, h3, h4⟩ := ro
            exact ⟨a, ws, rfl, h1, h2, na, h3, h4.weak fun b f => .inl f⟩
          | ins c fs => exact ro.elim
theorem s_call {lv : Nat} {f : Str} (F : FnF X P lv f) (rm : Room lv X.A) (tk : Takes X W) (hg : Gl X f) (hd : (f == ("__debug__" : Str)) = false) (ha : PA X (a :: es) (tAs X.K X.mg P W (ca :: ces)))
    (hn : (a :: es).all notStar = true) (hs : (ca :: ces).all (fun e => !isStarE e) = true) : PE X (.Call (.Name f p) (a :: es) [] pos) (tE X.K X.mg P W (.call f (ca :: ces))) := by
  obtain ⟨fa, fd, ps, k, hk, hF, hm, kp, hb, hln⟩ := F.ex
  have hn' := hn
  rw [List.all_cons, Bool.and_eq_true] at hn
  refine PE.imp (pe_callSD hF (rm.mono hk) hg hm kp hb (dvs := []) .nil (fun σ => L2.passAt tk σ) ha hd (star_no hn.1) (star_any0 hn.2)) fun τ H Q ⟨B, m, σ, h, R, g⟩ => ?_
  simp only [ev] at g
  refine ⟨B, m, σ, h, R, Gd.imp (Gd.bnd (rel := rA X.K B m σ (ca :: ces)) g) fun vs H1 ⟨qs, s1, r1, g1⟩ => ?_⟩
  rw [List.append_nil]
  obtain ⟨l1, l2⟩ := ras_len hs r1
  have hl : vs.length = ps.length := by
    rw [l2, ← hln (argsOf σ (ca :: ces) qs) [] (fun z => by rw [z] at g1; exact g1), args_len l1]
  exact sp_told hl (R.toRh.same s1) (rss_args hs r1) g1
end
end Ev

set_option Elab.async false
set_option linter.all false
set_option maxRecDepth 100000
/-! Ev9: what is walked; targets; comprehensions. -/
namespace Ev
open PySem PySem.Spec PyProof.Rows L2
/-- the iterator J yields these values, while what it walks stands -/
def Yl (K : PySem.W.Frag) (F : Fb) (H0 : Hp) (src : List (Addr × HO)) (xs : List PV) (J : It) : Prop := ∀ (H : Hp) (i : Nat) (F' : Fb), Ext F H0 H → Grows H0 F F' → (∀ z ∈ src, H z.1 = some z.2) →
  (∀ p, xs[i]? = some p → J.go i H ∧ ∀ v H', J.yld i H v H' → Same H H' ∧ RV K H' F' p v) ∧ (xs.length ≤ i → J.stop i H)
/-- what is walked stands now -/
def Src (H : Hp) (src : List (Addr × HO)) : Prop := ∀ z ∈ src, H z.1 = some z.2
/-- how a value is walked -/
def rI_ (K : PySem.W.Frag) (B : Fb) (m : List Addr) (n : Nat) : Hp → List PV → It → Prop := fun H1 xs J => ∃ src, xs.length ≤ sizeLine ∧ Yl K (fb B m) H1 src xs J ∧ Src H1 src ∧ (n ≤ 1 → ∀ z ∈ src, z.1 ∉ m)
def tI (K : PySem.W.Frag) (mg : Str → Option Value) (P : Pg) (W : WX) (c : CE) : TI := fun τ H Q => ∃ B m σ h, Rl K H B m σ h τ ∧ Gd K mg W B m τ (rI_ K B m (flgI σ c)) H (evI P c σ h) Q
section
variable {K : PySem.W.Frag} {H : Hp} {F : Fb}
theorem yl_list {a : Addr} {src : List (Addr × HO)} {vs : List V} {xs : List PV} (ho : ∀ H1, Src H1 src → SqL K H1 a vs) (r : RVs K H F xs vs) : Yl K F H src xs (Itl K a) := by
  intro H1 i F' x gr sr
  have rd : SqL K H1 a vs := ho H1 sr
  refine ⟨fun p hp => ?_, fun hl => ⟨vs, rd, by rw [← r.length]; exact hl⟩⟩
  obtain ⟨v, hv, rv⟩ := r.get hp
  refine ⟨⟨vs, v, rd, hv⟩, fun w H2 ⟨e, q⟩ => ?_⟩
  subst e
  have e2 := q vs rd
  rw [hv] at e2
  cases e2
  exact ⟨Same.refl, rv.mono x gr⟩
theorem yl_tup {a : Addr} {vs : List V} {xs : List PV} (ha : SqT K H a vs) (r : RVs K H F xs vs) : Yl K F H [] xs (Itt K a) := by
  intro H1 i F' x gr sr
  have rd : SqT K H1 a vs := x.sqT ha
  refine ⟨fun p hp => ?_, fun hl => ⟨vs, rd, by rw [← r.length]; exact hl⟩⟩
  obtain ⟨v, hv, rv⟩ := r.get hp
  refine ⟨⟨vs, v, rd, hv⟩, fun w H2 ⟨e, q⟩ => ?_⟩
  subst e
  have e2 := q vs rd
  rw [hv] at e2
  cases e2
  exact ⟨Same.refl, rv.mono x gr⟩
theorem rangeP_len : ∀ (n : Nat) (lo : Int), (rangeP lo n).length = n
  | 0, _ => rfl
  | n + 1, lo => by simp only [rangeP, List.length_cons, rangeP_len n]
theorem rangeP_get : ∀ (n : Nat) (lo : Int) (i : Nat) (p : PV), (rangeP lo n)[i]? = some p → p = .int (lo + i)
  | 0, _, _, _, h => by simp [rangeP] at h
  | n + 1, lo, 0, p, h => by
    have e : PV.int lo = p := by simpa [rangeP] using h
    rw [← e]; simp
  | n + 1, lo, i + 1, p, h => by
    have e := rangeP_get n (lo + 1) i p (by simpa [rangeP] using h)
    rw [e]
    have : lo + 1 + (i : Int) = lo + ((i + 1 : Nat) : Int) := by push_cast; omega
    rw [this]
theorem yl_range {lo : Int} {n : Nat} : Yl K F H [] (rangeP lo n) (Itr lo n) := by
  intro H1 i F' x gr sr
  refine ⟨fun p hp => ?_, fun hl => by rw [rangeP_len] at hl; exact hl⟩
  have hi : i < n := by
    have := (List.getElem?_eq_some_iff.mp hp).1
    rwa [rangeP_len] at this
  refine ⟨hi, fun w H2 ⟨e, q⟩ => ?_⟩
  subst e
  subst q
  rw [rangeP_get n lo i p hp]
  exact ⟨Same.refl, rfl⟩
theorem zipP_len : ∀ (xs ys : List PV), (zipP xs ys).length = min xs.length ys.length
  | [], ys => by simp [zipP]
  | x :: xs, [] => by simp [zipP]
  | x :: xs, y :: ys => by simp only [zipP, List.length_cons, zipP_len xs ys]; omega
theorem zipP_get : ∀ (xs ys : List PV) (i : Nat) (p : PV), (zipP xs ys)[i]? = some p → ∃ x y, xs[i]? = some x ∧ ys[i]? = some y ∧ p = .tup [x, y]
  | [], ys, i, p, h => by simp [zipP] at h
  | x :: xs, [], i, p, h => by simp [zipP] at h
  | x :: xs, y :: ys, 0, p, h => ⟨x, y, rfl, rfl, by simpa [zipP] using h.symm⟩
  | x :: xs, y :: ys, i + 1, p, h => by
    obtain ⟨a, b, h1, h2, h3⟩ := zipP_get xs ys i p (by simpa [zipP] using h)
    exact ⟨a, b, by simpa using h1, by simpa using h2, h3⟩
theorem yl_zip {a b : Addr} {src src2 : List (Addr × HO)} {vs ws : List V} {xs ys : List PV} (ho : ∀ H1, Src H1 src → SqL K H1 a vs) (hu : ∀ H1, Src H1 src2 → SqL K H1 b ws) (r : RVs K H F xs vs) (r' : RVs K H F ys ws) :
    Yl K F H (src ++ src2) (zipP xs ys) (Itz K a b) := by
  intro H1 i F' x gr sr
  have rd : SqL K H1 a vs := ho H1 fun z hz => sr z (List.mem_append_left _ hz)
  have rd2 : SqL K H1 b ws := hu H1 fun z hz => sr z (List.mem_append_right _ hz)
  refine ⟨fun p hp => ?_, fun hl => ⟨vs, ws, rd, rd2, ?_⟩⟩
  · obtain ⟨px, py, e1, e2, rfl⟩ := zipP_get xs ys i p hp
    obtain ⟨v, hv, rv⟩ := r.get e1
    obtain ⟨w, hw, rw'⟩ := r'.get e2
    refine ⟨⟨vs, ws, v, w, rd, rd2, hv, hw⟩, fun z H2 ⟨T, x1, y1, ez, nT, eH, q1, q2⟩ => ?_⟩
    subst ez eH
    have e3 := q1 vs rd
    have e4 := q2 ws rd2
    rw [hv] at e3; rw [hw] at e4
    cases e3; cases e4
    refine ⟨same_upd nT, RV.newTup nT (by show 2 ≤ sizeLine; decide) (RVs.cons (rv.mono x gr) (RVs.one (rw'.mono x gr)))⟩
  · rw [zipP_len, r.length, r'.length] at hl
    by_cases q : vs.length ≤ i
    · exact .inl q
    · exact .inr (by omega)
theorem yl_zipT {a b : Addr} {vs ws : List V} {xs ys : List PV} (ha : SqT K H a vs) (hb : SqT K H b ws) (r : RVs K H F xs vs) (r' : RVs K H F ys ws) : Yl K F H [] (zipP xs ys) (RZ.ItzT K a b) := by
  intro H1 i F' x gr sr
  have rd : SqT K H1 a vs := x.sqT ha
  have rd2 : SqT K H1 b ws := x.sqT hb
  refine ⟨fun p hp => ?_, fun hl => ⟨vs, ws, rd, rd2, ?_⟩⟩
  · obtain ⟨px, py, e1, e2, rfl⟩ := zipP_get xs ys i p hp
    obtain ⟨v, hv, rv⟩ := r.get e1
    obtain ⟨w, hw, rw'⟩ := r'.get e2
    refine ⟨⟨vs, ws, v, w, rd, rd2, hv, hw⟩, fun z H2 ⟨T, x1, y1, ez, nT, eH, q1, q2⟩ => ?_⟩
    subst ez eH
    have e3 := q1 vs rd
    have e4 := q2 ws rd2
    rw [hv] at e3; rw [hw] at e4
    cases e3; cases e4
    refine ⟨same_upd nT, RV.newTup nT (by show 2 ≤ sizeLine; decide) (RVs.cons (rv.mono x gr) (RVs.one (rw'.mono x gr)))⟩
  · rw [zipP_len, r.length, r'.length] at hl
    by_cases q : vs.length ≤ i
    · exact .inl q
    · exact .inr (by omega)
theorem enumP_len : ∀ (xs : List PV) (k : Nat), (enumP k xs).length = xs.length
  | [], _ => rfl
  | x :: xs, k => by simp only [enumP, List.length_cons, enumP_len xs]
theorem enumP_get : ∀ (xs : List PV) (k i : Nat) (p : PV), (enumP k xs)[i]? = some p → ∃ x, xs[i]? = some x ∧ p = .tup [.int (k + i : Nat), x]
  | [], _, i, p, h => by simp [enumP] at h
  | x :: xs, k, 0, p, h => ⟨x, rfl, by simpa [enumP] using h.symm⟩
  | x :: xs, k, i + 1, p, h => by
    obtain ⟨a, h1, h2⟩ := enumP_get xs (k + 1) i p (by simpa [enumP] using h)
    exact ⟨a, by simpa using h1, by rw [h2, show k + 1 + i = k + (i + 1) by omega]⟩
theorem yl_enum {a : Addr} {src : List (Addr × HO)} {vs : List V} {xs : List PV} (ho : ∀ H1, Src H1 src → SqL K H1 a vs) (r : RVs K H F xs vs) : Yl K F H src (enumP 0 xs) (Ite K a) := by
  intro H1 i F' x gr sr
  have rd : SqL K H1 a vs := ho H1 sr
  refine ⟨fun p hp => ?_, fun hl => ⟨vs, rd, by rw [enumP_len, r.length] at hl; exact hl⟩⟩
  obtain ⟨px, e1, rfl⟩ := enumP_get xs 0 i p hp
  obtain ⟨v, hv, rv⟩ := r.get e1
  refine ⟨⟨vs, v, rd, hv⟩, fun z H2 ⟨T, x1, ez, nT, eH, q1⟩ => ?_⟩
  subst ez eH
  have e3 := q1 vs rd
  rw [hv] at e3
  cases e3
  refine ⟨same_upd nT, RV.newTup nT (by show 2 ≤ sizeLine; decide) (RVs.cons ?_ (RVs.one (rv.mono x gr)))⟩
  show V.int _ = V.int _
  rw [Nat.zero_add]
end
/-! ### the walked expressions -/
/-- a list that is walked: where it stands -/
theorem srcL {K : PySem.W.Frag} {H : Hp} {B : Fb} {m : List Addr} {n : Nat} {xs : List PV} {v : V} (r : RF K H B m n (.lst xs) v) : ∃ a vs src, v = .ref a ∧ SqL K H a vs ∧ vs.length ≤ sizeLine ∧ RVs K H (fb B m) xs vs ∧ Src H src ∧ (n ≤ 1 → ∀ z ∈ src, z.1 ∉ m) ∧
    ∀ H1, Src H1 src → SqL K H1 a vs := by
  have key : ∀ (a : Addr) (vs : List V), Rd H a (.lst vs) → ∃ o, H a = some o ∧ ∀ H1 : Hp, H1 a = some o → SqL K H1 a vs := fun a vs r => by
    rcases r with r | ⟨ob, r⟩
    · exact ⟨_, r, fun H1 e => .inl (.inl e)⟩
    · exact ⟨_, r, fun H1 e => .inl (.inr ⟨ob, e⟩)⟩
  by_cases hn : n ≤ 1
  · obtain ⟨a, vs, e, q, z, rr⟩ := r.bor hn
    rcases q with ⟨q, na⟩ | q
    · obtain ⟨o, eo, ho⟩ := key a vs q
      refine ⟨a, vs, [(a, o)], e, .inl q, z, rr, fun z hz => ?_, fun _ z hz => ?_, fun H1 h1 => ho H1 (h1 (a, o) (by simp))⟩
      · cases List.mem_singleton.mp hz; exact eo
      · cases List.mem_singleton.mp hz; exact na
    · exact ⟨a, vs, [], e, q.sq, z, rr, (fun z hz => by cases hz), fun _ z hz => (by cases hz), fun H1 _ => q.sq⟩
  · obtain ⟨a, vs, e, q, z, rr⟩ := r.top
    rcases q with q | q
    · obtain ⟨o, eo, ho⟩ := key a vs q
      refine ⟨a, vs, [(a, o)], e, .inl q, z, rr, fun z hz => ?_, fun h => absurd h hn, fun H1 h1 => ho H1 (h1 (a, o) (by simp))⟩
      cases List.mem_singleton.mp hz; exact eo
    · exact ⟨a, vs, [], e, .inr q, z, rr, (fun z hz => by cases hz), fun h => absurd h hn, fun H1 _ => .inr q⟩
section
variable {X : Cx} {W : WX} {P : Pg} {a b c tg : Expr} {es : List Expr} {ca cb cc : CE} {ces : List CE} {pos p p2 : Pos}
def isSeqC : CE → Bool
  | .range _ _ | .zip _ _ | .enum _ => false
  | _ => true
/-- a list or tuple as it stands -/
def iSeq (K : PySem.W.Frag) (tl : TE) : TI := fun σ H R => tl σ H fun x H1 => ∃ a, x = .ref a ∧ (((∃ xs, SqL K H1 a xs) ∧ R (Itl K a) H1) ∨ ((∃ xs, SqT K H1 a xs) ∧ R (Itt K a) H1))
theorem pi_seq {l : Expr} {tl : TE} (hl : PE X l tl) : PI X tg l (iSeq X.K tl) := by
  refine ⟨fun pins s σ H R I h => ?_⟩
  refine thn (hl.run pins s σ H _ I h) fun v s1 ⟨x, H1, I1, r1, q1⟩ => ?_
  obtain ⟨a, e, q⟩ := q1
  subst e
  cases r1
  rcases q with ⟨⟨xs, hq⟩, q⟩ | ⟨⟨xs, hq⟩, q⟩
  · obtain ⟨its, rv, p, hz⟩ := I1.list hq
    refine wpAny_pyIter_list p.isList ?_
    refine ⟨s1.heap.objs.size, [s1.heap.objs.size], _, _, H1, rfl, I1.kept (t' := s1.toks) fun b o e => Heap.get?_push_of_some _ e, turn_list a _, ⟨_, Heap.get?_push_size _ rfl, rfl, rfl⟩, fun b hb => ?_, q⟩
    have e : b = s1.heap.objs.size := by simpa using hb
    rw [e]
    exact I1.fpOk (Nat.le_refl _) (I1.hok.fresh (Nat.le_refl _))
  · obtain ⟨its, rv, p, hz⟩ := I1.tuple hq
    refine wpAny_pyIter_tuple (show s1.heap.IsTuple a its.toArray from p) ?_
    refine ⟨s1.heap.objs.size, [s1.heap.objs.size], _, _, H1, rfl, I1.kept (t' := s1.toks) fun b o e => Heap.get?_push_of_some _ e, turn_tuple a _, ⟨_, Heap.get?_push_size _ rfl, rfl, rfl⟩, fun b hb => ?_, q⟩
    have e : b = s1.heap.objs.size := by simpa using hb
    rw [e]
    exact I1.fpOk (Nat.le_refl _) (I1.hok.fresh (Nat.le_refl _))
theorem PI.imp {e : Expr} {t t' : TI} (h : PI X tg e t) (i : ∀ σ H R, t' σ H R → t σ H R) : PI X tg e t' := ⟨fun pins s σ H R I hw => h.run pins s σ H R I (i _ _ _ hw)⟩
theorem s_iseq (hc : isSeqC ca = true) (ha : PE X a (tE X.K X.mg P W ca)) : PI X tg a (tI X.K X.mg P W ca) := by
  refine PI.imp (pi_seq ha) fun τ H R ⟨B, m, σ, h, Q, g⟩ => ?_
  unfold evI at g
  refine ⟨B, m, σ, h, Q, Gd.imp (Gd.bnd (rel := rF X.K B m (flg σ ca)) g) fun v H1 ⟨q, s1, r1, g1⟩ => ?_⟩
  obtain ⟨ys, e, g1⟩ := Gd.wo g1
  have ff : flgI σ ca = flg σ ca := by cases ca <;> first | (cases hc; done) | rfl
  cases q with
  | lst xs =>
    cases e
    obtain ⟨a, vs, src, rfl, ha, hz, rr, hs, hm, hq⟩ := srcL r1
    have hl : ys.length ≤ sizeLine := by rw [rr.length]; exact hz
    exact ⟨a, rfl, .inl ⟨⟨vs, ha⟩, Gd.ok g1 ⟨src, hl, yl_list hq rr, hs, fun n0 => hm (ff ▸ n0)⟩⟩⟩
  | tup xs =>
    cases e
    obtain ⟨a, vs, rfl, ha, hz, rr⟩ := r1.top.tup
    have hl : ys.length ≤ sizeLine := by rw [rr.length]; exact hz
    exact ⟨a, rfl, .inr ⟨⟨vs, ha⟩, Gd.ok g1 ⟨[], hl, yl_tup ha rr, (fun z hz => by cases hz), fun _ z hz => by cases hz⟩⟩⟩
  | _ => simp only [itemsOf] at e; cases e
theorem evI_range {σ : St} {h : OH} : evI P (.range ca cb) σ h = bnd (ev P ca σ h) fun x => withO (asInt x) fun i => bnd (ev P cb σ h) fun y => withO (asInt y) fun j => if -(2 ^ 62) ≤ i ∧ i < 2 ^ 62 ∧ -(2 ^ 62) ≤ j ∧ j < 2 ^ 62 ∧ (j - i).toNat ≤ big then ok (rangeP i (j - i).toNat) else none := by
  simp only [evI, ev]
  cases ev P ca σ h with
  | none => rfl
  | some ra =>
    cases ra with
    | error x => rfl
    | ok za =>
      simp only [bnd_ok]
      cases asInt za with
      | none => rfl
      | some i =>
        simp only [withO_some]
        cases ev P cb σ h with
        | none => rfl
        | some rb =>
          cases rb with
          | error x => rfl
          | ok zb =>
            simp only [bnd_ok]
            cases asInt zb with
            | none => rfl
            | some j =>
              simp only [withO_some]
              split <;> rfl
theorem s_irange1 (hg : Gl X "range") (hm : X.mg "range" = none) (ha : PE X a (tE X.K X.mg P W ca)) (hn : notStar a = true) : PI X tg (.Call (.Name "range" p) [a] [] pos) (tI X.K X.mg P W (.range (.cst (.int 0)) ca)) := by
  refine PI.imp (pi_range1 hg hm (pa_cons ha pa_nil (star_no hn)) (star_no hn)) fun τ H R ⟨B, m, σ, h, Q, g⟩ => ?_
  rw [evI_range] at g
  have e1 : ev P (.cst (.int 0)) σ h = ok (.int 0) := by simp only [ev]
  rw [e1] at g
  refine ⟨B, m, σ, h, Q, Gd.imp (Gd.bnd (rel := rF X.K B m (flg σ ca)) g) fun v H1 ⟨q, s1, r1, g1⟩ => ?_⟩
  obtain ⟨j, ej, g1⟩ := Gd.wo g1
  obtain ⟨⟨c1, c2, c3, c4, c5⟩, g1⟩ := Gd.ite g1
  refine ⟨j, by rw [asIntV r1.top ej], c3, c4, ?_⟩
  have e2 : (j - 0).toNat = j.toNat := by rw [Int.sub_zero]
  rw [e2] at g1 c5
  exact Gd.ok (rel := rI_ X.K B m 0) g1 ⟨[], by rw [rangeP_len, ← big_eq]; exact c5, yl_range, (fun z hz => by cases hz), fun _ z hz => by cases hz⟩
theorem s_irange2 (hg : Gl X "range") (hm : X.mg "range" = none) (ha : PE X a (tE X.K X.mg P W ca)) (hb : PE X b (tE X.K X.mg P W cb)) (hn : notStar a = true) (hn2 : notStar b = true) : PI X tg (.Call (.Name "range" p) [a, b] [] pos) (tI X.K X.mg P W (.range ca cb)) := by
  have e1 : starEach [b] X.env = [(false, eval b X.env)] := star_no hn2
  have e2 : starEach [a, b] X.env = [(false, eval a X.env), (false, eval b X.env)] := by rw [star_no hn, e1]
  refine PI.imp (pi_range2 hg hm (pa_cons ha (pa_cons hb pa_nil (star_no hn2)) (star_no hn)) e2 e1) fun τ H R ⟨B, m, σ, h, Q, g⟩ => ?_
  rw [evI_range] at g
  refine ⟨B, m, σ, h, Q, Gd.imp (Gd.bnd (rel := rF X.K B m (flg σ ca)) g) fun v H1 ⟨q, s1, r1, g1⟩ => ?_⟩
  obtain ⟨i, ei, g1⟩ := Gd.wo g1
  refine ⟨B, m, σ, h, Q.same s1, Gd.imp (Gd.bnd (rel := rF X.K B m (flg σ cb)) g1) fun w H2 ⟨q2, s2, r2, g2⟩ => ?_⟩
  obtain ⟨j, ej, g2⟩ := Gd.wo g2
  obtain ⟨⟨c1, c2, c3, c4, c5⟩, g2⟩ := Gd.ite g2
  refine ⟨i, j, by rw [asIntV r1.top ei, asIntV r2.top ej], ⟨c1, c2, c3, c4⟩, ?_⟩
  exact Gd.ok (rel := rI_ X.K B m 0) g2 ⟨[], by rw [rangeP_len, ← big_eq]; exact c5, yl_range, (fun z hz => by cases hz), fun _ z hz => by cases hz⟩
theorem s_ienum {elts : List Expr} {kk : Nat} {tpos : Pos} (hg : Gl X "enumerate") (hm : X.mg "enumerate" = none) (ha : PE X a (tE X.K X.mg P W ca)) (hn : notStar a = true) : PI X (.Tuple elts kk tpos) (.Call (.Name "enumerate" p) [a] [] pos) (tI X.K X.mg P W (.enum ca)) := by
  refine PI.imp (pi_enum hg hm (pa_cons ha pa_nil (star_no hn)) (star_no hn)) fun τ H R ⟨B, m, σ, h, Q, g⟩ => ?_
  have e0 : evI P (.enum ca) σ h = bnd (ev P ca σ h) fun x => withO (listOf x) fun xs => ok (enumP 0 xs) := by
    simp only [evI, ev]
    cases ev P ca σ h with
    | none => rfl
    | some ra =>
      cases ra with
      | error x => rfl
      | ok za =>
        simp only [bnd_ok]
        cases listOf za with
        | none => rfl
        | some i => rfl
  rw [e0] at g
  refine ⟨B, m, σ, h, Q, Gd.imp (Gd.bnd (rel := rF X.K B m (flg σ ca)) g) fun v H1 ⟨q, s1, r1, g1⟩ => ?_⟩
  obtain ⟨ys, e, g1⟩ := Gd.wo g1
  cases q with
  | lst xs =>
    cases e
    obtain ⟨a, vs, src, rfl, ha, hz, rr, hs, hm, hq⟩ := srcL r1
    have hl : (enumP 0 ys).length ≤ sizeLine := by rw [enumP_len, rr.length]; exact hz
    exact ⟨a, vs, rfl, ha, Gd.ok g1 ⟨src, hl, yl_enum hq rr, hs, fun n0 => hm n0⟩⟩
  | _ => simp only [listOf] at e; cases e
theorem s_izip {elts : List Expr} {kk : Nat} {tpos : Pos} (hg : Gl X "zip") (hm : X.mg "zip" = none) (ha : PE X a (tE X.K X.mg P W ca)) (hb : PE X b (tE X.K X.mg P W cb)) (hn : notStar a = true) (hn2 : notStar b = true) :
    PI X (.Tuple elts kk tpos) (.Call (.Name "zip" p) [a, b] [] pos) (tI X.K X.mg P W (.zip ca cb)) := by
  refine PI.imp (RZ.pi_zipA hg hm (pa_cons ha (pa_cons hb pa_nil (star_no hn2)) (star_no hn)) (star_no hn) (star_any0 (by simp [hn2]))) fun τ H R ⟨B, m, σ, h, Q, g⟩ => ?_
  have e0 : evI P (.zip ca cb) σ h = bnd (ev P ca σ h) fun x => bnd (ev P cb σ h) fun y => withO (seq2 x y) ok := by
    simp only [evI, ev]
    cases ev P ca σ h with
    | none => rfl
    | some ra =>
      cases ra with
      | error x => rfl
      | ok za =>
        simp only [bnd_ok]
        cases ev P cb σ h with
        | none => rfl
        | some rb =>
          cases rb with
          | error x => rfl
          | ok zb =>
            simp only [bnd_ok]
            cases seq2 za zb <;> rfl
  rw [e0] at g
  refine ⟨B, m, σ, h, Q, Gd.imp (Gd.bnd (rel := rF X.K B m (flg σ ca)) g) fun v H1 ⟨q, s1, r1, g1⟩ => ?_⟩
  refine ⟨B, m, σ, h, Q.same s1, Gd.imp (Gd.bnd (rel := rF X.K B m (flg σ cb)) g1) fun w H2 ⟨q2, s2, r2, g2⟩ => ?_⟩
  obtain ⟨ys, e, g2⟩ := Gd.wo g2
  have r1' := RF.same s2 r1
  cases q with
  | lst xs =>
    cases q2 with
    | lst zs =>
      cases e
      obtain ⟨a, vs, src, rfl, ha, hz, rr, hs, hm, hq⟩ := srcL r1'
      obtain ⟨b, ws, src2, rfl, hb, hz2, rr2, hs2, hm2, hq2⟩ := srcL r2
      have hl : (zipP xs zs).length ≤ sizeLine := by rw [zipP_len, rr.length]; omega
      refine ⟨a, b, vs, ws, rfl, .inl ⟨ha, hb, Gd.ok g2 ⟨src ++ src2, hl, yl_zip hq hq2 rr rr2, fun z hz => ?_, fun n0 z hz => ?_⟩⟩⟩
      · rcases List.mem_append.mp hz with hz | hz
        · exact hs z hz
        · exact hs2 z hz
      · have n1 : max (flg σ ca) (flg σ cb) ≤ 1 := n0
        rcases List.mem_append.mp hz with hz | hz
        · exact hm (by omega) z hz
        · exact hm2 (by omega) z hz
    | _ => simp only [seq2] at e; cases e
  | tup xs =>
    cases q2 with
    | tup zs =>
      cases e
      obtain ⟨a, vs, rfl, ha, hz, rr⟩ := r1'.top.tup
      obtain ⟨b, ws, rfl, hb, hz2, rr2⟩ := r2.top.tup
      have hl : (zipP xs zs).length ≤ sizeLine := by rw [zipP_len, rr.length]; omega
      exact ⟨a, b, vs, ws, rfl, .inr ⟨ha, hb, Gd.ok g2 ⟨[], hl, yl_zipT ha hb rr rr2, (fun z hz => by cases hz), fun _ z hz => by cases hz⟩⟩⟩
    | _ => simp only [seq2] at e; cases e
  | _ => simp only [seq2] at e; cases e
end
end Ev

set_option Elab.async false
set_option linter.all false
set_option maxRecDepth 100000
/-! Ev10: targets; comprehensions. -/
namespace Ev
open PySem PySem.Spec PyProof.Rows L2
section
variable {K : PySem.W.Frag} {H : Hp} {B : Fb} {m : List Addr} {σ σ' : St} {h : OH} {τ : L2.St}
theorem Rl.put {i : Nat} {s : SV} {v : V} (R : Rl K H B m σ h τ) (rs : RS K H (fb B m) m s v) : Rl K H B m (σ.set i (some s)) h (τ.set i (some v)) where
  toRh := R.toRh
  sl := by simpa using R.sl
  slot := fun j t e => by
    by_cases hj : i = j
    · subst hj
      have hi : i < σ.length := by
        by_cases q : i < σ.length
        · exact q
        · rw [List.getElem?_eq_none (by simpa using q)] at e; cases e
      rw [List.getElem?_set_self hi] at e
      cases e
      exact ⟨v, by rw [List.getElem?_set_self (by rw [← R.sl]; exact hi)], rs⟩
    · rw [List.getElem?_set_ne hj] at e
      obtain ⟨w, h1, h2⟩ := R.slot j t e
      exact ⟨w, by rw [List.getElem?_set_ne hj]; exact h1, h2⟩
theorem Rl.none_ {i : Nat} (R : Rl K H B m σ h τ) : Rl K H B m (σ.set i none) h (τ.set i none) where
  toRh := R.toRh
  sl := by simpa using R.sl
  slot := fun j t e => by
    by_cases hj : i = j
    · subst hj
      by_cases q : i < σ.length
      · rw [List.getElem?_set_self q] at e; cases e
      · rw [List.getElem?_eq_none (by simpa using q)] at e; cases e
    · rw [List.getElem?_set_ne hj] at e
      obtain ⟨w, h1, h2⟩ := R.slot j t e
      exact ⟨w, by rw [List.getElem?_set_ne hj]; exact h1, h2⟩
theorem Rl.wipe (R : Rl K H B m σ h τ) : ∀ vs : List Nat, Rl K H B m (wipeS σ vs) h (L2.wipe τ vs)
  | [] => R
  | v :: vs => (R.wipe vs).none_
end
/-! ### more is forbidden, more is one's own -/
section
variable {K : PySem.W.Frag} {H H' : Hp} {B B' F' : Fb} {m m' : List Addr} {σ σ' : St} {h : OH} {τ : L2.St}
theorem ExtM.ext (x : ExtM m H H') : Ext (fb B m) H H' := ⟨fun b y nb e => x.keep b y (fun z => nb (.inr z)) e, x.tup, x.frz⟩
theorem RB.mono (x : ExtM m H H') (gr : Grows H (fb B m) F') (gm : ∀ a ∈ m', a ∈ m ∨ H a = none) : ∀ {p : PV} {v : V}, RB K H (fb B m) m p v → RB K H' F' m' p v
  | .non, _, h => h
  | .bl _, _, h => h
  | .int _, _, h => h
  | .str _, _, h => h
  | .ins _ _, _, h => h
  | .ty _, _, h => h
  | .cl _, _, h => h
  | .tup xs, v, h => RV.mono (p := .tup xs) x.ext gr h
  | .lst xs, v, h => by
    obtain ⟨a, vs, e, r, z, q⟩ := h
    refine ⟨a, vs, e, ?_, z, q.mono x.ext gr⟩
    rcases r with ⟨r, na⟩ | r
    · refine .inl ⟨?_, fun hm => ?_⟩
      · rcases r with r | ⟨o, r⟩
        · exact .inl (x.keep _ _ na r)
        · exact .inr ⟨o, x.frz _ _ _ r⟩
      · rcases gm a hm with k | k
        · exact na k
        · exact Rd.ne r k
    · exact .inr r
  | .dct ks xs, v, h => by
    obtain ⟨a, vs, e, r, na, z, k, q⟩ := h
    refine ⟨a, vs, e, x.keep _ _ na r, fun hm => ?_, z, k, q.mono x.ext gr⟩
    rcases gm a hm with k | k
    · exact na k
    · rw [r] at k; cases k
theorem RS.mono (x : ExtM m H H') (gr : Grows H (fb B m) F') (gm : ∀ a ∈ m', a ∈ m ∨ H a = none) (pre : m <+: m') : ∀ {s : SV} {v : V}, RS K H (fb B m) m s v → RS K H' F' m' s v
  | .d false p, v, h => RV.mono (p := p) x.ext gr h
  | .d true p, v, h => RB.mono x gr gm h
  | .r n, v, h => by
    obtain ⟨a, e, rfl⟩ := h
    obtain ⟨t, rfl⟩ := pre
    refine ⟨a, ?_, rfl⟩
    rw [List.getElem?_append_left (List.getElem?_eq_some_iff.mp e).1]
    exact e
theorem RO.mono {a : Addr} {F : Fb} (x : Ext F H H') (gr : Grows H F F') (ha : H' a = H a) : ∀ {o : OO}, RO K H F a o → RO K H' F' a o
  | .l xs, h => by
    obtain ⟨vs, e, z, q⟩ := h
    exact ⟨vs, by rw [ha]; exact e, z, q.mono x gr⟩
  | .d ks xs, h => by
    obtain ⟨vs, e, z, k, q⟩ := h
    exact ⟨vs, by rw [ha]; exact e, z, k, q.mono x gr⟩
  | .ins _ _, h => h
theorem Same.at (s : Same H H') {a : Addr} (n : H a ≠ none) : H' a = H a := by
  cases e : H a with
  | none => exact absurd e n
  | some x => exact s _ _ e
theorem grow_push {a : Addr} (ha : H a = none) : Grows H (fb B m) (fb B (m ++ [a])) := fun b hb => by
  rcases hb with hb | hb
  · exact .inl (.inl hb)
  · rcases List.mem_append.mp hb with hb | hb
    · exact .inl (.inr hb)
    · refine .inr ?_
      rw [List.mem_singleton.mp hb]; exact ha
theorem new_push {a : Addr} (ha : H a = none) : ∀ b ∈ m ++ [a], b ∈ m ∨ H b = none := fun b hb => by
  rcases List.mem_append.mp hb with hb | hb
  · exact .inl hb
  · refine .inr ?_
    rw [List.mem_singleton.mp hb]; exact ha
/-- a new object becomes one's own -/
theorem Rl.push {a : Addr} {o : OO} (R : Rl K H B m σ h τ) (s : Same H H') (ha : H a = none) (ro : RO K H' (fb B (m ++ [a])) a o) : Rl K H' B (m ++ [a]) σ (h ++ [o]) τ := by
  have nF : ¬ fb B m a := R.toRh.free ha
  refine ⟨⟨fun b hb => ?_, fun b hb hB => ?_, ?_, by simp [R.len], fun n b u h1 h2 => ?_⟩, R.sl, fun i t e => ?_⟩
  · rw [Same.at s (R.fok b hb)]; exact R.fok b hb
  · rcases List.mem_append.mp hb with hb | hb
    · exact R.ap b hb hB
    · rw [List.mem_singleton.mp hb] at hB
      exact nF (.inl hB)
  · refine List.nodup_append.mpr ⟨R.nd, by simp, fun x hx y hy => ?_⟩
    rw [List.mem_singleton.mp hy]
    intro e
    rw [e] at hx
    exact nF (.inr hx)
  · by_cases hn : n < m.length
    · rw [List.getElem?_append_left hn] at h1
      rw [List.getElem?_append_left (by rw [← R.len]; exact hn)] at h2
      have ro1 := R.obj n b u h1 h2
      exact ro1.mono (.of_same s) (grow_push ha) (Same.at s ro1.ne)
    · have hn2 : n = m.length := by
        have := (List.getElem?_eq_some_iff.mp h1).1
        simp at this
        omega
      subst hn2
      rw [List.getElem?_append_right (Nat.le_refl _), Nat.sub_self] at h1
      rw [R.len, List.getElem?_append_right (Nat.le_refl _), Nat.sub_self] at h2
      cases h1; cases h2
      exact ro
  · obtain ⟨v, e1, e2⟩ := R.slot i t e
    exact ⟨v, e1, e2.mono (ExtM.of s) (grow_push ha) (new_push ha) (List.prefix_append _ _)⟩
/-- more is forbidden -/
theorem Rl.forb {D : Addr} (R : Rl K H B m σ h τ) (s : Same H H') (hD : H D = none) (nD : H' D ≠ none) : Rl K H' (fun b => B b ∨ b = D) m σ h τ := by
  have nF : ¬ fb B m D := R.toRh.free hD
  have gr : Grows H (fb B m) (fb (fun b => B b ∨ b = D) m) := fun b hb => by
    rcases hb with (hb | hb) | hb
    · exact .inl (.inl hb)
    · exact .inr (by rw [hb]; exact hD)
    · exact .inl (.inr hb)
  refine ⟨⟨fun b hb => ?_, fun a ha hb => ?_, R.nd, R.len, fun n a o h1 h2 => ?_⟩, R.sl, fun i t e => ?_⟩
  · rcases hb with hb | hb
    · rw [Same.at s (R.fok b hb)]; exact R.fok b hb
    · rw [hb]; exact nD
  · rcases hb with hb | hb
    · exact R.ap a ha hb
    · rw [hb] at ha
      exact nF (.inr ha)
  · have ro := R.obj n a o h1 h2
    exact ro.mono (.of_same s) gr (Same.at s ro.ne)
  · obtain ⟨v, e1, e2⟩ := R.slot i t e
    exact ⟨v, e1, e2.mono (ExtM.of s) gr (fun a ha => .inl ha) (List.prefix_refl _)⟩
/-- a new object of one's own -/
def rN (K : PySem.W.Frag) (B : Fb) (m : List Addr) (σ : St) (h : OH) (τ : L2.St) (H0 : Hp) : Hp → PV → V → Prop := fun H' p v => ∃ a o, v = .ref a ∧ ownO p = some o ∧ H0 a = none ∧ Rl K H' B (m ++ [a]) σ (h ++ [o]) τ
theorem rN.rf {H0 : Hp} {p : PV} {v : V} {n : Nat} (r : rN K B m σ h τ H0 H' p v) : RF K H' B m n p v := by
  obtain ⟨a, o, rfl, e, _, R⟩ := r
  have ha : (m ++ [a])[m.length]? = some a := by rw [List.getElem?_append_right (Nat.le_refl _), Nat.sub_self]; rfl
  have hh : m.length = h.length := by have := R.len; simpa using this
  have ho : (h ++ [o])[m.length]? = some o := by rw [hh, List.getElem?_append_right (Nat.le_refl _), Nat.sub_self]; rfl
  have ro := R.obj _ a o ha ho
  have na : ¬ fb B m a := fun q => by
    rcases q with q | q
    · exact R.ap a (by simp) q
    · have nd := R.nd
      rw [List.nodup_append] at nd
      exact nd.2.2 a q a (by simp) rfl
  have sub : ∀ b, fb B m b → fb B (m ++ [a]) b := fun b hb => by
    rcases hb with hb | hb
    · exact .inl hb
    · exact .inr (List.mem_append_left _ hb)
  cases p with
  | lst xs =>
    cases e
    obtain ⟨vs, e1, e2, e3⟩ := ro
    exact RF.of ⟨a, vs, rfl, e1, e2, na, e3.weak sub⟩
  | dct ks xs =>
    cases e
    obtain ⟨vs, e1, e2, e3, e4⟩ := ro
    exact RF.of ⟨a, vs, rfl, e1, e2, na, e3, e4.weak sub⟩
  | _ => simp only [ownO] at e; cases e
end
/-- an expression that makes a new object -/
def tEN (K : PySem.W.Frag) (mg : Str → Option Value) (P : Pg) (W : WX) (c : CE) : TE := fun τ H Q => ∃ B m σ h, Rl K H B m σ h τ ∧ Gd K mg W B m τ (rN K B m σ h τ H) H (ev P c σ h) Q
theorem s_new {X : Cx} {W : WX} {P : Pg} {a : Expr} {ca : CE} (ha : PE X a (tEN X.K X.mg P W ca)) : PE X a (tE X.K X.mg P W ca) := by
  refine PE.imp ha fun τ H Q ⟨B, m, σ, h, R, g⟩ => ⟨B, m, σ, h, R, g.rel fun H' p v r => ?_⟩
  exact r.rf
theorem s_lstN {X : Cx} {W : WX} {P : Pg} {es : List Expr} {ces : List CE} {pos : Pos} (ha : PA X es (tAs X.K X.mg P W ces)) : PE X (.List es pos) (tEN X.K X.mg P W (.lst ces)) := by
  refine PE.imp (pe_lst ha) fun τ H Q ⟨B, m, σ, h, R, g⟩ => ?_
  simp only [ev] at g
  refine ⟨B, m, σ, h, R, Gd.imp (Gd.bnd (rel := rA X.K B m σ ces) g) fun vs H1 ⟨ps, s1, r1, g1⟩ => ?_⟩
  obtain ⟨⟨c1, c2⟩, g1⟩ := Gd.ite g1
  have r2 := r1.zero c2
  have hz : vs.length ≤ sizeLine := by rw [← r2.length, ← big_eq]; exact c1
  refine ⟨hz, fun t nt => Gd.new g1 (same_upd nt) ⟨t, .l ps, rfl, rfl, ?_, ?_⟩⟩
  · cases e : H t with
    | none => rfl
    | some x => rw [s1 _ _ e] at nt; cases nt
  · refine (R.same s1).push (same_upd nt) nt ⟨vs, upd_same, hz, ?_⟩
    exact r2.mono (.of_same (same_upd nt)) (grow_push nt)
theorem s_dct0N {X : Cx} {W : WX} {P : Pg} {pos : Pos} : PE X (.Dict [] [] pos) (tEN X.K X.mg P W .dct0) := by
  refine PE.imp pe_dnewK fun τ H Q ⟨B, m, σ, h, R, g⟩ => ?_
  simp only [ev] at g
  refine fun t nt => Gd.new g (same_upd nt) ⟨t, .d [] [], rfl, rfl, nt, ?_⟩
  exact R.push (same_upd nt) nt ⟨[], upd_same, Nat.zero_le _, rfl, rfl⟩
/-- a target's reading -/
def gT (K : PySem.W.Frag) (t : TN) : TG := fun v τ H Q => ∃ B m σ h p σ', Rl K H B m σ h τ ∧ RV K H (fb B m) p v ∧ bindT t p σ = some σ' ∧
  ∀ τ', Rl K H B m σ' h τ' → (∀ i, i ∉ slotsT t → τ'[i]? = τ[i]?) → τ'.length = τ.length → Q τ' H
def gTs (K : PySem.W.Frag) (ts : List TN) : TGs := fun vs τ H Q => ∃ B m σ h ps σ', Rl K H B m σ h τ ∧ RVs K H (fb B m) ps vs ∧ bindTs ts ps σ = some σ' ∧
  ∀ τ', Rl K H B m σ' h τ' → (∀ i, i ∉ slotsTs ts → τ'[i]? = τ[i]?) → τ'.length = τ.length → Q τ' H
theorem PG.imp {X : Cx} {e : Expr} {t t' : TG} (h : PG X e t) (i : ∀ v σ H Q, t' v σ H Q → t v σ H Q) : PG X e t' := ⟨fun pins s σ H v u Q I r hw => h.run pins s σ H v u Q I r (i _ _ _ _ hw)⟩
theorem PGs.imp {X : Cx} {e : List Expr} {t t' : TGs} (h : PGs X e t) (i : ∀ v σ H Q, t' v σ H Q → t v σ H Q) : PGs X e t' := ⟨fun pins s σ H v u Q I r hw => h.run pins s σ H v u Q I r (i _ _ _ _ hw)⟩
/-- the names that may be stored -/
def Sto (X : Cx) (x : Str) : Prop := Loc X.env.scope x ∧ (X.fn x = true ∨ X.env.scope.names.lookup x = some .local)
mutual
/-- the text's target is t -/
def mT (N : List Str) (as_ : Str → Bool) : TN → Expr → Bool
  | .nm i, .Name x _ => decide (N[i]? = some x) && as_ x
  | .tp ts, .Tuple es _ _ => mTs N as_ ts es
  | _, _ => false
def mTs (N : List Str) (as_ : Str → Bool) : List TN → List Expr → Bool
  | [], [] => true
  | t :: ts, e :: es => mT N as_ t e && mTs N as_ ts es
  | _, _ => false
end
theorem asg_cons {e : Expr} {es : List Expr} {env : Env} (h : notStar e = true) : assignEach (e :: es) env = (false, assign e env) :: assignEach es env := by
  cases e <;> first | rfl | cases h
theorem mT_star {N : List Str} {as_ : Str → Bool} {t : TN} {e : Expr} (h : mT N as_ t e = true) : notStar e = true := by
  cases t <;> cases e <;> first | rfl | (simp only [mT] at h; cases h)
theorem mTs_each {N : List Str} {as_ : Str → Bool} {env : Env} : ∀ {ts : List TN} {es : List Expr}, mTs N as_ ts es = true → (assignEach es env).length = ts.length ∧ (assignEach es env).findIdx? (·.1) = none
  | [], [], _ => ⟨rfl, rfl⟩
  | t :: ts, e :: es, h => by
    simp only [mTs, Bool.and_eq_true] at h
    obtain ⟨i1, i2⟩ := mTs_each (env := env) h.2
    rw [asg_cons (mT_star h.1)]
    exact ⟨by simp [i1], by simp [List.findIdx?_cons, i2]⟩
  | [], _ :: _, h => by simp only [mTs] at h; cases h
  | _ :: _, [], h => by simp only [mTs] at h; cases h
theorem bindTs_len : ∀ {ts : List TN} {ps : List PV} {σ σ' : St}, bindTs ts ps σ = some σ' → ts.length = ps.length
  | [], [], _, _, _ => rfl
  | t :: ts, p :: ps, σ, σ', h => by
    simp only [bindTs] at h
    obtain ⟨σ1, _, h2⟩ := Option.bind_eq_some_iff.mp h
    rw [List.length_cons, List.length_cons, bindTs_len h2]
  | [], _ :: _, _, _, h => by simp only [bindTs] at h; cases h
  | _ :: _, [], _, _, h => by simp only [bindTs] at h; cases h
mutual
theorem s_tgt {X : Cx} {N : List Str} {as_ : Str → Bool} (hN : X.N = N) (nd : N.Nodup) (hc : X.calm = true) (ha : ∀ x, as_ x = true → Sto X x) : ∀ {t : TN} {e : Expr}, mT N as_ t e = true → PG X e (gT X.K t)
  | .nm i, .Name x px, h => by
    simp only [mT, Bool.and_eq_true, decide_eq_true_eq] at h
    obtain ⟨s1, s2⟩ := ha x h.2
    refine PG.imp (pg_name (i := i) (by rw [hN]; exact nd) (by rw [hN]; exact h.1) s1 s2) fun v τ H Q ⟨B, m, σ, hh, p, σ', R, rv, hb, q⟩ => ?_
    simp only [bindT, Option.some.injEq] at hb
    subst hb
    refine q _ (R.put rv) (fun j hj => ?_) (by simp)
    have : i ≠ j := by
      intro e; exact hj (by simp [slotsT, e])
    rw [List.getElem?_set_ne this]
  | .tp ts, .Tuple es k pt, h => by
    simp only [mT] at h
    obtain ⟨l1, l2⟩ := mTs_each (env := X.env) h
    refine PG.imp (pg_tup hc (s_tgts hN nd hc ha h) l1 l2) fun v τ H Q ⟨B, m, σ, hh, p, σ', R, rv, hb, q⟩ => ?_
    cases p with
    | tup xs =>
      obtain ⟨a, vs, rfl, hs, _, rr⟩ := rv
      simp only [bindT] at hb
      exact ⟨a, vs, rfl, hs, by rw [← rr.length, bindTs_len hb], B, m, σ, hh, xs, σ', R, rr, hb, fun τ' r' o l => q τ' r' (by simpa only [slotsT] using o) l⟩
    | _ => simp only [bindT] at hb; cases hb
  | .nm _, .Tuple _ _ _, h => by simp only [mT] at h; cases h
  | .tp _, .Name _ _, h => by simp only [mT] at h; cases h
  | t, .BoolOp .., h => by cases t <;> (simp only [mT] at h; cases h)
  | t, .NamedExpr .., h => by cases t <;> (simp only [mT] at h; cases h)
  | t, .BinOp .., h => by cases t <;> (simp only [mT] at h; cases h)
  | t, .UnaryOp .., h => by cases t <;> (simp only [mT] at h; cases h)
  | t, .Lambda .., h => by cases t <;> (simp only [mT] at h; cases h)
  | t, .IfExp .., h => by cases t <;> (simp only [mT] at h; cases h)
  | t, .Dict .., h => by cases t <;> (simp only [mT] at h; cases h)
  | t, .Set .., h => by cases t <;> (simp only [mT] at h; cases h)
  | t, .ListComp .., h => by cases t <;> (simp only [mT] at h; cases h)
  | t, .SetComp .., h => by cases t <;> (simp only [mT] at h; cases h)
  | t, .DictComp .., h => by cases t <;> (simp only [mT] at h; cases h)
  | t, .GeneratorExp .., h => by cases t <;> (simp only [mT] at h; cases h)
  | t, .Await .., h => by cases t <;> (simp only [mT] at h; cases h)
  | t, .Yield .., h => by cases t <;> (simp only [mT] at h; cases h)
  | t, .YieldFrom .., h => by cases t <;> (simp only [mT] at h; cases h)
  | t, .Compare .., h => by cases t <;> (simp only [mT] at h; cases h)
  | t, .Call .., h => by cases t <;> (simp only [mT] at h; cases h)
  | t, .FormattedValue .., h => by cases t <;> (simp only [mT] at h; cases h)
  | t, .JoinedStr .., h => by cases t <;> (simp only [mT] at h; cases h)
  | t, .Constant .., h => by cases t <;> (simp only [mT] at h; cases h)
  | t, .Attribute .., h => by cases t <;> (simp only [mT] at h; cases h)
  | t, .Subscript .., h => by cases t <;> (simp only [mT] at h; cases h)
  | t, .Starred .., h => by cases t <;> (simp only [mT] at h; cases h)
  | t, .List .., h => by cases t <;> (simp only [mT] at h; cases h)
  | t, .Slice .., h => by cases t <;> (simp only [mT] at h; cases h)
theorem s_tgts {X : Cx} {N : List Str} {as_ : Str → Bool} (hN : X.N = N) (nd : N.Nodup) (hc : X.calm = true) (ha : ∀ x, as_ x = true → Sto X x) : ∀ {ts : List TN} {es : List Expr}, mTs N as_ ts es = true → PGs X es (gTs X.K ts)
  | [], [], _ => by
    refine PGs.imp pgs_nil fun vs τ H Q ⟨B, m, σ, hh, ps, σ', R, rv, hb, q⟩ => ?_
    cases ps with
    | nil =>
      simp only [bindTs, Option.some.injEq] at hb
      subst hb
      exact ⟨rv, q τ R (fun _ _ => rfl) rfl⟩
    | cons _ _ => simp only [bindTs] at hb; cases hb
  | t :: ts, e :: es, h => by
    simp only [mTs, Bool.and_eq_true] at h
    refine PGs.imp (pgs_cons (s_tgt hN nd hc ha h.1) (s_tgts hN nd hc ha h.2) (by rw [asg_cons (mT_star h.1)]; rfl)) fun vs τ H Q ⟨B, m, σ, hh, ps, σ', R, rv, hb, q⟩ => ?_
    cases ps with
    | nil => simp only [bindTs] at hb; cases hb
    | cons p ps =>
      obtain ⟨v, r, rfl, hv, hr⟩ := rv
      simp only [bindTs] at hb
      obtain ⟨σ1, h1, h2⟩ := Option.bind_eq_some_iff.mp hb
      refine ⟨v, r, rfl, B, m, σ, hh, p, σ1, R, hv, h1, fun τ1 R1 o1 l1 => ?_⟩
      refine ⟨B, m, σ1, hh, ps, σ', R1, hr, h2, fun τ2 R2 o2 l2 => q τ2 R2 (fun i hi => ?_) (l2.trans l1)⟩
      have hi' : i ∉ slotsT t ∧ i ∉ slotsTs ts := by simpa [slotsTs] using hi
      rw [o2 i hi'.2, o1 i hi'.1]
  | [], _ :: _, h => by simp only [mTs] at h; cases h
  | _ :: _, [], h => by simp only [mTs] at h; cases h
end
end Ev

set_option Elab.async false
set_option linter.all false
set_option maxRecDepth 100000
/-! Ev11: comprehensions. -/
namespace Ev
open PySem PySem.Spec PyProof.Rows L2
def tCs (K : PySem.W.Frag) (mg : Str → Option Value) (P : Pg) (W : WX) (cs : List CE) : TT := fun τ H Q => ∃ B m σ h, Rl K H B m σ h τ ∧ Gd K mg W B m τ rB H (evC P cs σ h) Q
theorem PTs.imp {X : Cx} {e : List Expr} {t t' : TT} (h : PTs X e t) (i : ∀ σ H Q, t' σ H Q → t σ H Q) : PTs X e t' := ⟨fun pins s σ H Q I hw => h.run pins s σ H Q I (i _ _ _ hw)⟩
section
variable {X : Cx} {W : WX} {P : Pg} {a : Expr} {ca : CE}
theorem s_tests0 : PTs X [] (tCs X.K X.mg P W []) := by
  refine PTs.imp pts_nil fun τ H Q ⟨B, m, σ, h, R, g⟩ => ?_
  exact Gd.ok (rel := rB) (p := true) (by simpa only [evC] using g) rfl
theorem s_tests1 (ha : PT X a (tT X.K X.mg P W ca)) : PTs X [a] (tCs X.K X.mg P W [ca]) := by
  refine PTs.imp (pts_one ha) fun τ H Q ⟨B, m, σ, h, R, g⟩ => ?_
  simp only [evC, ev_tr] at g
  refine ⟨B, m, σ, h, R, Gd.imp (Gd.bnd (rel := rB) g) fun x H1 ⟨p, s1, r1, g1⟩ => ?_⟩
  cases (show p = x from r1)
  cases x with
  | true => rw [if_pos rfl] at g1; exact Gd.ok g1 rfl
  | false => rw [if_neg (by decide)] at g1; exact Gd.ok g1 rfl
end
theorem evI_bnd {P : Pg} {c : CE} {σ : St} {h : OH} {β : Type} {k : List PV → R β} : (bnd (ev P c σ h) fun x => withO (itemsOf x) k) = bnd (evI P c σ h) k := by
  simp only [evI]
  cases ev P c σ h with
  | none => rfl
  | some r =>
    cases r with
    | error x => rfl
    | ok p => simp only [bnd_ok]; cases itemsOf p <;> rfl
def consO (o : Option PV) (ys : List PV) : List PV := match o with | some y => y :: ys | none => ys
theorem compL_nil {f : St → R (Option PV)} {t : TN} {σ : St} : compL f t σ [] = ok [] := rfl
theorem compL_cons {f : St → R (Option PV)} {t : TN} {σ : St} {x : PV} {xs zs : List PV} (h : compL f t σ (x :: xs) = some (.ok zs)) : ∃ σ' o zs', bindT t x σ = some σ' ∧ f σ' = some (.ok o) ∧ compL f t σ xs = some (.ok zs') ∧ zs = consO o zs' := by
  unfold compL at h
  cases q : bindT t x σ with
  | none => rw [q] at h; cases h
  | some σ' =>
    rw [q] at h
    dsimp only at h
    cases qf : f σ' with
    | none => rw [qf] at h; cases h
    | some r =>
      cases r with
      | error x => rw [qf] at h; cases h
      | ok o =>
        rw [qf] at h
        simp only [bnd_ok] at h
        cases qc : compL f t σ xs with
        | none => rw [qc] at h; cases h
        | some r =>
          cases r with
          | error x => rw [qc] at h; cases h
          | ok zs' =>
            rw [qc] at h
            refine ⟨σ', o, zs', rfl, qf, rfl, ?_⟩
            simp only [bnd_ok] at h
            cases o <;> (cases h; rfl)
theorem wipe_eq {τ τ2 : L2.St} {vs : List Nat} (h : ∀ i, i ∉ vs → τ2[i]? = (L2.wipe τ vs)[i]?) (hl : τ2.length = τ.length) : L2.wipe τ2 vs = L2.wipe τ vs := by
  apply List.ext_getElem?
  intro i
  by_cases hi : i ∈ vs
  · have key : ∀ (σ : L2.St), (L2.wipe σ vs)[i]? = if i < σ.length then some none else none := by
      intro σ
      by_cases q : i < σ.length
      · rw [if_pos q]
        have hw : i < (L2.wipe σ vs).length := by rw [wipe_length]; exact q
        cases e : (L2.wipe σ vs)[i]? with
        | none => rw [List.getElem?_eq_none_iff] at e; omega
        | some o =>
          cases o with
          | none => rfl
          | some x => exact absurd hi (wipe_some e).2
      · rw [if_neg q, List.getElem?_eq_none_iff, wipe_length]; omega
    rw [key, key, hl]
  · rw [wipe_out hi, h i hi]
/-- the wish of a block: nothing is raised -/
def W0 : WX := fun _ _ _ _ => False
section
variable {X : Cx} {W : WX} {P : Pg} {elt tg iter : Expr} {ifs : List Expr} {ce ci : CE} {cs : List CE} {t : TN} {scope : Scope} {own : List (Str × Nat)} {pos : Pos}
/-- the turns of a comprehension -/
theorem comp_read {τ : L2.St} {H : Hp} {Q : VK} (ho : own.map (·.2) = slotsT t) (hq : tEN X.K X.mg P W (.comp ce t ci cs) τ H Q) :
    tLc (tI X.K X.mg P W ci) (gT X.K t) (tCs X.K X.mg P W0 cs) (tE X.K X.mg P W0 ce) (own.map (·.2)) τ H Q := by
  obtain ⟨B, m, σ, h, R, g⟩ := hq
  simp only [ev, evI_bnd] at g
  refine ⟨B, m, σ, h, R, Gd.imp (Gd.bnd (rel := rI_ X.K B m (flgI σ ci)) g) fun J H1 ⟨xs, s1, ⟨src, hz, hY, hS, _⟩, g1⟩ => ?_⟩
  clear g
  intro D nD
  generalize hf : (fun σ' => bnd (evC P cs σ' h) fun b => if b = true then bnd (ev P ce σ' h) fun y => if flg σ' ce = 0 then ok (some y) else none else ok none) = f at g1
  cases ec : compL f t (wipeS σ (slotsT t)) xs with
  | none => rw [ec] at g1; exact g1.elim
  | some r =>
    cases r with
    | error x => rw [ec] at g1; exact g1.elim
    | ok ys =>
      rw [ec] at g1
      have g2 : Gd X.K X.mg W B m τ (rN X.K B m σ h τ H) H1 (ok (.lst ys)) Q := g1
      clear g1
      have R1 := R.same s1
      have nF : ¬ fb B m D := R1.toRh.free nD
      -- while the list is made, it is forbidden
      let B' : Fb := fun b => B b ∨ b = D
      have gr : Grows H1 (fb B m) (fb B' m) := fun b hb => by
        rcases hb with (hb | hb) | hb
        · exact .inl (.inl hb)
        · exact .inr (by rw [hb]; exact nD)
        · exact .inl (.inr hb)
      have sub : ∀ b, fb B m b → fb B' m b := fun b hb => by
        rcases hb with hb | hb
        · exact .inl (.inl hb)
        · exact .inr hb
      have RB : ∀ H2 : Hp, (∀ b x, H1 b = some x → H2 b = some x) → H2 D ≠ none → Rl X.K H2 B' m σ h τ := fun H2 k nd => R1.forb k nD nd
      refine ⟨fun i mm H2 => mm = xs.length - i ∧ i ≤ xs.length ∧ (∀ b x, H1 b = some x → H2 b = some x) ∧ ∃ pre acc zs, H2 D = some (.lst acc) ∧ RVs X.K H2 (fb B' m) pre acc ∧ pre.length ≤ i ∧ compL f t (wipeS σ (slotsT t)) (xs.drop i) = some (.ok zs) ∧ pre ++ zs = ys,
        ⟨xs.length, rfl, Nat.zero_le _, fun b x e => by rw [upd_ne (ne_of_none e nD)]; exact e, [], [], ys, upd_same, rfl, Nat.le_refl _, by rw [List.drop_zero]; exact ec, rfl⟩, ?_⟩
      rintro i mm H2 ⟨em, hi, k2, pre, acc, zs, eD, ra, hp, ez, ey⟩
      have xt : Ext (fb B m) H1 H2 := ⟨fun b x _ e => k2 b x e, fun b _ e => k2 b _ e, fun b _ _ e => k2 b _ e⟩
      have hY2 := hY H2 i (fb B' m) xt gr fun z hz => k2 _ _ (hS z hz)
      by_cases hlt : i < xs.length
      · have ex : xs[i]? = some xs[i] := List.getElem?_eq_getElem hlt
        have ed : xs.drop i = xs[i] :: xs.drop (i + 1) := List.drop_eq_getElem_cons hlt
        rw [ed] at ez
        obtain ⟨σ', o, zs', hb, hfo, hc, rfl⟩ := compL_cons ez
        obtain ⟨hgo, hy⟩ := hY2.1 _ ex
        refine .inr ⟨hgo, fun H3 => ∃ pre acc zs, (∀ b x, H1 b = some x → H3 b = some x) ∧ H3 D = some (.lst acc) ∧ RVs X.K H3 (fb B' m) pre acc ∧ pre.length ≤ i + 1 ∧ compL f t (wipeS σ (slotsT t)) (xs.drop (i + 1)) = some (.ok zs) ∧ pre ++ zs = ys, fun H3 ⟨pre3, acc3, zs3, k3, e3, r3, p3, c3, y3⟩ => ⟨mm - 1, by omega, by omega, by omega, k3, pre3, acc3, zs3, e3, r3, p3, c3, y3⟩, fun v H3 hv => ?_⟩
        obtain ⟨s3, rv⟩ := hy v H3 hv
        have k3 : ∀ b x, H1 b = some x → H3 b = some x := fun b x e => s3 _ _ (k2 _ _ e)
        have eD3 : H3 D = some (.lst acc) := s3 _ _ eD
        have RW := (RB H3 k3 (by rw [eD3]; exact fun z => nomatch z)).wipe (slotsT t)
        rw [ho]
        refine ⟨B', m, wipeS σ (slotsT t), h, xs[i], σ', RW, rv, hb, fun τ2 R2 o2 l2 => ⟨wipe_eq o2 (by rw [l2, wipe_length]), ?_⟩⟩
        rw [← hf] at hfo
        dsimp only at hfo
        cases qc : evC P cs σ' h with
        | none => rw [qc] at hfo; cases hfo
        | some rc =>
          cases rc with
          | error x => rw [qc] at hfo; cases hfo
          | ok b =>
            rw [qc] at hfo
            simp only [bnd_ok] at hfo
            refine ⟨B', m, σ', h, R2, ?_⟩
            rw [qc]
            intro b' H4 s4 eb
            cases (show b = b' from eb)
            cases b with
            | false =>
              rw [if_neg (by decide)] at hfo ⊢
              cases hfo
              exact ⟨pre, acc, zs', fun b x e => s4 _ _ (k3 _ _ e), s4 _ _ eD3, (ra.same s3).same s4, by omega, hc, ey⟩
            | true =>
              rw [if_pos rfl] at hfo ⊢
              cases qe : ev P ce σ' h with
              | none => rw [qe] at hfo; cases hfo
              | some re =>
                cases re with
                | error x => rw [qe] at hfo; cases hfo
                | ok y =>
                  rw [qe] at hfo
                  simp only [bnd_ok] at hfo
                  split at hfo
                  · rename_i fz
                    cases hfo
                    refine ⟨B', m, σ', h, R2.same s4, ?_⟩
                    rw [qe]
                    intro w H5 s5 rw'
                    have ry : RV X.K H5 (fb B' m) y w := RF.zero rw' fz
                    have eD5 : H5 D = some (.lst acc) := s5 _ _ (s4 _ _ eD3)
                    have ra5 : RVs X.K H5 (fb B' m) pre acc := ((ra.same s3).same s4).same s5
                    have hl := ra5.length
                    refine ⟨acc, eD5, by omega, pre ++ [y], acc ++ [w], zs', fun b x e => ?_, upd_same, ?_, by simp; omega, hc, by rw [← ey]; simp [consO]⟩
                    · rw [upd_ne (ne_of_none e nD)]
                      exact s5 _ _ (s4 _ _ (k3 _ _ e))
                    · have x5 : Ext (fb B' m) H5 (upd H5 D (.lst (acc ++ [w]))) := by
                        have nb : ∀ b, ¬ fb B' m b → b ≠ D := fun b hb e => hb (.inl (.inr e))
                        refine ⟨fun b x hb e => by rw [upd_ne (nb b hb)]; exact e, fun b xs' e => ?_, fun b o u e => ?_⟩
                        · rw [upd_ne (fun z => by rw [z, eD5] at e; cases e)]; exact e
                        · rw [upd_ne (fun z => by rw [z, eD5] at e; cases e)]; exact e
                      exact (ra5.append (RVs.one ry)).mono x5 .refl
                  · cases hfo
      · have ei : i = xs.length := by omega
        subst ei
        refine .inl ⟨hY2.2 (Nat.le_refl _), ?_⟩
        rw [List.drop_length] at ez
        have ezs : zs = [] := by
          have : some (Except.ok (ε := Exn) ([] : List PV)) = some (Except.ok zs) := ez
          cases this; rfl
        subst ezs
        rw [List.append_nil] at ey
        subst ey
        have hl := ra.length
        refine Gd.new g2 (fun b x e => k2 b x e) ⟨D, .l pre, rfl, rfl, ?_, R1.push k2 nD ⟨acc, eD, by omega, ra.weak fun b hb => ?_⟩⟩
        · cases e : H D with
          | none => rfl
          | some x => rw [s1 _ _ e] at nD; cases nD
        · rcases hb with hb | hb
          · exact .inl (.inl hb)
          · rcases List.mem_append.mp hb with hb | hb
            · exact .inr hb
            · exact .inl (.inr (List.mem_singleton.mp hb))
theorem s_compN (hc : X.calm = true) (hN : X.N.Nodup) (hi : PI X tg iter (tI X.K X.mg P W ci)) (ok : BlkOk X.N X.env.scope scope own) (ho : own.map (·.2) = slotsT t)
    (hg : ∀ (s : Shared) (H : Hp) (C : Addr) (cl : List (Str × Addr)) (fp : List Addr), PG (X.blk s H scope (compEnvC scope cl C X.env) fp) tg (gT X.K t))
    (ht : ∀ (s : Shared) (H : Hp) (C : Addr) (cl : List (Str × Addr)) (fp : List Addr), PTs (X.blk s H scope (compEnvC scope cl C X.env) fp) ifs (tCs X.K X.mg P W0 cs))
    (he : ∀ (s : Shared) (H : Hp) (C : Addr) (cl : List (Str × Addr)) (fp : List Addr), PE (X.blk s H scope (compEnvC scope cl C X.env) fp) elt (tE X.K X.mg P W0 ce)) (hs : ∀ x, foldedSetIterable iter X.env x = pure x) :
    PE X (.ListComp elt [⟨tg, iter, ifs, 0⟩] scope pos) (tEN X.K X.mg P W (.comp ce t ci cs)) :=
  PE.imp (pe_lc hc hN hi ok hg ht he hs) fun _ _ _ hq => comp_read ho hq
end
end Ev

set_option Elab.async false
set_option linter.all false
set_option maxRecDepth 100000
/-! Ev12: statements by the evaluator. -/
namespace Ev
open PySem PySem.Spec PyProof.Rows L2
theorem PS.imp {X : Cx} {e : Stmt} {t t' : TS} (h : PS X e t) (i : ∀ D σ H, t' D σ H → t D σ H) : PS X e t' := ⟨fun pins s σ H D I hw => h.run pins s σ H D I (i _ _ _ hw)⟩
theorem PSs.imp {X : Cx} {e : List Stmt} {t t' : TS} (h : PSs X e t) (i : ∀ D σ H, t' D σ H → t D σ H) : PSs X e t' := ⟨fun pins s σ H D I hw => h.run pins s σ H D I (i _ _ _ hw)⟩
section
variable (K : PySem.W.Frag) (mg : Str → Option Value) (W : WX) (B : Fb)
/-- what is wanted at an end -/
def GF (m : List Addr) (D : Ends) (τ : L2.St) (H : Hp) : Fl → Prop
  | .nx => D.nx τ H
  | .bk => D.bk τ H
  | .ct => D.ct τ H
  | .ret s => ∀ v, RS K H (fb B m) m s v → D.rt v H
  | .exc x => ∀ cls d, RX K mg H (fb B m) cls d x → W cls d τ H
/-- what is wanted of a statement -/
def GO (m : List Addr) (H : Hp) (D : Ends) (r : O) : Prop := match r with
  | none => False
  | some (fl, σ', h') => ∀ τ' H' m', m <+: m' → (∀ a ∈ m', a ∈ m ∨ H a = none) → ExtM m H H' → Rl K H' B m' σ' h' τ' → GF K mg W B m' D τ' H' fl
end
def tS (K : PySem.W.Frag) (mg : Str → Option Value) (P : Pg) (W : WX) (s : CS) : TS := fun D τ H => ∃ B m σ h, Rl K H B m σ h τ ∧ GO K mg W B m H D (evS P s σ h)
def tSs (K : PySem.W.Frag) (mg : Str → Option Value) (P : Pg) (W : WX) (s : List CS) : TS := fun D τ H => ∃ B m σ h, Rl K H B m σ h τ ∧ GO K mg W B m H D (evSs P s σ h)
theorem ExtM.trans {m m1 : List Addr} {H H1 H2 : Hp} (x : ExtM m H H1) (n : ∀ a ∈ m1, a ∈ m ∨ H a = none) (y : ExtM m1 H1 H2) : ExtM m H H2 := by
  refine ⟨fun b z hb e => y.keep b z (fun q => ?_) (x.keep b z hb e), fun b xs e => y.tup b xs (x.tup b xs e), fun b o u e => y.frz b o u (x.frz b o u e)⟩
  rcases n b q with k | k
  · exact hb k
  · rw [k] at e; cases e
theorem ExtM.none {m : List Addr} {H H1 : Hp} (x : ExtM m H H1) {a : Addr} (e : H1 a = none) : a ∈ m ∨ H a = none := by
  by_cases h : a ∈ m
  · exact .inl h
  · cases q : H a with
    | none => exact .inr rfl
    | some z => rw [x.keep a z h q] at e; cases e
theorem new_trans {m m1 m2 : List Addr} {H H1 : Hp} (x : ExtM m H H1) (n : ∀ a ∈ m1, a ∈ m ∨ H a = none) (n2 : ∀ a ∈ m2, a ∈ m1 ∨ H1 a = none) : ∀ a ∈ m2, a ∈ m ∨ H a = none := fun a ha => by
  rcases n2 a ha with k | k
  · exact n a k
  · exact x.none k
section
variable {K : PySem.W.Frag} {mg : Str → Option Value} {W : WX} {B : Fb} {m m1 : List Addr} {D : Ends} {H H1 : Hp} {τ : L2.St} {σ : St} {h : OH}
theorem GO.go {r : O} (g : GO K mg W B m H D r) (p : m <+: m1) (n : ∀ a ∈ m1, a ∈ m ∨ H a = none) (x : ExtM m H H1) : GO K mg W B m1 H1 D r := by
  cases r with
  | none => exact g
  | some r =>
    obtain ⟨fl, σ', h'⟩ := r
    exact fun τ' H' m' p' n' x' R' => g τ' H' m' (p.trans p') (new_trans x n n') (x.trans n x') R'
theorem GO.later {r : O} (g : GO K mg W B m H D r) (s : Same H H1) : GO K mg W B m H1 D r := g.go (List.prefix_refl _) (fun _ h => .inl h) (.of s)
theorem GO.at {fl : Fl} (g : GO K mg W B m H D (some (fl, σ, h))) (R : Rl K H B m σ h τ) : GF K mg W B m D τ H fl := g τ H m (List.prefix_refl _) (fun _ h => .inl h) (.of Same.refl) R
theorem GO.seq {r : O} {k : St → OH → O} (g : GO K mg W B m H D (Ev.seq r k)) : GO K mg W B m H { D with nx := fun τ' H' => ∃ m' σ' h', Rl K H' B m' σ' h' τ' ∧ GO K mg W B m' H' D (k σ' h') } r := by
  cases r with
  | none => exact g
  | some r =>
    obtain ⟨fl, σ', h'⟩ := r
    cases fl with
    | nx => exact fun τ' H' m' p n x R => ⟨m', σ', h', R, GO.go (r := k σ' h') g p n x⟩
    | bk => exact g
    | ct => exact g
    | ret s => exact g
    | exc x => exact g
theorem GO.val {α β : Type} {rel : Hp → α → β → Prop} {r : R α} {k : α → O} (R : Rl K H B m σ h τ) (g : GO K mg W B m H D (Ev.val r σ h k)) :
    Gd K mg W B m τ rel H r (fun v H1 => ∃ p, Same H H1 ∧ rel H1 p v ∧ GO K mg W B m H1 D (k p)) := by
  cases r with
  | none => exact g
  | some r =>
    cases r with
    | ok a => exact fun v H1 s q => ⟨a, s, q, GO.later (r := k a) g s⟩
    | error x => exact fun cls d H1 s q => g τ H1 m (List.prefix_refl _) (fun _ h => .inl h) (.of s) (R.same s) cls d q
theorem GO.val' {α β : Type} {rel : Hp → α → β → Prop} {r : R α} {k : α → O} (R : Rl K H B m σ h τ) (g : GO K mg W B m H D (Ev.val r σ h k)) :
    Gd K mg W B m τ rel H r (fun v H1 => ∃ p, Same H H1 ∧ rel H1 p v ∧ GO K mg W B m H D (k p)) := by
  cases r with
  | none => exact g
  | some r =>
    cases r with
    | ok a => exact fun v H1 s q => ⟨a, s, q, g⟩
    | error x => exact fun cls d H1 s q => g τ H1 m (List.prefix_refl _) (fun _ h => .inl h) (.of s) (R.same s) cls d q
theorem GO.some {α : Type} {o : Option α} {k : α → Fl × St × OH} (g : GO K mg W B m H D (o.map k)) : ∃ a, o = some a ∧ GO K mg W B m H D (.some (k a)) := by
  cases o with
  | none => exact g.elim
  | some a => exact ⟨a, rfl, g⟩
theorem GO.bind {α : Type} {o : Option α} {k : α → O} (g : GO K mg W B m H D (o.bind k)) : ∃ a, o = .some a ∧ GO K mg W B m H D (k a) := by
  cases o with
  | none => exact g.elim
  | some a => exact ⟨a, rfl, g⟩
theorem GO.ite {c : Prop} [Decidable c] {r : O} (g : GO K mg W B m H D (if c then r else none)) : c ∧ GO K mg W B m H D r := by
  by_cases h : c
  · rw [if_pos h] at g; exact ⟨h, g⟩
  · rw [if_neg h] at g; exact g.elim
end

section
variable {X : Cx} {W : WX} {P : Pg} {st : Stmt} {rest : List Stmt} {s : CS} {ss : List CS} {pos px : Pos} {i : Nat} {x : Str} {e : Expr} {ce : CE}
theorem s_nil : PSs X [] (tSs X.K X.mg P W []) := by
  refine PSs.imp pss_nil fun D τ H ⟨B, m, σ, h, R, g⟩ => ?_
  simp only [evSs] at g
  exact g.at R
theorem s_cons (h1 : PS X st (tS X.K X.mg P W s)) (h2 : PSs X rest (tSs X.K X.mg P W ss)) : PSs X (st :: rest) (tSs X.K X.mg P W (s :: ss)) := by
  refine PSs.imp (pss_cons h1 h2) fun D τ H ⟨B, m, σ, h, R, g⟩ => ?_
  simp only [evSs] at g
  refine ⟨B, m, σ, h, R, ?_⟩
  have g' := g.seq
  -- the way on
  cases q : evS P s σ h with
  | none => rw [q] at g'; exact g'
  | some r =>
    rw [q] at g'
    obtain ⟨fl, σ', h'⟩ := r
    cases fl with
    | nx =>
      intro τ' H' m' p n x R'
      obtain ⟨m2, σ2, h2, R2, g2⟩ := g' τ' H' m' p n x R'
      exact ⟨B, m2, σ2, h2, R2, g2⟩
    | bk => exact g'
    | ct => exact g'
    | ret s => exact g'
    | exc x => exact g'
theorem s_pass : PS X (.Pass pos) (tS X.K X.mg P W .pass) := by
  refine PS.imp ps_pass fun D τ H ⟨B, m, σ, h, R, g⟩ => ?_
  simp only [evS] at g
  exact g.at R
theorem s_break : PS X (.Break pos) (tS X.K X.mg P W .brk) := by
  refine PS.imp ps_break fun D τ H ⟨B, m, σ, h, R, g⟩ => ?_
  simp only [evS] at g
  exact g.at R
theorem s_cont : PS X (.Continue pos) (tS X.K X.mg P W .cont) := by
  refine PS.imp ps_continue fun D τ H ⟨B, m, σ, h, R, g⟩ => ?_
  simp only [evS] at g
  exact g.at R
/-- the slot of a kept value -/
theorem RF.slot {K : PySem.W.Frag} {H : Hp} {B : Fb} {m : List Addr} {n : Nat} {p : PV} {v : V} (r : RF K H B m n p v) (h : n ≤ 1) : RS K H (fb B m) m (.d (decide (n = 1)) p) v := by
  by_cases z : n = 1
  · rw [show decide (n = 1) = true by simp [z]]
    exact r.bor h
  · rw [show decide (n = 1) = false by simp [z]]
    exact r.zero (by omega)
/-- name = e, by any rule of the layer -/
theorem s_asg0 {te : TE} (hs : PS X st (tAsg te (gName i))) (hi : ∀ τ H Q, tE X.K X.mg P W ce τ H Q → te τ H Q) : PS X st (tS X.K X.mg P W (.asg (.nm i) ce)) := by
  refine PS.imp hs fun D τ H ⟨B, m, σ, h, R, g⟩ => ?_
  simp only [evS] at g
  refine hi _ _ _ ⟨B, m, σ, h, R, Gd.imp (GO.val (rel := rF X.K B m (flg σ ce)) R g) fun v H1 ⟨p, s1, r1, g1⟩ => ?_⟩
  obtain ⟨c, g1⟩ := g1.ite
  exact g1.at ((R.same s1).put (RF.slot r1 c))
theorem s_new0 {te : TE} (hs : PS X st (tAsg te (gName i))) (hi : ∀ τ H Q, tEN X.K X.mg P W ce τ H Q → te τ H Q) : PS X st (tS X.K X.mg P W (.new i ce)) := by
  refine PS.imp hs fun D τ H ⟨B, m, σ, h, R, g⟩ => ?_
  simp only [evS] at g
  refine hi _ _ _ ⟨B, m, σ, h, R, Gd.imp (GO.val' (rel := rN X.K B m σ h τ H) R g) fun v H1 ⟨p, s1, r1, g1⟩ => ?_⟩
  obtain ⟨o, e, g1⟩ := g1.some
  obtain ⟨a, o', rfl, e', na, R1⟩ := r1
  rw [e] at e'; cases e'
  have hm : m.length = h.length := R.len
  refine GO.at (m := m ++ [a]) (g1.go (List.prefix_append _ _) (new_push na) (.of s1)) (R1.put ⟨a, ?_, rfl⟩)
  · rw [← hm, List.getElem?_append_right (Nat.le_refl _), Nat.sub_self]; rfl
/-- targets -/
theorem s_asgT {t : TN} {tg : Expr} (he : PE X e (tE X.K X.mg P W ce)) (hg : PG X tg (gT X.K t)) (ht : ∀ j, t ≠ .nm j) (hs : swapsWithSole [tg] e pos.line X.env = pure false) (hw : swappedStores [tg] e X.env = pure none)
    (h1 : (assignEach [tg] X.env).map (·.2) = [assign tg X.env]) : PS X (.Assign [tg] e pos) (tS X.K X.mg P W (.asg t ce)) := by
  refine PS.imp (ps_asg he hg hs hw h1) fun D τ H ⟨B, m, σ, h, R, g⟩ => ?_
  cases t with
  | nm j => exact absurd rfl (ht j)
  | tp ts =>
    simp only [evS] at g
    refine ⟨B, m, σ, h, R, Gd.imp (GO.val (rel := rF X.K B m (flg σ ce)) R g) fun v H1 ⟨p, s1, r1, g1⟩ => ?_⟩
    obtain ⟨c, g1⟩ := g1.ite
    obtain ⟨σ', e, g1⟩ := g1.some
    exact ⟨B, m, σ, h, p, σ', R.same s1, r1.zero c, e, fun τ' R' _ _ => g1.at R'⟩

/-! ### several arguments -/
section
variable (K : PySem.W.Frag) (mg : Str → Option Value) (W : WX) (B : Fb) (σ : St) (τ : L2.St)
def GP (m : List Addr) (H : Hp) (r : R (List SV × OH)) (Q : List V → Hp → Prop) : Prop := match r with
  | none => False
  | some (.ok p) => ∀ vs H' m', m <+: m' → (∀ a ∈ m', a ∈ m ∨ H a = none) → Same H H' → Rl K H' B m' σ p.2 τ → RSs K H' (fb B m') m' p.1 vs → Q vs H'
  | some (.error x) => ∀ cls d H', Same H H' → RX K mg H' (fb B m) cls d x → W cls d τ H'
end
def tP (K : PySem.W.Frag) (mg : Str → Option Value) (P : Pg) (W : WX) (ms : List AM) (es : List CE) : TA := fun τ H Q => ∃ B m σ h, Rl K H B m σ h τ ∧ GP K mg W B σ τ m H (evP P ms es σ h) Q
section
variable {K : PySem.W.Frag} {mg : Str → Option Value} {B : Fb} {m m1 : List Addr} {D : Ends} {H H1 : Hp} {τ : L2.St} {σ : St} {h : OH} {Q : List V → Hp → Prop}
theorem GP.go {r : R (List SV × OH)} (g : GP K mg W B σ τ m H r Q) (p : m <+: m1) (n : ∀ a ∈ m1, a ∈ m ∨ H a = none) (x : Same H H1) : GP K mg W B σ τ m1 H1 r Q := by
  cases r with
  | none => exact g
  | some r =>
    cases r with
    | ok r => exact fun vs H' m' p' n' x' R' => g vs H' m' (p.trans p') (new_trans (.of x) n n') (Same.trans' x x') R'
    | error z =>
      refine fun cls d H' s r => g cls d H' (Same.trans' x s) (r.weak fun b hb => ?_)
      rcases hb with hb | hb
      · exact .inl hb
      · exact .inr (p.subset hb)
theorem GP.val {α β : Type} {rel : Hp → α → β → Prop} {r : R α} {k : α → R (List SV × OH)} (g : GP K mg W B σ τ m H (Ev.bnd r k) Q) :
    Gd K mg W B m τ rel H r (fun v H1 => ∃ p, Same H H1 ∧ rel H1 p v ∧ GP K mg W B σ τ m H (k p) Q) := by
  cases r with
  | none => exact g
  | some r =>
    cases r with
    | ok a => exact fun v H1 s q => ⟨a, s, q, g⟩
    | error x => exact g
theorem GP.later {r : R (List SV × OH)} (g : GP K mg W B σ τ m H r Q) (s : Same H H1) : GP K mg W B σ τ m H1 r Q := g.go (List.prefix_refl _) (fun _ h => .inl h) s
theorem GP.cons {r : R (List SV × OH)} {s : SV} {v : V} (rs : RS K H (fb B m) m s v) (g : GP K mg W B σ τ m H (Ev.bnd r fun r => ok (s :: r.1, r.2)) Q) : GP K mg W B σ τ m H r (fun vs H' => Q (v :: vs) H') := by
  cases r with
  | none => exact g
  | some r =>
    cases r with
    | error x => exact g
    | ok p =>
      intro vs H' m' hp hn sm R rr
      refine g (v :: vs) H' m' hp hn sm R ⟨v, vs, rfl, ?_, rr⟩
      refine rs.mono (.of sm) (fun b hb => ?_) hn hp
      rcases hb with hb | hb
      · exact .inl (.inl hb)
      · rcases hn b hb with k | k
        · exact .inl (.inr k)
        · exact .inr k
theorem GP.ite {c : Prop} [Decidable c] {r : R (List SV × OH)} (g : GP K mg W B σ τ m H (if c then r else none) Q) : c ∧ GP K mg W B σ τ m H r Q := by
  by_cases h : c
  · rw [if_pos h] at g; exact ⟨h, g⟩
  · rw [if_neg h] at g; exact g.elim
theorem GP.wo {γ : Type} {o : Option γ} {k : γ → R (List SV × OH)} (g : GP K mg W B σ τ m H (withO o k) Q) : ∃ p, o = some p ∧ GP K mg W B σ τ m H (k p) Q := by
  cases o with
  | none => exact g.elim
  | some p => exact ⟨p, rfl, g⟩
end
variable {a : Expr} {es : List Expr} {ms : List AM} {ces : List CE} {ca : CE}
theorem p_nil : PA X [] (tP X.K X.mg P W [] []) := by
  refine PA.imp pa_nil fun τ H Q ⟨B, m, σ, h, R, g⟩ => ?_
  simp only [evP] at g
  exact g [] H m (List.prefix_refl _) (fun _ h => .inl h) Same.refl R rfl
theorem p_v (ha : PE X a (tE X.K X.mg P W ca)) (hr : PA X es (tP X.K X.mg P W ms ces)) (hn : notStar a = true) : PA X (a :: es) (tP X.K X.mg P W (.v :: ms) (ca :: ces)) := by
  refine PA.imp (pa_cons ha hr (star_no (env := X.env) (es := es) hn)) fun τ H Q ⟨B, m, σ, h, R, g⟩ => ?_
  simp only [evP] at g
  refine ⟨B, m, σ, h, R, Gd.imp (GP.val (rel := rF X.K B m (flg σ ca)) g) fun v H1 ⟨p, s1, r1, g1⟩ => ?_⟩
  obtain ⟨c, g1⟩ := g1.ite
  exact ⟨B, m, σ, h, R.same s1, (g1.later s1).cons (RF.slot r1 c)⟩
theorem p_n (ha : PE X a (tEN X.K X.mg P W ca)) (hr : PA X es (tP X.K X.mg P W ms ces)) (hn : notStar a = true) : PA X (a :: es) (tP X.K X.mg P W (.n :: ms) (ca :: ces)) := by
  refine PA.imp (pa_cons ha hr (star_no (env := X.env) (es := es) hn)) fun τ H Q ⟨B, m, σ, h, R, g⟩ => ?_
  simp only [evP] at g
  refine ⟨B, m, σ, h, R, Gd.imp (GP.val (rel := rN X.K B m σ h τ H) g) fun v H1 ⟨p, s1, r1, g1⟩ => ?_⟩
  obtain ⟨o, e, g1⟩ := g1.wo
  obtain ⟨b, o', rfl, e', na, R1⟩ := r1
  rw [e] at e'; cases e'
  have rs : RS X.K H1 (fb B (m ++ [b])) (m ++ [b]) (.r h.length) (.ref b) := ⟨b, by rw [← R.len, List.getElem?_append_right (Nat.le_refl _), Nat.sub_self]; rfl, rfl⟩
  exact ⟨B, m ++ [b], σ, h ++ [o], R1, GP.cons rs (g1.go (List.prefix_append _ _) (new_push na) s1)⟩
theorem slotR_eq {σ : St} {j n : Nat} (e : slotR σ j = some n) : σ[j]? = some (some (.r n)) := by
  unfold slotR at e
  split at e
  · rename_i k q; cases e; exact q
  · cases e
theorem p_o {j : Nat} (ha : PE X a (tVar j)) (hr : PA X es (tP X.K X.mg P W ms ces)) (hn : notStar a = true) : PA X (a :: es) (tP X.K X.mg P W (.o :: ms) (.loc j :: ces)) := by
  refine PA.imp (pa_cons ha hr (star_no (env := X.env) (es := es) hn)) fun τ H Q ⟨B, m, σ, h, R, g⟩ => ?_
  simp only [evP] at g
  obtain ⟨n, e, g1⟩ := g.wo
  obtain ⟨v, hv, rs⟩ := R.slot j _ (slotR_eq e)
  exact ⟨v, hv, B, m, σ, h, R, g1.cons rs⟩
end
end Ev

set_option Elab.async false
set_option linter.all false
set_option maxRecDepth 100000
/-! Ev13: statements by the evaluator. -/
namespace Ev
open PySem PySem.Spec PyProof.Rows L2
section
variable {K : PySem.W.Frag} {mg : Str → Option Value} {W : WX} {B : Fb} {m m1 : List Addr} {D : Ends} {H H1 : Hp} {τ : L2.St} {σ : St} {h : OH}
theorem RO.nt {a : Addr} {F : Fb} : ∀ {o : OO}, RO K H F a o → (∀ xs, H a ≠ some (.tup xs)) ∧ ∀ ob u, H a ≠ some (.frz ob u)
  | .l xs, r => by
    obtain ⟨vs, e, _⟩ := r
    exact ⟨fun xs q => (by rw [e] at q; cases q), fun ob u q => (by rw [e] at q; cases q)⟩
  | .d ks xs, r => by
    obtain ⟨vs, e, _⟩ := r
    exact ⟨fun xs q => (by rw [e] at q; cases q), fun ob u q => (by rw [e] at q; cases q)⟩
  | .ins _ _, r => r.elim
theorem nd_ix {N : List Addr} (hN : N.Nodup) {i j : Nat} {x : Addr} (a : N[i]? = some x) (b : N[j]? = some x) : i = j := by
  obtain ⟨k1, e1⟩ := List.getElem?_eq_some_iff.mp a
  obtain ⟨k2, e2⟩ := List.getElem?_eq_some_iff.mp b
  have := List.pairwise_iff_getElem.mp hN
  rcases Nat.lt_trichotomy i j with q | q | q
  · exact absurd (e1.trans e2.symm) (this i j k1 k2 q)
  · exact q
  · exact absurd (e2.trans e1.symm) (this j i k2 k1 q)
theorem Rh.objAt (R : Rh K H B m h) {n : Nat} {o : OO} (ho : h[n]? = some o) : ∃ a, m[n]? = some a ∧ RO K H (fb B m) a o := by
  have hn : n < m.length := by rw [R.len]; exact (List.getElem?_eq_some_iff.mp ho).1
  exact ⟨m[n], List.getElem?_eq_getElem hn, R.obj n _ o (List.getElem?_eq_getElem hn) ho⟩
theorem extM_upd {n : Nat} {a : Addr} {o : OO} {ho : HO} (ha : m[n]? = some a) (ro : RO K H (fb B m) a o) : ExtM m H (upd H a ho) := by
  obtain ⟨t1, t2⟩ := ro.nt
  refine ⟨fun b x hb e => ?_, fun b xs e => ?_, fun b ob u e => ?_⟩
  · rw [upd_ne (fun z => hb (by rw [z]; exact List.mem_of_getElem? ha))]; exact e
  · rw [upd_ne (fun z => t1 xs (by rw [← z]; exact e))]; exact e
  · rw [upd_ne (fun z => t2 ob u (by rw [← z]; exact e))]; exact e
/-- an own object is written -/
theorem Rl.write {n : Nat} {a : Addr} {o o' : OO} {ho : HO} (R : Rl K H B m σ h τ) (ha : m[n]? = some a) (hh : h[n]? = some o) (ro' : RO K (upd H a ho) (fb B m) a o') : Rl K (upd H a ho) B m σ (h.set n o') τ := by
  have ro := R.obj n a o ha hh
  have x : ExtM m H (upd H a ho) := extM_upd ha ro
  refine ⟨⟨fun b hb => ?_, R.ap, R.nd, by rw [List.length_set]; exact R.len, fun k b u h1 h2 => ?_⟩, R.sl, fun i t e => ?_⟩
  · have : b ≠ a := fun z => R.ap a (List.mem_of_getElem? ha) (by rw [← z]; exact hb)
    rw [upd_ne this]
    exact R.fok b hb
  · by_cases hk : n = k
    · subst hk
      rw [ha] at h1; cases h1
      rw [List.getElem?_set_self (List.getElem?_eq_some_iff.mp hh).1] at h2
      cases h2
      exact ro'
    · rw [List.getElem?_set_ne hk] at h2
      have nb : b ≠ a := fun z => by
        rw [z] at h1
        obtain ⟨k1, e1⟩ := List.getElem?_eq_some_iff.mp h1
        obtain ⟨k2, e2⟩ := List.getElem?_eq_some_iff.mp ha
        exact hk (nd_ix R.nd ha h1)
      exact (R.obj k b u h1 h2).mono x.ext .refl (upd_ne nb)
  · obtain ⟨v, e1, e2⟩ := R.slot i t e
    exact ⟨v, e1, e2.mono x .refl (fun a ha => .inl ha) (List.prefix_refl _)⟩
theorem wrote {n : Nat} {a : Addr} {o o' : OO} {ho : HO} (g : GO K mg W B m H D (some (Fl.nx, σ, h.set n o'))) (R : Rl K H B m σ h τ) (ha : m[n]? = some a) (hh : h[n]? = some o) (ro' : RO K (upd H a ho) (fb B m) a o') : D.nx τ (upd H a ho) :=
  g τ _ m (List.prefix_refl _) (fun _ h => .inl h) (extM_upd ha (R.obj n a o ha hh)) (R.write ha hh ro')
end
section
variable {X : Cx} {W : WX} {P : Pg} {st : Stmt} {rest : List Stmt} {s : CS} {ss : List CS} {pos px p2 : Pos} {i j : Nat} {x : Str} {e k : Expr} {ce ck : CE}
theorem s_expr (he : PE X e (tE X.K X.mg P W ce)) (hs : swapsWith e none pos.line X.env = pure false) : PS X (.Expr e pos) (tS X.K X.mg P W (.expr ce)) := by
  refine PS.imp (ps_expr he hs) fun D τ H ⟨B, m, σ, h, R, g⟩ => ?_
  simp only [evS] at g
  refine ⟨B, m, σ, h, R, Gd.imp (GO.val (rel := rF X.K B m (flg σ ce)) R g) fun v H1 ⟨p, s1, r1, g1⟩ => ?_⟩
  exact g1.at (R.same s1)
theorem s_doc {z : Str} {jj : Nat} : PS X (.Expr (.Constant (.str z) jj px) pos) (tS X.K X.mg P W .pass) := by
  refine PS.imp ps_doc fun D τ H ⟨B, m, σ, h, R, g⟩ => ?_
  simp only [evS] at g
  exact g.at R
theorem s_retN : PS X (.Return none pos) (tS X.K X.mg P W .retN) := by
  refine PS.imp ps_retN fun D τ H ⟨B, m, σ, h, R, g⟩ => ?_
  simp only [evS] at g
  exact g.at R _ rfl
def isLoc : CE → Bool
  | .loc _ => true
  | _ => false
theorem s_ret (he : PE X e (tE X.K X.mg P W ce)) (hl : isLoc ce = false) : PS X (.Return (some e) pos) (tS X.K X.mg P W (.ret ce)) := by
  refine PS.imp (ps_ret he) fun D τ H ⟨B, m, σ, h, R, g⟩ => ?_
  have g' : GO X.K X.mg W B m H D (val (ev P ce σ h) σ h fun p => if flg σ ce = 0 then some (.ret (.d false p), σ, h) else none) := by
    cases ce <;> first | (cases hl; done) | (simp only [evS] at g; exact g)
  refine ⟨B, m, σ, h, R, Gd.imp (GO.val (rel := rF X.K B m (flg σ ce)) R g') fun v H1 ⟨p, s1, r1, g1⟩ => ?_⟩
  obtain ⟨c, g1⟩ := g1.ite
  exact g1.at (R.same s1) _ (r1.zero c)
theorem s_retL (he : PE X e (tVar j)) : PS X (.Return (some e) pos) (tS X.K X.mg P W (.ret (.loc j))) := by
  refine PS.imp (ps_ret he) fun D τ H ⟨B, m, σ, h, R, g⟩ => ?_
  simp only [evS] at g
  cases q : slotR σ j with
  | some n =>
    rw [q] at g
    obtain ⟨v, hv, rs⟩ := R.slot j _ (slotR_eq q)
    exact ⟨v, hv, g.at R v rs⟩
  | none =>
    rw [q] at g
    have hE : PE X e (tE X.K X.mg P W (.loc j)) := s_loc he
    cases qs : σ[j]? with
    | none => simp only [ev, qs] at g; exact g.elim
    | some o =>
      cases o with
      | none => simp only [ev, qs] at g; exact g.elim
      | some sv =>
        cases sv with
        | r n => simp only [slotR, qs] at q; cases q
        | d kk p =>
          obtain ⟨v, hv, rs⟩ := R.slot j _ qs
          simp only [ev, qs, viewS, Option.map_some, val_ok] at g
          obtain ⟨c, g⟩ := g.ite
          refine ⟨v, hv, g.at R v ?_⟩
          cases kk with
          | false => exact rs
          | true => simp only [flg, qs] at c; cases c
theorem s_if {c : Expr} {a b : List Stmt} {cc : CE} {sa sb : List CS} (hc : PT X c (tT X.K X.mg P W cc)) (ha : PSs X a (tSs X.K X.mg P W sa)) (hb : PSs X b (tSs X.K X.mg P W sb)) : PS X (.If c a b pos) (tS X.K X.mg P W (.if_ cc sa sb)) := by
  refine PS.imp (ps_if hc ha hb) fun D τ H ⟨B, m, σ, h, R, g⟩ => ?_
  simp only [evS] at g
  refine ⟨B, m, σ, h, R, Gd.imp (GO.val (rel := rB) R g) fun v H1 ⟨p, s1, r1, g1⟩ => ?_⟩
  cases (show p = v from r1)
  cases v with
  | true => rw [if_pos rfl] at g1 ⊢; exact ⟨B, m, σ, h, R.same s1, g1⟩
  | false => rw [if_neg (by decide)] at g1 ⊢; exact ⟨B, m, σ, h, R.same s1, g1⟩
/-- i op= e, ints -/
def opS : Op → Option (Operator × (Int → Int → Int))
  | .add => some (.Add, fun i j => i + j)
  | .sub => some (.Sub, fun i j => i - j)
  | _ => none
theorem s_aug {o : Op} {op : Operator} {f : Int → Int → Int} (ho : opS o = some (op, f)) (hN : X.N.Nodup) (hi : X.N[i]? = some x) (hx : Sto X x) (he : PE X e (tE X.K X.mg P W ce)) : PS X (.AugAssign (.Name x px) op e pos) (tS X.K X.mg P W (.aug i o ce)) := by
  have hp : PIp X op (ipI f) := by
    cases o <;> first | (cases ho; exact ip_add) | (cases ho; exact ip_sub) | (cases ho; done)
  refine PS.imp (ps_aug hN hi hx.1 he hp hx.2) fun D τ H ⟨B, m, σ, h, R, g⟩ => ?_
  simp only [evS] at g
  cases qs : σ[i]? with
  | none => rw [qs] at g; exact g.elim
  | some oo =>
    cases oo with
    | none => rw [qs] at g; exact g.elim
    | some sv =>
      cases sv with
      | r n => rw [qs] at g; exact g.elim
      | d kk p =>
        rw [qs] at g
        obtain ⟨v, hv, rs⟩ := R.slot i _ qs
        refine ⟨v, hv, B, m, σ, h, R, Gd.imp (GO.val (rel := rF X.K B m (flg σ ce)) R g) fun w H1 ⟨q, s1, r1, g1⟩ => ?_⟩
        obtain ⟨n, e1, g1⟩ := g1.some
        have : ∃ a b, p = .int a ∧ q = .int b ∧ n = f a b := by
          cases o <;> first
            | (cases ho; done)
            | (cases ho
               cases p <;> cases q <;> first
                 | (cases e1; exact ⟨_, _, rfl, rfl, rfl⟩)
                 | (cases e1; done))
        obtain ⟨a, b, rfl, rfl, rfl⟩ := this
        have e2 : v = .int a := by
          cases kk with
          | false => exact rs
          | true => exact rs
        refine ⟨a, b, e2, r1.top.int, g1.at ((R.same s1).put ?_)⟩
        exact (rfl : V.int _ = V.int _)
/-! ### own objects are written -/
theorem few {es : List Expr} {env : Env} {pos : Pos} (h : es.all notStar = true) : (backTo pos (starEach es env)).all (fun x => !x.1) = true := by
  have := star_any0 (es := es) (env := env) (pos := pos) h
  rw [List.any_eq_false] at this
  rw [List.all_eq_true]
  intro x hx
  have := this x hx
  simpa using this
theorem slot_own {K : PySem.W.Frag} {H : Hp} {B : Fb} {m : List Addr} {σ : St} {h : OH} {τ : L2.St} {n : Nat} {o : OO} (R : Rl K H B m σ h τ) (q : slotR σ i = some n) (ho : h[n]? = some o) :
    ∃ a, τ[i]? = some (some (.ref a)) ∧ m[n]? = some a ∧ RO K H (fb B m) a o := by
  obtain ⟨v, hv, a, ha, rfl⟩ := R.slot i _ (slotR_eq q)
  exact ⟨a, hv, ha, R.obj n a o ha ho⟩
theorem s_app {oe : Expr} {apos cpos : Pos} (hv : PE X oe (tVar i)) (he : PE X e (tE X.K X.mg P W ce)) (hn : notStar e = true) (hb : attributeBase oe "append" X.env (eval oe X.env) = eval oe X.env) (hl : (apos.endLine == cpos.line) = true) :
    PS X (.Expr (.Call (.Attribute oe "append" apos) [e] [] cpos) pos) (tS X.K X.mg P W (.app i ce)) := by
  have hfew : ((backTo cpos (starEach [e] X.env)).all (fun x => !x.1) && (backToKw cpos (keywordEach [] X.env)).all (fun x => x.1.isSome) && decide ([e].length + ([] : List Keyword).length + (if ([] : List Keyword).isEmpty then 0 else 1) < 30)) = true := by
    rw [few (by simp [hn])]; rfl
  refine PS.imp (ps_expr (pe_bm PySem.F.plainAttrs_list PySem.F.slot_list_append PySem.F.type_list_append mt_append hv (pa_cons he pa_nil (star_no hn)) hb hfew hl (star_no hn) rfl) rfl) fun D τ H ⟨B, m, σ, h, R, g⟩ => ?_
  simp only [evS] at g
  cases q : slotR σ i with
  | none => rw [q] at g; exact g.elim
  | some n =>
    rw [q] at g
    cases qh : h[n]? with
    | none => simp only [qh] at g; exact g.elim
    | some o =>
      cases o with
      | l xs =>
        simp only [qh] at g
        obtain ⟨a, hv, ha, vs, e1, e2, e3⟩ := slot_own R q qh
        refine ⟨.ref a, hv, .inl ⟨rfl, vs, .inl (.inl e1)⟩, B, m, σ, h, R, Gd.imp (GO.val (rel := rF X.K B m (flg σ ce)) R g) fun w H1 ⟨p, s1, r1, g1⟩ => ?_⟩
        obtain ⟨⟨c1, c2⟩, g1⟩ := g1.ite
        have e1' := s1 _ _ e1
        have hlen : vs.length < sizeLine := by rw [← e3.length, ← big_eq]; exact c2
        refine ⟨a, vs, w, rfl, rfl, e1', hlen, ?_⟩
        have R1 := R.same s1
        refine wrote (o' := .l (xs ++ [p])) g1 R1 ha qh ⟨vs ++ [w], upd_same, by simp; omega, ?_⟩
        exact ((e3.same s1).append (RVs.one (r1.zero c1))).mono (extM_upd ha (R1.obj n a _ ha qh)).ext .refl
      | d ks vs => simp only [qh] at g; exact g.elim
      | ins c fs => simp only [qh] at g; exact g.elim
theorem s_ext {oe : Expr} {apos cpos : Pos} (hv : PE X oe (tVar i)) (he : PE X e (tE X.K X.mg P W ce)) (hn : notStar e = true) (hb : attributeBase oe "extend" X.env (eval oe X.env) = eval oe X.env) (hl : (apos.endLine == cpos.line) = true) :
    PS X (.Expr (.Call (.Attribute oe "extend" apos) [e] [] cpos) pos) (tS X.K X.mg P W (.ext i ce)) := by
  have hfew : ((backTo cpos (starEach [e] X.env)).all (fun x => !x.1) && (backToKw cpos (keywordEach [] X.env)).all (fun x => x.1.isSome) && decide ([e].length + ([] : List Keyword).length + (if ([] : List Keyword).isEmpty then 0 else 1) < 30)) = true := by
    rw [few (by simp [hn])]; rfl
  refine PS.imp (ps_expr (pe_bm PySem.F.plainAttrs_list PySem.F.slot_list_extend PySem.F.type_list_extend mt_extend hv (pa_cons he pa_nil (star_no hn)) hb hfew hl (star_no hn) rfl) rfl) fun D τ H ⟨B, m, σ, h, R, g⟩ => ?_
  simp only [evS] at g
  cases q : slotR σ i with
  | none => rw [q] at g; exact g.elim
  | some n =>
    rw [q] at g
    cases qh : h[n]? with
    | none => simp only [qh] at g; exact g.elim
    | some o =>
      cases o with
      | l xs =>
        simp only [qh] at g
        obtain ⟨a, hv, ha, vs, e1, e2, e3⟩ := slot_own R q qh
        refine ⟨.ref a, hv, .inl ⟨rfl, vs, .inl (.inl e1)⟩, B, m, σ, h, R, Gd.imp (GO.val (rel := rF X.K B m (flg σ ce)) R g) fun w H1 ⟨p, s1, r1, g1⟩ => ?_⟩
        obtain ⟨ys, e5, g2⟩ := g1.bind
        clear g1
        obtain ⟨⟨c1, c2⟩, g1⟩ := g2.ite
        clear g2
        have e1' := s1 _ _ e1
        cases p with
        | lst zs =>
          cases e5
          obtain ⟨b, ws, rfl, f1, f2, f3, f4⟩ := r1.zero c1
          have hlen : vs.length + ws.length ≤ sizeLine := by rw [← e3.length, ← f4.length, ← big_eq]; exact c2
          refine ⟨a, b, vs, ws, rfl, rfl, e1', f1, hlen, ?_⟩
          have R1 := R.same s1
          refine wrote (o' := .l (xs ++ ys)) g1 R1 ha qh ⟨vs ++ ws, upd_same, by simp; omega, ?_⟩
          exact ((e3.same s1).append f4).mono (extM_upd ha (R1.obj n a _ ha qh)).ext .refl
        | _ => simp only [listOf] at e5; cases e5
      | d ks vs => simp only [qh] at g; exact g.elim
      | ins c fs => simp only [qh] at g; exact g.elim
end
end Ev

set_option Elab.async false
set_option linter.all false
set_option maxRecDepth 100000
/-! Ev14: statements by the evaluator: items, several names, loops. -/
namespace Ev
open PySem PySem.Spec PyProof.Rows L2
theorem any_has (k : Key) : ∀ kvs : List (Key × V), (kvs.any fun kv => decide (kv.1 = k)) = hasK (kP k) (kvs.map fun z => kP z.1)
  | [] => rfl
  | z :: r => by
    show (decide (z.1 = k) || r.any fun kv => decide (kv.1 = k)) = (peq (kP z.1) (kP k) || hasK (kP k) (r.map fun z => kP z.1))
    rw [peq_kP, any_has k r]
theorem put_ks (k : Key) (v : V) (kvs : List (Key × V)) : putKs (kP k) (kvs.map fun z => kP z.1) = (putK kvs k v).map fun z => kP z.1 := by
  unfold putKs putK
  rw [any_has]
  split
  · rw [List.map_map]
    apply List.map_congr_left
    intro z _
    show kP z.1 = kP (if z.1 = k then (z.1, v) else z).1
    split <;> rfl
  · rw [List.map_append]; rfl
theorem put_vs {K : PySem.W.Frag} {H : Hp} {F : Fb} (k : Key) {v : V} {p : PV} (hp : RV K H F p v) : ∀ {kvs : List (Key × V)} {xs : List PV}, RVs K H F xs (kvs.map (·.2)) →
    RVs K H F (putVs (kP k) p (kvs.map fun z => kP z.1) xs) ((kvs.map (fun kv => if kv.1 = k then (kv.1, v) else kv)).map (·.2))
  | [], xs, h => by
    cases xs with
    | nil => exact h
    | cons _ _ => obtain ⟨_, _, e, _⟩ := h; cases e
  | z :: r, [], h => by cases (show (z :: r).map (·.2) = [] from h)
  | z :: r, x :: xs, h => by
    obtain ⟨w, r', ew, hw, hr⟩ := h
    have e1 : z.2 = w ∧ r.map (·.2) = r' := by simpa using ew
    obtain ⟨e1, e2⟩ := e1
    subst e1 e2
    simp only [List.map_cons, putVs, peq_kP]
    refine RVs.cons ?_ (put_vs k hp hr)
    by_cases ek : z.1 = k
    · rw [decide_eq_true ek, if_pos rfl, if_pos ek]; exact hp
    · rw [decide_eq_false ek, if_neg (by decide), if_neg ek]; exact hw
theorem put_vv {K : PySem.W.Frag} {H : Hp} {F : Fb} (k : Key) {v : V} {p : PV} (hp : RV K H F p v) {kvs : List (Key × V)} {xs : List PV} (h : RVs K H F xs (kvs.map (·.2))) :
    RVs K H F (putVv (kP k) p (kvs.map fun z => kP z.1) xs) ((putK kvs k v).map (·.2)) := by
  unfold putVv putK
  rw [any_has]
  split
  · exact put_vs k hp h
  · rw [List.map_append]
    exact h.append (RVs.one hp)
theorem length_put (kvs : List (Key × V)) (k : Key) (v : V) : (putK kvs k v).length ≤ kvs.length + 1 := by
  unfold putK
  split
  · rw [List.length_map]; omega
  · rw [List.length_append]; simp
section
variable {X : Cx} {W : WX} {P : Pg} {st : Stmt} {rest : List Stmt} {s : CS} {ss : List CS} {pos px p2 : Pos} {i j : Nat} {x : Str} {e k oe : Expr} {ce ck : CE}
def rSet : TSet := fun o i v H Q => rSetL o i v H Q ∨ ∃ a H', o = .ref a ∧ DPut H a i v H' ∧ Q H'
theorem set_any (hu : X.A.units + 1 < cLine) : PSet X rSet := by
  intro pins s σ H o i v ov iv u Q I ro ri rv h
  rcases h with h | ⟨a, H', rfl, g, q⟩
  · exact set_list pins s σ H o i v ov iv u Q I ro ri rv h
  · obtain rfl : ov = Value.ref a := ro
    exact d_setItem hu I g ri rv fun s' I' => ⟨H', I', q⟩
theorem s_seti (hu : X.A.units + 1 < cLine) (hv : PE X oe (tVar i)) (hk : PE X k (tE X.K X.mg P W ck)) (he : PE X e (tE X.K X.mg P W ce))
    (ha : ∀ v, assign (.Subscript oe k p2) X.env v = (do
      let ov ← holding [v] (eval oe X.env)
      let iv ← holding [v, ov] (eval k X.env)
      standAt p2
      holding [v, ov, iv] (PySem.setItem ov iv v)
      release [v, ov, iv] [])) (hs : swapsWithSole [.Subscript oe k p2] e pos.line X.env = pure false) :
    PS X (.Assign [.Subscript oe k p2] e pos) (tS X.K X.mg P W (.seti i ck ce)) := by
  have hw : swappedStores [.Subscript oe k p2] e X.env = pure none := by cases e <;> rfl
  refine PS.imp (ps_asg he (pg_sub hv hk (set_any hu) ha) hs hw rfl) fun D τ H ⟨B, m, σ, h, R, g⟩ => ?_
  simp only [evS] at g
  cases q : slotR σ i with
  | none => rw [q] at g; exact g.elim
  | some n =>
    rw [q] at g
    refine ⟨B, m, σ, h, R, Gd.imp (GO.val (rel := rF X.K B m (flg σ ce)) R g) fun v H1 ⟨p, s1, r1, g1⟩ => ?_⟩
    have R1 := R.same s1
    obtain ⟨ov, hov, a, ha, rfl⟩ := R1.slot i _ (slotR_eq q)
    refine ⟨.ref a, hov, B, m, σ, h, R1, Gd.imp (GO.val (rel := rF X.K B m (flg σ ck)) R1 g1) fun y H2 ⟨z, s2, r2, g2⟩ => ?_⟩
    have R2 := R1.same s2
    obtain ⟨c, g3⟩ := g2.ite
    obtain ⟨o', e1, g4⟩ := g3.some
    obtain ⟨o, qh, e2⟩ := Option.bind_eq_some_iff.mp e1
    have ro := R2.obj n a o ha qh
    have rp : RV X.K H2 (fb B m) p v := (RF.same s2 r1).zero c
    cases o with
    | l xs =>
      obtain ⟨vs, f1, f2, f3⟩ := ro
      cases z with
      | int jj =>
        simp only [Ev.setItem] at e2
        obtain ⟨ii, e3, e4⟩ := Option.map_eq_some_iff.mp e2
        subst e4
        refine .inl ⟨a, vs, jj, ii, rfl, r2.top.int, f1, by rw [← f3.length, ← ixN_eq]; exact e3, ?_⟩
        refine wrote (o' := .l (xs.set ii p)) g4 R2 ha qh ⟨vs.set ii v, upd_same, by rw [List.length_set]; exact f2, ?_⟩
        exact (f3.set ii rp).mono (extM_upd ha (R2.obj n a _ ha qh)).ext .refl
      | _ => simp only [Ev.setItem] at e2; cases e2
    | d ks xs =>
      obtain ⟨kvs, f1, f2, f3, f4⟩ := ro
      have e3 : keyOk z = true ∧ ks.length < big ∧ o' = .d (putKs z ks) (putVv z p ks xs) := by
        cases z <;> simp only [Ev.setItem] at e2 <;> (split at e2 <;> first | (cases e2; rename_i cc; exact ⟨cc.1, cc.2, rfl⟩) | (cases e2; done))
      obtain ⟨c1, c2, rfl⟩ := e3
      obtain ⟨kk, rfl⟩ := keyOk_kP c1
      cases kP_kV r2.top
      subst f3
      have hl : kvs.length < sizeLine := by rw [← big_eq]; simpa using c2
      refine .inr ⟨a, _, rfl, DPut.k f1 hl, ?_⟩
      refine wrote g4 R2 ha qh ⟨putK kvs kk v, upd_same, ?_, put_ks kk v kvs, ?_⟩
      · have := length_put kvs kk v; omega
      · exact (put_vv kk rp f4).mono (extM_upd ha (R2.obj n a _ ha qh)).ext .refl
    | ins c fs => exact ro.elim
/-! ### several names -/
theorem rss_two {K : PySem.W.Frag} {H : Hp} {F : Fb} {m : List Addr} {ss : List SV} {is : List Nat} {σ σ' : St} {vs : List V} {i j : Nat} (h : RSs K H F m ss vs) (e : storeS [i, j] ss σ = some σ') :
    ∃ a b v w, ss = [a, b] ∧ vs = [v, w] ∧ RS K H F m a v ∧ RS K H F m b w ∧ σ' = (σ.set i (some a)).set j (some b) := by
  match ss, h, e with
  | [], _, e => cases e
  | [_], _, e => cases e
  | [a, b], h, e =>
    obtain ⟨v, r, rfl, h1, w, r2, rfl, h2, h3⟩ := h
    cases (show r2 = [] from h3)
    cases e
    exact ⟨a, b, v, w, rfl, rfl, h1, h2, rfl⟩
  | _ :: _ :: _ :: _, _, e => cases e
theorem s_par2 {ms : List AM} {ces : List CE} (hs : PS X st (tPar i j (tP X.K X.mg P W ms ces))) : PS X st (tS X.K X.mg P W (.par [i, j] ms ces)) := by
  refine PS.imp hs fun D τ H ⟨B, m, σ, h, R, g⟩ => ?_
  simp only [evS] at g
  refine ⟨B, m, σ, h, R, ?_⟩
  cases q : evP P ms ces σ h with
  | none => rw [q] at g; exact g
  | some r =>
    rw [q] at g
    cases r with
    | error z => exact fun cls d H1 s1 rx => g τ H1 m (List.prefix_refl _) (fun _ h => .inl h) (.of s1) (R.same s1) cls d rx
    | ok r =>
      intro vs H1 m1 hp hn s1 R1 rr
      simp only [val_ok] at g
      obtain ⟨σ', e, g1⟩ := g.some
      obtain ⟨a, b, v, w, _, rfl, ra, rb, rfl⟩ := rss_two (is := []) rr e
      exact ⟨v, w, rfl, GO.at (g1.go hp hn (.of s1)) ((R1.put ra).put rb)⟩
theorem rss_three {K : PySem.W.Frag} {H : Hp} {F : Fb} {m : List Addr} {ss : List SV} {σ σ' : St} {vs : List V} {i j l : Nat} (h : RSs K H F m ss vs) (e : storeS [i, j, l] ss σ = some σ') :
    ∃ a b c v w u, ss = [a, b, c] ∧ vs = [v, w, u] ∧ RS K H F m a v ∧ RS K H F m b w ∧ RS K H F m c u ∧ σ' = ((σ.set i (some a)).set j (some b)).set l (some c) := by
  match ss, h, e with
  | [], _, e => cases e
  | [_], _, e => cases e
  | [_, _], _, e => cases e
  | [a, b, c], h, e =>
    obtain ⟨v, r, rfl, h1, w, r2, rfl, h2, u, r3, rfl, h3, h4⟩ := h
    cases (show r3 = [] from h4)
    cases e
    exact ⟨a, b, c, v, w, u, rfl, rfl, h1, h2, h3, rfl⟩
  | _ :: _ :: _ :: _ :: _, _, e => cases e
theorem s_par3 {l : Nat} {ms : List AM} {ces : List CE} (hs : PS X st (tPar3 i j l (tP X.K X.mg P W ms ces))) : PS X st (tS X.K X.mg P W (.par [i, j, l] ms ces)) := by
  refine PS.imp hs fun D τ H ⟨B, m, σ, h, R, g⟩ => ?_
  simp only [evS] at g
  refine ⟨B, m, σ, h, R, ?_⟩
  cases q : evP P ms ces σ h with
  | none => rw [q] at g; exact g
  | some r =>
    rw [q] at g
    cases r with
    | error z => exact fun cls d H1 s1 rx => g τ H1 m (List.prefix_refl _) (fun _ h => .inl h) (.of s1) (R.same s1) cls d rx
    | ok r =>
      intro vs H1 m1 hp hn s1 R1 rr
      simp only [val_ok] at g
      obtain ⟨σ', e, g1⟩ := g.some
      obtain ⟨a, b, c, v, w, u, _, rfl, ra, rb, rc, rfl⟩ := rss_three rr e
      exact ⟨v, w, u, rfl, GO.at (g1.go hp hn (.of s1)) (((R1.put ra).put rb).put rc)⟩
end
end Ev

set_option Elab.async false
set_option linter.all false
set_option maxRecDepth 100000
/-! Ev15: loops, exceptions, calls that change own objects. -/
namespace Ev
open PySem PySem.Spec PyProof.Rows L2
theorem evS_for {P : Pg} {t : TN} {ci : CE} {sb : List CS} {σ : St} {h : OH} : evS P (.for_ t ci sb) σ h = val (evI P ci σ h) σ h fun xs => if flgI σ ci ≤ 1 then forL (evSs P sb) t xs σ h else none := by
  simp only [evS, evI]
  cases ev P ci σ h with
  | none => rfl
  | some r =>
    cases r with
    | error x => rfl
    | ok p => simp only [val_ok, bnd_ok]; cases itemsOf p <;> rfl
def kkA (σ : St) (i : Nat) (s : SV) (h' : OH) : O := match s with
  | .d false p => some (.nx, σ.set i (some (.d false p)), h')
  | .r n => some (.nx, σ.set i (some (.r n)), h')
  | _ => none
theorem evS_callA {P : Pg} {i : Nat} {f : Str} {ms : List AM} {ces : List CE} {σ : St} {h : OH} : evS P (.callS (some i) f ms ces) σ h = val (evP P ms ces σ h) σ h fun r => match P.fn f r.1 r.2 with | some (.ok (s, h')) => kkA σ i s h' | some (.error _) => none | none => none := by
  simp only [evS]
  congr 1
  funext r
  cases P.fn f r.1 r.2 with
  | none => rfl
  | some q =>
    cases q with
    | error x => rfl
    | ok sh =>
      obtain ⟨s, h'⟩ := sh
      cases s with
      | d b p => cases b <;> rfl
      | r n => rfl
section
variable {X : Cx} {W : WX} {P : Pg} {st : Stmt} {rest body suite : List Stmt} {s : CS} {ss sb sh : List CS} {pos px p2 pos' np : Pos} {i j : Nat} {x : Str} {e k oe tg iter c : Expr} {ce ck ci cc : CE} {t : TN}
theorem s_for (hp : PassesOwn (model X.prog X.w) X.A X.env X.xe) (hc : X.calm = true) (hi : PI X tg iter (tI X.K X.mg P W ci)) (hg : PG X tg (gT X.K t)) (hb : PSs X body (tSs X.K X.mg P W sb))
    (hs : ∀ x, foldedSetIterable iter X.env x = pure x) : PS X (.For tg iter body [] pos) (tS X.K X.mg P W (.for_ t ci sb)) := by
  refine PS.imp (ps_for hp hc hi hg hb hs) fun D τ H ⟨B, m, σ, h, R, g⟩ => ?_
  rw [evS_for] at g
  refine ⟨B, m, σ, h, R, Gd.imp (GO.val (rel := rI_ X.K B m (flgI σ ci)) (r := evI P ci σ h) R g) fun J H1 ⟨xs, s1, ⟨src, hz, hY, hS, hm⟩, g1⟩ => ?_⟩
  obtain ⟨cf, g1⟩ := g1.ite
  have hm := hm cf
  refine ⟨fun i mm τ' H2 => mm = xs.length - i ∧ i ≤ xs.length ∧ ∃ m' σ' h', m <+: m' ∧ (∀ a ∈ m', a ∈ m ∨ H1 a = none) ∧ ExtM m H1 H2 ∧ Rl X.K H2 B m' σ' h' τ' ∧ GO X.K X.mg W B m' H2 D (forL (evSs P sb) t (xs.drop i) σ' h'),
    ⟨xs.length, by simp, Nat.zero_le _, m, σ, h, List.prefix_refl _, fun _ h => .inl h, .of Same.refl, R.same s1, g1⟩, ?_⟩
  rintro i mm τ' H2 ⟨em, hil, m', σ', h', hpre, hnew, hx, R2, g2⟩
  have gr : Grows H1 (fb B m) (fb B m') := fun b hb => by
    rcases hb with hb | hb
    · exact .inl (.inl hb)
    · rcases hnew b hb with k | k
      · exact .inl (.inr k)
      · exact .inr k
  have hY2 := hY H2 i (fb B m') hx.ext gr fun z hz => hx.keep _ _ (hm z hz) (hS z hz)
  by_cases hlt : i < xs.length
  · have ex : xs[i]? = some xs[i] := List.getElem?_eq_getElem hlt
    have ed : xs.drop i = xs[i] :: xs.drop (i + 1) := List.drop_eq_getElem_cons hlt
    rw [ed] at g2
    unfold forL at g2
    obtain ⟨hgo, hy⟩ := hY2.1 _ ex
    cases qb : bindT t xs[i] σ' with
    | none => rw [qb] at g2; exact g2.elim
    | some σ1 =>
      rw [qb] at g2
      dsimp only at g2
      refine .inr ⟨hgo, fun τ4 H4 => ∃ m4 σ4 h4, m <+: m4 ∧ (∀ a ∈ m4, a ∈ m ∨ H1 a = none) ∧ ExtM m H1 H4 ∧ Rl X.K H4 B m4 σ4 h4 τ4 ∧ GO X.K X.mg W B m4 H4 D (forL (evSs P sb) t (xs.drop (i + 1)) σ4 h4),
        fun τ4 H4 ⟨m4, σ4, h4, q1, q2, q3, q4, q5⟩ => ⟨mm - 1, by omega, by omega, by omega, m4, σ4, h4, q1, q2, q3, q4, q5⟩, fun v H3 hv => ?_⟩
      obtain ⟨s3, rv⟩ := hy v H3 hv
      refine ⟨B, m', σ', h', xs[i], σ1, R2.same s3, rv, qb, fun τ3 R3 _ _ => ⟨B, m', σ1, h', R3, ?_⟩⟩
      have x3 : ExtM m H1 H3 := hx.trans hnew (.of s3)
      cases qf : evSs P sb σ1 h' with
      | none => rw [qf] at g2; exact g2.elim
      | some r =>
        rw [qf] at g2
        obtain ⟨fl, σ5, h5⟩ := r
        cases fl with
        | nx =>
          intro τ4 H4 m4 p4 n4 x4 R4
          have g3 : GO X.K X.mg W B m' H3 D (forL (evSs P sb) t (xs.drop (i + 1)) σ5 h5) := GO.later g2 s3
          exact ⟨m4, σ5, h5, hpre.trans p4, new_trans x3 hnew n4, x3.trans hnew x4, R4, g3.go p4 n4 x4⟩
        | ct =>
          intro τ4 H4 m4 p4 n4 x4 R4
          have g3 : GO X.K X.mg W B m' H3 D (forL (evSs P sb) t (xs.drop (i + 1)) σ5 h5) := GO.later g2 s3
          exact ⟨m4, σ5, h5, hpre.trans p4, new_trans x3 hnew n4, x3.trans hnew x4, R4, g3.go p4 n4 x4⟩
        | bk =>
          have g3 : GO X.K X.mg W B m' H3 D (some (.nx, σ5, h5)) := GO.later g2 s3
          exact g3
        | ret s =>
          have g3 : GO X.K X.mg W B m' H3 D (some (.ret s, σ5, h5)) := GO.later g2 s3
          exact g3
        | exc x =>
          have g3 : GO X.K X.mg W B m' H3 D (some (.exc x, σ5, h5)) := GO.later g2 s3
          exact g3
  · have ei : i = xs.length := by omega
    subst ei
    refine .inl ⟨hY2.2 (Nat.le_refl _), ?_⟩
    rw [List.drop_length] at g2
    exact GO.at (fl := .nx) g2 R2
theorem s_while {n : Nat} (hp : PassesOwn (model X.prog X.w) X.A X.env X.xe) (hc : PT X c (tT X.K X.mg P W cc)) (hb : PSs X body (tSs X.K X.mg P W sb)) : PS X (.While c body [] pos) (tS X.K X.mg P W (.while_ n cc sb)) := by
  refine PS.imp (ps_while hp hc hb) fun D τ H ⟨B, m, σ, h, R, g⟩ => ?_
  simp only [evS] at g
  refine ⟨fun k τ' H' => ∃ m' σ' h', Rl X.K H' B m' σ' h' τ' ∧ GO X.K X.mg W B m' H' D (whileL (evT P cc) (evSs P sb) k σ' h'), ⟨n, m, σ, h, R, g⟩, ?_⟩
  rintro k τ' H' ⟨m', σ', h', R', g'⟩
  cases k with
  | zero => exact g'.elim
  | succ k =>
    unfold whileL at g'
    refine ⟨B, m', σ', h', R', Gd.imp (GO.val (rel := rB) R' g') fun v H1 ⟨p, s1, r1, g1⟩ => ?_⟩
    cases (show p = v from r1)
    cases v with
    | false => rw [if_neg (by decide)] at g1 ⊢; exact g1.at (R'.same s1)
    | true =>
      rw [if_pos rfl] at g1 ⊢
      refine ⟨fun τ4 H4 => ∃ m4 σ4 h4, Rl X.K H4 B m4 σ4 h4 τ4 ∧ GO X.K X.mg W B m4 H4 D (whileL (evT P cc) (evSs P sb) k σ4 h4), fun τ4 H4 q => ⟨k, by omega, q⟩, B, m', σ', h', R'.same s1, ?_⟩
      cases qf : evSs P sb σ' h' with
      | none => rw [qf] at g1; exact g1.elim
      | some r =>
        rw [qf] at g1
        obtain ⟨fl, σ5, h5⟩ := r
        cases fl with
        | nx => exact fun τ4 H4 m4 p4 n4 x4 R4 => ⟨m4, σ5, h5, R4, GO.go (r := whileL (evT P cc) (evSs P sb) k σ5 h5) g1 p4 n4 x4⟩
        | ct => exact fun τ4 H4 m4 p4 n4 x4 R4 => ⟨m4, σ5, h5, R4, GO.go (r := whileL (evT P cc) (evSs P sb) k σ5 h5) g1 p4 n4 x4⟩
        | bk => exact g1
        | ret s => exact g1
        | exc x => exact g1
theorem s_raise {cn : Str} {cls : Value} (hc : X.calm = true) (tk : Takes X W) (he : PMk X e (fun _ H Q => Q cls none H)) (hm : X.mg cn = some cls) : PS X (.Raise (some e) none pos) (tS X.K X.mg P W (.raise_ cn)) := by
  refine PS.imp (ps_raise hc tk he) fun D τ H ⟨B, m, σ, h, R, g⟩ => ?_
  simp only [evS] at g
  exact g.at R cls none ⟨hm, rfl⟩
theorem s_try {cv : Value} {b₀ : Stmt} (hs : X.stack = X.env :: X.outer) (hf : X.env.frame = some X.env.locals) (hc : Names X x cv) (tk : Takes X W)
    (hsub : ∀ y b cls, P.esub y x = some b → X.mg y = some cls → PySem.W.exmOne X.K cls cv = some b)
    (hb : ∀ (W : WX) (pn : List (Addr × Obj)) (xe : Value → Shared → Prop), Takes (X.tr pn xe) W → PassesOwn (model X.prog X.w) X.A X.env xe → PSs (X.tr pn xe) body (tSs X.K X.mg P W sb))
    (hsu : ∀ (a : Addr) (oe : Obj) (cls : Value) (d : Option Addr) (pn : List (Addr × Obj)), Zc cls d oe → (∃ vs, oe.data = .fields vs) → PSs (X.suite a ((a, oe) :: pn)) (b₀ :: suite) (tSs X.K X.mg P W0 sh)) :
    PS X (.Try body [.ExceptHandler (some (.Name x np)) none (b₀ :: suite) pos'] [] [] pos) (tS X.K X.mg P W (.try_ sb x sh)) := by
  refine PS.imp (ps_try_only (ts := fun _ _ _ => tSs X.K X.mg P W0 sh) hs hf hc tk hb hsu) fun D τ H ⟨B, m, σ, h, R, g⟩ => ?_
  simp only [evS] at g
  refine ⟨B, m, σ, h, R, ?_⟩
  cases qf : evSs P sb σ h with
  | none => rw [qf] at g; exact g.elim
  | some r =>
    rw [qf] at g
    obtain ⟨fl, σ5, h5⟩ := r
    cases fl with
    | nx => exact g
    | ct => exact g
    | bk => exact g
    | ret s => exact g
    | exc ex =>
      dsimp only at g
      intro τ4 H4 m4 p4 n4 x4 R4 cls d rx
      cases qe : P.esub ex.cls x with
      | none => rw [qe] at g; exact g.elim
      | some b =>
        rw [qe] at g
        refine ⟨b, hsub _ _ _ qe rx.1, fun hb1 a ha => ?_, fun hb0 => ?_⟩
        · subst hb1
          have g4 : GO X.K X.mg W B m4 H4 D (noExc (evSs P sh σ5 h5)) := GO.go g p4 n4 x4
          refine ⟨B, m4, σ5, h5, R4, ?_⟩
          cases qh : evSs P sh σ5 h5 with
          | none => rw [qh] at g4; exact g4
          | some r =>
            rw [qh] at g4
            obtain ⟨fl, σ6, h6⟩ := r
            cases fl with
            | exc y => exact g4.elim
            | nx => exact g4
            | ct => exact g4
            | bk => exact g4
            | ret s => exact g4
        · subst hb0
          have g4 : GO X.K X.mg W B m4 H4 D (some (.exc ex, σ5, h5)) := GO.go g p4 n4 x4
          exact g4.at R4 cls d rx
/-! ### calls that change own objects -/
theorem RSs.length {K : PySem.W.Frag} {H : Hp} {F : Fb} {m : List Addr} : ∀ {ss : List SV} {vs : List V}, RSs K H F m ss vs → ss.length = vs.length
  | [], _, h => by cases (show _ = [] from h); rfl
  | s :: ss, _, h => by
    obtain ⟨v, r, rfl, _, q⟩ := h
    rw [List.length_cons, List.length_cons, RSs.length q]
theorem Rl.rh {K : PySem.W.Frag} {H H' : Hp} {B : Fb} {m m' : List Addr} {σ : St} {h h' : OH} {τ : L2.St} (R : Rl K H B m σ h τ) (x : ExtM m H H') (p : m <+: m') (n : ∀ a ∈ m', a ∈ m ∨ H a = none) (r : Rh K H' B m' h') : Rl K H' B m' σ h' τ := by
  refine ⟨r, R.sl, fun i t e => ?_⟩
  obtain ⟨v, e1, e2⟩ := R.slot i t e
  refine ⟨v, e1, e2.mono x (fun b hb => ?_) n p⟩
  rcases hb with hb | hb
  · exact .inl (.inl hb)
  · rcases n b hb with k | k
    · exact .inl (.inr k)
    · exact .inr k
variable {es : List Expr} {a : Expr} {ms : List AM} {ces : List CE}
/-- the call as the layer reads it -/
def tCallF (X : Cx) (P : Pg) (W : WX) (f : Str) (n : Nat) (ms : List AM) (ces : List CE) : TE := tCallSD (spD X.K X.mg n (P.fn f)) [] (WE W) (tP X.K X.mg P W ms ces)
theorem callF_read {f : Str} {n : Nat} {τ : L2.St} {H : Hp} {Q : VK} {D : Ends} {B : Fb} {m : List Addr} {σ : St} {h : OH} {kk : SV → OH → O} (hl : ∀ as h, P.fn f as h ≠ none → as.length = n)
    (R : Rl X.K H B m σ h τ) (g : GO X.K X.mg W B m H D (val (evP P ms ces σ h) σ h fun r => match P.fn f r.1 r.2 with | some (.ok (s, h')) => kk s h' | some (.error _) => none | none => none))
    (hq : ∀ s h' v H' m', m <+: m' → (∀ a ∈ m', a ∈ m ∨ H a = none) → ExtM m H H' → Rl X.K H' B m' σ h' τ → RS X.K H' (fb B m') m' s v → GO X.K X.mg W B m' H' D (kk s h') → Q v H') : tCallF X P W f n ms ces τ H Q := by
  refine ⟨B, m, σ, h, R, ?_⟩
  cases q : evP P ms ces σ h with
  | none => rw [q] at g; exact g
  | some r =>
    rw [q] at g
    cases r with
    | error z => exact fun cls d H1 s1 rx => g τ H1 m (List.prefix_refl _) (fun _ h => .inl h) (.of s1) (R.same s1) cls d rx
    | ok r =>
      intro vs H1 m1 hp hn s1 R1 rr
      simp only [val_ok] at g
      rw [List.append_nil]
      cases qf : P.fn f r.1 r.2 with
      | none => rw [qf] at g; exact g.elim
      | some rf =>
        rw [qf] at g
        cases rf with
        | error z => exact g.elim
        | ok sh =>
          obtain ⟨s, h'⟩ := sh
          refine ⟨?_, B, m1, r.1, r.2, R1.toRh, rr, ?_⟩
          · rw [← RSs.length rr]; exact hl r.1 r.2 (by rw [qf]; exact fun z => nomatch z)
          · rw [qf]
            intro v H' m' hp2 hn2 x2 rh rs
            have g1 : GO X.K X.mg W B m1 H1 D (kk s h') := GO.go g hp hn (.of s1)
            exact hq s h' v H' m' (hp.trans hp2) (new_trans (.of s1) hn hn2) ((ExtM.of s1).trans hn x2) (R1.rh x2 hp2 hn2 rh) rs (g1.go hp2 hn2 x2)
theorem s_callN {f : Str} {n : Nat} (hl : ∀ as h, P.fn f as h ≠ none → as.length = n) (hs : PS X st (tDrop (tCallF X P W f n ms ces))) : PS X st (tS X.K X.mg P W (.callS none f ms ces)) := by
  refine PS.imp hs fun D τ H ⟨B, m, σ, h, R, g⟩ => ?_
  simp only [evS] at g
  refine callF_read (kk := fun s h' => some (.nx, σ, h')) hl R ?_ fun s h' v H' m' _ _ _ R' _ g' => g'.at R'
  exact g
theorem s_callA {f : Str} {n : Nat} (hl : ∀ as h, P.fn f as h ≠ none → as.length = n) (hs : PS X st (tAsg (tCallF X P W f n ms ces) (gName i))) : PS X st (tS X.K X.mg P W (.callS (some i) f ms ces)) := by
  refine PS.imp hs fun D τ H ⟨B, m, σ, h, R, g⟩ => ?_
  refine callF_read (D := D) (kk := kkA σ i) hl R (by rw [evS_callA] at g; exact g) fun s h' v H' m' _ _ _ R' rs g' => ?_
  cases s with
  | d b p =>
    cases b with
    | false => exact GO.at (fl := .nx) g' (R'.put rs)
    | true => exact g'.elim
  | r n => exact GO.at (fl := .nx) g' (R'.put rs)
theorem pe_callF {lv : Nat} {f : Str} (F : FnF X P lv f) (rm : Room lv X.A) (tk : Takes X W) (hg : Gl X f) (hd : (f == ("__debug__" : Str)) = false) (ha : PA X (a :: es) (tP X.K X.mg P W ms ces)) (hn : (a :: es).all notStar = true) :
    ∃ n, (∀ as h, P.fn f as h ≠ none → as.length = n) ∧ PE X (.Call (.Name f px) (a :: es) [] pos) (tCallF X P W f n ms ces) := by
  obtain ⟨fa, fd, ps, k, hk, hF, hm, kp, hb, hln⟩ := F.ex
  rw [List.all_cons, Bool.and_eq_true] at hn
  exact ⟨ps.length, hln, pe_callSD hF (rm.mono hk) hg hm kp hb (dvs := []) .nil (fun σ => L2.passAt tk σ) ha hd (star_no hn.1) (star_any0 hn.2)⟩
end
end Ev

set_option Elab.async false
set_option linter.all false
set_option maxRecDepth 100000
/-! Ev16: min of rows, sorted(set(..)), count. -/
namespace Ev
open PySem PySem.Spec PyProof.Rows L2
theorem ltL_lt : ∀ xs ys : List Int, ltL xs ys = decide (xs < ys)
  | [], [] => by simp [ltL]
  | [], y :: ys => by simp [ltL]
  | x :: xs, [] => by simp [ltL]
  | x :: xs, y :: ys => by
    unfold ltL
    by_cases e : x = y
    · subst e
      rw [if_pos rfl, ltL_lt xs ys]
      simp [List.cons_lt_cons_iff]
    · rw [if_neg e]
      simp [List.cons_lt_cons_iff, e]
theorem dataLt_L (xs ys : List Int) : PySem.W.dataLt (.tuple (xs.map .int)) (.tuple (ys.map .int)) = ltL xs ys := by
  rw [ltL_lt, ← PySem.W.dataLt_ints xs ys, PySem.W.dataLt_tuple]
  rfl
theorem minD_L : ∀ (r : List (List Int)) (x : List Int), PySem.W.minD (.tuple (x.map .int)) (r.map fun z => .tuple (z.map .int)) = .tuple ((r.foldl (fun a b => if ltL b a then b else a) x).map .int)
  | [], x => rfl
  | y :: r, x => by
    show PySem.W.minD (if PySem.W.dataLt (.tuple (y.map .int)) (.tuple (x.map .int)) then .tuple (y.map .int) else .tuple (x.map .int)) (r.map fun z => .tuple (z.map .int)) = _
    rw [dataLt_L]
    rw [List.foldl_cons]
    cases ltL y x with
    | true => exact minD_L r y
    | false => exact minD_L r x
theorem asInts_dats : ∀ {xs : List PV} {ns : List Int}, asInts xs = some ns → dats xs = ns.map .int ∧ xs = ns.map .int ∧ areData xs = true
  | [], ns, e => by cases e; exact ⟨rfl, rfl, rfl⟩
  | .int i :: r, ns, e => by
    simp only [asInts] at e
    obtain ⟨ns', e1, rfl⟩ := Option.map_eq_some_iff.mp e
    obtain ⟨h1, h2, h3⟩ := asInts_dats e1
    exact ⟨by simp only [dats, dat, h1, List.map_cons], by rw [List.map_cons, ← h2], by simp only [areData, isData, h3, Bool.and_self]⟩
  | .non :: r, ns, e => by simp only [asInts] at e; cases e
  | .bl _ :: r, ns, e => by simp only [asInts] at e; cases e
  | .str _ :: r, ns, e => by simp only [asInts] at e; cases e
  | .tup _ :: r, ns, e => by simp only [asInts] at e; cases e
  | .lst _ :: r, ns, e => by simp only [asInts] at e; cases e
  | .dct _ _ :: r, ns, e => by simp only [asInts] at e; cases e
  | .ins _ _ :: r, ns, e => by simp only [asInts] at e; cases e
  | .ty _ :: r, ns, e => by simp only [asInts] at e; cases e
  | .cl _ :: r, ns, e => by simp only [asInts] at e; cases e
theorem asIntss_dats : ∀ {xs : List PV} {ns : List (List Int)}, asIntss xs = some ns → dats xs = ns.map (fun z => .tuple (z.map .int)) ∧ xs = ns.map (fun z => .tup (z.map .int)) ∧ areData xs = true
  | [], ns, e => by cases e; exact ⟨rfl, rfl, rfl⟩
  | .tup ys :: r, ns, e => by
    simp only [asIntss] at e
    obtain ⟨y, e1, e2⟩ := Option.bind_eq_some_iff.mp e
    obtain ⟨ns', e3, rfl⟩ := Option.map_eq_some_iff.mp e2
    obtain ⟨h1, h2, h3⟩ := asIntss_dats e3
    obtain ⟨g1, g2, g3⟩ := asInts_dats e1
    exact ⟨by simp only [dats, dat, h1, g1, List.map_cons], by rw [List.map_cons, ← h2, ← g2], by simp only [areData, isData, g3, h3, Bool.and_self]⟩
  | .non :: r, ns, e => by simp only [asIntss] at e; cases e
  | .bl _ :: r, ns, e => by simp only [asIntss] at e; cases e
  | .str _ :: r, ns, e => by simp only [asIntss] at e; cases e
  | .int _ :: r, ns, e => by simp only [asIntss] at e; cases e
  | .lst _ :: r, ns, e => by simp only [asIntss] at e; cases e
  | .dct _ _ :: r, ns, e => by simp only [asIntss] at e; cases e
  | .ins _ _ :: r, ns, e => by simp only [asIntss] at e; cases e
  | .ty _ :: r, ns, e => by simp only [asIntss] at e; cases e
  | .cl _ :: r, ns, e => by simp only [asIntss] at e; cases e
theorem alike_ints : ∀ (x y : List Int), PySem.W.alikeAll (x.map .int) (y.map .int) = true
  | [], _ => by simp [PySem.W.alikeAll]
  | _ :: _, [] => by simp [PySem.W.alikeAll]
  | x :: xs, y :: ys => by simp [PySem.W.alikeAll, PySem.W.alike, alike_ints xs ys]
theorem depth_ints : ∀ x : List Int, PyData.depthAll (x.map .int) = 0
  | [] => rfl
  | x :: xs => by simp [PyData.depthAll, PyData.depth, depth_ints xs]
theorem depth_rows : ∀ x : List (List Int), PyData.depthAll (x.map fun z => .tuple (z.map .int)) ≤ 1
  | [] => by simp [PyData.depthAll]
  | x :: xs => by
    have := depth_rows xs
    simp only [List.map_cons, PyData.depthAll, PyData.depth, depth_ints]
    omega
theorem lay_ints : ∀ x : List Int, PyData.canLayAll0 (x.map .int) = true
  | [] => rfl
  | x :: xs => by simp [PyData.canLayAll0, PyData.canLay0, lay_ints xs]
section
variable {X : Cx}
theorem cr_min1 (hc : X.calm = true) (hu : X.A.units + 65 < cLine) : CallR X (.builtin "min") (rBi X.K .min) := by
  intro pins s σ H xs us Q I r ⟨B, m, h, p, v, z, ex, R, hp, e, k⟩
  subst ex
  cases p with
  | lst ps =>
    obtain ⟨a, vs, rfl, ha, hz, rr⟩ := hp.lst
    simp only [bi1] at e
    cases q : asIntss ps with
    | none => rw [q] at e; cases e
    | some ns =>
      rw [q] at e
      obtain ⟨mn, e3, rfl⟩ := Option.map_eq_some_iff.mp e
      obtain ⟨d1, d2, d3⟩ := asIntss_dats q
      obtain ⟨u, rfl, ru⟩ := r.one
      cases ru
      obtain ⟨its, rv, pl, hlen⟩ := I.list ha
      obtain ⟨as, hra⟩ := Dp.readsAll I (dats ps) _ its (rr.dp d3) rv
      cases ns with
      | nil => cases e3
      | cons n0 nr =>
        have em : mn = nr.foldl (fun a b => if ltL b a then b else a) n0 := by
          simp only [minL, Option.some.injEq] at e3; exact e3.symm
        rw [d1, List.map_cons] at hra
        have hal : PySem.W.AlikeAll (.tuple (n0.map .int) :: nr.map fun z => .tuple (z.map .int)) := by
          have key : ∀ x ∈ (PyData.tuple (n0.map .int) :: nr.map fun z => PyData.tuple (z.map .int)), ∃ z : List Int, x = .tuple (z.map .int) := by
            intro x hx
            rcases List.mem_cons.mp hx with hx | hx
            · exact ⟨n0, hx⟩
            · obtain ⟨z, _, rfl⟩ := List.mem_map.mp hx
              exact ⟨z, rfl⟩
          refine ⟨fun x hx y hy => ?_, fun x hx e => ?_⟩
          · obtain ⟨z, rfl⟩ := key x hx
            obtain ⟨z', rfl⟩ := key y hy
            simp [PySem.W.alike, alike_ints]
          · obtain ⟨z, rfl⟩ := key x hx
            cases e
        have hdep := depth_rows (n0 :: nr)
        rw [List.map_cons] at hdep
        refine PySem.W.min_list_data (I.ok.hd hc) pl.isList (by simpa using hra) hal (by omega) fun i w h' tk bs hi hrd hk => ?_
        rw [minD_L, ← em] at hrd
        have I2 : Inv X pins σ H { s with heap := h', toks := tk } := I.kept hk
        have hw : its[i]? = some w := by simpa using hi
        obtain ⟨hil, _⟩ := List.getElem?_eq_some_iff.mp hw
        have hvl := rv.length
        have hiv : i < vs.length := by omega
        have hgv : vs[i]? = some vs[i] := List.getElem?_eq_getElem hiv
        obtain ⟨pi, hpi, rpi⟩ := rr.getV hgv
        obtain ⟨w', hw', rel⟩ := Vals.get rv hgv
        rw [hw] at hw'; cases hw'
        have hpz : ∃ zz : List Int, pi = .tup (zz.map .int) := by
          rw [d2] at hpi
          have := List.mem_of_getElem? hpi
          obtain ⟨zz, _, ezz⟩ := List.mem_map.mp this
          exact ⟨zz, ezz.symm⟩
        obtain ⟨zz, rfl⟩ := hpz
        have hdat : dat (.tup (zz.map .int)) = .tuple (zz.map .int) := by
          simp only [dat]
          have : asInts (zz.map PV.int) = some zz := by
            clear rpi hpi
            induction zz with
            | nil => rfl
            | cons a b ih => simp only [List.map_cons, asInts, ih, Option.map_some]
          rw [(asInts_dats this).1]
        have hdd : isData (.tup (zz.map .int)) = true := by
          have : asInts (zz.map PV.int) = some zz := by
            clear rpi hpi hdat
            induction zz with
            | nil => rfl
            | cons a b ih => simp only [List.map_cons, asInts, ih, Option.map_some]
          simp only [isData, (asInts_dats this).2.2]
        obtain ⟨cs, hrd2⟩ := Dp.reads I2 _ _ _ (RV.dp hdd rpi) rel
        rw [hdat] at hrd2
        have eq1 := SeqAt.readsAll_map [.tuple (mn.map .int)] [w] (bs ++ []) (by simp [PyData.canLayAll0, PyData.canLay0, lay_ints]) (.cons hrd .nil)
        have eq2 := SeqAt.readsAll_map [.tuple (zz.map .int)] [w] (cs ++ []) (by simp [PyData.canLayAll0, PyData.canLay0, lay_ints]) (.cons hrd2 .nil)
        have eq3 : (PyData.tuple (mn.map .int)) = .tuple (zz.map .int) := by
          have := eq1.symm.trans eq2
          simpa using this
        have eq4 : mn = zz := by
          injection eq3 with eq3
          exact (List.map_inj_right (fun a b e => by injection e)).mp eq3
        subst eq4
        exact ⟨vs[i], H, I2, rel, k _ _ Same.refl rpi⟩
  | _ => simp only [bi1] at e; cases e
end

/-! ### sorted(set(l)) of a list of ints -/
section
variable {P : Program} {w : World} {A : Around} {E : Value → Shared → Prop} {s : Shared}
/-- the empty set as it is made -/
abbrev eSet (w : World) : Obj := { cls := .type "set", dict := none, data := .set #[] 0 (.fresh 0 0 (!w.params.followText "set-order")) }
set_option maxHeartbeats 3200000 in
/-- set(l), as the layer's set -/
theorem call_set_lstR {l : Addr} {items : Array Value} (ns : List Int) {Q : Value → Shared → Prop} (hh : A.handled = none) (hl : s.heap.IsList l items) (hit : IntsAre items.toList ns) (hb : ns.length + 1 < scanBound)
    (h : ∀ (h' : Heap) (tk c : Nat), SetR w h' s.heap.objs.size (fun j => decide (j ∈ ns)) c → c ≤ ns.length → (∀ b o, s.heap.get? b = some o → h'.get? b = some o) → Q (.ref s.heap.objs.size) { s with heap := h', toks := tk }) :
    wpAny (model P w) A (call (.type "set") [.ref l]) Q E s := by
  have hsz : items.size = ns.length := by
    have q := IntsAre.length hit
    rwa [Array.length_toList] at q
  obtain ⟨c, tl, hmro⟩ := F.called_set.mro
  have hmade := F.called_set.made
  have hsub := F.called_set.sub
  refine wpAny_call (codeAny_of_tree ?_)
  show wpAny _ _ (callAny (.type "set") _) _ _ _
  refine wpAny_pure ⟨Code.quiet_builtin _ (by decide +kernel), codeAny_builtin F.entry_type_call ?_⟩
  rw [Around.under_plain (weight_type_call_type "set" [.ref l] []) rfl]
  have h1 := F.called_set.notType
  have h2 := F.called_set.canCreate
  have hct := F.typeCall_set_1 (.ref l)
  repeat (any_goals (first | assumption | wp_step))
  refine codeAny_mono (code_set_led1 (.ref l) (E := E) (Q₁ := fun obj s₁ => obj = .ref s.heap.objs.size ∧ s₁ = { s with heap := s.heap.push (eSet w) }) ⟨rfl, rfl⟩) fun r s₁ hr => ?_
  cases r with
  | error e => exact hr
  | ok fl =>
    cases fl with
    | ret obj =>
      obtain ⟨rfl, rfl⟩ := hr
      have hS : (s.heap.push (eSet w)).get? s.heap.objs.size = some (eSet w) := Heap.get?_push_size _ rfl
      have hT : Shared.TypeIs { s with heap := s.heap.push (eSet w) } (.ref s.heap.objs.size) "set" := ⟨_, hS, rfl⟩
      have hli := F.called_set.init.lookup
      have hbi := F.called_set.init.bind (.ref s.heap.objs.size)
      repeat (any_goals (first | assumption | wp_step))
      refine codeAny_mono (codeAny_call_builtin (R := wants (fun r s₂ => r = .none ∧ ∃ h' tk c, s₂ = { s with heap := h', toks := tk } ∧ SetR w h' s.heap.objs.size (fun j => decide (j ∈ ns)) c ∧ c ≤ ns.length ∧
          (∀ b o, s.heap.get? b = some o → h'.get? b = some o)) E) F.called_set.init.plain F.entry_set_init (check_set_init_1 hT ?_)) fun r₂ s₂ hr₂ => ?_
      · obtain ⟨⟨ocls, odict, odata, oslots⟩, hol, hcl, nl, hdl⟩ := hl
        simp only at hcl hdl
        subst hcl; subst hdl
        have hol' : (s.heap.push (eSet w)).get? l = some { cls := .type "list", dict := odict, data := .seq items nl, slots := oslots } := Heap.get?_push_of_some _ hol
        have hsls := F.sub_list_set
        have hslf := F.sub_list_frozenset
        have hne : (Value.type "list" == Value.type "dict") = false := by decide
        have hl1 : (s.heap.push (eSet w)).IsList l items := ⟨_, hol', rfl, nl, rfl⟩
        unfold Builtin.«set.__init__» noKeywords Builtin.Frozenset.updateFrom
        generalize hPI : pyIter = PI
        wp_walk
        subst hPI
        refine wpAny_pyIter_list hl1 ?_
        refine wpAny_bind (wpAny_runValue ?_)
        have hlS : l < s.heap.objs.size := Heap.lt_size hol
        have hz1 : (s.heap.push (eSet w)).objs.size = s.heap.objs.size + 1 := Heap.size_push ..
        have hneI : l ≠ (s.heap.push (eSet w)).objs.size := by rw [hz1]; exact Nat.ne_of_lt (Nat.lt_succ_of_lt hlS)
        have hSf : s.heap.objs.size ∉ [(s.heap.push (eSet w)).objs.size, l] := by
          rw [hz1]
          intro q
          simp only [List.mem_cons, List.not_mem_nil, or_false] at q
          rcases q with q | q
          · exact absurd q (Nat.ne_of_lt (Nat.lt_succ_self _))
          · exact absurd q (Nat.ne_of_gt hlS)
        have hval : ∀ (i : Nat) (v : Value), items[i]? = some v → ∃ k t, ns[i]? = some k ∧ v = .int k t := fun i v hv => by
          have hi : i < ns.length := by rw [← hsz]; exact (Array.getElem?_eq_some_iff.mp hv).1
          obtain ⟨t, e⟩ := PyProof.Rows.IntsAre.int_at hit i v (by rw [Array.getElem?_toList]; exact hv)
          refine ⟨ns[i], t, List.getElem?_eq_getElem hi, ?_⟩
          rw [e, List.getD_eq_getElem?_getD, List.getElem?_eq_getElem hi] <;> rfl
        refine set_update_ints ((Walks.list (by simp [hh]) _ l hneI items).toS) s.heap.objs.size hSf ns hsz hb hval (items.size - 0) 0 _ (by omega) (Nat.zero_le _)
          ⟨⟨_, Heap.get?_push_size _ rfl, rfl, rfl⟩, (hl1.push _)⟩ ⟨0, Nat.le_refl 0, setR_new_at (Heap.get?_push_of_some _ hS)⟩ fun s' c' hm hc' hS' => ?_
        obtain ⟨h', g2, d', tk', os'⟩ := s'
        have eg : g2 = s.gens := hm.gens
        have ed : d' = s.drawn := hm.drawn
        have eo : os' = s.os := hm.os
        subst eg; subst ed; subst eo
        show wpAny _ _ _ _ _ _
        refine wpAny_pure ?_
        show wpAny _ _ (ret Value.none) _ _ _
        rw [hsz] at hc'
        refine wpAny_pure ⟨rfl, h', tk', c', rfl, hS', hc', fun b o e => ?_⟩
        have hb0 : b < s.heap.objs.size := Heap.lt_size e
        refine hm.heap b o (fun q => ?_) (Heap.get?_push_of_some _ (Heap.get?_push_of_some _ e))
        rw [hz1] at q
        simp only [List.mem_cons, List.not_mem_nil, or_false] at q
        rcases q with q | q
        · exact absurd q (Nat.ne_of_lt hb0)
        · exact absurd q (Nat.ne_of_lt (Nat.lt_succ_of_lt hb0))
      · cases r₂ with
        | error e => exact hr₂
        | ok fl₂ =>
          cases fl₂ with
          | ret r =>
            obtain ⟨rfl, h', tk, c', rfl, hS', hc', hk'⟩ := hr₂
            repeat (any_goals (first | assumption | wp_step))
            exact h _ _ _ hS' hc' hk'
          | _ => exact hr₂.elim
    | _ => exact hr.elim
end
theorem mem_nub (k : Int) : ∀ l : List Int, k ∈ nubI l ↔ k ∈ l
  | [] => Iff.rfl
  | x :: r => by
    unfold nubI
    split
    · rename_i h
      rw [mem_nub k r, List.mem_cons]
      exact ⟨.inr, fun q => q.elim (fun e => e ▸ h) id⟩
    · rw [List.mem_cons, List.mem_cons, mem_nub k r]
theorem nodup_nub : ∀ l : List Int, (nubI l).Nodup
  | [] => List.nodup_nil
  | x :: r => by
    unfold nubI
    split
    · exact nodup_nub r
    · rename_i h
      exact List.nodup_cons.mpr ⟨fun q => h ((mem_nub x r).mp q), nodup_nub r⟩
theorem sset_unique {ns ns' : List Int} (h1 : ns'.Pairwise (· < ·)) (h2 : ∀ k, k ∈ ns' ↔ k ∈ ns) : ns' = sortI (nubI ns) := by
  refine sorted_unique ?_ (h1.imp fun q => Int.le_of_lt q) (sortI_sorted _)
  refine List.Perm.trans ?_ (sortI_perm _).symm
  refine (List.perm_ext_iff_of_nodup (h1.imp fun q => Int.ne_of_lt q) (nodup_nub ns)).mpr fun k => ?_
  rw [h2, mem_nub]
section
variable {X : Cx} {W : WX} {P : Pg} {a b : Expr} {ca cb : CE} {pos p p2 q apos cpos : Pos}
def tSset (K : PySem.W.Frag) (ta : TE) : TE := fun σ H Q => ta σ H fun x H1 => ∃ (l : Addr) (ns : List Int), x = .ref l ∧ SqL K H1 l (ns.map V.int) ∧ ns.length < 64 ∧ ∀ t, H1 t = none → Q (.ref t) (upd H1 t (.lst ((sortI (nubI ns)).map V.int)))
theorem pe_sset {ta : TE} (hc : X.calm = true) (hg : Gl X "sorted") (hm : X.mg "sorted" = none) (hg2 : Gl X "set") (hm2 : X.mg "set" = none) (ha : PE X a ta) (na : notStar a = true) :
    PE X (.Call (.Name "sorted" p) [.Call (.Name "set" p2) [a] [] q] [] pos) (tSset X.K ta) := by
  have na' : starEach [a] X.env = (false, eval a X.env) :: starEach [] X.env := star_no na
  refine ⟨fun pins s σ H Q I h => ?_⟩
  refine Call_ (ld_blt I hg hm (show bootBuiltins "sorted" = some (.builtin "sorted") by decide +kernel) ?_)
  refine PyProof.Rows.callWith_builtin1 (PyProof.Rows.args_cons ?_ rfl) rfl rfl
  refine Call_ (ld_blt I hg2 hm2 boot_set ?_)
  refine PyProof.Rows.callWith_type1 (PyProof.Rows.args_cons (thn (ha.run pins s σ H _ I h) fun v s1 ⟨x, H1, I1, r1, q1⟩ => PyProof.Rows.args_nil ?_) na') na' rfl
  obtain ⟨l, ns, rfl, hq, hl, q1⟩ := q1
  cases r1
  obtain ⟨its, r, pl, hz⟩ := I1.list hq
  have hd := I1.ok.hd hc
  refine call_set_lstR ns hd pl.isList (by simpa using RZ.intsAre_vals r) (by unfold scanBound; omega) fun h' tk c hS hcn hk => ?_
  refine PyProof.Rows.args_nil ?_
  have I2 : Inv X pins σ H1 { s1 with heap := h', toks := tk } := I1.kept hk
  refine sorted_set (s := { s1 with heap := h', toks := tk }) hS hd (by omega) fun s' t out cc ns' k1 g1 o1 ht ho hi hlt hmem hnl => ?_
  have en : ns' = sortI (nubI ns) := sset_unique hlt fun k => by rw [hmem k, decide_eq_true_eq]
  subst en
  have hlen : ((sortI (nubI ns)).map V.int).length ≤ sizeLine := by rw [List.length_map, hnl, sizeLine_eq]; omega
  have hn : H1 t = none := I2.hok.fresh ht
  have J : Inv X pins σ (upd H1 t (.lst ((sortI (nubI ns)).map V.int))) { ({ s1 with heap := h', toks := tk } : Shared) with heap := s'.heap, gens := s'.gens, drawn := s'.drawn, toks := s'.toks } :=
    I2.call (ch := []) (Un.laid k1 ht hn) (I2.hok.laid k1 ht ⟨hlen, out.toList, cc, vals_of_ints hi, ho⟩) (by rw [g1]; exact I2.bare) (fun _ z => nomatch z)
  have e : s' = { ({ s1 with heap := h', toks := tk } : Shared) with heap := s'.heap, gens := s'.gens, drawn := s'.drawn, toks := s'.toks } := by
    cases s'
    cases s1
    cases o1
    rfl
  rw [e]
  exact ⟨.ref t, _, J, rfl, q1 t hn⟩
theorem s_sset (hc : X.calm = true) (hg : Gl X "sorted") (hm : X.mg "sorted" = none) (hg2 : Gl X "set") (hm2 : X.mg "set" = none) (ha : PE X a (tE X.K X.mg P W ca)) (na : notStar a = true) (hs : isStarE ca = false) :
    PE X (.Call (.Name "sorted" p) [.Call (.Name "set" p2) [a] [] q] [] pos) (tE X.K X.mg P W (.bi .sset [ca])) := by
  refine PE.imp (pe_sset hc hg hm hg2 hm2 ha na) fun τ H Q ⟨B, m, σ, h, R, g⟩ => ?_
  have e0 : ev P (.bi .sset [ca]) σ h = bnd (ev P ca σ h) fun x => (bi1 .sset x).map .ok := by
    simp only [ev]
    rw [evs_cons hs]
    simp only [evs]
    cases ev P ca σ h with
    | none => rfl
    | some r =>
      cases r with
      | error x => rfl
      | ok v => rfl
  rw [e0] at g
  refine ⟨B, m, σ, h, R, Gd.imp (Gd.bnd (rel := rF X.K B m (flg σ ca)) g) fun v H1 ⟨pv, s1, r1, g1⟩ => ?_⟩
  obtain ⟨z, e, g2⟩ := Gd.some g1
  cases pv with
  | lst xs =>
    obtain ⟨l, vs, rfl, ha, hz, rr⟩ := r1.top.lst
    simp only [bi1] at e
    obtain ⟨ns, e1, e2⟩ := Option.bind_eq_some_iff.mp e
    split at e2
    · rename_i c
      cases e2
      have ev := asInts_map rr e1
      subst ev
      refine ⟨l, ns, rfl, ha, c, fun t nt => Gd.new g2 (same_upd nt) (RF.of (RV.newLst (R.toRh.same s1) nt ?_ (RVs.ints _)))⟩
      rw [List.length_map, (sortI_perm _).length_eq]
      have : (nubI ns).length ≤ ns.length := by
        clear e1 rr ha e c g2 g1 hz r1
        induction ns with
        | nil => exact Nat.le_refl _
        | cons x r ih =>
          unfold nubI
          split
          · simp; omega
          · simp; omega
      rw [sizeLine_eq]
      omega
    · cases e2
  | _ => simp only [bi1] at e; cases e
theorem s_min (hc : X.calm = true) (hu : X.A.units + 65 < cLine) (hg : Gl X "min") (hm : X.mg "min" = none) (ha : PA X [a] (tAs X.K X.mg P W [ca])) (hn : notStar a = true) (hs : isStarE ca = false) :
    PE X (.Call (.Name "min" p) [a] [] pos) (tE X.K X.mg P W (.bi .min [ca])) := by
  have he : starEach [a] X.env = (false, eval a X.env) :: starEach [] X.env := star_no hn
  refine PE.imp (pe_callB (cr_min1 hc hu) hg hm (by decide +kernel) ha (by decide) (by decide) he rfl) fun τ H Q ⟨B, m, σ, h, R, g⟩ => ?_
  simp only [ev] at g
  refine ⟨B, m, σ, h, R, Gd.imp (Gd.bnd (rel := rA X.K B m σ [ca]) g) fun vs H1 ⟨ps, s1, r1, g1⟩ => ?_⟩
  obtain ⟨q, v, rfl, rfl, r2⟩ := RAs.one hs r1
  obtain ⟨z, e, g2⟩ := Gd.some g1
  exact ⟨B, m, h, q, v, z, rfl, R.toRh.same s1, r2.top, e, fun v H3 s3 hv => Gd.new g2 s3 (RF.of hv)⟩
theorem s_cnt (hb : attributeBase a "count" X.env (eval a X.env) = eval a X.env) (hl : (apos.endLine == cpos.line) = true) (ha : PE X a (tE X.K X.mg P W ca)) (he : PE X b (tE X.K X.mg P W cb)) (hn : notStar b = true) :
    PE X (.Call (.Attribute a "count" apos) [b] [] cpos) (tE X.K X.mg P W (.cnt ca cb)) := by
  have hfew : ((backTo cpos (starEach [b] X.env)).all (fun x => !x.1) && (backToKw cpos (keywordEach [] X.env)).all (fun x => x.1.isSome) && decide ([b].length + ([] : List Keyword).length + (if ([] : List Keyword).isEmpty then 0 else 1) < 30)) = true := by
    rw [few (by simp [hn])]; rfl
  refine PE.imp (pe_bm PySem.F.plainAttrs_list PySem.F.slot_list_count PySem.F.type_list_count mt_lcount ha (pa_cons he pa_nil (star_no hn)) hb hfew hl (star_no hn) rfl) fun τ H Q ⟨B, m, σ, h, R, g⟩ => ?_
  simp only [ev] at g
  refine ⟨B, m, σ, h, R, Gd.imp (Gd.bnd (rel := rF X.K B m (flg σ ca)) g) fun v H1 ⟨pv, s1, r1, g1⟩ => ?_⟩
  obtain ⟨ys, ey, g1⟩ := Gd.wo g1
  cases pv with
  | lst xs =>
    cases ey
    obtain ⟨l, vs, rfl, hq, hz, rr⟩ := r1.top.lst
    refine ⟨.inl ⟨rfl, vs, hq⟩, B, m, σ, h, R.same s1, Gd.imp (Gd.bnd (rel := rF X.K B m (flg σ cb)) g1) fun w H2 ⟨y, s2, r2, g2⟩ => ?_⟩
    obtain ⟨z, e, g3⟩ := Gd.some g2
    unfold cntOf at e
    split at e
    · rename_i ns k e1 
      cases e
      have ev := asInts_map rr e1
      subst ev
      refine ⟨l, ns, k, rfl, by rw [r2.top.int], ?_, Gd.ok g3 (RF.of rfl)⟩
      rcases hq with hq | hq
      · exact .inl (Rd.same s2 hq)
      · exact .inr hq
    · cases e
  | _ => simp only [listOf] at ey; cases ey
end
end Ev

set_option Elab.async false
set_option linter.all false
set_option maxRecDepth 100000
set_option maxHeartbeats 4000000
/-! Ev17: the evaluator's expressions against the program's text. -/
namespace Ev
open PySem PySem.Spec PyProof.Rows L2
structure Cxt (X : Cx) (N : List Str) (sc fs : Scope) (W : WX) (P : Pg) (lv : Nat) (fns : List Str) : Prop where
  hN : X.N = N
  nd : N.Nodup
  scp : X.env.scope = sc
  cal : X.calm = true
  rm : Room lv X.A
  tk : Takes X W
  fnl : ∀ x, fs.names.lookup x = some .cell → X.fn x = true
  blt : ∀ x ∈ bltNames, X.mg x = none
  fnf : ∀ f ∈ fns, FnF X P lv f
theorem Cxt.u65 {X : Cx} {N : List Str} {sc fs : Scope} {W : WX} {P : Pg} {lv : Nat} {fns : List Str} (c : Cxt X N sc fs W P lv fns) : X.A.units + 65 < cLine := by
  have := c.rm.un
  omega
theorem Cxt.blk {X : Cx} {N : List Str} {sc fs : Scope} {W : WX} {P : Pg} {lv : Nat} {fns : List Str} (c : Cxt X N sc fs W P lv fns) (scope : Scope) (s : Shared) (H : Hp) (C : Addr) (cl : List (Str × Addr)) (fp : List Addr) :
    Cxt (X.blk s H scope (compEnvC scope cl C X.env) fp) N (relS scope sc) scope W0 P lv fns where
  hN := c.hN
  nd := c.nd
  scp := by rw [← c.scp]; rfl
  cal := c.cal
  rm := c.rm
  tk := fun u s' ⟨a, B, sI, pins, σ, H, cls, d, e, I, nb, up, sky, na, os, ag, w⟩ => w.elim
  fnl := fun x h => by
    show (scope.names.lookup x == some .cell) = true
    rw [h]; rfl
  blt := c.blt
  fnf := fun f hf => ⟨(c.fnf f hf).ex⟩
def okN (x : Str) : Bool := !(x == ("__debug__" : Str)) && !(x == ("__classdict__" : Str))
def visB (sc : Scope) (x : Str) : Bool := match sc.names.lookup x with
  | some .local | some .cell | some .free => true
  | _ => false
def glB (sc : Scope) (x : Str) : Bool := match sc.names.lookup x with
  | some .globalImplicit => true
  | _ => false
def stoB (sc fs : Scope) (x : Str) : Bool := match sc.names.lookup x with
  | some .local => true
  | some .cell => (match fs.names.lookup x with | some .cell => true | _ => false)
  | _ => false
def notSlice : Expr → Bool
  | .Slice .. => false
  | _ => true
def notSet : Expr → Bool
  | .Set .. => false
  | _ => true
def isTup : Expr → Bool
  | .Tuple .. => true
  | _ => false
/-- tests that are told by their value's truth -/
def plainT : Expr → Bool
  | .UnaryOp .Not _ _ | .BoolOp .. | .IfExp .. | .Compare .. => false
  | _ => true
def ownOf (N : List Str) (is : List Nat) : List (Str × Nat) := is.map fun i => (N.getD i "", i)
def tkNs : List Tk → Option (List String)
  | [] => some []
  | .b n :: r => (tkNs r).map (n :: ·)
  | _ => none
def allGl (sc : Scope) : List Expr → Bool
  | [] => true
  | .Name x _ :: r => glB sc x && allGl sc r
  | _ => false
section
variable (N : List Str) (fns : List Str)
mutual
def mE : Nat → Scope → Scope → CE → Expr → Bool
  | 0, _, _, _, _ => false
  | n + 1, sc, fs, c, e => match c, e with
    | .cst .non, .Constant .none _ _ => true
    | .cst (.bl b), .Constant (.bool b') _ _ => b == b'
    | .cst (.int i), .Constant (.int j) _ _ => i == j
    | .cst (.str s), .Constant (.str t) _ _ => decide (s = t)
    | .loc i, .Name x _ => decide (N[i]? = some x) && visB sc x && okN x
    | .tup es, .Tuple xs _ _ => mA n sc fs es xs
    | .lst es, .List xs _ => mA n sc fs es xs
    | .dct0, .Dict [] [] _ => true
    | .bin o a b, .BinOp x op y _ => decide (op = opB o) && mE n sc fs a x && mE n sc fs b y
    | .neg a, .UnaryOp .USub x _ => mE n sc fs a x
    | .cmp o a b, .Compare x [op] [y] _ => decide (op = opC o) && mE n sc fs a x && mE n sc fs b y && !(behindInMarks op y)
    | .chain o o' a b c, .Compare x [op, op'] [y, z] _ => decide (op = opC o) && decide (op' = opC o') && mE n sc fs a x && mE n sc fs b y && mE n sc fs c z && !(lastMarks [op, op'] [y, z])
    | .not a, .UnaryOp .Not x _ => mE n sc fs a x
    | .and a b, .BoolOp .And (x :: y :: r) p => mE n sc fs a x && (if r.isEmpty then mE n sc fs b y else mE n sc fs b (.BoolOp .And (y :: r) p))
    | .or a b, .BoolOp .Or (x :: y :: r) p => mE n sc fs a x && (if r.isEmpty then mE n sc fs b y else mE n sc fs b (.BoolOp .Or (y :: r) p))
    | .ite c a b, .IfExp t x y _ => mB n sc fs c t && mE n sc fs a x && mE n sc fs b y
    | .idx a i, .Subscript x y _ => notSlice y && mE n sc fs a x && mE n sc fs i y
    | .slN a, .Subscript x (.Slice none none none _) _ => mE n sc fs a x
    | .slL a l, .Subscript x (.Slice (some y) none none _) _ => mE n sc fs a x && mE n sc fs l y
    | .slU a u, .Subscript x (.Slice none (some y) none _) _ => mE n sc fs a x && mE n sc fs u y
    | .slLU a l u, .Subscript x (.Slice (some y) (some z) none _) _ => mE n sc fs a x && mE n sc fs l y && mE n sc fs u z
    | .bi .sset [a], .Call (.Name f _) [.Call (.Name g _) [x] [] _] [] _ => decide (f = "sorted") && decide (g = "set") && glB sc f && glB sc g && notStar x && !(isStarE a) && mE n sc fs a x
    | .bi f [a], .Call (.Name g _) [x] [] _ => (bi1ok f || decide (f = .min)) && decide (g = biS f) && glB sc g && notStar x && !(isStarE a) && mE n sc fs a x
    | .bi f [a, b], .Call (.Name g _) [x, y] [] _ => (decide (f = .max2) || decide (f = .min2)) && decide (g = biS f) && glB sc g && notStar x && notStar y && !(isStarE a) && !(isStarE b) && mE n sc fs a x && mE n sc fs b y
    | .isi a ts, .Call (.Name g _) [x, k] [] _ => decide (g = "isinstance") && glB sc g && notStar x && mE n sc fs a x && (match tkNs ts, k with
      | some [m], .Name z _ => clsRow [.Name z ⟨0, 0, 0, 0⟩] [m] && glB sc z
      | some ms, .Tuple zs _ _ => clsRow zs ms && allGl sc zs && decide (ms.length ≤ 100)
      | _, _ => false)
    | .cnt a b, .Call (.Attribute x f ap) [y] [] cp => decide (f = "count") && (match x with | .Name .. => true | _ => false) && (ap.endLine == cp.line) && notStar y && mE n sc fs a x && mE n sc fs b y
    | .call f (a :: es), .Call (.Name g _) (x :: xs) [] _ => decide (g = f) && fns.contains f && glB sc f && okN f && (x :: xs).all notStar && (a :: es).all (fun e => !isStarE e) && mA n sc fs (a :: es) (x :: xs)
    | .comp e t it cs, .ListComp elt [⟨tg, iter, ifs, 0⟩] scope _ => mI n sc fs tg it iter && notSet iter && blkC N sc scope (ownOf N (slotsT t)) && mT N (stoB (relS scope sc) scope) t tg && (match cs, ifs with
        | [], [] => true
        | [c], [i] => mB n (relS scope sc) scope c i
        | _, _ => false) && mE n (relS scope sc) scope e elt
    | _, _ => false
/-- a test -/
def mB : Nat → Scope → Scope → CE → Expr → Bool
  | 0, _, _, _, _ => false
  | n + 1, sc, fs, c, e => match c, e with
    | .cmp o a b, .Compare x [op] [y] _ => decide (op = opC o) && mE n sc fs a x && mE n sc fs b y && !(behindInMarks op y)
    | .chain o o' a b c, .Compare x [op, op'] [y, z] _ => decide (op = opC o) && decide (op' = opC o') && mE n sc fs a x && mE n sc fs b y && mE n sc fs c z && !(lastMarks [op, op'] [y, z])
    | .not a, .UnaryOp .Not x _ => mB n sc fs a x
    | .and a b, .BoolOp .And (x :: y :: r) p => mB n sc fs a x && (if r.isEmpty then mB n sc fs b y else mB n sc fs b (.BoolOp .And (y :: r) p))
    | .or a b, .BoolOp .Or (x :: y :: r) p => mB n sc fs a x && (if r.isEmpty then mB n sc fs b y else mB n sc fs b (.BoolOp .Or (y :: r) p))
    | c, e => plainT e && mE n sc fs c e
/-- items -/
def mA : Nat → Scope → Scope → List CE → List Expr → Bool
  | 0, _, _, _, _ => false
  | n + 1, sc, fs, cs, es => match cs, es with
    | [], [] => true
    | .star a :: cs, .Starred x _ :: es => mE n sc fs a x && mA n sc fs cs es
    | c :: cs, e :: es => notStar e && !(isStarE c) && mE n sc fs c e && mA n sc fs cs es
    | _, _ => false
/-- what is walked -/
def mI : Nat → Scope → Scope → Expr → CE → Expr → Bool
  | 0, _, _, _, _, _ => false
  | n + 1, sc, fs, tg, c, e => match c, e with
    | .range (.cst (.int 0)) b, .Call (.Name f _) [x] [] _ => decide (f = "range") && glB sc f && notStar x && mE n sc fs b x
    | .range a b, .Call (.Name f _) [x, y] [] _ => decide (f = "range") && glB sc f && notStar x && notStar y && mE n sc fs a x && mE n sc fs b y
    | .enum a, .Call (.Name f _) [x] [] _ => decide (f = "enumerate") && glB sc f && notStar x && isTup tg && mE n sc fs a x
    | .zip a b, .Call (.Name f _) [x, y] [] _ => decide (f = "zip") && glB sc f && notStar x && notStar y && isTup tg && mE n sc fs a x && mE n sc fs b y
    | c, e => isSeqC c && mE n sc fs c e
end
end

theorem visB_ok {sc : Scope} {x : Str} (h : visB sc x = true) : Vis sc x := by
  unfold visB at h
  split at h
  · rename_i q; exact .inl q
  · rename_i q; exact .inr (.inl q)
  · rename_i q; exact .inr (.inr q)
  · cases h
section
variable {X : Cx} {N : List Str} {sc fs : Scope} {W : WX} {P : Pg} {lv : Nat} {fns : List Str}
theorem Cxt.gl (c : Cxt X N sc fs W P lv fns) {x : Str} (h : glB sc x = true) : Gl X x := by
  unfold glB at h
  split at h
  · rename_i q
    show X.env.scope.names.lookup x = _
    rw [c.scp]; exact q
  · cases h
theorem Cxt.sto (c : Cxt X N sc fs W P lv fns) {x : Str} (h : stoB sc fs x = true) : Sto X x := by
  unfold stoB at h
  unfold Sto L2.Loc
  rw [c.scp]
  split at h
  · rename_i q; exact ⟨.inl q, .inr q⟩
  · rename_i q
    refine ⟨.inr q, .inl (c.fnl x ?_)⟩
    split at h
    · assumption
    · cases h
  · cases h
theorem tkNs_eq : ∀ {ts : List Tk} {ns : List String}, tkNs ts = some ns → ts = ns.map .b
  | [], ns, h => by cases h; rfl
  | .b n :: r, ns, h => by
    simp only [tkNs] at h
    obtain ⟨m, e, rfl⟩ := Option.map_eq_some_iff.mp h
    rw [tkNs_eq e]; rfl
  | .own _ :: r, ns, h => by simp only [tkNs] at h; cases h
theorem allGl_ok (c : Cxt X N sc fs W P lv fns) : ∀ {es : List Expr}, allGl sc es = true → ∀ x px, Expr.Name x px ∈ es → Gl X x
  | [], _, _, _, h => by cases h
  | e :: es, ha, x, px, h => by
    cases e with
    | Name y py =>
      simp only [allGl, Bool.and_eq_true] at ha
      rcases List.mem_cons.mp h with h | h
      · cases h; exact c.gl ha.1
      · exact allGl_ok c ha.2 x px h
    | _ => simp only [allGl] at ha; cases ha
theorem ownOf_ok (is : List Nat) : (ownOf N is).map (·.2) = is := by
  unfold ownOf
  rw [List.map_map]
  exact List.map_id' is
theorem plainT_ok {e : Expr} {env : Env} (h : plainT e = true) : ∀ whole, isTrue e env whole = (do let v ← whole; standAt e.pos; holding [v] (truthy v)) := by
  intro whole
  cases e <;> first | rfl | (cases h; done) | (rename_i op _ _; cases op <;> first | rfl | (cases h; done))
theorem notSet_ok {e : Expr} {env : Env} (h : notSet e = true) : ∀ x, foldedSetIterable e env x = pure x := by
  intro x
  cases e <;> first | rfl | (cases h; done)
theorem notSlice_ok {e : Expr} (h : notSlice e = true) : PlainIx e := by
  intro o i
  cases e <;> first | rfl | (cases h; done)
/-- what the four checks promise -/
structure Mok (N fns : List Str) (P : Pg) (lv n : Nat) : Prop where
  e : ∀ {X : Cx} {sc fs : Scope} {W : WX} {c : CE} {x : Expr}, Cxt X N sc fs W P lv fns → mE N fns n sc fs c x = true → PE X x (tE X.K X.mg P W c)
  b : ∀ {X : Cx} {sc fs : Scope} {W : WX} {c : CE} {x : Expr}, Cxt X N sc fs W P lv fns → mB N fns n sc fs c x = true → PT X x (tT X.K X.mg P W c)
  w : ∀ {X : Cx} {sc fs : Scope} {W : WX} {c : CE} {op : BoolOp} {xs : List Expr} {p : Pos}, Cxt X N sc fs W P lv fns → mB N fns n sc fs c (.BoolOp op xs p) = true → PW X (.BoolOp op xs p) (tT X.K X.mg P W c)
  a : ∀ {X : Cx} {sc fs : Scope} {W : WX} {cs : List CE} {xs : List Expr}, Cxt X N sc fs W P lv fns → mA N fns n sc fs cs xs = true → PA X xs (tAs X.K X.mg P W cs)
  i : ∀ {X : Cx} {sc fs : Scope} {W : WX} {c : CE} {tg x : Expr}, Cxt X N sc fs W P lv fns → mI N fns n sc fs tg c x = true → PI X tg x (tI X.K X.mg P W c)
theorem Mok.zero : Mok N fns P lv 0 := by
  refine ⟨fun _ h => ?_, fun _ h => ?_, fun _ h => ?_, fun _ h => ?_, fun _ h => ?_⟩
  · unfold mE at h; cases h
  · unfold mB at h; cases h
  · unfold mB at h; cases h
  · unfold mA at h; cases h
  · unfold mI at h; cases h
theorem okN_ok {x : Str} (h : okN x = true) : (x == ("__debug__" : Str)) = false ∧ (x == ("__classdict__" : Str)) = false := by
  unfold okN at h
  simpa only [Bool.and_eq_true, Bool.not_eq_true'] using h
theorem Mok.one {n : Nat} (M : Mok N fns P lv n) {c : CE} {x : Expr} (C : Cxt X N sc fs W P lv fns) (h : mE N fns n sc fs c x = true) (hn : notStar x = true) (hs : isStarE c = false) : PA X [x] (tAs X.K X.mg P W [c]) := s_acons (M.e C h) s_anil hn hs
theorem Mok.comp {n : Nat} (M : Mok N fns P lv n) {e it : CE} {t : TN} {cs : List CE} {elt tg iter : Expr} {ifs : List Expr} {scope : Scope} {p : Pos} (C : Cxt X N sc fs W P lv fns)
    (h : (mI N fns n sc fs tg it iter && notSet iter && blkC N sc scope (ownOf N (slotsT t)) && mT N (stoB (relS scope sc) scope) t tg && (match cs, ifs with
        | [], [] => true
        | [c], [i] => mB N fns n (relS scope sc) scope c i
        | _, _ => false) && mE N fns n (relS scope sc) scope e elt) = true) : PE X (.ListComp elt [⟨tg, iter, ifs, 0⟩] scope p) (tEN X.K X.mg P W (.comp e t it cs)) := by
  simp only [Bool.and_eq_true] at h
  obtain ⟨⟨⟨⟨⟨h1, h2⟩, h3⟩, h4⟩, h5⟩, h6⟩ := h
  refine s_compN C.cal (by rw [C.hN]; exact C.nd) (M.i C h1) (own := ownOf N (slotsT t)) (by rw [C.hN, C.scp]; exact blkOk_by h3) (ownOf_ok _) (fun s H A cl fp => ?_) (fun s H A cl fp => ?_) (fun s H A cl fp => ?_) (notSet_ok h2)
  · have D := C.blk scope s H A cl fp
    exact s_tgt D.hN D.nd D.cal (fun x h => D.sto h) h4
  · have D := C.blk scope s H A cl fp
    split at h5
    · exact s_tests0
    · exact s_tests1 (M.b D h5)
    · cases h5
  · exact M.e (C.blk scope s H A cl fp) h6
theorem Mok.isi {n : Nat} (M : Mok N fns P lv n) {c : CE} {ts : List Tk} {x k : Expr} {p q : Pos} (C : Cxt X N sc fs W P lv fns) (hx : mE N fns n sc fs c x = true) (hn : notStar x = true) (hg : glB sc "isinstance" = true)
    (h : (match tkNs ts, k with
      | some [m], .Name z _ => clsRow [.Name z ⟨0, 0, 0, 0⟩] [m] && glB sc z
      | some ms, .Tuple zs _ _ => clsRow zs ms && allGl sc zs && decide (ms.length ≤ 100)
      | _, _ => false) = true) : PE X (.Call (.Name "isinstance" p) [x, k] [] q) (tE X.K X.mg P W (.isi c ts)) := by
  have hm : X.mg "isinstance" = none := C.blt _ (by decide +kernel)
  split at h
  · rename_i m z pz e
    rw [tkNs_eq e]
    simp only [clsRow, Bool.and_eq_true, decide_eq_true_eq, Bool.not_eq_true'] at h
    obtain ⟨⟨⟨⟨⟨⟨h1, h2⟩, h3⟩, h4⟩, h5⟩, _⟩, h6⟩ := h
    exact s_isi1 h5 h1 h2 h3 (C.gl h6) (C.blt _ h4) (C.gl hg) hm (M.e C hx) hn
  · rename_i ms zs k2 p2 e
    rw [tkNs_eq e]
    simp only [Bool.and_eq_true, decide_eq_true_eq] at h
    obtain ⟨⟨h1, h2⟩, h3⟩ := h
    exact s_isiT h1 (allGl_ok C h2) (fun x hx _ => C.blt x hx) (C.gl hg) hm h3 (M.e C hx) hn
  · cases h
theorem Mok.sE {n : Nat} (M : Mok N fns P lv n) {c : CE} {x : Expr} (C : Cxt X N sc fs W P lv fns) (h : mE N fns (n + 1) sc fs c x = true) : PE X x (tE X.K X.mg P W c) := by
  have u1 : X.A.units + 1 < cLine := by have := C.u65; omega
  unfold mE at h
  split at h
  all_goals (try simp only [Bool.and_eq_true, Bool.or_eq_true, Bool.not_eq_true', decide_eq_true_eq, beq_iff_eq] at h)
  · exact s_cst pe_non fun _ _ => rfl
  · subst h; exact s_cst pe_bl fun _ _ => rfl
  · subst h; exact s_cst pe_int fun _ _ => rfl
  · subst h; exact s_cst pe_str fun _ _ => rfl
  · obtain ⟨⟨h1, h2⟩, h3⟩ := h
    obtain ⟨h4, h5⟩ := okN_ok h3
    exact s_loc (pe_var (by rw [C.hN]; exact h1) (by rw [C.scp]; exact visB_ok h2) h4 h5)
  · exact s_tup (M.a C h)
  · exact s_lst (M.a C h)
  · exact s_dct0
  · obtain ⟨⟨rfl, ha⟩, hb⟩ := h
    exact s_bin (M.e C ha) (M.e C hb)
  · exact s_neg (M.e C h)
  · obtain ⟨⟨⟨rfl, ha⟩, hb⟩, hm⟩ := h
    exact s_cmp C.u65 (M.e C ha) (M.e C hb) hm
  · obtain ⟨⟨⟨⟨⟨rfl, rfl⟩, ha⟩, hb⟩, hc⟩, hm⟩ := h
    exact s_chain C.u65 (M.e C ha) (M.e C hb) (M.e C hc) hm
  · exact s_not (M.e C h)
  · obtain ⟨ha, hb⟩ := h
    split at hb
    · rename_i hr
      cases (List.isEmpty_iff.mp hr)
      exact s_and (M.e C ha) (pe_one (M.e C hb))
    · exact s_and (M.e C ha) (M.e C hb)
  · obtain ⟨ha, hb⟩ := h
    split at hb
    · rename_i hr
      cases (List.isEmpty_iff.mp hr)
      exact s_or (M.e C ha) (pe_one (M.e C hb))
    · exact s_or (M.e C ha) (M.e C hb)
  · obtain ⟨⟨hc, ha⟩, hb⟩ := h
    exact s_ite (M.b C hc) (M.e C ha) (M.e C hb)
  · obtain ⟨⟨hs, ha⟩, hb⟩ := h
    exact s_idx u1 (M.e C ha) (M.e C hb) (notSlice_ok hs)
  · exact s_slN (M.e C h)
  · exact s_slL (M.e C h.1) (M.e C h.2)
  · exact s_slU (M.e C h.1) (M.e C h.2)
  · exact s_slLU (M.e C h.1.1) (M.e C h.1.2) (M.e C h.2)
  · obtain ⟨⟨⟨⟨⟨⟨rfl, rfl⟩, g1⟩, g2⟩, hn⟩, hs⟩, hx⟩ := h
    exact s_sset C.cal (C.gl g1) (C.blt _ (by decide +kernel)) (C.gl g2) (C.blt _ (by decide +kernel)) (M.e C hx) hn hs
  · obtain ⟨⟨⟨⟨⟨hf, rfl⟩, g1⟩, hn⟩, hs⟩, hx⟩ := h
    rcases hf with hf | rfl
    · exact s_bi hf C.cal (C.gl g1) (C.blt _ (mem_blt _)) (M.one C hx hn hs) hn hs
    · exact s_min C.cal C.u65 (C.gl g1) (C.blt _ (by decide +kernel)) (M.one C hx hn hs) hn hs
  · obtain ⟨⟨⟨⟨⟨⟨⟨⟨hf, rfl⟩, g1⟩, hn⟩, hn2⟩, hs⟩, hs2⟩, hx⟩, hy⟩ := h
    exact s_bi2 hf C.cal (C.gl g1) (C.blt _ (mem_blt _)) (s_acons (M.e C hx) (M.one C hy hn2 hs2) hn hs) hn hn2 hs hs2
  · obtain ⟨⟨⟨⟨rfl, g1⟩, hn⟩, hx⟩, hk⟩ := h
    exact M.isi C hx hn g1 hk
  · obtain ⟨⟨⟨⟨⟨rfl, hx1⟩, hl⟩, hn⟩, hx⟩, hy⟩ := h
    split at hx1
    · exact s_cnt rfl (by simpa using hl) (M.e C hx) (M.e C hy) hn
    · cases hx1
  · obtain ⟨⟨⟨⟨⟨⟨rfl, hf⟩, g1⟩, ho⟩, hn⟩, hs⟩, ha⟩ := h
    exact s_call (C.fnf _ (by simpa using hf)) C.rm C.tk (C.gl g1) (okN_ok ho).1 (M.a C ha) hn hs
  · exact s_new (M.comp C (by simpa only [Bool.and_eq_true] using h))
  · cases h
theorem Mok.sB {n : Nat} (M : Mok N fns P lv n) {c : CE} {x : Expr} (C : Cxt X N sc fs W P lv fns) (h : mB N fns (n + 1) sc fs c x = true) : PT X x (tT X.K X.mg P W c) := by
  unfold mB at h
  split at h
  all_goals (try simp only [Bool.and_eq_true, Bool.or_eq_true, Bool.not_eq_true', decide_eq_true_eq, beq_iff_eq] at h)
  · obtain ⟨⟨⟨rfl, ha⟩, hb⟩, hm⟩ := h
    exact s_cmpT C.u65 (M.e C ha) (M.e C hb) hm
  · obtain ⟨⟨⟨⟨⟨rfl, rfl⟩, ha⟩, hb⟩, hc⟩, hm⟩ := h
    exact s_chainT C.u65 (M.e C ha) (M.e C hb) (M.e C hc) hm
  · exact s_notT (M.b C h)
  · obtain ⟨ha, hb⟩ := h
    split at hb
    · rename_i hr
      cases (List.isEmpty_iff.mp hr)
      exact (s_andW (M.b C ha) (pw_and1 (M.b C hb))).pt
    · exact (s_andW (M.b C ha) (M.w C hb)).pt
  · obtain ⟨ha, hb⟩ := h
    split at hb
    · rename_i hr
      cases (List.isEmpty_iff.mp hr)
      exact (s_orW (M.b C ha) (pw_or1 (M.b C hb))).pt
    · exact (s_orW (M.b C ha) (M.w C hb)).pt
  · exact s_test (M.e C h.2) (plainT_ok h.1)
theorem Mok.sW {n : Nat} (M : Mok N fns P lv n) {c : CE} {op : BoolOp} {xs : List Expr} {p : Pos} (C : Cxt X N sc fs W P lv fns) (h : mB N fns (n + 1) sc fs c (.BoolOp op xs p) = true) : PW X (.BoolOp op xs p) (tT X.K X.mg P W c) := by
  unfold mB at h
  split at h
  all_goals (try simp only [Bool.and_eq_true, Bool.or_eq_true, Bool.not_eq_true', decide_eq_true_eq, beq_iff_eq] at h)
  all_goals (rename_i heq; first | (cases heq; done) | skip)
  · cases heq
    obtain ⟨ha, hb⟩ := h
    split at hb
    · rename_i hr
      cases (List.isEmpty_iff.mp hr)
      exact s_andW (M.b C ha) (pw_and1 (M.b C hb))
    · exact s_andW (M.b C ha) (M.w C hb)
  · cases heq
    obtain ⟨ha, hb⟩ := h
    split at hb
    · rename_i hr
      cases (List.isEmpty_iff.mp hr)
      exact s_orW (M.b C ha) (pw_or1 (M.b C hb))
    · exact s_orW (M.b C ha) (M.w C hb)
  · cases h.1
theorem Mok.sA {n : Nat} (M : Mok N fns P lv n) {cs : List CE} {xs : List Expr} (C : Cxt X N sc fs W P lv fns) (h : mA N fns (n + 1) sc fs cs xs = true) : PA X xs (tAs X.K X.mg P W cs) := by
  unfold mA at h
  split at h
  all_goals (try simp only [Bool.and_eq_true, Bool.or_eq_true, Bool.not_eq_true', decide_eq_true_eq, beq_iff_eq] at h)
  · exact s_anil
  · exact s_astar (M.e C h.1) (M.a C h.2)
  · exact s_acons (M.e C h.1.2) (M.a C h.2) h.1.1.1 h.1.1.2
  · cases h
theorem Mok.sI {n : Nat} (M : Mok N fns P lv n) {c : CE} {tg x : Expr} (C : Cxt X N sc fs W P lv fns) (h : mI N fns (n + 1) sc fs tg c x = true) : PI X tg x (tI X.K X.mg P W c) := by
  unfold mI at h
  split at h
  all_goals (try simp only [Bool.and_eq_true, Bool.or_eq_true, Bool.not_eq_true', decide_eq_true_eq, beq_iff_eq] at h)
  · obtain ⟨⟨⟨rfl, g1⟩, hn⟩, hx⟩ := h
    exact s_irange1 (C.gl g1) (C.blt _ (by decide +kernel)) (M.e C hx) hn
  · obtain ⟨⟨⟨⟨⟨rfl, g1⟩, hn⟩, hn2⟩, hx⟩, hy⟩ := h
    exact s_irange2 (C.gl g1) (C.blt _ (by decide +kernel)) (M.e C hx) (M.e C hy) hn hn2
  · obtain ⟨⟨⟨⟨rfl, g1⟩, hn⟩, ht⟩, hx⟩ := h
    cases tg with
    | Tuple es k p => exact s_ienum (C.gl g1) (C.blt _ (by decide +kernel)) (M.e C hx) hn
    | _ => cases ht
  · obtain ⟨⟨⟨⟨⟨⟨rfl, g1⟩, hn⟩, hn2⟩, ht⟩, hx⟩, hy⟩ := h
    cases tg with
    | Tuple es k p => exact s_izip (C.gl g1) (C.blt _ (by decide +kernel)) (M.e C hx) (M.e C hy) hn hn2
    | _ => cases ht
  · exact s_iseq h.1 (M.e C h.2)
end
theorem mok (N fns : List Str) (P : Pg) (lv : Nat) : ∀ n, Mok N fns P lv n
  | 0 => .zero
  | n + 1 =>
    have M := mok N fns P lv n
    ⟨fun C h => M.sE C h, fun C h => M.sB C h, fun C h => M.sW C h, fun C h => M.sA C h, fun C h => M.sI C h⟩
end Ev

set_option Elab.async false
set_option linter.all false
set_option maxRecDepth 100000
set_option maxHeartbeats 4000000
/-! Ev18: the evaluator's statements against the program's text. -/
namespace Ev
open PySem PySem.Spec PyProof.Rows L2
/-- an exception class that may be raised with a text -/
def ExF (X : Cx) (c : Str) : Prop := ∃ (C : Addr) (bmB : List Value) (B newId initId : String), ExcBaseFacts B newId initId bmB ∧ PySem.W.excIn X.K C bmB newId = true ∧ X.mg c = some (.ref C) ∧ PySem.W.keepIn X.K (.ref C) = true ∧ Raises X (.ref C)
structure Cst (X : Cx) (N : List Str) (sc : Scope) (W : WX) (P : Pg) (lv : Nat) (fns exs : List Str) : Prop extends Cxt X N sc sc W P lv fns where
  po : PassesOwn (model X.prog X.w) X.A X.env X.xe
  stk : X.stack = X.env :: X.outer
  frm : X.env.frame = some X.env.locals
  knd : sc.kind = .function
  exc : ∀ c ∈ exs, ExF X c
  sub : ∀ y x b cy cx, P.esub y x = some b → X.mg y = some cy → X.mg x = some cx → PySem.W.exmOne X.K cy cx = some b
theorem Cst.tr {X : Cx} {N : List Str} {sc : Scope} {W W' : WX} {P : Pg} {lv : Nat} {fns exs : List Str} (c : Cst X N sc W P lv fns exs) (pn : List (Addr × Obj)) (xe : Value → Shared → Prop) (tk : Takes (X.tr pn xe) W') (po : PassesOwn (model X.prog X.w) X.A X.env xe) :
    Cst (X.tr pn xe) N sc W' P lv fns exs where
  hN := c.hN
  nd := c.nd
  scp := c.scp
  cal := c.cal
  rm := c.rm
  tk := tk
  fnl := c.fnl
  blt := c.blt
  fnf := fun f hf => ⟨(c.fnf f hf).ex⟩
  po := po
  stk := c.stk
  frm := c.frm
  knd := c.knd
  exc := c.exc
  sub := c.sub
def notComp : Expr → Bool
  | .ListComp .. | .SetComp .. | .DictComp .. => false
  | _ => true
def notTup : Expr → Bool
  | .Tuple .. => false
  | _ => true
theorem sw_no {v : Expr} {t : Option Expr} {l : Nat} {env : Env} (h : notComp v = true) : swapsWith v t l env = pure false := by
  cases v <;> first | (cases h; done) | rfl
def locB (sc : Scope) (x : Str) : Bool := match sc.names.lookup x with
  | some .local => true
  | _ => false
theorem locB_ok {sc : Scope} {x : Str} (h : locB sc x = true) : sc.names.lookup x = some .local := by
  unfold locB at h
  split at h
  · assumption
  · cases h
def cellB (sc : Scope) (x : Str) : Bool := match sc.names.lookup x with
  | some .cell => true
  | _ => false
theorem cellB_ok {sc : Scope} {x : Str} (h : cellB sc x = true) : sc.names.lookup x = some .cell := by
  unfold cellB at h
  split at h
  · assumption
  · cases h
theorem sw_cell {elt : Expr} {gs : List Comprehension} {scope : Scope} {pos py : Pos} {y : Str} {l : Nat} {env : Env} (hy : env.scope.names.lookup y = some .cell) : swapsWith (.ListComp elt gs scope pos) (some (.Name y py)) l env = pure false := by
  have ky : env.kindOf y = some .cell := hy
  unfold swapsWith
  simp only [ky]
  show pure (_ && (some NameKind.cell == some NameKind.local) && _ && _) = _
  rw [show (some NameKind.cell == some NameKind.local) = false by decide]
  simp
def isSt : Expr → Bool
  | .Starred .. => true
  | _ => false
def nmF (env : Env) (line : Nat) : Expr → Option Str
  | .Name id pos => if env.kindOf id == some .local && pos.line == line then some id else none
  | _ => none
theorem sws {ts vs : List Expr} {env : Env} {kt k2 : Nat} {pt p2 : Pos} : swappedStores [.Tuple ts kt pt] (.Tuple vs k2 p2) env =
    (if (!(ts.length == 2 || ts.length == 3) || vs.length != ts.length || env.blockKind != .function) = true then pure none else
      if (vs.any isSt) = true then pure none else
      if ((ts.filterMap (nmF env ((ts.head?.map (·.pos.line)).getD 0))).length != ts.length || (ts.filterMap (nmF env ((ts.head?.map (·.pos.line)).getD 0))).eraseDups.length != (ts.filterMap (nmF env ((ts.head?.map (·.pos.line)).getD 0))).length) = true then pure none else
      if (vs.all (foldedForSure 8)) = true then pure none else
      if (vs.all (constantsAlone 8)) = true then (do unsupported "assign.tuple-of-constant-expressions:order-of-the-stores"; pure (some (ts.filterMap (nmF env ((ts.head?.map (·.pos.line)).getD 0))))) else
      pure (some (ts.filterMap (nmF env ((ts.head?.map (·.pos.line)).getD 0))))) := by
  unfold swappedStores
  rfl
/-- the names of a, b = x, y that are stored from the right -/
def parNs (sc : Scope) (line : Nat) : List Expr → List Str
  | [] => []
  | .Name x p :: r => if sc.names.lookup x == some .local && p.line == line then x :: parNs sc line r else parNs sc line r
  | _ :: r => parNs sc line r
def parB (sc : Scope) (ts vs : List Expr) (names : List Str) : Bool :=
  (ts.length == 2 || ts.length == 3) && (vs.length == ts.length) && !(vs.any isSt) && decide (parNs sc ((ts.head?.map (·.pos.line)).getD 0) ts = names) && (names.length == ts.length) && (names.eraseDups.length == names.length) &&
    !(vs.all (foldedForSure 8)) && !(vs.all (constantsAlone 8))
theorem parNs_eq {env : Env} {line : Nat} : ∀ ts : List Expr, ts.filterMap (nmF env line) = parNs env.scope line ts
  | [] => rfl
  | e :: r => by
    rw [List.filterMap_cons, parNs_eq r]
    cases e with
    | Name x p =>
      by_cases c : (env.scope.names.lookup x == some .local && p.line == line) = true
      · have e1 : nmF env line (.Name x p) = some x := if_pos c
        have e2 : parNs env.scope line (.Name x p :: r) = x :: parNs env.scope line r := if_pos c
        rw [e1, e2]
      · have e1 : nmF env line (.Name x p) = none := if_neg c
        have e2 : parNs env.scope line (.Name x p :: r) = parNs env.scope line r := if_neg c
        rw [e1, e2]
    | _ => rfl
theorem parB_ok {env : Env} {ts vs : List Expr} {names : List Str} {kt : Nat} {pt : Pos} {k2 : Nat} {p2 : Pos} (hk : env.scope.kind = .function) (h : parB env.scope ts vs names = true) :
    swappedStores [.Tuple ts kt pt] (.Tuple vs k2 p2) env = pure (some names) := by
  unfold parB at h
  simp only [Bool.and_eq_true, Bool.not_eq_true', decide_eq_true_eq, beq_iff_eq] at h
  obtain ⟨⟨⟨⟨⟨⟨⟨h1, h2⟩, h3⟩, h4⟩, h5⟩, h6⟩, h7⟩, h8⟩ := h
  have hb : env.blockKind = .function := by unfold Env.blockKind; rw [hk]; rfl
  rw [sws]
  simp only [parNs_eq, h4]
  rw [if_neg (by simp [h1, h2, hb]), if_neg (by simp [h3]), if_neg (by simp [h5, h6]), if_neg (by simp [h7]), if_neg (by simp [h8])]

/-- suites of except clauses: what needs no calm -/
def mH0 (N : List Str) (sc : Scope) : CE → Expr → Bool
  | .cst .non, .Constant .none _ _ => true
  | .cst (.bl b), .Constant (.bool b') _ _ => b == b'
  | .cst (.int i), .Constant (.int j) _ _ => i == j
  | _, _ => false
def mH (N : List Str) (sc : Scope) : List CS → List Stmt → Bool
  | [], [] => true
  | .pass :: ss, .Pass _ :: xs => mH N sc ss xs
  | .cont :: ss, .Continue _ :: xs => mH N sc ss xs
  | .brk :: ss, .Break _ :: xs => mH N sc ss xs
  | .ret c :: ss, .Return (some x) _ :: xs => mH0 N sc c x && mH N sc ss xs
  | .asg (.nm i) c :: ss, .Assign [.Name y _] x _ :: xs => decide (N[i]? = some y) && stoB sc sc y && mH0 N sc c x && notComp x && mH N sc ss xs
  | _, _ => false
section
variable (N : List Str) (fns exs : List Str)
/-- a new object -/
def mN (n : Nat) (sc fs : Scope) : CE → Expr → Bool
  | .lst es, .List xs _ => mA N fns n sc fs es xs
  | .dct0, .Dict [] [] _ => true
  | .comp e t it cs, .ListComp elt [⟨tg, iter, ifs, 0⟩] scope _ => mI N fns n sc fs tg it iter && notSet iter && blkC N sc scope (ownOf N (slotsT t)) && mT N (stoB (relS scope sc) scope) t tg && (match cs, ifs with
        | [], [] => true
        | [c], [i] => mB N fns n (relS scope sc) scope c i
        | _, _ => false) && mE N fns n (relS scope sc) scope e elt
  | _, _ => false
def mP (n : Nat) (sc fs : Scope) : List AM → List CE → List Expr → Bool
  | [], [], [] => true
  | .v :: ms, c :: cs, x :: xs => notStar x && mE N fns n sc fs c x && mP n sc fs ms cs xs
  | .n :: ms, c :: cs, x :: xs => notStar x && mN N fns n sc fs c x && mP n sc fs ms cs xs
  | .o :: ms, .loc i :: cs, .Name x _ :: xs => decide (N[i]? = some x) && visB sc x && okN x && mP n sc fs ms cs xs
  | _, _, _ => false
/-- how name = e is stored -/
def swF (sc : Scope) (x : Str) (v : Expr) : Bool := notComp v || (cellB sc x && match v with | .ListComp .. => true | _ => false)
def swT (sc : Scope) (x : Str) (px : Pos) : Expr → Bool
  | .ListComp _ _ scope p => locB sc x && (px.line == p.line) && !(scope.names.any fun (n, k) => n == x && (k == .local || k == .cell))
  | _ => false
mutual
def mS : Nat → Scope → CS → Stmt → Bool
  | 0, _, _, _ => false
  | n + 1, sc, s, st => match s, st with
    | .pass, .Pass _ => true
    | .pass, .Expr (.Constant (.str _) _ _) _ => true
    | .brk, .Break _ => true
    | .cont, .Continue _ => true
    | .asg (.nm i) c, .Assign [.Name x px] v _ => decide (N[i]? = some x) && stoB sc sc x && (if swF sc x v then mE N fns n sc sc c v else swT sc x px v && mN N fns n sc sc c v)
    | .new i c, .Assign [.Name x px] v _ => decide (N[i]? = some x) && stoB sc sc x && (swF sc x v || swT sc x px v) && mN N fns n sc sc c v
    | .asg (.tp ts) c, .Assign [.Tuple tgs k p] v _ => mT N (stoB sc sc) (.tp ts) (.Tuple tgs k p) && notComp v && notTup v && mE N fns n sc sc c v
    | .par [i, j] ms cs, .Assign [.Tuple [.Name x px, .Name y py] kt pt] (.Tuple [a, b] _ _) _ => decide (N[i]? = some x) && decide (N[j]? = some y) && decide (i ≠ j) && locB sc x && locB sc y && parB sc [.Name x px, .Name y py] [a, b] [x, y] && mP N fns n sc sc ms cs [a, b]
    | .par [i, j, l] ms cs, .Assign [.Tuple [.Name x px, .Name y py, .Name z pz] kt pt] (.Tuple [a, b, c] _ _) _ => decide (N[i]? = some x) && decide (N[j]? = some y) && decide (N[l]? = some z) && decide (i ≠ j) && decide (i ≠ l) && decide (j ≠ l) && locB sc x && locB sc y && locB sc z &&
        parB sc [.Name x px, .Name y py, .Name z pz] [a, b, c] [x, y, z] && mP N fns n sc sc ms cs [a, b, c]
    | .aug i o c, .AugAssign (.Name x _) op v _ => decide (N[i]? = some x) && stoB sc sc x && decide ((opS o).map (·.1) = some op) && mE N fns n sc sc c v
    | .app i c, .Expr (.Call (.Attribute (.Name x _) f ap) [v] [] cp) _ => decide (f = "append") && decide (N[i]? = some x) && visB sc x && okN x && notStar v && (ap.endLine == cp.line) && mE N fns n sc sc c v
    | .ext i c, .Expr (.Call (.Attribute (.Name x _) f ap) [v] [] cp) _ => decide (f = "extend") && decide (N[i]? = some x) && visB sc x && okN x && notStar v && (ap.endLine == cp.line) && mE N fns n sc sc c v
    | .seti i k c, .Assign [.Subscript (.Name x _) y _] v _ => decide (N[i]? = some x) && visB sc x && okN x && notSlice y && notComp v && mE N fns n sc sc k y && mE N fns n sc sc c v
    | .callS none f ms (a :: cs), .Expr (.Call (.Name g _) (x :: xs) [] _) _ => decide (g = f) && fns.contains f && glB sc f && okN f && (x :: xs).all notStar && mP N fns n sc sc ms (a :: cs) (x :: xs)
    | .callS (some i) f ms (a :: cs), .Assign [.Name y _] (.Call (.Name g _) (x :: xs) [] _) _ => decide (N[i]? = some y) && stoB sc sc y && decide (g = f) && fns.contains f && glB sc f && okN f && (x :: xs).all notStar && mP N fns n sc sc ms (a :: cs) (x :: xs)
    | .expr c, .Expr v _ => notComp v && mE N fns n sc sc c v
    | .ret (.loc i), .Return (some (.Name x _)) _ => decide (N[i]? = some x) && visB sc x && okN x
    | .ret c, .Return (some v) _ => !(isLoc c) && mE N fns n sc sc c v
    | .retN, .Return none _ => true
    | .if_ c a b, .If t xs ys _ => mB N fns n sc sc c t && mSs n sc a xs && mSs n sc b ys
    | .for_ t it b, .For tg iter body [] _ => mI N fns n sc sc tg it iter && notSet iter && mT N (stoB sc sc) t tg && mSs n sc b body
    | .while_ _ c b, .While t body [] _ => mB N fns n sc sc c t && mSs n sc b body
    | .raise_ c, .Raise (some (.Call (.Name x _) [.Constant (.str _) _ _] [] _)) none _ => decide (x = c) && exs.contains c && glB sc c && okN c
    | .try_ b c hb, .Try body [.ExceptHandler (some (.Name x _)) none (s0 :: suite) _] [] [] _ => decide (x = c) && exs.contains c && glB sc c && okN c && mSs n sc b body && mH N sc hb (s0 :: suite)
    | _, _ => false
def mSs : Nat → Scope → List CS → List Stmt → Bool
  | 0, _, _, _ => false
  | n + 1, sc, ss, sts => match ss, sts with
    | [], [] => true
    | s :: ss, st :: sts => mS n sc s st && mSs n sc ss sts
    | _, _ => false
end
end
end Ev

set_option Elab.async false
set_option linter.all false
set_option maxRecDepth 100000
set_option maxHeartbeats 4000000
/-! Ev19: the statements' check is right. -/
namespace Ev
open PySem PySem.Spec PyProof.Rows L2
section
variable {X : Cx} {N : List Str} {sc fs : Scope} {W : WX} {P : Pg} {lv : Nat} {fns exs : List Str}
/-- what a suite's text needs -/
structure Csu (X : Cx) (N : List Str) (sc : Scope) : Prop where
  hN : X.N = N
  nd : N.Nodup
  scp : X.env.scope = sc
  fnl : ∀ x, sc.names.lookup x = some .cell → X.fn x = true
theorem Csu.sto (c : Csu X N sc) {x : Str} (h : stoB sc sc x = true) : Sto X x := by
  unfold stoB at h
  unfold Sto L2.Loc
  rw [c.scp]
  split at h
  · rename_i q; exact ⟨.inl q, .inr q⟩
  · rename_i q
    exact ⟨.inr q, .inl (c.fnl x q)⟩
  · cases h
theorem mH0_ok {c : CE} {x : Expr} (h : mH0 N sc c x = true) : PE X x (tE X.K X.mg P W c) := by
  unfold mH0 at h
  split at h
  all_goals (try simp only [beq_iff_eq] at h)
  · exact s_cst pe_non fun _ _ => rfl
  · subst h; exact s_cst pe_bl fun _ _ => rfl
  · subst h; exact s_cst pe_int fun _ _ => rfl
  · cases h
theorem mH0_loc {c : CE} {x : Expr} (h : mH0 N sc c x = true) : isLoc c = false := by
  unfold mH0 at h
  split at h
  · rfl
  · rfl
  · rfl
  · cases h
theorem mH_ok (C : Csu X N sc) : ∀ {ss : List CS} {xs : List Stmt}, mH N sc ss xs = true → PSs X xs (tSs X.K X.mg P W ss) := by
  intro ss
  induction ss with
  | nil =>
    intro xs h
    cases xs with
    | nil => exact s_nil
    | cons _ _ => simp only [mH] at h; cases h
  | cons s ss ih =>
    intro xs h
    unfold mH at h
    split at h
    · rename_i e; cases e
    · rename_i e; cases e; exact s_cons s_pass (ih h)
    · rename_i e; cases e; exact s_cons s_cont (ih h)
    · rename_i e; cases e; exact s_cons s_break (ih h)
    · rename_i e; cases e
      rw [Bool.and_eq_true] at h
      exact s_cons (s_ret (mH0_ok h.1) (mH0_loc h.1)) (ih h.2)
    · rename_i e; cases e
      simp only [Bool.and_eq_true, decide_eq_true_eq] at h
      obtain ⟨⟨⟨⟨h1, h2⟩, h3⟩, h4⟩, h5⟩ := h
      obtain ⟨q1, q2⟩ := C.sto h2
      exact s_cons (s_asg0 (ps_set (by rw [C.hN]; exact C.nd) (by rw [C.hN]; exact h1) q1 (mH0_ok h3) (sw_no h4) q2) fun _ _ _ q => q) (ih h5)
    · cases h
theorem mN_ok {n : Nat} (M : Mok N fns P lv n) {c : CE} {x : Expr} (C : Cxt X N sc fs W P lv fns) (h : mN N fns n sc fs c x = true) : PE X x (tEN X.K X.mg P W c) := by
  unfold mN at h
  split at h
  · exact s_lstN (M.a C h)
  · exact s_dct0N
  · exact M.comp C h
  · cases h
theorem mP_ok {n : Nat} (M : Mok N fns P lv n) (C : Cxt X N sc fs W P lv fns) : ∀ {ms : List AM} {cs : List CE} {xs : List Expr}, mP N fns n sc fs ms cs xs = true → PA X xs (tP X.K X.mg P W ms cs) := by
  intro ms
  induction ms with
  | nil =>
    intro cs xs h
    cases cs with
    | nil =>
      cases xs with
      | nil => exact p_nil
      | cons _ _ => simp only [mP] at h; cases h
    | cons _ _ => cases xs <;> (simp only [mP] at h; cases h)
  | cons m ms ih =>
    intro cs xs h
    cases m with
    | v =>
      cases cs with
      | nil => cases xs <;> (simp only [mP] at h; cases h)
      | cons c cs =>
        cases xs with
        | nil => simp only [mP] at h; cases h
        | cons x xs =>
          simp only [mP, Bool.and_eq_true] at h
          exact p_v (M.e C h.1.2) (ih h.2) h.1.1
    | n =>
      cases cs with
      | nil => cases xs <;> (simp only [mP] at h; cases h)
      | cons c cs =>
        cases xs with
        | nil => simp only [mP] at h; cases h
        | cons x xs =>
          simp only [mP, Bool.and_eq_true] at h
          exact p_n (mN_ok M C h.1.2) (ih h.2) h.1.1
    | o =>
      cases cs with
      | nil => cases xs <;> (simp only [mP] at h; cases h)
      | cons c cs =>
        cases xs with
        | nil => cases c <;> (simp only [mP] at h; cases h)
        | cons x xs =>
          cases c with
          | loc i =>
            cases x with
            | Name x px =>
              simp only [mP, Bool.and_eq_true, decide_eq_true_eq] at h
              obtain ⟨⟨⟨h1, h2⟩, h3⟩, h4⟩ := h
              obtain ⟨h5, h6⟩ := okN_ok h3
              exact p_o (pe_var (by rw [C.hN]; exact h1) (by rw [C.scp]; exact visB_ok h2) h5 h6) (ih h4) rfl
            | _ => simp only [mP] at h; cases h
          | _ => simp only [mP] at h; cases h
theorem sws1 {t v : Expr} {l : Nat} {env : Env} (h : notComp v = true) : swapsWithSole [t] v l env = pure false := sw_no (t := some t) h
theorem Cxt.var (C : Cxt X N sc fs W P lv fns) {i : Nat} {x : Str} {p : Pos} (h1 : N[i]? = some x) (h2 : visB sc x = true) (h3 : okN x = true) : PE X (.Name x p) (tVar i) := by
  obtain ⟨h5, h6⟩ := okN_ok h3
  exact pe_var (by rw [C.hN]; exact h1) (by rw [C.scp]; exact visB_ok h2) h5 h6
theorem swF_ok (C : Cxt X N sc fs W P lv fns) {x : Str} {v : Expr} {px : Pos} {l : Nat} (h : swF sc x v = true) : swapsWith v (some (.Name x px)) l X.env = pure false := by
  unfold swF at h
  rw [Bool.or_eq_true] at h
  rcases h with h | h
  · exact sw_no h
  · rw [Bool.and_eq_true] at h
    have hc := cellB_ok h.1
    rw [← C.scp] at hc
    have h2 := h.2
    split at h2
    · exact sw_cell hc
    · cases h2
/-- name = [..] of a local on one line -/
theorem swT_ok {n : Nat} (M : Mok N fns P lv n) (C : Cxt X N sc fs W P lv fns) (hk : sc.kind = .function) {x : Str} {v : Expr} {px pos : Pos} {i : Nat} {c : CE} (hi : N[i]? = some x) (h : swT sc x px v = true) (hm : mN N fns n sc fs c v = true) :
    ∃ te : TE, PS X (.Assign [.Name x px] v pos) (tAsg te (gName i)) ∧ ∀ τ H Q, tEN X.K X.mg P W c τ H Q → te τ H Q := by
  unfold swT at h
  split at h
  · rename_i elt gs scope p
    simp only [Bool.and_eq_true, Bool.not_eq_true', beq_iff_eq] at h
    obtain ⟨⟨h1, h2⟩, h3⟩ := h
    have hl := locB_ok h1
    unfold mN at hm
    split at hm
    · rename_i e; cases e
    · rename_i e; cases e
    · rename_i e
      cases e
      rename_i ce t it cs tg iter ifs
      simp only [Bool.and_eq_true] at hm
      obtain ⟨⟨⟨⟨⟨m1, m2⟩, m3⟩, m4⟩, m5⟩, m6⟩ := hm
      refine ⟨_, ps_setLc (own := ownOf N (slotsT t)) (g := gT X.K t) (tt := tCs X.K X.mg P W0 cs) (te := tE X.K X.mg P W0 ce) C.cal (by rw [C.hN]; exact C.nd) (by rw [C.hN]; exact hi) (by rw [C.scp]; exact hl) (sw_true (by rw [C.scp]; exact hk) (by rw [C.scp]; exact hl) (by simpa using h2) h3) (M.i C m1)
        (by rw [C.hN, C.scp]; exact blkOk_by m3) (fun s H A cl fp => ?_) (fun s H A cl fp => ?_) (fun s H A cl fp => ?_) (notSet_ok m2), fun τ H Q q => comp_read (ownOf_ok _) q⟩
      · have D := C.blk scope s H A cl fp
        exact s_tgt D.hN D.nd D.cal (fun x h => D.sto h) m4
      · have D := C.blk scope s H A cl fp
        split at m5
        · exact s_tests0
        · exact s_tests1 (M.b D m5)
        · cases m5
      · exact M.e (C.blk scope s H A cl fp) m6
    · cases hm
  · cases h
theorem tE_tEN {τ : L2.St} {H : Hp} {Q : VK} {c : CE} (q : tE X.K X.mg P W c τ H Q) : tEN X.K X.mg P W c τ H Q := by
  obtain ⟨B, m, σ, h, R, g⟩ := q
  exact ⟨B, m, σ, h, R, g.rel fun H' p v r => r.rf⟩
theorem asg_sub {x : Str} {px p2 : Pos} {y : Expr} {env : Env} (h : notSlice y = true) : ∀ v, assign (.Subscript (.Name x px) y p2) env v = (do
      let ov ← holding [v] (eval (.Name x px) env)
      let iv ← holding [v, ov] (eval y env)
      standAt p2
      holding [v, ov, iv] (PySem.setItem ov iv v)
      release [v, ov, iv] []) := by
  intro v
  cases y <;> first | (cases h; done) | rfl
structure Sok (N fns exs : List Str) (P : Pg) (lv n : Nat) : Prop where
  s : ∀ {X : Cx} {sc : Scope} {W : WX} {c : CS} {x : Stmt}, Cst X N sc W P lv fns exs → mS N fns exs n sc c x = true → PS X x (tS X.K X.mg P W c)
  ss : ∀ {X : Cx} {sc : Scope} {W : WX} {c : List CS} {x : List Stmt}, Cst X N sc W P lv fns exs → mSs N fns exs n sc c x = true → PSs X x (tSs X.K X.mg P W c)
theorem Sok.sSs {n : Nat} (S : Sok N fns exs P lv n) {c : List CS} {x : List Stmt} (C : Cst X N sc W P lv fns exs) (h : mSs N fns exs (n + 1) sc c x = true) : PSs X x (tSs X.K X.mg P W c) := by
  unfold mSs at h
  split at h
  · exact s_nil
  · rw [Bool.and_eq_true] at h
    exact s_cons (S.s C h.1) (S.ss C h.2)
  · cases h
theorem Sok.sS {n : Nat} (S : Sok N fns exs P lv n) {c : CS} {x : Stmt} (C : Cst X N sc W P lv fns exs) (h : mS N fns exs (n + 1) sc c x = true) : PS X x (tS X.K X.mg P W c) := by
  have M := mok N fns P lv n
  have C0 : Cxt X N sc sc W P lv fns := C.toCxt
  have hNd : X.N.Nodup := by rw [C.hN]; exact C.nd
  have u1 : X.A.units + 1 < cLine := by have := C0.u65; omega
  unfold mS at h
  split at h
  all_goals (try simp only [Bool.and_eq_true, Bool.or_eq_true, Bool.not_eq_true', decide_eq_true_eq, beq_iff_eq] at h)
  · exact s_pass
  · exact s_doc
  · exact s_break
  · exact s_cont
  · obtain ⟨⟨h1, h2⟩, h3⟩ := h
    obtain ⟨q1, q2⟩ := C0.sto h2
    split at h3
    · rename_i hsw
      exact s_asg0 (ps_set hNd (by rw [C.hN]; exact h1) q1 (M.e C0 h3) (swF_ok C0 hsw) q2) fun _ _ _ q => q
    · rw [Bool.and_eq_true] at h3
      obtain ⟨te, p1, p2⟩ := swT_ok M C0 C.knd h1 h3.1 h3.2
      exact s_asg0 p1 fun τ H Q q => p2 τ H Q (tE_tEN q)
  · obtain ⟨⟨⟨h1, h2⟩, h3⟩, h4⟩ := h
    obtain ⟨q1, q2⟩ := C0.sto h2
    rcases h3 with h3 | h3
    · exact s_new0 (ps_set hNd (by rw [C.hN]; exact h1) q1 (mN_ok M C0 h4) (swF_ok C0 h3) q2) fun _ _ _ q => q
    · obtain ⟨te, p1, p2⟩ := swT_ok M C0 C.knd h1 h3 h4
      exact s_new0 p1 p2
  · obtain ⟨⟨⟨h1, h2⟩, h3⟩, h4⟩ := h
    refine s_asgT (M.e C0 h4) (s_tgt C.hN C.nd C.cal (fun x h => C0.sto h) h1) (fun j z => by cases z) (sws1 h2) ?_ rfl
    rename_i v _
    cases v <;> first | (cases h3; done) | rfl
  · obtain ⟨⟨⟨⟨⟨⟨h1, h2⟩, h3⟩, h4⟩, h5⟩, h6⟩, h7⟩ := h
    have k4 := locB_ok h4
    have k5 := locB_ok h5
    rw [← C.scp] at k4 k5 h6
    exact s_par2 (ps_par C.cal hNd (by rw [C.hN]; exact h1) (by rw [C.hN]; exact h2) h3 k4 k5 (mP_ok M C0 h7) (parB_ok (by rw [C.scp]; exact C.knd) h6) (sws1 rfl))
  · obtain ⟨⟨⟨⟨⟨⟨⟨⟨⟨⟨h1, h2⟩, h3⟩, e1⟩, e2⟩, e3⟩, h4⟩, h5⟩, h6⟩, h7⟩, h8⟩ := h
    have k4 := locB_ok h4
    have k5 := locB_ok h5
    have k6 := locB_ok h6
    rw [← C.scp] at k4 k5 k6 h7
    exact s_par3 (ps_par3 C.cal hNd (by rw [C.hN]; exact h1) (by rw [C.hN]; exact h2) (by rw [C.hN]; exact h3) e1 e2 e3 k4 k5 k6 (mP_ok M C0 h8) (parB_ok (by rw [C.scp]; exact C.knd) h7) (sws1 rfl))
  · obtain ⟨⟨⟨h1, h2⟩, h3⟩, h4⟩ := h
    obtain ⟨⟨op, f⟩, e1, e2⟩ := Option.map_eq_some_iff.mp h3
    subst e2
    exact s_aug e1 hNd (by rw [C.hN]; exact h1) (C0.sto h2) (M.e C0 h4)
  · obtain ⟨⟨⟨⟨⟨⟨rfl, h1⟩, h2⟩, h3⟩, h4⟩, h5⟩, h6⟩ := h
    exact s_app (C0.var h1 h2 h3) (M.e C0 h6) h4 rfl (by simpa using h5)
  · obtain ⟨⟨⟨⟨⟨⟨rfl, h1⟩, h2⟩, h3⟩, h4⟩, h5⟩, h6⟩ := h
    exact s_ext (C0.var h1 h2 h3) (M.e C0 h6) h4 rfl (by simpa using h5)
  · obtain ⟨⟨⟨⟨⟨⟨h1, h2⟩, h3⟩, h4⟩, h5⟩, h6⟩, h7⟩ := h
    exact s_seti u1 (C0.var h1 h2 h3) (M.e C0 h6) (M.e C0 h7) (asg_sub h4) (sws1 h5)
  · obtain ⟨⟨⟨⟨⟨rfl, h2⟩, h3⟩, h4⟩, h5⟩, h6⟩ := h
    obtain ⟨k, hl, he⟩ := pe_callF (C.fnf _ (by simpa using h2)) C.rm C.tk (C0.gl h3) (okN_ok h4).1 (mP_ok M C0 h6) h5
    exact s_callN hl (ps_expr he rfl)
  · obtain ⟨⟨⟨⟨⟨⟨⟨h0, h1⟩, rfl⟩, h2⟩, h3⟩, h4⟩, h5⟩, h6⟩ := h
    obtain ⟨q1, q2⟩ := C0.sto h1
    obtain ⟨k, hl, he⟩ := pe_callF (C.fnf _ (by simpa using h2)) C.rm C.tk (C0.gl h3) (okN_ok h4).1 (mP_ok M C0 h6) h5
    exact s_callA hl (ps_set hNd (by rw [C.hN]; exact h0) q1 he rfl q2)
  · exact s_expr (M.e C0 h.2) (sw_no h.1)
  · obtain ⟨⟨h1, h2⟩, h3⟩ := h
    exact s_retL (C0.var h1 h2 h3)
  · exact s_ret (M.e C0 h.2) h.1
  · exact s_retN
  · exact s_if (M.b C0 h.1.1) (S.ss C h.1.2) (S.ss C h.2)
  · obtain ⟨⟨⟨h1, h2⟩, h3⟩, h4⟩ := h
    exact s_for C.po C.cal (M.i C0 h1) (s_tgt C.hN C.nd C.cal (fun x h => C0.sto h) h3) (S.ss C h4) (notSet_ok h2)
  · exact s_while C.po (M.b C0 h.1) (S.ss C h.2)
  · obtain ⟨⟨⟨rfl, h1⟩, h2⟩, h3⟩ := h
    obtain ⟨A, bmB, B, newId, initId, F, q, gC, kC, r⟩ := C.exc _ (by simpa using h1)
    exact s_raise C.cal C.tk (pmk_own F q gC kC r (C0.gl h2) (okN_ok h3).1) gC
  · obtain ⟨⟨⟨⟨⟨rfl, h1⟩, h2⟩, h3⟩, h4⟩, h5⟩ := h
    obtain ⟨A, bmB, B, newId, initId, F, q, gC, kC, r⟩ := C.exc _ (by simpa using h1)
    refine s_try C.stk C.frm ⟨C0.gl h2, (okN_ok h3).1, .inl gC⟩ C.tk (fun y b cls e1 e2 => C.sub _ _ _ _ _ e1 e2 gC) (fun W' pn xe tk po => S.ss (C.tr pn xe tk po) h4) fun a oe cls d pn _ _ => ?_
    exact mH_ok (X := X.suite a ((a, oe) :: pn)) ⟨C.hN, C.nd, C.scp, C.fnl⟩ h5
  · cases h
end
theorem sok (N fns exs : List Str) (P : Pg) (lv : Nat) : ∀ n, Sok N fns exs P lv n
  | 0 => ⟨fun _ h => (by unfold mS at h; cases h), fun _ h => (by unfold mSs at h; cases h)⟩
  | n + 1 =>
    have S := sok N fns exs P lv n
    ⟨fun C h => S.sS C h, fun C h => S.sSs C h⟩
end Ev

set_option Elab.async false
set_option linter.all false
set_option maxRecDepth 100000
set_option maxHeartbeats 4000000
/-! Ev20: a def keeps the evaluator's promise; a table of defs. -/
namespace Ev
open PySem PySem.Spec PyProof.Rows L2
/-- a def that may be called, by what the context keeps -/
def FnG (P : Program) (w : World) (K : PySem.W.Frag) (mg : Str → Option Value) (base : Heap) (p : Pg) (lv : Nat) (f : Str) : Prop :=
  ∃ (fa : Addr) (fd : FuncData) (ps : List Str) (k : Nat), k ≤ lv ∧ FnOk P w K mg base (L2.CX P w) k fa fd ps (spD K mg ps.length (p.fn f)) ∧ mg f = some (.ref fa) ∧ PySem.W.keepIn K (.ref fa) = true ∧ Binds K fd ps [] ∧
    ∀ as h, p.fn f as h ≠ none → as.length = ps.length
theorem rss_at {K : PySem.W.Frag} {H : Hp} {F : Fb} {m : List Addr} : ∀ {ss : List SV} {vs : List V} {i : Nat} {s : SV}, RSs K H F m ss vs → ss[i]? = some s → ∃ v, vs[i]? = some v ∧ RS K H F m s v
  | [], _, i, s, _, e => by simp at e
  | t :: ss, _, 0, s, h, e => by
    obtain ⟨v, r, rfl, h1, _⟩ := h
    cases e
    exact ⟨v, rfl, h1⟩
  | t :: ss, _, i + 1, s, h, e => by
    obtain ⟨v, r, rfl, _, h2⟩ := h
    obtain ⟨w, e1, e2⟩ := rss_at (i := i) h2 (by simpa using e)
    exact ⟨w, by simpa using e1, e2⟩
theorem start_rl {K : PySem.W.Frag} {H : Hp} {B : Fb} {m : List Addr} {as : List SV} {h : OH} {vs : List V} {N : List Str} {d : Df} (R : Rh K H B m h) (rs : RSs K H (fb B m) m as vs) (hn : d.n = N.length) : Rl K H B m (Ev.start d as) h (L2.start N vs) := by
  have hl := RSs.length rs
  refine ⟨R, by simp only [Ev.start, L2.start, List.length_append, List.length_map, List.length_replicate, hn, hl], fun i s e => ?_⟩
  unfold Ev.start at e
  by_cases hi : i < as.length
  · rw [List.getElem?_append_left (by simpa using hi), List.getElem?_map] at e
    obtain ⟨s', e1, e2⟩ := Option.map_eq_some_iff.mp e
    cases e2
    obtain ⟨v, e3, e4⟩ := rss_at rs e1
    refine ⟨v, ?_, e4⟩
    unfold L2.start
    rw [List.getElem?_append_left (by simpa [← hl] using hi), List.getElem?_map, e3]
    rfl
  · rw [List.getElem?_append_right (by simpa using hi)] at e
    rw [List.getElem?_replicate] at e
    split at e <;> cases e
theorem run_ok {K : PySem.W.Frag} {mg : Str → Option Value} {p : Pg} {d : Df} {N ps : List Str} {vs : List V} {H : Hp} {Q : VK} {E : XK} (hn : d.n = N.length) (hp : d.ps = ps.length) (hd : d.dfl = []) (h : spD K mg ps.length (run p d) vs H Q E) :
    tSs K mg p (fun cls d _ H => E cls d H) d.body { nx := fun _ H' => Q .non H', rt := Q } (L2.start N vs) H := by
  obtain ⟨hl, B, m, as, oh, R, rs, g⟩ := h
  have hal : as.length = ps.length := by rw [RSs.length rs]; exact hl
  have hf : fill d as = some as := by
    unfold fill
    rw [if_pos (by rw [hd, hp, hal]; simp), hd]
    simp
  refine ⟨B, m, Ev.start d as, oh, start_rl R rs hn, ?_⟩
  unfold run at g
  rw [hf] at g
  dsimp only at g
  cases q : evSs p d.body (Ev.start d as) oh with
  | none => rw [q] at g; exact g
  | some r =>
    rw [q] at g
    obtain ⟨fl, σ', h'⟩ := r
    cases fl with
    | nx => exact fun τ' H' m' hp hn x R' => g .non H' m' hp hn x R'.toRh rfl
    | ret s => exact fun τ' H' m' hp hn x R' v rv => g v H' m' hp hn x R'.toRh rv
    | exc x =>
      intro τ' H' m' hp hn x R' cls d rx
      refine g cls d H' x (rx.weak fun b hb => ?_)
      rcases hb with hb | hb
      · exact .inl hb
      · exact .inr (hp.subset hb)
    | bk => exact g.elim
    | ct => exact g.elim
/-- what is around a table -/
structure Ard (P : Program) (w : World) (K : PySem.W.Frag) (mg : Str → Option Value) (esub : Str → Str → Option Bool) (exs : List Str) : Prop where
  blt : ∀ x ∈ bltNames, mg x = none
  exc : ∀ c ∈ exs, ∃ (C : Addr) (bmB : List Value) (B newId initId : String), ExcBaseFacts B newId initId bmB ∧ PySem.W.excIn K C bmB newId = true ∧ mg c = some (.ref C) ∧ PySem.W.keepIn K (.ref C) = true ∧
    PySem.W.subIn K (.ref C) (.type "BaseException") = some true ∧ PySem.W.typeIn K (.ref C) = some (.type "type")
  sub : ∀ y x b cy cx, esub y x = some b → mg y = some cy → mg x = some cx → PySem.W.exmOne K cy cx = some b
theorem fn_ok {P : Program} {w : World} {K : PySem.W.Frag} {mg : Str → Option Value} {base : Heap} {x : Str} {params : Arguments} {body : List Stmt} {scope : Scope} {kws : List (Str × V)} {f : Addr} {fd : FuncData} {N ps : List Str} {k n : Nat} {p : Pg} {d : Df} {fns exs : List Str}
    (F : FunD K x x params body scope [] kws f fd) (S : FnScope N ps scope) (hn : d.n = N.length) (hp : d.ps = ps.length) (hd : d.dfl = []) (A : Ard P w K mg p.esub exs) (hf : ∀ g ∈ fns, FnG P w K mg base p k g) (hc : mSs N fns exs n scope d.body body = true) :
    FnOk P w K mg base (L2.CX P w) (k + 1) f fd ps (spD K mg ps.length (run p d)) := by
  refine F.ok S (fun vs H Q E h => h.1) fun cdv A' outer s H vs Q E hr h => ⟨tSs K mg p (fun cls d _ H => E cls d H) d.body, ?_, run_ok hn hp hd h⟩
  refine (sok N fns exs p k n).ss (X := cxOf (L2.CX P w) P w K mg base N x scope f cdv A' outer s H E) (sc := scope) ?_ hc
  exact {
    hN := rfl
    nd := S.nd
    scp := rfl
    cal := rfl
    rm := hr
    tk := takes_of rfl rfl rfl rfl
    fnl := fun _ _ => rfl
    blt := A.blt
    fnf := fun g hg => ⟨hf g hg⟩
    po := passes_of rfl
    stk := rfl
    frm := rfl
    knd := S.kind
    exc := fun c hc => by
      obtain ⟨C, bmB, B, newId, initId, h1, h2, h3, h4, h5, h6⟩ := A.exc c hc
      exact ⟨C, bmB, B, newId, initId, h1, h2, h3, h4, raises_own h5 h6⟩
    sub := A.sub }
/-- a def of the program's top -/
structure Ent where
  nm : Str
  N : List Str
  ps : List Str
  df : Df
  st : Stmt
/-- the program with one more def -/
def Pg.add (p : Pg) (x : Str) (d : Df) : Pg := { p with fn := fun f as h => if f = x then run p d as h else p.fn f as h }
def pgOf (p0 : Pg) : List Ent → Pg
  | [] => p0
  | e :: r => (pgOf p0 r).add e.nm e.df
theorem pgOf_esub (p0 : Pg) : ∀ es, (pgOf p0 es).esub = p0.esub
  | [] => rfl
  | e :: r => pgOf_esub p0 r
def scopeB (N ps : List Str) (sc : Scope) : Bool :=
  (match sc.kind with | .function => true | _ => false) && !sc.isCoroutine && !sc.isGenerator && decide N.Nodup && decide (N.take ps.length = ps) && (ps.all fun x => visB sc x && !(match sc.names.lookup x with | some .free => true | _ => false)) && (sc.names.all fun y => decide (y.2 ≠ .free))
theorem scopeB_ok {N ps : List Str} {sc : Scope} (h : scopeB N ps sc = true) : FnScope N ps sc := by
  unfold scopeB at h
  simp only [Bool.and_eq_true, Bool.not_eq_true', decide_eq_true_eq, List.all_eq_true] at h
  obtain ⟨⟨⟨⟨⟨⟨h1, h2⟩, h3⟩, h4⟩, h5⟩, h6⟩, h7⟩ := h
  refine ⟨?_, h2, h3, h4, h5, fun x hx => ?_, h7⟩
  · split at h1
    · assumption
    · cases h1
  · obtain ⟨q1, q2⟩ := h6 x hx
    rcases visB_ok q1 with q | q | q
    · exact .inl q
    · exact .inr q
    · rw [q] at q2; cases q2
def entB (exs fns : List Str) (e : Ent) : Bool := scopeB e.N e.ps (defScope e.st) && decide (e.df.n = e.N.length) && decide (e.df.ps = e.ps.length) && e.df.dfl.isEmpty && !(fns.contains e.nm) && mSs e.N fns exs 200 (defScope e.st) e.df.body (defBody e.st)
def tabB (exs : List Str) : List Ent → Bool
  | [] => true
  | e :: r => entB exs (r.map (·.nm)) e && tabB exs r
/-- what the head tells of each -/
def TabF (K : PySem.W.Frag) (mg : Str → Option Value) : List Ent → Prop
  | [] => True
  | e :: r => (∃ fd, FunD K e.nm e.nm (defArgs e.st) (defBody e.st) (defScope e.st) [] [] (He.ga K e.nm) fd) ∧ mg e.nm = some (.ref (He.ga K e.nm)) ∧ TabF K mg r
def TabA : List Ent → Prop
  | [] => True
  | e :: r => (∀ (kV doc pm : Value) (an : Option Addr) (cdv ct : Value) (us : List Value), us.length = e.ps.length → bindArgs (PySem.W.fnOf e.nm e.nm (defArgs e.st) (defBody e.st) (defScope e.st) .none kV doc pm an cdv ct) ⟨us, []⟩ = pure (e.ps.zip us)) ∧ TabA r
theorem run_len {p : Pg} {d : Df} {as : List SV} {h : OH} (hd : d.dfl = []) (hr : run p d as h ≠ none) : as.length = d.ps := by
  unfold run fill at hr
  by_cases c : as.length ≤ d.ps ∧ d.ps ≤ as.length + d.dfl.length
  · rw [hd] at c
    simp at c
    omega
  · rw [if_neg c] at hr
    exact absurd rfl hr
theorem tab_ok {P : Program} {w : World} {K : PySem.W.Frag} {mg : Str → Option Value} {base : Heap} {p0 : Pg} {exs : List Str} (A : Ard P w K mg p0.esub exs) : ∀ (es : List Ent), tabB exs es = true → TabF K mg es → TabA es → ∀ f ∈ es.map (·.nm), FnG P w K mg base (pgOf p0 es) es.length f
  | [], _, _, _, f, hf => by cases hf
  | e :: r, hb, hF, hA, f, hf => by
    simp only [tabB, Bool.and_eq_true] at hb
    obtain ⟨⟨fd, F⟩, hm, hF2⟩ := hF
    obtain ⟨hA1, hA2⟩ := hA
    have ih := tab_ok (base := base) A r hb.2 hF2 hA2
    have he := hb.1
    unfold entB at he
    simp only [Bool.and_eq_true, Bool.not_eq_true', decide_eq_true_eq] at he
    obtain ⟨⟨⟨⟨⟨h1, h2⟩, h3⟩, h4⟩, h5⟩, h6⟩ := he
    have hd : e.df.dfl = [] := List.isEmpty_iff.mp h4
    have hnot : e.nm ∉ r.map (·.nm) := by
      intro q
      rw [show (List.contains (r.map (·.nm)) e.nm) = true from List.contains_iff_mem.mpr q] at h5
      cases h5
    by_cases c : f = e.nm
    · subst c
      have ok := fn_ok (p := pgOf p0 r) F (scopeB_ok h1) h2 h3 hd (by rw [pgOf_esub]; exact A) ih h6
      have efn : (pgOf p0 (e :: r)).fn e.nm = run (pgOf p0 r) e.df := by
        funext as h
        show (if e.nm = e.nm then _ else _) = _
        rw [if_pos rfl]
      refine ⟨_, fd, e.ps, r.length + 1, Nat.le_refl _, ?_, hm, F.kp, F.bindsN hA1, fun as h q => ?_⟩
      · rw [efn]; exact ok
      · rw [efn] at q
        rw [← h3]; exact run_len hd q
    · have hf' : f ∈ r.map (·.nm) := by
        rcases List.mem_cons.mp hf with q | q
        · exact absurd q c
        · exact q
      obtain ⟨fa, fd', ps, k, hk, g1, g2, g3, g4, g5⟩ := ih f hf'
      have efn : (pgOf p0 (e :: r)).fn f = (pgOf p0 r).fn f := by
        funext as h
        show (if f = e.nm then _ else _) = _
        rw [if_neg c]
      refine ⟨fa, fd', ps, k, Nat.le_succ_of_le hk, ?_, g2, g3, g4, ?_⟩
      · rw [efn]; exact g1
      · rw [efn]; exact g5
theorem tab_head {P : Program} {w : World} {K : PySem.W.Frag} {mg : Str → Option Value} {base : Heap} {p0 : Pg} {exs : List Str} {e : Ent} {r : List Ent} {f : Addr} {fd : FuncData} {kws : List (Str × V)} (A : Ard P w K mg p0.esub exs) (hb : tabB exs (e :: r) = true) (hF : TabF K mg r) (hA : TabA r)
    (F : FunD K e.nm e.nm (defArgs e.st) (defBody e.st) (defScope e.st) [] kws f fd) : FnOk P w K mg base (L2.CX P w) (r.length + 1) f fd e.ps (spD K mg e.ps.length ((pgOf p0 (e :: r)).fn e.nm)) := by
  simp only [tabB, Bool.and_eq_true] at hb
  have ih := tab_ok (base := base) A r hb.2 hF hA
  have he := hb.1
  unfold entB at he
  simp only [Bool.and_eq_true, Bool.not_eq_true', decide_eq_true_eq] at he
  obtain ⟨⟨⟨⟨⟨h1, h2⟩, h3⟩, h4⟩, h5⟩, h6⟩ := he
  have hd : e.df.dfl = [] := List.isEmpty_iff.mp h4
  have efn : (pgOf p0 (e :: r)).fn e.nm = run (pgOf p0 r) e.df := by
    funext as h
    show (if e.nm = e.nm then _ else _) = _
    rw [if_pos rfl]
  rw [efn]
  exact fn_ok (p := pgOf p0 r) F (scopeB_ok h1) h2 h3 hd (by rw [pgOf_esub]; exact A) ih h6
/-- a def that lets nothing out -/
def sp0 (sp : Sp) : Sp := fun vs H Q _ => sp vs H Q fun _ _ _ => False
theorem FnOk.cx0 {P : Program} {w : World} {K : PySem.W.Frag} {mg : Str → Option Value} {base : Heap} {k : Nat} {f : Addr} {fd : FuncData} {ps : List Str} {sp : Sp} (F : FnOk P w K mg base (L2.CX P w) k f fd ps sp) : FnOk P w K mg base L2.CX0 k f fd ps (sp0 sp) :=
  ⟨fun vs H Q E q => F.len vs H Q _ q, fun A outer s H args us vs Q E hr he hb hv hs => codeAny_mono (F.run A outer s H args us vs Q _ hr he hb hv hs) fun r s' q => by
    cases r with
    | error e =>
      obtain ⟨_, _, _, _, _, _, _, _, _, _, _, _, z⟩ := q
      exact z.elim
    | ok fl => cases fl <;> exact q⟩
/-- the law's call -/
theorem law_sp {K : PySem.W.Frag} {mg : Str → Option Value} {D : List SV → OH → R (SV × OH)} {H : Hp} {a : Addr} {ns : List Int} {E : XK} (hl : ns.length ≤ sizeLine) (hS : SqL K H a (ns.map V.int)) (hm : ∃ h', D [.d true (.lst (ns.map .int))] [] = some (.ok (.d false (.bl true), h'))) :
    spD K mg 1 D [.ref a] H (fun v _ => v = .bl true) E := by
  obtain ⟨h', e⟩ := hm
  refine ⟨rfl, fun _ => False, [], [.d true (.lst (ns.map .int))], [], ⟨fun b h => h.elim, fun a z => (by cases z), List.nodup_nil, rfl, fun n a o z => (by simp at z)⟩, ⟨.ref a, [], rfl, ?_, rfl⟩, ?_⟩
  · have rt : RT K H (fb (fun _ => False) []) (.lst (ns.map .int)) (.ref a) := ⟨a, ns.map V.int, rfl, hS, by rw [List.length_map]; exact hl, RVs.ints ns⟩
    exact RT.bor0 (fun b h => h) rt
  · rw [e]
    exact fun v H' m' _ _ _ _ rv => rv
end Ev

set_option Elab.async false
set_option linter.all false
/-! EvL: the evaluator's steps as equations. -/
namespace Ev
section
variable {P : Pg} {σ : St} {h : OH} {s : CS} {ss a b hb : List CS} {i n : Nat} {c k e : CE} {t : TN} {ts : List TN} {is : List Nat} {ms : List AM} {es : List CE} {f x : PySem.Str} {o : Op}
theorem L_nil : evSs P [] σ h = some (.nx, σ, h) := rfl
theorem L_cons : evSs P (s :: ss) σ h = seq (evS P s σ h) (evSs P ss) := by simp only [evSs]
theorem L_pass : evS P .pass σ h = some (.nx, σ, h) := by simp only [evS]
theorem L_brk : evS P .brk σ h = some (.bk, σ, h) := by simp only [evS]
theorem L_cont : evS P .cont σ h = some (.ct, σ, h) := by simp only [evS]
theorem L_asg : evS P (.asg (.nm i) e) σ h = val (ev P e σ h) σ h fun p => if flg σ e ≤ 1 then some (.nx, σ.set i (some (.d (decide (flg σ e = 1)) p)), h) else none := by simp only [evS]
theorem L_asgT : evS P (.asg (.tp ts) e) σ h = val (ev P e σ h) σ h fun p => if flg σ e = 0 then (bindT (.tp ts) p σ).map fun σ' => (.nx, σ', h) else none := by simp only [evS]
theorem L_new : evS P (.new i e) σ h = val (ev P e σ h) σ h fun p => (ownO p).map fun o => (.nx, σ.set i (some (.r h.length)), h ++ [o]) := by simp only [evS]
theorem L_par : evS P (.par is ms es) σ h = val (evP P ms es σ h) σ h fun r => (storeS is r.1 σ).map fun σ' => (.nx, σ', r.2) := by simp only [evS]
theorem L_expr : evS P (.expr e) σ h = val (ev P e σ h) σ h fun _ => some (.nx, σ, h) := by simp only [evS]
theorem L_retN : evS P .retN σ h = some (.ret (.d false .non), σ, h) := by simp only [evS]
theorem L_if : evS P (.if_ c a b) σ h = val (evT P c σ h) σ h fun t => if t then evSs P a σ h else evSs P b σ h := by simp only [evS]
theorem L_while : evS P (.while_ n c b) σ h = whileL (evT P c) (evSs P b) n σ h := by simp only [evS]
theorem L_raise : evS P (.raise_ x) σ h = some (.exc ⟨x, none⟩, σ, h) := by simp only [evS]
theorem L_for {xs : List PV} {v : PV} (h1 : ev P e σ h = some (.ok v)) (h2 : itemsOf v = some xs) (h3 : flgI σ e ≤ 1) : evS P (.for_ t e b) σ h = forL (evSs P b) t xs σ h := by
  simp only [evS, h1, val_ok, h2, if_pos h3]
theorem L_retE (hl : ∀ j, e ≠ .loc j) : evS P (.ret e) σ h = val (ev P e σ h) σ h fun p => if flg σ e = 0 then some (.ret (.d false p), σ, h) else none := by
  cases e <;> first | (exact absurd rfl (hl _)) | simp only [evS]
theorem L_retV {p : PV} (h1 : σ[i]? = some (some (.d false p))) : evS P (.ret (.loc i)) σ h = some (.ret (.d false p), σ, h) := by
  simp only [evS, slotR, h1, ev, viewS, Option.map_some, val_ok, flg, if_true]
theorem L_retR (h1 : σ[i]? = some (some (.r n))) : evS P (.ret (.loc i)) σ h = some (.ret (.r n), σ, h) := by
  simp only [evS, slotR, h1]
theorem L_app {xs : List PV} (h1 : σ[i]? = some (some (.r n))) (h2 : h[n]? = some (.l xs)) (h3 : xs.length < big) : evS P (.app i e) σ h = val (ev P e σ h) σ h fun p => if flg σ e = 0 then some (.nx, σ, h.set n (.l (xs ++ [p]))) else none := by
  simp only [evS, slotR, h1, h2, h3, and_true]
theorem L_aug {p : PV} {kk : Bool} (h1 : σ[i]? = some (some (.d kk p))) : evS P (.aug i o e) σ h = val (ev P e σ h) σ h fun y => (augI o p y).map fun j => (.nx, σ.set i (some (.d false (.int j))), h) := by
  simp only [evS, h1]
theorem L_try (h1 : evSs P a σ h = some (.nx, σ, h)) : evS P (.try_ a x hb) σ h = some (.nx, σ, h) := by simp only [evS, h1]
theorem L_tryX {z : Exn} {σ' : St} {h' : OH} (h1 : evSs P a σ h = some (.exc z, σ', h')) (h2 : P.esub z.cls x = some true) : evS P (.try_ a x hb) σ h = noExc (evSs P hb σ' h') := by simp only [evS, h1, h2]
theorem forL_nil {f : St → OH → O} {t : TN} {σ : St} {h : OH} : forL f t [] σ h = some (.nx, σ, h) := rfl
theorem forL_nx {f : St → OH → O} {t : TN} {x : PV} {xs : List PV} {σ σ1 σ2 : St} {h h2 : OH} (hb : bindT t x σ = some σ1) (hf : f σ1 h = some (.nx, σ2, h2)) : forL f t (x :: xs) σ h = forL f t xs σ2 h2 := by
  rw [forL, hb]
  simp only [hf]
theorem forL_ret {f : St → OH → O} {t : TN} {x : PV} {xs : List PV} {σ σ1 σ2 : St} {h h2 : OH} {s : SV} (hb : bindT t x σ = some σ1) (hf : f σ1 h = some (.ret s, σ2, h2)) : forL f t (x :: xs) σ h = some (.ret s, σ2, h2) := by
  rw [forL, hb]
  simp only [hf]
/-- a loop over what a list of things stands for, by an invariant of what is done -/
theorem forL_inv {α : Type} {f : St → OH → O} {t : TN} {c : α → PV} (I : List α → St → OH → Prop) : ∀ (xs done : List α) (σ : St) (h : OH), (∀ d x r σ h, done ++ xs = d ++ x :: r → I d σ h → ∃ σ1 σ2 h2, bindT t (c x) σ = some σ1 ∧ f σ1 h = some (.nx, σ2, h2) ∧ I (d ++ [x]) σ2 h2) →
    I done σ h → ∃ σ' h', forL f t (xs.map c) σ h = some (.nx, σ', h') ∧ I (done ++ xs) σ' h'
  | [], done, σ, h, _, hi => ⟨σ, h, rfl, by rw [List.append_nil]; exact hi⟩
  | x :: xs, done, σ, h, step, hi => by
    obtain ⟨σ1, σ2, h2, e1, e2, i2⟩ := step done x xs σ h rfl hi
    obtain ⟨σ', h', e3, i3⟩ := forL_inv I xs (done ++ [x]) σ2 h2 (fun d y r σ h e => step d y r σ h (by rw [← e]; simp)) i2
    exact ⟨σ', h', by rw [List.map_cons, forL_nx e1 e2]; exact e3, by rw [List.append_assoc] at i3; exact i3⟩
/-! ### a block's steps -/
variable {p q : PV} {j : Nat} {e2 : CE}
theorem S_asg (he : ev P e σ h = some (.ok p)) (hf : flg σ e = 0) : evSs P (.asg (.nm i) e :: ss) σ h = evSs P ss (σ.set i (some (.d false p))) h := by
  rw [L_cons, L_asg, he, val_ok, hf]
  rfl
theorem S_new {oo : OO} (he : ev P e σ h = some (.ok p)) (ho : ownO p = some oo) : evSs P (.new i e :: ss) σ h = evSs P ss (σ.set i (some (.r h.length))) (h ++ [oo]) := by
  rw [L_cons, L_new, he, val_ok, ho]
  rfl
theorem S_ret (he : ev P e σ h = some (.ok p)) (hf : flg σ e = 0) (hl : ∀ k, e ≠ .loc k) : evSs P (.ret e :: ss) σ h = some (.ret (.d false p), σ, h) := by
  rw [L_cons, L_retE hl, he, val_ok, hf]
  rfl
theorem S_par2 (he : ev P e σ h = some (.ok p)) (hf : flg σ e = 0) (he2 : ev P e2 σ h = some (.ok q)) (hf2 : flg σ e2 = 0) : evSs P (.par [i, j] [.v, .v] [e, e2] :: ss) σ h = evSs P ss ((σ.set i (some (.d false p))).set j (some (.d false q))) h := by
  rw [L_cons, L_par]
  simp only [evP, he, he2, hf, hf2, bnd_ok, Nat.zero_le, if_true, val_ok, storeS, Option.map_some, seq_nx]
  rfl
theorem S_expr (he : ev P e σ h = some (.ok p)) : evSs P (.expr e :: ss) σ h = evSs P ss σ h := by
  rw [L_cons, L_expr, he, val_ok]
  rfl
theorem S_ifT (he : evT P c σ h = some (.ok true)) : evSs P (.if_ c a b :: ss) σ h = seq (evSs P a σ h) (evSs P ss) := by
  rw [L_cons, L_if, he, val_ok, if_pos rfl]
theorem S_ifF (he : evT P c σ h = some (.ok false)) : evSs P (.if_ c a b :: ss) σ h = seq (evSs P b σ h) (evSs P ss) := by
  rw [L_cons, L_if, he, val_ok, if_neg (by decide)]
theorem S_for {xs : List PV} {v : PV} {σ' : St} {h' : OH} (h1 : ev P e σ h = some (.ok v)) (h2 : itemsOf v = some xs) (h3 : flgI σ e ≤ 1) (h4 : forL (evSs P b) t xs σ h = some (.nx, σ', h')) : evSs P (.for_ t e b :: ss) σ h = evSs P ss σ' h' := by
  rw [L_cons, L_for h1 h2 h3, h4]
  rfl
theorem run_ret {d : Df} {as : List SV} {s : SV} {σ' : St} {h' : OH} (hf : as.length = d.ps) (hd : d.dfl = []) (e : evSs P d.body (start d as) h = some (.ret s, σ', h')) : run P d as h = some (.ok (s, h')) := by
  unfold run fill
  rw [if_pos ⟨by omega, by omega⟩, hd]
  simp only [List.drop_nil, List.map_nil, List.append_nil, e]
end
end Ev

set_option Elab.async false
set_option linter.all false
/-! K02d: the defs of the law's text, for the evaluator. -/
namespace K02
open Ev
/-- is_content(thing): thing, one, other -/
def d_is_content : Df where
  ps := 1
  n := 3
  body := [
    .if_ (.not (.isi (.loc 0) [.b "tuple"])) [
      .ret (.cst (.bl false))] [],
    .if_ (.not (.bi .all [.comp (.and (.isi (.loc 1) [.b "int"]) (.and (.not (.isi (.loc 1) [.b "bool"])) (.cmp .ge (.loc 1) (.cst (.int 0))))) (.nm 1) (.loc 0) []])) [
      .ret (.cst (.bl false))] [],
    .ret (.bi .all [.comp (.cmp .lt (.loc 1) (.loc 2)) (.tp [.nm 1, .nm 2]) (.zip (.loc 0) (.slL (.loc 0) (.cst (.int 1)))) []])]
/-- plus(one, other): one, other, mine, letter -/
def d_plus : Df where
  ps := 2
  n := 4
  body := [
    .asg (.nm 2) (.comp (.loc 3) (.nm 3) (.loc 0) [.cmp .notIn (.loc 3) (.loc 1)]),
    .ret (.bi .tuple [.bi .sorted [.lst [.star (.loc 2), .star (.comp (.loc 3) (.nm 3) (.loc 1) [.cmp .notIn (.loc 3) (.loc 0)])]]])]
/-- sum_up(contents): contents, found, content -/
def d_sum_up : Df where
  ps := 1
  n := 3
  body := [
    .asg (.nm 1) (.tup []),
    .for_ (.nm 2) (.loc 0) [
      .asg (.nm 1) (.call "plus" [.loc 1, .loc 2])],
    .ret (.loc 1)]
/-- renamed(contents): contents, rows, found, many, content, rest, told, row -/
def d_renamed : Df where
  ps := 1
  n := 8
  body := [
    .par [1, 2, 3] [.n, .n, .v] [.dct0, .lst [], .cst (.int 0)],
    .for_ (.nm 4) (.loc 0) [
      .par [5, 6] [.v, .v] [.loc 4, .tup []],
      .while_ 1000 (.and (.cmp .ne (.loc 5) (.tup [])) (.cmp .in_ (.idx (.loc 5) (.neg (.cst (.int 1)))) (.loc 1))) [
        .asg (.nm 7) (.idx (.loc 1) (.idx (.loc 5) (.neg (.cst (.int 1))))),
        .par [5, 6] [.v, .v] [.call "plus" [.loc 5, .idx (.loc 7) (.cst (.int 0))], .call "plus" [.loc 6, .idx (.loc 7) (.cst (.int 1))]]],
      .if_ (.cmp .ne (.loc 5) (.tup [])) [
        .callS (some 6) "reduced" [.o, .v, .v, .v] [.loc 1, .loc 5, .loc 6, .loc 3],
        .aug 3 .add (.cst (.int 1))] [],
      .app 2 (.loc 6)],
    .ret (.loc 2)]
/-- reduced(rows, rest, told, letter): rows, rest, told, letter -/
def d_reduced : Df where
  ps := 4
  n := 4
  body := [
    .seti 0 (.idx (.loc 1) (.neg (.cst (.int 1)))) (.tup [.loc 1, .call "plus" [.loc 2, .tup [.loc 3]]]),
    .ret (.tup [.loc 3])]
/-- add(contents): contents, one -/
def d_add : Df where
  ps := 1
  n := 2
  body := [
    .if_ (.or (.not (.isi (.loc 0) [.b "list", .b "tuple"])) (.not (.bi .all [.comp (.call "is_content" [.loc 1]) (.nm 1) (.loc 0) []]))) [
      .raise_ "BadContent"] [],
    .ret (.call "sum_up" [.loc 0])]
/-- numbered_anew(contents): contents, one -/
def d_numbered_anew : Df where
  ps := 1
  n := 2
  body := [
    .if_ (.or (.not (.isi (.loc 0) [.b "list", .b "tuple"])) (.not (.bi .all [.comp (.call "is_content" [.loc 1]) (.nm 1) (.loc 0) []]))) [
      .raise_ "BadContent"] [],
    .ret (.call "renamed" [.loc 0])]
/-- _law_number(script, index): script, index, cells, cell, low, high, total, blend -/
def d_law_number : Df where
  ps := 2
  n := 8
  body := [
    .asg (.nm 2) (.ite (.cmp .ne (.loc 0) (.lst [])) (.slU (.loc 0) (.cst (.int 63))) (.lst [.cst (.int 5)])),
    .asg (.nm 3) (.bin .add (.idx (.loc 2) (.bin .mod (.bi .int [.loc 1]) (.bi .len [.loc 2]))) (.bin .mul (.cst (.int 13)) (.bin .fdiv (.loc 1) (.bi .len [.loc 2])))),
    .par [4, 5] [.v, .v] [.bin .mod (.bi .int [.loc 3]) (.cst (.int 1000003)), .bin .mod (.bi .int [.bin .fdiv (.loc 3) (.cst (.int 1000003))]) (.cst (.int 999983))],
    .asg (.nm 6) (.bin .mod (.bi .int [.bi .sum [.loc 2]]) (.cst (.int 65521))),
    .asg (.nm 7) (.bin .mod (.bi .int [.bin .add (.bin .add (.bin .mul (.bin .add (.loc 4) (.bin .mul (.cst (.int 977)) (.loc 1))) (.cst (.int 48271))) (.bin .mul (.cst (.int 31)) (.loc 5))) (.loc 6)]) (.cst (.int 2147483647))),
    .ret (.bin .add (.bin .mul (.bin .mod (.bi .int [.bin .mul (.loc 7) (.bin .add (.bin .add (.loc 7) (.bin .mul (.cst (.int 31)) (.loc 1))) (.cst (.int 7)))]) (.cst (.int 2147483629))) (.cst (.int 65537))) (.loc 5))]
/-- _law_total(contents): contents, letters, content, letter -/
def d_law_total : Df where
  ps := 1
  n := 4
  body := [
    .asg (.nm 1) (.lst []),
    .for_ (.nm 2) (.loc 0) [
      .asg (.nm 1) (.bin .add (.loc 1) (.bi .list [.loc 2]))],
    .ret (.bi .tuple [.comp (.loc 3) (.nm 3) (.bi .sset [.loc 1]) [.cmp .eq (.bin .mod (.bi .int [.cnt (.loc 1) (.loc 3)]) (.cst (.int 2))) (.cst (.int 1))]])]
/-- _law_content(seed, many): seed, many, letter -/
def d_law_content : Df where
  ps := 2
  n := 3
  body := [
    .ret (.bi .tuple [.comp (.loc 2) (.nm 2) (.range (.cst (.int 0)) (.loc 1)) [.cmp .eq (.bin .mod (.bi .int [.bin .fdiv (.loc 0) (.idx (.tup [.cst (.int 2), .cst (.int 5), .cst (.int 11), .cst (.int 23), .cst (.int 47), .cst (.int 95)]) (.loc 2))]) (.cst (.int 2))) (.cst (.int 0))]])]
/-- _law_sums(contents): contents, found, at, content, rows, spot, same, row, total_here -/
def d_law_sums : Df where
  ps := 1
  n := 9
  body := [
    .new 1 (.lst []),
    .for_ (.tp [.nm 2, .nm 3]) (.enum (.loc 0)) [
      .asg (.nm 4) (.lst [.tup [.tup [], .tup []]]),
      .for_ (.nm 5) (.range (.cst (.int 0)) (.loc 2)) [
        .asg (.nm 4) (.bin .add (.loc 4) (.comp (.tup [.bin .add (.loc 7) (.tup [.loc 5]), .call "_law_total" [.lst [.loc 8, .idx (.loc 0) (.loc 5)]]]) (.tp [.nm 7, .nm 8]) (.loc 4) []))],
      .asg (.nm 6) (.comp (.loc 7) (.tp [.nm 7, .nm 8]) (.loc 4) [.cmp .eq (.loc 8) (.loc 3)]),
      .app 1 (.ite (.cmp .ne (.loc 6) (.lst [])) (.bi .min [.loc 6]) (.cst .non))],
    .ret (.loc 1)]
/-- _law_right(script, at): script, at, many, contents, turn, late, mine, theirs, letter, spot, row, content -/
def d_law_right : Df where
  ps := 2
  n := 12
  body := [
    .asg (.nm 2) (.bin .add (.cst (.int 2)) (.bin .mod (.bi .int [.call "_law_number" [.loc 0, .loc 1]]) (.cst (.int 5)))),
    .new 3 (.comp (.call "_law_content" [.bi .int [.call "_law_number" [.loc 0, .bin .add (.bin .add (.loc 1) (.cst (.int 1))) (.loc 4)]], .loc 2]) (.nm 4) (.range (.cst (.int 0)) (.cst (.int 6))) []),
    .if_ (.cmp .eq (.bin .mod (.bi .int [.call "_law_number" [.loc 0, .bin .add (.loc 1) (.cst (.int 8))]]) (.cst (.int 2))) (.cst (.int 0))) [
      .seti 3 (.cst (.int 4)) (.call "_law_total" [.slU (.loc 3) (.cst (.int 3))])] [],
    .asg (.nm 5) (.call "numbered_anew" [.loc 3]),
    .if_ (.or (.cmp .ne (.call "numbered_anew" [.bi .tuple [.loc 3]]) (.loc 5)) (.or (.cmp .ne (.call "numbered_anew" [.loc 5]) (.loc 5)) (.cmp .ne (.bi .len [.loc 5]) (.bi .len [.loc 3])))) [
      .ret (.cst (.bl false))] [],
    .if_ (.or (.cmp .ne (.call "add" [.loc 3]) (.call "_law_total" [.loc 3])) (.cmp .ne (.call "add" [.bi .tuple [.slU (.loc 3) (.cst (.int 2))]]) (.call "_law_total" [.slU (.loc 3) (.cst (.int 2))]))) [
      .ret (.cst (.bl false))] [],
    .par [6, 7, 8] [.v, .v, .v] [.call "_law_sums" [.loc 3], .call "_law_sums" [.loc 5], .cst (.int 0)],
    .for_ (.tp [.nm 9, .nm 10]) (.enum (.loc 6)) [
      .if_ (.cmp .ne (.loc 10) (.idx (.loc 7) (.loc 9))) [
        .ret (.cst (.bl false))] [],
      .if_ (.cmp .isN (.loc 10) (.cst .non)) [
        .if_ (.cmp .ne (.idx (.loc 5) (.loc 9)) (.tup [.loc 8])) [
          .ret (.cst (.bl false))] [],
        .asg (.nm 8) (.bin .add (.loc 8) (.cst (.int 1)))] []],
    .ret (.cmp .lt (.bi .max [.bin .add (.lst [.cst (.int 0)]) (.comp (.idx (.loc 11) (.neg (.cst (.int 1)))) (.nm 11) (.loc 5) [.cmp .ne (.loc 11) (.tup [])])]) (.bi .max2 [.cst (.int 1), .loc 8]))]
/-- law(script): script, turn, thing, ask -/
def d_law : Df where
  ps := 1
  n := 4
  body := [
    .for_ (.nm 1) (.range (.cst (.int 0)) (.cst (.int 14))) [
      .if_ (.not (.call "_law_right" [.loc 0, .bin .mul (.cst (.int 20)) (.loc 1)])) [
        .ret (.cst (.bl false))] []],
    .for_ (.nm 2) (.tup [.cst .non, .cst (.int 5), .cst (.str "()"), .dct0, .lst [.cst (.int 5)], .lst [.tup [.cst (.int 1), .cst (.int 0)]], .lst [.tup [.cst (.int 0), .cst (.int 0)]], .lst [.tup [.cst (.bl true)]], .lst [.tup [.cst (.str "0")]], .lst [.tup [.neg (.cst (.int 1))]], .lst [.lst [.cst (.int 0)]], .tup [.tup [.cst (.int 0)], .cst .non]]) [
      .for_ (.nm 3) (.tup [.cst (.int 0), .cst (.int 1)]) [
        .try_ [
          .if_ (.cmp .eq (.loc 3) (.cst (.int 0))) [
            .expr (.call "add" [.loc 2])] [
            .expr (.call "numbered_anew" [.loc 2])],
          .ret (.cst (.bl false))] "BadContent" [
          .pass]]],
    .ret (.and (.cmp .eq (.call "add" [.lst []]) (.tup [])) (.and (.cmp .eq (.call "numbered_anew" [.lst []]) (.lst [])) (.cmp .eq (.call "add" [.lst [.tup [.cst (.int 7), .cst (.int 9)]]]) (.tup [.cst (.int 7), .cst (.int 9)]))))]
end K02

set_option Elab.async false
set_option linter.all false
set_option maxRecDepth 100000
set_option maxHeartbeats 4000000
/-! K02c: what the defs compute. -/
namespace K02
open Ev
/-- a content -/
abbrev cI (xs : List Int) : PV := .tup (xs.map PV.int)
theorem areData_ints : ∀ xs : List Int, areData (xs.map PV.int) = true
  | [] => rfl
  | x :: xs => by simp only [List.map_cons, areData, isData, areData_ints xs, Bool.and_self]
theorem depths_ints : ∀ xs : List Int, depths (xs.map PV.int) = 0
  | [] => rfl
  | x :: xs => by simp only [List.map_cons, depths, depth, depths_ints xs, Nat.max_self]
theorem cmpOk_int (i : Int) : cmpOk (.int i) = true := rfl
theorem cmpOk_lst (xs : List Int) : cmpOk (.lst (xs.map PV.int)) = true := by
  simp only [cmpOk, isData, depth, areData_ints, depths_ints]; rfl
theorem cmpOk_cI (xs : List Int) : cmpOk (.tup (xs.map PV.int)) = true := by
  simp only [cmpOk, isData, depth, areData_ints, depths_ints]; rfl
theorem inSeq_ints (i : Int) : ∀ xs : List Int, inSeq (.int i) (xs.map PV.int) = decide (i ∈ xs)
  | [] => rfl
  | x :: xs => by
    show (peq (.int x) (.int i) || inSeq (.int i) (xs.map PV.int)) = _
    rw [inSeq_ints i xs]
    simp only [peq]
    by_cases e : x = i
    · subst e; simp
    · have e2 : (x == i) = false := by simpa using e
      rw [e2]
      simp [Ne.symm e]
theorem isIn_ints (i : Int) (xs : List Int) : isIn (.int i) (.tup (xs.map PV.int)) = some (decide (i ∈ xs)) := by
  simp only [isIn, cmpOk_int, cmpOk_lst, Bool.and_self, if_true, inSeq_ints]
theorem asInts_ints : ∀ xs : List Int, asInts (xs.map PV.int) = some xs
  | [] => rfl
  | x :: xs => by simp only [List.map_cons, asInts, asInts_ints xs, Option.map_some]
theorem compL_eq {α : Type} {f : St → R (Option PV)} {t : TN} {σ : St} {c : α → PV} {g : α → Option PV} : ∀ {xs : List α}, (∀ x ∈ xs, ∃ σ', bindT t (c x) σ = some σ' ∧ f σ' = ok (g x)) → compL f t σ (xs.map c) = ok (xs.filterMap g)
  | [], _ => rfl
  | x :: xs, h => by
    obtain ⟨σ', h1, h2⟩ := h x List.mem_cons_self
    have ih := compL_eq (f := f) (g := g) (c := c) fun y hy => h y (List.mem_cons_of_mem _ hy)
    simp only [List.map_cons, compL, h1, h2, bnd_ok, ih]
    cases e : g x with
    | none => rw [List.filterMap_cons_none e]
    | some y => rw [List.filterMap_cons_some e]
/-- over ints, with a test -/
theorem compL_ints {f : St → R (Option PV)} {k : Nat} {σ : St} {xs : List Int} (p : Int → Bool) (g : Int → PV) (h : ∀ i ∈ xs, f (σ.set k (some (.d false (.int i)))) = ok (if p i then some (g i) else none)) : compL f (.nm k) σ (xs.map PV.int) = ok ((xs.filter p).map g) := by
  rw [compL_eq (c := PV.int) (g := fun i => if p i then some (g i) else none) fun x hx => ⟨_, rfl, h x hx⟩]
  congr 2
  clear h
  induction xs with
  | nil => rfl
  | cons x xs ih =>
    simp only [List.filterMap_cons, List.filter_cons]
    cases p x <;> simp [ih]
theorem bi1_sorted (xs : List Int) : bi1 .sorted (.lst (xs.map PV.int)) = some (.lst ((sortI xs).map PV.int)) := by simp only [bi1, asInts_ints, Option.map_some]
theorem bi1_tuple (xs : List PV) : bi1 .tuple (.lst xs) = some (.tup xs) := rfl
theorem bi1_list (xs : List PV) : bi1 .list (.tup xs) = some (.lst xs) := rfl
theorem bi1_len (xs : List PV) : bi1 .len (.lst xs) = some (.int xs.length) := rfl
theorem bi1_lenT (xs : List PV) : bi1 .len (.tup xs) = some (.int xs.length) := rfl
theorem bi1_int (i : Int) : bi1 .int (.int i) = some (.int i) := rfl
/-- plus of contents -/
def plusL (xs ys : List Int) : List Int := sortI (xs.filter (fun i => !decide (i ∈ ys)) ++ ys.filter fun i => !decide (i ∈ xs))
theorem run_plus (P : Pg) (a b : Bool) (xs ys : List Int) (h : OH) (hx : xs.length + ys.length ≤ big) : run P d_plus [.d a (cI xs), .d b (cI ys)] h = ok (.d false (cI (plusL xs ys)), h) := by
  simp (config := { decide := true }) only [d_plus, run, fill, List.length_cons, List.length_nil, start, List.map_cons, List.map_nil, List.replicate, List.cons_append, List.nil_append, List.drop_nil, List.append_nil, if_true]
  simp (config := { decide := true }) only [L_nil, L_cons, L_pass, L_brk, L_cont, L_asg, L_asgT, L_new, L_par, L_expr, L_retN, L_if, L_raise, ev, evs, evC, evT, List.getElem?_cons_zero, List.getElem?_cons_succ, viewS, Option.map_some, Option.bind_some, bnd_ok, itemsOf, seqOf, listOf, asInt, withO_some, wipeS, slotsT, List.set_cons_zero, List.set_cons_succ, calm, val_ok, seq_nx, seq_ret, flg, flgs, flgI, truth, bi1_sorted, bi1_tuple, bi1_list, bi1_len, bi1_lenT, bi1_int, asInts_ints, cm2, isIn_ints, argsOf, told, toldS, bindT, decide_false, decide_true, if_true]
  rw [compL_ints (xs := xs) (fun i => !decide (i ∈ ys)) PV.int]
  · simp (config := { decide := true }) only [L_nil, L_cons, L_pass, L_brk, L_cont, L_asg, L_asgT, L_new, L_par, L_expr, L_retN, L_if, L_raise, ev, evs, evC, evT, List.getElem?_cons_zero, List.getElem?_cons_succ, viewS, Option.map_some, Option.bind_some, bnd_ok, itemsOf, seqOf, listOf, asInt, withO_some, wipeS, slotsT, List.set_cons_zero, List.set_cons_succ, calm, val_ok, seq_nx, seq_ret, flg, flgs, flgI, truth, bi1_sorted, bi1_tuple, bi1_list, bi1_len, bi1_lenT, bi1_int, asInts_ints, cm2, isIn_ints, argsOf, told, toldS, bindT, decide_false, decide_true, if_true]
    rw [L_retE (by intro j q; cases q)]
    simp (config := { decide := true }) only [L_nil, L_cons, L_pass, L_brk, L_cont, L_asg, L_asgT, L_new, L_par, L_expr, L_retN, L_if, L_raise, ev, evs, evC, evT, List.getElem?_cons_zero, List.getElem?_cons_succ, viewS, Option.map_some, Option.bind_some, bnd_ok, itemsOf, seqOf, listOf, asInt, withO_some, wipeS, slotsT, List.set_cons_zero, List.set_cons_succ, calm, val_ok, seq_nx, seq_ret, flg, flgs, flgI, truth, bi1_sorted, bi1_tuple, bi1_list, bi1_len, bi1_lenT, bi1_int, asInts_ints, cm2, isIn_ints, argsOf, told, toldS, bindT, decide_false, decide_true, if_true]
    rw [compL_ints (xs := ys) (fun i => !decide (i ∈ xs)) PV.int]
    · simp (config := { decide := true }) only [L_nil, L_cons, L_pass, L_brk, L_cont, L_asg, L_asgT, L_new, L_par, L_expr, L_retN, L_if, L_raise, ev, evs, evC, evT, List.getElem?_cons_zero, List.getElem?_cons_succ, viewS, Option.map_some, Option.bind_some, bnd_ok, itemsOf, seqOf, listOf, asInt, withO_some, wipeS, slotsT, List.set_cons_zero, List.set_cons_succ, calm, val_ok, seq_nx, seq_ret, flg, flgs, flgI, truth, bi1_sorted, bi1_tuple, bi1_list, bi1_len, bi1_lenT, bi1_int, asInts_ints, cm2, isIn_ints, argsOf, told, toldS, bindT, decide_false, decide_true, if_true]
      have hl : (List.map PV.int (xs.filter fun i => !decide (i ∈ ys)) ++ (List.map PV.int (ys.filter fun i => !decide (i ∈ xs)) ++ [])).length ≤ big ∧ True := by
        refine ⟨?_, trivial⟩
        simp only [List.length_append, List.length_map, List.length_nil]
        have h1 := List.length_filter_le (fun i => !decide (i ∈ ys)) xs
        have h2 := List.length_filter_le (fun i => !decide (i ∈ xs)) ys
        omega
      rw [if_pos hl, List.append_nil, ← List.map_append]
      simp (config := { decide := true }) only [L_nil, L_cons, L_pass, L_brk, L_cont, L_asg, L_asgT, L_new, L_par, L_expr, L_retN, L_if, L_raise, ev, evs, evC, evT, List.getElem?_cons_zero, List.getElem?_cons_succ, viewS, Option.map_some, Option.bind_some, bnd_ok, itemsOf, seqOf, listOf, asInt, withO_some, wipeS, slotsT, List.set_cons_zero, List.set_cons_succ, calm, val_ok, seq_nx, seq_ret, flg, flgs, flgI, truth, bi1_sorted, bi1_tuple, bi1_list, bi1_len, bi1_lenT, bi1_int, asInts_ints, cm2, isIn_ints, argsOf, told, toldS, bindT, decide_false, decide_true, if_true]
      rfl
    · intro i hi
      simp only [L_nil, L_cons, L_pass, L_brk, L_cont, L_asg, L_asgT, L_new, L_par, L_expr, L_retN, L_if, L_raise, ev, evs, evC, evT, List.getElem?_cons_zero, List.getElem?_cons_succ, viewS, Option.map_some, Option.bind_some, bnd_ok, itemsOf, seqOf, listOf, asInt, withO_some, wipeS, slotsT, List.set_cons_zero, List.set_cons_succ, calm, val_ok, seq_nx, seq_ret, flg, flgs, flgI, truth, bi1_sorted, bi1_tuple, bi1_list, bi1_len, bi1_lenT, bi1_int, asInts_ints, cm2, isIn_ints, argsOf, told, toldS, bindT, decide_false, decide_true]
      cases decide (i ∈ xs) <;> rfl
  · intro i hi
    simp only [L_nil, L_cons, L_pass, L_brk, L_cont, L_asg, L_asgT, L_new, L_par, L_expr, L_retN, L_if, L_raise, ev, evs, evC, evT, List.getElem?_cons_zero, List.getElem?_cons_succ, viewS, Option.map_some, Option.bind_some, bnd_ok, itemsOf, seqOf, listOf, asInt, withO_some, wipeS, slotsT, List.set_cons_zero, List.set_cons_succ, calm, val_ok, seq_nx, seq_ret, flg, flgs, flgI, truth, bi1_sorted, bi1_tuple, bi1_list, bi1_len, bi1_lenT, bi1_int, asInts_ints, cm2, isIn_ints, argsOf, told, toldS, bindT, decide_false, decide_true]
    cases decide (i ∈ ys) <;> rfl
/-- a content of letters below 64 -/
structure Con (xs : List Int) : Prop where
  srt : xs.Pairwise (· < ·)
  rng : ∀ i ∈ xs, 0 ≤ i ∧ i < 64
theorem insI_mem (x y : Int) : ∀ l : List Int, y ∈ insI x l ↔ y = x ∨ y ∈ l
  | [] => by simp [insI]
  | z :: r => by
    unfold insI
    split
    · simp
    · rw [List.mem_cons, insI_mem x y r, List.mem_cons]
      constructor
      · rintro (h | h | h) <;> simp [h]
      · rintro (h | h | h) <;> simp [h]
theorem sortI_mem (y : Int) : ∀ l : List Int, y ∈ sortI l ↔ y ∈ l
  | [] => Iff.rfl
  | x :: r => by unfold sortI; rw [insI_mem, sortI_mem y r, List.mem_cons]
theorem insI_strict (x : Int) : ∀ {l : List Int}, l.Pairwise (· < ·) → x ∉ l → (insI x l).Pairwise (· < ·)
  | [], _, _ => by simp [insI]
  | y :: r, h, hx => by
    obtain ⟨h1, h2⟩ := List.pairwise_cons.mp h
    unfold insI
    split
    · rename_i hle
      refine List.pairwise_cons.mpr ⟨fun z hz => ?_, h⟩
      have hne : x ≠ y := fun e => hx (by simp [e])
      rcases List.mem_cons.mp hz with e | hz
      · subst e; omega
      · have := h1 z hz; omega
    · rename_i hle
      refine List.pairwise_cons.mpr ⟨fun z hz => ?_, insI_strict x h2 fun q => hx (List.mem_cons_of_mem _ q)⟩
      rcases (insI_mem x z r).mp hz with e | hz
      · subst e; omega
      · exact h1 z hz
theorem sortI_strict : ∀ {l : List Int}, l.Nodup → (sortI l).Pairwise (· < ·)
  | [], _ => List.Pairwise.nil
  | x :: r, h => by
    obtain ⟨h1, h2⟩ := List.nodup_cons.mp h
    unfold sortI
    exact insI_strict x (sortI_strict h2) fun q => h1 ((sortI_mem x r).mp q)
theorem strict_nodup {l : List Int} (h : l.Pairwise (· < ·)) : l.Nodup := h.imp fun q => Int.ne_of_lt q
/-- strictly sorted lists are told by their members -/
theorem strict_ext : ∀ {a b : List Int}, a.Pairwise (· < ·) → b.Pairwise (· < ·) → (∀ x, x ∈ a ↔ x ∈ b) → a = b
  | [], [], _, _, _ => rfl
  | [], y :: b, _, _, h => by have := (h y).mpr (by simp); cases this
  | x :: a, [], _, _, h => by have := (h x).mp (by simp); cases this
  | x :: a, y :: b, ha, hb, h => by
    obtain ⟨a1, a2⟩ := List.pairwise_cons.mp ha
    obtain ⟨b1, b2⟩ := List.pairwise_cons.mp hb
    have exy : x = y := by
      have hx := (h x).mp (by simp)
      have hy := (h y).mpr (by simp)
      rcases List.mem_cons.mp hx with e | hx
      · exact e
      · rcases List.mem_cons.mp hy with e | hy
        · exact e.symm
        · have := b1 x hx; have := a1 y hy; omega
    subst exy
    congr 1
    refine strict_ext a2 b2 fun z => ⟨fun hz => ?_, fun hz => ?_⟩
    · have := (h z).mp (List.mem_cons_of_mem _ hz)
      rcases List.mem_cons.mp this with e | q
      · subst e; have := a1 z hz; omega
      · exact q
    · have := (h z).mpr (List.mem_cons_of_mem _ hz)
      rcases List.mem_cons.mp this with e | q
      · subst e; have := b1 z hz; omega
      · exact q
theorem plusL_mem (xs ys : List Int) (z : Int) : z ∈ plusL xs ys ↔ (z ∈ xs ∧ z ∉ ys) ∨ (z ∈ ys ∧ z ∉ xs) := by
  unfold plusL
  rw [sortI_mem]
  simp
theorem plusL_con {xs ys : List Int} (hx : Con xs) (hy : Con ys) : Con (plusL xs ys) := by
  refine ⟨sortI_strict ?_, fun i hi => ?_⟩
  · refine List.nodup_append.mpr ⟨(strict_nodup hx.srt).filter _, (strict_nodup hy.srt).filter _, fun a ha b hb e => ?_⟩
    subst e
    simp at ha hb
    exact ha.2 hb.1
  · rcases (plusL_mem xs ys i).mp hi with h | h
    · exact hx.rng i h.1
    · exact hy.rng i h.1
theorem strict_len : ∀ (n : Nat) (lo : Int) {xs : List Int}, xs.Pairwise (· < ·) → (∀ i ∈ xs, lo ≤ i ∧ i < lo + n) → xs.length ≤ n
  | n, lo, [], _, _ => Nat.zero_le _
  | 0, lo, x :: xs, _, h => by have := h x (by simp); omega
  | n + 1, lo, x :: xs, hp, h => by
    obtain ⟨h1, h2⟩ := List.pairwise_cons.mp hp
    have hx := h x (by simp)
    have := strict_len n (lo + 1) h2 fun i hi => by
      have a := h1 i hi
      have b := h i (List.mem_cons_of_mem _ hi)
      omega
    simp; omega
theorem Con.len {xs : List Int} (h : Con xs) : xs.length ≤ 64 := strict_len 64 0 h.srt fun i hi => by have := h.rng i hi; omega
theorem plus_big {xs ys : List Int} (hx : Con xs) (hy : Con ys) : xs.length + ys.length ≤ big := by
  have := hx.len; have := hy.len; unfold big; omega
/-- what the program around knows of plus -/
def PlusOk (P : Pg) : Prop := ∀ a b xs ys h, Con xs → Con ys → P.fn "plus" [.d a (cI xs), .d b (cI ys)] h = ok (.d false (cI (plusL xs ys)), h)
/-- rows of contents, as a list or a tuple -/
def cR (t : Bool) (cs : List (List Int)) : PV := if t then .tup (cs.map cI) else .lst (cs.map cI)
theorem items_cR (t : Bool) (cs : List (List Int)) : itemsOf (cR t cs) = some (cs.map cI) := by cases t <;> rfl
theorem nil_con : Con [] := ⟨List.Pairwise.nil, fun i hi => by cases hi⟩
theorem run_sum_up {P : Pg} (hP : PlusOk P) (a : Bool) (t : Bool) (cs : List (List Int)) (h : OH) (hc : ∀ c ∈ cs, Con c) : run P d_sum_up [.d a (cR t cs)] h = ok (.d false (cI (cs.foldl plusL [])), h) := by
  simp (config := { decide := true }) only [d_sum_up, run, fill, List.length_cons, List.length_nil, start, List.map_cons, List.map_nil, List.replicate, List.cons_append, List.nil_append, List.drop_nil, List.append_nil, if_true]
  simp (config := { decide := true }) only [L_nil, L_cons, L_pass, L_brk, L_cont, L_asg, L_asgT, L_new, L_par, L_expr, L_retN, L_if, L_raise, ev, evs, evC, evT, List.getElem?_cons_zero, List.getElem?_cons_succ, viewS, Option.map_some, Option.bind_some, bnd_ok, itemsOf, seqOf, listOf, asInt, withO_some, wipeS, slotsT, List.set_cons_zero, List.set_cons_succ, calm, val_ok, seq_nx, seq_ret, flg, flgs, flgI, truth, bi1_sorted, bi1_tuple, bi1_list, bi1_len, bi1_lenT, bi1_int, asInts_ints, cm2, isIn_ints, argsOf, told, toldS, bindT, decide_false, decide_true, List.length_nil, Nat.zero_le, true_and, if_true]
  rw [L_for (v := cR t cs) (xs := cs.map cI) (by simp only [L_nil, L_cons, L_pass, L_brk, L_cont, L_asg, L_asgT, L_new, L_par, L_expr, L_retN, L_if, L_raise, ev, evs, evC, evT, List.getElem?_cons_zero, List.getElem?_cons_succ, viewS, Option.map_some, Option.bind_some, bnd_ok, itemsOf, seqOf, listOf, asInt, withO_some, wipeS, slotsT, List.set_cons_zero, List.set_cons_succ, calm, val_ok, seq_nx, seq_ret, flg, flgs, flgI, truth, bi1_sorted, bi1_tuple, bi1_list, bi1_len, bi1_lenT, bi1_int, asInts_ints, cm2, isIn_ints, argsOf, told, toldS, bindT, decide_false, decide_true]) (items_cR t cs) (by cases a <;> simp [flgI, flg])]
  have hf : ∀ (l : List (List Int)) (acc : List Int), (∀ c ∈ l, Con c) → Con acc → Con (l.foldl plusL acc) := by
    intro l
    induction l with
    | nil => exact fun acc _ h => h
    | cons y l ih => exact fun acc hl ha => ih _ (fun c hc => hl c (List.mem_cons_of_mem _ hc)) (plusL_con ha (hl y (by simp)))
  have step : ∀ (d : List (List Int)) x r σ h2, [] ++ cs = d ++ x :: r → (∃ s, σ = [some (SV.d a (cR t cs)), some (SV.d false (cI (d.foldl plusL []))), s] ∧ h2 = h) →
      ∃ σ1 σ2 h3, bindT (.nm 2) (cI x) σ = some σ1 ∧ evSs P [.asg (.nm 1) (.call "plus" [.loc 1, .loc 2])] σ1 h2 = some (.nx, σ2, h3) ∧ ∃ s, σ2 = [some (SV.d a (cR t cs)), some (SV.d false (cI ((d ++ [x]).foldl plusL []))), s] ∧ h3 = h := by
    rintro d x r σ h2 e ⟨s, rfl, rfl⟩
    rw [List.nil_append] at e
    have hd : ∀ c ∈ d, Con c := fun c hcd => hc c (by rw [e]; simp [hcd])
    have hx : Con x := hc x (by rw [e]; simp)
    refine ⟨_, _, _, rfl, ?_, some (.d false (cI x)), rfl, rfl⟩
    have ep := hP false false (d.foldl plusL []) x [] (hf d [] hd nil_con) hx
    simp (config := { decide := true }) only [L_nil, L_cons, L_pass, L_brk, L_cont, L_asg, L_asgT, L_new, L_par, L_expr, L_retN, L_if, L_raise, ev, evs, evC, evT, List.getElem?_cons_zero, List.getElem?_cons_succ, viewS, Option.map_some, Option.bind_some, bnd_ok, itemsOf, seqOf, listOf, asInt, withO_some, wipeS, slotsT, List.set_cons_zero, List.set_cons_succ, calm, val_ok, seq_nx, seq_ret, flg, flgs, flgI, truth, bi1_sorted, bi1_tuple, bi1_list, bi1_len, bi1_lenT, bi1_int, asInts_ints, cm2, isIn_ints, argsOf, told, toldS, bindT, decide_false, decide_true, if_true, ep, List.foldl_append, List.foldl_cons, List.foldl_nil]
  obtain ⟨σ', h', e, s', e1, e2⟩ := forL_inv (f := evSs P [.asg (.nm 1) (.call "plus" [.loc 1, .loc 2])]) (t := .nm 2) (c := cI) _ cs [] [some (.d a (cR t cs)), some (.d false (.tup [])), none] h step ⟨none, rfl, rfl⟩
  rw [List.nil_append] at e1
  subst e1 e2
  rw [e]
  simp only [seq_nx, L_cons]
  rw [L_retV (p := cI (cs.foldl plusL [])) rfl]
  rfl
/-! ### is_content -/
theorem zipP_ints : ∀ (xs ys : List Int), zipP (xs.map PV.int) (ys.map PV.int) = (xs.zip ys).map fun p => .tup [.int p.1, .int p.2]
  | [], _ => by simp [zipP]
  | _ :: _, [] => by simp [zipP]
  | x :: xs, y :: ys => by simp only [List.map_cons, zipP, zipP_ints xs ys, List.zip_cons_cons]
theorem asBls_map {α : Type} (g : α → Bool) : ∀ xs : List α, asBls (xs.map fun x => PV.bl (g x)) = some (xs.map g)
  | [] => rfl
  | x :: xs => by simp only [List.map_cons, asBls, asBls_map g xs, Option.map_some]
theorem bi1_all {α : Type} (g : α → Bool) (xs : List α) : bi1 .all (.lst (xs.map fun x => PV.bl (g x))) = some (.bl (xs.all g)) := by
  simp only [bi1, asBls_map, Option.map_some]
  congr 2
  induction xs with
  | nil => rfl
  | cons x xs ih => simp only [List.map_cons, List.all_cons, ih, id]
theorem fm_some {α β : Type} (g : α → β) : ∀ xs : List α, xs.filterMap (fun x => some (g x)) = xs.map g
  | [] => rfl
  | x :: xs => by simp only [List.filterMap_cons, fm_some g xs, List.map_cons]
theorem zip_lt : ∀ {xs : List Int}, xs.Pairwise (· < ·) → ((xs.zip (xs.drop 1)).all fun p => decide (p.1 < p.2)) = true
  | [], _ => rfl
  | [x], _ => rfl
  | x :: y :: r, h => by
    obtain ⟨h1, h2⟩ := List.pairwise_cons.mp h
    have ih := zip_lt h2
    simp only [List.drop_succ_cons, List.drop_zero] at ih ⊢
    rw [List.zip_cons_cons, List.all_cons, ih, decide_eq_true (h1 y (by simp))]
    rfl
theorem cut1 (xs : List PV) : cut xs (some 1) none = xs.drop 1 := by
  unfold cut sEnd
  simp only [show ¬ ((1 : Int) < 0) by decide, if_false, show (1 : Int).toNat = 1 from rfl]
  cases xs with
  | nil => rfl
  | cons x r =>
    have e : min 1 (x :: r).length = 1 := by simp
    rw [e, List.take_of_length_le]
    simp
theorem run_is_content (P : Pg) (a : Bool) (xs : List Int) (h : OH) (hc : Con xs) : run P d_is_content [.d a (cI xs)] h = ok (.d false (.bl true), h) := by
  simp (config := { decide := true }) only [d_is_content, run, fill, List.length_cons, List.length_nil, start, List.map_cons, List.map_nil, List.replicate, List.cons_append, List.nil_append, List.drop_nil, List.append_nil, if_true]
  have e1 : ∀ (σ : St), σ[0]? = some (some (.d a (cI xs))) → evT P (.not (.isi (.loc 0) [.b "tuple"])) σ h = ok false := by
    intro σ hs
    simp only [evT, ev, hs, viewS, Option.map_some, bnd_ok, hasTy, if_true, List.any_cons, List.any_nil, isTk, isTy, truth]
    rfl
  simp only [L_cons, L_if]
  rw [e1 _ rfl]
  simp only [val_ok, Bool.false_eq_true, if_false, L_nil, seq_nx]
  have e2 : evT P (.not (.bi .all [.comp (.and (.isi (.loc 1) [.b "int"]) (.and (.not (.isi (.loc 1) [.b "bool"])) (.cmp .ge (.loc 1) (.cst (.int 0))))) (.nm 1) (.loc 0) []])) [some (.d a (cI xs)), none, none] h = ok false := by
    simp (config := { decide := true }) only [L_nil, L_cons, L_pass, L_brk, L_cont, L_asg, L_asgT, L_new, L_par, L_expr, L_retN, L_if, L_raise, ev, evs, evC, evT, List.getElem?_cons_zero, List.getElem?_cons_succ, viewS, Option.map_some, Option.bind_some, bnd_ok, itemsOf, seqOf, listOf, asInt, withO_some, wipeS, slotsT, List.set_cons_zero, List.set_cons_succ, calm, val_ok, seq_nx, seq_ret, flg, flgs, flgI, truth, bi1_sorted, bi1_tuple, bi1_list, bi1_len, bi1_lenT, bi1_int, asInts_ints, cm2, isIn_ints, argsOf, told, toldS, bindT, decide_false, decide_true, if_true]
    rw [compL_ints (xs := xs) (fun _ => true) (fun i => PV.bl (decide (0 ≤ i)))]
    · have ef : xs.filter (fun _ => true) = xs := List.filter_eq_self.mpr fun _ _ => rfl
      simp only [calm, bnd_ok, ef, bi1_all, Option.map_some, truth]
      have ha : (xs.all fun i => decide (0 ≤ i)) = true := List.all_eq_true.mpr fun i hi => decide_eq_true (hc.rng i hi).1
      rw [ha]
      rfl
    · intro i hi
      simp (config := { decide := true }) only [L_nil, L_cons, L_pass, L_brk, L_cont, L_asg, L_asgT, L_new, L_par, L_expr, L_retN, L_if, L_raise, ev, evs, evC, evT, List.getElem?_cons_zero, List.getElem?_cons_succ, viewS, Option.map_some, Option.bind_some, bnd_ok, itemsOf, seqOf, listOf, asInt, withO_some, wipeS, slotsT, List.set_cons_zero, List.set_cons_succ, calm, val_ok, seq_nx, seq_ret, flg, flgs, flgI, truth, bi1_sorted, bi1_tuple, bi1_list, bi1_len, bi1_lenT, bi1_int, asInts_ints, cm2, isIn_ints, argsOf, told, toldS, bindT, decide_false, decide_true, hasTy, List.any_cons, List.any_nil, isTk, isTy, cmpI, if_true]
  simp only [L_cons, L_if]
  rw [e2]
  simp only [val_ok, Bool.false_eq_true, if_false, L_nil, seq_nx, L_cons]
  rw [L_retE (by intro j q; cases q)]
  have e3 : ev P (.bi .all [.comp (.cmp .lt (.loc 1) (.loc 2)) (.tp [.nm 1, .nm 2]) (.zip (.loc 0) (.slL (.loc 0) (.cst (.int 1)))) []]) [some (.d a (cI xs)), none, none] h = ok (.bl true) := by
    simp (config := { decide := true }) only [L_nil, L_cons, L_pass, L_brk, L_cont, L_asg, L_asgT, L_new, L_par, L_expr, L_retN, L_if, L_raise, ev, evs, evC, evT, List.getElem?_cons_zero, List.getElem?_cons_succ, viewS, Option.map_some, Option.bind_some, bnd_ok, itemsOf, seqOf, listOf, asInt, withO_some, wipeS, slotsT, List.set_cons_zero, List.set_cons_succ, calm, val_ok, seq_nx, seq_ret, flg, flgs, flgI, truth, bi1_sorted, bi1_tuple, bi1_list, bi1_len, bi1_lenT, bi1_int, asInts_ints, cm2, isIn_ints, argsOf, told, toldS, bindT, decide_false, decide_true, slice, cut1, seq2, if_true]
    rw [← List.map_drop, zipP_ints]
    rw [compL_eq (c := fun p : Int × Int => PV.tup [.int p.1, .int p.2]) (g := fun p => some (.bl (decide (p.1 < p.2))))]
    · rw [fm_some]
      simp only [calm, bnd_ok, bi1_all, Option.map_some, zip_lt hc.srt]
    · intro p hp
      refine ⟨_, rfl, ?_⟩
      simp (config := { decide := true }) only [L_nil, L_cons, L_pass, L_brk, L_cont, L_asg, L_asgT, L_new, L_par, L_expr, L_retN, L_if, L_raise, ev, evs, evC, evT, List.getElem?_cons_zero, List.getElem?_cons_succ, viewS, Option.map_some, Option.bind_some, bnd_ok, itemsOf, seqOf, listOf, asInt, withO_some, wipeS, slotsT, List.set_cons_zero, List.set_cons_succ, calm, val_ok, seq_nx, seq_ret, flg, flgs, flgI, truth, bi1_sorted, bi1_tuple, bi1_list, bi1_len, bi1_lenT, bi1_int, asInts_ints, cm2, isIn_ints, argsOf, told, toldS, bindT, decide_false, decide_true, cmpI, bindTs, if_true]
      rfl
  rw [e3]
  simp (config := { decide := true }) only [val_ok, flg, if_true]
  rfl
end K02

set_option Elab.async false
set_option linter.all false
set_option maxRecDepth 100000
set_option maxHeartbeats 4000000
/-! K02e: the law's own defs: numbers, totals, contents. -/
namespace K02
open Ev
theorem op_add (i j : Int) : op2 .add (.int i) (.int j) = some (.int (i + j)) := rfl
theorem op_mod {j : Int} (i : Int) (h : 0 < j) : op2 .mod (.int i) (.int j) = some (.int (i % j)) := by simp only [op2, if_pos h]
theorem op_fdiv {j : Int} (i : Int) (h : 0 < j) (h2 : j < 1073741824) : op2 .fdiv (.int i) (.int j) = some (.int (i / j)) := by simp only [op2, if_pos (And.intro h h2)]
theorem op_mulL {i : Int} (j : Int) (h : -(2 ^ 64) < i ∧ i < 2 ^ 64) : op2 .mul (.int i) (.int j) = some (.int (i * j)) := by simp only [op2]; rw [if_pos (.inl h)]
theorem op_mulR (i : Int) {j : Int} (h : -(2 ^ 64) < j ∧ j < 2 ^ 64) : op2 .mul (.int i) (.int j) = some (.int (i * j)) := by simp only [op2]; rw [if_pos (.inr h)]
/-- an operation on whole numbers -/
theorem ev_bin {P : Pg} {o : Op} {a b : CE} {σ : St} {h : OH} {i j k : Int} (ha : ev P a σ h = ok (.int i)) (hb : ev P b σ h = ok (.int j)) (ho : op2 o (.int i) (.int j) = some (.int k)) : ev P (.bin o a b) σ h = ok (.int k) := by
  simp only [ev, ha, hb, bnd_ok, ho, Option.map_some]
theorem ev_int {P : Pg} {a : CE} {σ : St} {h : OH} {i : Int} (ha : ev P a σ h = ok (.int i)) (hs : ∀ z, a ≠ .star z) : ev P (.bi .int [a]) σ h = ok (.int i) := by
  have e : evs P [a] σ h = ok [.int i] := by
    cases a <;> first | exact absurd rfl (hs _) | (simp only [evs, ha, bnd_ok])
  simp only [ev, e, bnd_ok, bi1_int, Option.map_some]
theorem ev_bi1 {P : Pg} {f : Bi} {a : CE} {σ : St} {h : OH} {p q : PV} (ha : ev P a σ h = ok p) (hs : ∀ z, a ≠ .star z) (hf : bi1 f p = some q) : ev P (.bi f [a]) σ h = ok q := by
  have e : evs P [a] σ h = ok [p] := by
    cases a <;> first | exact absurd rfl (hs _) | (simp only [evs, ha, bnd_ok])
  simp only [ev, e, bnd_ok, hf, Option.map_some]
theorem ev_cst {P : Pg} {p : PV} {σ : St} {h : OH} : ev P (.cst p) σ h = ok p := by simp only [ev]
theorem ev_loc {P : Pg} {i : Nat} {k : Bool} {p : PV} {σ : St} {h : OH} (e : σ[i]? = some (some (.d k p))) : ev P (.loc i) σ h = ok p := by simp only [ev, e, viewS, Option.map_some]
theorem bi1_sum (xs : List Int) : bi1 .sum (.lst (xs.map PV.int)) = some (.int xs.sum) := by simp only [bi1, asInts_ints, Option.map_some]
theorem peq_nil : ∀ xs : List Int, peq (.lst (xs.map PV.int)) (.lst []) = xs.isEmpty
  | [] => rfl
  | x :: xs => rfl
theorem cut63 (xs : List Int) (h : xs.length ≤ 63) : cut (xs.map PV.int) none (some 63) = xs.map PV.int := by
  unfold cut sEnd
  simp only [show ¬ ((63 : Int) < 0) by decide, if_false, show (63 : Int).toNat = 63 from rfl, List.drop_zero, Nat.sub_zero, List.length_map]
  rw [List.take_of_length_le]
  simp only [List.length_map]
  omega
theorem idx_int {xs : List Int} {k : Int} (h0 : 0 ≤ k) (h1 : k < xs.length) : ∃ z, index (.lst (xs.map PV.int)) (.int k) = some (.int z) := by
  refine ⟨xs[k.toNat]'(by omega), ?_⟩
  have h2 : k.toNat < xs.length := by omega
  simp only [index, ixN, List.length_map, if_pos h0, if_pos h1, Option.bind_some, List.getElem?_map, List.getElem?_eq_getElem h2, Option.map_some]
/-- _law_number is a whole number -/
theorem run_number (P : Pg) (a b : Bool) (ns : List Int) (i : Int) (h : OH) (hn : ns.length ≤ 63) : ∃ n : Int, run P d_law_number [.d a (.lst (ns.map PV.int)), .d b (.int i)] h = ok (.d false (.int n), h) := by
  obtain ⟨cells, hc, hl1, hl2⟩ : ∃ cells : List Int, ev P (.ite (.cmp .ne (.loc 0) (.lst [])) (.slU (.loc 0) (.cst (.int 63))) (.lst [.cst (.int 5)])) [some (.d a (.lst (ns.map PV.int))), some (.d b (.int i)), none, none, none, none, none, none] h = ok (.lst (cells.map PV.int)) ∧ 0 < cells.length ∧ cells.length ≤ 63 := by
    have e1 : cmpOk (.lst (ns.map PV.int)) = true := cmpOk_lst ns
    have e2 : cmpOk (.lst []) = true := rfl
    cases ns with
    | nil =>
      refine ⟨[5], ?_, by decide, by decide⟩
      simp (config := { decide := true }) only [ev, evs, List.getElem?_cons_zero, viewS, Option.map_some, bnd_ok, flgs, cm2, e1, e2, Bool.and_self, if_true, peq_nil, truth, withO_some, List.isEmpty_nil, Bool.not_true]
      rfl
    | cons x xs =>
      refine ⟨x :: xs, ?_, by simp, hn⟩
      simp (config := { decide := true }) only [ev, evs, List.getElem?_cons_zero, viewS, Option.map_some, bnd_ok, flgs, cm2, e1, e2, Bool.and_self, if_true, peq_nil, truth, withO_some, List.isEmpty_cons, Bool.not_false, asInt, slice, cut63 (x :: xs) hn, List.length_nil, Nat.zero_le, true_and, and_true]
  have hlen : 0 < (cells.length : Int) := by omega
  have hm0 : 0 ≤ i % (cells.length : Int) := Int.emod_nonneg _ (by omega)
  have hm1 : i % (cells.length : Int) < cells.length := Int.emod_lt_of_pos _ hlen
  obtain ⟨z, hz⟩ := idx_int hm0 hm1
  -- the state, by what is known
  let σ1 : St := [some (.d a (.lst (ns.map PV.int))), some (.d b (.int i)), some (.d false (.lst (cells.map PV.int))), none, none, none, none, none]
  have f1 : ev P (.loc 1) σ1 h = ok (.int i) := ev_loc rfl
  have f2 : ev P (.loc 2) σ1 h = ok (.lst (cells.map PV.int)) := ev_loc rfl
  have f3 := ev_bi1 f2 (by intro z q; cases q) (by rw [bi1_len, List.length_map] : bi1 .len (.lst (cells.map PV.int)) = some (.int (cells.length : Int)))
  have f4 := ev_bin (ev_int f1 (by intro z q; cases q)) f3 (op_mod i hlen)
  have f5 := ev_bin f1 f3 (op_fdiv i hlen (by omega))
  have f6 := ev_bin (ev_cst (P := P) (p := .int 13)) f5 (op_mulL (i := 13) _ (by decide))
  have f7 : ev P (.idx (.loc 2) (.bin .mod (.bi .int [.loc 1]) (.bi .len [.loc 2]))) σ1 h = ok (.int z) := by
    rw [ev.eq_def]
    simp only [f2, f4, bnd_ok, hz, Option.map_some]
  have hw := ev_bin f7 f6 (op_add _ _)
  generalize z + 13 * (i / (cells.length : Int)) = w at hw
  let σ2 : St := [some (.d a (.lst (ns.map PV.int))), some (.d b (.int i)), some (.d false (.lst (cells.map PV.int))), some (.d false (.int w)), none, none, none, none]
  have g1 : ev P (.loc 3) σ2 h = ok (.int w) := ev_loc rfl
  have g2 := ev_bin (ev_int g1 (by intro z q; cases q)) (ev_cst (P := P) (p := .int 1000003)) (op_mod w (by decide))
  have g3 := ev_bin g1 (ev_cst (P := P) (p := .int 1000003)) (op_fdiv w (by decide) (by decide))
  have g4 := ev_bin (ev_int g3 (by intro z q; cases q)) (ev_cst (P := P) (p := .int 999983)) (op_mod _ (by decide))
  generalize w % 1000003 = lo at g2
  have hhb : 0 ≤ (w / 1000003) % 999983 ∧ (w / 1000003) % 999983 < 999983 := ⟨Int.emod_nonneg _ (by decide), Int.emod_lt_of_pos _ (by decide)⟩
  generalize (w / 1000003) % 999983 = hi at g4 hhb
  let σ3 : St := [some (.d a (.lst (ns.map PV.int))), some (.d b (.int i)), some (.d false (.lst (cells.map PV.int))), some (.d false (.int w)), some (.d false (.int lo)), some (.d false (.int hi)), none, none]
  have k1 : ev P (.loc 2) σ3 h = ok (.lst (cells.map PV.int)) := ev_loc rfl
  have k2 := ev_bin (ev_int (ev_bi1 k1 (by intro z q; cases q) (bi1_sum cells)) (by intro z q; cases q)) (ev_cst (P := P) (p := .int 65521)) (op_mod _ (by decide))
  generalize cells.sum % 65521 = to at k2
  let σ4 : St := [some (.d a (.lst (ns.map PV.int))), some (.d b (.int i)), some (.d false (.lst (cells.map PV.int))), some (.d false (.int w)), some (.d false (.int lo)), some (.d false (.int hi)), some (.d false (.int to)), none]
  have m1 : ev P (.loc 1) σ4 h = ok (.int i) := ev_loc rfl
  have m4 : ev P (.loc 4) σ4 h = ok (.int lo) := ev_loc rfl
  have m5 : ev P (.loc 5) σ4 h = ok (.int hi) := ev_loc rfl
  have m6 : ev P (.loc 6) σ4 h = ok (.int to) := ev_loc rfl
  have n1 := ev_bin (ev_cst (P := P) (p := .int 977)) m1 (op_mulL (i := 977) _ (by decide))
  have n2 := ev_bin (ev_bin m4 n1 (op_add _ _)) (ev_cst (P := P) (p := .int 48271)) (op_mulR _ (j := 48271) (by decide))
  have n3 := ev_bin (ev_cst (P := P) (p := .int 31)) m5 (op_mulL (i := 31) _ (by decide))
  have n4 := ev_bin (ev_int (ev_bin (ev_bin n2 n3 (op_add _ _)) m6 (op_add _ _)) (by intro z q; cases q)) (ev_cst (P := P) (p := .int 2147483647)) (op_mod _ (by decide))
  have hbb : 0 ≤ ((lo + 977 * i) * 48271 + 31 * hi + to) % 2147483647 ∧ ((lo + 977 * i) * 48271 + 31 * hi + to) % 2147483647 < 2147483647 := ⟨Int.emod_nonneg _ (by decide), Int.emod_lt_of_pos _ (by decide)⟩
  generalize ((lo + 977 * i) * 48271 + 31 * hi + to) % 2147483647 = bl at n4 hbb
  let σ5 : St := [some (.d a (.lst (ns.map PV.int))), some (.d b (.int i)), some (.d false (.lst (cells.map PV.int))), some (.d false (.int w)), some (.d false (.int lo)), some (.d false (.int hi)), some (.d false (.int to)), some (.d false (.int bl))]
  have o1 : ev P (.loc 1) σ5 h = ok (.int i) := ev_loc rfl
  have o5 : ev P (.loc 5) σ5 h = ok (.int hi) := ev_loc rfl
  have o7 : ev P (.loc 7) σ5 h = ok (.int bl) := ev_loc rfl
  have p1 := ev_bin (ev_cst (P := P) (p := .int 31)) o1 (op_mulL (i := 31) _ (by decide))
  have p2 := ev_bin (ev_bin o7 p1 (op_add _ _)) (ev_cst (P := P) (p := .int 7)) (op_add _ _)
  have p3 := ev_bin o7 p2 (op_mulL _ (by omega))
  have p4 := ev_bin (ev_int p3 (by intro z q; cases q)) (ev_cst (P := P) (p := .int 2147483629)) (op_mod _ (by decide))
  have p5 := ev_bin p4 (ev_cst (P := P) (p := .int 65537)) (op_mulR _ (j := 65537) (by decide))
  have p6 := ev_bin p5 o5 (op_add _ _)
  generalize (bl * (bl + 31 * i + 7)) % 2147483629 * 65537 + hi = fin at p6
  refine ⟨fin, run_ret (σ' := σ5) rfl rfl ?_⟩
  show evSs P d_law_number.body [some (.d a (.lst (ns.map PV.int))), some (.d b (.int i)), none, none, none, none, none, none] h = _
  unfold d_law_number
  dsimp only
  rw [S_asg hc rfl]
  show evSs P _ σ1 h = _
  rw [S_asg hw rfl]
  show evSs P _ σ2 h = _
  rw [S_par2 g2 rfl g4 rfl]
  show evSs P _ σ3 h = _
  rw [S_asg k2 rfl]
  show evSs P _ σ4 h = _
  rw [S_asg n4 rfl]
  show evSs P _ σ5 h = _
  rw [S_ret p6 rfl (by intro k q; cases q)]
theorem rangeP_ints : ∀ (n : Nat) (lo : Int), rangeP lo n = ((List.range n).map fun k : Nat => lo + (k : Int)).map PV.int
  | 0, _ => rfl
  | n + 1, lo => by
    rw [rangeP, rangeP_ints n (lo + 1), List.range_succ_eq_map]
    simp only [List.map_cons, List.map_map]
    congr 1
    · simp
    · apply List.map_congr_left
      intro k _
      simp only [Function.comp_apply]
      congr 1
      omega
theorem range_strict (n : Nat) : ((List.range n).map fun k : Nat => (0 : Int) + (k : Int)).Pairwise (· < ·) := by
  rw [List.pairwise_map]
  refine (List.pairwise_lt_range (n := n)).imp fun h => ?_
  omega
theorem ev_range {P : Pg} {b : CE} {σ : St} {h : OH} {j : Int} (hb : ev P b σ h = ok (.int j)) (h0 : 0 ≤ j) (h1 : j ≤ 1000) : ev P (.range (.cst (.int 0)) b) σ h = ok (.lst (((List.range j.toNat).map fun k : Nat => (0 : Int) + (k : Int)).map PV.int)) := by
  simp only [ev, hb, bnd_ok, asInt, withO_some]
  rw [if_pos ⟨by decide, by decide, by omega, by omega, by unfold big; omega⟩, Int.sub_zero, rangeP_ints]
/-- _law_content: letters below many, rising -/
theorem run_content (P : Pg) (a b : Bool) (seed many : Int) (h : OH) (h0 : 0 ≤ many) (h1 : many ≤ 6) : ∃ zs, Con zs ∧ (∀ i ∈ zs, i < 6) ∧ run P d_law_content [.d a (.int seed), .d b (.int many)] h = ok (.d false (cI zs), h) := by
  let σ : St := [some (.d a (.int seed)), some (.d b (.int many)), none]
  let rs : List Int := (List.range many.toNat).map fun k : Nat => (0 : Int) + (k : Int)
  have hr : ∀ i ∈ rs, 0 ≤ i ∧ i < 6 := by
    intro i hi
    obtain ⟨k, hk, rfl⟩ := List.mem_map.mp hi
    have := List.mem_range.mp hk
    omega
  let dv : Int → Int := fun i => if i = 0 then 2 else if i = 1 then 5 else if i = 2 then 11 else if i = 3 then 23 else if i = 4 then 47 else 95
  let p : Int → Bool := fun i => decide ((seed / dv i) % 2 = 0)
  have e1 : ev P (.comp (.loc 2) (.nm 2) (.range (.cst (.int 0)) (.loc 1)) [.cmp .eq (.bin .mod (.bi .int [.bin .fdiv (.loc 0) (.idx (.tup [.cst (.int 2), .cst (.int 5), .cst (.int 11), .cst (.int 23), .cst (.int 47), .cst (.int 95)]) (.loc 2))]) (.cst (.int 2))) (.cst (.int 0))]) σ h = ok (.lst ((rs.filter p).map PV.int)) := by
    have er := ev_range (P := P) (b := .loc 1) (σ := σ) (h := h) (ev_loc rfl) h0 (by omega)
    rw [ev.eq_def]
    simp only [er, bnd_ok, itemsOf, withO_some, slotsT, wipeS]
    rw [compL_ints (xs := rs) p PV.int]
    · rfl
    · intro i hi
      obtain ⟨q0, q1⟩ := hr i hi
      have hc : i = 0 ∨ i = 1 ∨ i = 2 ∨ i = 3 ∨ i = 4 ∨ i = 5 := by omega
      let σ2 : St := [some (.d a (.int seed)), some (.d b (.int many)), some (.d false (.int i))]
      have a0 : ev P (.loc 0) σ2 h = ok (.int seed) := ev_loc rfl
      have a2 : ev P (.loc 2) σ2 h = ok (.int i) := ev_loc rfl
      have at_ : ev P (.tup [.cst (.int 2), .cst (.int 5), .cst (.int 11), .cst (.int 23), .cst (.int 47), .cst (.int 95)]) σ2 h = ok (.tup [.int 2, .int 5, .int 11, .int 23, .int 47, .int 95]) := by
        simp only [ev, evs, bnd_ok]
        rfl
      have ai : ev P (.idx (.tup [.cst (.int 2), .cst (.int 5), .cst (.int 11), .cst (.int 23), .cst (.int 47), .cst (.int 95)]) (.loc 2)) σ2 h = ok (.int (dv i)) := by
        rw [ev.eq_def]
        simp only [at_, a2, bnd_ok]
        rcases hc with rfl | rfl | rfl | rfl | rfl | rfl <;> rfl
      have hd : 0 < dv i ∧ dv i < 1073741824 := by rcases hc with rfl | rfl | rfl | rfl | rfl | rfl <;> decide
      have a3 := ev_bin (ev_int (ev_bin a0 ai (op_fdiv seed hd.1 hd.2)) (by intro z q; cases q)) (ev_cst (P := P) (p := .int 2)) (op_mod _ (by decide))
      have a4 : ev P (.cmp .eq (.bin .mod (.bi .int [.bin .fdiv (.loc 0) (.idx (.tup [.cst (.int 2), .cst (.int 5), .cst (.int 11), .cst (.int 23), .cst (.int 47), .cst (.int 95)]) (.loc 2))]) (.cst (.int 2))) (.cst (.int 0))) σ2 h = ok (.bl (p i)) := by
        rw [ev.eq_def]
        simp only [a3, ev_cst, bnd_ok, cm2, cmpOk_int, Bool.and_self, if_true, Option.map_some, peq]
        rfl
      show bnd (evC P _ σ2 h) _ = _
      simp only [evC, a4, bnd_ok, truth, withO_some]
      cases p i with
      | true =>
        simp only [if_true, evC, bnd_ok, a2]
        rfl
      | false => rfl
  have e2 := ev_bi1 e1 (by intro z q; cases q) (bi1_tuple _)
  refine ⟨rs.filter p, ⟨(range_strict _).filter _, fun i hi => ?_⟩, fun i hi => ?_, run_ret (σ' := σ) rfl rfl ?_⟩
  · have := hr i (List.mem_filter.mp hi).1; omega
  · exact (hr i (List.mem_filter.mp hi).1).2
  · show evSs P d_law_content.body σ h = _
    unfold d_law_content
    dsimp only
    rw [S_ret e2 rfl (by intro k q; cases q)]
end K02

set_option Elab.async false
set_option linter.all false
set_option maxRecDepth 100000
set_option maxHeartbeats 4000000
/-! K02f: totals. -/
namespace K02
open Ev
/-- letters that come an odd number of times -/
def totL (cs : List (List Int)) : List Int := (sortI (nubI cs.flatten)).filter fun i => decide (((cs.flatten.count i : Nat) : Int) % 2 = 1)
theorem bi1_sset {L : List Int} (h : L.length < 64) : bi1 .sset (.lst (L.map PV.int)) = some (.lst ((sortI (nubI L)).map PV.int)) := by
  simp only [bi1, asInts_ints, Option.bind_some, if_pos h]
theorem run_total (P : Pg) (a t : Bool) (cs : List (List Int)) (h : OH) (hl : cs.flatten.length < 64) : run P d_law_total [.d a (cR t cs)] h = ok (.d false (cI (totL cs)), h) := by
  let σ1 : St := [some (.d a (cR t cs)), some (.d false (.lst [])), none, none]
  have step : ∀ (d : List (List Int)) x r σ h2, [] ++ cs = d ++ x :: r → (∃ s, σ = [some (SV.d a (cR t cs)), some (SV.d false (.lst (d.flatten.map PV.int))), s, none] ∧ h2 = h) →
      ∃ σ1 σ2 h3, bindT (.nm 2) (cI x) σ = some σ1 ∧ evSs P [.asg (.nm 1) (.bin .add (.loc 1) (.bi .list [.loc 2]))] σ1 h2 = some (.nx, σ2, h3) ∧ ∃ s, σ2 = [some (SV.d a (cR t cs)), some (SV.d false (.lst ((d ++ [x]).flatten.map PV.int))), s, none] ∧ h3 = h := by
    rintro d x r σ h2 e ⟨s, rfl, rfl⟩
    rw [List.nil_append] at e
    refine ⟨_, _, _, rfl, ?_, some (.d false (cI x)), rfl, rfl⟩
    have hb : d.flatten.length + x.length ≤ big := by
      rw [e] at hl
      simp only [List.flatten_append, List.flatten_cons, List.length_append] at hl
      unfold big; omega
    have e1 : ev P (.bin .add (.loc 1) (.bi .list [.loc 2])) [some (SV.d a (cR t cs)), some (SV.d false (.lst (d.flatten.map PV.int))), some (.d false (cI x)), none] h2 = ok (.lst ((d ++ [x]).flatten.map PV.int)) := by
      have f1 : ev P (.loc 1) [some (SV.d a (cR t cs)), some (SV.d false (.lst (d.flatten.map PV.int))), some (.d false (cI x)), none] h2 = ok (.lst (d.flatten.map PV.int)) := ev_loc rfl
      have f2 := ev_bi1 (ev_loc (P := P) (i := 2) (σ := [some (SV.d a (cR t cs)), some (SV.d false (.lst (d.flatten.map PV.int))), some (.d false (cI x)), none]) (h := h2) rfl) (by intro z q; cases q) (bi1_list (x.map PV.int))
      rw [ev.eq_def]
      simp only [f1, f2, bnd_ok, op2, List.length_map, if_pos hb]
      simp (config := { decide := true }) only [flg, List.getElem?_cons_zero, List.getElem?_cons_succ, if_true]
      simp
    refine (S_asg (ss := []) e1 rfl).trans ?_
    rfl
  obtain ⟨σ', h', e, s', e1, e2⟩ := forL_inv (f := evSs P [.asg (.nm 1) (.bin .add (.loc 1) (.bi .list [.loc 2]))]) (t := .nm 2) (c := cI) _ cs [] σ1 h step ⟨none, rfl, rfl⟩
  rw [List.nil_append] at e1
  subst e1 e2
  let σ2 : St := [some (SV.d a (cR t cs)), some (SV.d false (.lst (cs.flatten.map PV.int))), s', none]
  have k1 : ev P (.bi .sset [.loc 1]) σ2 h' = ok (.lst ((sortI (nubI cs.flatten)).map PV.int)) := ev_bi1 (ev_loc rfl) (by intro z q; cases q) (bi1_sset hl)
  have k2 : ev P (.comp (.loc 3) (.nm 3) (.bi .sset [.loc 1]) [.cmp .eq (.bin .mod (.bi .int [.cnt (.loc 1) (.loc 3)]) (.cst (.int 2))) (.cst (.int 1))]) σ2 h' = ok (.lst ((totL cs).map PV.int)) := by
    rw [ev.eq_def]
    simp only [k1, bnd_ok, itemsOf, withO_some, slotsT, wipeS]
    rw [compL_ints (xs := sortI (nubI cs.flatten)) (fun i => decide (((cs.flatten.count i : Nat) : Int) % 2 = 1)) PV.int]
    · rfl
    · intro i hi
      let σ3 : St := [some (SV.d a (cR t cs)), some (SV.d false (.lst (cs.flatten.map PV.int))), s', some (.d false (.int i))]
      have a1 : ev P (.loc 1) σ3 h' = ok (.lst (cs.flatten.map PV.int)) := ev_loc rfl
      have a3 : ev P (.loc 3) σ3 h' = ok (.int i) := ev_loc rfl
      have a4 : ev P (.cnt (.loc 1) (.loc 3)) σ3 h' = ok (.int ((cs.flatten.count i : Nat) : Int)) := by
        rw [ev.eq_def]
        simp only [a1, a3, bnd_ok, listOf, withO_some, cntOf, asInts_ints, Option.map_some]
      have a5 := ev_bin (ev_int a4 (by intro z q; cases q)) (ev_cst (P := P) (p := .int 2)) (op_mod _ (by decide))
      have a6 : ev P (.cmp .eq (.bin .mod (.bi .int [.cnt (.loc 1) (.loc 3)]) (.cst (.int 2))) (.cst (.int 1))) σ3 h' = ok (.bl (decide (((cs.flatten.count i : Nat) : Int) % 2 = 1))) := by
        rw [ev.eq_def]
        simp only [a5, ev_cst, bnd_ok, cm2, cmpOk_int, Bool.and_self, if_true, Option.map_some, peq]
        rfl
      show bnd (evC P _ σ3 h') _ = _
      simp only [evC, a6, bnd_ok, truth, withO_some]
      cases decide (((cs.flatten.count i : Nat) : Int) % 2 = 1) with
      | true =>
        simp only [if_true, evC, bnd_ok, a3]
        rfl
      | false => rfl
  have k3 := ev_bi1 k2 (by intro z q; cases q) (bi1_tuple _)
  refine run_ret (σ' := σ2) rfl rfl ?_
  show evSs P d_law_total.body [some (.d a (cR t cs)), none, none, none] h' = _
  unfold d_law_total
  dsimp only
  rw [S_asg (p := .lst []) (by simp only [ev, evs, bnd_ok]; rfl) rfl]
  show evSs P _ σ1 h' = _
  rw [S_for (v := cR t cs) (ev_loc rfl) (items_cR t cs) (by cases a <;> simp [flgI, flg, σ1]) e]
  rw [S_ret k3 rfl (by intro k q; cases q)]
/-! ### what they are -/
theorem count_con {c : List Int} (h : Con c) (i : Int) : c.count i = if i ∈ c then 1 else 0 := by
  split
  · rename_i hi
    have h1 : 0 < c.count i := List.count_pos_iff.mpr hi
    have h2 : c.count i ≤ 1 := List.nodup_iff_count.mp (strict_nodup h.srt) i
    omega
  · rename_i hi
    exact List.count_eq_zero_of_not_mem hi
theorem fold_mem (i : Int) : ∀ (cs : List (List Int)) (acc : List Int), (∀ c ∈ cs, Con c) → (i ∈ cs.foldl plusL acc ↔ ((if i ∈ acc then 1 else 0) + cs.flatten.count i) % 2 = 1)
  | [], acc, _ => by
    simp only [List.foldl_nil, List.flatten_nil, List.count_nil, Nat.add_zero]
    split <;> simp_all
  | c :: cs, acc, h => by
    rw [List.foldl_cons, fold_mem i cs (plusL acc c) fun x hx => h x (List.mem_cons_of_mem _ hx)]
    rw [List.flatten_cons, List.count_append, count_con (h c (by simp)) i]
    have := plusL_mem acc c i
    by_cases h1 : i ∈ acc <;> by_cases h2 : i ∈ c <;> simp only [h1, h2, not_true, not_false_iff, and_true, and_false, or_false, false_or, true_and, iff_true, iff_false, and_self, or_self] at this <;> simp only [this, h1, h2, if_true, if_false] <;> omega
theorem fold_con : ∀ (l : List (List Int)) (acc : List Int), (∀ c ∈ l, Con c) → Con acc → Con (l.foldl plusL acc)
  | [], acc, _, h => h
  | y :: l, acc, hl, ha => fold_con l _ (fun c hc => hl c (List.mem_cons_of_mem _ hc)) (plusL_con ha (hl y (by simp)))
theorem mem_nubI (k : Int) : ∀ l : List Int, k ∈ nubI l ↔ k ∈ l
  | [] => Iff.rfl
  | x :: r => by
    unfold nubI
    split
    · rename_i h
      rw [mem_nubI k r, List.mem_cons]
      exact ⟨.inr, fun q => q.elim (fun e => e ▸ h) id⟩
    · rw [List.mem_cons, List.mem_cons, mem_nubI k r]
theorem nodup_nubI : ∀ l : List Int, (nubI l).Nodup
  | [] => List.nodup_nil
  | x :: r => by
    unfold nubI
    split
    · exact nodup_nubI r
    · rename_i h
      exact List.nodup_cons.mpr ⟨fun q => h ((mem_nubI x r).mp q), nodup_nubI r⟩
theorem tot_mem (cs : List (List Int)) (i : Int) : i ∈ totL cs ↔ cs.flatten.count i % 2 = 1 := by
  unfold totL
  rw [List.mem_filter, sortI_mem, mem_nubI, decide_eq_true_eq]
  constructor
  · intro h; omega
  · intro h
    refine ⟨?_, by omega⟩
    apply List.count_pos_iff.mp
    omega
/-- the total is the sum -/
theorem tot_sum {cs : List (List Int)} (h : ∀ c ∈ cs, Con c) : totL cs = cs.foldl plusL [] := by
  refine strict_ext ((sortI_strict (nodup_nubI _)).filter _) (fold_con cs [] h nil_con).srt fun i => ?_
  rw [tot_mem, fold_mem i cs [] h]
  simp
end K02

set_option Elab.async false
set_option linter.all false
set_option maxRecDepth 100000
set_option maxHeartbeats 4000000
/-! K02g: rows that are told apart by their greatest letters are independent. -/
namespace K02
open Ev
/-- a content as what it holds -/
def vv (c : List Int) : Int → Bool := fun x => decide (x ∈ c)
theorem vv_plus (a b : List Int) (x : Int) : vv (plusL a b) x = Bool.xor (vv a x) (vv b x) := by
  unfold vv
  have := plusL_mem a b x
  by_cases h1 : x ∈ a <;> by_cases h2 : x ∈ b <;> simp_all
theorem vv_nil (x : Int) : vv [] x = false := by simp [vv]
theorem vv_inj {a b : List Int} (ha : Con a) (hb : Con b) (h : ∀ x, vv a x = vv b x) : a = b :=
  strict_ext ha.srt hb.srt fun x => by
    have := h x
    unfold vv at this
    constructor
    · intro q; rw [decide_eq_true q] at this; exact of_decide_eq_true this.symm
    · intro q; rw [decide_eq_true q] at this; exact of_decide_eq_true this
/-- sums of rows, by who takes part -/
def comb : List Bool → List (Int → Bool) → Int → Bool
  | b :: bs, r :: rs, x => Bool.xor (b && r x) (comb bs rs x)
  | _, _, _ => false
def zx : List Bool → List Bool → List Bool
  | a :: as, b :: bs => Bool.xor a b :: zx as bs
  | _, _ => []
theorem zx_len : ∀ {a b : List Bool}, a.length = b.length → (zx a b).length = a.length
  | [], [], _ => rfl
  | x :: a, y :: b, h => by simp only [zx, List.length_cons, zx_len (a := a) (b := b) (by simpa using h)]
  | [], _ :: _, h => by simp at h
  | _ :: _, [], h => by simp at h
theorem comb_zx : ∀ {a b : List Bool} {rs : List (Int → Bool)} (x : Int), a.length = rs.length → b.length = rs.length → comb (zx a b) rs x = Bool.xor (comb a rs x) (comb b rs x)
  | [], [], [], x, _, _ => rfl
  | p :: a, q :: b, r :: rs, x, h1, h2 => by
    simp only [zx, comb]
    rw [comb_zx (a := a) (b := b) (rs := rs) x (by simpa using h1) (by simpa using h2)]
    cases p <;> cases q <;> cases r x <;> cases comb a rs x <;> cases comb b rs x <;> rfl
  | [], _, _ :: _, _, h, _ => by simp at h
  | _ :: _, _, [], _, h, _ => by simp at h
  | _, [], _ :: _, _, _, h => by simp at h
  | _, _ :: _, [], _, _, h => by simp at h
theorem comb_false : ∀ {a : List Bool} {rs : List (Int → Bool)} (x : Int), (∀ b ∈ a, b = false) → comb a rs x = false
  | [], _, _, _ => by simp [comb]
  | _ :: _, [], _, _ => by simp [comb]
  | b :: a, r :: rs, x, h => by
    simp only [comb, h b (by simp), Bool.false_and, comb_false (a := a) x fun c hc => h c (List.mem_cons_of_mem _ hc)]
    rfl
theorem comb_app {a : List Bool} {rs : List (Int → Bool)} {b : Bool} {r : Int → Bool} (x : Int) (h : a.length = rs.length) : comb (a ++ [b]) (rs ++ [r]) x = Bool.xor (comb a rs x) (b && r x) := by
  induction a generalizing rs with
  | nil =>
    cases rs with
    | nil => simp [comb]
    | cons _ _ => simp at h
  | cons c a ih =>
    cases rs with
    | nil => simp at h
    | cons s rs =>
      simp only [List.cons_append, comb]
      rw [ih (by simpa using h)]
      cases c <;> cases s x <;> cases comb a rs x <;> cases b <;> cases r x <;> rfl
/-- rows with a greatest letter each -/
def Led (l : Int) (r : Int → Bool) : Prop := r l = true ∧ ∀ x, r x = true → x ≤ l
open Classical in
/-- at a letter that is the greatest of all that take part -/
theorem comb_top {L : Int} : ∀ {a : List Bool} {ls : List Int} {rs : List (Int → Bool)}, a.length = ls.length → ls.length = rs.length → ls.Nodup → (∀ (j : Nat) l r, ls[j]? = some l → rs[j]? = some r → Led l r) → (∀ (j : Nat) l, a[j]? = some true → ls[j]? = some l → l ≤ L) →
    comb a rs L = decide (∃ j : Nat, a[j]? = some true ∧ ls[j]? = some L)
  | [], [], [], _, _, _, _, _ => by simp [comb]
  | b :: a, l :: ls, r :: rs, h1, h2, nd, hl, hm => by
    obtain ⟨n1, n2⟩ := List.nodup_cons.mp nd
    have ih := comb_top (L := L) (a := a) (ls := ls) (rs := rs) (by simpa using h1) (by simpa using h2) n2 (fun j l r e1 e2 => hl (j + 1) l r (by simpa using e1) (by simpa using e2)) fun j l e1 e2 => hm (j + 1) l (by simpa using e1) (by simpa using e2)
    have h0 := hl 0 l r rfl rfl
    simp only [comb, ih]
    have key : decide (∃ j : Nat, (b :: a)[j]? = some true ∧ (l :: ls)[j]? = some L) = ((b && decide (l = L)) || decide (∃ j : Nat, a[j]? = some true ∧ ls[j]? = some L)) := by
      rw [Bool.eq_iff_iff]
      simp only [decide_eq_true_eq, Bool.or_eq_true, Bool.and_eq_true]
      constructor
      · rintro ⟨j, e1, e2⟩
        cases j with
        | zero => exact .inl ⟨by simpa using e1, by simpa using e2⟩
        | succ j => exact .inr ⟨j, by simpa using e1, by simpa using e2⟩
      · rintro (⟨e1, e2⟩ | ⟨j, e1, e2⟩)
        · exact ⟨0, by simp [e1], by simp [e2]⟩
        · exact ⟨j + 1, by simpa using e1, by simpa using e2⟩
    rw [key]
    by_cases hb : b = true
    · have hle := hm 0 l (by simp [hb]) rfl
      by_cases he : l = L
      · subst he
        have no : ¬ ∃ j : Nat, a[j]? = some true ∧ ls[j]? = some l := fun ⟨j, _, e⟩ => n1 (List.mem_of_getElem? e)
        rw [decide_eq_false no, h0.1, hb]
        simp
      · have hr : r L = false := by
          cases q : r L with
          | false => rfl
          | true => have := h0.2 L q; omega
        rw [hr, hb]
        simp [he]
    · have hb' : b = false := by simpa using hb
      rw [hb']
      simp
  | [], _ :: _, _, h, _, _, _, _ => by simp at h
  | _ :: _, [], _, h, _, _, _, _ => by simp at h
  | _, [], _ :: _, _, h, _, _, _ => by simp at h
  | _, _ :: _, [], _, h, _, _, _ => by simp at h
/-- a greatest one among those that take part -/
theorem top_ex : ∀ {a : List Bool} {ls : List Int}, a.length = ls.length → (∃ j : Nat, a[j]? = some true) → ∃ (L : Int) (j : Nat), a[j]? = some true ∧ ls[j]? = some L ∧ ∀ (k : Nat) l, a[k]? = some true → ls[k]? = some l → l ≤ L
  | [], [], _, ⟨j, e⟩ => by simp at e
  | b :: a, l :: ls, h, ⟨j, e⟩ => by
    by_cases hx : ∃ j : Nat, a[j]? = some true
    · obtain ⟨L, i, e1, e2, e3⟩ := top_ex (a := a) (ls := ls) (by simpa using h) hx
      by_cases hb : b = true ∧ L < l
      · refine ⟨l, 0, by simp [hb.1], rfl, fun k z f1 f2 => ?_⟩
        cases k with
        | zero => have : z = l := by simpa using f2.symm
                  omega
        | succ k => have := e3 k z (by simpa using f1) (by simpa using f2); omega
      · refine ⟨L, i + 1, by simpa using e1, by simpa using e2, fun k z f1 f2 => ?_⟩
        cases k with
        | zero =>
          have hz : z = l := by simpa using f2.symm
          have hb1 : b = true := by simpa using f1
          have : ¬ L < l := fun q => hb ⟨hb1, q⟩
          omega
        | succ k => exact e3 k z (by simpa using f1) (by simpa using f2)
    · cases j with
      | zero =>
        refine ⟨l, 0, e, rfl, fun k z f1 f2 => ?_⟩
        cases k with
        | zero => have : z = l := by simpa using f2.symm
                  omega
        | succ k => exact absurd ⟨k, by simpa using f1⟩ hx
      | succ j => exact absurd ⟨j, by simpa using e⟩ hx
  | [], _ :: _, h, _ => by simp at h
  | _ :: _, [], h, _ => by simp at h
open Classical in
/-- independence -/
theorem comb_zero {a : List Bool} {ls : List Int} {rs : List (Int → Bool)} (h1 : a.length = ls.length) (h2 : ls.length = rs.length) (nd : ls.Nodup) (hl : ∀ (j : Nat) l r, ls[j]? = some l → rs[j]? = some r → Led l r) (h0 : ∀ x, comb a rs x = false) : ∀ b ∈ a, b = false := by
  intro b hb
  cases b with
  | false => rfl
  | true =>
    obtain ⟨i, hi, e⟩ := List.getElem_of_mem hb
    obtain ⟨L, j, e1, e2, e3⟩ := top_ex h1 ⟨i, by rw [List.getElem?_eq_getElem hi, e]⟩
    have := comb_top (L := L) h1 h2 nd hl e3
    rw [h0 L, decide_eq_true ⟨j, e1, e2⟩] at this
    cases this
end K02

set_option Elab.async false
set_option linter.all false
set_option maxRecDepth 100000
set_option maxHeartbeats 4000000
/-! K02h: the elimination. -/
namespace K02
open Ev
/-- rows as the program keeps them: greatest letters, contents with what is told of them -/
abbrev Rw := List (Int × List Int × List Int)
def kPs (E : Rw) : List PV := E.map fun z => .int z.1
def vPs (E : Rw) : List PV := E.map fun z => .tup [cI z.2.1, cI z.2.2]
def lookE (l : Int) : Rw → Option (List Int × List Int)
  | [] => none
  | z :: r => if z.1 = l then some z.2 else lookE l r
theorem lookE_mem {l : Int} : ∀ {E : Rw} {z}, lookE l E = some z → (l, z) ∈ E
  | [], _, h => by cases h
  | y :: r, z, h => by
    unfold lookE at h
    split at h
    · rename_i e; cases h; rw [← e]; exact List.mem_cons_self
    · exact List.mem_cons_of_mem _ (lookE_mem h)
theorem lookE_none {l : Int} : ∀ {E : Rw}, lookE l E = none ↔ l ∉ E.map (·.1)
  | [] => by simp [lookE]
  | y :: r => by
    unfold lookE
    split
    · rename_i e; simp [e]
    · rename_i e
      rw [lookE_none (E := r)]
      simp [Ne.symm e]
theorem lookK_E (l : Int) : ∀ E : Rw, lookK (.int l) (kPs E) (vPs E) = (lookE l E).map fun z => .tup [cI z.1, cI z.2]
  | [] => rfl
  | y :: r => by
    show (if peq (.int y.1) (.int l) = true then some (.tup [cI y.2.1, cI y.2.2]) else lookK (.int l) (kPs r) (vPs r)) = Option.map _ (if y.1 = l then some y.2 else lookE l r)
    by_cases e : y.1 = l
    · rw [if_pos e, if_pos (by simp [peq, e])]; rfl
    · rw [if_neg e, if_neg (by simpa [peq] using e)]; exact lookK_E l r
theorem inSeq_E (l : Int) (E : Rw) : inSeq (.int l) (kPs E) = decide (l ∈ E.map (·.1)) := by
  have : kPs E = (E.map (·.1)).map PV.int := by simp [kPs]
  rw [this, inSeq_ints]
/-- the last letter -/
theorem last_idx {xs : List Int} {l : Int} (h : xs.getLast? = some l) : index (.tup (xs.map PV.int)) (.int (-1)) = some (.int l) := by
  have hne : xs ≠ [] := fun e => by rw [e] at h; cases h
  have hlen : 0 < xs.length := List.length_pos_iff.mpr hne
  simp only [index, ixN, List.length_map]
  rw [if_neg (by decide), if_pos (by omega), Option.bind_some, List.getElem?_map]
  have e : ((-1 : Int) + (xs.length : Int)).toNat = xs.length - 1 := by omega
  rw [e, ← List.getLast?_eq_getElem?, h]
  rfl
theorem last_led {xs : List Int} {l : Int} (hc : Con xs) (h : xs.getLast? = some l) : Led l (vv xs) := by
  have hm : l ∈ xs := List.mem_of_getLast? h
  refine ⟨by simp [vv, hm], fun x hx => ?_⟩
  have hx' : x ∈ xs := by simpa [vv] using hx
  obtain ⟨ys, rfl⟩ := List.getLast?_eq_some_iff.mp h
  rcases List.mem_append.mp hx' with q | q
  · have := (List.pairwise_append.mp hc.srt).2.2 x q l (by simp)
    omega
  · have : x = l := by simpa using q
    omega
/-- rows that stand as they have to -/
structure Rok (E : Rw) : Prop where
  con : ∀ z ∈ E, Con z.2.1 ∧ Con z.2.2
  led : ∀ z ∈ E, z.2.1.getLast? = some z.1
  nd : (E.map (·.1)).Nodup
  tld : ∀ (j : Nat) z, E[j]? = some z → z.2.2.getLast? = some (j : Int)
end K02

set_option Elab.async false
set_option linter.all false
set_option maxRecDepth 100000
set_option maxHeartbeats 4000000
/-! K02i: the elimination's while. -/
namespace K02
open Ev
/-- the while's work -/
def elimL (E : Rw) : Nat → List Int → List Int → List Int × List Int
  | 0, r, t => (r, t)
  | n + 1, r, t => match r.getLast? with
    | none => (r, t)
    | some l => match lookE l E with
      | none => (r, t)
      | some z => elimL E n (plusL r z.1) (plusL t z.2)
theorem last_lt {r z : List Int} {l l' : Int} (hr : Con r) (hz : Con z) (h1 : r.getLast? = some l) (h2 : z.getLast? = some l) (h3 : (plusL r z).getLast? = some l') : l' < l := by
  have hm : l' ∈ plusL r z := List.mem_of_getLast? h3
  have a := last_led hr h1
  have b := last_led hz h2
  rcases (plusL_mem r z l').mp hm with ⟨q1, q2⟩ | ⟨q1, q2⟩
  · have := a.2 l' (by simp [vv, q1])
    have : l' ≠ l := fun e => q2 (by rw [e]; exact List.mem_of_getLast? h2)
    omega
  · have := b.2 l' (by simp [vv, q1])
    have : l' ≠ l := fun e => q2 (by rw [e]; exact List.mem_of_getLast? h1)
    omega
def wCond : CE := .and (.cmp .ne (.loc 5) (.tup [])) (.cmp .in_ (.idx (.loc 5) (.neg (.cst (.int 1)))) (.loc 1))
def wBody : List CS := [
        .asg (.nm 7) (.idx (.loc 1) (.idx (.loc 5) (.neg (.cst (.int 1))))),
        .par [5, 6] [.v, .v] [.call "plus" [.loc 5, .idx (.loc 7) (.cst (.int 0))], .call "plus" [.loc 6, .idx (.loc 7) (.cst (.int 1))]]]
section
variable (s0 s3 s4 : Option SV)
def wSt (r t : List Int) (row : Option SV) : St := [s0, some (.r 0), some (.r 1), s3, s4, some (.d false (cI r)), some (.d false (cI t)), row]
end
theorem peq_tnil : ∀ xs : List Int, peq (.tup (xs.map PV.int)) (.tup []) = xs.isEmpty
  | [] => rfl
  | x :: xs => rfl
section
variable {P : Pg} {s0 s3 s4 row : Option SV} {r t : List Int} {E : Rw} {fs : OO}
theorem w_ne : ev P (.cmp .ne (.loc 5) (.tup [])) (wSt s0 s3 s4 r t row) [.d (kPs E) (vPs E), fs] = ok (.bl !r.isEmpty) := by
  have e1 : ev P (.loc 5) (wSt s0 s3 s4 r t row) [.d (kPs E) (vPs E), fs] = ok (cI r) := ev_loc rfl
  have e2 : ev P (.tup []) (wSt s0 s3 s4 r t row) [.d (kPs E) (vPs E), fs] = ok (.tup []) := by simp only [ev, evs, bnd_ok]; rfl
  rw [ev.eq_def]
  simp only [e1, e2, bnd_ok, cm2, cmpOk_cI, show cmpOk (.tup []) = true from rfl, Bool.and_self, if_true, Option.map_some, peq_tnil]
theorem w_neg1 {σ : St} {h : OH} : ev P (.neg (.cst (.int 1))) σ h = ok (.int (-1)) := by
  simp only [ev, bnd_ok, asInt, withO_some]
theorem w_last {l : Int} (hl : r.getLast? = some l) : ev P (.idx (.loc 5) (.neg (.cst (.int 1)))) (wSt s0 s3 s4 r t row) [.d (kPs E) (vPs E), fs] = ok (.int l) := by
  have e1 : ev P (.loc 5) (wSt s0 s3 s4 r t row) [.d (kPs E) (vPs E), fs] = ok (cI r) := ev_loc rfl
  rw [ev.eq_def]
  simp only [e1, w_neg1, bnd_ok, last_idx hl, Option.map_some]
theorem w_rows {h : OH} (hh : h[0]? = some (.d (kPs E) (vPs E))) {σ : St} (hs : σ[1]? = some (some (.r 0))) : ev P (.loc 1) σ h = ok (.dct (kPs E) (vPs E)) := by
  simp only [ev, hs, viewS, hh, Option.bind_some, viewO, Option.map_some]
theorem w_condF (hr : r = []) : evT P wCond (wSt s0 s3 s4 r t row) [.d (kPs E) (vPs E), fs] = ok false := by
  subst hr
  unfold evT wCond
  rw [ev.eq_def]
  simp only [w_ne, bnd_ok, truth, withO_some]
  rfl
theorem w_cond {l : Int} (hl : r.getLast? = some l) : evT P wCond (wSt s0 s3 s4 r t row) [.d (kPs E) (vPs E), fs] = ok (decide (l ∈ E.map (·.1))) := by
  have hne : r.isEmpty = false := by cases r with
    | nil => cases hl
    | cons _ _ => rfl
  have e1 : ev P (.cmp .in_ (.idx (.loc 5) (.neg (.cst (.int 1)))) (.loc 1)) (wSt s0 s3 s4 r t row) [.d (kPs E) (vPs E), fs] = ok (.bl (decide (l ∈ E.map (·.1)))) := by
    rw [ev.eq_def]
    simp only [w_last hl, w_rows (E := E) (h := [.d (kPs E) (vPs E), fs]) rfl (σ := wSt s0 s3 s4 r t row) rfl, bnd_ok, cm2, isIn, keyOk, if_true, inSeq_E, Option.map_some]
  unfold evT wCond
  rw [ev.eq_def]
  simp only [w_ne, bnd_ok, truth, withO_some, hne, Bool.not_false, if_true, e1, Option.map_some]
theorem w_body (hP : PlusOk P) {l : Int} {z : List Int × List Int} (hl : r.getLast? = some l) (hz : lookE l E = some z) (cr : Con r) (ct : Con t) (c1 : Con z.1) (c2 : Con z.2) :
    evSs P wBody (wSt s0 s3 s4 r t row) [.d (kPs E) (vPs E), fs] = some (.nx, wSt s0 s3 s4 (plusL r z.1) (plusL t z.2) (some (.d false (.tup [cI z.1, cI z.2]))), [.d (kPs E) (vPs E), fs]) := by
  have e1 : ev P (.idx (.loc 1) (.idx (.loc 5) (.neg (.cst (.int 1))))) (wSt s0 s3 s4 r t row) [.d (kPs E) (vPs E), fs] = ok (.tup [cI z.1, cI z.2]) := by
    rw [ev.eq_def]
    simp only [w_last hl, w_rows (E := E) (h := [.d (kPs E) (vPs E), fs]) rfl (σ := wSt s0 s3 s4 r t row) rfl, bnd_ok, index, keyOk, if_true, lookK_E, hz, Option.map_some]
  unfold wBody
  rw [S_asg e1 rfl]
  let σ : St := wSt s0 s3 s4 r t (some (.d false (.tup [cI z.1, cI z.2])))
  show evSs P _ σ _ = _
  have f7 : ∀ h, ev P (.loc 7) σ h = ok (.tup [cI z.1, cI z.2]) := fun h => ev_loc rfl
  have f5 : ∀ h, ev P (.loc 5) σ h = ok (cI r) := fun h => ev_loc rfl
  have f6 : ∀ h, ev P (.loc 6) σ h = ok (cI t) := fun h => ev_loc rfl
  have i0 : ∀ h, ev P (.idx (.loc 7) (.cst (.int 0))) σ h = ok (cI z.1) := fun h => by
    rw [ev.eq_def]; simp only [f7, ev_cst, bnd_ok]; rfl
  have i1 : ∀ h, ev P (.idx (.loc 7) (.cst (.int 1))) σ h = ok (cI z.2) := fun h => by
    rw [ev.eq_def]; simp only [f7, ev_cst, bnd_ok]; rfl
  have p1 : ev P (.call "plus" [.loc 5, .idx (.loc 7) (.cst (.int 0))]) σ [.d (kPs E) (vPs E), fs] = ok (cI (plusL r z.1)) := by
    rw [ev.eq_def]
    simp only [evs, f5, i0, bnd_ok, argsOf]
    rw [show decide (flg σ (.loc 5) ≠ 0) = false from rfl, show decide (flg σ (.idx (.loc 7) (.cst (.int 0))) ≠ 0) = false from rfl, hP false false r z.1 [] cr c1]
    rfl
  have p2 : ev P (.call "plus" [.loc 6, .idx (.loc 7) (.cst (.int 1))]) σ [.d (kPs E) (vPs E), fs] = ok (cI (plusL t z.2)) := by
    rw [ev.eq_def]
    simp only [evs, f6, i1, bnd_ok, argsOf]
    rw [show decide (flg σ (.loc 6) ≠ 0) = false from rfl, show decide (flg σ (.idx (.loc 7) (.cst (.int 1))) ≠ 0) = false from rfl, hP false false t z.2 [] ct c2]
    rfl
  rw [S_par2 p1 rfl p2 rfl]
  rfl
end
theorem while_F {c : St → OH → R Bool} {f : St → OH → O} {n : Nat} {σ : St} {h : OH} (hc : c σ h = ok false) : whileL c f (n + 1) σ h = some (.nx, σ, h) := by
  rw [whileL, hc]; rfl
theorem while_T {c : St → OH → R Bool} {f : St → OH → O} {n : Nat} {σ σ2 : St} {h h2 : OH} (hc : c σ h = ok true) (hf : f σ h = some (.nx, σ2, h2)) : whileL c f (n + 1) σ h = whileL c f n σ2 h2 := by
  rw [whileL, hc]
  simp only [val_ok, if_true, hf]
/-- the while ends as it should -/
theorem while_elim {P : Pg} (hP : PlusOk P) {E : Rw} (hE : Rok E) {s0 s3 s4 : Option SV} {fs : OO} : ∀ (n fuel : Nat) (r t : List Int) (row : Option SV), Con r → Con t → (∀ l, r.getLast? = some l → l < n) → n < fuel →
    ∃ row', whileL (evT P wCond) (evSs P wBody) fuel (wSt s0 s3 s4 r t row) [.d (kPs E) (vPs E), fs] = some (.nx, wSt s0 s3 s4 (elimL E n r t).1 (elimL E n r t).2 row', [.d (kPs E) (vPs E), fs]) ∧
      Con (elimL E n r t).1 ∧ Con (elimL E n r t).2 ∧ ∀ l, (elimL E n r t).1.getLast? = some l → lookE l E = none
  | 0, fuel, r, t, row, cr, ct, hl, hf => by
    obtain ⟨k, rfl⟩ : ∃ k, fuel = k + 1 := ⟨fuel - 1, by omega⟩
    have hr : r = [] := by
      cases q : r.getLast? with
      | none => exact List.getLast?_eq_none_iff.mp q
      | some l =>
        have := hl l q
        have := (cr.rng l (List.mem_of_getLast? q)).1
        omega
    refine ⟨row, while_F (w_condF hr), cr, ct, fun l q => ?_⟩
    rw [show (elimL E 0 r t).1 = r from rfl, hr] at q
    cases q
  | n + 1, fuel, r, t, row, cr, ct, hl, hf => by
    obtain ⟨k, rfl⟩ : ∃ k, fuel = k + 1 := ⟨fuel - 1, by omega⟩
    cases q : r.getLast? with
    | none =>
      have hr := List.getLast?_eq_none_iff.mp q
      have e : elimL E (n + 1) r t = (r, t) := by rw [elimL, q]
      rw [e]
      exact ⟨row, while_F (w_condF hr), cr, ct, fun l z => by rw [q] at z; cases z⟩
    | some l =>
      cases qz : lookE l E with
      | none =>
        have e : elimL E (n + 1) r t = (r, t) := by simp only [elimL, q, qz]
        rw [e]
        refine ⟨row, while_F ?_, cr, ct, fun l' z => by rw [q] at z; cases z; exact qz⟩
        rw [w_cond q, decide_eq_false (lookE_none.mp qz)]
      | some z =>
        have e : elimL E (n + 1) r t = elimL E n (plusL r z.1) (plusL t z.2) := by simp only [elimL, q, qz]
        have hm := lookE_mem qz
        obtain ⟨c1, c2⟩ := hE.con _ hm
        have hled := hE.led _ hm
        obtain ⟨row', h1, h2⟩ := while_elim hP hE (s0 := s0) (s3 := s3) (s4 := s4) (fs := fs) n k (plusL r z.1) (plusL t z.2) (some (.d false (.tup [cI z.1, cI z.2]))) (plusL_con cr c1) (plusL_con ct c2) (fun l' ql => by
          have := last_lt cr c1 q hled ql
          have := hl l q
          omega) (by omega)
        rw [e]
        refine ⟨row', ?_, h2⟩
        rw [while_T (by rw [w_cond q, decide_eq_true (List.mem_map.mpr ⟨_, hm, rfl⟩)]) (w_body hP q qz cr ct c1 c2)]
        exact h1
/-! ### what the elimination keeps -/
def rests (E : Rw) : List (Int → Bool) := E.map fun z => vv z.2.1
def tolds (E : Rw) : List (Int → Bool) := E.map fun z => vv z.2.2
theorem unit_ex : ∀ {E : Rw} {z}, z ∈ E → ∃ b : List Bool, b.length = E.length ∧ (∀ x, comb b (rests E) x = vv z.2.1 x) ∧ ∀ x, comb b (tolds E) x = vv z.2.2 x
  | y :: E, z, h => by
    rcases List.mem_cons.mp h with rfl | h
    · refine ⟨true :: List.replicate E.length false, by simp, fun x => ?_, fun x => ?_⟩
      · simp only [rests, List.map_cons, comb, Bool.true_and]
        rw [comb_false x (by intro b hb; exact (List.mem_replicate.mp hb).2)]
        simp
      · simp only [tolds, List.map_cons, comb, Bool.true_and]
        rw [comb_false x (by intro b hb; exact (List.mem_replicate.mp hb).2)]
        simp
    · obtain ⟨b, h1, h2, h3⟩ := unit_ex h
      refine ⟨false :: b, by simp [h1], fun x => ?_, fun x => ?_⟩
      · simp only [rests, List.map_cons, comb, Bool.false_and, Bool.false_xor]; exact h2 x
      · simp only [tolds, List.map_cons, comb, Bool.false_and, Bool.false_xor]; exact h3 x
theorem elim_rel {E : Rw} : ∀ (n : Nat) (r t : List Int), ∃ b : List Bool, b.length = E.length ∧ (∀ x, vv r x = Bool.xor (vv (elimL E n r t).1 x) (comb b (rests E) x)) ∧ ∀ x, vv (elimL E n r t).2 x = Bool.xor (vv t x) (comb b (tolds E) x)
  | 0, r, t => ⟨List.replicate E.length false, by simp, fun x => by
      rw [comb_false x (by intro b hb; exact (List.mem_replicate.mp hb).2)]; simp [elimL], fun x => by
      rw [comb_false x (by intro b hb; exact (List.mem_replicate.mp hb).2)]; simp [elimL]⟩
  | n + 1, r, t => by
    have stop : ∃ b : List Bool, b.length = E.length ∧ (∀ x, vv r x = Bool.xor (vv r x) (comb b (rests E) x)) ∧ ∀ x, vv t x = Bool.xor (vv t x) (comb b (tolds E) x) :=
      ⟨List.replicate E.length false, by simp, fun x => by
        rw [comb_false x (by intro b hb; exact (List.mem_replicate.mp hb).2)]; simp, fun x => by
        rw [comb_false x (by intro b hb; exact (List.mem_replicate.mp hb).2)]; simp⟩
    cases q : r.getLast? with
    | none =>
      have e : elimL E (n + 1) r t = (r, t) := by simp only [elimL, q]
      rw [e]; exact stop
    | some l =>
      cases qz : lookE l E with
      | none =>
        have e : elimL E (n + 1) r t = (r, t) := by simp only [elimL, q, qz]
        rw [e]; exact stop
      | some z =>
        have e : elimL E (n + 1) r t = elimL E n (plusL r z.1) (plusL t z.2) := by simp only [elimL, q, qz]
        rw [e]
        obtain ⟨b, h1, h2, h3⟩ := elim_rel (E := E) n (plusL r z.1) (plusL t z.2)
        obtain ⟨u, u1, u2, u3⟩ := unit_ex (lookE_mem qz)
        refine ⟨zx u b, by rw [zx_len (by omega), u1], fun x => ?_, fun x => ?_⟩
        · rw [comb_zx x (by simp [rests, u1]) (by simp [rests, h1]), u2]
          have := h2 x
          rw [vv_plus] at this
          revert this
          cases vv r x <;> cases vv z.1 x <;> cases vv (elimL E n (plusL r z.1) (plusL t z.2)).1 x <;> cases comb b (rests E) x <;> simp
        · rw [comb_zx x (by simp [tolds, u1]) (by simp [tolds, h1]), u3]
          have := h3 x
          rw [vv_plus] at this
          rw [this]
          cases vv t x <;> cases vv z.2 x <;> cases comb b (tolds E) x <;> rfl
end K02

set_option Elab.async false
set_option linter.all false
set_option maxRecDepth 100000
set_option maxHeartbeats 4000000
/-! K02j: letters numbered anew. -/
namespace K02
open Ev
/-- one content, numbered anew -/
def renS (E : Rw) (c : List Int) : Rw × List Int := match (elimL E 64 c []).1.getLast? with
  | none => (E, (elimL E 64 c []).2)
  | some l => (E ++ [(l, (elimL E 64 c []).1, plusL (elimL E 64 c []).2 [(E.length : Int)])], [(E.length : Int)])
def renF (s : Rw × List (List Int)) (c : List Int) : Rw × List (List Int) := ((renS s.1 c).1, s.2 ++ [(renS s.1 c).2])
def renL (cs : List (List Int)) : Rw × List (List Int) := cs.foldl renF ([], [])
theorem renL_snoc (cs : List (List Int)) (c : List Int) : renL (cs ++ [c]) = renF (renL cs) c := by
  unfold renL; rw [List.foldl_append]; rfl
/-- how many letters there are -/
def cnt (ls : List (List Int)) : Nat := ls.foldl (fun m l => if l = [(m : Int)] then m + 1 else m) 0
theorem cnt_snoc (ls : List (List Int)) (l : List Int) : cnt (ls ++ [l]) = if l = [(cnt ls : Int)] then cnt ls + 1 else cnt ls := by
  unfold cnt; rw [List.foldl_append]; rfl
/-- each is the next letter, or one of letters that there are -/
def Good (ls : List (List Int)) : Prop := ∀ (k : Nat) l, ls[k]? = some l → l = [(cnt (ls.take k) : Int)] ∨ ∀ x ∈ l, x < (cnt (ls.take k) : Int)
theorem good_nil : Good [] := fun k l e => by simp at e
theorem good_snoc {ls : List (List Int)} {l : List Int} (h : Good ls) (hl : l = [(cnt ls : Int)] ∨ ∀ x ∈ l, x < (cnt ls : Int)) : Good (ls ++ [l]) := by
  intro k z e
  by_cases c : k < ls.length
  · rw [List.getElem?_append_left c] at e
    rw [List.take_append_of_le_length (by omega)]
    exact h k z e
  · by_cases c2 : k = ls.length
    · subst c2
      rw [List.getElem?_append_right (Nat.le_refl _)] at e
      have : l = z := by simpa using e
      subst this
      rw [List.take_left' rfl]
      exact hl
    · rw [List.getElem?_eq_none (by simp; omega)] at e
      cases e
/-- the same sum of rows on both sides -/
def Rep (E : Rw) (c l : List Int) : Prop := ∃ b : List Bool, b.length = E.length ∧ (∀ x, vv c x = comb b (rests E) x) ∧ ∀ x, vv l x = comb b (tolds E) x
structure Inv (E : Rw) (cs ls : List (List Int)) : Prop where
  rok : Rok E
  len : cs.length = ls.length
  le : E.length ≤ cs.length
  conl : ∀ l ∈ ls, Con l
  low : ∀ l ∈ ls, ∀ x ∈ l, x < (E.length : Int)
  rep : ∀ p ∈ cs.zip ls, Rep E p.1 p.2
  cnt : E.length = cnt ls
  good : Good ls
theorem comb_true {x : Int} : ∀ {b : List Bool} {rs : List (Int → Bool)}, comb b rs x = true → ∃ r ∈ rs, r x = true
  | [], _, h => by simp [comb] at h
  | _ :: _, [], h => by simp [comb] at h
  | b :: bs, r :: rs, h => by
    cases q : r x with
    | true => exact ⟨r, List.mem_cons_self, q⟩
    | false =>
      simp only [comb, q, Bool.and_false, Bool.false_xor] at h
      obtain ⟨r', h1, h2⟩ := comb_true h
      exact ⟨r', List.mem_cons_of_mem _ h1, h2⟩
theorem tolds_low {E : Rw} (hE : Rok E) {r : Int → Bool} {x : Int} (hr : r ∈ tolds E) (hx : r x = true) : x < (E.length : Int) := by
  obtain ⟨z, hz, rfl⟩ := List.mem_map.mp hr
  obtain ⟨j, hj, e⟩ := List.getElem_of_mem hz
  have h1 := hE.tld j z (by rw [List.getElem?_eq_getElem hj, e])
  have := (last_led (hE.con z hz).2 h1).2 x hx
  omega
theorem one_con {n : Nat} (h : n < 64) : Con [(n : Int)] := ⟨List.pairwise_singleton _ _, fun i hi => by
  have : i = n := by simpa using hi
  omega⟩
theorem vv_one (n x : Int) : vv [n] x = decide (x = n) := by simp [vv]
theorem elim_con {E : Rw} (hE : Rok E) : ∀ (n : Nat) (r t : List Int), Con r → Con t → Con (elimL E n r t).1 ∧ Con (elimL E n r t).2
  | 0, r, t, h1, h2 => ⟨h1, h2⟩
  | n + 1, r, t, h1, h2 => by
    cases q : r.getLast? with
    | none => simp only [elimL, q]; exact ⟨h1, h2⟩
    | some l =>
      cases qz : lookE l E with
      | none => simp only [elimL, q, qz]; exact ⟨h1, h2⟩
      | some z =>
        simp only [elimL, q, qz]
        obtain ⟨c1, c2⟩ := hE.con _ (lookE_mem qz)
        exact elim_con hE n _ _ (plusL_con h1 c1) (plusL_con h2 c2)
/-- the elimination ends at a content whose greatest letter is no row's -/
theorem elim_end {E : Rw} (hE : Rok E) : ∀ (n : Nat) (r t : List Int), Con r → Con t → (∀ l, r.getLast? = some l → l < n) → ∀ l, (elimL E n r t).1.getLast? = some l → lookE l E = none
  | 0, r, t, h1, h2, hl, l, e => by
    have e' : r.getLast? = some l := e
    have := hl l e'
    have := (h1.rng l (List.mem_of_getLast? e')).1
    omega
  | n + 1, r, t, h1, h2, hl, l, e => by
    cases q : r.getLast? with
    | none =>
      simp only [elimL, q] at e
      cases e
    | some l1 =>
      cases qz : lookE l1 E with
      | none =>
        simp only [elimL, q, qz] at e
        cases e
        exact qz
      | some z =>
        simp only [elimL, q, qz] at e
        have hm := lookE_mem qz
        obtain ⟨c1, c2⟩ := hE.con _ hm
        exact elim_end hE n _ _ (plusL_con h1 c1) (plusL_con h2 c2) (fun l' ql => by
          have := last_lt h1 c1 q (hE.led _ hm) ql
          have := hl l1 q
          omega) l e
theorem con64 {c : List Int} (h : Con c) : ∀ l, c.getLast? = some l → l < (64 : Nat) := fun l e => by
  have := (h.rng l (List.mem_of_getLast? e)).2
  omega
theorem rests_app (E : Rw) (z) : rests (E ++ [z]) = rests E ++ [vv z.2.1] := by simp [rests]
theorem tolds_app (E : Rw) (z) : tolds (E ++ [z]) = tolds E ++ [vv z.2.2] := by simp [tolds]
theorem rep_more {E : Rw} {c l : List Int} (z) (h : Rep E c l) : Rep (E ++ [z]) c l := by
  obtain ⟨b, h1, h2, h3⟩ := h
  refine ⟨b ++ [false], by simp [h1], fun x => ?_, fun x => ?_⟩
  · rw [rests_app, comb_app x (by simp [rests, h1]), h2 x]; simp
  · rw [tolds_app, comb_app x (by simp [tolds, h1]), h3 x]; simp
theorem nodup_snoc {l : List Int} {a : Int} (h : l.Nodup) (ha : a ∉ l) : (l ++ [a]).Nodup :=
  List.nodup_append.mpr ⟨h, by simp, fun x hx y hy e => by
    have : y = a := by simpa using hy
    subst e this
    exact ha hx⟩
theorem last_of_top {xs : List Int} {n : Int} (hc : Con xs) (h1 : n ∈ xs) (h2 : ∀ x ∈ xs, x ≤ n) : xs.getLast? = some n := by
  cases q : xs.getLast? with
  | none => rw [List.getLast?_eq_none_iff.mp q] at h1; cases h1
  | some l =>
    have a := (last_led hc q).2 n (by simp [vv, h1])
    have b := h2 l (List.mem_of_getLast? q)
    congr 1; omega
theorem inv_nil : Inv [] [] [] := by
  refine ⟨⟨?_, ?_, ?_, ?_⟩, rfl, Nat.le_refl _, ?_, ?_, ?_, rfl, good_nil⟩
  · intro z hz; cases hz
  · intro z hz; cases hz
  · exact List.nodup_nil
  · intro j z e; simp at e
  · intro z hz; cases hz
  · intro z hz; cases hz
  · intro z hz; cases hz
theorem inv_step {E : Rw} {cs ls : List (List Int)} {c : List Int} (I : Inv E cs ls) (hc : Con c) (hl : E.length < 60) : Inv (renS E c).1 (cs ++ [c]) (ls ++ [(renS E c).2]) := by
  obtain ⟨b, hb, h1, h2⟩ := elim_rel (E := E) 64 c []
  obtain ⟨cr, ct⟩ := elim_con I.rok 64 c [] hc nil_con
  have he := elim_end I.rok 64 c [] hc nil_con (con64 hc)
  have h2' : ∀ x, vv (elimL E 64 c []).2 x = comb b (tolds E) x := fun x => by rw [h2 x, vv_nil, Bool.false_xor]
  have tlow : ∀ x ∈ (elimL E 64 c []).2, x < (E.length : Int) := fun x hx => by
    have q : comb b (tolds E) x = true := by rw [← h2' x]; simp [vv, hx]
    obtain ⟨r, r1, r2⟩ := comb_true q
    exact tolds_low I.rok r1 r2
  cases q : (elimL E 64 c []).1.getLast? with
  | none =>
    have e : renS E c = (E, (elimL E 64 c []).2) := by simp only [renS, q]
    rw [e]
    have hr := List.getLast?_eq_none_iff.mp q
    refine ⟨I.rok, by simp [I.len], by have := I.le; simp; omega, ?_, ?_, ?_, ?_, ?_⟩
    · intro l hl
      rcases List.mem_append.mp hl with h | h
      · exact I.conl l h
      · have : l = (elimL E 64 c []).2 := by simpa using h
        rw [this]; exact ct
    · intro l hl
      rcases List.mem_append.mp hl with h | h
      · exact I.low l h
      · have : l = (elimL E 64 c []).2 := by simpa using h
        rw [this]; exact tlow
    · intro p hp
      rw [List.zip_append I.len] at hp
      rcases List.mem_append.mp hp with h | h
      · exact I.rep p h
      · have : p = (c, (elimL E 64 c []).2) := by simpa using h
        rw [this]
        refine ⟨b, hb, fun x => ?_, h2'⟩
        rw [h1 x, hr, vv_nil, Bool.false_xor]
    · rw [cnt_snoc, if_neg, I.cnt]
      intro z
      have := tlow (E.length : Int) (by rw [z, I.cnt]; simp)
      omega
    · exact good_snoc I.good (.inr (by rw [← I.cnt]; exact tlow))
  | some l =>
    have e : renS E c = (E ++ [(l, (elimL E 64 c []).1, plusL (elimL E 64 c []).2 [(E.length : Int)])], [(E.length : Int)]) := by simp only [renS, q]
    rw [e]
    have hnew := lookE_none.mp (he l q)
    have c1 := one_con (n := E.length) (by omega)
    have ctn := plusL_con ct c1
    have nt : (E.length : Int) ∉ (elimL E 64 c []).2 := fun z => by have := tlow _ z; omega
    refine ⟨⟨?_, ?_, ?_, ?_⟩, by simp [I.len], by have := I.le; simp; omega, ?_, ?_, ?_, ?_, ?_⟩
    · intro z hz
      rcases List.mem_append.mp hz with h | h
      · exact I.rok.con z h
      · have : z = (l, (elimL E 64 c []).1, plusL (elimL E 64 c []).2 [(E.length : Int)]) := by simpa using h
        rw [this]; exact ⟨cr, ctn⟩
    · intro z hz
      rcases List.mem_append.mp hz with h | h
      · exact I.rok.led z h
      · have : z = (l, (elimL E 64 c []).1, plusL (elimL E 64 c []).2 [(E.length : Int)]) := by simpa using h
        rw [this]; exact q
    · rw [List.map_append]
      exact nodup_snoc I.rok.nd hnew
    · intro j z ej
      by_cases cj : j < E.length
      · rw [List.getElem?_append_left cj] at ej
        exact I.rok.tld j z ej
      · by_cases cj2 : j = E.length
        · subst cj2
          rw [List.getElem?_append_right (Nat.le_refl _)] at ej
          have : (l, (elimL E 64 c []).1, plusL (elimL E 64 c []).2 [(E.length : Int)]) = z := by simpa using ej
          rw [← this]
          refine last_of_top ctn ((plusL_mem _ _ _).mpr (.inr ⟨by simp, nt⟩)) fun x hx => ?_
          rcases (plusL_mem _ _ _).mp hx with ⟨a, _⟩ | ⟨a, _⟩
          · have := tlow x a; omega
          · have : x = (E.length : Int) := by simpa using a
            omega
        · rw [List.getElem?_eq_none (by simp; omega)] at ej
          cases ej
    · intro y hy
      rcases List.mem_append.mp hy with h | h
      · exact I.conl y h
      · have : y = [(E.length : Int)] := by simpa using h
        rw [this]; exact c1
    · intro y hy x hx
      rcases List.mem_append.mp hy with h | h
      · have := I.low y h x hx; simp; omega
      · have : y = [(E.length : Int)] := by simpa using h
        rw [this] at hx
        have : x = (E.length : Int) := by simpa using hx
        simp; omega
    · intro p hp
      rw [List.zip_append I.len] at hp
      rcases List.mem_append.mp hp with h | h
      · exact rep_more _ (I.rep p h)
      · have : p = (c, [(E.length : Int)]) := by simpa using h
        rw [this]
        refine ⟨b ++ [true], by simp [hb], fun x => ?_, fun x => ?_⟩
        · rw [rests_app, comb_app x (by simp [rests, hb]), h1 x]
          cases vv (elimL E 64 c []).1 x <;> cases comb b (rests E) x <;> rfl
        · rw [tolds_app, comb_app x (by simp [tolds, hb])]
          dsimp only
          rw [vv_plus, h2' x]
          cases vv [(E.length : Int)] x <;> cases comb b (tolds E) x <;> rfl
    · rw [cnt_snoc, if_pos (by rw [I.cnt]), ← I.cnt]
      simp
    · exact good_snoc I.good (.inl (by rw [I.cnt]))
theorem inv_all : ∀ (cs done : List (List Int)), Inv (renL done).1 done (renL done).2 → (∀ c ∈ cs, Con c) → done.length + cs.length ≤ 60 → Inv (renL (done ++ cs)).1 (done ++ cs) (renL (done ++ cs)).2
  | [], done, I, _, _ => by rw [List.append_nil]; exact I
  | c :: cs, done, I, hc, hl => by
    have h1 := inv_step I (hc c (by simp)) (by have := I.le; simp at hl; omega)
    have h2 : Inv (renL (done ++ [c])).1 (done ++ [c]) (renL (done ++ [c])).2 := by
      rw [renL_snoc]; exact h1
    have := inv_all cs (done ++ [c]) h2 (fun x hx => hc x (List.mem_cons_of_mem _ hx)) (by simp at hl ⊢; omega)
    rw [List.append_assoc] at this
    exact this
theorem renL_inv {cs : List (List Int)} (hc : ∀ c ∈ cs, Con c) (hl : cs.length ≤ 60) : Inv (renL cs).1 cs (renL cs).2 := inv_all cs [] inv_nil hc (by simpa using hl)
/-! ### the same sums -/
theorem rel_ex {E : Rw} : ∀ {cs ls : List (List Int)} (s : List Bool), cs.length = ls.length → (∀ p ∈ cs.zip ls, Rep E p.1 p.2) → ∃ b : List Bool, b.length = E.length ∧ (∀ x, comb s (cs.map vv) x = comb b (rests E) x) ∧ ∀ x, comb s (ls.map vv) x = comb b (tolds E) x
  | [], [], s, _, _ => ⟨List.replicate E.length false, by simp, fun x => by
      rw [comb_false (a := List.replicate E.length false) x (by intro b hb; exact (List.mem_replicate.mp hb).2)]; cases s <;> rfl, fun x => by
      rw [comb_false (a := List.replicate E.length false) x (by intro b hb; exact (List.mem_replicate.mp hb).2)]; cases s <;> rfl⟩
  | c :: cs, l :: ls, [], _, _ => ⟨List.replicate E.length false, by simp, fun x => by
      rw [comb_false (a := List.replicate E.length false) x (by intro b hb; exact (List.mem_replicate.mp hb).2)]; rfl, fun x => by
      rw [comb_false (a := List.replicate E.length false) x (by intro b hb; exact (List.mem_replicate.mp hb).2)]; rfl⟩
  | c :: cs, l :: ls, k :: s, hl, h => by
    obtain ⟨b, h1, h2, h3⟩ := rel_ex (cs := cs) (ls := ls) s (by simpa using hl) fun p hp => h p (by rw [List.zip_cons_cons]; exact List.mem_cons_of_mem _ hp)
    cases k with
    | false =>
      refine ⟨b, h1, fun x => ?_, fun x => ?_⟩
      · simp only [List.map_cons, comb, Bool.false_and, Bool.false_xor]; exact h2 x
      · simp only [List.map_cons, comb, Bool.false_and, Bool.false_xor]; exact h3 x
    | true =>
      obtain ⟨u, u1, u2, u3⟩ := h (c, l) (by rw [List.zip_cons_cons]; exact List.mem_cons_self)
      refine ⟨zx u b, by rw [zx_len (by omega), u1], fun x => ?_, fun x => ?_⟩
      · rw [comb_zx x (by simp [rests, u1]) (by simp [rests, h1]), ← u2 x, ← h2 x]; simp [comb]
      · rw [comb_zx x (by simp [tolds, u1]) (by simp [tolds, h1]), ← u3 x, ← h3 x]; simp [comb]
  | [], _ :: _, _, h, _ => by simp at h
  | _ :: _, [], _, h, _ => by simp at h
theorem rest_zero {E : Rw} (hE : Rok E) {b : List Bool} (hb : b.length = E.length) (h : ∀ x, comb b (rests E) x = false) : ∀ y ∈ b, y = false :=
  comb_zero (ls := E.map (·.1)) (rs := rests E) (by simp [hb]) (by simp [rests]) hE.nd (fun j l r e1 e2 => by
    simp only [rests, List.getElem?_map, Option.map_eq_some_iff] at e1 e2
    obtain ⟨z, z1, rfl⟩ := e1
    obtain ⟨z', z2, rfl⟩ := e2
    rw [z1] at z2; cases z2
    have hm := List.mem_of_getElem? z1
    exact last_led (hE.con z hm).1 (hE.led z hm)) h
theorem told_zero {E : Rw} (hE : Rok E) {b : List Bool} (hb : b.length = E.length) (h : ∀ x, comb b (tolds E) x = false) : ∀ y ∈ b, y = false :=
  comb_zero (ls := (List.range E.length).map fun j : Nat => (j : Int)) (rs := tolds E) (by simp [hb]) (by simp [tolds]) (by
    rw [List.nodup_iff_pairwise_ne, List.pairwise_map]
    exact (List.pairwise_lt_range (n := E.length)).imp fun q => by omega) (fun j l r e1 e2 => by
    simp only [tolds, List.getElem?_map, Option.map_eq_some_iff] at e1 e2
    obtain ⟨j', j1, rfl⟩ := e1
    obtain ⟨z, z2, rfl⟩ := e2
    have hj : j < E.length := (List.getElem?_eq_some_iff.mp z2).1
    rw [List.getElem?_range hj] at j1
    cases j1
    exact last_led (hE.con z (List.mem_of_getElem? z2)).2 (hE.tld j z z2)) h
theorem rel_iff {E : Rw} (hE : Rok E) {cs ls : List (List Int)} (s : List Bool) (hl : cs.length = ls.length) (h : ∀ p ∈ cs.zip ls, Rep E p.1 p.2) : (∀ x, comb s (cs.map vv) x = false) ↔ ∀ x, comb s (ls.map vv) x = false := by
  obtain ⟨b, h1, h2, h3⟩ := rel_ex s hl h
  constructor
  · intro q x
    rw [h3 x, comb_false x (rest_zero hE h1 fun y => by rw [← h2 y]; exact q y)]
  · intro q x
    rw [h2 x, comb_false x (told_zero hE h1 fun y => by rw [← h3 y]; exact q y)]
end K02

set_option Elab.async false
set_option linter.all false
set_option maxRecDepth 100000
set_option maxHeartbeats 4000000
/-! K02k: numbered anew once more; the defs renamed, add, numbered_anew. -/
namespace K02
open Ev
def unitE (n : Nat) : Rw := (List.range n).map fun j : Nat => ((j : Int), [(j : Int)], [(j : Int)])
theorem unitE_len (n : Nat) : (unitE n).length = n := by simp [unitE]
theorem unitE_succ (n : Nat) : unitE (n + 1) = unitE n ++ [((n : Int), [(n : Int)], [(n : Int)])] := by simp [unitE, List.range_succ]
theorem unitE_keys (n : Nat) (x : Int) : x ∈ (unitE n).map (·.1) ↔ 0 ≤ x ∧ x < n := by
  simp only [unitE, List.map_map, List.mem_map, List.mem_range, Function.comp_apply]
  constructor
  · rintro ⟨j, h, rfl⟩; omega
  · rintro ⟨h1, h2⟩; exact ⟨x.toNat, by omega, by omega⟩
theorem unitE_rok {n : Nat} (h : n ≤ 64) : Rok (unitE n) := by
  refine ⟨?_, ?_, ?_, ?_⟩
  · intro z hz
    obtain ⟨j, hj, rfl⟩ := List.mem_map.mp hz
    have := List.mem_range.mp hj
    exact ⟨one_con (by omega), one_con (by omega)⟩
  · intro z hz
    obtain ⟨j, hj, rfl⟩ := List.mem_map.mp hz
    rfl
  · simp only [unitE, List.map_map]
    rw [List.nodup_iff_pairwise_ne, List.pairwise_map]
    exact (List.pairwise_lt_range (n := n)).imp fun q => by simp only [Function.comp_apply]; omega
  · intro j z e
    simp only [unitE, List.getElem?_map, Option.map_eq_some_iff] at e
    obtain ⟨k, hk, rfl⟩ := e
    have hj : j < n := by
      have := (List.getElem?_eq_some_iff.mp hk).1
      simpa using this
    rw [List.getElem?_range hj] at hk
    cases hk
    rfl
theorem plus_nil {c : List Int} (h : Con c) : plusL [] c = c := strict_ext (plusL_con nil_con h).srt h.srt fun x => by rw [plusL_mem]; simp
theorem rests_unit (n : Nat) : rests (unitE n) = tolds (unitE n) := by simp [rests, tolds, unitE]
theorem unit_new {n : Nat} (h : n < 64) : renS (unitE n) [(n : Int)] = (unitE (n + 1), [(n : Int)]) := by
  have hl : lookE (n : Int) (unitE n) = none := lookE_none.mpr fun q => by have := (unitE_keys n _).mp q; omega
  have e : elimL (unitE n) 64 [(n : Int)] [] = ([(n : Int)], []) := by
    show (match [(n : Int)].getLast? with
    | none => ([(n : Int)], [])
    | some l => match lookE l (unitE n) with
      | none => ([(n : Int)], [])
      | some z => elimL (unitE n) 63 (plusL [(n : Int)] z.1) (plusL [] z.2)) = _
    simp only [List.getLast?_singleton, hl]
  unfold renS
  rw [e]
  simp only [List.getLast?_singleton, unitE_len, plus_nil (one_con h), unitE_succ]
theorem unit_old {n : Nat} (h : n ≤ 64) {l : List Int} (hc : Con l) (hl : ∀ x ∈ l, x < (n : Int)) : renS (unitE n) l = (unitE n, l) := by
  have hE := unitE_rok h
  obtain ⟨b, hb, h1, h2⟩ := elim_rel (E := unitE n) 64 l []
  obtain ⟨cr, ct⟩ := elim_con hE 64 l [] hc nil_con
  have he := elim_end hE 64 l [] hc nil_con (con64 hc)
  have hr : (elimL (unitE n) 64 l []).1.getLast? = none := by
    cases q : (elimL (unitE n) 64 l []).1.getLast? with
    | none => rfl
    | some z =>
      exfalso
      have hz : z ∈ (elimL (unitE n) 64 l []).1 := List.mem_of_getLast? q
      have nz := lookE_none.mp (he z q)
      rw [unitE_keys] at nz
      have z0 := (cr.rng z hz).1
      have h1z := h1 z
      rw [show vv (elimL (unitE n) 64 l []).1 z = true by simp [vv, hz]] at h1z
      by_cases c : z ∈ l
      · have := hl z c; omega
      · rw [show vv l z = false by simp [vv, c]] at h1z
        have : comb b (rests (unitE n)) z = true := by
          revert h1z; cases comb b (rests (unitE n)) z <;> simp
        rw [rests_unit] at this
        obtain ⟨r, r1, r2⟩ := comb_true this
        have := tolds_low hE r1 r2
        rw [unitE_len] at this
        omega
  have er := List.getLast?_eq_none_iff.mp hr
  have et : (elimL (unitE n) 64 l []).2 = l := vv_inj ct hc fun x => by
    rw [h2 x, vv_nil, Bool.false_xor, ← rests_unit]
    have := h1 x
    rw [er, vv_nil, Bool.false_xor] at this
    exact this.symm
  unfold renS
  rw [hr, et]
theorem cnt_take_le (ls : List (List Int)) : ∀ k, cnt (ls.take k) ≤ k
  | 0 => by simp [cnt]
  | k + 1 => by
    by_cases c : k < ls.length
    · rw [List.take_succ, List.getElem?_eq_getElem c]
      have := cnt_take_le ls k
      simp only [Option.toList_some]
      rw [cnt_snoc]
      split <;> omega
    · rw [List.take_of_length_le (by omega)]
      have := cnt_take_le ls k
      rw [List.take_of_length_le (by omega)] at this
      omega
theorem ren_take {ls : List (List Int)} (hg : Good ls) (hc : ∀ l ∈ ls, Con l) (hl : ls.length ≤ 60) : ∀ k, k ≤ ls.length → renL (ls.take k) = (unitE (cnt (ls.take k)), ls.take k)
  | 0, _ => by simp [renL, cnt, unitE]
  | k + 1, hk => by
    have hk' : k < ls.length := by omega
    have ih := ren_take hg hc hl k (by omega)
    have hle := cnt_take_le ls k
    rw [List.take_succ, List.getElem?_eq_getElem hk', Option.toList_some, renL_snoc, ih, cnt_snoc]
    have e : ls[k]? = some ls[k] := List.getElem?_eq_getElem hk'
    unfold renF
    dsimp only
    rcases hg k _ e with q | q
    · rw [if_pos q, q, unit_new (by omega)]
    · rw [if_neg (fun z => by have := q (cnt (ls.take k) : Int) (by rw [z]; simp); omega), unit_old (by omega) (hc _ (List.mem_of_getElem? e)) q]
/-- what is numbered anew stays so -/
theorem ren_fix {ls : List (List Int)} (hg : Good ls) (hc : ∀ l ∈ ls, Con l) (hl : ls.length ≤ 60) : (renL ls).2 = ls := by
  have := ren_take hg hc hl ls.length (Nat.le_refl _)
  rw [List.take_length] at this
  rw [this]
/-! ### the defs -/
theorem hasK_E (l : Int) (E : Rw) : hasK (.int l) (kPs E) = decide (l ∈ E.map (·.1)) := inSeq_E l E
def ReducedOk (P : Pg) : Prop := ∀ (E : Rw) (fs : OO) (r t : List Int) (l : Int), Con r → Con t → r.getLast? = some l → lookE l E = none → E.length < 60 →
  P.fn "reduced" [.r 0, .d false (cI r), .d false (cI t), .d false (.int (E.length : Int))] [.d (kPs E) (vPs E), fs] = ok (.d false (cI [(E.length : Int)]), [.d (kPs (E ++ [(l, r, plusL t [(E.length : Int)])])) (vPs (E ++ [(l, r, plusL t [(E.length : Int)])])), fs])
theorem run_reduced {P : Pg} (hP : PlusOk P) (E : Rw) (fs : OO) (r t : List Int) (l : Int) (cr : Con r) (ct : Con t) (hl : r.getLast? = some l) (hn : lookE l E = none) (hE : E.length < 60) :
    run P d_reduced [.r 0, .d false (cI r), .d false (cI t), .d false (.int (E.length : Int))] [.d (kPs E) (vPs E), fs] = ok (.d false (cI [(E.length : Int)]), [.d (kPs (E ++ [(l, r, plusL t [(E.length : Int)])])) (vPs (E ++ [(l, r, plusL t [(E.length : Int)])])), fs]) := by
  let σ : St := [some (.r 0), some (.d false (cI r)), some (.d false (cI t)), some (.d false (.int (E.length : Int)))]
  let h : OH := [.d (kPs E) (vPs E), fs]
  let h2 : OH := [.d (kPs (E ++ [(l, r, plusL t [(E.length : Int)])])) (vPs (E ++ [(l, r, plusL t [(E.length : Int)])])), fs]
  have f1 : ∀ h, ev P (.loc 1) σ h = ok (cI r) := fun h => ev_loc rfl
  have f2 : ∀ h, ev P (.loc 2) σ h = ok (cI t) := fun h => ev_loc rfl
  have f3 : ∀ h, ev P (.loc 3) σ h = ok (.int (E.length : Int)) := fun h => ev_loc rfl
  have e1 : ev P (.idx (.loc 1) (.neg (.cst (.int 1)))) σ h = ok (.int l) := by
    rw [ev.eq_def]; simp only [f1, w_neg1, bnd_ok, last_idx hl, Option.map_some]
  have t3 : ∀ h, ev P (.tup [.loc 3]) σ h = ok (cI [(E.length : Int)]) := fun h => by
    rw [ev.eq_def]; simp only [evs, f3, bnd_ok]; rfl
  have p1 : ev P (.call "plus" [.loc 2, .tup [.loc 3]]) σ h = ok (cI (plusL t [(E.length : Int)])) := by
    rw [ev.eq_def]
    simp only [evs, f2, t3, bnd_ok, argsOf]
    rw [show decide (flg σ (.loc 2) ≠ 0) = false from rfl, show decide (flg σ (.tup [.loc 3]) ≠ 0) = false from rfl, hP false false t [(E.length : Int)] [] ct (one_con (by omega))]
    rfl
  have e2 : ev P (.tup [.loc 1, .call "plus" [.loc 2, .tup [.loc 3]]]) σ h = ok (.tup [cI r, cI (plusL t [(E.length : Int)])]) := by
    rw [ev.eq_def]; simp only [evs, f1, p1, bnd_ok]; rfl
  have e3 : setItem (.d (kPs E) (vPs E)) (.int l) (.tup [cI r, cI (plusL t [(E.length : Int)])]) = some (.d (kPs (E ++ [(l, r, plusL t [(E.length : Int)])])) (vPs (E ++ [(l, r, plusL t [(E.length : Int)])]))) := by
    have hk : hasK (.int l) (kPs E) = false := by rw [hasK_E, decide_eq_false (lookE_none.mp hn)]
    have hlen : (kPs E).length < big := by simp only [kPs, List.length_map]; unfold big; omega
    simp only [setItem, keyOk, true_and, if_pos hlen, putKs, putVv, hk]
    simp [kPs, vPs]
  have st : evS P (.seti 0 (.idx (.loc 1) (.neg (.cst (.int 1)))) (.tup [.loc 1, .call "plus" [.loc 2, .tup [.loc 3]]])) σ h = some (.nx, σ, h2) := by
    rw [evS.eq_def]
    dsimp only
    rw [show slotR σ 0 = some 0 from rfl]
    simp only [e2, e1, val_ok]
    rw [if_pos (show flg σ (.tup [.loc 1, .call "plus" [.loc 2, .tup [.loc 3]]]) = 0 from rfl)]
    show ((setItem (.d (kPs E) (vPs E)) (.int l) (.tup [cI r, cI (plusL t [(E.length : Int)])])).map _) = _
    rw [e3]
    rfl
  refine run_ret (σ' := σ) rfl rfl ?_
  show evSs P d_reduced.body σ h = _
  unfold d_reduced
  dsimp only
  rw [L_cons, st, seq_nx, S_ret (t3 h2) rfl (by intro k q; cases q)]
theorem S_while {P : Pg} {n : Nat} {c : CE} {b ss : List CS} {σ σ' : St} {h h' : OH} (e : whileL (evT P c) (evSs P b) n σ h = some (.nx, σ', h')) : evSs P (.while_ n c b :: ss) σ h = evSs P ss σ' h' := by
  rw [L_cons, L_while, e]; rfl
def rBody : List CS := [
      .par [5, 6] [.v, .v] [.loc 4, .tup []],
      .while_ 1000 wCond wBody,
      .if_ (.cmp .ne (.loc 5) (.tup [])) [
        .callS (some 6) "reduced" [.o, .v, .v, .v] [.loc 1, .loc 5, .loc 6, .loc 3],
        .aug 3 .add (.cst (.int 1))] [],
      .app 2 (.loc 6)]
theorem r_turn {P : Pg} (hP : PlusOk P) (hR : ReducedOk P) {E : Rw} (hE : Rok E) (hl : E.length < 60) {s0 s5 s6 s7 : Option SV} {c : List Int} (hc : Con c) (ls : List (List Int)) (hls : ls.length < 60) :
    ∃ s5' s6' s7', evSs P rBody [s0, some (.r 0), some (.r 1), some (.d false (.int (E.length : Int))), some (.d false (cI c)), s5, s6, s7] [.d (kPs E) (vPs E), .l (ls.map cI)] =
      some (.nx, [s0, some (.r 0), some (.r 1), some (.d false (.int ((renS E c).1.length : Int))), some (.d false (cI c)), s5', s6', s7'], [.d (kPs (renS E c).1) (vPs (renS E c).1), .l ((ls ++ [(renS E c).2]).map cI)]) := by
  unfold rBody
  have a1 : ev P (.loc 4) [s0, some (.r 0), some (.r 1), some (.d false (.int (E.length : Int))), some (.d false (cI c)), s5, s6, s7] [.d (kPs E) (vPs E), .l (ls.map cI)] = ok (cI c) := ev_loc rfl
  have a2 : ev P (.tup []) [s0, some (.r 0), some (.r 1), some (.d false (.int (E.length : Int))), some (.d false (cI c)), s5, s6, s7] [.d (kPs E) (vPs E), .l (ls.map cI)] = ok (.tup []) := by simp only [ev, evs, bnd_ok]; rfl
  rw [S_par2 a1 rfl a2 rfl]
  obtain ⟨row, w1, cr, ct, w2⟩ := while_elim hP hE (s0 := s0) (s3 := some (.d false (.int (E.length : Int)))) (s4 := some (.d false (cI c))) (fs := .l (ls.map cI)) 64 1000 c [] s7 hc nil_con (con64 hc) (by decide)
  show ∃ s5' s6' s7', evSs P _ (wSt s0 (some (.d false (.int (E.length : Int)))) (some (.d false (cI c))) c [] s7) _ = _
  rw [S_while w1]
  cases q : (elimL E 64 c []).1.getLast? with
  | none =>
    have hr := List.getLast?_eq_none_iff.mp q
    have e : renS E c = (E, (elimL E 64 c []).2) := by simp only [renS, q]
    rw [e]
    have t1 : evT P (.cmp .ne (.loc 5) (.tup [])) (wSt s0 (some (.d false (.int (E.length : Int)))) (some (.d false (cI c))) (elimL E 64 c []).1 (elimL E 64 c []).2 row) [.d (kPs E) (vPs E), .l (ls.map cI)] = ok false := by
      unfold evT
      rw [w_ne, hr]; rfl
    rw [S_ifF t1, L_nil, seq_nx, L_cons, L_app (xs := ls.map cI) (n := 1) rfl rfl (by rw [List.length_map]; unfold big; omega), ev_loc (P := P) (i := 6) (k := false) (p := cI (elimL E 64 c []).2) rfl]
    refine ⟨some (.d false (cI (elimL E 64 c []).1)), some (.d false (cI (elimL E 64 c []).2)), row, ?_⟩
    rw [List.map_append]
    rfl
  | some l =>
    have e : renS E c = (E ++ [(l, (elimL E 64 c []).1, plusL (elimL E 64 c []).2 [(E.length : Int)])], [(E.length : Int)]) := by simp only [renS, q]
    rw [e]
    have hne : (elimL E 64 c []).1.isEmpty = false := by
      cases z : (elimL E 64 c []).1 with
      | nil => rw [z] at q; cases q
      | cons _ _ => rfl
    have t1 : evT P (.cmp .ne (.loc 5) (.tup [])) (wSt s0 (some (.d false (.int (E.length : Int)))) (some (.d false (cI c))) (elimL E 64 c []).1 (elimL E 64 c []).2 row) [.d (kPs E) (vPs E), .l (ls.map cI)] = ok true := by
      unfold evT
      rw [w_ne, hne]; rfl
    have r1 := hR E (.l (ls.map cI)) _ _ l cr ct q (w2 l q) hl
    have c1 : evS P (.callS (some 6) "reduced" [.o, .v, .v, .v] [.loc 1, .loc 5, .loc 6, .loc 3]) (wSt s0 (some (.d false (.int (E.length : Int)))) (some (.d false (cI c))) (elimL E 64 c []).1 (elimL E 64 c []).2 row) [.d (kPs E) (vPs E), .l (ls.map cI)] =
        some (.nx, wSt s0 (some (.d false (.int (E.length : Int)))) (some (.d false (cI c))) (elimL E 64 c []).1 [(E.length : Int)] row, [.d (kPs (E ++ [(l, (elimL E 64 c []).1, plusL (elimL E 64 c []).2 [(E.length : Int)])])) (vPs (E ++ [(l, (elimL E 64 c []).1, plusL (elimL E 64 c []).2 [(E.length : Int)])])), .l (ls.map cI)]) := by
      rw [evS.eq_def]
      dsimp only
      have g5 : ∀ h, ev P (.loc 5) (wSt s0 (some (.d false (.int (E.length : Int)))) (some (.d false (cI c))) (elimL E 64 c []).1 (elimL E 64 c []).2 row) h = ok (cI (elimL E 64 c []).1) := fun h => ev_loc rfl
      have g6 : ∀ h, ev P (.loc 6) (wSt s0 (some (.d false (.int (E.length : Int)))) (some (.d false (cI c))) (elimL E 64 c []).1 (elimL E 64 c []).2 row) h = ok (cI (elimL E 64 c []).2) := fun h => ev_loc rfl
      have g3 : ∀ h, ev P (.loc 3) (wSt s0 (some (.d false (.int (E.length : Int)))) (some (.d false (cI c))) (elimL E 64 c []).1 (elimL E 64 c []).2 row) h = ok (.int (E.length : Int)) := fun h => ev_loc rfl
      have ep : evP P [.o, .v, .v, .v] [.loc 1, .loc 5, .loc 6, .loc 3] (wSt s0 (some (.d false (.int (E.length : Int)))) (some (.d false (cI c))) (elimL E 64 c []).1 (elimL E 64 c []).2 row) [.d (kPs E) (vPs E), .l (ls.map cI)] =
          ok ([.r 0, .d false (cI (elimL E 64 c []).1), .d false (cI (elimL E 64 c []).2), .d false (.int (E.length : Int))], [.d (kPs E) (vPs E), .l (ls.map cI)]) := by
        simp only [evP, g5, g6, g3, bnd_ok]
        rfl
      rw [ep, val_ok]
      dsimp only
      rw [r1]
      rfl
    rw [S_ifT t1, L_cons, c1, seq_nx, L_cons, L_aug (p := .int (E.length : Int)) (kk := false) rfl, ev_cst]
    show ∃ s5' s6' s7', seq (seq (some (Fl.nx, [s0, some (.r 0), some (.r 1), some (.d false (.int ((E.length : Int) + 1))), some (.d false (cI c)), some (.d false (cI (elimL E 64 c []).1)), some (.d false (cI [(E.length : Int)])), row], [OO.d (kPs (E ++ [(l, (elimL E 64 c []).1, plusL (elimL E 64 c []).2 [(E.length : Int)])])) (vPs (E ++ [(l, (elimL E 64 c []).1, plusL (elimL E 64 c []).2 [(E.length : Int)])])), .l (ls.map cI)])) (evSs P [])) (evSs P [.app 2 (.loc 6)]) = _
    rw [seq_nx, L_nil, seq_nx, L_cons, L_app (xs := ls.map cI) (n := 1) rfl rfl (by rw [List.length_map]; unfold big; omega), ev_loc (P := P) (i := 6) (k := false) (p := cI [(E.length : Int)]) rfl]
    refine ⟨some (.d false (cI (elimL E 64 c []).1)), some (.d false (cI [(E.length : Int)])), row, ?_⟩
    rw [List.map_append, List.length_append]
    rfl
theorem run_renamed {P : Pg} (hP : PlusOk P) (hR : ReducedOk P) (a t : Bool) (cs : List (List Int)) (hc : ∀ c ∈ cs, Con c) (hl : cs.length ≤ 50) :
    ∃ d, run P d_renamed [.d a (cR t cs)] [] = ok (.r 1, [d, .l ((renL cs).2.map cI)]) := by
  have hpar : ∀ ss, evSs P (.par [1, 2, 3] [.n, .n, .v] [.dct0, .lst [], .cst (.int 0)] :: ss) [some (.d a (cR t cs)), none, none, none, none, none, none, none] [] = evSs P ss [some (.d a (cR t cs)), some (.r 0), some (.r 1), some (.d false (.int 0)), none, none, none, none] [.d [] [], .l []] := by
    intro ss
    rw [L_cons, L_par]
    have e1 : ∀ h, ev P .dct0 [some (.d a (cR t cs)), none, none, none, none, none, none, none] h = ok (.dct [] []) := fun h => by simp only [ev]
    have e2 : ∀ h, ev P (.lst []) [some (.d a (cR t cs)), none, none, none, none, none, none, none] h = ok (.lst []) := fun h => by simp only [ev, evs, bnd_ok]; rfl
    have e3 : ∀ h, ev P (.cst (.int 0)) [some (.d a (cR t cs)), none, none, none, none, none, none, none] h = ok (.int 0) := fun h => ev_cst
    simp only [evP, e1, e2, e3, bnd_ok]
    rfl
  have pre : ∀ d r, cs = d ++ r → Inv (renL d).1 d (renL d).2 := fun d r e => renL_inv (fun c h => hc c (by rw [e]; simp [h])) (by rw [e] at hl; simp at hl; omega)
  obtain ⟨σ', h', e, i⟩ := forL_inv (f := evSs P rBody) (t := .nm 4) (c := cI) (fun d σ h => (∃ s4 s5 s6 s7, σ = [some (.d a (cR t cs)), some (.r 0), some (.r 1), some (.d false (.int ((renL d).1.length : Int))), s4, s5, s6, s7]) ∧ h = [.d (kPs (renL d).1) (vPs (renL d).1), .l ((renL d).2.map cI)]) cs []
    [some (.d a (cR t cs)), some (.r 0), some (.r 1), some (.d false (.int 0)), none, none, none, none] [.d [] [], .l []] (by
      rintro d x r σ h e ⟨⟨s4, s5, s6, s7, rfl⟩, rfl⟩
      rw [List.nil_append] at e
      have I := pre d (x :: r) e
      have hd : d.length < 50 := by rw [e] at hl; simp at hl; omega
      obtain ⟨u5, u6, u7, et⟩ := r_turn hP hR I.rok (by have := I.le; omega) (s0 := some (.d a (cR t cs))) (s5 := s5) (s6 := s6) (s7 := s7) (hc x (by rw [e]; simp)) (renL d).2 (by rw [← I.len]; omega)
      refine ⟨_, _, _, rfl, et, ⟨some (.d false (cI x)), u5, u6, u7, ?_⟩, ?_⟩
      · rw [renL_snoc]; rfl
      · rw [renL_snoc]; rfl) ⟨⟨none, none, none, none, rfl⟩, rfl⟩
  rw [List.nil_append] at i
  obtain ⟨⟨s4, s5, s6, s7, rfl⟩, rfl⟩ := i
  refine ⟨.d (kPs (renL cs).1) (vPs (renL cs).1), run_ret (s := .r 1) (σ' := [some (.d a (cR t cs)), some (.r 0), some (.r 1), some (.d false (.int ((renL cs).1.length : Int))), s4, s5, s6, s7]) rfl rfl ?_⟩
  show evSs P d_renamed.body [some (.d a (cR t cs)), none, none, none, none, none, none, none] [] = _
  unfold d_renamed
  dsimp only
  rw [hpar]
  show evSs P [.for_ (.nm 4) (.loc 0) rBody, .ret (.loc 2)] _ _ = _
  rw [S_for (e := .loc 0) (v := cR t cs) (ev_loc rfl) (items_cR t cs) (by cases a <;> simp [flgI, flg]) e, L_cons, L_retR (n := 1) rfl]
  rfl
/-! ### add, numbered_anew -/
def ConOk (P : Pg) : Prop := ∀ a xs, Con xs → P.fn "is_content" [.d a (cI xs)] [] = ok (.d false (.bl true), [])
def SumOk (P : Pg) : Prop := ∀ a t cs, (∀ c ∈ cs, Con c) → P.fn "sum_up" [.d a (cR t cs)] [] = ok (.d false (cI (cs.foldl plusL [])), [])
def RenOk (P : Pg) : Prop := ∀ a t cs, (∀ c ∈ cs, Con c) → cs.length ≤ 50 → ∃ d, P.fn "renamed" [.d a (cR t cs)] [] = ok (.r 1, [d, .l ((renL cs).2.map cI)])
def guard : CE := .or (.not (.isi (.loc 0) [.b "list", .b "tuple"])) (.not (.bi .all [.comp (.call "is_content" [.loc 1]) (.nm 1) (.loc 0) []]))
theorem guard_ok {P : Pg} (hC : ConOk P) (a t : Bool) (cs : List (List Int)) (hc : ∀ c ∈ cs, Con c) : evT P guard [some (.d a (cR t cs)), none] [] = ok false := by
  have e0 : ev P (.loc 0) [some (.d a (cR t cs)), none] [] = ok (cR t cs) := ev_loc rfl
  have e1 : ev P (.not (.isi (.loc 0) [.b "list", .b "tuple"])) [some (.d a (cR t cs)), none] [] = ok (.bl false) := by
    rw [ev.eq_def]
    simp only [ev, List.getElem?_cons_zero, viewS, Option.map_some, bnd_ok]
    cases t <;> rfl
  have e2 : ev P (.comp (.call "is_content" [.loc 1]) (.nm 1) (.loc 0) []) [some (.d a (cR t cs)), none] [] = ok (.lst (cs.map fun _ => .bl true)) := by
    rw [ev.eq_def]
    simp only [e0, bnd_ok, items_cR, withO_some, slotsT, wipeS]
    rw [compL_eq (c := cI) (g := fun _ => some (.bl true))]
    · rw [fm_some]; rfl
    · intro c hcm
      refine ⟨_, rfl, ?_⟩
      have g1 : ∀ h, ev P (.loc 1) [some (.d a (cR t cs)), some (.d false (cI c))] h = ok (cI c) := fun h => ev_loc rfl
      have g2 : ev P (.call "is_content" [.loc 1]) [some (.d a (cR t cs)), some (.d false (cI c))] [] = ok (.bl true) := by
        rw [ev.eq_def]
        simp only [evs, g1, bnd_ok, argsOf]
        rw [show decide (flg [some (.d a (cR t cs)), some (.d false (cI c))] (.loc 1) ≠ 0) = false from rfl, hC false c (hc c hcm)]
        rfl
      show bnd (evC P [] _ []) _ = _
      simp only [evC, bnd_ok, if_true]
      show bnd (ev P (.call "is_content" [.loc 1]) [some (.d a (cR t cs)), some (.d false (cI c))] []) _ = _
      rw [g2]
      rfl
  have e3 : ev P (.bi .all [.comp (.call "is_content" [.loc 1]) (.nm 1) (.loc 0) []]) [some (.d a (cR t cs)), none] [] = ok (.bl true) := by
    refine ev_bi1 e2 (by intro z q; cases q) ?_
    rw [bi1_all (fun _ => true)]
    congr 2
    simp
  unfold evT guard
  rw [ev.eq_def]
  simp only [e1, bnd_ok, truth, withO_some]
  rw [ev.eq_def]
  simp only [e3, bnd_ok, truth, Option.map_some]
  rfl
theorem flgC {a t : Bool} {cs : List (List Int)} : decide (flg [some (.d a (cR t cs)), none] (.loc 0) ≠ 0) = a := by cases a <;> rfl
theorem run_add {P : Pg} (hC : ConOk P) (hS : SumOk P) (a t : Bool) (cs : List (List Int)) (hc : ∀ c ∈ cs, Con c) : run P d_add [.d a (cR t cs)] [] = ok (.d false (cI (cs.foldl plusL [])), []) := by
  refine run_ret (σ' := [some (.d a (cR t cs)), none]) rfl rfl ?_
  show evSs P d_add.body [some (.d a (cR t cs)), none] [] = _
  unfold d_add
  dsimp only
  have e0 : ev P (.loc 0) [some (.d a (cR t cs)), none] [] = ok (cR t cs) := ev_loc rfl
  show evSs P [.if_ guard [.raise_ "BadContent"] [], .ret (.call "sum_up" [.loc 0])] _ _ = _
  rw [S_ifF (c := guard) (guard_ok hC a t cs hc), L_nil, seq_nx, S_ret (p := cI (cs.foldl plusL [])) _ rfl (by intro k q; cases q)]
  rw [ev.eq_def]
  simp only [evs, e0, bnd_ok, argsOf, flgC, hS a t cs hc]
  rfl
theorem run_numbered {P : Pg} (hC : ConOk P) (hR : RenOk P) (a t : Bool) (cs : List (List Int)) (hc : ∀ c ∈ cs, Con c) (hl : cs.length ≤ 50) : run P d_numbered_anew [.d a (cR t cs)] [] = ok (.d false (cR false (renL cs).2), []) := by
  refine run_ret (σ' := [some (.d a (cR t cs)), none]) rfl rfl ?_
  show evSs P d_numbered_anew.body [some (.d a (cR t cs)), none] [] = _
  unfold d_numbered_anew
  dsimp only
  have e0 : ev P (.loc 0) [some (.d a (cR t cs)), none] [] = ok (cR t cs) := ev_loc rfl
  obtain ⟨d, hd⟩ := hR a t cs hc hl
  show evSs P [.if_ guard [.raise_ "BadContent"] [], .ret (.call "renamed" [.loc 0])] _ _ = _
  rw [S_ifF (c := guard) (guard_ok hC a t cs hc), L_nil, seq_nx, S_ret (p := cR false (renL cs).2) _ rfl (by intro k q; cases q)]
  rw [ev.eq_def]
  simp only [evs, e0, bnd_ok, argsOf, flgC, hd]
  rfl
end K02

set_option Elab.async false
set_option linter.all false
set_option maxRecDepth 100000
set_option maxHeartbeats 4000000
/-! K02l: the law's sums. -/
namespace K02
open Ev
/-- a content of letters below 6 -/
structure Con6 (xs : List Int) : Prop extends Con xs where
  six : ∀ i ∈ xs, i < 6
theorem Con6.len6 {xs : List Int} (h : Con6 xs) : xs.length ≤ 6 := strict_len 6 0 h.srt fun i hi => by
  have := h.rng i hi
  have := h.six i hi
  omega
theorem nil6 : Con6 [] := ⟨nil_con, fun i hi => by cases hi⟩
theorem plus6 {xs ys : List Int} (hx : Con6 xs) (hy : Con6 ys) : Con6 (plusL xs ys) := ⟨plusL_con hx.toCon hy.toCon, fun i hi => by
  rcases (plusL_mem xs ys i).mp hi with h | h
  · exact hx.six i h.1
  · exact hy.six i h.1⟩
def zP (z : List Int × List Int) : PV := .tup [cI z.1, cI z.2]
/-- all rows of those before, with their sums -/
def rowsL (cs : List (List Int)) : Nat → List (List Int × List Int)
  | 0 => [([], [])]
  | n + 1 => rowsL cs n ++ (rowsL cs n).map fun z => (z.1 ++ [(n : Int)], plusL z.2 (cs.getD n []))
theorem rowsL_len (cs : List (List Int)) : ∀ n, (rowsL cs n).length = 2 ^ n
  | 0 => rfl
  | n + 1 => by rw [rowsL, List.length_append, List.length_map, rowsL_len cs n, Nat.pow_succ]; omega
theorem getD6 {cs : List (List Int)} (hc : ∀ c ∈ cs, Con6 c) (n : Nat) : Con6 (cs.getD n []) := by
  rw [List.getD_eq_getElem?_getD]
  cases e : cs[n]? with
  | none => exact nil6
  | some c => exact hc c (List.mem_of_getElem? e)
theorem rowsL_ok {cs : List (List Int)} (hc : ∀ c ∈ cs, Con6 c) : ∀ n, ∀ z ∈ rowsL cs n, z.1.length ≤ n ∧ Con6 z.2
  | 0, z, h => by
    have : z = ([], []) := by simpa [rowsL] using h
    rw [this]; exact ⟨Nat.le_refl _, nil6⟩
  | n + 1, z, h => by
    rcases List.mem_append.mp h with h | h
    · have := rowsL_ok hc n z h
      exact ⟨by omega, this.2⟩
    · obtain ⟨y, hy, rfl⟩ := List.mem_map.mp h
      have := rowsL_ok hc n y hy
      exact ⟨by simp; omega, plus6 this.2 (getD6 hc n)⟩
def sameL (cs : List (List Int)) (n : Nat) : List (List Int) := ((rowsL cs n).filter fun z => decide (z.2 = cs.getD n [])).map (·.1)
def tO : Option (List Int) → PV
  | none => .non
  | some z => cI z
def sumAt (cs : List (List Int)) (n : Nat) : PV := tO (minL (sameL cs n))
theorem peqs_ints : ∀ a b : List Int, peqs (a.map PV.int) (b.map PV.int) = decide (a = b)
  | [], [] => by simp [peqs]
  | [], _ :: _ => by simp [peqs]
  | _ :: _, [] => by simp [peqs]
  | x :: a, y :: b => by
    simp only [List.map_cons, peqs, peq, peqs_ints a b]
    by_cases h1 : x = y <;> by_cases h2 : a = b <;> simp [h1, h2]
theorem peq_cI (a b : List Int) : peq (cI a) (cI b) = decide (a = b) := by rw [peq]; exact peqs_ints a b
theorem asIntss_ints : ∀ xs : List (List Int), asIntss (xs.map cI) = some xs
  | [] => rfl
  | x :: xs => by simp only [List.map_cons, cI, asIntss, asInts_ints, Option.bind_some]; rw [asIntss_ints xs]; rfl
theorem areData_cs : ∀ xs : List (List Int), areData (xs.map cI) = true
  | [] => rfl
  | x :: xs => by simp only [List.map_cons, areData, isData, areData_ints, areData_cs xs, Bool.and_self]
theorem depths_cs : ∀ xs : List (List Int), depths (xs.map cI) ≤ 1
  | [] => by simp [depths]
  | x :: xs => by
    have := depths_cs xs
    simp only [List.map_cons, depths, depth, depths_ints]
    omega
theorem cmpOk_cs (xs : List (List Int)) : cmpOk (.lst (xs.map cI)) = true := by
  have := depths_cs xs
  simp only [cmpOk, isData, depth, areData_cs, Bool.true_and]
  exact decide_eq_true (by omega)
theorem peq_lnil : ∀ xs : List PV, peq (.lst xs) (.lst []) = xs.isEmpty
  | [] => rfl
  | x :: xs => rfl
theorem tot_two {t c : List Int} (ht : Con t) (hc : Con c) : totL [t, c] = plusL t c := by
  rw [tot_sum (fun x hx => by
    have : x = t ∨ x = c := by simpa using hx
    rcases this with rfl | rfl <;> assumption)]
  simp only [List.foldl_cons, List.foldl_nil, plus_nil ht]
theorem fm_filter {α β : Type} (p : α → Bool) (g : α → β) : ∀ xs : List α, xs.filterMap (fun z => if p z then some (g z) else none) = (xs.filter p).map g
  | [] => rfl
  | x :: xs => by
    cases q : p x with
    | true => rw [List.filterMap_cons_some (b := g x) (by simp [q]), List.filter_cons_of_pos q, List.map_cons, fm_filter p g xs]
    | false => rw [List.filterMap_cons_none (by simp [q]), List.filter_cons_of_neg (by simp [q]), fm_filter p g xs]
def TotOk (P : Pg) : Prop := ∀ a t cs, cs.flatten.length < 64 → P.fn "_law_total" [.d a (cR t cs)] [] = ok (.d false (cI (totL cs)), [])
theorem enum_eq : ∀ (cs : List (List Int)) (k : Nat), enumP k (cs.map cI) = (cs.zipIdx k).map fun p => .tup [.int (p.2 : Nat), cI p.1]
  | [], k => rfl
  | c :: cs, k => by simp only [List.map_cons, enumP, List.zipIdx_cons, enum_eq cs (k + 1)]
theorem op_addT {xs ys : List PV} (h : xs.length + ys.length ≤ big) : op2 .add (.tup xs) (.tup ys) = some (.tup (xs ++ ys)) := by simp only [op2, if_pos h]
theorem op_addL {xs ys : List PV} (h : xs.length + ys.length ≤ big) : op2 .add (.lst xs) (.lst ys) = some (.lst (xs ++ ys)) := by simp only [op2, if_pos h]
theorem idx_cs {cs : List (List Int)} {k : Nat} (h : k < cs.length) : index (.lst (cs.map cI)) (.int (k : Int)) = some (cI (cs.getD k [])) := by
  simp only [index, ixN, List.length_map]
  rw [if_pos (by omega), if_pos (by omega), Option.bind_some, List.getElem?_map, Int.toNat_natCast, List.getElem?_eq_getElem h, Option.map_some, List.getD_eq_getElem?_getD, List.getElem?_eq_getElem h]
  rfl
def sIn : List CS := [.asg (.nm 4) (.bin .add (.loc 4) (.comp (.tup [.bin .add (.loc 7) (.tup [.loc 5]), .call "_law_total" [.lst [.loc 8, .idx (.loc 0) (.loc 5)]]]) (.tp [.nm 7, .nm 8]) (.loc 4) []))]
def sOut : List CS := [
      .asg (.nm 4) (.lst [.tup [.tup [], .tup []]]),
      .for_ (.nm 5) (.range (.cst (.int 0)) (.loc 2)) sIn,
      .asg (.nm 6) (.comp (.loc 7) (.tp [.nm 7, .nm 8]) (.loc 4) [.cmp .eq (.loc 8) (.loc 3)]),
      .app 1 (.ite (.cmp .ne (.loc 6) (.lst [])) (.bi .min [.loc 6]) (.cst .non))]
section
variable {P : Pg} {a : Bool} {cs : List (List Int)} {s1 s2 s3 s4 s5 s6 s7 s8 : Option SV} {h : OH}
theorem sIn_turn (hT : TotOk P) (hc : ∀ c ∈ cs, Con6 c) (hl : cs.length ≤ 6) {n : Nat} (hn : n < cs.length) :
    evSs P sIn [some (.d a (cR false cs)), s1, s2, s3, some (.d false (.lst ((rowsL cs n).map zP))), some (.d false (.int (n : Int))), s6, s7, s8] h =
      some (.nx, [some (.d a (cR false cs)), s1, s2, s3, some (.d false (.lst ((rowsL cs (n + 1)).map zP))), some (.d false (.int (n : Int))), s6, s7, s8], h) := by
  let σ : St := [some (.d a (cR false cs)), s1, s2, s3, some (.d false (.lst ((rowsL cs n).map zP))), some (.d false (.int (n : Int))), s6, s7, s8]
  have e4 : ev P (.loc 4) σ h = ok (.lst ((rowsL cs n).map zP)) := ev_loc rfl
  have ec : ev P (.comp (.tup [.bin .add (.loc 7) (.tup [.loc 5]), .call "_law_total" [.lst [.loc 8, .idx (.loc 0) (.loc 5)]]]) (.tp [.nm 7, .nm 8]) (.loc 4) []) σ h = ok (.lst (((rowsL cs n).map fun z => (z.1 ++ [(n : Int)], plusL z.2 (cs.getD n []))).map zP)) := by
    rw [ev.eq_def]
    simp only [e4, bnd_ok, itemsOf, withO_some, slotsT, slotsTs, List.append_nil, List.cons_append, List.nil_append, wipeS]
    rw [compL_eq (c := zP) (g := fun z => some (zP (z.1 ++ [(n : Int)], plusL z.2 (cs.getD n []))))]
    · rw [fm_some, List.map_map]; rfl
    · intro z hz
      obtain ⟨z1, z2⟩ := rowsL_ok hc n z hz
      let σ2 : St := [some (.d a (cR false cs)), s1, s2, s3, some (.d false (.lst ((rowsL cs n).map zP))), some (.d false (.int (n : Int))), s6, some (.d false (cI z.1)), some (.d false (cI z.2))]
      refine ⟨σ2, rfl, ?_⟩
      have f7 : ev P (.loc 7) σ2 h = ok (cI z.1) := ev_loc rfl
      have f8 : ev P (.loc 8) σ2 h = ok (cI z.2) := ev_loc rfl
      have f5 : ev P (.loc 5) σ2 h = ok (.int (n : Int)) := ev_loc rfl
      have f0 : ev P (.loc 0) σ2 h = ok (cR false cs) := ev_loc rfl
      have g1 : ev P (.tup [.loc 5]) σ2 h = ok (.tup [.int (n : Int)]) := by rw [ev.eq_def]; simp only [evs, f5, bnd_ok]; rfl
      have g2 : ev P (.bin .add (.loc 7) (.tup [.loc 5])) σ2 h = ok (cI (z.1 ++ [(n : Int)])) := by
        rw [ev.eq_def]
        simp only [f7, g1, bnd_ok]
        rw [op_addT (by simp; unfold big; omega)]
        simp [cI]
      have g3 : ev P (.idx (.loc 0) (.loc 5)) σ2 h = ok (cI (cs.getD n [])) := by
        rw [ev.eq_def]
        simp only [f0, f5, bnd_ok]
        show (index (.lst (cs.map cI)) (.int (n : Int))).map _ = _
        rw [idx_cs hn]
        rfl
      have g4 : ev P (.lst [.loc 8, .idx (.loc 0) (.loc 5)]) σ2 h = ok (cR false [z.2, cs.getD n []]) := by rw [ev.eq_def]; simp only [evs, f8, g3, bnd_ok]; rfl
      have cz := getD6 hc n
      have g5 : ev P (.call "_law_total" [.lst [.loc 8, .idx (.loc 0) (.loc 5)]]) σ2 h = ok (cI (plusL z.2 (cs.getD n []))) := by
        rw [ev.eq_def]
        simp only [evs, g4, bnd_ok, argsOf]
        rw [show decide (flg σ2 (.lst [.loc 8, .idx (.loc 0) (.loc 5)]) ≠ 0) = false from rfl, hT false false _ (by
          have := z2.len6; have := cz.len6
          simp only [List.flatten_cons, List.flatten_nil, List.length_append, List.length_nil]; omega), tot_two z2.toCon cz.toCon]
        rfl
      have g6 : ev P (.tup [.bin .add (.loc 7) (.tup [.loc 5]), .call "_law_total" [.lst [.loc 8, .idx (.loc 0) (.loc 5)]]]) σ2 h = ok (zP (z.1 ++ [(n : Int)], plusL z.2 (cs.getD n []))) := by
        rw [ev.eq_def]; simp only [evs, g2, g5, bnd_ok]; rfl
      simp only [evC, bnd_ok, if_true, g6]
      rfl
  have eb : ev P (.bin .add (.loc 4) (.comp (.tup [.bin .add (.loc 7) (.tup [.loc 5]), .call "_law_total" [.lst [.loc 8, .idx (.loc 0) (.loc 5)]]]) (.tp [.nm 7, .nm 8]) (.loc 4) [])) σ h = ok (.lst ((rowsL cs (n + 1)).map zP)) := by
    have hp : 2 ^ n ≤ 2 ^ 6 := Nat.pow_le_pow_right (by decide) (by omega)
    rw [ev.eq_def]
    simp only [e4, ec, bnd_ok]
    rw [op_addL (by simp only [List.length_map, rowsL_len]; unfold big; omega)]
    dsimp only
    rw [if_pos ⟨rfl, rfl⟩, rowsL, List.map_append]
  unfold sIn
  rw [S_asg eb rfl]
  rfl
theorem sOut_turn (hT : TotOk P) (hc : ∀ c ∈ cs, Con6 c) (hl : cs.length ≤ 6) {n : Nat} (hn : n < cs.length) {fs : List PV} (hf : fs.length < 60) :
    ∃ t4 t5 t6, evSs P sOut [some (.d a (cR false cs)), some (.r 0), some (.d false (.int (n : Int))), some (.d false (cI (cs.getD n []))), s4, s5, s6, s7, s8] [.l fs] =
      some (.nx, [some (.d a (cR false cs)), some (.r 0), some (.d false (.int (n : Int))), some (.d false (cI (cs.getD n []))), t4, t5, t6, s7, s8], [.l (fs ++ [sumAt cs n])]) := by
  unfold sOut
  have a1 : ev P (.lst [.tup [.tup [], .tup []]]) [some (.d a (cR false cs)), some (.r 0), some (.d false (.int (n : Int))), some (.d false (cI (cs.getD n []))), s4, s5, s6, s7, s8] [.l fs] = ok (.lst ((rowsL cs 0).map zP)) := by
    simp only [ev, evs, bnd_ok]; rfl
  rw [S_asg a1 rfl]
  have ar := ev_range (P := P) (b := .loc 2) (σ := [some (.d a (cR false cs)), some (.r 0), some (.d false (.int (n : Int))), some (.d false (cI (cs.getD n []))), some (.d false (.lst ((rowsL cs 0).map zP))), s5, s6, s7, s8]) (h := [.l fs]) (ev_loc rfl) (by omega) (by omega)
  obtain ⟨σ', h', e, i⟩ := forL_inv (f := evSs P sIn) (t := .nm 5) (c := PV.int) (fun d σ h => (∃ t5, σ = [some (.d a (cR false cs)), some (.r 0), some (.d false (.int (n : Int))), some (.d false (cI (cs.getD n []))), some (.d false (.lst ((rowsL cs d.length).map zP))), t5, s6, s7, s8]) ∧ h = [.l fs])
    ((List.range (n : Int).toNat).map fun k : Nat => (0 : Int) + (k : Int)) [] [some (.d a (cR false cs)), some (.r 0), some (.d false (.int (n : Int))), some (.d false (cI (cs.getD n []))), some (.d false (.lst ((rowsL cs 0).map zP))), s5, s6, s7, s8] [.l fs] (by
      rintro d x r σ h e ⟨⟨t5, rfl⟩, rfl⟩
      rw [List.nil_append] at e
      have hd : d.length < n := by
        have := congrArg List.length e
        simp at this; omega
      have hx : x = (d.length : Int) := by
        have h1 : (((List.range (n : Int).toNat).map fun k : Nat => (0 : Int) + (k : Int)))[d.length]? = some x := by rw [e]; simp
        rw [List.getElem?_map, List.getElem?_range (by omega)] at h1
        simp at h1; omega
      subst hx
      refine ⟨_, _, _, rfl, sIn_turn hT hc hl (by omega), ⟨some (.d false (.int (d.length : Int))), ?_⟩, rfl⟩
      simp) ⟨⟨s5, rfl⟩, rfl⟩
  rw [List.nil_append] at i
  obtain ⟨⟨t5, rfl⟩, rfl⟩ := i
  have hlen : ((List.range (n : Int).toNat).map fun k : Nat => (0 : Int) + (k : Int)).length = n := by simp
  rw [hlen] at e
  show ∃ t4 t5 t6, evSs P _ [some (.d a (cR false cs)), some (.r 0), some (.d false (.int (n : Int))), some (.d false (cI (cs.getD n []))), some (.d false (.lst ((rowsL cs 0).map zP))), s5, s6, s7, s8] _ = _
  rw [S_for (v := .lst (((List.range (n : Int).toNat).map fun k : Nat => (0 : Int) + (k : Int)).map PV.int)) ar rfl (by show 0 ≤ 1; decide) e]
  let σ1 : St := [some (.d a (cR false cs)), some (.r 0), some (.d false (.int (n : Int))), some (.d false (cI (cs.getD n []))), some (.d false (.lst ((rowsL cs n).map zP))), t5, s6, s7, s8]
  have b4 : ev P (.loc 4) σ1 [.l fs] = ok (.lst ((rowsL cs n).map zP)) := ev_loc rfl
  have b1 : ev P (.comp (.loc 7) (.tp [.nm 7, .nm 8]) (.loc 4) [.cmp .eq (.loc 8) (.loc 3)]) σ1 [.l fs] = ok (.lst ((sameL cs n).map cI)) := by
    rw [ev.eq_def]
    simp only [b4, bnd_ok, itemsOf, withO_some, slotsT, slotsTs, List.append_nil, List.cons_append, List.nil_append, wipeS]
    rw [compL_eq (c := zP) (g := fun z => if decide (z.2 = cs.getD n []) then some (cI z.1) else none)]
    · rw [fm_filter]
      simp only [calm, bnd_ok, sameL, List.map_map]
      rfl
    · intro z hz
      let σ2 : St := [some (.d a (cR false cs)), some (.r 0), some (.d false (.int (n : Int))), some (.d false (cI (cs.getD n []))), some (.d false (.lst ((rowsL cs n).map zP))), t5, s6, some (.d false (cI z.1)), some (.d false (cI z.2))]
      refine ⟨σ2, rfl, ?_⟩
      have f7 : ev P (.loc 7) σ2 [.l fs] = ok (cI z.1) := ev_loc rfl
      have f8 : ev P (.loc 8) σ2 [.l fs] = ok (cI z.2) := ev_loc rfl
      have f3 : ev P (.loc 3) σ2 [.l fs] = ok (cI (cs.getD n [])) := ev_loc rfl
      have g : ev P (.cmp .eq (.loc 8) (.loc 3)) σ2 [.l fs] = ok (.bl (decide (z.2 = cs.getD n []))) := by
        rw [ev.eq_def]
        simp only [f8, f3, bnd_ok, cm2, cmpOk_cI, Bool.and_self, if_true, Option.map_some, peq_cI]
      simp only [evC, g, bnd_ok, truth, withO_some]
      by_cases q : z.2 = cs.getD n []
      · simp only [q, decide_true, if_true, evC, bnd_ok, f7]; rfl
      · simp only [q, decide_false, Bool.false_eq_true, if_false, bnd_ok]
  rw [S_asg b1 rfl]
  let σ3 : St := [some (.d a (cR false cs)), some (.r 0), some (.d false (.int (n : Int))), some (.d false (cI (cs.getD n []))), some (.d false (.lst ((rowsL cs n).map zP))), t5, some (.d false (.lst ((sameL cs n).map cI))), s7, s8]
  show ∃ t4 t5 t6, evSs P _ σ3 [.l fs] = _
  have c6 : ev P (.loc 6) σ3 [.l fs] = ok (.lst ((sameL cs n).map cI)) := ev_loc rfl
  have c0 : ev P (.lst []) σ3 [.l fs] = ok (.lst []) := by simp only [ev, evs, bnd_ok]; rfl
  have c1 : ev P (.cmp .ne (.loc 6) (.lst [])) σ3 [.l fs] = ok (.bl !(sameL cs n).isEmpty) := by
    rw [ev.eq_def]
    simp only [c6, c0, bnd_ok, cm2, cmpOk_cs, show cmpOk (.lst []) = true from rfl, Bool.and_self, if_true, Option.map_some, peq_lnil, List.isEmpty_map]
  have c2 : ev P (.ite (.cmp .ne (.loc 6) (.lst [])) (.bi .min [.loc 6]) (.cst .non)) σ3 [.l fs] = ok (sumAt cs n) := by
    rw [ev.eq_def]
    simp only [c1, bnd_ok, truth, withO_some]
    unfold sumAt
    cases q : sameL cs n with
    | nil => simp only [List.isEmpty_nil, Bool.not_true, Bool.false_eq_true, if_false, ev_cst, minL, tO]
    | cons z r =>
      simp only [List.isEmpty_cons, Bool.not_false, if_true]
      refine ev_bi1 c6 (by intro z q; cases q) ?_
      rw [q]
      simp only [bi1, asIntss_ints, minL, Option.map_some, tO]
  refine ⟨some (.d false (.lst ((rowsL cs n).map zP))), t5, some (.d false (.lst ((sameL cs n).map cI))), ?_⟩
  rw [L_cons, L_app (xs := fs) (n := 0) rfl rfl (by unfold big; omega), c2, val_ok]
  rfl
end
theorem run_sums {P : Pg} (hT : TotOk P) (a : Bool) (cs : List (List Int)) (hc : ∀ c ∈ cs, Con6 c) (hl : cs.length ≤ 6) : run P d_law_sums [.d a (cR false cs)] [] = ok (.r 0, [.l ((List.range cs.length).map (sumAt cs))]) := by
  have hnew : ∀ ss, evSs P (.new 1 (.lst []) :: ss) [some (.d a (cR false cs)), none, none, none, none, none, none, none, none] [] = evSs P ss [some (.d a (cR false cs)), some (.r 0), none, none, none, none, none, none, none] [.l []] := by
    intro ss
    rw [S_new (p := .lst []) (oo := .l []) (by simp only [ev, evs, bnd_ok]; rfl) rfl]
    rfl
  obtain ⟨σ', h', e, i⟩ := forL_inv (f := evSs P sOut) (t := .tp [.nm 2, .nm 3]) (c := fun p : List Int × Nat => PV.tup [.int (p.2 : Nat), cI p.1]) (fun d σ h => (∃ t2 t3 t4 t5 t6 t7 t8, σ = [some (.d a (cR false cs)), some (.r 0), t2, t3, t4, t5, t6, t7, t8]) ∧ h = [.l ((List.range d.length).map (sumAt cs))])
    (cs.zipIdx 0) [] [some (.d a (cR false cs)), some (.r 0), none, none, none, none, none, none, none] [.l []] (by
      rintro d x r σ h e ⟨⟨t2, t3, t4, t5, t6, t7, t8, rfl⟩, rfl⟩
      rw [List.nil_append] at e
      have hd : d.length < cs.length := by
        have := congrArg List.length e
        simp at this; omega
      have hx : x = (cs.getD d.length [], d.length) := by
        have h1 : (cs.zipIdx 0)[d.length]? = some x := by rw [e]; simp
        rw [List.getElem?_zipIdx, List.getElem?_eq_getElem hd] at h1
        have := Option.some.inj h1
        rw [← this, List.getD_eq_getElem?_getD, List.getElem?_eq_getElem hd]
        simp
      subst hx
      obtain ⟨u4, u5, u6, et⟩ := sOut_turn (a := a) (s4 := t4) (s5 := t5) (s6 := t6) (s7 := t7) (s8 := t8) hT hc hl hd (fs := (List.range d.length).map (sumAt cs)) (by simp; omega)
      refine ⟨_, _, _, rfl, et, ⟨_, _, u4, u5, u6, t7, t8, rfl⟩, ?_⟩
      rw [List.length_append, List.length_singleton, List.range_succ, List.map_append]
      rfl) ⟨⟨_, _, _, _, _, _, _, rfl⟩, rfl⟩
  rw [List.nil_append] at i
  obtain ⟨⟨t2, t3, t4, t5, t6, t7, t8, rfl⟩, rfl⟩ := i
  have el : (cs.zipIdx 0).length = cs.length := by simp
  rw [el] at e
  refine run_ret (s := .r 0) (σ' := [some (.d a (cR false cs)), some (.r 0), t2, t3, t4, t5, t6, t7, t8]) rfl rfl ?_
  show evSs P d_law_sums.body [some (.d a (cR false cs)), none, none, none, none, none, none, none, none] [] = _
  unfold d_law_sums
  dsimp only
  rw [hnew]
  show evSs P [.for_ (.tp [.nm 2, .nm 3]) (.enum (.loc 0)) sOut, .ret (.loc 1)] _ _ = _
  have en : ev P (.enum (.loc 0)) [some (.d a (cR false cs)), some (.r 0), none, none, none, none, none, none, none] [.l []] = ok (.lst ((cs.zipIdx 0).map fun p => .tup [.int (p.2 : Nat), cI p.1])) := by
    rw [ev.eq_def]
    simp only [ev_loc (P := P) (i := 0) (k := a) (p := cR false cs) (σ := [some (.d a (cR false cs)), some (.r 0), none, none, none, none, none, none, none]) (h := [.l []]) rfl, bnd_ok]
    show ok (PV.lst (enumP 0 (cs.map cI))) = _
    rw [enum_eq]
  rw [S_for (e := .enum (.loc 0)) en rfl (by cases a <;> simp [flgI, flg]) e, L_cons, L_retR (n := 0) rfl]
  rfl
end K02

set_option Elab.async false
set_option linter.all false
set_option maxRecDepth 100000
set_option maxHeartbeats 4000000
/-! K02m: the same rows are the same sums. -/
namespace K02
open Ev
abbrev Z4 := List Int × List Int × List Int × List Bool
def rows4 (cs ls : List (List Int)) : Nat → List Z4
  | 0 => [([], [], [], [])]
  | n + 1 => (rows4 cs ls n).map (fun z => (z.1, z.2.1, z.2.2.1, z.2.2.2 ++ [false])) ++ (rows4 cs ls n).map fun z => (z.1 ++ [(n : Int)], plusL z.2.1 (cs.getD n []), plusL z.2.2.1 (ls.getD n []), z.2.2.2 ++ [true])
theorem rows4_l (cs ls : List (List Int)) : ∀ n, rowsL cs n = (rows4 cs ls n).map fun z => (z.1, z.2.1)
  | 0 => rfl
  | n + 1 => by
    rw [rowsL, rows4, rows4_l cs ls n]
    simp only [List.map_append, List.map_map]
    rfl
theorem rows4_r (cs ls : List (List Int)) : ∀ n, rowsL ls n = (rows4 cs ls n).map fun z => (z.1, z.2.2.1)
  | 0 => rfl
  | n + 1 => by
    rw [rowsL, rows4, rows4_r cs ls n]
    simp only [List.map_append, List.map_map]
    rfl
theorem take_getD {cs : List (List Int)} {n : Nat} (h : n < cs.length) : cs.take (n + 1) = cs.take n ++ [cs.getD n []] := by
  rw [List.take_succ, List.getElem?_eq_getElem h, List.getD_eq_getElem?_getD, List.getElem?_eq_getElem h]
  rfl
structure Ok4 (cs ls : List (List Int)) (n : Nat) (z : Z4) : Prop where
  len : z.2.2.2.length = n
  l : ∀ x, vv z.2.1 x = comb z.2.2.2 ((cs.take n).map vv) x
  r : ∀ x, vv z.2.2.1 x = comb z.2.2.2 ((ls.take n).map vv) x
  cl : Con6 z.2.1
  cr : Con6 z.2.2.1
theorem rows4_ok {cs ls : List (List Int)} (hc : ∀ c ∈ cs, Con6 c) (hls : ∀ c ∈ ls, Con6 c) (he : cs.length = ls.length) : ∀ n, n ≤ cs.length → ∀ z ∈ rows4 cs ls n, Ok4 cs ls n z
  | 0, _, z, hz => by
    have : z = ([], [], [], []) := by simpa [rows4] using hz
    rw [this]
    exact ⟨rfl, fun x => by simp [comb, vv], fun x => by simp [comb, vv], nil6, nil6⟩
  | n + 1, hn, z, hz => by
    have ih := rows4_ok hc hls he n (by omega)
    have e1 := take_getD (cs := cs) (n := n) (by omega)
    have e2 := take_getD (cs := ls) (n := n) (by omega)
    rcases List.mem_append.mp hz with hz | hz
    · obtain ⟨y, hy, rfl⟩ := List.mem_map.mp hz
      have o := ih y hy
      refine ⟨by simp [o.len], fun x => ?_, fun x => ?_, o.cl, o.cr⟩
      · rw [e1, List.map_append, List.map_singleton, comb_app x (by rw [o.len]; simp; omega), ← o.l x]; simp
      · rw [e2, List.map_append, List.map_singleton, comb_app x (by rw [o.len]; simp; omega), ← o.r x]; simp
    · obtain ⟨y, hy, rfl⟩ := List.mem_map.mp hz
      have o := ih y hy
      refine ⟨by simp [o.len], fun x => ?_, fun x => ?_, plus6 o.cl (getD6 hc n), plus6 o.cr (getD6 hls n)⟩
      · rw [e1, List.map_append, List.map_singleton, comb_app x (by rw [o.len]; simp; omega), ← o.l x, vv_plus]; simp
      · rw [e2, List.map_append, List.map_singleton, comb_app x (by rw [o.len]; simp; omega), ← o.r x, vv_plus]; simp
theorem rows4_all (cs ls : List (List Int)) : ∀ n (s : List Bool), s.length = n → ∃ z ∈ rows4 cs ls n, z.2.2.2 = s
  | 0, s, h => ⟨([], [], [], []), by simp [rows4], by rw [List.length_eq_zero_iff.mp h]⟩
  | n + 1, s, h => by
    have hne : s ≠ [] := fun e => by rw [e] at h; cases h
    obtain ⟨z, hz, e⟩ := rows4_all cs ls n s.dropLast (by rw [List.length_dropLast, h]; rfl)
    have es : s.dropLast ++ [s.getLast hne] = s := List.dropLast_concat_getLast hne
    cases q : s.getLast hne with
    | false => exact ⟨_, List.mem_append_left _ (List.mem_map.mpr ⟨z, hz, rfl⟩), by dsimp only; rw [e, ← q, es]⟩
    | true => exact ⟨_, List.mem_append_right _ (List.mem_map.mpr ⟨z, hz, rfl⟩), by dsimp only; rw [e, ← q, es]⟩
theorem xor_f {a b : Bool} : Bool.xor a b = false ↔ a = b := by cases a <;> cases b <;> simp
theorem same_iff {cs ls : List (List Int)} {E : Rw} (I : Inv E cs ls) (hc : ∀ c ∈ cs, Con6 c) (hls : ∀ c ∈ ls, Con6 c) {n : Nat} (hn : n < cs.length) {z : Z4} (hz : z ∈ rows4 cs ls n) : z.2.1 = cs.getD n [] ↔ z.2.2.1 = ls.getD n [] := by
  have o := rows4_ok hc hls I.len n (by omega) z hz
  have e1 := take_getD (cs := cs) (n := n) (by omega)
  have e2 := take_getD (cs := ls) (n := n) (by have := I.len; omega)
  have r := rel_iff I.rok (cs := cs.take (n + 1)) (ls := ls.take (n + 1)) (z.2.2.2 ++ [true]) (by simp [I.len]) (fun p hp => I.rep p (by
    obtain ⟨i, hi, e⟩ := List.getElem_of_mem hp
    rw [← e, List.getElem_zip, List.getElem_take, List.getElem_take, ← List.getElem_zip (h := by simp at hi ⊢; omega)]
    exact List.getElem_mem _))
  have k1 : (∀ x, comb (z.2.2.2 ++ [true]) ((cs.take (n + 1)).map vv) x = false) ↔ z.2.1 = cs.getD n [] := by
    rw [e1, List.map_append, List.map_singleton]
    constructor
    · intro h
      refine vv_inj o.cl.toCon (getD6 hc n).toCon fun x => ?_
      have := h x
      rw [comb_app x (by rw [o.len]; simp; omega), Bool.true_and, xor_f, ← o.l x] at this
      exact this
    · intro h x
      rw [comb_app x (by rw [o.len]; simp; omega), Bool.true_and, xor_f, ← o.l x, h]
  have k2 : (∀ x, comb (z.2.2.2 ++ [true]) ((ls.take (n + 1)).map vv) x = false) ↔ z.2.2.1 = ls.getD n [] := by
    have hl := I.len
    rw [e2, List.map_append, List.map_singleton]
    constructor
    · intro h
      refine vv_inj o.cr.toCon (getD6 hls n).toCon fun x => ?_
      have := h x
      rw [comb_app x (by rw [o.len]; simp; omega), Bool.true_and, xor_f, ← o.r x] at this
      exact this
    · intro h x
      rw [comb_app x (by rw [o.len]; simp; omega), Bool.true_and, xor_f, ← o.r x, h]
  rw [← k1, ← k2]
  exact r
theorem same_eq {cs ls : List (List Int)} {E : Rw} (I : Inv E cs ls) (hc : ∀ c ∈ cs, Con6 c) (hls : ∀ c ∈ ls, Con6 c) {n : Nat} (hn : n < cs.length) : sameL cs n = sameL ls n := by
  unfold sameL
  rw [rows4_l cs ls n, rows4_r cs ls n, List.filter_map, List.filter_map, List.map_map, List.map_map]
  have : (rows4 cs ls n).filter ((fun z : List Int × List Int => decide (z.2 = cs.getD n [])) ∘ fun z => (z.1, z.2.1)) = (rows4 cs ls n).filter ((fun z : List Int × List Int => decide (z.2 = ls.getD n [])) ∘ fun z => (z.1, z.2.2.1)) := by
    apply List.filter_congr
    intro z hz
    simp only [Function.comp_apply]
    exact decide_eq_decide.mpr (same_iff I hc hls hn hz)
  rw [this]
  rfl
/-! ### new letters -/
theorem cnt_step (ls : List (List Int)) {n : Nat} (h : n < ls.length) : cnt (ls.take (n + 1)) = if ls.getD n [] = [(cnt (ls.take n) : Int)] then cnt (ls.take n) + 1 else cnt (ls.take n) := by
  rw [take_getD h, cnt_snoc]
theorem good_at {ls : List (List Int)} (hg : Good ls) {n : Nat} (h : n < ls.length) : ls.getD n [] = [(cnt (ls.take n) : Int)] ∨ ∀ x ∈ ls.getD n [], x < (cnt (ls.take n) : Int) :=
  hg n _ (by rw [List.getD_eq_getElem?_getD, List.getElem?_eq_getElem h]; rfl)
theorem low_take {ls : List (List Int)} (hg : Good ls) : ∀ n, n ≤ ls.length → ∀ l ∈ ls.take n, ∀ x ∈ l, x < (cnt (ls.take n) : Int)
  | 0, _, l, hl => by simp at hl
  | n + 1, hn, l, hl => by
    intro x hx
    have ih := low_take hg n (by omega)
    have cs := cnt_step ls (n := n) (by omega)
    rw [take_getD (by omega)] at hl
    rcases List.mem_append.mp hl with h | h
    · have := ih l h x hx
      rw [cs]; split <;> omega
    · have e : l = ls.getD n [] := List.mem_singleton.mp h
      rw [e] at hx
      rcases good_at hg (n := n) (by omega) with q | q
      · rw [q] at hx
        have : x = (cnt (ls.take n) : Int) := by simpa using hx
        rw [cs, if_pos q]; omega
      · have := q x hx
        rw [cs]; split <;> omega
def pick (ls : List (List Int)) (l : List Int) : Nat → List Bool
  | 0 => []
  | n + 1 => pick ls l n ++ [decide (ls.getD n [] = [(cnt (ls.take n) : Int)] ∧ (cnt (ls.take n) : Int) ∈ l)]
theorem pick_len (ls : List (List Int)) (l : List Int) : ∀ n, (pick ls l n).length = n
  | 0 => rfl
  | n + 1 => by rw [pick, List.length_append, pick_len ls l n]; rfl
theorem pick_comb (ls : List (List Int)) {l : List Int} (hl : Con l) (x : Int) : ∀ n, n ≤ ls.length → comb (pick ls l n) ((ls.take n).map vv) x = decide (x ∈ l ∧ x < (cnt (ls.take n) : Int))
  | 0, _ => by
    have : ¬ (x ∈ l ∧ x < (cnt (ls.take 0) : Int)) := fun ⟨h1, h2⟩ => by
      have := (hl.rng x h1).1
      simp [cnt] at h2; omega
    rw [decide_eq_false this]; rfl
  | n + 1, hn => by
    have ih := pick_comb ls hl x n (by omega)
    have cs := cnt_step ls (n := n) (by omega)
    rw [pick, take_getD (by omega), List.map_append, List.map_singleton, comb_app x (by rw [pick_len]; simp; omega), ih, ← take_getD (by omega), cs]
    by_cases q : ls.getD n [] = [(cnt (ls.take n) : Int)]
    · rw [if_pos q, q, vv_one]
      by_cases c1 : (cnt (ls.take n) : Int) ∈ l
      · by_cases c2 : x = (cnt (ls.take n) : Int)
        · subst c2; simp [c1]; omega
        · by_cases c3 : x ∈ l
          · by_cases c4 : x < (cnt (ls.take n) : Int)
            · have : x < ((cnt (ls.take n) + 1 : Nat) : Int) := by omega
              simp [c1, c2, c3, c4] <;> omega
            · have : ¬ x < ((cnt (ls.take n) + 1 : Nat) : Int) := by omega
              simp [c1, c2, c3, c4] <;> omega
          · simp [c1, c2, c3]
      · by_cases c3 : x ∈ l
        · have c2 : x ≠ (cnt (ls.take n) : Int) := fun e => c1 (e ▸ c3)
          by_cases c4 : x < (cnt (ls.take n) : Int)
          · have : x < ((cnt (ls.take n) + 1 : Nat) : Int) := by omega
            simp [c1, c2, c3, c4] <;> omega
          · have : ¬ x < ((cnt (ls.take n) + 1 : Nat) : Int) := by omega
            simp [c1, c2, c3, c4] <;> omega
        · simp [c1, c3]
    · rw [if_neg q, decide_eq_false (p := ls.getD n [] = [(cnt (ls.take n) : Int)] ∧ (cnt (ls.take n) : Int) ∈ l) (fun w => q w.1), Bool.false_and, Bool.xor_false]
theorem same_none {ls : List (List Int)} (hg : Good ls) (hls : ∀ c ∈ ls, Con6 c) {n : Nat} (hn : n < ls.length) : sameL ls n = [] ↔ ls.getD n [] = [(cnt (ls.take n) : Int)] := by
  unfold sameL
  rw [rows4_l ls ls n, List.filter_map, List.map_map, List.map_eq_nil_iff, List.filter_eq_nil_iff]
  constructor
  · intro h
    rcases good_at hg hn with q | q
    · exact q
    · exfalso
      have cl := getD6 hls n
      obtain ⟨z, hz, ez⟩ := rows4_all ls ls n (pick ls (ls.getD n []) n) (pick_len _ _ _)
      have o := rows4_ok hls hls rfl n (by omega) z hz
      refine h z hz ?_
      simp only [Function.comp_apply, decide_eq_true_eq]
      refine vv_inj o.cl.toCon cl.toCon fun x => ?_
      rw [o.l x, ez, pick_comb ls cl.toCon x n (by omega)]
      unfold vv
      by_cases c : x ∈ ls.getD n []
      · rw [decide_eq_true (show x ∈ ls.getD n [] ∧ x < _ from ⟨c, q x c⟩), decide_eq_true c]
      · rw [decide_eq_false (fun w => c w.1), decide_eq_false c]
  · intro q z hz
    have o := rows4_ok hls hls rfl n (by omega) z hz
    simp only [Function.comp_apply, decide_eq_true_eq]
    intro e
    have h1 := o.l (cnt (ls.take n) : Int)
    rw [e, q, vv_one, decide_eq_true rfl] at h1
    obtain ⟨r, r1, r2⟩ := comb_true h1.symm
    obtain ⟨l, l1, rfl⟩ := List.mem_map.mp r1
    have := low_take hg n (by omega) l l1 _ (by simpa [vv] using r2)
    omega
theorem minL_none (xs : List (List Int)) : minL xs = none ↔ xs = [] := by cases xs <;> simp [minL]
end K02

set_option Elab.async false
set_option linter.all false
set_option maxRecDepth 100000
set_option maxHeartbeats 4000000
/-! K02n: a drawn row is numbered anew as it has to be. -/
namespace K02
open Ev
structure Low (P : Pg) : Prop where
  num : ∀ a b (ns : List Int) (i : Int), ns.length ≤ 63 → ∃ n : Int, P.fn "_law_number" [.d a (.lst (ns.map PV.int)), .d b (.int i)] [] = ok (.d false (.int n), [])
  cont : ∀ a b (seed many : Int), 0 ≤ many → many ≤ 6 → ∃ zs, Con6 zs ∧ P.fn "_law_content" [.d a (.int seed), .d b (.int many)] [] = ok (.d false (cI zs), [])
  tot : TotOk P
  numb : ∀ a t cs, (∀ c ∈ cs, Con c) → cs.length ≤ 50 → P.fn "numbered_anew" [.d a (cR t cs)] [] = ok (.d false (cR false (renL cs).2), [])
  add : ∀ a t cs, (∀ c ∈ cs, Con c) → P.fn "add" [.d a (cR t cs)] [] = ok (.d false (cI (cs.foldl plusL [])), [])
  sums : ∀ a cs, (∀ c ∈ cs, Con6 c) → cs.length ≤ 6 → P.fn "_law_sums" [.d a (cR false cs)] [] = ok (.r 0, [.l ((List.range cs.length).map (sumAt cs))])
/-- an expression's call of one or two plain arguments -/
theorem ev_call1 {P : Pg} {f : PySem.Str} {a : CE} {σ : St} {h : OH} {p q : PV} {s : SV} {h' : OH} (ha : ev P a σ h = ok p) (hs : ∀ z, a ≠ .star z) (hf : P.fn f [.d (decide (flg σ a ≠ 0)) p] [] = ok (s, h')) (ht : toldS h' s = some q) : ev P (.call f [a]) σ h = ok q := by
  have e : evs P [a] σ h = ok [p] := by
    cases a <;> first | exact absurd rfl (hs _) | (simp only [evs, ha, bnd_ok])
  rw [ev.eq_def]
  simp only [e, bnd_ok, argsOf, hf, told, ht, Option.map_some]
theorem ev_call2 {P : Pg} {f : PySem.Str} {a b : CE} {σ : St} {h : OH} {p p' q : PV} {s : SV} {h' : OH} (ha : ev P a σ h = ok p) (hs : ∀ z, a ≠ .star z) (hb : ev P b σ h = ok p') (hs' : ∀ z, b ≠ .star z) (hf : P.fn f [.d (decide (flg σ a ≠ 0)) p, .d (decide (flg σ b ≠ 0)) p'] [] = ok (s, h')) (ht : toldS h' s = some q) : ev P (.call f [a, b]) σ h = ok q := by
  have e0 : evs P [b] σ h = ok [p'] := by
    cases b <;> first | exact absurd rfl (hs' _) | (simp only [evs, hb, bnd_ok])
  have e : evs P [a, b] σ h = ok [p, p'] := by
    cases a <;> first | exact absurd rfl (hs _) | (rw [evs.eq_def]; simp only [ha, bnd_ok, e0])
  rw [ev.eq_def]
  simp only [e, bnd_ok, argsOf, hf, told, ht, Option.map_some]
theorem ev_ne {P : Pg} {a b : CE} {σ : St} {h : OH} {p q : PV} (ha : ev P a σ h = ok p) (hb : ev P b σ h = ok q) (h1 : cmpOk p = true) (h2 : cmpOk q = true) : ev P (.cmp .ne a b) σ h = ok (.bl !(peq p q)) := by
  rw [ev.eq_def]
  simp only [ha, hb, bnd_ok, cm2, h1, h2, Bool.and_self, if_true, Option.map_some]
theorem ev_eq {P : Pg} {a b : CE} {σ : St} {h : OH} {p q : PV} (ha : ev P a σ h = ok p) (hb : ev P b σ h = ok q) (h1 : cmpOk p = true) (h2 : cmpOk q = true) : ev P (.cmp .eq a b) σ h = ok (.bl (peq p q)) := by
  rw [ev.eq_def]
  simp only [ha, hb, bnd_ok, cm2, h1, h2, Bool.and_self, if_true, Option.map_some]
theorem ev_orF {P : Pg} {a b : CE} {σ : St} {h : OH} {q : PV} (ha : ev P a σ h = ok (.bl false)) (hb : ev P b σ h = ok q) : ev P (.or a b) σ h = ok q := by
  rw [ev.eq_def]
  simp only [ha, hb, bnd_ok, truth, withO_some, Bool.false_eq_true, if_false]
theorem evT_of {P : Pg} {a : CE} {σ : St} {h : OH} {b : Bool} (ha : ev P a σ h = ok (.bl b)) : evT P a σ h = ok b := by
  unfold evT; simp only [ha, bnd_ok, truth, Option.map_some]
theorem peqs_cs : ∀ xs : List (List Int), peqs (xs.map cI) (xs.map cI) = true
  | [] => rfl
  | x :: xs => by
    have : peq (cI x) (cI x) = true := by rw [peq_cI]; simp
    simp only [List.map_cons, peqs, this, peqs_cs xs, Bool.and_self]
theorem peq_cs (xs : List (List Int)) : peq (cR false xs) (cR false xs) = true := by
  show peq (.lst (xs.map cI)) (.lst (xs.map cI)) = true
  rw [peq]; exact peqs_cs xs
theorem compL_ex {α β : Type} {f : St → R (Option PV)} {t : TN} {σ : St} {c : α → PV} {c' : β → PV} {Q : β → Prop} : ∀ {xs : List α}, (∀ x ∈ xs, ∃ σ' y, bindT t (c x) σ = some σ' ∧ Q y ∧ f σ' = ok (some (c' y))) → ∃ ys : List β, ys.length = xs.length ∧ (∀ y ∈ ys, Q y) ∧ compL f t σ (xs.map c) = ok (ys.map c')
  | [], _ => ⟨[], rfl, fun y h => (by cases h), rfl⟩
  | x :: xs, h => by
    obtain ⟨σ', y, h1, h2, h3⟩ := h x List.mem_cons_self
    obtain ⟨ys, l, q, e⟩ := compL_ex (f := f) (c := c) (c' := c') (Q := Q) fun y hy => h y (List.mem_cons_of_mem _ hy)
    refine ⟨y :: ys, by simp [l], fun z hz => ?_, ?_⟩
    · rcases List.mem_cons.mp hz with rfl | hz
      · exact h2
      · exact q z hz
    · simp only [List.map_cons, compL, h1, h3, bnd_ok, e]
theorem cut_take (xs : List PV) (n : Nat) (i : Int) (hi : i = n) : cut xs none (some i) = xs.take n := by
  subst hi
  unfold cut sEnd
  simp only [show ¬ ((n : Int) < 0) by omega, if_false, Int.toNat_natCast, List.drop_zero, Nat.sub_zero]
  rw [List.take_eq_take_iff]
  omega
theorem ev_slU {P : Pg} {a : CE} {σ : St} {h : OH} {xs : List PV} (n : Nat) {i : Int} (hi : i = n) (ha : ev P a σ h = ok (.lst xs)) : ev P (.slU a (.cst (.int i))) σ h = ok (.lst (xs.take n)) := by
  rw [ev.eq_def]
  simp only [ha, ev_cst, bnd_ok, asInt, withO_some, slice, Option.map_some, cut_take xs n i hi]
theorem take6 {cs : List (List Int)} (hc : ∀ c ∈ cs, Con6 c) (n : Nat) : ∀ c ∈ cs.take n, Con6 c := fun c h => hc c (List.mem_of_mem_take h)
theorem flat6 {cs : List (List Int)} (hc : ∀ c ∈ cs, Con6 c) : cs.flatten.length ≤ 6 * cs.length := by
  induction cs with
  | nil => simp
  | cons c cs ih =>
    have := ih fun x hx => hc x (List.mem_cons_of_mem _ hx)
    have := (hc c (by simp)).len6
    simp only [List.flatten_cons, List.length_append, List.length_cons]
    omega
theorem fold6 : ∀ (l : List (List Int)) (acc : List Int), (∀ c ∈ l, Con6 c) → Con6 acc → Con6 (l.foldl plusL acc)
  | [], acc, _, h => h
  | y :: l, acc, hl, ha => fold6 l _ (fun c hc => hl c (List.mem_cons_of_mem _ hc)) (plus6 ha (hl y (by simp)))
theorem tot6 {cs : List (List Int)} (hc : ∀ c ∈ cs, Con6 c) : Con6 (totL cs) := by
  rw [tot_sum fun c h => (hc c h).toCon]
  exact fold6 cs [] hc nil6
theorem renL_len {cs : List (List Int)} (hc : ∀ c ∈ cs, Con c) (hl : cs.length ≤ 60) : (renL cs).2.length = cs.length := (renL_inv hc hl).len.symm
theorem renL6 {cs : List (List Int)} (hc : ∀ c ∈ cs, Con c) (hl : cs.length ≤ 6) : ∀ l ∈ (renL cs).2, Con6 l := fun l h => by
  have I := renL_inv hc (by omega)
  refine ⟨I.conl l h, fun i hi => ?_⟩
  have := I.low l h i hi
  have := I.le
  omega
/-- the count of new letters, turn by turn -/
def lBody : List CS := [
      .if_ (.cmp .ne (.loc 10) (.idx (.loc 7) (.loc 9))) [
        .ret (.cst (.bl false))] [],
      .if_ (.cmp .isN (.loc 10) (.cst .non)) [
        .if_ (.cmp .ne (.idx (.loc 5) (.loc 9)) (.tup [.loc 8])) [
          .ret (.cst (.bl false))] [],
        .asg (.nm 8) (.bin .add (.loc 8) (.cst (.int 1)))] []]
theorem tO_ok (o : Option (List Int)) : cmpOk (tO o) = true := by
  cases o with
  | none => rfl
  | some z => exact cmpOk_cI z
theorem tO_refl (o : Option (List Int)) : peq (tO o) (tO o) = true := by
  cases o with
  | none => rfl
  | some z => exact (peq_cI z z).trans (by simp)
theorem idx_map {α : Type} {xs : List α} {g : α → PV} {k : Nat} {x : α} (h : xs[k]? = some x) : index (.lst (xs.map g)) (.int (k : Int)) = some (g x) := by
  have hk := (List.getElem?_eq_some_iff.mp h).1
  simp only [index, ixN, List.length_map]
  rw [if_pos (by omega), if_pos (by omega), Option.bind_some, List.getElem?_map, Int.toNat_natCast, h, Option.map_some]
theorem l_turn {P : Pg} {s0 s1 s2 s3 s4 s6 s11 : Option SV} {h : OH} {ls : List (List Int)} {th : List PV} {o : Option (List Int)} {k m : Nat} (hk : k < ls.length) (h7 : index (.lst th) (.int (k : Int)) = some (tO o)) (hn : o = none ↔ ls.getD k [] = [(m : Int)]) :
    evSs P lBody [s0, s1, s2, s3, s4, some (.d false (cR false ls)), s6, some (.d false (.lst th)), some (.d false (.int (m : Int))), some (.d false (.int (k : Int))), some (.d false (tO o)), s11] h =
      some (.nx, [s0, s1, s2, s3, s4, some (.d false (cR false ls)), s6, some (.d false (.lst th)), some (.d false (.int ((if ls.getD k [] = [(m : Int)] then m + 1 else m : Nat) : Int))), some (.d false (.int (k : Int))), some (.d false (tO o)), s11], h) := by
  let σ : St := [s0, s1, s2, s3, s4, some (.d false (cR false ls)), s6, some (.d false (.lst th)), some (.d false (.int (m : Int))), some (.d false (.int (k : Int))), some (.d false (tO o)), s11]
  have f5 : ev P (.loc 5) σ h = ok (cR false ls) := ev_loc rfl
  have f7 : ev P (.loc 7) σ h = ok (.lst th) := ev_loc rfl
  have f8 : ev P (.loc 8) σ h = ok (.int (m : Int)) := ev_loc rfl
  have f9 : ev P (.loc 9) σ h = ok (.int (k : Int)) := ev_loc rfl
  have f10 : ev P (.loc 10) σ h = ok (tO o) := ev_loc rfl
  have g7 : ev P (.idx (.loc 7) (.loc 9)) σ h = ok (tO o) := by
    rw [ev.eq_def]; simp only [f7, f9, bnd_ok, h7, Option.map_some]
  have t1 : evT P (.cmp .ne (.loc 10) (.idx (.loc 7) (.loc 9))) σ h = ok false := evT_of (by rw [ev_ne f10 g7 (tO_ok o) (tO_ok o), tO_refl]; rfl)
  unfold lBody
  rw [S_ifF t1, L_nil, seq_nx]
  have t2 : evT P (.cmp .isN (.loc 10) (.cst .non)) σ h = ok (isNon (tO o)) := evT_of (by
    rw [ev.eq_def]; simp only [f10, ev_cst, bnd_ok, cm2, Option.map_some])
  cases o with
  | some z =>
    have hne : ls.getD k [] ≠ [(m : Int)] := fun q => by have := hn.mpr q; cases this
    rw [S_ifF (show evT P (.cmp .isN (.loc 10) (.cst .non)) σ h = ok false from t2), L_nil, seq_nx, L_nil, if_neg hne]
  | none =>
    have he := hn.mp rfl
    rw [S_ifT (show evT P (.cmp .isN (.loc 10) (.cst .non)) σ h = ok true from t2), if_pos he]
    have g5 : ev P (.idx (.loc 5) (.loc 9)) σ h = ok (cI (ls.getD k [])) := by
      rw [ev.eq_def]; simp only [f5, f9, bnd_ok]
      show (index (.lst (ls.map cI)) (.int (k : Int))).map _ = _
      rw [idx_cs hk]; rfl
    have g8 : ev P (.tup [.loc 8]) σ h = ok (cI [(m : Int)]) := by rw [ev.eq_def]; simp only [evs, f8, bnd_ok]; rfl
    have t3 : evT P (.cmp .ne (.idx (.loc 5) (.loc 9)) (.tup [.loc 8])) σ h = ok false := evT_of (by rw [ev_ne g5 g8 (cmpOk_cI _) (cmpOk_cI _), peq_cI, he]; simp)
    have e8 := ev_bin f8 (ev_cst (P := P) (p := .int 1)) (op_add (m : Int) 1)
    rw [S_ifF t3, L_nil, seq_nx, S_asg e8 rfl, L_nil, seq_nx, L_nil]
    rfl
theorem max_mem : ∀ (xs : List Int) (a : Int), xs.foldl (fun a b => if b > a then b else a) a = a ∨ xs.foldl (fun a b => if b > a then b else a) a ∈ xs
  | [], a => .inl rfl
  | x :: xs, a => by
    rw [List.foldl_cons]
    rcases max_mem xs (if x > a then x else a) with q | q
    · rw [q]; split
      · exact .inr (by simp)
      · exact .inl rfl
    · exact .inr (List.mem_cons_of_mem _ q)
section
variable {P : Pg} (L : Low P)
/-- what is done with the contents -/
def rTail : List CS := [
    .asg (.nm 5) (.call "numbered_anew" [.loc 3]),
    .if_ (.or (.cmp .ne (.call "numbered_anew" [.bi .tuple [.loc 3]]) (.loc 5)) (.or (.cmp .ne (.call "numbered_anew" [.loc 5]) (.loc 5)) (.cmp .ne (.bi .len [.loc 5]) (.bi .len [.loc 3])))) [
      .ret (.cst (.bl false))] [],
    .if_ (.or (.cmp .ne (.call "add" [.loc 3]) (.call "_law_total" [.loc 3])) (.cmp .ne (.call "add" [.bi .tuple [.slU (.loc 3) (.cst (.int 2))]]) (.call "_law_total" [.slU (.loc 3) (.cst (.int 2))]))) [
      .ret (.cst (.bl false))] [],
    .par [6, 7, 8] [.v, .v, .v] [.call "_law_sums" [.loc 3], .call "_law_sums" [.loc 5], .cst (.int 0)],
    .for_ (.tp [.nm 9, .nm 10]) (.enum (.loc 6)) lBody,
    .ret (.cmp .lt (.bi .max [.bin .add (.lst [.cst (.int 0)]) (.comp (.idx (.loc 11) (.neg (.cst (.int 1)))) (.nm 11) (.loc 5) [.cmp .ne (.loc 11) (.tup [])])]) (.bi .max2 [.cst (.int 1), .loc 8]))]
theorem view0 {P : Pg} {σ : St} {xs : List PV} {h : OH} (hs : σ[3]? = some (some (.r 0))) (hh : h[0]? = some (.l xs)) : ev P (.loc 3) σ h = ok (.lst xs) := by
  simp only [ev, hs, viewS, hh, Option.bind_some, viewO, Option.map_some]
theorem last_mem (l : List Int) (h : l ≠ []) : l.getLast? = some (l.getLast h) := List.getLast?_eq_some_getLast h
include L in
theorem r_tail {s0 s1 s2 s4 s5 s6 s7 s8 s9 s10 s11 : Option SV} {cs : List (List Int)} (hc6 : ∀ c ∈ cs, Con6 c) (hl : cs.length = 6) :
    ∃ σ', evSs P rTail [s0, s1, s2, some (.r 0), s4, s5, s6, s7, s8, s9, s10, s11] [.l (cs.map cI)] = some (.ret (.d false (.bl true)), σ', [.l (cs.map cI)]) := by
  have hc : ∀ c ∈ cs, Con c := fun c h => (hc6 c h).toCon
  have I := renL_inv hc (by omega)
  have l6 := renL6 hc (by omega)
  have lc : ∀ c ∈ (renL cs).2, Con c := fun c h => (l6 c h).toCon
  have ll : (renL cs).2.length = 6 := by rw [← I.len]; exact hl
  have fix := ren_fix I.good I.conl (by omega)
  let ls := (renL cs).2
  have els : (renL cs).2 = ls := rfl
  unfold rTail
  -- late
  have v0 : ∀ σ : St, σ[3]? = some (some (.r 0)) → ev P (.loc 3) σ [.l (cs.map cI)] = ok (cR false cs) := fun σ hs => view0 hs rfl
  have n0 : ev P (.call "numbered_anew" [.loc 3]) [s0, s1, s2, some (.r 0), s4, s5, s6, s7, s8, s9, s10, s11] [.l (cs.map cI)] = ok (cR false ls) :=
    ev_call1 (v0 _ rfl) (by intro z q; cases q) (L.numb _ false cs hc (by omega)) rfl
  rw [S_asg n0 rfl]
  let σ1 : St := [s0, s1, s2, some (.r 0), s4, some (.d false (cR false ls)), s6, s7, s8, s9, s10, s11]
  show ∃ σ', evSs P _ σ1 _ = _
  have f5 : ev P (.loc 5) σ1 [.l (cs.map cI)] = ok (cR false ls) := ev_loc rfl
  have tb : ev P (.bi .tuple [.loc 3]) σ1 [.l (cs.map cI)] = ok (cR true cs) := ev_bi1 (v0 σ1 rfl) (by intro z q; cases q) rfl
  have n1 : ev P (.call "numbered_anew" [.bi .tuple [.loc 3]]) σ1 [.l (cs.map cI)] = ok (cR false ls) := ev_call1 tb (by intro z q; cases q) (L.numb _ true cs hc (by omega)) rfl
  have n2 : ev P (.call "numbered_anew" [.loc 5]) σ1 [.l (cs.map cI)] = ok (cR false ls) := by
    refine ev_call1 f5 (by intro z q; cases q) (L.numb _ false ls lc (by rw [← els, ll]; decide)) ?_
    show some (cR false (renL ls).2) = some (cR false ls)
    rw [fix]
  have k5 : ev P (.bi .len [.loc 5]) σ1 [.l (cs.map cI)] = ok (.int 6) := ev_bi1 f5 (by intro z q; cases q) (by
    show bi1 .len (.lst (ls.map cI)) = _
    rw [bi1_len, List.length_map, ← els, ll]; rfl)
  have k3 : ev P (.bi .len [.loc 3]) σ1 [.l (cs.map cI)] = ok (.int 6) := ev_bi1 (v0 σ1 rfl) (by intro z q; cases q) (by
    show bi1 .len (.lst (cs.map cI)) = _
    rw [bi1_len, List.length_map, hl]; rfl)
  have okL : cmpOk (cR false ls) = true := cmpOk_cs ls
  have q1 := ev_ne n1 f5 okL okL
  have q2 := ev_ne n2 f5 okL okL
  have q3 := ev_ne k5 k3 rfl rfl
  rw [peq_cs] at q1 q2
  have t1 := evT_of (ev_orF q1 (ev_orF q2 q3))
  rw [S_ifF (b := []) t1, L_nil, seq_nx]
  -- sums
  have a1 : ev P (.call "add" [.loc 3]) σ1 [.l (cs.map cI)] = ok (cI (totL cs)) := by
    rw [tot_sum hc]; exact ev_call1 (v0 σ1 rfl) (by intro z q; cases q) (L.add _ false cs hc) rfl
  have a2 : ev P (.call "_law_total" [.loc 3]) σ1 [.l (cs.map cI)] = ok (cI (totL cs)) :=
    ev_call1 (v0 σ1 rfl) (by intro z q; cases q) (L.tot _ false cs (by have := flat6 hc6; omega)) rfl
  have sl2 : ev P (.slU (.loc 3) (.cst (.int 2))) σ1 [.l (cs.map cI)] = ok (cR false (cs.take 2)) := by
    rw [ev_slU 2 (i := 2) (by decide) (v0 σ1 rfl), ← List.map_take]; rfl
  have c2 : ∀ c ∈ cs.take 2, Con c := fun c h => hc c (List.mem_of_mem_take h)
  have tb2 : ev P (.bi .tuple [.slU (.loc 3) (.cst (.int 2))]) σ1 [.l (cs.map cI)] = ok (cR true (cs.take 2)) := ev_bi1 sl2 (by intro z q; cases q) rfl
  have a3 : ev P (.call "add" [.bi .tuple [.slU (.loc 3) (.cst (.int 2))]]) σ1 [.l (cs.map cI)] = ok (cI (totL (cs.take 2))) := by
    rw [tot_sum c2]; exact ev_call1 tb2 (by intro z q; cases q) (L.add _ true _ c2) rfl
  have a4 : ev P (.call "_law_total" [.slU (.loc 3) (.cst (.int 2))]) σ1 [.l (cs.map cI)] = ok (cI (totL (cs.take 2))) :=
    ev_call1 sl2 (by intro z q; cases q) (L.tot _ false _ (by have := flat6 (take6 hc6 2); simp at this ⊢; omega)) rfl
  have r1 := ev_ne a1 a2 (cmpOk_cI _) (cmpOk_cI _)
  have r2 := ev_ne a3 a4 (cmpOk_cI _) (cmpOk_cI _)
  rw [peq_cI, decide_eq_true rfl] at r1 r2
  have t2 := evT_of (ev_orF r1 r2)
  rw [S_ifF (b := []) t2, L_nil, seq_nx]
  -- all sums
  let th : List PV := (List.range 6).map (sumAt ls)
  have u1 : ev P (.call "_law_sums" [.loc 3]) σ1 [.l (cs.map cI)] = ok (.lst th) := by
    refine ev_call1 (v0 σ1 rfl) (by intro z q; cases q) (L.sums _ cs hc6 (by omega)) ?_
    show some (PV.lst ((List.range cs.length).map (sumAt cs))) = some (.lst th)
    rw [hl]
    congr 2
    apply List.map_congr_left
    intro k hk
    have := List.mem_range.mp hk
    unfold sumAt
    rw [same_eq I hc6 l6 (by omega)]
  have u2 : ev P (.call "_law_sums" [.loc 5]) σ1 [.l (cs.map cI)] = ok (.lst th) := by
    refine ev_call1 f5 (by intro z q; cases q) (L.sums _ ls l6 (by rw [← els, ll]; decide)) ?_
    show some (PV.lst ((List.range ls.length).map (sumAt ls))) = some (.lst th)
    rw [← els, ll]
  rw [L_cons, L_par]
  have ep : evP P [.v, .v, .v] [.call "_law_sums" [.loc 3], .call "_law_sums" [.loc 5], .cst (.int 0)] σ1 [.l (cs.map cI)] = ok ([.d false (.lst th), .d false (.lst th), .d false (.int 0)], [.l (cs.map cI)]) := by
    simp only [evP, u1, u2, ev_cst, bnd_ok]; rfl
  rw [ep, val_ok]
  let σ2 : St := [s0, s1, s2, some (.r 0), s4, some (.d false (cR false ls)), some (.d false (.lst th)), some (.d false (.lst th)), some (.d false (.int 0)), s9, s10, s11]
  show ∃ σ', seq (some (Fl.nx, σ2, [OO.l (cs.map cI)])) (evSs P _) = _
  simp only [seq_nx]
  -- the count
  have en : ev P (.enum (.loc 6)) σ2 [.l (cs.map cI)] = ok (.lst (((List.range 6)).map fun k : Nat => .tup [.int (k : Int), tO (minL (sameL ls k))])) := by
    rw [ev.eq_def]
    simp only [ev_loc (P := P) (i := 6) (k := false) (p := .lst th) (σ := σ2) (h := [.l (cs.map cI)]) rfl, bnd_ok, listOf, withO_some]
    rfl
  obtain ⟨σ', h', e, i⟩ := forL_inv (f := evSs P lBody) (t := .tp [.nm 9, .nm 10]) (c := fun k : Nat => PV.tup [.int (k : Int), tO (minL (sameL ls k))]) (fun d σ h => (∃ t9 t10, σ = [s0, s1, s2, some (.r 0), s4, some (.d false (cR false ls)), some (.d false (.lst th)), some (.d false (.lst th)), some (.d false (.int (cnt (ls.take d.length) : Int))), t9, t10, s11]) ∧ h = [.l (cs.map cI)])
    (List.range 6) [] σ2 [.l (cs.map cI)] (by
      rintro d x r σ h e ⟨⟨t9, t10, rfl⟩, rfl⟩
      rw [List.nil_append] at e
      have hd : d.length < 6 := by
        have := congrArg List.length e
        simp at this; omega
      have hx : x = d.length := by
        have h1 : (List.range 6)[d.length]? = some x := by rw [e]; simp
        rw [List.getElem?_range hd] at h1
        exact (Option.some.inj h1).symm
      subst hx
      have hdl : d.length < ls.length := by rw [← els, ll]; exact hd
      have turn := l_turn (P := P) (s0 := s0) (s1 := s1) (s2 := s2) (s3 := some (.r 0)) (s4 := s4) (s6 := some (.d false (.lst th))) (s11 := s11) (h := [.l (cs.map cI)]) (ls := ls) (th := th) (o := minL (sameL ls d.length)) (k := d.length) (m := cnt (ls.take d.length)) hdl
        (idx_map (xs := List.range 6) (g := sumAt ls) (List.getElem?_range hd)) (by rw [minL_none, same_none I.good l6 hdl])
      refine ⟨_, _, _, rfl, turn, ⟨some (.d false (.int (d.length : Int))), some (.d false (tO (minL (sameL ls d.length)))), ?_⟩, rfl⟩
      rw [List.length_append, List.length_singleton, cnt_step ls hdl]) ⟨⟨s9, s10, rfl⟩, rfl⟩
  rw [List.nil_append, List.length_range] at i
  obtain ⟨⟨t9, t10, rfl⟩, rfl⟩ := i
  rw [S_for (e := .enum (.loc 6)) en rfl (by show 0 ≤ 1; decide) e]
  have tk : ls.take 6 = ls := List.take_of_length_le (by rw [← els, ll]; decide)
  rw [tk]
  let σ3 : St := [s0, s1, s2, some (.r 0), s4, some (.d false (cR false ls)), some (.d false (.lst th)), some (.d false (.lst th)), some (.d false (.int (cnt ls : Int))), t9, t10, s11]
  show ∃ σ', evSs P _ σ3 _ = _
  -- the greatest letter
  have g5 : ev P (.loc 5) σ3 [.l (cs.map cI)] = ok (cR false ls) := ev_loc rfl
  have g8 : ev P (.loc 8) σ3 [.l (cs.map cI)] = ok (.int (cnt ls : Int)) := ev_loc rfl
  let gl : List Int → Int := fun l => l.getLast?.getD 0
  have w1 : ev P (.comp (.idx (.loc 11) (.neg (.cst (.int 1)))) (.nm 11) (.loc 5) [.cmp .ne (.loc 11) (.tup [])]) σ3 [.l (cs.map cI)] = ok (.lst (((ls.filter fun l => !l.isEmpty).map gl).map PV.int)) := by
    rw [ev.eq_def]
    simp only [g5, bnd_ok, items_cR, withO_some, slotsT, wipeS]
    rw [compL_eq (c := cI) (g := fun l => if !l.isEmpty then some (.int (gl l)) else none)]
    · rw [fm_filter, List.map_map]; rfl
    · intro l hlm
      let σ4 : St := [s0, s1, s2, some (.r 0), s4, some (.d false (cR false ls)), some (.d false (.lst th)), some (.d false (.lst th)), some (.d false (.int (cnt ls : Int))), t9, t10, some (.d false (cI l))]
      refine ⟨σ4, rfl, ?_⟩
      have z11 : ev P (.loc 11) σ4 [.l (cs.map cI)] = ok (cI l) := ev_loc rfl
      have z0 : ev P (.tup []) σ4 [.l (cs.map cI)] = ok (.tup []) := by simp only [ev, evs, bnd_ok]; rfl
      have z1 := ev_ne z11 z0 (cmpOk_cI _) rfl
      rw [peq_tnil] at z1
      simp only [evC, z1, bnd_ok, truth, withO_some]
      cases q : l.isEmpty with
      | true => rfl
      | false =>
        have hne : l ≠ [] := fun e => by rw [e] at q; cases q
        have z2 : ev P (.idx (.loc 11) (.neg (.cst (.int 1)))) σ4 [.l (cs.map cI)] = ok (.int (gl l)) := by
          rw [ev.eq_def]
          simp only [z11, w_neg1, bnd_ok, last_idx (last_mem l hne), Option.map_some]
          rw [show gl l = l.getLast hne by show l.getLast?.getD 0 = _; rw [last_mem l hne]; rfl]
        simp only [Bool.not_false, if_true, evC, bnd_ok, z2]
        rfl
  have w2 : ev P (.lst [.cst (.int 0)]) σ3 [.l (cs.map cI)] = ok (.lst ([0].map PV.int)) := by simp only [ev, evs, bnd_ok]; rfl
  have w3 : ev P (.bin .add (.lst [.cst (.int 0)]) (.comp (.idx (.loc 11) (.neg (.cst (.int 1)))) (.nm 11) (.loc 5) [.cmp .ne (.loc 11) (.tup [])])) σ3 [.l (cs.map cI)] = ok (.lst ((0 :: (ls.filter fun l => !l.isEmpty).map gl).map PV.int)) := by
    have hlf : (ls.filter fun l => !l.isEmpty).length ≤ 6 := by
      have := List.length_filter_le (fun l : List Int => !l.isEmpty) ls
      rw [← els, ll] at this; exact this
    rw [ev.eq_def]
    simp only [w1, w2, bnd_ok]
    rw [op_addL (by simp only [List.length_map, List.length_singleton]; unfold big; omega)]
    rfl
  let M : Int := ((ls.filter fun l => !l.isEmpty).map gl).foldl (fun a b => if b > a then b else a) 0
  have w4 : ev P (.bi .max [.bin .add (.lst [.cst (.int 0)]) (.comp (.idx (.loc 11) (.neg (.cst (.int 1)))) (.nm 11) (.loc 5) [.cmp .ne (.loc 11) (.tup [])])]) σ3 [.l (cs.map cI)] = ok (.int M) :=
    ev_bi1 w3 (by intro z q; cases q) (by simp only [bi1, asInts_ints, Option.bind_some, maxI, Option.map_some]; rfl)
  have w5 : ev P (.bi .max2 [.cst (.int 1), .loc 8]) σ3 [.l (cs.map cI)] = ok (.int (if (cnt ls : Int) > 1 then (cnt ls : Int) else 1)) := by
    rw [ev.eq_def]
    simp only [evs, ev_cst, g8, bnd_ok, bi2, Option.map_some]
  have hM : M < (if (cnt ls : Int) > 1 then (cnt ls : Int) else 1) := by
    rcases max_mem ((ls.filter fun l => !l.isEmpty).map gl) 0 with q | q
    · show M < _
      rw [show M = 0 from q]; split <;> omega
    · obtain ⟨l, hlm, el⟩ := List.mem_map.mp q
      obtain ⟨lm, ln⟩ := List.mem_filter.mp hlm
      have hne : l ≠ [] := fun e => by rw [e] at ln; cases ln
      have low := I.low l lm (l.getLast hne) (List.getLast_mem hne)
      rw [I.cnt] at low
      have : M = l.getLast hne := by
        show _ = _
        rw [← show gl l = l.getLast hne by show l.getLast?.getD 0 = _; rw [last_mem l hne]; rfl]
        exact el.symm
      rw [this]
      show l.getLast hne < _
      have low' : l.getLast hne < (cnt ls : Int) := low
      split <;> omega
  have w6 : ev P (.cmp .lt (.bi .max [.bin .add (.lst [.cst (.int 0)]) (.comp (.idx (.loc 11) (.neg (.cst (.int 1)))) (.nm 11) (.loc 5) [.cmp .ne (.loc 11) (.tup [])])]) (.bi .max2 [.cst (.int 1), .loc 8])) σ3 [.l (cs.map cI)] = ok (.bl true) := by
    rw [ev.eq_def]
    simp only [w4, w5, bnd_ok, cm2, cmpI, Option.map_some, decide_eq_true hM]
  exact ⟨σ3, S_ret w6 rfl (by intro k q; cases q)⟩
end
end K02

set_option Elab.async false
set_option linter.all false
set_option maxRecDepth 100000
set_option maxHeartbeats 4000000
/-! K02o: the law. -/
namespace K02
open Ev
theorem S_seti {P : Pg} {i n : Nat} {k v : CE} {ss : List CS} {σ : St} {h : OH} {p q : PV} {o o' : OO} (hs : slotR σ i = some n) (hv : ev P v σ h = ok p) (hk : ev P k σ h = ok q) (hf : flg σ v = 0) (ho : h[n]? = some o) (hi : setItem o q p = some o') : evSs P (.seti i k v :: ss) σ h = evSs P ss σ (h.set n o') := by
  have e : evS P (.seti i k v) σ h = some (.nx, σ, h.set n o') := by
    rw [evS.eq_def]
    dsimp only
    rw [hs]
    simp only [hv, hk, val_ok, hf, if_true, ho, Option.bind_some, hi, Option.map_some]
  rw [L_cons, e, seq_nx]
theorem set6 {cs : List (List Int)} {c : List Int} (hc : ∀ c ∈ cs, Con6 c) (h : Con6 c) (n : Nat) : ∀ x ∈ cs.set n c, Con6 x := fun x hx => by
  rcases List.mem_or_eq_of_mem_set hx with q | q
  · exact hc x q
  · rw [q]; exact h
def rHead : List CS := [
    .asg (.nm 2) (.bin .add (.cst (.int 2)) (.bin .mod (.bi .int [.call "_law_number" [.loc 0, .loc 1]]) (.cst (.int 5)))),
    .new 3 (.comp (.call "_law_content" [.bi .int [.call "_law_number" [.loc 0, .bin .add (.bin .add (.loc 1) (.cst (.int 1))) (.loc 4)]], .loc 2]) (.nm 4) (.range (.cst (.int 0)) (.cst (.int 6))) []),
    .if_ (.cmp .eq (.bin .mod (.bi .int [.call "_law_number" [.loc 0, .bin .add (.loc 1) (.cst (.int 8))]]) (.cst (.int 2))) (.cst (.int 0))) [
      .seti 3 (.cst (.int 4)) (.call "_law_total" [.slU (.loc 3) (.cst (.int 3))])] []]
theorem run_right {P : Pg} (L : Low P) (a b : Bool) (ns : List Int) (i : Int) (hn : ns.length ≤ 63) : ∃ h', run P d_law_right [.d a (.lst (ns.map PV.int)), .d b (.int i)] [] = ok (.d false (.bl true), h') := by
  let S : PV := .lst (ns.map PV.int)
  let σ0 : St := [some (.d a S), some (.d b (.int i)), none, none, none, none, none, none, none, none, none, none]
  -- numbers
  have num : ∀ (σ : St) (h : OH) (e : CE) (j : Int), σ[0]? = some (some (.d a S)) → ev P e σ h = ok (.int j) → (∀ z, e ≠ .star z) → ∃ n : Int, ev P (.call "_law_number" [.loc 0, e]) σ h = ok (.int n) := by
    intro σ h e j h0 he hs
    obtain ⟨n, hn'⟩ := L.num (decide (flg σ (.loc 0) ≠ 0)) (decide (flg σ e ≠ 0)) ns j hn
    exact ⟨n, ev_call2 (ev_loc h0) (by intro z q; cases q) he hs hn' rfl⟩
  obtain ⟨n1, e1⟩ := num σ0 [] (.loc 1) i rfl (ev_loc rfl) (by intro z q; cases q)
  have e2 := ev_bin (ev_cst (P := P) (p := .int 2)) (ev_bin (ev_int e1 (by intro z q; cases q)) (ev_cst (P := P) (p := .int 5)) (op_mod n1 (by decide))) (op_add _ _)
  have hm : 0 ≤ 2 + n1 % 5 ∧ 2 + n1 % 5 ≤ 6 := by omega
  generalize 2 + n1 % 5 = many at e2 hm
  let σ1 : St := [some (.d a S), some (.d b (.int i)), some (.d false (.int many)), none, none, none, none, none, none, none, none, none]
  -- contents
  have er := ev_range (P := P) (b := .cst (.int 6)) (σ := σ1) (h := []) ev_cst (by decide) (by decide)
  obtain ⟨cs, hl, hc6, e3⟩ : ∃ cs : List (List Int), cs.length = 6 ∧ (∀ c ∈ cs, Con6 c) ∧ ev P (.comp (.call "_law_content" [.bi .int [.call "_law_number" [.loc 0, .bin .add (.bin .add (.loc 1) (.cst (.int 1))) (.loc 4)]], .loc 2]) (.nm 4) (.range (.cst (.int 0)) (.cst (.int 6))) []) σ1 [] = ok (.lst (cs.map cI)) := by
    rw [ev.eq_def]
    simp only [er, bnd_ok, itemsOf, withO_some, slotsT, wipeS]
    obtain ⟨ys, l, q, e⟩ := compL_ex (f := fun σ' => bnd (evC P [] σ' []) fun b => if b then bnd (ev P (.call "_law_content" [.bi .int [.call "_law_number" [.loc 0, .bin .add (.bin .add (.loc 1) (.cst (.int 1))) (.loc 4)]], .loc 2]) σ' []) fun y => if flg σ' (.call "_law_content" [.bi .int [.call "_law_number" [.loc 0, .bin .add (.bin .add (.loc 1) (.cst (.int 1))) (.loc 4)]], .loc 2]) = 0 then ok (some y) else none else ok none)
        (t := .nm 4) (σ := σ1.set 4 none) (c := PV.int) (c' := cI) (Q := Con6) (xs := (List.range (6 : Int).toNat).map fun k : Nat => (0 : Int) + (k : Int)) (by
      intro x hx
      let σ2 : St := [some (.d a S), some (.d b (.int i)), some (.d false (.int many)), none, some (.d false (.int x)), none, none, none, none, none, none, none]
      have g1 := ev_bin (ev_bin (ev_loc (P := P) (i := 1) (k := b) (p := .int i) (σ := σ2) (h := []) rfl) (ev_cst (P := P) (p := .int 1)) (op_add _ _)) (ev_loc (P := P) (i := 4) (k := false) (p := .int x) (σ := σ2) (h := []) rfl) (op_add _ _)
      obtain ⟨n2, g2⟩ := num σ2 [] _ _ rfl g1 (by intro z q; cases q)
      have g3 := ev_int g2 (by intro z q; cases q)
      obtain ⟨zs, z6, hz⟩ := L.cont false false n2 many hm.1 hm.2
      refine ⟨σ2, zs, rfl, z6, ?_⟩
      have g4 : ev P (.call "_law_content" [.bi .int [.call "_law_number" [.loc 0, .bin .add (.bin .add (.loc 1) (.cst (.int 1))) (.loc 4)]], .loc 2]) σ2 [] = ok (cI zs) :=
        ev_call2 g3 (by intro z q; cases q) (ev_loc (P := P) (i := 2) (k := false) (p := .int many) (σ := σ2) (h := []) rfl) (by intro z q; cases q) hz rfl
      simp only [evC, bnd_ok, if_true, g4]
      rfl)
    exact ⟨ys, by rw [l]; simp, q, by rw [e]; rfl⟩
  let σ3 : St := [some (.d a S), some (.d b (.int i)), some (.d false (.int many)), some (.r 0), none, none, none, none, none, none, none, none]
  have g1 := ev_bin (ev_loc (P := P) (i := 1) (k := b) (p := .int i) (σ := σ3) (h := [.l (cs.map cI)]) rfl) (ev_cst (P := P) (p := .int 8)) (op_add _ _)
  obtain ⟨n3, g2⟩ := num σ3 [.l (cs.map cI)] _ _ rfl g1 (by intro z q; cases q)
  have g3 := ev_bin (ev_int g2 (by intro z q; cases q)) (ev_cst (P := P) (p := .int 2)) (op_mod n3 (by decide))
  have g4 := evT_of (ev_eq g3 (ev_cst (P := P) (p := .int 0)) rfl rfl)
  -- the rest
  have key : ∃ cs' : List (List Int), cs'.length = 6 ∧ (∀ c ∈ cs', Con6 c) ∧ evSs P (rHead ++ rTail) σ0 [] = evSs P rTail σ3 [.l (cs'.map cI)] := by
    cases q : peq (.int (n3 % 2)) (.int 0) with
    | false =>
      rw [q] at g4
      refine ⟨cs, hl, hc6, ?_⟩
      show evSs P (_ :: _ :: _ :: rTail) σ0 [] = _
      rw [S_asg e2 rfl]
      show evSs P _ σ1 [] = _
      rw [S_new e3 rfl]
      show evSs P _ σ3 [.l (cs.map cI)] = _
      rw [S_ifF g4, L_nil, seq_nx]
    | true =>
      rw [q] at g4
      have v3 : ev P (.loc 3) σ3 [.l (cs.map cI)] = ok (.lst (cs.map cI)) := view0 rfl rfl
      have s3 : ev P (.slU (.loc 3) (.cst (.int 3))) σ3 [.l (cs.map cI)] = ok (cR false (cs.take 3)) := by
        rw [ev_slU 3 (i := 3) (by decide) v3, ← List.map_take]; rfl
      have t3 : ev P (.call "_law_total" [.slU (.loc 3) (.cst (.int 3))]) σ3 [.l (cs.map cI)] = ok (cI (totL (cs.take 3))) :=
        ev_call1 s3 (by intro z q; cases q) (L.tot _ false _ (by have := flat6 (take6 hc6 3); simp at this ⊢; omega)) rfl
      refine ⟨cs.set 4 (totL (cs.take 3)), by simp [hl], set6 hc6 (tot6 (take6 hc6 3)) 4, ?_⟩
      show evSs P (_ :: _ :: _ :: rTail) σ0 [] = _
      rw [S_asg e2 rfl]
      show evSs P _ σ1 [] = _
      rw [S_new e3 rfl]
      show evSs P _ σ3 [.l (cs.map cI)] = _
      rw [S_ifT g4]
      have st := S_seti (P := P) (i := 3) (n := 0) (k := .cst (.int 4)) (v := .call "_law_total" [.slU (.loc 3) (.cst (.int 3))]) (ss := []) (σ := σ3) (h := [.l (cs.map cI)]) (q := .int 4) (o := .l (cs.map cI)) (o' := .l ((cs.set 4 (totL (cs.take 3))).map cI)) rfl t3 ev_cst rfl rfl (by
        simp only [setItem, ixN, List.length_map, hl]
        rw [List.map_set]
        rfl)
      rw [st, L_nil, seq_nx]
      rfl
  obtain ⟨cs', hl', hc', ek⟩ := key
  obtain ⟨σ', et⟩ := r_tail L (s0 := some (.d a S)) (s1 := some (.d b (.int i))) (s2 := some (.d false (.int many))) (s4 := none) (s5 := none) (s6 := none) (s7 := none) (s8 := none) (s9 := none) (s10 := none) (s11 := none) hc' hl'
  refine ⟨[.l (cs'.map cI)], run_ret (σ' := σ') (h' := [.l (cs'.map cI)]) rfl rfl ?_⟩
  show evSs P (rHead ++ rTail) σ0 [] = _
  rw [ek]
  exact et
end K02

set_option Elab.async false
set_option linter.all false
set_option maxRecDepth 100000
set_option maxHeartbeats 400000
namespace K02
open Ev
/-! ### the law -/
def badL : List PV := [.non, .int 5, .str "()", .dct [] [], .lst [.int 5], .lst [.tup [.int 1, .int 0]], .lst [.tup [.int 0, .int 0]], .lst [.tup [.bl true]], .lst [.tup [.str "0"]], .lst [.tup [.int (-1)]], .lst [.lst [.int 0]], .tup [.tup [.int 0], .non]]
theorem ev_andT {P : Pg} {a b : CE} {σ : St} {h : OH} {q : PV} (ha : ev P a σ h = ok (.bl true)) (hb : ev P b σ h = ok q) : ev P (.and a b) σ h = ok q := by
  rw [ev.eq_def]
  simp only [ha, hb, bnd_ok, truth, withO_some, if_true]
structure Top (P : Pg) : Prop where
  right : ∀ a b (ns : List Int) (i : Int), ns.length ≤ 63 → ∃ h', P.fn "_law_right" [.d a (.lst (ns.map PV.int)), .d b (.int i)] [] = ok (.d false (.bl true), h')
  bad0 : ∀ x ∈ badL, P.fn "add" [.d false x] [] = some (.error ⟨"BadContent", none⟩)
  bad1 : ∀ x ∈ badL, P.fn "numbered_anew" [.d false x] [] = some (.error ⟨"BadContent", none⟩)
  sub : P.esub "BadContent" "BadContent" = some true
  g0 : P.fn "add" [.d false (.lst [])] [] = ok (.d false (.tup []), [])
  g1 : P.fn "numbered_anew" [.d false (.lst [])] [] = ok (.d false (.lst []), [])
  g2 : P.fn "add" [.d false (.lst [.tup [.int 7, .int 9]])] [] = ok (.d false (.tup [.int 7, .int 9]), [])
theorem ev_callX {P : Pg} {f : PySem.Str} {a : CE} {σ : St} {h : OH} {p : PV} {x : Exn} (ha : ev P a σ h = ok p) (hs : ∀ z, a ≠ .star z) (hf : P.fn f [.d (decide (flg σ a ≠ 0)) p] [] = some (.error x)) : ev P (.call f [a]) σ h = some (.error x) := by
  have e : evs P [a] σ h = ok [p] := by
    cases a <;> first | exact absurd rfl (hs _) | (simp only [evs, ha, bnd_ok])
  rw [ev.eq_def]
  simp only [e, bnd_ok, argsOf, hf, told]
def tBody : List CS := [
        .try_ [
          .if_ (.cmp .eq (.loc 3) (.cst (.int 0))) [
            .expr (.call "add" [.loc 2])] [
            .expr (.call "numbered_anew" [.loc 2])],
          .ret (.cst (.bl false))] "BadContent" [
          .pass]]
theorem t_turn {P : Pg} (T : Top P) {s0 s1 : Option SV} {x : PV} (hx : x ∈ badL) {k : Int} (hk : k = 0 ∨ k = 1) : evSs P tBody [s0, s1, some (.d false x), some (.d false (.int k))] [] = some (.nx, [s0, s1, some (.d false x), some (.d false (.int k))], []) := by
  let σ : St := [s0, s1, some (.d false x), some (.d false (.int k))]
  have f2 : ev P (.loc 2) σ [] = ok x := ev_loc rfl
  have f3 : ev P (.loc 3) σ [] = ok (.int k) := ev_loc rfl
  have t := evT_of (ev_eq f3 (ev_cst (P := P) (p := .int 0)) rfl rfl)
  have key : evSs P [.if_ (.cmp .eq (.loc 3) (.cst (.int 0))) [.expr (.call "add" [.loc 2])] [.expr (.call "numbered_anew" [.loc 2])], .ret (.cst (.bl false))] σ [] = some (.exc ⟨"BadContent", none⟩, σ, []) := by
    rcases hk with rfl | rfl
    · rw [S_ifT t, L_cons, L_expr, ev_callX f2 (by intro z q; cases q) (T.bad0 x hx)]
      rfl
    · rw [S_ifF t, L_cons, L_expr, ev_callX f2 (by intro z q; cases q) (T.bad1 x hx)]
      rfl
  unfold tBody
  rw [L_cons, L_tryX key T.sub]
  simp only [L_cons, L_pass, L_nil, seq_nx, noExc]
  rfl
theorem run_law {P : Pg} (T : Top P) (ns : List Int) (hn : ns.length ≤ 63) : run P d_law [.d true (.lst (ns.map PV.int))] [] = ok (.d false (.bl true), []) := by
  let S : PV := .lst (ns.map PV.int)
  let σ0 : St := [some (.d true S), none, none, none]
  have er := ev_range (P := P) (b := .cst (.int 14)) (σ := σ0) (h := []) ev_cst (by decide) (by decide)
  obtain ⟨σ', h', e, i⟩ := forL_inv (f := evSs P [.if_ (.not (.call "_law_right" [.loc 0, .bin .mul (.cst (.int 20)) (.loc 1)])) [.ret (.cst (.bl false))] []]) (t := .nm 1) (c := PV.int) (fun d σ h => (∃ t1, σ = [some (.d true S), t1, none, none]) ∧ h = [])
    ((List.range (14 : Int).toNat).map fun k : Nat => (0 : Int) + (k : Int)) [] σ0 [] (by
      rintro d x r σ h e ⟨⟨t1, rfl⟩, rfl⟩
      let σ2 : St := [some (.d true S), some (.d false (.int x)), none, none]
      obtain ⟨h', hr⟩ := T.right true false ns (20 * x) hn
      have g1 := ev_bin (ev_cst (P := P) (p := .int 20)) (ev_loc (P := P) (i := 1) (k := false) (p := .int x) (σ := σ2) (h := []) rfl) (op_mulL (i := 20) x (by decide))
      have g2 : ev P (.call "_law_right" [.loc 0, .bin .mul (.cst (.int 20)) (.loc 1)]) σ2 [] = ok (.bl true) :=
        ev_call2 (ev_loc (P := P) (i := 0) (k := true) (p := S) (σ := σ2) (h := []) rfl) (by intro z q; cases q) g1 (by intro z q; cases q) hr rfl
      have g3 : evT P (.not (.call "_law_right" [.loc 0, .bin .mul (.cst (.int 20)) (.loc 1)])) σ2 [] = ok false := by
        refine evT_of ?_
        rw [ev.eq_def]
        simp only [g2, bnd_ok, truth, Option.map_some]
        rfl
      refine ⟨σ2, σ2, [], rfl, ?_, ⟨_, rfl⟩, rfl⟩
      rw [S_ifF g3, L_nil, seq_nx, L_nil]) ⟨⟨none, rfl⟩, rfl⟩
  obtain ⟨⟨t1, rfl⟩, rfl⟩ := i
  -- what is none
  let σ1 : St := [some (.d true S), t1, none, none]
  have eb : ev P (.tup [.cst .non, .cst (.int 5), .cst (.str "()"), .dct0, .lst [.cst (.int 5)], .lst [.tup [.cst (.int 1), .cst (.int 0)]], .lst [.tup [.cst (.int 0), .cst (.int 0)]], .lst [.tup [.cst (.bl true)]], .lst [.tup [.cst (.str "0")]], .lst [.tup [.neg (.cst (.int 1))]], .lst [.lst [.cst (.int 0)]], .tup [.tup [.cst (.int 0)], .cst .non]]) σ1 [] = ok (.tup badL) := by
    simp only [ev, evs, bnd_ok, asInt, withO_some, flgs, flg, Nat.max_self]
    rfl
  obtain ⟨σ', h', e', i'⟩ := forL_inv (f := evSs P [.for_ (.nm 3) (.tup [.cst (.int 0), .cst (.int 1)]) tBody]) (t := .nm 2) (c := id) (fun d σ h => (∃ t2 t3, σ = [some (.d true S), t1, t2, t3]) ∧ h = [])
    badL [] σ1 [] (by
      rintro d x r σ h e ⟨⟨t2, t3, rfl⟩, rfl⟩
      rw [List.nil_append] at e
      have hx : x ∈ badL := by rw [e]; simp
      let σ2 : St := [some (.d true S), t1, some (.d false x), t3]
      have e2 : ev P (.tup [.cst (.int 0), .cst (.int 1)]) σ2 [] = ok (.tup ([0, 1].map PV.int)) := by simp only [ev, evs, bnd_ok]; rfl
      obtain ⟨σ3, h3, e3, i3⟩ := forL_inv (f := evSs P tBody) (t := .nm 3) (c := PV.int) (fun d σ h => (∃ t3, σ = [some (.d true S), t1, some (.d false x), t3]) ∧ h = [])
        [0, 1] [] σ2 [] (by
          rintro d y r σ h e ⟨⟨t3, rfl⟩, rfl⟩
          rw [List.nil_append] at e
          have hy : y = 0 ∨ y = 1 := by
            have : y ∈ ([0, 1] : List Int) := by rw [e]; simp
            simpa using this
          exact ⟨_, _, _, rfl, t_turn T hx hy, ⟨_, rfl⟩, rfl⟩) ⟨⟨t3, rfl⟩, rfl⟩
      obtain ⟨⟨u3, rfl⟩, rfl⟩ := i3
      refine ⟨σ2, [some (.d true S), t1, some (.d false x), u3], [], rfl, ?_, ⟨_, _, rfl⟩, rfl⟩
      rw [S_for (e := .tup [.cst (.int 0), .cst (.int 1)]) e2 rfl (by show 0 ≤ 1; decide) e3, L_nil]) ⟨⟨none, none, rfl⟩, rfl⟩
  rw [List.map_id] at e'
  obtain ⟨⟨t2, t3, rfl⟩, rfl⟩ := i'
  let σ2 : St := [some (.d true S), t1, t2, t3]
  have z0 : ev P (.lst []) σ2 [] = ok (.lst []) := by simp only [ev, evs, bnd_ok]; rfl
  have z1 : ev P (.tup []) σ2 [] = ok (.tup []) := by simp only [ev, evs, bnd_ok]; rfl
  have z2 : ev P (.lst [.tup [.cst (.int 7), .cst (.int 9)]]) σ2 [] = ok (.lst [.tup [.int 7, .int 9]]) := by simp only [ev, evs, bnd_ok]; rfl
  have z3 : ev P (.tup [.cst (.int 7), .cst (.int 9)]) σ2 [] = ok (.tup [.int 7, .int 9]) := by simp only [ev, evs, bnd_ok]; rfl
  have y0 := ev_eq (ev_call1 z0 (by intro z q; cases q) T.g0 rfl) z1 rfl rfl
  have y1 := ev_eq (ev_call1 z0 (by intro z q; cases q) T.g1 rfl) z0 rfl rfl
  have y2 := ev_eq (ev_call1 z2 (by intro z q; cases q) T.g2 rfl) z3 rfl rfl
  have w : ev P (.and (.cmp .eq (.call "add" [.lst []]) (.tup [])) (.and (.cmp .eq (.call "numbered_anew" [.lst []]) (.lst [])) (.cmp .eq (.call "add" [.lst [.tup [.cst (.int 7), .cst (.int 9)]]]) (.tup [.cst (.int 7), .cst (.int 9)])))) σ2 [] = ok (.bl true) := by
    exact ev_andT y0 (ev_andT y1 y2)
  refine run_ret (σ' := σ2) rfl rfl ?_
  show evSs P d_law.body σ0 [] = _
  unfold d_law
  dsimp only
  rw [S_for er rfl (by show 0 ≤ 1; decide) e]
  show evSs P [.for_ (.nm 2) _ [.for_ (.nm 3) (.tup [.cst (.int 0), .cst (.int 1)]) tBody], _] σ1 [] = _
  rw [S_for eb rfl (by show 0 ≤ 1; decide) e', S_ret w rfl (by intro k q; cases q)]
end K02

set_option Elab.async false
set_option linter.all false
set_option maxRecDepth 100000
set_option maxHeartbeats 0
/-! K02a: the defs of the law's text, as a table. -/
namespace K02
open Ev PySem
def top (i : Nat) : Stmt := PySem.Challenge.pw_stripehole_k02_whole_contents.main.body.getD i (.Pass ⟨0, 0, 0, 0⟩)
def e_is_content : Ent := ⟨"is_content", ["thing", "one", "other"], ["thing"], d_is_content, top 4⟩
def e_plus : Ent := ⟨"plus", ["one", "other", "mine", "letter"], ["one", "other"], d_plus, top 5⟩
def e_sum_up : Ent := ⟨"sum_up", ["contents", "found", "content"], ["contents"], d_sum_up, top 6⟩
def e_renamed : Ent := ⟨"renamed", ["contents", "rows", "found", "many", "content", "rest", "told", "row"], ["contents"], d_renamed, top 7⟩
def e_reduced : Ent := ⟨"reduced", ["rows", "rest", "told", "letter"], ["rows", "rest", "told", "letter"], d_reduced, top 8⟩
def e_add : Ent := ⟨"add", ["contents", "one"], ["contents"], d_add, top 9⟩
def e_numbered_anew : Ent := ⟨"numbered_anew", ["contents", "one"], ["contents"], d_numbered_anew, top 10⟩
def e_law_number : Ent := ⟨"_law_number", ["script", "index", "cells", "cell", "low", "high", "total", "blend"], ["script", "index"], d_law_number, top 12⟩
def e_law_total : Ent := ⟨"_law_total", ["contents", "letters", "content", "letter"], ["contents"], d_law_total, top 13⟩
def e_law_content : Ent := ⟨"_law_content", ["seed", "many", "letter"], ["seed", "many"], d_law_content, top 14⟩
def e_law_sums : Ent := ⟨"_law_sums", ["contents", "found", "at", "content", "rows", "spot", "same", "row", "total_here"], ["contents"], d_law_sums, top 15⟩
def e_law_right : Ent := ⟨"_law_right", ["script", "at", "many", "contents", "turn", "late", "mine", "theirs", "letter", "spot", "row", "content"], ["script", "at"], d_law_right, top 16⟩
def e_law : Ent := ⟨"law", ["script", "turn", "thing", "ask"], ["script"], d_law, top 17⟩
def tab : List Ent := [e_law, e_law_right, e_law_sums, e_law_content, e_law_total, e_law_number, e_numbered_anew, e_add, e_renamed, e_reduced, e_sum_up, e_plus, e_is_content]
-- arities: 1 2 1 2 1 2 1 1 1 4 1 2 1
-- dd: dd "is_content" 4, dd "plus" 5, dd "sum_up" 6, dd "renamed" 7, dd "reduced" 8, dd "add" 9, dd "numbered_anew" 10, dd "_law_number" 12, dd "_law_total" 13, dd "_law_content" 14, dd "_law_sums" 15, dd "_law_right" 16, dd "law" 17

theorem tab_is : tabB ["BadContent"] tab = true := by decide +kernel
end K02

set_option Elab.async false
set_option linter.all false
set_option maxRecDepth 100000
set_option maxHeartbeats 0
/-! K02b: the head. -/
namespace K02
open Ev PySem PySem.Spec PyProof.Rows L2
def dd (e : Ent) : He.DefD := ⟨(e.nm, none), e.nm, e.nm, defArgs e.st, defBody e.st, defScope e.st, [], []⟩
def fn : List He.DefD := tab.map dd
def exs : List Str := ["BadContent"]
def fa : List He.Fa := tab.map (fun e => He.Fa.glo e.nm) ++ bltNames.map He.Fa.free ++ [.glo "BadContent", .exc "BadContent", .exm "BadContent" "BadContent" true]
def p0 : Pg where
  fn := fun _ _ _ => none
  con := fun _ => none
  sub := fun _ _ => false
  esub := fun y x => if y = "BadContent" ∧ x = "BadContent" then some true else none
abbrev R : PySem.W.OpenRow := PySem.W.OpenLaw.row PySem.Challenge.rw_stripehole_k02_whole_contents
abbrev hk : PySem.W.Hook := He.hookD 4 fa fn
def ob (s : PySem.W.SharedT) : He.AlD := He.obsDG 4 fa fn (HandSHeadRun.getT s)
theorem ob_eq (s : PySem.W.SharedT) : ob s = hk.obs s.abs := He.obsDG_eq (HandSHeadRun.getT_eq s)
def loose : List PySem.Str := ["StripeError", "BadContent", "is_content", "plus", "sum_up", "renamed", "reduced", "add", "numbered_anew", "_law_number", "_law_total", "_law_content", "_law_sums", "_law_right"]
theorem run (w : World) : HandSHeadRun.RunEq R (PySem.W.view R.prog [17]) hk ob 3000 loose w := by
  intro os
  kernel_rfl
theorem fact_mem {K : PySem.W.Frag} (c : He.SaysD fa fn K) {f : He.Fa} (h : f ∈ fa) : f.ok K = true := by
  obtain ⟨i, hi, e⟩ := List.getElem_of_mem h
  exact c.fact i (by rw [List.getElem?_eq_getElem hi, e])
theorem def_mem {K : PySem.W.Frag} (c : He.SaysD fa fn K) {e : Ent} (h : e ∈ tab) : ∃ fd, FunD K e.nm e.nm (defArgs e.st) (defBody e.st) (defScope e.st) [] [] (He.ga K e.nm) fd := by
  have h2 : dd e ∈ fn := List.mem_map.mpr ⟨e, h, rfl⟩
  obtain ⟨i, hi, q⟩ := List.getElem_of_mem h2
  exact c.def_ i (d := dd e) (by rw [List.getElem?_eq_getElem hi, q])
theorem tabF_of {K : PySem.W.Frag} {mg : Str → Option Value} : ∀ (es : List Ent), (∀ e ∈ es, ∃ fd, FunD K e.nm e.nm (defArgs e.st) (defBody e.st) (defScope e.st) [] [] (He.ga K e.nm) fd) → (∀ e ∈ es, mg e.nm = some (.ref (He.ga K e.nm))) → TabF K mg es
  | [], _, _ => trivial
  | e :: r, h1, h2 => ⟨h1 e List.mem_cons_self, h2 e List.mem_cons_self, tabF_of r (fun x hx => h1 x (List.mem_cons_of_mem _ hx)) fun x hx => h2 x (List.mem_cons_of_mem _ hx)⟩
theorem tabA : TabA tab := by
  refine ⟨fun _ _ _ _ _ _ us hl => match us, hl with | [_], _ => rfl, fun _ _ _ _ _ _ us hl => match us, hl with | [_, _], _ => rfl, fun _ _ _ _ _ _ us hl => match us, hl with | [_], _ => rfl, fun _ _ _ _ _ _ us hl => match us, hl with | [_, _], _ => rfl,
    fun _ _ _ _ _ _ us hl => match us, hl with | [_], _ => rfl, fun _ _ _ _ _ _ us hl => match us, hl with | [_, _], _ => rfl, fun _ _ _ _ _ _ us hl => match us, hl with | [_], _ => rfl, fun _ _ _ _ _ _ us hl => match us, hl with | [_], _ => rfl,
    fun _ _ _ _ _ _ us hl => match us, hl with | [_], _ => rfl, fun _ _ _ _ _ _ us hl => match us, hl with | [_, _, _, _], _ => rfl, fun _ _ _ _ _ _ us hl => match us, hl with | [_], _ => rfl, fun _ _ _ _ _ _ us hl => match us, hl with | [_, _], _ => rfl, fun _ _ _ _ _ _ us hl => match us, hl with | [_], _ => rfl, trivial⟩
theorem facts {P : Program} {w : World} {K : PySem.W.Frag} {h : Heap} {mg : Str → Option Value} {f : Addr} (X : K.In h) (G : h.Ns mainGlobals mg) (hfa : mg ("law" : Str) = some (.ref f)) (c : He.SaysD fa fn K) :
    ∃ fd : FuncData, (∀ (s : Shared) (v : Value), BindsTo s fd ⟨[v], []⟩ [("script", v)]) ∧ ∀ base : Heap, K.In base → base.Ns mainGlobals mg → FnOk P w K mg base L2.CX0 13 f fd ["script"] (sp0 (spD K mg 1 ((pgOf p0 tab).fn "law"))) := by
  have hglo : ∀ e ∈ tab, mg e.nm = some (.ref (He.ga K e.nm)) := fun e he => He.glo_ok X G (fact_mem c (by
    unfold fa
    exact List.mem_append_left _ (List.mem_append_left _ (List.mem_map.mpr ⟨e, he, rfl⟩))))
  have hF : TabF K mg tab := tabF_of tab (fun e he => def_mem c he) hglo
  have hblt : ∀ x ∈ bltNames, mg x = none := fun x hx => He.free_ok X G (fact_mem c (by
    unfold fa
    exact List.mem_append_left _ (List.mem_append_right _ (List.mem_map.mpr ⟨x, hx, rfl⟩))))
  have hB : mg "BadContent" = some (.ref (He.ga K "BadContent")) := He.glo_ok X G (fact_mem c (by unfold fa; exact List.mem_append_right _ (by simp)))
  obtain ⟨x1, x2, x3, x4⟩ := He.exc_ok (fact_mem c (f := .exc "BadContent") (by unfold fa; exact List.mem_append_right _ (by simp)))
  have xm := He.exm_ok (fact_mem c (f := .exm "BadContent" "BadContent" true) (by unfold fa; exact List.mem_append_right _ (by simp)))
  have A : Ard P w K mg p0.esub exs := {
    blt := hblt
    exc := fun z hz => by
      cases List.mem_singleton.mp hz
      exact ⟨_, _, _, _, _, PySem.F.excBase_ValueError, x1, hB, x2, x3, x4⟩
    sub := fun y x b cy cx e hy hx => by
      have e' : (if y = "BadContent" ∧ x = "BadContent" then some true else none) = some b := e
      split at e'
      · rename_i q
        obtain ⟨rfl, rfl⟩ := q
        cases e'
        rw [hB] at hy hx
        cases hy; cases hx
        exact xm
      · cases e' }
  obtain ⟨fd, F⟩ := def_mem c (e := e_law) (by simp [tab])
  have e := hfa.symm.trans (hglo e_law (by simp [tab]))
  cases e
  have b := FunD.bindsA (ps := ["script"]) F fun _ _ _ _ _ _ us hl => match us, hl with | [_], _ => rfl
  refine ⟨fd, fun s v => b s [v] rfl, fun base _ _ => ?_⟩
  exact FnOk.cx0 <| tab_head (P := P) (w := w) (base := base) (p0 := p0) (e := e_law) A tab_is hF.2.2 tabA.2 F
theorem holds_of (hm : ∀ ns : List Int, ns.length ≤ 63 → ∃ h', (pgOf p0 tab).fn "law" [.d true (.lst (ns.map .int))] [] = some (.ok (.d false (.bl true), h'))) : PySem.Challenge.rw_stripehole_k02_whole_contents.Holds := by
  open PySem.W PySem.Calls in
  w_on; o_law
  refine HandSHeadRun.head_any (r := PySem.W.OpenLaw.row PySem.Challenge.rw_stripehole_k02_whole_contents) (q := PySem.W.view (PySem.W.OpenLaw.row PySem.Challenge.rw_stripehole_k02_whole_contents).prog [17]) (H := hk) (ob := ob) (M := 3000) (loose := loose) (d := HandSHeadRun.topDef (PySem.W.OpenLaw.row PySem.Challenge.rw_stripehole_k02_whole_contents).prog 17) (kwd := []) ob_eq
    (by kernel_rfl) (fun s => by kernel_rfl) run (by kernel_rfl) (by kernel_rfl) (by kernel_rfl) (by rfl) (by first | assumption | decide +kernel) (by decide +kernel) ⟨rfl, rfl, rfl, rfl, rfl, by decide +kernel⟩ ?hw ?hc
  case hw => w_witness2
  case hc =>
    refine L2.walk_ofE (l := PySem.Challenge.rw_stripehole_k02_whole_contents) (n := 63) (k := 13) (x := "script") (CX := L2.CX0) rfl (by decide) (by kernel_rfl) ⟨rfl, by decide, by decide⟩ ?F (fun _ _ _ _ z => z)
    intro w mg fa h Y G hmg0
    obtain ⟨K, KX, c⟩ := Y
    have hmg : mg ("law" : PySem.Str) = some (.ref fa) := by
      have e : (HandSHeadRun.topDef (PySem.W.OpenLaw.row PySem.Challenge.rw_stripehole_k02_whole_contents).prog 17).name = ("law" : PySem.Str) := by kernel_rfl
      rw [← e]
      exact hmg0
    obtain ⟨fd, hb, hF⟩ := facts (P := (PySem.Challenge.rw_stripehole_k02_whole_contents).prog) (w := w) KX G hmg c
    exact ⟨K, fd, sp0 (spD K mg 1 ((pgOf p0 tab).fn "law")), KX, hb, fun H a ns hl _ hS => law_sp (Nat.le_trans hl (by decide)) hS (hm ns hl), hF⟩
end K02

set_option Elab.async false
set_option linter.all false
set_option maxRecDepth 100000
set_option maxHeartbeats 4000000
/-! K02q: the end. -/
namespace K02
open Ev
abbrev pg (k : Nat) : Pg := pgOf p0 (tab.drop k)
theorem add_ne {p : Pg} {x f : PySem.Str} {d : Df} (h : f ≠ x) (as : List SV) (hp : OH) : (p.add x d).fn f as hp = p.fn f as hp := by
  show (if f = x then _ else _) = _
  rw [if_neg h]
theorem add_eq {p : Pg} {x : PySem.Str} {d : Df} (as : List SV) (hp : OH) : (p.add x d).fn x as hp = Ev.run p d as hp := by
  show (if x = x then _ else _) = _
  rw [if_pos rfl]
def look (f : PySem.Str) : List Ent → Option (Df × List Ent)
  | [] => none
  | e :: r => if f = e.nm then some (e.df, r) else look f r
theorem pg_look {f : PySem.Str} {d : Df} {r : List Ent} {q : Pg} : ∀ {es : List Ent}, look f es = some (d, r) → ∀ as hp, (pgOf q es).fn f as hp = Ev.run (pgOf q r) d as hp
  | [], h, _, _ => by cases h
  | e :: es, h, as, hp => by
    unfold look at h
    split at h
    · rename_i c
      cases h
      subst c
      exact add_eq as hp
    · rename_i c
      show ((pgOf q es).add e.nm e.df).fn f as hp = _
      rw [add_ne c]
      exact pg_look h as hp
theorem l_plus (k : Nat) (hk : k ≤ 11) : look "plus" (tab.drop k) = some (d_plus, tab.drop 12) := by
  have : k = 0 ∨ k = 1 ∨ k = 2 ∨ k = 3 ∨ k = 4 ∨ k = 5 ∨ k = 6 ∨ k = 7 ∨ k = 8 ∨ k = 9 ∨ k = 10 ∨ k = 11 := by omega
  rcases this with rfl | rfl | rfl | rfl | rfl | rfl | rfl | rfl | rfl | rfl | rfl | rfl <;> rfl
theorem plusOk (k : Nat) (hk : k ≤ 11) : PlusOk (pg k) := fun a b xs ys h hx hy => by
  rw [pg_look (l_plus k hk)]
  exact run_plus _ a b xs ys h (plus_big hx hy)
theorem reducedOk : ReducedOk (pg 9) := fun E fs r t l h1 h2 h3 h4 h5 => by
  rw [pg_look (show look "reduced" (tab.drop 9) = some (d_reduced, tab.drop 10) from rfl)]
  exact run_reduced (plusOk 10 (by decide)) E fs r t l h1 h2 h3 h4 h5
theorem renOk : RenOk (pg 7) := fun a t cs h1 h2 => by
  obtain ⟨d, e⟩ := run_renamed (plusOk 9 (by decide)) reducedOk a t cs h1 h2
  exact ⟨d, by rw [pg_look (show look "renamed" (tab.drop 7) = some (d_renamed, tab.drop 9) from rfl)]; exact e⟩
theorem conOk7 : ConOk (pg 7) := fun a xs h => by
  rw [pg_look (show look "is_content" (tab.drop 7) = some (d_is_content, tab.drop 13) from rfl)]
  exact run_is_content _ a xs [] h
theorem conOk8 : ConOk (pg 8) := fun a xs h => by
  rw [pg_look (show look "is_content" (tab.drop 8) = some (d_is_content, tab.drop 13) from rfl)]
  exact run_is_content _ a xs [] h
theorem sumOk : SumOk (pg 8) := fun a t cs h => by
  rw [pg_look (show look "sum_up" (tab.drop 8) = some (d_sum_up, tab.drop 11) from rfl)]
  exact run_sum_up (plusOk 11 (by decide)) a t cs [] h
theorem totOk (k : Nat) (hk : look "_law_total" (tab.drop k) = some (d_law_total, tab.drop 5)) : TotOk (pg k) := fun a t cs h => by
  rw [pg_look hk]
  exact run_total _ a t cs [] h
theorem low2 : Low (pg 2) where
  num := fun a b ns i h => by
    obtain ⟨n, e⟩ := run_number (pg 6) a b ns i [] h
    exact ⟨n, by rw [pg_look (show look "_law_number" (tab.drop 2) = some (d_law_number, tab.drop 6) from rfl)]; exact e⟩
  cont := fun a b seed many h0 h1 => by
    obtain ⟨zs, c1, c2, e⟩ := run_content (pg 4) a b seed many [] h0 h1
    exact ⟨zs, ⟨c1, c2⟩, by rw [pg_look (show look "_law_content" (tab.drop 2) = some (d_law_content, tab.drop 4) from rfl)]; exact e⟩
  tot := totOk 2 rfl
  numb := fun a t cs h1 h2 => by
    rw [pg_look (show look "numbered_anew" (tab.drop 2) = some (d_numbered_anew, tab.drop 7) from rfl)]
    exact run_numbered conOk7 renOk a t cs h1 h2
  add := fun a t cs h => by
    rw [pg_look (show look "add" (tab.drop 2) = some (d_add, tab.drop 8) from rfl)]
    exact run_add conOk8 sumOk a t cs h
  sums := fun a cs h1 h2 => by
    rw [pg_look (show look "_law_sums" (tab.drop 2) = some (d_law_sums, tab.drop 3) from rfl)]
    exact run_sums (totOk 3 rfl) a cs h1 h2
def isErr (r : Ev.R (SV × OH)) : Bool := match r with
  | some (.error ⟨c, none⟩) => decide (c = "BadContent")
  | _ => false
theorem isErr_ok {r : Ev.R (SV × OH)} (h : isErr r = true) : r = some (.error ⟨"BadContent", none⟩) := by
  unfold isErr at h
  split at h
  · rw [of_decide_eq_true h]
  · cases h
theorem bad0_all : (badL.all fun x => isErr (Ev.run (pg 8) d_add [.d false x] [])) = true := by decide +kernel
theorem bad1_all : (badL.all fun x => isErr (Ev.run (pg 7) d_numbered_anew [.d false x] [])) = true := by decide +kernel
theorem top1 : Top (pg 1) where
  right := fun a b ns i h => by
    obtain ⟨h', e⟩ := run_right low2 a b ns i h
    exact ⟨h', by rw [pg_look (show look "_law_right" (tab.drop 1) = some (d_law_right, tab.drop 2) from rfl)]; exact e⟩
  bad0 := fun x hx => by
    rw [pg_look (show look "add" (tab.drop 1) = some (d_add, tab.drop 8) from rfl)]
    exact isErr_ok (List.all_eq_true.mp bad0_all x hx)
  bad1 := fun x hx => by
    rw [pg_look (show look "numbered_anew" (tab.drop 1) = some (d_numbered_anew, tab.drop 7) from rfl)]
    exact isErr_ok (List.all_eq_true.mp bad1_all x hx)
  sub := by
    rw [pgOf_esub]
    show (if ("BadContent" : PySem.Str) = "BadContent" ∧ ("BadContent" : PySem.Str) = "BadContent" then some true else none) = some true
    rw [if_pos ⟨rfl, rfl⟩]
  g0 := by
    rw [pg_look (show look "add" (tab.drop 1) = some (d_add, tab.drop 8) from rfl)]
    exact run_add conOk8 sumOk false false [] (fun c h => by cases h)
  g1 := by
    rw [pg_look (show look "numbered_anew" (tab.drop 1) = some (d_numbered_anew, tab.drop 7) from rfl)]
    exact run_numbered conOk7 renOk false false [] (fun c h => by cases h) (by decide)
  g2 := by
    rw [pg_look (show look "add" (tab.drop 1) = some (d_add, tab.drop 8) from rfl)]
    have := run_add conOk8 sumOk false false [[7, 9]] (fun c h => by
      have : c = [7, 9] := by simpa using h
      subst this
      exact ⟨by simp, fun i hi => by
        have : i = 7 ∨ i = 9 := by simpa using hi
        omega⟩)
    exact this
theorem law_ok (ns : List Int) (h : ns.length ≤ 63) : ∃ h', (pgOf p0 tab).fn "law" [.d true (.lst (ns.map .int))] [] = some (.ok (.d false (.bl true), h')) :=
  ⟨[], by
    rw [pg_look (show look "law" tab = some (d_law, tab.drop 1) from rfl)]
    exact run_law top1 ns h⟩
end K02
theorem PySem.Challenge.cw_stripehole_k02_whole_contents_holds : PySem.Challenge.rw_stripehole_k02_whole_contents.Holds := by
  exact K02.holds_of K02.law_ok

