import PyProof.Rows.All
import Wide.All
import OpenK.AllK
import Wide.FinOn
import HandS.ForMost
import HandS.ForExc
import HandS.Star
import HandS.Flow
import HandS.TupAny
import HandS.Deep
import HandS.IsInst
import HandS.HeadHook1
import HandS.Slots
import PySem.PyData
import HandS.SortInts
import HandS.CallSlots
import HandS.SetFor
import HandS.Zip
import HandS.Style
import HandS.TryOnly
import KE.DataMinMax
import KE.SortData
import HandS.SlotsOwn
import PyProof.InstNe
import HandS.Strs
import HandS.Ends
import HandS.Words
import HandS.WordsExc
import HandS.Defaults
import HandS.Head0
import HandS.Head1
import HandS.Head2
import HandS.HeadEnd
import HandS.HeadHook2
import KE.KStateDown
import PySem.Challenge.RW_stripehole_k14_whole_answers
set_option Elab.async false
set_option linter.all false
set_option maxRecDepth 100000
/-! EvT: tuples whose object is known: they have no dict, so that their methods can be called. -/
namespace Ev
open PySem PySem.Spec PyProof.Rows L2
/-- an object of its kind without a dict -/
def NoD (o : Obj) : Prop := o.dict = none
def TqD (K : PySem.W.Frag) (H : Hp) (a : Addr) (vs : List V) : Prop := (∃ o, H a = some (.frz o (.tup vs)) ∧ NoD o) ∨ ∃ (o : Obj) (its : Array Value) (n : Nat), K.lookup a = some o ∧ o.cls = .type "tuple" ∧ NoD o ∧ o.data = .seq its n ∧ its.size ≤ sizeLine ∧ Vals vs its.toList
theorem TqD.sq {K : PySem.W.Frag} {H : Hp} {a : Addr} {vs : List V} (h : TqD K H a vs) : SqT K H a vs := by
  rcases h with ⟨o, h, _⟩ | ⟨o, its, n, h1, h2, _, h3, h4, h5⟩
  · exact .inl (.inr ⟨o, h⟩)
  · exact .inr ⟨o, its, n, h1, h2, h3, h4, h5⟩
section
variable {X : Cx} {es : List Expr} {t : TA} {pos : Pos}
theorem TqD.nod {pins : List (Addr × Obj)} {σ : L2.St} {H : Hp} {s : Shared} {a : Addr} {vs : List V} (I : Inv X pins σ H s) (h : TqD X.K H a vs) : ∃ ob, s.heap.get? a = some ob ∧ ob.dict = none := by
  rcases h with ⟨o, h, d⟩ | ⟨o, its, n, h1, h2, d, h3, h4, h5⟩
  · obtain ⟨e, _⟩ := I.hok a _ h
    exact ⟨o, e, d⟩
  · exact ⟨o, I.kIn a o h1, d⟩
abbrev tupObj (us : List Value) : Obj := { cls := .type "tuple", data := .seq us.toArray }
/-- a tuple is laid down -/
theorem laidT {pins : List (Addr × Obj)} {σ : L2.St} {H : Hp} {s : Shared} {vs : List V} {us : List Value} {Q : VK} (I : Inv X pins σ H s) (r : Vals vs us) (hz : vs.length ≤ sizeLine) (q : ∀ p o, H p = none → NoD o → Q (.ref p) (upd H p (.frz o (.tup vs)))) :
    EP X pins σ Q (.ref s.heap.objs.size) { s with heap := s.heap.push (tupObj us) } := by
  have new : ObjOk X.prog X.w (upd H s.heap.objs.size (.frz (tupObj us) (.tup vs))) (s.heap.push (tupObj us)) s.heap.objs.size (.frz (tupObj us) (.tup vs)) :=
    ⟨Heap.get?_push_size _ rfl, hz, us, r, IsTup.new s.heap us.toArray⟩
  exact ⟨.ref s.heap.objs.size, _, I.laid (t' := s.toks) (fun _ _ e => Heap.get?_push_of_some _ e) (Nat.le_refl _) new, rfl, q _ _ (I.hok.fresh (Nat.le_refl _)) rfl⟩
/-- (..) as written -/
def tTupF (t : TA) : TE := fun σ H Q => t σ H fun xs H1 => xs.length ≤ sizeLine ∧ ∀ p o, H1 p = none → NoD o → Q (.ref p) (upd H1 p (.frz o (.tup xs)))
theorem pe_tupF {k : Nat} (ht : PA X es t) : PE X (.Tuple es k pos) (tTupF t) :=
  ⟨fun pins s σ H Q I hq => wpAny_Tuple_spliced (thn (ht.run pos pins s σ H _ I hq) fun _ _ ⟨_, _, I1, r, z, q⟩ => ⟨by rw [← r.length]; exact z, laidT I1 r z q⟩)⟩
/-- t + u -/
def rCatF (K : PySem.W.Frag) : R2 := fun x y H Q => ∃ a b xs ys, x = .ref a ∧ y = .ref b ∧ SqT K H a xs ∧ SqT K H b ys ∧ xs.length + ys.length ≤ sizeLine ∧
  (xs = [] → Q y H) ∧ (ys = [] → Q x H) ∧ ∀ p o, H p = none → NoD o → Q (.ref p) (upd H p (.frz o (.tup (xs ++ ys))))
theorem op_catF : OpR X (binaryOp .Add) (rCatF X.K) := by
  intro pins s σ H x y v u Q I rx ry ⟨a, b, xs, ys, e1, e2, ha, hb, hz, q0, q1, q2⟩
  subst e1 e2
  cases (show v = Value.ref a from rx)
  cases (show u = Value.ref b from ry)
  obtain ⟨us, r1, p1, _⟩ := I.tuple ha
  obtain ⟨ws, r2, p2, _⟩ := I.tuple hb
  cases us with
  | nil => cases r1; exact cat_tup0 p1 p2 ⟨V.ref b, H, I, rfl, q0 rfl⟩
  | cons w us =>
    refine HT.cat_tup p1 p2 (fun z => by cases z) (fun z => ?_) (fun _ => laidT I (r1.append r2) (by rw [List.length_append]; exact hz) q2) (by rw [← r1.length, ← r2.length]; exact hz)
    subst z
    cases r2
    exact ⟨V.ref a, H, I, rfl, q1 rfl⟩
/-- t[lo:hi] -/
def rSlF (K : PySem.W.Frag) : V → Option Int → Option Int → Hp → VK → Prop := fun x lo hi H Q => ∃ a xs, x = .ref a ∧ SqT K H a xs ∧
  (HT.sIx xs.length 0 lo = 0 ∧ HT.sIx xs.length xs.length hi = xs.length → Q x H) ∧ ∀ p o, H p = none → NoD o → Q (.ref p) (upd H p (.frz o (.tup (cutV xs lo hi))))
theorem sl_tupF : SlR X (rSlF X.K) := by
  intro pins s σ H x v vl vu lo hi sl Q I rx hs pl pu ⟨a, xs, e, hx, q1, q2⟩
  subst e
  by_cases hw : HT.sIx xs.length 0 lo = 0 ∧ HT.sIx xs.length xs.length hi = xs.length
  · exact sl_tupA pins s σ H _ v vl vu lo hi sl Q I rx hs pl pu ⟨a, xs, rfl, hx, fun _ => q1 hw, fun z => absurd hw z⟩
  · cases (show v = Value.ref a from rx)
    obtain ⟨us, r, ht, hz⟩ := I.tuple hx
    have hl : us.toArray.size = xs.length := by rw [List.size_toArray, r.length]
    refine ⟨"tuple", _, PyProof.Rows.slot_tuple_getitem.lookup, ht.typeIs, HT.getItem_tuple_cut ht hs pl pu (by rw [hl]; exact hw) ?_ (by rw [hl]; exact hz)⟩
    rw [hl]
    exact laidT I ((r.drop _).take _) (Nat.le_trans (cutV_length xs lo hi) hz) q2
/-- tuple(l), tuple(t) -/
theorem cr_tupF : CallR X (.type "tuple") (fun xs H Q => ∃ a ys, xs = [.ref a] ∧ ((SqL X.K H a ys ∧ ∀ p o, H p = none → NoD o → Q (.ref p) (upd H p (.frz o (.tup ys)))) ∨ (SqT X.K H a ys ∧ Q (.ref a) H))) := by
  intro pins s σ H xs us Q I r ⟨a, ys, e, h⟩
  subst e
  rcases h with ⟨hq, q⟩ | ⟨hq, q⟩
  · obtain ⟨u, rfl, rx⟩ := vals1 r
    cases (show u = Value.ref a from rx)
    obtain ⟨vs, r', pl, hz⟩ := I.list hq
    refine call_tuple_list pl.isList (fun h' kp => ?_) (by rw [List.size_toArray, ← r'.length]; exact hz)
    exact laidT (I.kept (t' := s.toks) kp) r' hz q
  · exact call_tuple_of pins s σ H _ us Q I r ⟨a, ys, rfl, .inr ⟨hq, q⟩⟩
end
end Ev

set_option linter.all false
/-! Ev0: a small evaluator: pure values, expressions without effects, statements over slots and a small heap of one's own objects. -/
namespace Ev
open PySem (Str)

/-- pure values -/
inductive PV where
  | non | bl (b : Bool) | int (i : Int) | str (s : Str)
  | tup (xs : List PV) | lst (xs : List PV) | dct (ks vs : List PV)
  | ins (c : Str) (fs : List PV) | ty (n : String) | cl (c : Str)
  deriving Inhabited

mutual
def peq : PV → PV → Bool
  | .non, .non => true
  | .bl a, .bl b => a == b
  | .bl a, .int j => (if a then 1 else 0) == j
  | .int i, .bl b => i == (if b then 1 else 0)
  | .int i, .int j => i == j
  | .str x, .str y => x == y
  | .lst xs, .lst ys => peqs xs ys
  | .tup xs, .tup ys => peqs xs ys
  | _, _ => false
def peqs : List PV → List PV → Bool
  | [], [] => true
  | x :: xs, y :: ys => peq x y && peqs xs ys
  | _, _ => false
end

mutual
/-- data that == of lists and tuples knows -/
def isData : PV → Bool
  | .non | .bl _ | .int _ => true
  | .str s => s.cps.all (· < 0x110000)
  | .lst xs | .tup xs => areData xs
  | .dct _ _ | .ins _ _ | .ty _ | .cl _ => false
def areData : List PV → Bool
  | [] => true
  | x :: xs => isData x && areData xs
def depth : PV → Nat
  | .lst xs | .tup xs => depths xs + 1
  | .non | .bl _ | .int _ | .str _ | .dct _ _ | .ins _ _ | .ty _ | .cl _ => 0
def depths : List PV → Nat
  | [] => 0
  | x :: xs => max (depth x) (depths xs)
end
/-- values that may be compared -/
def cmpOk (p : PV) : Bool := isData p && decide (depth p ≤ 64)

/-- an exception of one's own class, with its one field -/
structure Exn where
  cls : Str
  fld : Option PV
abbrev R (α : Type) := Option (Except Exn α)
abbrev ok {α : Type} (a : α) : R α := some (.ok a)
def bnd {α β : Type} (r : R α) (k : α → R β) : R β := match r with
  | some (.ok a) => k a
  | some (.error x) => some (.error x)
  | none => none
@[simp] theorem bnd_ok {α β : Type} (a : α) (k : α → R β) : bnd (some (.ok a)) k = k a := rfl
@[simp] theorem bnd_err {α β : Type} (x : Exn) (k : α → R β) : bnd (some (.error x)) k = some (.error x) := rfl
@[simp] theorem bnd_none {α β : Type} (k : α → R β) : bnd none k = none := rfl

/-- a slot: a value (k: a caller's list that may change behind our back, not to be kept) or one's own object -/
inductive SV where
  | d (k : Bool) (p : PV) | r (n : Nat)
inductive OO where
  | l (xs : List PV) | d (ks vs : List PV) | ins (c : Str) (fs : List (Option PV)) | hid
abbrev St := List (Option SV)
abbrev OH := List OO

inductive Op where
  | add | sub | mul | fdiv | mod
  deriving DecidableEq
inductive Cm where
  | eq | ne | lt | le | gt | ge | isN | notN | in_ | notIn
  deriving DecidableEq
inductive Bi where
  | len | int | sum | all | any | tuple | list | sorted | sset | max | min | abs | max2 | min2
  deriving DecidableEq
/-- builtin classes that isinstance asks for, and own ones -/
inductive Tk where
  | b (n : String) | own (c : Str)
inductive TN where
  | nm (i : Nat) | tp (ts : List TN)

/-- operations on values, by their names -/
inductive XO where
  | attr (f : Str) | make (c : Str) (ds : List PV) | callD (f : Str) (ds : List PV) | oeq | one | olen | glo (x : Str) | isiO (c : Str) | rep | index (t : Bool) | count (t : Bool)
inductive CE where
  | nope
  | ext (k : XO) (es : List CE)
  | meth (m : Str) (ds : List PV) (a : CE) (es : List CE)
  | cst (p : PV)
  | loc (i : Nat)
  | glo (x : Str)
  | star (a : CE)
  | tup (es : List CE)
  | lst (es : List CE)
  | dct0
  | bin (o : Op) (a b : CE)
  | neg (a : CE)
  | cmp (o : Cm) (a b : CE)
  | chain (o o' : Cm) (a b c : CE)
  | not (a : CE)
  | and (a b : CE)
  | or (a b : CE)
  | ite (c a b : CE)
  | idx (a i : CE)
  | slN (a : CE) | slL (a lo : CE) | slU (a hi : CE) | slLU (a lo hi : CE)
  | bi (f : Bi) (es : List CE)
  | isi (a : CE) (ts : List Tk)
  | cnt (a b : CE)
  | call (f : Str) (es : List CE)
  | range (lo hi : CE) | zip (a b : CE) | enum (a : CE)
  | comp (e : CE) (t : TN) (it : CE) (cs : List CE)

/-- the program around: the defs, by what they give; the module's constants; the classes that an own class is under -/
structure Pg where
  fn : Str → List SV → OH → R (SV × OH)
  con : Str → Option PV
  sub : Str → Str → Bool
  esub : Str → Str → Option Bool
  cls : Str → Option (List Str) := fun _ => none
  key : Str → Str → Option Str := fun _ _ => none
  dfl : Str → List PV → Bool := fun _ _ => false

def big : Nat := 16777216

def seqOf : PV → Option (List PV)
  | .lst xs | .tup xs => some xs
  | _ => none
def listOf : PV → Option (List PV)
  | .lst xs => some xs
  | _ => none
/-- the items of what is walked -/
def itemsOf : PV → Option (List PV)
  | .lst xs | .tup xs => some xs
  | _ => none
def withO {α β : Type} (o : Option α) (k : α → R β) : R β := match o with
  | some a => k a
  | none => none
@[simp] theorem withO_some {α β : Type} (a : α) (k : α → R β) : withO (some a) k = k a := rfl
@[simp] theorem withO_none {α β : Type} (k : α → R β) : withO none k = none := rfl
def asInt : PV → Option Int
  | .int i => some i
  | _ => none
def asInts : List PV → Option (List Int)
  | [] => some []
  | .int i :: r => (asInts r).map (i :: ·)
  | _ => none
def asIntss : List PV → Option (List (List Int))
  | [] => some []
  | .tup xs :: r => (asInts xs).bind fun x => (asIntss r).map (x :: ·)
  | _ => none

/-- truth -/
def truth : PV → Option Bool
  | .non => some false
  | .bl b => some b
  | .int i => some (i != 0)
  | .lst xs | .tup xs => some !xs.isEmpty
  | _ => none

def op2 : Op → PV → PV → Option PV
  | .add, .int i, .int j => some (.int (i + j))
  | .add, .int i, .bl b => some (.int (i + if b then 1 else 0))
  | .add, .lst xs, .lst ys => if xs.length + ys.length ≤ big then some (.lst (xs ++ ys)) else none
  | .add, .tup xs, .tup ys => if xs.length + ys.length ≤ big then some (.tup (xs ++ ys)) else none
  | .sub, .int i, .int j => some (.int (i - j))
  | .mul, .int i, .int j => if (-(2 ^ 64) < i ∧ i < 2 ^ 64) ∨ (-(2 ^ 64) < j ∧ j < 2 ^ 64) then some (.int (i * j)) else none
  | .fdiv, .int i, .int j => if 0 < j ∧ j < 1073741824 then some (.int (i / j)) else none
  | .mod, .int i, .int j => if 0 < j then some (.int (i % j)) else none
  | _, _, _ => none

def augI : Op → PV → PV → Option Int
  | .add, .int i, .int j => some (i + j)
  | .sub, .int i, .int j => some (i - j)
  | _, _, _ => none
def cmpI (f : Int → Int → Bool) : PV → PV → Option Bool
  | .int i, .int j => some (f i j)
  | _, _ => none
def inSeq (x : PV) (xs : List PV) : Bool := xs.any fun z => peq z x
/-- a scalar key -/
def keyOk : PV → Bool
  | .int _ | .str _ => true
  | _ => false
def isIn (x y : PV) : Option Bool := match y with
  | .lst xs | .tup xs => if cmpOk x && cmpOk (.lst xs) then some (inSeq x xs) else none
  | .dct ks _ => if keyOk x then some (inSeq x ks) else none
  | _ => none
def isNon : PV → Bool
  | .non => true
  | _ => false
def cm2 : Cm → PV → PV → Option Bool
  | .eq, x, y => if cmpOk x && cmpOk y then some (peq x y) else none
  | .ne, x, y => if cmpOk x && cmpOk y then some !(peq x y) else none
  | .lt, x, y => cmpI (fun i j => decide (i < j)) x y
  | .le, x, y => cmpI (fun i j => decide (i ≤ j)) x y
  | .gt, x, y => cmpI (fun i j => decide (j < i)) x y
  | .ge, x, y => cmpI (fun i j => decide (j ≤ i)) x y
  | .isN, x, .non => some (isNon x)
  | .notN, x, .non => some !(isNon x)
  | .in_, x, y => isIn x y
  | .notIn, x, y => (isIn x y).map (!·)
  | _, _, _ => none

/-- the place of an index of any sign -/
def ixN (n : Nat) (i : Int) : Option Nat := if 0 ≤ i then (if i < n then some i.toNat else none) else if -(n : Int) ≤ i then some (i + n).toNat else none
def lookK (x : PV) : List PV → List PV → Option PV
  | k :: ks, v :: vs => if peq k x then some v else lookK x ks vs
  | _, _ => none
def index (a i : PV) : Option PV := match a, i with
  | .lst xs, .int j | .tup xs, .int j => (ixN xs.length j).bind fun k => xs[k]?
  | .dct ks vs, k => if keyOk k then lookK k ks vs else none
  | _, _ => none
/-- an end of a slice -/
def sEnd (n d : Nat) : Option Int → Nat
  | none => d
  | some i => if i < 0 then (i + n).toNat else min i.toNat n
def cut (xs : List PV) (lo hi : Option Int) : List PV := (xs.drop (sEnd xs.length 0 lo)).take (sEnd xs.length xs.length hi - sEnd xs.length 0 lo)
def slice (a : PV) (lo hi : Option Int) : Option PV := match a with
  | .lst xs => some (.lst (cut xs lo hi))
  | .tup xs => some (.tup (cut xs lo hi))
  | _ => none

def asBls : List PV → Option (List Bool)
  | [] => some []
  | .bl b :: r => (asBls r).map (b :: ·)
  | _ => none
/-- insertion sort -/
def insI (x : Int) : List Int → List Int
  | [] => [x]
  | y :: r => if x ≤ y then x :: y :: r else y :: insI x r
def sortI : List Int → List Int
  | [] => []
  | x :: r => insI x (sortI r)
/-- each once, in its order -/
def nubI : List Int → List Int
  | [] => []
  | x :: r => if x ∈ r then nubI r else x :: nubI r
def maxI : List Int → Option Int
  | [] => none
  | x :: r => some (r.foldl (fun a b => if b > a then b else a) x)
def minI : List Int → Option Int
  | [] => none
  | x :: r => some (r.foldl (fun a b => if b < a then b else a) x)
def ltL : List Int → List Int → Bool
  | [], [] => false
  | [], _ :: _ => true
  | _ :: _, [] => false
  | x :: xs, y :: ys => if x = y then ltL xs ys else decide (x < y)
def minL : List (List Int) → Option (List Int)
  | [] => none
  | x :: r => some (r.foldl (fun a b => if ltL b a then b else a) x)

def bi1 (f : Bi) (a : PV) : Option PV := match f, a with
  | .len, .lst xs | .len, .tup xs => some (.int xs.length)
  | .len, .dct ks _ => some (.int ks.length)
  | .int, .int i => some (.int i)
  | .int, .bl b => some (.int (if b then 1 else 0))
  | .abs, .int i => some (.int (if i < 0 then -i else i))
  | .sum, .lst xs => (asInts xs).map fun ns => .int ns.sum
  | .all, .lst xs => (asBls xs).map fun bs => .bl (bs.all id)
  | .any, .lst xs => (asBls xs).map fun bs => .bl (bs.any id)
  | .tuple, .lst xs | .tuple, .tup xs => some (.tup xs)
  | .list, .lst xs | .list, .tup xs => some (.lst xs)
  | .sorted, .lst xs => (asInts xs).map fun ns => .lst ((sortI ns).map .int)
  | .sset, .lst xs => (asInts xs).bind fun ns => if ns.length < 64 then some (.lst ((sortI (nubI ns)).map .int)) else none
  | .max, .lst xs => (asInts xs).bind fun ns => (maxI ns).map .int
  | .min, .lst xs => match asIntss xs with
    | some ns => (minL ns).map fun z => .tup (z.map .int)
    | none => none
  | _, _ => none
def bi2 (f : Bi) (a b : PV) : Option PV := match f, a, b with
  | .max2, .int i, .int j => some (.int (if j > i then j else i))
  | .min2, .int i, .int j => some (.int (if j < i then j else i))
  | _, _, _ => none

/-- isinstance of a builtin class -/
def isTy (n : String) : PV → Bool
  | .non => n == "NoneType"
  | .bl _ => n == "bool" || n == "int"
  | .int _ => n == "int"
  | .str _ => n == "str"
  | .tup _ => n == "tuple"
  | .lst _ => n == "list"
  | .dct _ _ => n == "dict"
  | _ => false
def hasTy : PV → Bool
  | .ty _ | .cl _ | .ins _ _ => false
  | _ => true
def isTk (P : Pg) (p : PV) : Tk → Bool
  | .b n => isTy n p
  | .own c => match p with | .ins d _ => P.sub d c | _ => false
def cntOf (x : PV) (xs : List PV) : Option PV := match asInts xs, x with
  | some ns, .int i => some (.int (ns.count i))
  | _, _ => none

mutual
def bindT : TN → PV → St → Option St
  | .nm i, p, σ => some (σ.set i (some (.d false p)))
  | .tp ts, p, σ => match p with
    | .tup xs => bindTs ts xs σ
    | _ => none
def bindTs : List TN → List PV → St → Option St
  | [], [], σ => some σ
  | t :: ts, p :: ps, σ => (bindT t p σ).bind (bindTs ts ps)
  | _, _, _ => none
end

/-- an expression's value may not be kept: 2: one's own object's, 1: a caller's -/
def flg (σ : St) : CE → Nat
  | .loc i => match σ[i]? with
    | some (some (.r _)) => 2
    | some (some (.d true _)) => 1
    | _ => 0
  | .ite _ a b => max (flg σ a) (flg σ b)
  | .and a b => max (flg σ a) (flg σ b)
  | .or a b => max (flg σ a) (flg σ b)
  | _ => 0
/-- the same of what is walked -/
def flgI (σ : St) : CE → Nat
  | .zip a b => max (flg σ a) (flg σ b)
  | .enum a => flg σ a
  | .range _ _ => 0
  | e => flg σ e
def flgs (σ : St) : List CE → Nat
  | [] => 0
  | e :: es => max (flg σ e) (flgs σ es)
def viewO : OO → Option PV
  | .l xs => some (.lst xs)
  | .d ks vs => some (.dct ks vs)
  | .ins _ _ | .hid => none
def viewS (h : OH) : SV → Option PV
  | .d _ p => some p
  | .r n => h[n]?.bind viewO
/-- arguments as slots of the callee -/
def argsOf (σ : St) : List CE → List PV → List SV
  | e :: es, x :: xs => .d (decide (flg σ e ≠ 0)) x :: argsOf σ es xs
  | _, _ => []
def zipP : List PV → List PV → List PV
  | x :: xs, y :: ys => .tup [x, y] :: zipP xs ys
  | _, _ => []
def enumP (i : Nat) : List PV → List PV
  | [] => []
  | x :: xs => .tup [.int i, x] :: enumP (i + 1) xs
def rangeP (lo : Int) : Nat → List PV
  | 0 => []
  | n + 1 => .int lo :: rangeP (lo + 1) n

mutual
def slotsT : TN → List Nat
  | .nm i => [i]
  | .tp ts => slotsTs ts
def slotsTs : List TN → List Nat
  | [] => []
  | t :: ts => slotsT t ++ slotsTs ts
end
def wipeS (σ : St) : List Nat → St
  | [] => σ
  | v :: vs => (wipeS σ vs).set v none
/-- two lists, or two tuples -/
def seq2 : PV → PV → Option (List PV)
  | .lst xs, .lst ys => some (zipP xs ys)
  | .tup xs, .tup ys => some (zipP xs ys)
  | _, _ => none
/-- a comprehension's turns -/
def compL (f : St → R (Option PV)) (t : TN) (σ : St) : List PV → R (List PV)
  | [] => ok []
  | x :: xs => match bindT t x σ with
    | none => none
    | some σ' => bnd (f σ') fun o => bnd (compL f t σ xs) fun ys => ok (match o with | some y => y :: ys | none => ys)
/-- what raises inside a comprehension stops the evaluator -/
def calm {α : Type} : R α → R α
  | some (.error _) => none
  | r => r
/-- a pure call's answer, told to the caller -/
def toldS (h : OH) : SV → Option PV
  | .d false p => some p
  | .d true _ => none
  | .r n => h[n]?.bind viewO
def told (r : R (SV × OH)) : R PV := match r with
  | some (.ok (s, h)) => (toldS h s).map .ok
  | some (.error x) => some (.error x)
  | none => none

def ixOf (f : Str) : List Str → Option Nat
  | [] => none
  | x :: xs => if x = f then some 0 else (ixOf f xs).map (· + 1)
def allSome : List (Option PV) → Option (List PV)
  | [] => some []
  | some p :: r => (allSome r).map (p :: ·)
  | none :: _ => none
/-- the object that an __init__ has filled -/
def made (r : R (SV × OH)) : R PV := match r with
  | some (.ok (.d false .non, .ins c fs :: _)) => (allSome fs).map fun ys => .ok (.ins c ys)
  | some (.error x) => some (.error x)
  | _ => none
def asB : R PV → R Bool
  | some (.ok (.bl b)) => ok b
  | _ => none
/-- arguments, filled up by written defaults -/
def fillD (P : Pg) (k : Str) (ds : List PV) (as : List SV) : Option (List SV) := match ds with
  | [] => some as
  | ds => if P.dfl k ds then some (as ++ ds.map (SV.d false)) else none
def xfn (P : Pg) (k : Str) (ds : List PV) (as : List SV) : R PV := match fillD P k ds as with
  | some as => told (P.fn k as [])
  | none => none
def xmeth (P : Pg) (c m : Str) (ds : List PV) (as : List SV) : R PV := match P.key c m with
  | some k => xfn P k ds as
  | none => none
def xmake (P : Pg) (c : Str) (ds : List PV) (as : List SV) : R PV := match P.cls c with
  | some ss => (match P.key c "__init__" with
    | some k => (match fillD P k ds (.r 0 :: as) with
      | some as => made (P.fn k as [.ins c (ss.map fun _ => none), .hid])
      | none => none)
    | none => none)
  | none => none
def clsOf : PV → Option Str
  | .ins c _ => some c
  | _ => none
def xattr (P : Pg) (f : Str) : PV → Option PV
  | .ins c fs => ((P.cls c).bind (ixOf f)).bind fun i => fs[i]?
  | _ => none
def knownI (P : Pg) : PV → Bool
  | .ins d _ => (P.cls d).isSome
  | _ => true
def isiOf (c : Str) : PV → Option Bool
  | .ins d _ => some (decide (d = c))
  | p => if hasTy p then some false else none
/-- a tuple's items, or a list's -/
def seqT (t : Bool) : PV → Option (List PV)
  | .tup xs => if t then some xs else none
  | .lst xs => if t then none else some xs
  | _ => none
/-- operations on values -/
def xop (P : Pg) : XO → List SV → R PV
  | .attr f, [.d _ p] => (xattr P f p).map .ok
  | .make c ds, as => xmake P c ds as
  | .callD f ds, as => xfn P f ds as
  | .oeq, [.d k (.ins c fs), .d k' (.ins c' fs')] => if (P.cls c').isNone then none else bnd (asB (xmeth P c "__eq__" [] [.d k (.ins c fs), .d k' (.ins c' fs')])) fun b => ok (.bl b)
  | .one, [.d k (.ins c fs), .d k' (.ins c' fs')] => if (P.cls c').isNone then none else bnd (asB (xmeth P c "__eq__" [] [.d k (.ins c fs), .d k' (.ins c' fs')])) fun b => ok (.bl !b)
  | .olen, [.d k (.ins c fs)] => bnd (xmeth P c "__len__" [] [.d k (.ins c fs)]) fun p => withO (asInt p) fun i => if 0 ≤ i ∧ i ≤ big then ok (.int i) else none
  | .glo x, [] => (P.con x).map .ok
  | .isiO c, [.d _ p] => if (P.cls c).isSome && knownI P p then (isiOf c p).map fun b => .ok (.bl b) else none
  | .rep, [.d false (.lst xs), .d _ (.int n)] => if xs.length * n.toNat ≤ big ∧ -(2 ^ 62) < n ∧ n < 2 ^ 62 then ok (.lst (List.replicate n.toNat xs).flatten) else none
  | .index t, [.d _ q, .d _ p] => withO (seqT t q) fun xs => if cmpOk p && cmpOk (.lst xs) then (xs.findIdx? fun z => peq z p).map fun (i : Nat) => .ok (.int i) else none
  | .count t, [.d _ q, .d _ p] => withO (seqT t q) fun xs => if cmpOk p && cmpOk (.lst xs) then ok (.int (xs.countP fun z => peq z p)) else none
  | _, _ => none
mutual
def ev (P : Pg) : CE → St → OH → R PV
  | .nope, _, _ => none
  | .ext k es, σ, h => bnd (evs P es σ h) fun xs => xop P k (argsOf σ es xs)
  | .meth m ds a es, σ, h => bnd (ev P a σ h) fun x => withO ((clsOf x).bind fun c => P.key c m) fun k => bnd (evs P es σ h) fun xs => xfn P k ds (.d (decide (flg σ a ≠ 0)) x :: argsOf σ es xs)
  | .cst p, _, _ => ok p
  | .loc i, σ, h => match σ[i]? with
    | some (some s) => (viewS h s).map .ok
    | _ => none
  | .glo x, _, _ => (P.con x).map .ok
  | .star _, _, _ => none
  | .tup es, σ, h => bnd (evs P es σ h) fun xs => if xs.length ≤ big ∧ flgs σ es = 0 then ok (.tup xs) else none
  | .lst es, σ, h => bnd (evs P es σ h) fun xs => if xs.length ≤ big ∧ flgs σ es = 0 then ok (.lst xs) else none
  | .dct0, _, _ => ok (.dct [] [])
  | .bin o a b, σ, h => bnd (ev P a σ h) fun x => bnd (ev P b σ h) fun y => match op2 o x y with
    | some (.lst zs) => if flg σ a = 0 ∧ flg σ b = 0 then ok (.lst zs) else none
    | z => z.map .ok
  | .neg a, σ, h => bnd (ev P a σ h) fun x => withO (asInt x) fun i => ok (.int (-i))
  | .cmp o a b, σ, h => bnd (ev P a σ h) fun x => bnd (ev P b σ h) fun y => (cm2 o x y).map fun b => .ok (.bl b)
  | .chain o o' a b c, σ, h => bnd (ev P a σ h) fun x => bnd (ev P b σ h) fun y => withO (cm2 o x y) fun t => if t then bnd (ev P c σ h) fun z => (cm2 o' y z).map fun b => .ok (.bl b) else ok (.bl false)
  | .not a, σ, h => bnd (ev P a σ h) fun x => (truth x).map fun b => .ok (.bl !b)
  | .and a b, σ, h => bnd (ev P a σ h) fun x => withO (truth x) fun t => if t then ev P b σ h else ok x
  | .or a b, σ, h => bnd (ev P a σ h) fun x => withO (truth x) fun t => if t then ok x else ev P b σ h
  | .ite c a b, σ, h => bnd (ev P c σ h) fun x => withO (truth x) fun t => if t then ev P a σ h else ev P b σ h
  | .idx a i, σ, h => bnd (ev P a σ h) fun x => bnd (ev P i σ h) fun y => (index x y).map .ok
  | .slN a, σ, h => bnd (ev P a σ h) fun x => (slice x none none).map .ok
  | .slL a l, σ, h => bnd (ev P a σ h) fun x => bnd (ev P l σ h) fun y => withO (asInt y) fun i => (slice x (some i) none).map .ok
  | .slU a u, σ, h => bnd (ev P a σ h) fun x => bnd (ev P u σ h) fun y => withO (asInt y) fun i => (slice x none (some i)).map .ok
  | .slLU a l u, σ, h => bnd (ev P a σ h) fun x => bnd (ev P l σ h) fun y => withO (asInt y) fun i => bnd (ev P u σ h) fun z => withO (asInt z) fun j => (slice x (some i) (some j)).map .ok
  | .bi f es, σ, h => bnd (evs P es σ h) fun xs => match xs with
    | [x] => (bi1 f x).map .ok
    | [x, y] => (bi2 f x y).map .ok
    | _ => none
  | .isi a ts, σ, h => bnd (ev P a σ h) fun x => if hasTy x then ok (.bl (ts.any (isTk P x))) else none
  | .cnt a b, σ, h => bnd (ev P a σ h) fun x => withO (listOf x) fun xs => bnd (ev P b σ h) fun y => (cntOf y xs).map .ok
  | .call f es, σ, h => bnd (evs P es σ h) fun xs => told (P.fn f (argsOf σ es xs) [])
  | .range a b, σ, h => bnd (ev P a σ h) fun x => withO (asInt x) fun i => bnd (ev P b σ h) fun y => withO (asInt y) fun j => if -(2 ^ 62) ≤ i ∧ i < 2 ^ 62 ∧ -(2 ^ 62) ≤ j ∧ j < 2 ^ 62 ∧ (j - i).toNat ≤ big then ok (.lst (rangeP i (j - i).toNat)) else none
  | .zip a b, σ, h => bnd (ev P a σ h) fun x => bnd (ev P b σ h) fun y => withO (seq2 x y) fun zs => ok (.lst zs)
  | .enum a, σ, h => bnd (ev P a σ h) fun x => withO (listOf x) fun xs => ok (.lst (enumP 0 xs))
  | .comp e t it cs, σ, h => bnd (ev P it σ h) fun x => withO (itemsOf x) fun xs => bnd (calm (compL (fun σ' => bnd (evC P cs σ' h) fun b => if b then bnd (ev P e σ' h) fun y => if flg σ' e = 0 then ok (some y) else none else ok none) t (wipeS σ (slotsT t)) xs)) fun ys => ok (.lst ys)
/-- items, with stars -/
def evs (P : Pg) : List CE → St → OH → R (List PV)
  | [], _, _ => ok []
  | e :: es, σ, h => match e with
    | .star a => bnd (ev P a σ h) fun x => withO (seqOf x) fun ys => bnd (evs P es σ h) fun xs => ok (ys ++ xs)
    | e => bnd (ev P e σ h) fun x => bnd (evs P es σ h) fun xs => ok (x :: xs)
/-- all tests of a comprehension -/
def evC (P : Pg) : List CE → St → OH → R Bool
  | [], _, _ => ok true
  | c :: cs, σ, h => bnd (ev P c σ h) fun x => withO (truth x) fun t => if t then evC P cs σ h else ok false
end
/-- what is walked -/
def evI (P : Pg) (e : CE) (σ : St) (h : OH) : R (List PV) := bnd (ev P e σ h) fun x => withO (itemsOf x) ok
/-- a test -/
def evT (P : Pg) (e : CE) (σ : St) (h : OH) : R Bool := bnd (ev P e σ h) fun x => (truth x).map .ok

/-! ### statements -/
/-- how an argument is handed on: its value; a new object of one's own; an own object as it is -/
inductive AM where
  | v | n | o | c
inductive CS where
  | nope
  | setf (i : Nat) (f : Str) (e : CE)
  | forO (t : TN) (i : Nat) (b : List CS)
  | pass | brk | cont
  | asg (t : TN) (e : CE)
  | new (i : Nat) (e : CE)
  | par (is : List Nat) (ms : List AM) (es : List CE)
  | aug (i : Nat) (o : Op) (e : CE)
  | app (i : Nat) (e : CE)
  | ext (i : Nat) (e : CE)
  | seti (i : Nat) (k v : CE)
  | expr (e : CE)
  | ret (e : CE)
  | retN
  | retO (e : CE)
  | if_ (c : CE) (a b : List CS)
  | for_ (t : TN) (it : CE) (b : List CS)
  | while_ (n : Nat) (c : CE) (b : List CS)
  | raise_ (c : Str)
  | raiseF (c : Str) (e : CE)
  | try_ (b : List CS) (c : Str) (hb : List CS)
  | callS (i : Option Nat) (f : Str) (ms : List AM) (es : List CE)

inductive Fl where
  | nx | ret (s : SV) | bk | ct | exc (x : Exn)
abbrev O := Option (Fl × St × OH)
/-- go on behind a statement -/
def seq (r : O) (k : St → OH → O) : O := match r with
  | some (.nx, σ, h) => k σ h
  | r => r
@[simp] theorem seq_nx (σ : St) (h : OH) (k : St → OH → O) : seq (some (.nx, σ, h)) k = k σ h := rfl
@[simp] theorem seq_ret (s : SV) (σ : St) (h : OH) (k : St → OH → O) : seq (some (.ret s, σ, h)) k = some (.ret s, σ, h) := rfl
@[simp] theorem seq_bk (σ : St) (h : OH) (k : St → OH → O) : seq (some (.bk, σ, h)) k = some (.bk, σ, h) := rfl
@[simp] theorem seq_ct (σ : St) (h : OH) (k : St → OH → O) : seq (some (.ct, σ, h)) k = some (.ct, σ, h) := rfl
@[simp] theorem seq_exc (x : Exn) (σ : St) (h : OH) (k : St → OH → O) : seq (some (.exc x, σ, h)) k = some (.exc x, σ, h) := rfl
@[simp] theorem seq_none (k : St → OH → O) : seq none k = none := rfl
/-- an expression's value, for a statement -/
def val {α : Type} (r : R α) (σ : St) (h : OH) (k : α → O) : O := match r with
  | some (.ok a) => k a
  | some (.error x) => some (.exc x, σ, h)
  | none => none
@[simp] theorem val_ok {α : Type} (a : α) (σ : St) (h : OH) (k : α → O) : val (some (.ok a)) σ h k = k a := rfl
@[simp] theorem val_err {α : Type} (x : Exn) (σ : St) (h : OH) (k : α → O) : val (α := α) (some (.error x)) σ h k = some (.exc x, σ, h) := rfl
@[simp] theorem val_none {α : Type} (σ : St) (h : OH) (k : α → O) : val (α := α) none σ h k = none := rfl

/-- a value as an object of one's own -/
def ownO : PV → Option OO
  | .lst xs => some (.l xs)
  | .dct ks vs => some (.d ks vs)
  | _ => none
def forL (f : St → OH → O) (t : TN) : List PV → St → OH → O
  | [], σ, h => some (.nx, σ, h)
  | x :: xs, σ, h => match bindT t x σ with
    | none => none
    | some σ1 => match f σ1 h with
      | some (.nx, σ2, h2) => forL f t xs σ2 h2
      | some (.ct, σ2, h2) => forL f t xs σ2 h2
      | some (.bk, σ2, h2) => some (.nx, σ2, h2)
      | r => r
def whileL (c : St → OH → R Bool) (f : St → OH → O) : Nat → St → OH → O
  | 0, _, _ => none
  | n + 1, σ, h => val (c σ h) σ h fun b => if b then (match f σ h with
      | some (.nx, σ2, h2) => whileL c f n σ2 h2
      | some (.ct, σ2, h2) => whileL c f n σ2 h2
      | some (.bk, σ2, h2) => some (.nx, σ2, h2)
      | r => r) else some (.nx, σ, h)
/-- over an object of one's own, as it stands at each turn -/
def forLO (f : St → OH → O) (t : TN) (n : Nat) : Nat → Nat → St → OH → O
  | 0, _, _, _ => none
  | g + 1, k, σ, h => match h[n]? with
    | some (.l ys) => (match ys[k]? with
      | none => some (.nx, σ, h)
      | some x => match bindT t x σ with
        | none => none
        | some σ1 => match f σ1 h with
          | some (.nx, σ2, h2) => forLO f t n g (k + 1) σ2 h2
          | some (.ct, σ2, h2) => forLO f t n g (k + 1) σ2 h2
          | some (.bk, σ2, h2) => some (.nx, σ2, h2)
          | r => r)
    | _ => none
def setH (h : OH) (n : Nat) (o : OO) : OH := h.set n o
/-- d[k] = v: in its place, or behind -/
def hasK (k : PV) (ks : List PV) : Bool := ks.any fun x => peq x k
def putVs (k v : PV) : List PV → List PV → List PV
  | x :: xs, y :: ys => (if peq x k then v else y) :: putVs k v xs ys
  | _, _ => []
def putKs (k : PV) (ks : List PV) : List PV := if hasK k ks then ks else ks ++ [k]
def putVv (k v : PV) (ks vs : List PV) : List PV := if hasK k ks then putVs k v ks vs else vs ++ [v]
def setItem (o : OO) (k v : PV) : Option OO := match o, k with
  | .l xs, .int j => (ixN xs.length j).map fun i => .l (xs.set i v)
  | .d ks vs, k => if keyOk k ∧ ks.length < big then some (.d (putKs k ks) (putVv k v ks vs)) else none
  | _, _ => none
def slotR (σ : St) (i : Nat) : Option Nat := match σ[i]? with
  | some (some (.r n)) => some n
  | _ => none
/-- a call whose answer is a new object -/
def toldN (r : R (SV × OH)) : R PV := match r with
  | some (.ok (.r n, h)) => (h[n]?.bind viewO).map .ok
  | some (.error x) => some (.error x)
  | _ => none
def evO (P : Pg) (e : CE) (σ : St) (h : OH) : R PV := match e with
  | .call f es => bnd (evs P es σ h) fun xs => toldN (P.fn f (argsOf σ es xs) [])
  | _ => none
def evP (P : Pg) : List AM → List CE → St → OH → R (List SV × OH)
  | [], [], _, h => ok ([], h)
  | .v :: ms, e :: es, σ, h => bnd (ev P e σ h) fun p => if flg σ e ≤ 1 then bnd (evP P ms es σ h) fun r => ok (.d (decide (flg σ e = 1)) p :: r.1, r.2) else none
  | .n :: ms, e :: es, σ, h => bnd (ev P e σ h) fun p => withO (ownO p) fun o => bnd (evP P ms es σ (h ++ [o])) fun r => ok (.r h.length :: r.1, r.2)
  | .c :: ms, e :: es, σ, h => bnd (evO P e σ h) fun p => withO (ownO p) fun o => bnd (evP P ms es σ (h ++ [o])) fun r => ok (.r h.length :: r.1, r.2)
  | .o :: ms, e :: es, σ, h => match e with
    | .loc i => withO (slotR σ i) fun n => bnd (evP P ms es σ h) fun r => ok (.r n :: r.1, r.2)
    | _ => none
  | _, _, _, _ => none
def storeS : List Nat → List SV → St → Option St
  | [], [], σ => some σ
  | i :: is, s :: ss, σ => storeS is ss (σ.set i (some s))
  | _, _, _ => none

/-- what raises inside a suite stops the evaluator -/
def noExc : O → O
  | some (.exc _, _, _) => none
  | r => r
mutual
def evS (P : Pg) : CS → St → OH → O
  | .nope, _, _ => none
  | .setf i f e, σ, h => match slotR σ i with
    | some n => val (ev P e σ h) σ h fun p => if flg σ e = 0 then (match h[n]? with
      | some (.ins c fs) => (((P.cls c).bind (ixOf f)).bind fun j => if j < fs.length then some j else none).map fun j => (.nx, σ, h.set n (.ins c (fs.set j (some p))))
      | _ => none) else none
    | none => none
  | .forO t i b, σ, h => match slotR σ i with
    | some n => (match h[n]? with
      | some (.l xs) => forLO (evSs P b) t n (xs.length + 1) 0 σ h
      | _ => none)
    | none => none
  | .pass, σ, h => some (.nx, σ, h)
  | .brk, σ, h => some (.bk, σ, h)
  | .cont, σ, h => some (.ct, σ, h)
  | .asg t e, σ, h => val (ev P e σ h) σ h fun p => match t with
    | .nm i => if flg σ e ≤ 1 then some (.nx, σ.set i (some (.d (decide (flg σ e = 1)) p)), h) else none
    | t => if flg σ e = 0 then (bindT t p σ).map fun σ' => (.nx, σ', h) else none
  | .new i e, σ, h => val (ev P e σ h) σ h fun p => (ownO p).map fun o => (.nx, σ.set i (some (.r h.length)), h ++ [o])
  | .par is ms es, σ, h => val (evP P ms es σ h) σ h fun r => (storeS is r.1 σ).map fun σ' => (.nx, σ', r.2)
  | .aug i o e, σ, h => match σ[i]? with
    | some (some (.d _ x)) => val (ev P e σ h) σ h fun y => (augI o x y).map fun j => (.nx, σ.set i (some (.d false (.int j))), h)
    | _ => none
  | .app i e, σ, h => match slotR σ i with
    | some n => (match h[n]? with
      | some (.l xs) => val (ev P e σ h) σ h fun p => if flg σ e = 0 ∧ xs.length < big then some (.nx, σ, h.set n (.l (xs ++ [p]))) else none
      | _ => none)
    | none => none
  | .ext i e, σ, h => match slotR σ i with
    | some n => (match h[n]? with
      | some (.l xs) => val (ev P e σ h) σ h fun p => (listOf p).bind fun ys => if flg σ e = 0 ∧ xs.length + ys.length ≤ big then some (.nx, σ, h.set n (.l (xs ++ ys))) else none
      | _ => none)
    | none => none
  | .seti i k v, σ, h => match slotR σ i with
    | some n => val (ev P v σ h) σ h fun p => val (ev P k σ h) σ h fun q => if flg σ v = 0 then (h[n]?.bind fun o => setItem o q p).map fun o => (.nx, σ, h.set n o) else none
    | none => none
  | .expr e, σ, h => val (ev P e σ h) σ h fun _ => some (.nx, σ, h)
  | .ret e, σ, h => match e with
    | .loc i => (match slotR σ i with
      | some n => some (.ret (.r n), σ, h)
      | none => val (ev P (.loc i) σ h) σ h fun p => if flg σ (.loc i) = 0 then some (.ret (.d false p), σ, h) else none)
    | e => val (ev P e σ h) σ h fun p => if flg σ e = 0 then some (.ret (.d false p), σ, h) else none
  | .retN, σ, h => some (.ret (.d false .non), σ, h)
  | .retO e, σ, h => val (ev P e σ h) σ h fun p => (ownO p).map fun o => (.ret (.r h.length), σ, h ++ [o])
  | .if_ c a b, σ, h => val (evT P c σ h) σ h fun t => if t then evSs P a σ h else evSs P b σ h
  | .for_ t it b, σ, h => val (ev P it σ h) σ h fun x => match itemsOf x with
    | some xs => if flgI σ it ≤ 1 then forL (evSs P b) t xs σ h else none
    | none => none
  | .while_ n c b, σ, h => whileL (evT P c) (evSs P b) n σ h
  | .raise_ c, σ, h => some (.exc ⟨c, none⟩, σ, h)
  | .raiseF c e, σ, h => val (ev P e σ h) σ h fun p => if flg σ e = 0 then some (.exc ⟨c, some p⟩, σ, h) else none
  | .try_ b c hb, σ, h => match evSs P b σ h with
    | some (.exc x, σ', h') => (match P.esub x.cls c with
      | some true => noExc (evSs P hb σ' h')
      | some false => some (.exc x, σ', h')
      | none => none)
    | r => r
  | .callS i f ms es, σ, h => val (evP P ms es σ h) σ h fun r => match P.fn f r.1 r.2 with
    | some (.ok (s, h')) => (match i, s with
      | none, _ => some (.nx, σ, h')
      | some i, .d false p => some (.nx, σ.set i (some (.d false p)), h')
      | some i, .r n => some (.nx, σ.set i (some (.r n)), h')
      | _, _ => none)
    | some (.error x) => none
    | none => none
def evSs (P : Pg) : List CS → St → OH → O
  | [], σ, h => some (.nx, σ, h)
  | s :: ss, σ, h => seq (evS P s σ h) (evSs P ss)
end

/-- a def: its parameters' number, its slots' number, its body, its defaults -/
structure Df where
  ps : Nat
  n : Nat
  body : List CS
  dfl : List PV := []
def start (d : Df) (as : List SV) : St := as.map some ++ List.replicate (d.n - as.length) none
/-- arguments, filled up -/
def fill (d : Df) (as : List SV) : Option (List SV) :=
  if as.length ≤ d.ps ∧ d.ps ≤ as.length + d.dfl.length then some (as ++ (d.dfl.drop (as.length + d.dfl.length - d.ps)).map (SV.d false)) else none
def run (P : Pg) (d : Df) (as : List SV) (h : OH) : R (SV × OH) := match fill d as with
  | none => none
  | some as => match evSs P d.body (start d as) h with
    | some (.nx, _, h') => ok (.d false .non, h')
    | some (.ret s, _, h') => ok (s, h')
    | some (.exc x, _, _) => some (.error x)
    | _ => none
end Ev

set_option Elab.async false
set_option linter.all false
set_option maxRecDepth 100000
/-! Ev1: what the evaluator's values, slots and objects stand for in the layer's abstract heap. -/
namespace Ev
open PySem PySem.Spec PyProof.Rows L2

abbrev Fb := Addr → Prop
/-- a key of a dict as a value -/
def kP : Key → PV
  | .inl i => .int i
  | .inr x => .str x

mutual
/-- the value v is p; no list or dict in it stands at a forbidden address -/
def RV (K : PySem.W.Frag) (H : Hp) (F : Fb) : PV → V → Prop
  | .non, v => v = .non
  | .bl b, v => v = .bl b
  | .int i, v => v = .int i
  | .str s, v => v = .str s
  | .tup xs, v => ∃ a vs, v = .ref a ∧ TqD K H a vs ∧ vs.length ≤ sizeLine ∧ RVs K H F xs vs
  | .lst xs, v => ∃ a vs, v = .ref a ∧ H a = some (.lst vs) ∧ vs.length ≤ sizeLine ∧ ¬ F a ∧ RVs K H F xs vs
  | .dct ks xs, v => ∃ a kvs, v = .ref a ∧ H a = some (.dK kvs) ∧ kvs.length ≤ sizeLine ∧ ¬ F a ∧ ks = kvs.map (fun z => kP z.1) ∧ RVs K H F xs (kvs.map (·.2))
  | .ins c fs, v => ∃ a dx vs ws, v = .ref a ∧ SlX.Slt H a (He.ga K c) dx vs ∧ H dx ≠ none ∧ ¬ F a ∧ ¬ F dx ∧ (∀ (i : Nat) w, ws[i]? = some w → vs[i]? = some (some w)) ∧ RVs K H F fs ws
  | .ty n, v => v = .ty n
  | .cl _, _ => False
def RVs (K : PySem.W.Frag) (H : Hp) (F : Fb) : List PV → List V → Prop
  | [], vs => vs = []
  | p :: ps, vs => ∃ v r, vs = v :: r ∧ RV K H F p v ∧ RVs K H F ps r
end
/-- .. the list or dict itself may stand anywhere -/
def RT (K : PySem.W.Frag) (H : Hp) (F : Fb) : PV → V → Prop
  | .lst xs, v => ∃ a vs, v = .ref a ∧ SqL K H a vs ∧ vs.length ≤ sizeLine ∧ RVs K H F xs vs
  | .dct ks xs, v => ∃ a kvs, v = .ref a ∧ H a = some (.dK kvs) ∧ kvs.length ≤ sizeLine ∧ ks = kvs.map (fun z => kP z.1) ∧ RVs K H F xs (kvs.map (·.2))
  | p, v => RV K H F p v

section
variable {K : PySem.W.Frag} {H H' : Hp} {F F' : Fb}
theorem RV.top : ∀ {p : PV} {v : V}, RV K H F p v → RT K H F p v
  | .non, _, h => h
  | .bl _, _, h => h
  | .int _, _, h => h
  | .str _, _, h => h
  | .tup _, _, h => h
  | .ins _ _, _, h => h
  | .ty _, _, h => h
  | .cl _, _, h => h
  | .lst xs, v, h => by
    obtain ⟨a, vs, e, r, z, _, q⟩ := h
    exact ⟨a, vs, e, .inl (.inl r), z, q⟩
  | .dct ks xs, v, h => by
    obtain ⟨a, vs, e, r, z, _, k, q⟩ := h
    exact ⟨a, vs, e, r, z, k, q⟩
theorem RVs.length : ∀ {ps : List PV} {vs : List V}, RVs K H F ps vs → ps.length = vs.length
  | [], _, h => by
    have e : _ = [] := h
    rw [e]; rfl
  | p :: ps, _, h => by
    obtain ⟨v, r, rfl, _, q⟩ := h
    rw [List.length_cons, List.length_cons, RVs.length q]
theorem RVs.get : ∀ {ps : List PV} {vs : List V} {i : Nat} {p : PV}, RVs K H F ps vs → ps[i]? = some p → ∃ v, vs[i]? = some v ∧ RV K H F p v
  | [], _, _, _, _, e => by simp at e
  | q :: ps, _, 0, p, h, e => by
    obtain ⟨v, r, rfl, hv, _⟩ := h
    have e' : q = p := by simpa using e
    subst e'
    exact ⟨v, rfl, hv⟩
  | q :: ps, _, i + 1, p, h, e => by
    obtain ⟨v, r, rfl, _, hr⟩ := h
    obtain ⟨w, h1, h2⟩ := RVs.get (i := i) hr (by simpa using e)
    exact ⟨w, by simpa using h1, h2⟩
theorem RVs.getV {ps : List PV} {vs : List V} {i : Nat} {v : V} (h : RVs K H F ps vs) (e : vs[i]? = some v) : ∃ p, ps[i]? = some p ∧ RV K H F p v := by
  have hl := h.length
  obtain ⟨hi, _⟩ := List.getElem?_eq_some_iff.mp e
  have e2 : ps[i]? = some ps[i] := List.getElem?_eq_getElem (by omega)
  obtain ⟨w, h1, h2⟩ := h.get e2
  rw [e] at h1; cases h1
  exact ⟨_, e2, h2⟩
theorem RVs.append : ∀ {ps qs : List PV} {vs ws : List V}, RVs K H F ps vs → RVs K H F qs ws → RVs K H F (ps ++ qs) (vs ++ ws)
  | [], _, _, _, h, h' => by
    have e : _ = [] := h
    rw [e]; exact h'
  | p :: ps, _, _, _, h, h' => by
    obtain ⟨v, r, rfl, hv, hr⟩ := h
    exact ⟨v, _, rfl, hv, hr.append h'⟩
theorem RVs.take : ∀ {ps : List PV} {vs : List V} (n : Nat), RVs K H F ps vs → RVs K H F (ps.take n) (vs.take n)
  | ps, vs, 0, h => by
    rw [List.take_zero, List.take_zero]
    exact (rfl : ([] : List V) = [])
  | [], _, n + 1, h => by
    have e : _ = [] := h
    rw [e]; exact (rfl : ([] : List V) = [])
  | p :: ps, _, n + 1, h => by
    obtain ⟨v, r, rfl, hv, hr⟩ := h
    exact ⟨v, _, rfl, hv, hr.take n⟩
theorem RVs.drop : ∀ {ps : List PV} {vs : List V} (n : Nat), RVs K H F ps vs → RVs K H F (ps.drop n) (vs.drop n)
  | ps, vs, 0, h => h
  | [], _, n + 1, h => by
    have e : _ = [] := h
    rw [e]; exact (rfl : ([] : List V) = [])
  | p :: ps, _, n + 1, h => by
    obtain ⟨v, r, rfl, hv, hr⟩ := h
    exact hr.drop n
theorem RVs.set : ∀ {ps : List PV} {vs : List V} (n : Nat) {p : PV} {v : V}, RVs K H F ps vs → RV K H F p v → RVs K H F (ps.set n p) (vs.set n v)
  | [], _, n, _, _, h, _ => by
    have e : _ = [] := h
    rw [e]; exact (rfl : ([] : List V) = [])
  | q :: ps, _, 0, p, v, h, hp => by
    obtain ⟨w, r, rfl, hv, hr⟩ := h
    exact ⟨v, r, rfl, hp, hr⟩
  | q :: ps, _, n + 1, p, v, h, hp => by
    obtain ⟨w, r, rfl, hv, hr⟩ := h
    exact ⟨w, _, rfl, hv, hr.set n hp⟩
theorem RVs.one {p : PV} {v : V} (h : RV K H F p v) : RVs K H F [p] [v] := ⟨v, [], rfl, h, rfl⟩
theorem RVs.nil : RVs K H F [] [] := rfl
theorem RVs.cons {p : PV} {v : V} {ps : List PV} {vs : List V} (h : RV K H F p v) (t : RVs K H F ps vs) : RVs K H F (p :: ps) (v :: vs) := ⟨v, vs, rfl, h, t⟩

theorem Rd.same (s : Same H H') {a : Addr} {u : HO} (r : Rd H a u) : Rd H' a u := by
  rcases r with r | ⟨o, r⟩
  · exact .inl (s _ _ r)
  · exact .inr ⟨o, s _ _ r⟩
theorem Rd.ne {a : Addr} {u : HO} (r : Rd H a u) : H a ≠ none := by
  rcases r with r | ⟨o, r⟩ <;> (rw [r]; exact fun z => nomatch z)
/-- the heap may change at forbidden addresses, but for tuples and locked things; new forbidden ones were free -/
structure Ext (F : Fb) (H H' : Hp) : Prop where
  keep : ∀ b x, ¬ F b → H b = some x → H' b = some x
  tup : ∀ b xs, H b = some (.tup xs) → H' b = some (.tup xs)
  frz : ∀ b o u, H b = some (.frz o u) → H' b = some (.frz o u)
theorem Ext.refl : Ext F H H := ⟨fun _ _ _ e => e, fun _ _ e => e, fun _ _ _ e => e⟩
theorem Ext.of_same (s : Same H H') : Ext F H H' := ⟨fun b x _ e => s b x e, fun b xs e => s b _ e, fun b o u e => s b _ e⟩
theorem Ext.rd (x : Ext F H H') {a : Addr} {u : HO} (r : Rd H a u) (h : ¬ F a) : Rd H' a u := by
  rcases r with r | ⟨o, r⟩
  · exact .inl (x.keep _ _ h r)
  · exact .inr ⟨o, x.frz _ _ _ r⟩
theorem Ext.sqT (x : Ext F H H') {a : Addr} {vs : List V} (r : SqT K H a vs) : SqT K H' a vs := by
  rcases r with r | r
  · rcases r with r | ⟨o, r⟩
    · exact .inl (.inl (x.tup _ _ r))
    · exact .inl (.inr ⟨o, x.frz _ _ _ r⟩)
  · exact .inr r
theorem Ext.tqD (x : Ext F H H') {a : Addr} {vs : List V} (r : TqD K H a vs) : TqD K H' a vs := by
  rcases r with ⟨o, r, d⟩ | r
  · exact .inl ⟨o, x.frz _ _ _ r, d⟩
  · exact .inr r
/-- the new forbidden addresses were forbidden, or free -/
def Grows (H : Hp) (F F' : Fb) : Prop := ∀ b, F' b → F b ∨ H b = none
theorem Grows.refl : Grows H F F := fun _ h => .inl h
theorem Slt.ne {a C dx : Addr} {vs : List (Option V)} (I : SlX.Slt H a C dx vs) : H a ≠ none := by
  rcases I with ⟨h, _⟩ | ⟨h, _⟩ <;> (rw [h]; exact fun z => nomatch z)
theorem Slt.keep {a C dx : Addr} {vs : List (Option V)} (x : Ext F H H') (na : ¬ F a) (nd : ¬ F dx) (h : SlX.Slt H a C dx vs) : SlX.Slt H' a C dx vs := by
  rcases h with ⟨h1, h2⟩ | ⟨h1, h2⟩
  · exact .inl ⟨x.keep _ _ na h1, h2⟩
  · exact .inr ⟨x.keep _ _ na h1, x.keep _ _ nd h2⟩
mutual
theorem RV.mono (x : Ext F H H') (g : Grows H F F') : ∀ {p : PV} {v : V}, RV K H F p v → RV K H' F' p v
  | .non, _, h => h
  | .bl _, _, h => h
  | .int _, _, h => h
  | .str _, _, h => h
  | .ins c fs, _, h => by
    obtain ⟨a, dx, vs, ws, e, r, hd, na, nd, q, w⟩ := h
    refine ⟨a, dx, vs, ws, e, Slt.keep x na nd r, fun f => ?_, fun f => ?_, fun f => ?_, q, RVs.mono x g w⟩
    · cases z : H dx with
      | none => exact hd z
      | some o => rw [x.keep _ _ nd z] at f; cases f
    · rcases g a f with f | f
      · exact na f
      · exact Slt.ne r f
    · rcases g dx f with f | f
      · exact nd f
      · exact hd f
  | .ty _, _, h => h
  | .cl _, _, h => h
  | .tup xs, v, h => by
    obtain ⟨a, vs, e, r, z, q⟩ := h
    exact ⟨a, vs, e, x.tqD r, z, RVs.mono x g q⟩
  | .lst xs, v, h => by
    obtain ⟨a, vs, e, r, z, nf, q⟩ := h
    refine ⟨a, vs, e, x.keep _ _ nf r, z, fun f => ?_, RVs.mono x g q⟩
    rcases g a f with f | f
    · exact nf f
    · rw [r] at f; cases f
  | .dct ks xs, v, h => by
    obtain ⟨a, vs, e, r, z, nf, k, q⟩ := h
    refine ⟨a, vs, e, x.keep _ _ nf r, z, fun f => ?_, k, RVs.mono x g q⟩
    rcases g a f with f | f
    · exact nf f
    · rw [r] at f; cases f
theorem RVs.mono (x : Ext F H H') (g : Grows H F F') : ∀ {p : List PV} {v : List V}, RVs K H F p v → RVs K H' F' p v
  | [], _, h => h
  | p :: ps, _, h => by
    obtain ⟨v, r, e, hv, hr⟩ := h
    exact ⟨v, r, e, RV.mono x g hv, RVs.mono x g hr⟩
end
theorem RV.same (s : Same H H') {p : PV} {v : V} (h : RV K H F p v) : RV K H' F p v := h.mono (.of_same s) .refl
theorem RVs.same (s : Same H H') {p : List PV} {v : List V} (h : RVs K H F p v) : RVs K H' F p v := h.mono (.of_same s) .refl
theorem SqL.same (s : Same H H') {a : Addr} {vs : List V} (r : SqL K H a vs) : SqL K H' a vs := by
  rcases r with r | r
  · exact .inl (Rd.same s r)
  · exact .inr r
theorem RT.same (s : Same H H') : ∀ {p : PV} {v : V}, RT K H F p v → RT K H' F p v
  | .non, _, h => h
  | .bl _, _, h => h
  | .int _, _, h => h
  | .str _, _, h => h
  | .ins c fs, _, h => RV.same (p := .ins c fs) s h
  | .ty _, _, h => h
  | .cl _, _, h => h
  | .tup xs, v, h => RV.same (p := .tup xs) s h
  | .lst xs, v, h => by
    obtain ⟨a, vs, e, r, z, q⟩ := h
    exact ⟨a, vs, e, SqL.same s r, z, q.same s⟩
  | .dct ks xs, v, h => by
    obtain ⟨a, vs, e, r, z, k, q⟩ := h
    exact ⟨a, vs, e, s _ _ r, z, k, q.same s⟩
/-- .. a tuple that is looked into at once -/
def RI (w : Bool) (K : PySem.W.Frag) (H : Hp) (F : Fb) (p : PV) (v : V) : Prop := RV K H F p v ∨ (w = true ∧ ∃ xs a vs, p = .tup xs ∧ v = .ref a ∧ SqT K H a vs ∧ RVs K H F xs vs)
theorem RI.up {w w' : Bool} {p : PV} {v : V} (h : RI w K H F p v) (u : w = true → w' = true) : RI w' K H F p v := h.imp id fun q => ⟨u q.1, q.2⟩
theorem RI.rv {p : PV} {v : V} (h : RI false K H F p v) : RV K H F p v := by
  rcases h with h | ⟨h, _⟩
  · exact h
  · cases h
/-- forbidden: what callers own, what is one's own -/
def fb (B : Fb) (m : List Addr) : Fb := fun b => B b ∨ b ∈ m
/-- a list among what is kept for good -/
def KL (K : PySem.W.Frag) (a : Addr) (vs : List V) : Prop := SqL K (fun _ => none) a vs
theorem KL.sq {a : Addr} {vs : List V} (h : KL K a vs) : SqL K H a vs := by
  rcases h with h | h
  · rcases h with h | ⟨o, h⟩ <;> cases h
  · exact .inr h
/-- .. a caller's: the list or dict itself is not one's own -/
def RB (K : PySem.W.Frag) (H : Hp) (F : Fb) (m : List Addr) : PV → V → Prop
  | .lst xs, v => ∃ a vs, v = .ref a ∧ ((Rd H a (.lst vs) ∧ a ∉ m) ∨ KL K a vs) ∧ vs.length ≤ sizeLine ∧ RVs K H F xs vs
  | .dct ks xs, v => ∃ a kvs, v = .ref a ∧ H a = some (.dK kvs) ∧ a ∉ m ∧ kvs.length ≤ sizeLine ∧ ks = kvs.map (fun z => kP z.1) ∧ RVs K H F xs (kvs.map (·.2))
  | p, v => RV K H F p v
theorem RB.top {m : List Addr} : ∀ {p : PV} {v : V}, RB K H F m p v → RT K H F p v
  | .non, _, h => h
  | .bl _, _, h => h
  | .int _, _, h => h
  | .str _, _, h => h
  | .tup _, _, h => h
  | .ins _ _, _, h => h
  | .ty _, _, h => h
  | .cl _, _, h => h
  | .lst xs, v, h => by
    obtain ⟨a, vs, e, r, z, q⟩ := h
    refine ⟨a, vs, e, ?_, z, q⟩
    rcases r with r | r
    · exact .inl r.1
    · exact r.sq
  | .dct ks xs, v, h => by
    obtain ⟨a, vs, e, r, _, z, k, q⟩ := h
    exact ⟨a, vs, e, r, z, k, q⟩
theorem RB.same (s : Same H H') {m : List Addr} : ∀ {p : PV} {v : V}, RB K H F m p v → RB K H' F m p v
  | .non, _, h => h
  | .bl _, _, h => h
  | .int _, _, h => h
  | .str _, _, h => h
  | .ins c fs, _, h => RV.same (p := .ins c fs) s h
  | .ty _, _, h => h
  | .cl _, _, h => h
  | .tup xs, v, h => RV.same (p := .tup xs) s h
  | .lst xs, v, h => by
    obtain ⟨a, vs, e, r, z, q⟩ := h
    refine ⟨a, vs, e, ?_, z, q.same s⟩
    rcases r with r | r
    · exact .inl ⟨Rd.same s r.1, r.2⟩
    · exact .inr r
  | .dct ks xs, v, h => by
    obtain ⟨a, vs, e, r, n, z, k, q⟩ := h
    exact ⟨a, vs, e, s _ _ r, n, z, k, q.same s⟩
theorem RV.bor {B : Fb} {m : List Addr} : ∀ {p : PV} {v : V}, RV K H (fb B m) p v → RB K H (fb B m) m p v
  | .non, _, h => h
  | .bl _, _, h => h
  | .int _, _, h => h
  | .str _, _, h => h
  | .tup _, _, h => h
  | .ins _ _, _, h => h
  | .ty _, _, h => h
  | .cl _, _, h => h
  | .lst xs, v, h => by
    obtain ⟨a, vs, e, r, z, nf, q⟩ := h
    exact ⟨a, vs, e, .inl ⟨.inl r, fun w => nf (.inr w)⟩, z, q⟩
  | .dct ks xs, v, h => by
    obtain ⟨a, vs, e, r, z, nf, k, q⟩ := h
    exact ⟨a, vs, e, r, fun w => nf (.inr w), z, k, q⟩
/-- what an expression gives -/
def RF (K : PySem.W.Frag) (H : Hp) (B : Fb) (m : List Addr) (n : Nat) (p : PV) (v : V) : Prop := if n = 0 then RV K H (fb B m) p v else RT K H (fb B m) p v ∧ (n = 1 → RB K H (fb B m) m p v)
section
variable {B : Fb} {m : List Addr}
theorem RF.top {n : Nat} {p : PV} {v : V} (h : RF K H B m n p v) : RT K H (fb B m) p v := by
  unfold RF at h
  split at h
  · exact h.top
  · exact h.1
theorem RF.zero {n : Nat} {p : PV} {v : V} (h : RF K H B m n p v) (e : n = 0) : RV K H (fb B m) p v := by
  unfold RF at h
  rw [if_pos e] at h
  exact h
theorem RF.bor {n : Nat} {p : PV} {v : V} (h : RF K H B m n p v) (e : n ≤ 1) : RB K H (fb B m) m p v := by
  unfold RF at h
  split at h
  · exact h.bor
  · exact h.2 (by omega)
theorem RF.mk {n : Nat} {p : PV} {v : V} (e : n ≠ 0) (h : RT K H (fb B m) p v) (t : n = 1 → RB K H (fb B m) m p v) : RF K H B m n p v := by
  unfold RF
  rw [if_neg e]
  exact ⟨h, t⟩
theorem RF.of {n : Nat} {p : PV} {v : V} (h : RV K H (fb B m) p v) : RF K H B m n p v := by
  unfold RF
  split
  · exact h
  · exact ⟨h.top, fun _ => h.bor⟩
theorem RF.same (s : Same H H') {n : Nat} {p : PV} {v : V} (h : RF K H B m n p v) : RF K H' B m n p v := by
  unfold RF at h ⊢
  split
  · rename_i e; rw [if_pos e] at h; exact h.same s
  · rename_i e; rw [if_neg e] at h; exact ⟨h.1.same s, fun z => (h.2 z).same s⟩
end

/-! ### slots and own objects -/
def RO (K : PySem.W.Frag) (H : Hp) (F : Fb) (m : List Addr) (a : Addr) : OO → Prop
  | .l xs => ∃ vs, H a = some (.lst vs) ∧ vs.length ≤ sizeLine ∧ RVs K H F xs vs
  | .d ks xs => ∃ kvs, H a = some (.dK kvs) ∧ kvs.length ≤ sizeLine ∧ ks = kvs.map (fun z => kP z.1) ∧ RVs K H F xs (kvs.map (·.2))
  | .ins c fs => ∃ dx vs, SlX.Slt H a (He.ga K c) dx vs ∧ (H dx = some (.own a) ∨ H dx = some (.xd [])) ∧ dx ≠ a ∧ dx ∈ m ∧ ∀ (i : Nat) p, fs[i]? = some (some p) → ∃ v, vs[i]? = some (some v) ∧ RV K H F p v
  | .hid => H a ≠ none ∧ (∀ xs, H a ≠ some (.tup xs)) ∧ ∀ ob u, H a ≠ some (.frz ob u)
def RS (K : PySem.W.Frag) (H : Hp) (F : Fb) (m : List Addr) : SV → V → Prop
  | .d false p, v => RV K H F p v
  | .d true p, v => RB K H F m p v
  | .r n, v => ∃ a, m[n]? = some a ∧ v = .ref a
/-- the own objects -/
structure Rh (K : PySem.W.Frag) (H : Hp) (B : Fb) (m : List Addr) (h : OH) : Prop where
  fok : ∀ b, B b → H b ≠ none
  ap : ∀ a ∈ m, ¬ B a
  nd : m.Nodup
  len : m.length = h.length
  obj : ∀ (n : Nat) a o, m[n]? = some a → h[n]? = some o → RO K H (fb B m) m a o
/-- the evaluator's state is the layer's -/
structure Rl (K : PySem.W.Frag) (H : Hp) (B : Fb) (m : List Addr) (σ : St) (h : OH) (τ : L2.St) : Prop extends Rh K H B m h where
  sl : σ.length = τ.length
  slot : ∀ (i : Nat) s, σ[i]? = some (some s) → ∃ v, τ[i]? = some (some v) ∧ RS K H (fb B m) m s v
theorem RO.same (s : Same H H') {m : List Addr} {a : Addr} : ∀ {o : OO}, RO K H F m a o → RO K H' F m a o
  | .l xs, h => by
    obtain ⟨vs, e, z, q⟩ := h
    exact ⟨vs, s _ _ e, z, q.same s⟩
  | .d ks xs, h => by
    obtain ⟨vs, e, z, k, q⟩ := h
    exact ⟨vs, s _ _ e, z, k, q.same s⟩
  | .ins c fs, h => by
    obtain ⟨dx, vs, r, d, n, f, q⟩ := h
    refine ⟨dx, vs, ?_, d.imp (s _ _) (s _ _), n, f, fun i p e => ?_⟩
    · rcases r with ⟨h1, h2⟩ | ⟨h1, h2⟩
      · exact .inl ⟨s _ _ h1, h2⟩
      · exact .inr ⟨s _ _ h1, s _ _ h2⟩
    · obtain ⟨v, h1, h2⟩ := q i p e
      exact ⟨v, h1, h2.same s⟩
  | .hid, h => by
    obtain ⟨h1, h2, h3⟩ := h
    cases e : H a with
    | none => exact absurd e h1
    | some o =>
      have e' := s _ _ e
      refine ⟨(by rw [e']; exact fun z => nomatch z), fun xs z => ?_, fun ob u z => ?_⟩
      · rw [e'] at z; exact h2 xs (by rw [e]; exact z)
      · rw [e'] at z; exact h3 ob u (by rw [e]; exact z)
theorem RS.same (s : Same H H') {m : List Addr} : ∀ {x : SV} {v : V}, RS K H F m x v → RS K H' F m x v
  | .d false p, v, h => RV.same s h
  | .d true p, v, h => RB.same s h
  | .r n, v, h => h
theorem RO.ne {m : List Addr} {a : Addr} : ∀ {o : OO}, RO K H F m a o → H a ≠ none
  | .l xs, h => by
    obtain ⟨vs, e, _⟩ := h
    rw [e]; exact fun z => nomatch z
  | .d ks xs, h => by
    obtain ⟨vs, e, _⟩ := h
    rw [e]; exact fun z => nomatch z
  | .ins _ _, h => by
    obtain ⟨dx, vs, r, _⟩ := h
    exact Slt.ne r
  | .hid, h => h.1
theorem Rh.ne {B : Fb} {m : List Addr} {h : OH} (r : Rh K H B m h) {b : Addr} (f : fb B m b) : H b ≠ none := by
  rcases f with f | f
  · exact r.fok b f
  · obtain ⟨n, hn, e⟩ := List.getElem_of_mem f
    have e1 : m[n]? = some b := by rw [List.getElem?_eq_getElem hn, e]
    have hh : n < h.length := by rw [← r.len]; exact hn
    exact (r.obj n b _ e1 (List.getElem?_eq_getElem hh)).ne
theorem Rh.free {B : Fb} {m : List Addr} {h : OH} (r : Rh K H B m h) {b : Addr} (f : H b = none) : ¬ fb B m b := fun q => r.ne q f
theorem Rh.same {B : Fb} {m : List Addr} {h : OH} (s : Same H H') (r : Rh K H B m h) : Rh K H' B m h where
  fok := fun b f => by
    have q := r.fok b f
    cases e : H b with
    | none => exact absurd e q
    | some x => rw [s _ _ e]; exact fun z => nomatch z
  ap := r.ap
  nd := r.nd
  len := r.len
  obj := fun n a o h1 h2 => (r.obj n a o h1 h2).same s
theorem Rl.same {B : Fb} {m : List Addr} {σ : St} {h : OH} {τ : L2.St} (s : Same H H') (r : Rl K H B m σ h τ) : Rl K H' B m σ h τ where
  toRh := r.toRh.same s
  sl := r.sl
  slot := fun i x e => by
    obtain ⟨v, h1, h2⟩ := r.slot i x e
    exact ⟨v, h1, h2.same s⟩
end
end Ev

set_option Elab.async false
set_option linter.all false
set_option maxRecDepth 100000
/-! Ev2: the evaluator's expressions, over the layer's rules. -/
namespace Ev
open PySem PySem.Spec PyProof.Rows L2

theorem Same.refl {H : Hp} : Same H H := fun _ _ e => e
theorem Same.trans' {H H1 H2 : Hp} (a : Same H H1) (b : Same H1 H2) : Same H H2 := fun x y e => b x y (a x y e)
theorem same_upd {H : Hp} {p : Addr} {o : HO} (h : H p = none) : Same H (upd H p o) := fun b x e => by
  rw [upd_ne (ne_of_none e h)]
  exact e

/-- an exception of one's own: its class, its one field -/
def RX (K : PySem.W.Frag) (mg : Str → Option Value) (H : Hp) (F : Fb) (cls : Value) (d : Option Addr) (x : Exn) : Prop :=
  mg x.cls = some cls ∧ match x.fld with
    | none => d = none
    | some p => ∃ da nm v, d = some da ∧ H da = some (.xd [(nm, v)]) ∧ RV K H F p v
theorem RX.same {K : PySem.W.Frag} {mg : Str → Option Value} {H H' : Hp} {F : Fb} {cls : Value} {d : Option Addr} {x : Exn} (s : Same H H') (h : RX K mg H F cls d x) : RX K mg H' F cls d x := by
  obtain ⟨h1, h2⟩ := h
  refine ⟨h1, ?_⟩
  cases e : x.fld with
  | none => rw [e] at h2; exact h2
  | some p =>
    rw [e] at h2
    obtain ⟨da, nm, v, e1, e2, r⟩ := h2
    exact ⟨da, nm, v, e1, s _ _ e2, r.same s⟩

section
variable (K : PySem.W.Frag) (mg : Str → Option Value) (W : WX) (B : Fb) (m : List Addr) (τ : L2.St)
/-- what is wanted of an answer -/
def Gd {α β : Type} (rel : Hp → α → β → Prop) (H : Hp) (r : R α) (Q : β → Hp → Prop) : Prop := match r with
  | some (.ok p) => ∀ v H', Same H H' → rel H' p v → Q v H'
  | some (.error x) => ∀ cls d H', Same H H' → RX K mg H' (fb B m) cls d x → W cls d τ H'
  | none => False
end
section
variable {K : PySem.W.Frag} {mg : Str → Option Value} {W : WX} {B : Fb} {m : List Addr} {τ : L2.St} {α β γ δ : Type} {H H1 : Hp}
theorem Gd.later {rel : Hp → α → β → Prop} {r : R α} {Q : β → Hp → Prop} (s : Same H H1) (g : Gd K mg W B m τ rel H r Q) : Gd K mg W B m τ rel H1 r Q := by
  cases r with
  | none => exact g
  | some r =>
    cases r with
    | ok p => exact fun v H' s' q => g v H' (Same.trans' s s') q
    | error x => exact fun cls d H' s' q => g cls d H' (Same.trans' s s') q
theorem Gd.bnd {rel : Hp → α → β → Prop} {rel' : Hp → γ → δ → Prop} {r : R α} {k : α → R γ} {Q : δ → Hp → Prop} (g : Gd K mg W B m τ rel' H (Ev.bnd r k) Q) :
    Gd K mg W B m τ rel H r (fun v H1 => ∃ p, Same H H1 ∧ rel H1 p v ∧ Gd K mg W B m τ rel' H1 (k p) Q) := by
  cases r with
  | none => exact g
  | some r =>
    cases r with
    | ok p => exact fun v H' s q => ⟨p, s, q, Gd.later s g⟩
    | error x => exact g
theorem Gd.imp {rel : Hp → α → β → Prop} {r : R α} {Q Q' : β → Hp → Prop} (g : Gd K mg W B m τ rel H r Q) (h : ∀ v H', Q v H' → Q' v H') : Gd K mg W B m τ rel H r Q' := by
  cases r with
  | none => exact g
  | some r =>
    cases r with
    | ok p => exact fun v H' s q => h v H' (g v H' s q)
    | error x => exact g
theorem Gd.ok {rel : Hp → α → β → Prop} {p : α} {v : β} {Q : β → Hp → Prop} (g : Gd K mg W B m τ rel H (some (.ok p)) Q) (q : rel H p v) : Q v H := g v H (fun _ _ e => e) q
theorem Gd.new {rel : Hp → α → β → Prop} {p : α} {v : β} {Q : β → Hp → Prop} (g : Gd K mg W B m τ rel H (some (.ok p)) Q) (s : Same H H1) (q : rel H1 p v) : Q v H1 := g v H1 s q
theorem Gd.some {rel : Hp → α → β → Prop} {o : Option α} {Q : β → Hp → Prop} (g : Gd K mg W B m τ rel H (o.map .ok) Q) : ∃ p, o = some p ∧ Gd K mg W B m τ rel H (.some (.ok p)) Q := by
  cases o with
  | none => exact g.elim
  | some p => exact ⟨p, rfl, g⟩
theorem Gd.wo {rel : Hp → α → β → Prop} {o : Option γ} {k : γ → R α} {Q : β → Hp → Prop} (g : Gd K mg W B m τ rel H (withO o k) Q) : ∃ p, o = .some p ∧ Gd K mg W B m τ rel H (k p) Q := by
  cases o with
  | none => exact g.elim
  | some p => exact ⟨p, rfl, g⟩
theorem Gd.ite {rel : Hp → α → β → Prop} {c : Prop} [Decidable c] {r : R α} {Q : β → Hp → Prop} (g : Gd K mg W B m τ rel H (if c then r else none) Q) : c ∧ Gd K mg W B m τ rel H r Q := by
  by_cases h : c
  · rw [if_pos h] at g; exact ⟨h, g⟩
  · rw [if_neg h] at g; exact g.elim
end
/-- an expression's value -/
abbrev rF (K : PySem.W.Frag) (B : Fb) (m : List Addr) (n : Nat) : Hp → PV → V → Prop := fun H p v => RF K H B m n p v
abbrev rB : Hp → Bool → Bool → Prop := fun _ p v => p = v
/-- an expression's reading by the evaluator -/
def tE (K : PySem.W.Frag) (mg : Str → Option Value) (P : Pg) (W : WX) (c : CE) : TE := fun τ H Q => ∃ B m σ h, Rl K H B m σ h τ ∧ Gd K mg W B m τ (rF K B m (flg σ c)) H (ev P c σ h) Q
def tT (K : PySem.W.Frag) (mg : Str → Option Value) (P : Pg) (W : WX) (c : CE) : TT := fun τ H Q => ∃ B m σ h, Rl K H B m σ h τ ∧ Gd K mg W B m τ rB H (evT P c σ h) Q

theorem PE.imp {X : Cx} {e : Expr} {t t' : TE} (h : PE X e t) (i : ∀ σ H Q, t' σ H Q → t σ H Q) : PE X e t' := ⟨fun pins s σ H Q I hw => h.run pins s σ H Q I (i _ _ _ hw)⟩
theorem PT.imp {X : Cx} {e : Expr} {t t' : TT} (h : PT X e t) (i : ∀ σ H Q, t' σ H Q → t σ H Q) : PT X e t' := ⟨fun pins s σ H Q I hw => h.run pins s σ H Q I (i _ _ _ hw)⟩
theorem PW.imp {X : Cx} {e : Expr} {t t' : TT} (h : PW X e t) (i : ∀ σ H Q, t' σ H Q → t σ H Q) : PW X e t' := ⟨fun w pins s σ H Q I hw => h.run w pins s σ H Q I (i _ _ _ hw)⟩
theorem PA.imp {X : Cx} {e : List Expr} {t t' : TA} (h : PA X e t) (i : ∀ σ H Q, t' σ H Q → t σ H Q) : PA X e t' := ⟨fun pos pins s σ H Q I hw => h.run pos pins s σ H Q I (i _ _ _ hw)⟩

theorem OpR.or {X : Cx} {f : Value → Value → Sem Value} {r r' : R2} (h : OpR X f r) (h' : OpR X f r') : OpR X f (fun x y H Q => r x y H Q ∨ r' x y H Q) := by
  intro pins s σ H x y v u Q I rx ry q
  rcases q with q | q
  · exact h pins s σ H x y v u Q I rx ry q
  · exact h' pins s σ H x y v u Q I rx ry q
theorem CallR.or {X : Cx} {f : Value} {r r' : List V → Hp → VK → Prop} (h : CallR X f r) (h' : CallR X f r') : CallR X f (fun xs H Q => r xs H Q ∨ r' xs H Q) := by
  intro pins s σ H xs us Q I rx q
  rcases q with q | q
  · exact h pins s σ H xs us Q I rx q
  · exact h' pins s σ H xs us Q I rx q

/-! ### data -/
mutual
def dat : PV → PyData
  | .non => .none
  | .bl b => .bool b
  | .int i => .int i
  | .str s => .str s
  | .tup xs => .tuple (dats xs)
  | .lst xs => .list (dats xs)
  | .dct _ _ | .ins _ _ | .ty _ | .cl _ => .none
def dats : List PV → List PyData
  | [] => []
  | x :: xs => dat x :: dats xs
end
mutual
theorem peq_dat : ∀ (a b : PV), isData a = true → isData b = true → peq a b = PyData.eqv (dat a) (dat b) := by
  intro a b ha hb
  cases a <;> cases b <;> first
    | (simp only [isData] at ha; exact absurd ha (by decide))
    | (simp only [isData] at hb; exact absurd hb (by decide))
    | (simp only [isData] at ha hb; simp only [peq, dat, PyData.eqv]; done)
    | (simp only [isData] at ha hb; simp only [peq, dat, PyData.eqv]; exact peqs_dat _ _ ha hb)
theorem peqs_dat : ∀ (a b : List PV), areData a = true → areData b = true → peqs a b = PyData.eqvAll (dats a) (dats b)
  | [], [], _, _ => by simp only [peqs, dats, PyData.eqvAll]
  | [], _ :: _, _, _ => by simp only [peqs, dats, PyData.eqvAll]
  | _ :: _, [], _, _ => by simp only [peqs, dats, PyData.eqvAll]
  | x :: xs, y :: ys, ha, hb => by
    simp only [areData, Bool.and_eq_true] at ha hb
    simp only [peqs, dats, PyData.eqvAll, peq_dat x y ha.1 hb.1, peqs_dat xs ys ha.2 hb.2]
end

mutual
theorem lay_dat : ∀ (a : PV), isData a = true → (dat a).canLay0 = true ∧ (dat a).depth = depth a := by
  intro a ha
  cases a <;> first
    | (simp only [isData] at ha; exact absurd ha (by decide))
    | (simp only [isData] at ha; simp only [dat, PyData.canLay0, PyData.depth, depth, and_self]; done)
    | (simp only [isData] at ha; exact ⟨by simp only [dat, PyData.canLay0]; exact ha, by simp only [dat, PyData.depth, depth]⟩)
    | (simp only [isData] at ha
       obtain ⟨h1, h2⟩ := lays_dat _ ha
       exact ⟨by simp only [dat, PyData.canLay0]; exact h1, by simp only [dat, PyData.depth, depth, h2]⟩)
theorem lays_dat : ∀ (a : List PV), areData a = true → PyData.canLayAll0 (dats a) = true ∧ PyData.depthAll (dats a) = depths a
  | [], _ => ⟨rfl, rfl⟩
  | x :: xs, ha => by
    simp only [areData, Bool.and_eq_true] at ha
    obtain ⟨h1, h2⟩ := lay_dat x ha.1
    obtain ⟨h3, h4⟩ := lays_dat xs ha.2
    exact ⟨by simp only [dats, PyData.canLayAll0, h1, h3, Bool.and_self], by simp only [dats, PyData.depthAll, depths, h2, h4]⟩
end
theorem cmpOk_data {p : PV} (h : cmpOk p = true) : isData p = true := (Bool.and_eq_true_iff.mp h).1
theorem shaped_dat {p : PV} (h : cmpOk p = true) : SeqAt.shaped (dat p) = true := by
  obtain ⟨h1, h2⟩ := Bool.and_eq_true_iff.mp h
  obtain ⟨h3, h4⟩ := lay_dat p h1
  unfold SeqAt.shaped
  rw [h3, h4]
  exact h2
section
variable {K : PySem.W.Frag} {H : Hp} {F : Fb}
mutual
theorem RV.dp : ∀ {p : PV} {v : V}, isData p = true → RV K H F p v → Dp K H v (dat p)
  | .non, _, _, h => by cases (show _ = V.non from h); exact .non
  | .bl b, _, _, h => by cases (show _ = V.bl b from h); exact .bl b
  | .int i, _, _, h => by cases (show _ = V.int i from h); exact .int i
  | .str x, _, _, h => by cases (show _ = V.str x from h); exact .str x
  | .tup xs, _, d, h => by
    obtain ⟨a, vs, rfl, r, _, q⟩ := h
    exact .tup r.sq (RVs.dp (by simpa only [isData] using d) q)
  | .lst xs, _, d, h => by
    obtain ⟨a, vs, rfl, r, _, _, q⟩ := h
    exact .lst (.inl (.inl r)) (RVs.dp (by simpa only [isData] using d) q)
  | .dct _ _, _, d, _ => by simp only [isData] at d; cases d
  | .ins _ _, _, d, _ => by simp only [isData] at d; cases d
  | .ty _, _, d, _ => by simp only [isData] at d; cases d
  | .cl _, _, d, _ => by simp only [isData] at d; cases d
theorem RVs.dp : ∀ {p : List PV} {v : List V}, areData p = true → RVs K H F p v → DpAll K H v (dats p)
  | [], _, _, h => by cases (show _ = [] from h); exact .nil
  | p :: ps, _, d, h => by
    obtain ⟨v, r, rfl, hv, hr⟩ := h
    simp only [areData, Bool.and_eq_true] at d
    exact .cons (RV.dp d.1 hv) (RVs.dp d.2 hr)
end
theorem RT.dp {p : PV} {v : V} (d : isData p = true) (h : RT K H F p v) : Dp K H v (dat p) := by
  cases p with
  | lst xs =>
    obtain ⟨a, vs, rfl, r, _, q⟩ := h
    exact .lst r (RVs.dp (by simpa only [isData] using d) q)
  | dct _ _ => simp only [isData] at d; cases d
  | _ => exact RV.dp (F := F) d h
theorem RT.int {i : Int} {v : V} (h : RT K H F (.int i) v) : v = .int i := h
theorem RT.bl {b : Bool} {v : V} (h : RT K H F (.bl b) v) : v = .bl b := h
theorem RT.non {v : V} (h : RT K H F .non v) : v = .non := h
theorem RT.lst {xs : List PV} {v : V} (h : RT K H F (.lst xs) v) : ∃ a vs, v = .ref a ∧ SqL K H a vs ∧ vs.length ≤ sizeLine ∧ RVs K H F xs vs := by
  obtain ⟨a, vs, e, r, z, q⟩ := h
  exact ⟨a, vs, e, r, z, q⟩
theorem RT.tupD {xs : List PV} {v : V} (h : RT K H F (.tup xs) v) : ∃ a vs, v = .ref a ∧ TqD K H a vs ∧ vs.length ≤ sizeLine ∧ RVs K H F xs vs := h
theorem RT.tup {xs : List PV} {v : V} (h : RT K H F (.tup xs) v) : ∃ a vs, v = .ref a ∧ SqT K H a vs ∧ vs.length ≤ sizeLine ∧ RVs K H F xs vs := by
  obtain ⟨a, vs, e, r, z⟩ := h.tupD
  exact ⟨a, vs, e, r.sq, z⟩
end

/-! ### the context -/
/-- what is told once for a def's text: the names by slots, the scope, what is around -/
structure Cok (X : Cx) (N : List Str) (sc : Scope) (W : WX) : Prop where
  hN : X.N = N
  nd : N.Nodup
  scp : X.env.scope = sc
  cal : X.calm = true
  rm : Room 1 X.A
  tk : Takes X W
  fnl : ∀ x, sc.names.lookup x = some .cell → X.fn x = true

section
variable {X : Cx} {N : List Str} {sc : Scope} {W : WX} {P : Pg} {e a b : Expr} {ca cb : CE} {pos : Pos}
theorem flg_cst {σ : St} {p : PV} : flg σ (.cst p) = 0 := rfl
theorem s_cst {p : PV} {v : V} (h : PE X e (tC v)) (hp : ∀ H F, RV X.K H F p v) : PE X e (tE X.K X.mg P W (.cst p)) := by
  refine PE.imp h fun τ H Q ⟨B, m, σ, h, R, g⟩ => ?_
  exact Gd.ok (p := p) (by simpa only [ev] using g) (RF.of (hp _ _))
theorem s_loc {i : Nat} (h : PE X e (tVar i)) : PE X e (tE X.K X.mg P W (.loc i)) := by
  refine PE.imp h fun τ H Q ⟨B, m, σ, h, R, g⟩ => ?_
  simp only [ev] at g
  cases q : σ[i]? with
  | none => rw [q] at g; exact g.elim
  | some o =>
    cases o with
    | none => rw [q] at g; exact g.elim
    | some s =>
      rw [q] at g
      obtain ⟨p, hp, g⟩ := Gd.some g
      obtain ⟨v, hv, rs⟩ := R.slot i s q
      refine ⟨v, hv, Gd.ok g ?_⟩
      cases s with
      | d k p' =>
        have e1 : p' = p := by simpa only [viewS, Option.some.injEq] using hp
        subst e1
        cases k with
        | false => exact RF.of rs
        | true =>
          have e2 : flg σ (.loc i) = 1 := by simp only [flg, q]
          show RF _ _ _ _ (flg σ (.loc i)) _ _
          rw [e2]
          exact RF.mk (by decide) (RB.top rs) fun _ => rs
      | r n =>
        have e2 : flg σ (.loc i) = 2 := by simp only [flg, q]
        show RF _ _ _ _ (flg σ (.loc i)) _ _
        rw [e2]
        refine RF.mk (by decide) ?_ (fun z => by cases z)
        obtain ⟨a, ha, rfl⟩ := rs
        simp only [viewS] at hp
        cases qo : h[n]? with
        | none => rw [qo] at hp; cases hp
        | some o =>
          rw [qo] at hp
          have ro := R.obj n a o ha qo
          cases o with
          | l xs =>
            have e3 : PV.lst xs = p := by simpa only [Option.bind_some, viewO, Option.some.injEq] using hp
            subst e3
            obtain ⟨vs, h1, h2, h3⟩ := ro
            exact ⟨a, vs, rfl, .inl (.inl h1), h2, h3⟩
          | d ks xs =>
            have e3 : PV.dct ks xs = p := by simpa only [Option.bind_some, viewO, Option.some.injEq] using hp
            subst e3
            obtain ⟨vs, h1, h2, h3, h4⟩ := ro
            exact ⟨a, vs, rfl, h1, h2, h3, h4⟩
          | ins c fs => simp only [Option.bind_some, viewO] at hp; cases hp
          | hid => simp only [Option.bind_some, viewO] at hp; cases hp
end
end Ev

set_option Elab.async false
set_option linter.all false
set_option maxRecDepth 100000
/-! Ev3: operators, comparisons, subscripts by values. -/
namespace Ev
open PySem PySem.Spec PyProof.Rows L2
theorem big_eq : big = sizeLine := by decide

section
variable {X : Cx}
/-- a new object's value -/
theorem RV.newLst {K : PySem.W.Frag} {H : Hp} {B : Fb} {m : List Addr} {h : OH} (R : Rh K H B m h) {p : Addr} (np : H p = none) {xs : List PV} {vs : List V} (z : vs.length ≤ sizeLine) (r : RVs K H (fb B m) xs vs) :
    RV K (upd H p (.lst vs)) (fb B m) (.lst xs) (.ref p) := ⟨p, vs, rfl, upd_same, z, R.free np, r.same (same_upd np)⟩
theorem RV.newTup {K : PySem.W.Frag} {H : Hp} {F : Fb} {p : Addr} (np : H p = none) {xs : List PV} {vs : List V} (z : vs.length ≤ sizeLine) (r : RVs K H F xs vs) :
    ∀ o, NoD o → RV K (upd H p (.frz o (.tup vs))) F (.tup xs) (.ref p) := fun o d => ⟨p, vs, rfl, .inl ⟨o, upd_same, d⟩, z, r.same (same_upd np)⟩

/-! ### binary operators -/
def opB : Op → Operator
  | .add => .Add | .sub => .Sub | .mul => .Mult | .fdiv => .FloorDiv | .mod => .Mod
def isLst : PV → Bool
  | .lst _ => true
  | _ => false
/-- the operator on values that are so: a list comes of lists that may be kept -/
def rOp2 (K : PySem.W.Frag) (o : Op) : R2 := fun x y H Q => ∃ B m h p q z, Rh K H B m h ∧ RT K H (fb B m) p x ∧ RT K H (fb B m) q y ∧ op2 o p q = some z ∧
  (isLst z = true → RV K H (fb B m) p x ∧ RV K H (fb B m) q y) ∧ ∀ v H', Same H H' → RV K H' (fb B m) z v → Q v H'
theorem op_add2 : OpR X (binaryOp .Add) (rOp2 X.K .add) := by
  intro pins s σ H x y v u Q I rx ry ⟨B, m, h, p, q, z, R, hp, hq, e, hl, k⟩
  cases p with
  | int i =>
    cases (show x = V.int i from hp)
    cases q with
    | int j =>
      cases (show y = V.int j from hq)
      have e' : PV.int (i + j) = z := by simpa only [op2, Option.some.injEq] using e
      subst e'
      exact op_add pins s σ H _ _ v u Q I rx ry ⟨i, j, rfl, rfl, k _ _ Same.refl rfl⟩
    | bl b =>
      cases (show y = V.bl b from hq)
      have e' : PV.int (i + if b then 1 else 0) = z := by simpa only [op2, Option.some.injEq] using e
      subst e'
      refine op_add_ib pins s σ H _ _ v u Q I rx ry ⟨i, b, rfl, rfl, k _ _ Same.refl ?_⟩
      show V.int _ = V.int _
      cases b <;> rfl
    | _ => simp only [op2] at e; cases e
  | lst xs =>
    cases q with
    | lst ys =>
      simp only [op2] at e
      split at e
      · rename_i hz
        have e' : PV.lst (xs ++ ys) = z := by simpa only [Option.some.injEq] using e
        subst e'
        obtain ⟨⟨a, vs, rfl, ha, za, _, ra⟩, ⟨b, ws, rfl, hb, zb, _, rb⟩⟩ := hl rfl
        have hn : vs.length + ws.length ≤ sizeLine := by rw [← ra.length, ← rb.length, ← big_eq]; exact hz
        refine op_cat pins s σ H _ _ v u Q I rx ry ⟨a, b, vs, ws, rfl, rfl, ha, hb, hn, fun t nt => k _ _ (same_upd nt) ?_⟩
        exact RV.newLst R nt (by rw [List.length_append]; exact hn) (ra.append rb)
      · cases e
    | _ => simp only [op2] at e; cases e
  | tup xs =>
    cases q with
    | tup ys =>
      simp only [op2] at e
      split at e
      · rename_i hz
        have e' : PV.tup (xs ++ ys) = z := by simpa only [Option.some.injEq] using e
        subst e'
        obtain ⟨a, vs, rfl, ha, za, ra⟩ := hp.tupD
        obtain ⟨b, ws, rfl, hb, zb, rb⟩ := hq.tupD
        have hn : vs.length + ws.length ≤ sizeLine := by rw [← ra.length, ← rb.length, ← big_eq]; exact hz
        refine op_catF pins s σ H _ _ v u Q I rx ry ⟨a, b, vs, ws, rfl, rfl, ha.sq, hb.sq, hn, fun e0 => k _ _ Same.refl ?_, fun e0 => k _ _ Same.refl ?_, fun t o nt d => k _ _ (same_upd nt) ?_⟩
        · subst e0
          have : xs = [] := by
            cases xs with
            | nil => rfl
            | cons _ _ => have := ra.length; simp at this
          subst this
          exact ⟨b, ws, rfl, hb, zb, rb⟩
        · subst e0
          have : ys = [] := by
            cases ys with
            | nil => rfl
            | cons _ _ => have := rb.length; simp at this
          subst this
          rw [List.append_nil]
          exact ⟨a, vs, rfl, ha, za, ra⟩
        · exact RV.newTup nt (by rw [List.length_append]; exact hn) (ra.append rb) o d
      · cases e
    | _ => simp only [op2] at e; cases e
  | _ => simp only [op2] at e; cases e
theorem op_int2 {o : Op} {C : Int → Int → Prop} {g : Int → Int → Int} (h : OpR X (binaryOp (opB o)) (rI C fun i j => .int (g i j))) (ho : ∀ p q z, op2 o p q = some z → ∃ i j, p = .int i ∧ q = .int j ∧ C i j ∧ z = .int (g i j)) :
    OpR X (binaryOp (opB o)) (rOp2 X.K o) := by
  intro pins s σ H x y v u Q I rx ry ⟨B, m, hh, p, q, z, R, hp, hq, e, hl, k⟩
  obtain ⟨i, j, rfl, rfl, c, rfl⟩ := ho p q z e
  exact h pins s σ H _ _ v u Q I rx ry ⟨i, j, hp, hq, c, k _ _ Same.refl rfl⟩
theorem op_b2 : ∀ o : Op, OpR X (binaryOp (opB o)) (rOp2 X.K o)
  | .add => op_add2
  | .sub => op_int2 (C := fun _ _ => True) (g := fun i j => i - j) (by
      intro pins s σ H x y v u Q I rx ry ⟨i, j, e1, e2, _, q⟩
      exact op_sub pins s σ H x y v u Q I rx ry ⟨i, j, e1, e2, q⟩) (by
      intro p q z e
      cases p with
      | int i =>
        cases q with
        | int j => exact ⟨i, j, rfl, rfl, trivial, by simpa only [op2, Option.some.injEq] using e.symm⟩
        | _ => simp only [op2] at e; cases e
      | _ => simp only [op2] at e; cases e)
  | .mul => op_int2 (C := CMul) (g := fun i j => i * j) op_mul (by
      intro p q z e
      cases p with
      | int i =>
        cases q with
        | int j =>
          simp only [op2] at e
          split at e
          · rename_i c
            exact ⟨i, j, rfl, rfl, c, by simpa only [Option.some.injEq] using e.symm⟩
          · cases e
        | _ => simp only [op2] at e; cases e
      | _ => simp only [op2] at e; cases e)
  | .fdiv => op_int2 (C := CDiv) (g := fun i j => i / j) op_fdiv (by
      intro p q z e
      cases p with
      | int i =>
        cases q with
        | int j =>
          simp only [op2] at e
          split at e
          · rename_i c
            exact ⟨i, j, rfl, rfl, c, by simpa only [Option.some.injEq] using e.symm⟩
          · cases e
        | _ => simp only [op2] at e; cases e
      | _ => simp only [op2] at e; cases e)
  | .mod => op_int2 (C := fun _ j => 0 < j) (g := fun i j => i % j) op_mod (by
      intro p q z e
      cases p with
      | int i =>
        cases q with
        | int j =>
          simp only [op2] at e
          split at e
          · rename_i c
            exact ⟨i, j, rfl, rfl, c, by simpa only [Option.some.injEq] using e.symm⟩
          · cases e
        | _ => simp only [op2] at e; cases e
      | _ => simp only [op2] at e; cases e)
end

/-! ### comparisons -/
def opC : Cm → CmpOp
  | .eq => .Eq | .ne => .NotEq | .lt => .Lt | .le => .LtE | .gt => .Gt | .ge => .GtE | .isN => .Is | .notN => .IsNot | .in_ => .In | .notIn => .NotIn
def rCm (K : PySem.W.Frag) (o : Cm) : R2 := fun x y H Q => ∃ F p q b, RT K H F p x ∧ RT K H F q y ∧ cm2 o p q = some b ∧ Q (.bl b) H
theorem cmpI_some {f : Int → Int → Bool} {p q : PV} {b : Bool} (e : cmpI f p q = some b) : ∃ i j, p = .int i ∧ q = .int j ∧ b = f i j := by
  cases p with
  | int i =>
    cases q with
    | int j => exact ⟨i, j, rfl, rfl, by simpa only [cmpI, Option.some.injEq] using e.symm⟩
    | _ => simp only [cmpI] at e; cases e
  | _ => simp only [cmpI] at e; cases e
theorem peq_kP (a b : Key) : peq (kP a) (kP b) = decide (a = b) := by
  cases a <;> cases b <;> simp [kP, peq, Bool.beq_eq_decide_eq]
theorem keyOk_kP {p : PV} (h : keyOk p = true) : ∃ k, p = kP k := by
  cases p with
  | int i => exact ⟨.inl i, rfl⟩
  | str x => exact ⟨.inr x, rfl⟩
  | _ => simp [keyOk] at h
theorem kP_kV {K : PySem.W.Frag} {H : Hp} {F : Fb} {k : Key} {v : V} (h : RT K H F (kP k) v) : v = kV k := by
  cases k with
  | inl i => exact h
  | inr x => exact h
theorem hasK_valV (k : Key) : ∀ kvs : List (Key × V), hasK (kP k) (kvs.map fun z => kP z.1) = (valV kvs k).isSome
  | [] => rfl
  | z :: r => by
    show (peq (kP z.1) (kP k) || hasK (kP k) (r.map fun z => kP z.1)) = _
    rw [peq_kP, hasK_valV k r]
    by_cases e : z.1 = k
    · rw [valV_pos e, decide_eq_true e]; rfl
    · rw [valV_neg e, decide_eq_false e]; rfl
theorem inSeq_hasK (x : PV) (ks : List PV) : inSeq x ks = hasK x ks := rfl
theorem lookK_valV {K : PySem.W.Frag} {H : Hp} {F : Fb} (k : Key) : ∀ {kvs : List (Key × V)} {xs : List PV} {p : PV}, RVs K H F xs (kvs.map (·.2)) → lookK (kP k) (kvs.map fun z => kP z.1) xs = some p → ∃ v, valV kvs k = some v ∧ RV K H F p v
  | [], xs, p, _, e => by simp [lookK] at e
  | z :: r, [], p, h, e => by simp [lookK] at e
  | z :: r, x :: xs, p, h, e => by
    obtain ⟨v, r', ev, hv, hr⟩ := h
    have e1 : z.2 = v ∧ r.map (·.2) = r' := by simpa using ev
    obtain ⟨e1, e2⟩ := e1
    subst e1 e2
    simp only [List.map_cons, lookK, peq_kP] at e
    by_cases ek : z.1 = k
    · rw [decide_eq_true ek, if_pos rfl] at e
      have e3 : x = p := by simpa using e
      subst e3
      exact ⟨z.2, valV_pos ek, hv⟩
    · rw [decide_eq_false ek, if_neg (by simp)] at e
      obtain ⟨w, h1, h2⟩ := lookK_valV k hr e
      exact ⟨w, by rw [valV_neg ek]; exact h1, h2⟩
theorem any_dat (d : PV) (hd : isData d = true) : ∀ xs : List PV, areData xs = true → ((dats xs).any fun z => PyData.eqv z (dat d)) = inSeq d xs
  | [], _ => rfl
  | x :: xs, h => by
    simp only [areData, Bool.and_eq_true] at h
    show (PyData.eqv (dat x) (dat d) || (dats xs).any _) = (peq x d || inSeq d xs)
    rw [any_dat d hd xs h.2, peq_dat x d h.1 hd]
section
variable {X : Cx}
theorem op_eqP (hu : X.A.units + 64 < cLine) : OpR X (compareOp .Eq) (rCm X.K .eq) := by
  intro pins s σ H x y v u Q I rx ry ⟨F, p, q, b, hp, hq, e, k⟩
  simp only [cm2] at e
  split at e
  · rename_i c
    obtain ⟨c1, c2⟩ := Bool.and_eq_true_iff.mp c
    refine op_eqD hu pins s σ H x y v u Q I rx ry ⟨dat p, dat q, hp.dp (cmpOk_data c1), hq.dp (cmpOk_data c2), shaped_dat c1, shaped_dat c2, ?_⟩
    rw [← peq_dat p q (cmpOk_data c1) (cmpOk_data c2)]
    rw [Option.some.inj e]
    exact k
  · cases e
theorem op_neP (hu : X.A.units + 64 < cLine) : OpR X (compareOp .NotEq) (rCm X.K .ne) := by
  intro pins s σ H x y v u Q I rx ry ⟨F, p, q, b, hp, hq, e, k⟩
  simp only [cm2] at e
  split at e
  · rename_i c
    obtain ⟨c1, c2⟩ := Bool.and_eq_true_iff.mp c
    refine op_neD hu pins s σ H x y v u Q I rx ry ⟨dat p, dat q, hp.dp (cmpOk_data c1), hq.dp (cmpOk_data c2), shaped_dat c1, shaped_dat c2, ?_⟩
    rw [← peq_dat p q (cmpOk_data c1) (cmpOk_data c2)]
    rw [Option.some.inj e]
    exact k
  · cases e
theorem op_intC {o : Cm} {g : Int → Int → Bool} (h : OpR X (compareOp (opC o)) (rI0 fun i j => .bl (g i j))) (ho : ∀ p q, cm2 o p q = cmpI g p q) : OpR X (compareOp (opC o)) (rCm X.K o) := by
  intro pins s σ H x y v u Q I rx ry ⟨F, p, q, b, hp, hq, e, k⟩
  rw [ho] at e
  obtain ⟨i, j, rfl, rfl, rfl⟩ := cmpI_some e
  exact h pins s σ H x y v u Q I rx ry ⟨i, j, hp, hq, k⟩
theorem non_iff {K : PySem.W.Frag} {H : Hp} {F : Fb} {p : PV} {v : V} (h : RT K H F p v) : decide (v = .non) = isNon p := by
  cases p with
  | non => cases (show v = V.non from h); rfl
  | bl b => cases (show v = V.bl b from h); rfl
  | int b => cases (show v = V.int b from h); rfl
  | str b => cases (show v = V.str b from h); rfl
  | ty b => cases (show v = V.ty b from h); rfl
  | tup xs => obtain ⟨a, vs, rfl, _⟩ := h; rfl
  | lst xs => obtain ⟨a, vs, rfl, _⟩ := h; rfl
  | dct xs ys => obtain ⟨a, vs, rfl, _⟩ := h; rfl
  | ins c fs => obtain ⟨a, dx, vs, ws, rfl, _⟩ := h; rfl
  | cl c => exact h.elim
theorem op_isP : OpR X (compareOp .Is) (rCm X.K .isN) := by
  intro pins s σ H x y v u Q I rx ry ⟨F, p, q, b, hp, hq, e, k⟩
  cases q with
  | non =>
    refine op_isN pins s σ H x y v u Q I rx ry ⟨hq, ?_⟩
    rw [non_iff hp]
    have e' : isNon p = b := by simpa only [cm2, Option.some.injEq] using e
    rw [e']
    exact k
  | _ => simp only [cm2] at e; cases e
theorem op_isNotP : OpR X (compareOp .IsNot) (rCm X.K .notN) := by
  intro pins s σ H x y v u Q I rx ry ⟨F, p, q, b, hp, hq, e, k⟩
  cases q with
  | non =>
    refine op_notN pins s σ H x y v u Q I rx ry ⟨hq, ?_⟩
    rw [non_iff hp]
    have e' : (!isNon p) = b := by simpa only [cm2, Option.some.injEq] using e
    rw [e']
    exact k
  | _ => simp only [cm2] at e; cases e
theorem room_in' {xs : List PV} {p : PV} (hu : X.A.units + 65 < cLine) (hp : cmpOk p = true) : X.A.units + 1 + min (PyData.depthAll (dats xs)) (dat p).depth < cLine := by
  have h1 := SeqAt.depth_of_shaped (shaped_dat hp)
  have h2 : min (PyData.depthAll (dats xs)) (dat p).depth ≤ (dat p).depth := Nat.min_le_right _ _
  omega
theorem isIn_ok (neg : Bool) (hu : X.A.units + 65 < cLine) : OpR X (compareOp (if neg then .NotIn else .In)) (fun x y H Q => ∃ F p q b, RT X.K H F p x ∧ RT X.K H F q y ∧ isIn p q = some b ∧ Q (.bl (if neg then !b else b)) H) := by
  intro pins s σ H x y v u Q I rx ry ⟨F, p, q, b, hp, hq, e, k⟩
  cases q with
  | lst xs =>
    simp only [isIn] at e
    split at e
    · rename_i c
      obtain ⟨c1, c2⟩ := Bool.and_eq_true_iff.mp c
      obtain ⟨as, r1⟩ := Dp.reads I (dat p) x v (hp.dp (cmpOk_data c1)) rx
      obtain ⟨bs, r2⟩ := Dp.reads I (.list (dats xs)) y u (by simpa only [dat] using hq.dp (cmpOk_data c2)) ry
      have hx : areData xs = true := by simpa only [isData] using cmpOk_data c2
      have e' := any_dat p (cmpOk_data c1) xs hx
      have eb : inSeq p xs = b := Option.some.inj e
      cases neg with
      | false => exact SeqAt.in_list_reads r2 r1 (lays_dat xs hx).1 (lay_dat p (cmpOk_data c1)).1 (room_in' hu c1) ⟨.bl _, H, I, rfl, by rw [e', eb]; exact k⟩
      | true => exact SeqAt.notIn_list_reads r2 r1 (lays_dat xs hx).1 (lay_dat p (cmpOk_data c1)).1 (room_in' hu c1) ⟨.bl _, H, I, rfl, by rw [e', eb]; exact k⟩
    · cases e
  | tup xs =>
    simp only [isIn] at e
    split at e
    · rename_i c
      obtain ⟨c1, c2⟩ := Bool.and_eq_true_iff.mp c
      have hx : areData xs = true := by simpa only [isData] using cmpOk_data c2
      obtain ⟨as, r1⟩ := Dp.reads I (dat p) x v (hp.dp (cmpOk_data c1)) rx
      obtain ⟨bs, r2⟩ := Dp.reads I (.tuple (dats xs)) y u (by
        have := hq.dp (p := .tup xs) (by simpa only [isData] using hx)
        simpa only [dat] using this) ry
      have e' := any_dat p (cmpOk_data c1) xs hx
      have eb : inSeq p xs = b := Option.some.inj e
      cases neg with
      | false => exact SeqAt.in_tuple_reads r2 r1 (lays_dat xs hx).1 (lay_dat p (cmpOk_data c1)).1 (room_in' hu c1) ⟨.bl _, H, I, rfl, by rw [e', eb]; exact k⟩
      | true => exact SeqAt.notIn_tuple_reads r2 r1 (lays_dat xs hx).1 (lay_dat p (cmpOk_data c1)).1 (room_in' hu c1) ⟨.bl _, H, I, rfl, by rw [e', eb]; exact k⟩
    · cases e
  | dct ks xs =>
    simp only [isIn] at e
    split at e
    · rename_i c
      obtain ⟨kk, rfl⟩ := keyOk_kP c
      cases kP_kV hp
      obtain ⟨a, kvs, rfl, hr, _, rfl, _⟩ := hq
      cases ry
      have g : DGet H a (kV kk) (valV kvs kk) := .inl ⟨kvs, kk, .inl hr, rfl, rfl⟩
      have eb : (valV kvs kk).isSome = b := by rw [← hasK_valV, ← inSeq_hasK]; exact Option.some.inj e
      cases neg with
      | false => exact d_in (by omega) I g rx fun s' I' => ⟨.bl _, H, I', rfl, by rw [eb]; exact k⟩
      | true => exact d_notIn (by omega) I g rx fun s' I' => ⟨.bl _, H, I', rfl, by rw [eb]; exact k⟩
    · cases e
  | _ => simp only [isIn] at e; cases e
theorem op_cm (hu : X.A.units + 65 < cLine) : ∀ o : Cm, OpR X (compareOp (opC o)) (rCm X.K o)
  | .eq => op_eqP (by omega)
  | .ne => op_neP (by omega)
  | .lt => op_intC (g := fun i j => decide (i < j)) op_lt fun _ _ => rfl
  | .le => op_intC (g := fun i j => decide (i ≤ j)) op_le fun _ _ => rfl
  | .gt => op_intC (g := fun i j => decide (j < i)) op_gt fun _ _ => rfl
  | .ge => op_intC (g := fun i j => decide (j ≤ i)) op_ge fun _ _ => rfl
  | .isN => op_isP
  | .notN => op_isNotP
  | .in_ => by
    intro pins s σ H x y v u Q I rx ry ⟨F, p, q, b, hp, hq, e, k⟩
    exact isIn_ok false hu pins s σ H x y v u Q I rx ry ⟨F, p, q, b, hp, hq, e, k⟩
  | .notIn => by
    intro pins s σ H x y v u Q I rx ry ⟨F, p, q, b, hp, hq, e, k⟩
    have e2 : (isIn p q).map (!·) = some b := by simpa only [cm2] using e
    obtain ⟨b', e3, rfl⟩ := Option.map_eq_some_iff.mp e2
    exact isIn_ok true hu pins s σ H x y v u Q I rx ry ⟨F, p, q, b', hp, hq, e3, k⟩
end
end Ev

set_option Elab.async false
set_option linter.all false
set_option maxRecDepth 100000
/-! Ev4: subscripts, slices, truth, built-in functions by values; expressions. -/
namespace Ev
open PySem PySem.Spec PyProof.Rows L2
section
variable {X : Cx}
def rIdx (K : PySem.W.Frag) : R2 := fun x y H Q => ∃ F p q z, RT K H F p x ∧ RT K H F q y ∧ index p q = some z ∧ ∀ v, RV K H F z v → Q v H
theorem ixN_eq (n : Nat) (i : Int) : Ev.ixN n i = L2.ixN n i := rfl
theorem at_get {K : PySem.W.Frag} {H : Hp} {F : Fb} {xs : List PV} {vs : List V} {j : Int} {z : PV} (r : RVs K H F xs vs) (e : ((Ev.ixN xs.length j).bind fun k => xs[k]?) = some z) : ∃ v, atI vs j = some v ∧ RV K H F z v := by
  obtain ⟨k, e1, e2⟩ := Option.bind_eq_some_iff.mp e
  obtain ⟨v, e3, hv⟩ := r.get e2
  refine ⟨v, ?_, hv⟩
  unfold atI
  rw [← r.length, ← ixN_eq, e1]
  exact e3
theorem ix_dK (hu : X.A.units + 1 < cLine) : IxR X (fun x y H Q => ∃ a v, x = .ref a ∧ DGet H a y (some v) ∧ Q v H) := by
  intro value slice pins s σ H x y v u Q I rx ry ⟨a, w', ex, g, q⟩ hs
  subst ex
  cases rx
  have hT := dict_typeIs I g
  unfold subscriptTail
  refine wpAny_bind ?_
  rw [getitemInPython_of_ne hT.not_modules]
  refine wpAny_bind (wpAny_specialOf hT PySem.F.slot_dict_getitem.lookup ?_)
  have fin : wpAny (model X.prog X.w) X.A (subscripted slice false (.ref a) u) (fun r s3 => wpAny (model X.prog X.w) X.A (letTemporaryGo value (.ref a) r >>= fun _ => pure r) (EP X pins σ Q) X.xe s3) X.xe s := by
    rw [hs]
    exact wpAny_operating (d_getItem hu I g ry fun w2 s3 I3 rw' => wpAny_bind (wpAny_letTemporaryGo (wpAny_pure ⟨w', H, I3, rw', q⟩)))
  first
    | exact wpAny_pure (wpAny_bind fin)
    | exact wpAny_bind (wpAny_pure (wpAny_bind fin))
    | exact wpAny_bind fin
theorem ix_p (hu : X.A.units + 1 < cLine) : IxR X (rIdx X.K) := by
  intro value slice pins s σ H x y v u Q I rx ry ⟨F, p, q, z, hp, hq, e, k⟩ hs
  cases p with
  | lst xs =>
    cases q with
    | int j =>
      obtain ⟨a, vs, rfl, ha, _, r⟩ := hp.lst
      obtain ⟨w', e1, hw⟩ := at_get r (by simpa only [index] using e)
      exact ix_list value slice pins s σ H _ y v u Q I rx ry ⟨a, vs, j, w', rfl, hq, ha, e1, k _ hw⟩ hs
    | _ => simp only [index] at e; cases e
  | tup xs =>
    cases q with
    | int j =>
      obtain ⟨a, vs, rfl, ha, _, r⟩ := hp.tup
      obtain ⟨w', e1, hw⟩ := at_get r (by simpa only [index] using e)
      exact ix_tup value slice pins s σ H _ y v u Q I rx ry ⟨a, vs, j, w', rfl, hq, ha, e1, k _ hw⟩ hs
    | _ => simp only [index] at e; cases e
  | dct ks xs =>
    have e' : (if keyOk q = true then lookK q ks xs else none) = some z := by simpa only [index] using e
    split at e'
    · rename_i c
      obtain ⟨kk, rfl⟩ := keyOk_kP c
      cases kP_kV hq
      obtain ⟨a, kvs, rfl, hr, _, rfl, r⟩ := hp
      obtain ⟨w', e1, hw⟩ := lookK_valV kk r e'
      exact ix_dK hu value slice pins s σ H _ _ v u Q I rx ry ⟨a, w', rfl, .inl ⟨kvs, kk, .inl hr, rfl, e1.symm⟩, k _ hw⟩ hs
    · cases e'
  | _ => simp only [index] at e; cases e
/-! ### slices -/
theorem sEnd_eq (n d : Nat) (o : Option Int) : sEnd n d o = HT.sIx n d o := by cases o <;> rfl
theorem cut_eq {K : PySem.W.Frag} {H : Hp} {F : Fb} {xs : List PV} {vs : List V} (r : RVs K H F xs vs) (lo hi : Option Int) : RVs K H F (cut xs lo hi) (cutV vs lo hi) := by
  unfold cut cutV
  rw [r.length, sEnd_eq, sEnd_eq]
  exact (r.drop _).take _
def rSlc (K : PySem.W.Frag) : V → Option Int → Option Int → Hp → VK → Prop := fun x lo hi H Q => ∃ B m h p z, Rh K H B m h ∧ RT K H (fb B m) p x ∧ slice p lo hi = some z ∧ ∀ v H', Same H H' → RV K H' (fb B m) z v → Q v H'
theorem sl_p : L2.SlR X (rSlc X.K) := by
  intro pins s σ H x v vl vu lo hi sl Q I rx hs pl pu ⟨B, m, h, p, z, R, hp, e, k⟩
  cases p with
  | lst xs =>
    obtain ⟨a, vs, rfl, ha, hz, r⟩ := hp.lst
    have e' : PV.lst (cut xs lo hi) = z := by simpa only [slice, Option.some.injEq] using e
    subst e'
    exact sl_list pins s σ H _ v vl vu lo hi sl Q I rx hs pl pu ⟨a, vs, rfl, ha, fun t nt => k _ _ (same_upd nt) (RV.newLst R nt (Nat.le_trans (cutV_length vs lo hi) hz) (cut_eq r lo hi))⟩
  | tup xs =>
    obtain ⟨a, vs, rfl, ha, hz, r⟩ := hp.tupD
    have e' : PV.tup (cut xs lo hi) = z := by simpa only [slice, Option.some.injEq] using e
    subst e'
    refine sl_tupF pins s σ H _ v vl vu lo hi sl Q I rx hs pl pu ⟨a, vs, rfl, ha.sq, fun ⟨w1, w2⟩ => k _ _ Same.refl ?_, fun t o nt d => k _ _ (same_upd nt) (RV.newTup nt (Nat.le_trans (cutV_length vs lo hi) hz) (cut_eq r lo hi) o d)⟩
    have q := cut_eq r lo hi
    have ec : cutV vs lo hi = vs := by
      unfold cutV
      rw [w1, w2, List.drop_zero, Nat.sub_zero, List.take_length]
    rw [ec] at q
    exact ⟨a, vs, rfl, ha, hz, q⟩
  | _ => simp only [slice] at e; cases e
/-! ### truth -/
theorem truth_V {K : PySem.W.Frag} {H : Hp} {F : Fb} {p : PV} {v : V} {b : Bool} (h : RT K H F p v) (e : truth p = some b) : TruV K v H b := by
  cases p with
  | non => cases (show v = V.non from h); simp only [truth, Option.some.injEq] at e; exact e.symm
  | bl c => cases (show v = V.bl c from h); simp only [truth, Option.some.injEq] at e; exact e.symm
  | int i => cases (show v = V.int i from h); simp only [truth, Option.some.injEq] at e; exact e.symm
  | lst xs =>
    obtain ⟨a, vs, rfl, ha, _, r⟩ := h.lst
    simp only [truth, Option.some.injEq] at e
    refine .inl ⟨vs, ha, ?_⟩
    rw [← e]
    have := r.length
    cases xs <;> cases vs <;> simp at this ⊢
  | tup xs =>
    obtain ⟨a, vs, rfl, ha, _, r⟩ := h.tup
    simp only [truth, Option.some.injEq] at e
    refine .inr (.inl ⟨vs, ha, ?_⟩)
    rw [← e]
    have := r.length
    cases xs <;> cases vs <;> simp at this ⊢
  | _ => simp only [truth] at e; cases e
/-! ### built-in functions -/
theorem asInts_map {K : PySem.W.Frag} {H : Hp} {F : Fb} : ∀ {xs : List PV} {vs : List V} {ns : List Int}, RVs K H F xs vs → asInts xs = some ns → vs = ns.map V.int
  | [], vs, ns, r, e => by
    cases (show vs = [] from r)
    simp only [asInts, Option.some.injEq] at e
    subst e; rfl
  | x :: xs, vs, ns, r, e => by
    obtain ⟨v, r', rfl, hv, hr⟩ := r
    cases x with
    | int i =>
      simp only [asInts] at e
      obtain ⟨ms, e1, rfl⟩ := Option.map_eq_some_iff.mp e
      cases (show v = V.int i from hv)
      rw [asInts_map hr e1]; rfl
    | _ => simp only [asInts] at e; cases e
theorem RVs.ints {K : PySem.W.Frag} {H : Hp} {F : Fb} : ∀ (ns : List Int), RVs K H F (ns.map PV.int) (ns.map V.int)
  | [] => rfl
  | n :: ns => ⟨_, _, rfl, rfl, RVs.ints ns⟩
theorem asBls_map {K : PySem.W.Frag} {H : Hp} {F : Fb} : ∀ {xs : List PV} {vs : List V} {ns : List Bool}, RVs K H F xs vs → asBls xs = some ns → vs = ns.map V.bl
  | [], vs, ns, r, e => by
    cases (show vs = [] from r)
    simp only [asBls, Option.some.injEq] at e
    subst e; rfl
  | x :: xs, vs, ns, r, e => by
    obtain ⟨v, r', rfl, hv, hr⟩ := r
    cases x with
    | bl i =>
      simp only [asBls] at e
      obtain ⟨ms, e1, rfl⟩ := Option.map_eq_some_iff.mp e
      cases (show v = V.bl i from hv)
      rw [asBls_map hr e1]; rfl
    | _ => simp only [asBls] at e; cases e
theorem insI_perm (x : Int) : ∀ l : List Int, (insI x l).Perm (x :: l)
  | [] => .refl _
  | y :: r => by
    unfold insI
    split
    · exact .refl _
    · exact ((insI_perm x r).cons y).trans (.swap x y r)
theorem sortI_perm : ∀ l : List Int, (sortI l).Perm l
  | [] => .refl _
  | x :: r => (insI_perm x (sortI r)).trans ((sortI_perm r).cons x)
theorem insI_sorted (x : Int) : ∀ {l : List Int}, l.Pairwise (· ≤ ·) → (insI x l).Pairwise (· ≤ ·)
  | [], _ => by simp [insI]
  | y :: r, h => by
    unfold insI
    have hy := List.pairwise_cons.mp h
    split
    · rename_i q
      refine List.pairwise_cons.mpr ⟨fun z hz => ?_, h⟩
      rcases List.mem_cons.mp hz with rfl | hz
      · exact q
      · exact Int.le_trans q (hy.1 z hz)
    · rename_i q
      refine List.pairwise_cons.mpr ⟨fun z hz => ?_, insI_sorted x hy.2⟩
      have hz' : z ∈ x :: r := (insI_perm x r).mem_iff.mp hz
      rcases List.mem_cons.mp hz' with rfl | hz'
      · omega
      · exact hy.1 z hz'
theorem sortI_sorted : ∀ l : List Int, (sortI l).Pairwise (· ≤ ·)
  | [] => .nil
  | x :: r => insI_sorted x (sortI_sorted r)
theorem sorted_unique {a b : List Int} (p : a.Perm b) (ha : a.Pairwise (· ≤ ·)) (hb : b.Pairwise (· ≤ ·)) : a = b :=
  p.eq_of_pairwise (fun x y _ _ h1 h2 => Int.le_antisymm h1 h2) ha hb
theorem maxI_of {ns : List Int} {m : Int} : maxI ns = some m → m ∈ ns ∧ ∀ y ∈ ns, y ≤ m := by
  cases ns with
  | nil => intro e; cases e
  | cons x r =>
    intro e
    have key : ∀ (l : List Int) (a : Int), (l.foldl (fun a b => if b > a then b else a) a = a ∨ l.foldl (fun a b => if b > a then b else a) a ∈ l) ∧ a ≤ l.foldl (fun a b => if b > a then b else a) a ∧ ∀ y ∈ l, y ≤ l.foldl (fun a b => if b > a then b else a) a := by
      intro l
      induction l with
      | nil => intro a; exact ⟨.inl rfl, Int.le_refl _, fun y h => by cases h⟩
      | cons z l ih =>
        intro a
        simp only [List.foldl_cons]
        obtain ⟨h1, h2, h3⟩ := ih (if z > a then z else a)
        refine ⟨?_, ?_, fun y hy => ?_⟩
        · rcases h1 with h1 | h1
          · rw [h1]
            split
            · exact .inr List.mem_cons_self
            · exact .inl rfl
          · exact .inr (List.mem_cons_of_mem _ h1)
        · refine Int.le_trans ?_ h2
          split <;> omega
        · rcases List.mem_cons.mp hy with rfl | hy
          · refine Int.le_trans ?_ h2
            split <;> omega
          · exact h3 y hy
    obtain ⟨h1, h2, h3⟩ := key r x
    have e' : r.foldl (fun a b => if b > a then b else a) x = m := by simpa only [maxI, Option.some.injEq] using e
    rw [e'] at h1 h2 h3
    refine ⟨?_, fun y hy => ?_⟩
    · rcases h1 with h1 | h1
      · rw [h1]; exact List.mem_cons_self
      · exact List.mem_cons_of_mem _ h1
    · rcases List.mem_cons.mp hy with rfl | hy
      · exact h2
      · exact h3 y hy
theorem max_unique {ns : List Int} {a b : Int} (ha : a ∈ ns ∧ ∀ y ∈ ns, y ≤ a) (hb : b ∈ ns) (hb2 : ∀ y, y ∈ ns → y ≤ b) : a = b := Int.le_antisymm (hb2 a ha.1) (ha.2 b hb)
/-- a built-in function of one value -/
def rBi (K : PySem.W.Frag) (f : Bi) : List V → Hp → VK → Prop := fun vs H Q => ∃ B m h p v z, vs = [v] ∧ Rh K H B m h ∧ RT K H (fb B m) p v ∧ bi1 f p = some z ∧ ∀ v H', Same H H' → RV K H' (fb B m) z v → Q v H'
theorem cr_len1 : CallR X (.builtin "len") (rBi X.K .len) := by
  intro pins s σ H xs us Q I r ⟨B, m, h, p, v, z, ex, R, hp, e, k⟩
  subst ex
  cases p with
  | lst ps =>
    obtain ⟨a, vs, rfl, ha, _, rr⟩ := hp.lst
    have e' : PV.int ps.length = z := by simpa only [bi1, Option.some.injEq] using e
    subst e'
    exact call_len_seq pins s σ H _ us Q I r ⟨a, vs, rfl, .inl ha, by rw [← rr.length]; exact k _ _ Same.refl rfl⟩
  | tup ps =>
    obtain ⟨a, vs, rfl, ha, _, rr⟩ := hp.tup
    have e' : PV.int ps.length = z := by simpa only [bi1, Option.some.injEq] using e
    subst e'
    exact call_len_seq pins s σ H _ us Q I r ⟨a, vs, rfl, .inr ha, by rw [← rr.length]; exact k _ _ Same.refl rfl⟩
  | dct ks ps =>
    obtain ⟨a, kvs, rfl, hr, _, ek, rr⟩ := hp
    have e' : PV.int ks.length = z := by simpa only [bi1, Option.some.injEq] using e
    subst e'
    refine call_lenD pins s σ H _ us Q I r ⟨a, kvs, rfl, hr, k _ _ Same.refl ?_⟩
    show V.int _ = V.int _
    rw [ek, List.length_map]
  | _ => simp only [bi1] at e; cases e
theorem cr_int1' : CallR X (.type "int") (rBi X.K .int) := by
  intro pins s σ H xs us Q I r ⟨B, m, h, p, v, z, ex, R, hp, e, k⟩
  subst ex
  cases p with
  | int i =>
    have e' : PV.int i = z := by simpa only [bi1, Option.some.injEq] using e
    subst e'
    exact call_int1 pins s σ H _ us Q I r (.inl ⟨i, by rw [hp.int], k _ _ Same.refl rfl⟩)
  | bl b =>
    have e' : PV.int (if b then 1 else 0) = z := by simpa only [bi1, Option.some.injEq] using e
    subst e'
    exact call_int1 pins s σ H _ us Q I r (.inr ⟨b, by rw [hp.bl], k _ _ Same.refl rfl⟩)
  | _ => simp only [bi1] at e; cases e
theorem cr_abs1 : CallR X (.builtin "abs") (rBi X.K .abs) := by
  intro pins s σ H xs us Q I r ⟨B, m, h, p, v, z, ex, R, hp, e, k⟩
  subst ex
  cases p with
  | int i =>
    have e' : PV.int (if i < 0 then -i else i) = z := by simpa only [bi1, Option.some.injEq] using e
    subst e'
    exact call_abs pins s σ H _ us Q I r ⟨i, by rw [hp.int], k _ _ Same.refl rfl⟩
  | _ => simp only [bi1] at e; cases e
theorem cr_tuple1 : CallR X (.type "tuple") (rBi X.K .tuple) := by
  intro pins s σ H xs us Q I r ⟨B, m, h, p, v, z, ex, R, hp, e, k⟩
  subst ex
  cases p with
  | lst ps =>
    obtain ⟨a, vs, rfl, ha, hz, rr⟩ := hp.lst
    have e' : PV.tup ps = z := by simpa only [bi1, Option.some.injEq] using e
    subst e'
    exact cr_tupF pins s σ H _ us Q I r ⟨a, vs, rfl, .inl ⟨ha, fun l o nl d => k _ _ (same_upd nl) (RV.newTup nl hz rr o d)⟩⟩
  | tup ps =>
    obtain ⟨a, vs, rfl, ha, hz, rr⟩ := hp.tupD
    have e' : PV.tup ps = z := by simpa only [bi1, Option.some.injEq] using e
    subst e'
    exact cr_tupF pins s σ H _ us Q I r ⟨a, vs, rfl, .inr ⟨ha.sq, k _ _ Same.refl ⟨a, vs, rfl, ha, hz, rr⟩⟩⟩
  | _ => simp only [bi1] at e; cases e
theorem cr_list1 : CallR X (.type "list") (rBi X.K .list) := by
  intro pins s σ H xs us Q I r ⟨B, m, h, p, v, z, ex, R, hp, e, k⟩
  subst ex
  cases p with
  | lst ps =>
    obtain ⟨a, vs, rfl, ha, hz, rr⟩ := hp.lst
    have e' : PV.lst ps = z := by simpa only [bi1, Option.some.injEq] using e
    subst e'
    exact call_list_of pins s σ H _ us Q I r ⟨a, vs, rfl, .inl ha, fun l nl => k _ _ (same_upd nl) (RV.newLst R nl hz rr)⟩
  | tup ps =>
    obtain ⟨a, vs, rfl, ha, hz, rr⟩ := hp.tup
    have e' : PV.lst ps = z := by simpa only [bi1, Option.some.injEq] using e
    subst e'
    exact call_list_of pins s σ H _ us Q I r ⟨a, vs, rfl, .inr ha, fun l nl => k _ _ (same_upd nl) (RV.newLst R nl hz rr)⟩
  | _ => simp only [bi1] at e; cases e
theorem cr_sum1 (hc : X.calm = true) : CallR X (.builtin "sum") (rBi X.K .sum) := by
  intro pins s σ H xs us Q I r ⟨B, m, h, p, v, z, ex, R, hp, e, k⟩
  subst ex
  cases p with
  | lst ps =>
    obtain ⟨a, vs, rfl, ha, hz, rr⟩ := hp.lst
    simp only [bi1] at e
    obtain ⟨ns, e1, rfl⟩ := Option.map_eq_some_iff.mp e
    have ev := asInts_map rr e1
    subst ev
    exact cr_sum hc pins s σ H _ us Q I r ⟨a, ns, rfl, ha, k _ _ Same.refl rfl⟩
  | _ => simp only [bi1] at e; cases e
theorem cr_all1 (hc : X.calm = true) : CallR X (.builtin "all") (rBi X.K .all) := by
  intro pins s σ H xs us Q I r ⟨B, m, h, p, v, z, ex, R, hp, e, k⟩
  subst ex
  cases p with
  | lst ps =>
    obtain ⟨a, vs, rfl, ha, hz, rr⟩ := hp.lst
    simp only [bi1] at e
    obtain ⟨ns, e1, rfl⟩ := Option.map_eq_some_iff.mp e
    have ev := asBls_map rr e1
    subst ev
    exact cr_all hc pins s σ H _ us Q I r ⟨a, ns, rfl, ha, k _ _ Same.refl rfl⟩
  | _ => simp only [bi1] at e; cases e
theorem cr_any1 (hc : X.calm = true) : CallR X (.builtin "any") (rBi X.K .any) := by
  intro pins s σ H xs us Q I r ⟨B, m, h, p, v, z, ex, R, hp, e, k⟩
  subst ex
  cases p with
  | lst ps =>
    obtain ⟨a, vs, rfl, ha, hz, rr⟩ := hp.lst
    simp only [bi1] at e
    obtain ⟨ns, e1, rfl⟩ := Option.map_eq_some_iff.mp e
    have ev := asBls_map rr e1
    subst ev
    exact cr_any hc pins s σ H _ us Q I r ⟨a, ns, rfl, ha, k _ _ Same.refl rfl⟩
  | _ => simp only [bi1] at e; cases e
theorem cr_sorted1 : CallR X (.builtin "sorted") (rBi X.K .sorted) := by
  intro pins s σ H xs us Q I r ⟨B, m, h, p, v, z, ex, R, hp, e, k⟩
  subst ex
  cases p with
  | lst ps =>
    obtain ⟨a, vs, rfl, ha, hz, rr⟩ := hp.lst
    simp only [bi1] at e
    obtain ⟨ns, e1, rfl⟩ := Option.map_eq_some_iff.mp e
    have ev := asInts_map rr e1
    subst ev
    refine cr_sortedI pins s σ H _ us Q I r ⟨a, ns, rfl, ha, fun ns' t p1 p2 nt => k _ _ (same_upd nt) ?_⟩
    have en : ns' = sortI ns := sorted_unique (p1.trans (sortI_perm ns).symm) p2 (sortI_sorted ns)
    subst en
    exact RV.newLst R nt (by rw [List.length_map, p1.length_eq]; simpa using hz) (RVs.ints _)
  | _ => simp only [bi1] at e; cases e
theorem cr_max1 (hc : X.calm = true) : CallR X (.builtin "max") (rBi X.K .max) := by
  intro pins s σ H xs us Q I r ⟨B, m, h, p, v, z, ex, R, hp, e, k⟩
  subst ex
  cases p with
  | lst ps =>
    obtain ⟨a, vs, rfl, ha, hz, rr⟩ := hp.lst
    simp only [bi1] at e
    obtain ⟨ns, e1, e2⟩ := Option.bind_eq_some_iff.mp e
    obtain ⟨mm, e3, rfl⟩ := Option.map_eq_some_iff.mp e2
    have ev := asInts_map rr e1
    subst ev
    have hm := maxI_of e3
    refine cr_max hc pins s σ H _ us Q I r ⟨a, ns, rfl, ha, List.length_pos_of_mem hm.1, fun t h1 h2 => k _ _ Same.refl ?_⟩
    rw [max_unique hm h1 h2]
    rfl
  | _ => simp only [bi1] at e; cases e
def biV : Bi → Value
  | .len => .builtin "len" | .int => .type "int" | .sum => .builtin "sum" | .all => .builtin "all" | .any => .builtin "any" | .tuple => .type "tuple" | .list => .type "list"
  | .sorted => .builtin "sorted" | .max => .builtin "max" | .abs => .builtin "abs" | .max2 => .builtin "max" | .min2 => .builtin "min" | .sset => .none | .min => .builtin "min"
def biS : Bi → Str
  | .len => "len" | .int => "int" | .sum => "sum" | .all => "all" | .any => "any" | .tuple => "tuple" | .list => "list"
  | .sorted => "sorted" | .max => "max" | .abs => "abs" | .max2 => "max" | .min2 => "min" | .sset => "set" | .min => "min"
def bi1ok : Bi → Bool
  | .sset | .min | .max2 | .min2 => false
  | _ => true
theorem cr_bi1 (hc : X.calm = true) : ∀ f : Bi, bi1ok f = true → CallR X (biV f) (rBi X.K f)
  | .len, _ => cr_len1
  | .int, _ => cr_int1'
  | .sum, _ => cr_sum1 hc
  | .all, _ => cr_all1 hc
  | .any, _ => cr_any1 hc
  | .tuple, _ => cr_tuple1
  | .list, _ => cr_list1
  | .sorted, _ => cr_sorted1
  | .max, _ => cr_max1 hc
  | .abs, _ => cr_abs1
  | .sset, h => by cases h
  | .min, h => by cases h
  | .max2, h => by cases h
  | .min2, h => by cases h
theorem boot_bi : ∀ f : Bi, bi1ok f = true → bootBuiltins (biS f) = some (biV f) := by
  intro f h
  cases f <;> first | (cases h; done) | decide +kernel
end
end Ev

set_option Elab.async false
set_option linter.all false
set_option maxRecDepth 100000
/-! Ev5: expressions by the evaluator. -/
namespace Ev
open PySem PySem.Spec PyProof.Rows L2

/-! ### a def's promise -/
/-- the arguments -/
def RSs (K : PySem.W.Frag) (H : Hp) (F : Fb) (m : List Addr) : List SV → List V → Prop
  | [], vs => vs = []
  | s :: ss, vs => ∃ v r, vs = v :: r ∧ RS K H F m s v ∧ RSs K H F m ss r
/-- own objects alone have changed -/
structure ExtM (m : List Addr) (H H' : Hp) : Prop where
  keep : ∀ b x, b ∉ m → H b = some x → H' b = some x
  tup : ∀ b xs, H b = some (.tup xs) → H' b = some (.tup xs)
  frz : ∀ b o u, H b = some (.frz o u) → H' b = some (.frz o u)
theorem ExtM.same {H H' : Hp} (x : ExtM [] H H') : Same H H' := fun b y e => x.keep b y (by simp) e
theorem ExtM.of {m : List Addr} {H H' : Hp} (s : Same H H') : ExtM m H H' := ⟨fun b x _ e => s b x e, fun b _ e => s b _ e, fun b _ _ e => s b _ e⟩
def spD (K : PySem.W.Frag) (mg : Str → Option Value) (n : Nat) (D : List SV → OH → R (SV × OH)) : Sp := fun vs H Q E => vs.length = n ∧ ∃ B m as h, Rh K H B m h ∧ RSs K H (fb B m) m as vs ∧ match D as h with
  | none => False
  | some (.ok (s, h')) => ∀ v H' m', m <+: m' → (∀ a ∈ m', a ∈ m ∨ H a = none) → ExtM m H H' → Rh K H' B m' h' → RS K H' (fb B m') m' s v → Q v H'
  | some (.error x) => ∀ cls d H', ExtM m H H' → RX K mg H' (fb B m) cls d x → E cls d H'

/-- what a function at an address gives, and how it may be called -/
structure FnA (X : Cx) (P : Pg) (lv : Nat) (f : Str) (fa : Addr) : Prop where
  ex : ∃ (fd : FuncData) (ps : List Str) (k : Nat), k ≤ lv ∧ FnOk X.prog X.w X.K X.mg X.base (L2.CX X.prog X.w) k fa fd ps (spD X.K X.mg ps.length (P.fn f)) ∧ Binds X.K fd ps [] ∧
    (∀ as h, P.fn f as h ≠ none → as.length = ps.length) ∧ ∀ ds, P.dfl f ds = true → ∃ us dvs, Binds X.K fd ps us ∧ Vals dvs us ∧ ∀ H F, RVs X.K H F ds dvs
/-- a def that may be called -/
structure FnF (X : Cx) (P : Pg) (lv : Nat) (f : Str) : Prop where
  ex : ∃ fa : Addr, FnA X P lv f fa ∧ X.mg f = some (.ref fa) ∧ PySem.W.keepIn X.K (.ref fa) = true
theorem fillD_ok {K : PySem.W.Frag} {P : Pg} {f : Str} {fd : FuncData} {ps : List Str} (hb : Binds K fd ps []) (hd : ∀ ds, P.dfl f ds = true → ∃ us dvs, Binds K fd ps us ∧ Vals dvs us ∧ ∀ H F, RVs K H F ds dvs) (ds : List PV) :
    ∃ us dvs, Binds K fd ps us ∧ Vals dvs us ∧ ∀ as as', fillD P f ds as = some as' → as' = as ++ ds.map (SV.d false) ∧ ∀ H F, RVs K H F ds dvs := by
  cases ds with
  | nil => exact ⟨[], [], hb, .nil, fun as as' e => ⟨by cases e; simp, fun _ _ => rfl⟩⟩
  | cons d ds =>
    by_cases c : P.dfl f (d :: ds) = true
    · obtain ⟨us, dvs, h1, h2, h3⟩ := hd _ c
      refine ⟨us, dvs, h1, h2, fun as as' e => ⟨?_, h3⟩⟩
      simp only [fillD, c, if_true, Option.some.injEq] at e
      exact e.symm
    · refine ⟨[], [], hb, .nil, fun as as' e => ?_⟩
      simp only [fillD, c] at e
      cases e

def bltNames : List Str := ["len", "int", "sum", "all", "any", "tuple", "list", "sorted", "max", "min", "abs", "set", "isinstance", "range", "zip", "enumerate", "bool", "str", "dict"]
/-- what is told once for a def's text -/
structure Ctx (X : Cx) (N : List Str) (sc : Scope) (W : WX) (P : Pg) (lv : Nat) (fns : List Str) : Prop where
  hN : X.N = N
  nd : N.Nodup
  scp : X.env.scope = sc
  cal : X.calm = true
  rm : Room lv X.A
  tk : Takes X W
  fnl : ∀ x, sc.names.lookup x = some .cell → X.fn x = true
  blt : ∀ x ∈ bltNames, X.mg x = none
  fnf : ∀ f ∈ fns, FnF X P lv f
theorem Ctx.u65 {X : Cx} {N : List Str} {sc : Scope} {W : WX} {P : Pg} {lv : Nat} {fns : List Str} (c : Ctx X N sc W P lv fns) : X.A.units + 65 < cLine := by
  have := c.rm.un
  omega

/-! ### arguments -/
def isStarE : CE → Bool
  | .star _ => true
  | _ => false
def RAs (K : PySem.W.Frag) (H : Hp) (B : Fb) (m : List Addr) (σ : St) : List CE → List PV → List V → Prop
  | [], ps, vs => ps = [] ∧ vs = []
  | e :: es, ps, vs => if isStarE e = true then ∃ p1 p2 v1 v2, ps = p1 ++ p2 ∧ vs = v1 ++ v2 ∧ RVs K H (fb B m) p1 v1 ∧ RAs K H B m σ es p2 v2
    else ∃ p r v w, ps = p :: r ∧ vs = v :: w ∧ RF K H B m (flg σ e) p v ∧ RAs K H B m σ es r w
theorem RAs.zero {K : PySem.W.Frag} {H : Hp} {B : Fb} {m : List Addr} {σ : St} : ∀ {es : List CE} {ps : List PV} {vs : List V}, flgs σ es = 0 → RAs K H B m σ es ps vs → RVs K H (fb B m) ps vs
  | [], ps, vs, _, h => by
    obtain ⟨rfl, rfl⟩ := h
    rfl
  | e :: es, ps, vs, z, h => by
    have z' : max (flg σ e) (flgs σ es) = 0 := z
    have z1 : flg σ e = 0 := by omega
    have z2 : flgs σ es = 0 := by omega
    unfold RAs at h
    split at h
    · obtain ⟨p1, p2, v1, v2, rfl, rfl, h1, h2⟩ := h
      exact h1.append (RAs.zero z2 h2)
    · obtain ⟨p, r, v, w, rfl, rfl, h1, h2⟩ := h
      exact RVs.cons (h1.zero z1) (RAs.zero z2 h2)
theorem RAs.same {K : PySem.W.Frag} {H H' : Hp} {B : Fb} {m : List Addr} {σ : St} (s : Same H H') : ∀ {es : List CE} {ps : List PV} {vs : List V}, RAs K H B m σ es ps vs → RAs K H' B m σ es ps vs
  | [], ps, vs, h => h
  | e :: es, ps, vs, h => by
    unfold RAs at h ⊢
    split
    · rename_i c
      rw [if_pos c] at h
      obtain ⟨p1, p2, v1, v2, e1, e2, h1, h2⟩ := h
      exact ⟨p1, p2, v1, v2, e1, e2, h1.same s, RAs.same s h2⟩
    · rename_i c
      rw [if_neg c] at h
      obtain ⟨p, r, v, w, e1, e2, h1, h2⟩ := h
      exact ⟨p, r, v, w, e1, e2, h1.same s, RAs.same s h2⟩
abbrev rA (K : PySem.W.Frag) (B : Fb) (m : List Addr) (σ : St) (es : List CE) : Hp → List PV → List V → Prop := fun H ps vs => RAs K H B m σ es ps vs
def tAs (K : PySem.W.Frag) (mg : Str → Option Value) (P : Pg) (W : WX) (es : List CE) : TA := fun τ H Q => ∃ B m σ h, Rl K H B m σ h τ ∧ Gd K mg W B m τ (rA K B m σ es) H (evs P es σ h) Q
def notStar : Expr → Bool
  | .Starred _ _ => false
  | _ => true
theorem star_no {e : Expr} {es : List Expr} {env : Env} (h : notStar e = true) : starEach (e :: es) env = (false, eval e env) :: starEach es env := by
  cases e <;> first | rfl | cases h
theorem star_any0 : ∀ {es : List Expr} {env : Env} {pos : Pos}, es.all notStar = true → (backTo pos (starEach es env)).any (·.1) = false
  | [], _, _, _ => rfl
  | e :: es, env, pos, h => by
    rw [List.all_cons, Bool.and_eq_true] at h
    rw [star_no h.1]
    have := star_any0 (env := env) (pos := pos) h.2
    simpa [backTo] using this
section
variable {X : Cx} {W : WX} {P : Pg} {a b : Expr} {es : List Expr} {ca cb cc : CE} {ces : List CE} {pos sp_ : Pos}
theorem evs_cons {P : Pg} {e : CE} {es : List CE} {σ : St} {h : OH} (hs : isStarE e = false) : evs P (e :: es) σ h = bnd (ev P e σ h) fun x => bnd (evs P es σ h) fun xs => ok (x :: xs) := by
  cases e <;> first | (cases hs; done) | (simp only [evs])
theorem s_anil : PA X [] (tAs X.K X.mg P W []) := by
  refine PA.imp pa_nil fun τ H Q ⟨B, m, σ, h, R, g⟩ => ?_
  exact Gd.ok (rel := rA X.K B m σ []) (p := []) (v := []) (by simpa only [evs] using g) ⟨rfl, rfl⟩
theorem s_acons (ha : PE X a (tE X.K X.mg P W ca)) (hr : PA X es (tAs X.K X.mg P W ces)) (hn : notStar a = true) (hc : isStarE ca = false) : PA X (a :: es) (tAs X.K X.mg P W (ca :: ces)) := by
  have h0 := pa_cons ha hr (star_no (env := X.env) (es := es) hn)
  refine PA.imp h0 fun τ H Q ⟨B, m, σ, h, R, g⟩ => ?_
  rw [evs_cons hc] at g
  refine ⟨B, m, σ, h, R, Gd.imp (Gd.bnd (rel := rF X.K B m (flg σ ca)) g) fun v H1 ⟨p, s1, r1, g1⟩ => ?_⟩
  refine ⟨B, m, σ, h, R.same s1, Gd.imp (Gd.bnd (rel := rA X.K B m σ ces) g1) fun vs H2 ⟨ps, s2, r2, g2⟩ => ?_⟩
  refine Gd.ok g2 ?_
  show RAs _ _ _ _ _ (ca :: ces) _ _
  unfold RAs
  rw [if_neg (by rw [hc]; exact fun z => nomatch z)]
  exact ⟨p, ps, v, vs, rfl, rfl, RF.same s2 r1, r2⟩
theorem seqV {K : PySem.W.Frag} {H : Hp} {F : Fb} {p : PV} {v : V} {ys : List PV} (h : RT K H F p v) (e : seqOf p = some ys) : ∃ a vs, v = .ref a ∧ (SqT K H a vs ∨ SqL K H a vs) ∧ vs.length ≤ sizeLine ∧ RVs K H F ys vs := by
  cases p with
  | lst xs =>
    obtain ⟨a, vs, e1, ha, hz, r⟩ := h.lst
    cases e
    exact ⟨a, vs, e1, .inr ha, hz, r⟩
  | tup xs =>
    obtain ⟨a, vs, e1, ha, hz, r⟩ := h.tup
    cases e
    exact ⟨a, vs, e1, .inl ha, hz, r⟩
  | _ => simp only [seqOf] at e; cases e
theorem s_astar (ha : PE X a (tE X.K X.mg P W ca)) (hr : PA X es (tAs X.K X.mg P W ces)) : PA X (.Starred a sp_ :: es) (tAs X.K X.mg P W (.star ca :: ces)) := by
  refine PA.imp (StX.pa_star ha hr) fun τ H Q ⟨B, m, σ, h, R, g⟩ => ?_
  simp only [evs] at g
  refine ⟨B, m, σ, h, R, Gd.imp (Gd.bnd (rel := rF X.K B m (flg σ ca)) g) fun v H1 ⟨p, s1, r1, g1⟩ => ?_⟩
  obtain ⟨ys, q, g1⟩ := Gd.wo g1
  obtain ⟨a, vs, rfl, ha, hz, rr⟩ := seqV r1.top q
  refine ⟨a, vs, rfl, ha, B, m, σ, h, R.same s1, Gd.imp (Gd.bnd (rel := rA X.K B m σ ces) g1) fun ws H2 ⟨ps, s2, r2, g2⟩ => ?_⟩
  refine Gd.ok g2 ?_
  show RAs _ _ _ _ _ (.star ca :: ces) _ _
  unfold RAs
  rw [if_pos (show isStarE (CE.star ca) = true from rfl)]
  exact ⟨ys, ps, vs, ws, rfl, rfl, rr.same s2, r2⟩

/-! ### expressions -/
theorem s_tup {k : Nat} (ha : PA X es (tAs X.K X.mg P W ces)) : PE X (.Tuple es k pos) (tE X.K X.mg P W (.tup ces)) := by
  refine PE.imp (pe_tupF ha) fun τ H Q ⟨B, m, σ, h, R, g⟩ => ?_
  simp only [ev] at g
  refine ⟨B, m, σ, h, R, Gd.imp (Gd.bnd (rel := rA X.K B m σ ces) g) fun vs H1 ⟨ps, s1, r1, g1⟩ => ?_⟩
  obtain ⟨⟨c1, c2⟩, g1⟩ := Gd.ite g1
  have r2 := r1.zero c2
  have hz : vs.length ≤ sizeLine := by rw [← r2.length, ← big_eq]; exact c1
  exact ⟨hz, fun t o nt d => Gd.new g1 (same_upd nt) (RF.of (RV.newTup nt hz r2 o d))⟩
theorem s_lst (ha : PA X es (tAs X.K X.mg P W ces)) : PE X (.List es pos) (tE X.K X.mg P W (.lst ces)) := by
  refine PE.imp (pe_lst ha) fun τ H Q ⟨B, m, σ, h, R, g⟩ => ?_
  simp only [ev] at g
  refine ⟨B, m, σ, h, R, Gd.imp (Gd.bnd (rel := rA X.K B m σ ces) g) fun vs H1 ⟨ps, s1, r1, g1⟩ => ?_⟩
  obtain ⟨⟨c1, c2⟩, g1⟩ := Gd.ite g1
  have r2 := r1.zero c2
  have hz : vs.length ≤ sizeLine := by rw [← r2.length, ← big_eq]; exact c1
  exact ⟨hz, fun t nt => Gd.new g1 (same_upd nt) (RF.of (RV.newLst (R.toRh.same s1) nt hz r2))⟩
theorem s_dct0 : PE X (.Dict [] [] pos) (tE X.K X.mg P W .dct0) := by
  refine PE.imp pe_dnewK fun τ H Q ⟨B, m, σ, h, R, g⟩ => ?_
  simp only [ev] at g
  refine fun t nt => Gd.new g (same_upd nt) (RF.of ?_)
  exact ⟨t, [], rfl, upd_same, Nat.zero_le _, R.free nt, rfl, rfl⟩
theorem s_bin {o : Op} (ha : PE X a (tE X.K X.mg P W ca)) (hb : PE X b (tE X.K X.mg P W cb)) : PE X (.BinOp a (opB o) b pos) (tE X.K X.mg P W (.bin o ca cb)) := by
  refine PE.imp (pe_op (op_b2 o) ha hb) fun τ H Q ⟨B, m, σ, h, R, g⟩ => ?_
  simp only [ev] at g
  refine ⟨B, m, σ, h, R, Gd.imp (Gd.bnd (rel := rF X.K B m (flg σ ca)) g) fun x H1 ⟨p, s1, r1, g1⟩ => ?_⟩
  refine ⟨B, m, σ, h, R.same s1, Gd.imp (Gd.bnd (rel := rF X.K B m (flg σ cb)) g1) fun y H2 ⟨q, s2, r2, g2⟩ => ?_⟩
  cases e : op2 o p q with
  | none => rw [e] at g2; exact g2.elim
  | some z =>
    rw [e] at g2
    refine ⟨B, m, h, p, q, z, (R.toRh.same s1).same s2, (RF.same s2 r1).top, r2.top, e, fun hl => ?_, fun v H3 s3 r3 => ?_⟩
    · cases z with
      | lst zs =>
        obtain ⟨⟨c1, c2⟩, _⟩ := Gd.ite g2
        exact ⟨(RF.same s2 r1).zero c1, r2.zero c2⟩
      | _ => cases hl
    · cases z with
      | lst zs =>
        obtain ⟨_, g3⟩ := Gd.ite g2
        exact Gd.new g3 s3 (RF.of r3)
      | _ => exact Gd.new g2 s3 (RF.of r3)
theorem asIntV {K : PySem.W.Frag} {H : Hp} {F : Fb} {p : PV} {v : V} {i : Int} (h : RT K H F p v) (e : asInt p = some i) : v = .int i := by
  cases p with
  | int j => cases e; exact h
  | _ => simp only [asInt] at e; cases e
theorem s_neg (ha : PE X a (tE X.K X.mg P W ca)) : PE X (.UnaryOp .USub a pos) (tE X.K X.mg P W (.neg ca)) := by
  refine PE.imp (pe_un un_neg ha) fun τ H Q ⟨B, m, σ, h, R, g⟩ => ?_
  simp only [ev] at g
  refine ⟨B, m, σ, h, R, Gd.imp (Gd.bnd (rel := rF X.K B m (flg σ ca)) g) fun x H1 ⟨p, s1, r1, g1⟩ => ?_⟩
  obtain ⟨i, e, g1⟩ := Gd.wo g1
  exact ⟨i, asIntV r1.top e, Gd.ok g1 (RF.of rfl)⟩
theorem s_cmp {o : Cm} (hu : X.A.units + 65 < cLine) (ha : PE X a (tE X.K X.mg P W ca)) (hb : PE X b (tE X.K X.mg P W cb)) (hm : behindInMarks (opC o) b = false) : PE X (.Compare a [opC o] [b] pos) (tE X.K X.mg P W (.cmp o ca cb)) := by
  refine PE.imp (pe_cmpR (op_cm hu o) ha hb hm) fun τ H Q ⟨B, m, σ, h, R, g⟩ => ?_
  simp only [ev] at g
  refine ⟨B, m, σ, h, R, Gd.imp (Gd.bnd (rel := rF X.K B m (flg σ ca)) g) fun x H1 ⟨p, s1, r1, g1⟩ => ?_⟩
  refine ⟨B, m, σ, h, R.same s1, Gd.imp (Gd.bnd (rel := rF X.K B m (flg σ cb)) g1) fun y H2 ⟨q, s2, r2, g2⟩ => ?_⟩
  cases e : cm2 o p q with
  | none => rw [e] at g2; exact g2.elim
  | some c =>
    rw [e] at g2
    exact ⟨fb B m, p, q, c, (RF.same s2 r1).top, r2.top, e, Gd.ok (p := PV.bl c) g2 (RF.of rfl)⟩
/-- tests -/
theorem evT_def {c : CE} {σ : St} {h : OH} : evT P c σ h = bnd (ev P c σ h) fun x => (truth x).map .ok := rfl
theorem s_test (ha : PE X a (tE X.K X.mg P W ca)) (he : ∀ whole, isTrue a X.env whole = (do let v ← whole; standAt a.pos; holding [v] (truthy v))) : PT X a (tT X.K X.mg P W ca) := by
  refine PT.imp (pt_truth ha he) fun τ H Q ⟨B, m, σ, h, R, g⟩ => ?_
  rw [evT_def] at g
  refine ⟨B, m, σ, h, R, Gd.imp (Gd.bnd (rel := rF X.K B m (flg σ ca)) g) fun x H1 ⟨p, s1, r1, g1⟩ => ?_⟩
  obtain ⟨c, e, g2⟩ := Gd.some g1
  exact ⟨c, truth_V r1.top e, Gd.ok g2 rfl⟩
theorem s_cmpT {o : Cm} (hu : X.A.units + 65 < cLine) (ha : PE X a (tE X.K X.mg P W ca)) (hb : PE X b (tE X.K X.mg P W cb)) (hm : behindInMarks (opC o) b = false) : PT X (.Compare a [opC o] [b] pos) (tT X.K X.mg P W (.cmp o ca cb)) := by
  refine PT.imp (pt_cmpR (op_cm hu o) ha hb hm) fun τ H Q ⟨B, m, σ, h, R, g⟩ => ?_
  rw [evT_def] at g
  simp only [ev] at g
  refine ⟨B, m, σ, h, R, ?_⟩
  cases qa : ev P ca σ h with
  | none => rw [qa] at g; exact g.elim
  | some ra =>
    cases ra with
    | error x => rw [qa] at g; exact g
    | ok p =>
      rw [qa] at g
      intro x H1 s1 r1
      refine ⟨B, m, σ, h, R.same s1, ?_⟩
      cases qb : ev P cb σ h with
      | none => simp only [bnd_ok, qb, bnd_none] at g; exact g.elim
      | some rb =>
        cases rb with
        | error x => simp only [bnd_ok, qb, bnd_err] at g; exact Gd.later (rel := rB) s1 g
        | ok q =>
          intro y H2 s2 r2
          simp only [bnd_ok, qb] at g
          cases e : cm2 o p q with
          | none => rw [e] at g; exact g.elim
          | some c =>
            rw [e] at g
            refine ⟨fb B m, p, q, c, (RF.same s2 r1).top, r2.top, e, c, rfl, ?_⟩
            exact Gd.ok (p := c) (Gd.later (rel := rB) s2 (Gd.later (rel := rB) s1 g)) rfl
end
end Ev

set_option Elab.async false
set_option linter.all false
set_option maxRecDepth 100000
/-! Ev6: more expressions by the evaluator. -/
namespace Ev
open PySem PySem.Spec PyProof.Rows L2
section
variable {X : Cx} {W : WX} {P : Pg} {a b c : Expr} {es : List Expr} {ca cb cc : CE} {ces : List CE} {pos p2 : Pos}
theorem evT_not {σ : St} {h : OH} : evT P (.not ca) σ h = bnd (evT P ca σ h) fun x => ok !x := by
  simp only [evT, ev]
  cases ev P ca σ h with
  | none => rfl
  | some r =>
    cases r with
    | error x => rfl
    | ok p => simp only [bnd_ok]; cases truth p <;> rfl
theorem evT_and {σ : St} {h : OH} : evT P (.and ca cb) σ h = bnd (evT P ca σ h) fun x => if x then evT P cb σ h else ok false := by
  simp only [evT, ev]
  cases ev P ca σ h with
  | none => rfl
  | some r =>
    cases r with
    | error x => rfl
    | ok p =>
      simp only [bnd_ok]
      cases e : truth p with
      | none => rfl
      | some t =>
        cases t with
        | true => simp
        | false => simp [e]
theorem evT_or {σ : St} {h : OH} : evT P (.or ca cb) σ h = bnd (evT P ca σ h) fun x => if x then ok true else evT P cb σ h := by
  simp only [evT, ev]
  cases ev P ca σ h with
  | none => rfl
  | some r =>
    cases r with
    | error x => rfl
    | ok p =>
      simp only [bnd_ok]
      cases e : truth p with
      | none => rfl
      | some t =>
        cases t with
        | true => simp [e]
        | false => simp
theorem ev_tr {σ : St} {h : OH} {β : Type} {k : Bool → R β} : (bnd (ev P ca σ h) fun x => withO (truth x) k) = bnd (evT P ca σ h) k := by
  simp only [evT]
  cases ev P ca σ h with
  | none => rfl
  | some r =>
    cases r with
    | error x => rfl
    | ok p => simp only [bnd_ok]; cases truth p <;> rfl
theorem s_notT (ha : PT X a (tT X.K X.mg P W ca)) : PT X (.UnaryOp .Not a pos) (tT X.K X.mg P W (.not ca)) := by
  refine PT.imp (pt_not ha) fun τ H Q ⟨B, m, σ, h, R, g⟩ => ?_
  rw [evT_not] at g
  refine ⟨B, m, σ, h, R, Gd.imp (Gd.bnd (rel := rB) g) fun x H1 ⟨p, s1, r1, g1⟩ => ?_⟩
  cases (show p = x from r1)
  exact Gd.ok g1 rfl
theorem s_not (ha : PE X a (tE X.K X.mg P W ca)) : PE X (.UnaryOp .Not a pos) (tE X.K X.mg P W (.not ca)) := by
  refine PE.imp (pe_notT ha) fun τ H Q ⟨B, m, σ, h, R, g⟩ => ?_
  simp only [ev] at g
  refine ⟨B, m, σ, h, R, Gd.imp (Gd.bnd (rel := rF X.K B m (flg σ ca)) g) fun x H1 ⟨p, s1, r1, g1⟩ => ?_⟩
  cases e : truth p with
  | none => rw [e] at g1; exact g1.elim
  | some t =>
    rw [e] at g1
    exact ⟨t, truth_V r1.top e, Gd.ok (p := PV.bl !t) g1 (RF.of rfl)⟩
theorem s_andW {rest : List Expr} (ha : PT X a (tT X.K X.mg P W ca)) (hb : PW X (.BoolOp .And (b :: rest) pos) (tT X.K X.mg P W cb)) : PW X (.BoolOp .And (a :: b :: rest) pos) (tT X.K X.mg P W (.and ca cb)) := by
  refine PW.imp (pw_and ha hb) fun τ H Q ⟨B, m, σ, h, R, g⟩ => ?_
  rw [evT_and] at g
  refine ⟨B, m, σ, h, R, Gd.imp (Gd.bnd (rel := rB) g) fun x H1 ⟨p, s1, r1, g1⟩ => ?_⟩
  cases (show p = x from r1)
  cases x with
  | true => rw [if_pos rfl] at g1 ⊢; exact ⟨B, m, σ, h, R.same s1, g1⟩
  | false => rw [if_neg (by decide)] at g1 ⊢; exact Gd.ok g1 rfl
theorem s_orW {rest : List Expr} (ha : PT X a (tT X.K X.mg P W ca)) (hb : PW X (.BoolOp .Or (b :: rest) pos) (tT X.K X.mg P W cb)) : PW X (.BoolOp .Or (a :: b :: rest) pos) (tT X.K X.mg P W (.or ca cb)) := by
  refine PW.imp (pw_or ha hb) fun τ H Q ⟨B, m, σ, h, R, g⟩ => ?_
  rw [evT_or] at g
  refine ⟨B, m, σ, h, R, Gd.imp (Gd.bnd (rel := rB) g) fun x H1 ⟨p, s1, r1, g1⟩ => ?_⟩
  cases (show p = x from r1)
  cases x with
  | true => rw [if_pos rfl] at g1 ⊢; exact Gd.ok g1 rfl
  | false => rw [if_neg (by decide)] at g1 ⊢; exact ⟨B, m, σ, h, R.same s1, g1⟩
theorem RF.max {K : PySem.W.Frag} {H : Hp} {B : Fb} {m : List Addr} {i j : Nat} {p : PV} {v : V} (h : RF K H B m i p v) : RF K H B m (max i j) p v := by
  by_cases e : i = 0
  · exact RF.of (h.zero e)
  · exact RF.mk (by omega) h.top fun z => h.bor (by omega)
theorem RF.max' {K : PySem.W.Frag} {H : Hp} {B : Fb} {m : List Addr} {i j : Nat} {p : PV} {v : V} (h : RF K H B m j p v) : RF K H B m (Max.max i j) p v := by
  by_cases e : j = 0
  · exact RF.of (h.zero e)
  · exact RF.mk (by omega) h.top fun z => h.bor (by omega)
theorem Gd.rel {K : PySem.W.Frag} {mg : Str → Option Value} {B : Fb} {m : List Addr} {τ : L2.St} {H : Hp} {α β : Type} {rel rel' : Hp → α → β → Prop} {r : R α} {Q : β → Hp → Prop} (g : Gd K mg W B m τ rel H r Q) (h : ∀ H p v, rel' H p v → rel H p v) : Gd K mg W B m τ rel' H r Q := by
  cases r with
  | none => exact g
  | some r =>
    cases r with
    | ok p => exact fun v H' s q => g v H' s (h _ _ _ q)
    | error x => exact g
theorem s_and {rest : List Expr} (ha : PE X a (tE X.K X.mg P W ca)) (hb : PE X (.BoolOp .And (b :: rest) pos) (tE X.K X.mg P W cb)) : PE X (.BoolOp .And (a :: b :: rest) pos) (tE X.K X.mg P W (.and ca cb)) := by
  refine PE.imp (pe_andT ha hb) fun τ H Q ⟨B, m, σ, h, R, g⟩ => ?_
  simp only [ev] at g
  refine ⟨B, m, σ, h, R, Gd.imp (Gd.bnd (rel := rF X.K B m (flg σ ca)) g) fun x H1 ⟨p, s1, r1, g1⟩ => ?_⟩
  obtain ⟨t, e, g1⟩ := Gd.wo g1
  refine ⟨t, truth_V r1.top e, ?_⟩
  cases t with
  | true =>
    rw [if_pos rfl] at g1 ⊢
    exact ⟨B, m, σ, h, R.same s1, g1.rel fun H p v q => RF.max' q⟩
  | false =>
    rw [if_neg (by decide)] at g1 ⊢
    exact Gd.ok g1 (RF.max r1)
theorem s_or {rest : List Expr} (ha : PE X a (tE X.K X.mg P W ca)) (hb : PE X (.BoolOp .Or (b :: rest) pos) (tE X.K X.mg P W cb)) : PE X (.BoolOp .Or (a :: b :: rest) pos) (tE X.K X.mg P W (.or ca cb)) := by
  refine PE.imp (pe_orT ha hb) fun τ H Q ⟨B, m, σ, h, R, g⟩ => ?_
  simp only [ev] at g
  refine ⟨B, m, σ, h, R, Gd.imp (Gd.bnd (rel := rF X.K B m (flg σ ca)) g) fun x H1 ⟨p, s1, r1, g1⟩ => ?_⟩
  obtain ⟨t, e, g1⟩ := Gd.wo g1
  refine ⟨t, truth_V r1.top e, ?_⟩
  cases t with
  | true =>
    rw [if_pos rfl] at g1 ⊢
    exact Gd.ok g1 (RF.max r1)
  | false =>
    rw [if_neg (by decide)] at g1 ⊢
    exact ⟨B, m, σ, h, R.same s1, g1.rel fun H p v q => RF.max' q⟩
theorem s_ite (hc : PT X c (tT X.K X.mg P W cc)) (ha : PE X a (tE X.K X.mg P W ca)) (hb : PE X b (tE X.K X.mg P W cb)) : PE X (.IfExp c a b pos) (tE X.K X.mg P W (.ite cc ca cb)) := by
  refine PE.imp (pe_ifExp hc ha hb) fun τ H Q ⟨B, m, σ, h, R, g⟩ => ?_
  simp only [ev, ev_tr] at g
  refine ⟨B, m, σ, h, R, Gd.imp (Gd.bnd (rel := rB) g) fun x H1 ⟨p, s1, r1, g1⟩ => ?_⟩
  cases (show p = x from r1)
  cases x with
  | true =>
    rw [if_pos rfl] at g1 ⊢
    exact ⟨B, m, σ, h, R.same s1, g1.rel fun H p v q => RF.max q⟩
  | false =>
    rw [if_neg (by decide)] at g1 ⊢
    exact ⟨B, m, σ, h, R.same s1, g1.rel fun H p v q => RF.max' q⟩
theorem s_idx (hu : X.A.units + 1 < cLine) (ha : PE X a (tE X.K X.mg P W ca)) (hb : PE X b (tE X.K X.mg P W cb)) (hs : PlainIx b) : PE X (.Subscript a b pos) (tE X.K X.mg P W (.idx ca cb)) := by
  refine PE.imp (pe_ix (ix_p hu) ha hb hs) fun τ H Q ⟨B, m, σ, h, R, g⟩ => ?_
  simp only [ev] at g
  refine ⟨B, m, σ, h, R, Gd.imp (Gd.bnd (rel := rF X.K B m (flg σ ca)) g) fun x H1 ⟨p, s1, r1, g1⟩ => ?_⟩
  refine ⟨B, m, σ, h, R.same s1, Gd.imp (Gd.bnd (rel := rF X.K B m (flg σ cb)) g1) fun y H2 ⟨q, s2, r2, g2⟩ => ?_⟩
  obtain ⟨z, e, g2⟩ := Gd.some g2
  exact ⟨fb B m, p, q, z, (RF.same s2 r1).top, r2.top, e, fun v hv => Gd.ok g2 (RF.of hv)⟩
theorem s_slL (ha : PE X a (tE X.K X.mg P W ca)) (hb : PE X b (tE X.K X.mg P W cb)) : PE X (.Subscript a (.Slice (some b) none none p2) pos) (tE X.K X.mg P W (.slL ca cb)) := by
  refine PE.imp (pe_slice sl_p ha (po_some hb) po_none) fun τ H Q ⟨B, m, σ, h, R, g⟩ => ?_
  simp only [ev] at g
  refine ⟨B, m, σ, h, R, Gd.imp (Gd.bnd (rel := rF X.K B m (flg σ ca)) g) fun x H1 ⟨p, s1, r1, g1⟩ => ?_⟩
  refine ⟨B, m, σ, h, R.same s1, Gd.imp (Gd.bnd (rel := rF X.K B m (flg σ cb)) g1) fun y H2 ⟨q, s2, r2, g2⟩ => ?_⟩
  obtain ⟨i, ei, g2⟩ := Gd.wo g2
  obtain ⟨z, e, g2⟩ := Gd.some g2
  exact ⟨i, asIntV r2.top ei, B, m, h, p, z, (R.toRh.same s1).same s2, (RF.same s2 r1).top, e, fun v H3 s3 hv => Gd.new g2 s3 (RF.of hv)⟩
theorem s_slU (ha : PE X a (tE X.K X.mg P W ca)) (hb : PE X b (tE X.K X.mg P W cb)) : PE X (.Subscript a (.Slice none (some b) none p2) pos) (tE X.K X.mg P W (.slU ca cb)) := by
  refine PE.imp (pe_slice sl_p ha po_none (po_some hb)) fun τ H Q ⟨B, m, σ, h, R, g⟩ => ?_
  simp only [ev] at g
  refine ⟨B, m, σ, h, R, Gd.imp (Gd.bnd (rel := rF X.K B m (flg σ ca)) g) fun x H1 ⟨p, s1, r1, g1⟩ => ?_⟩
  refine ⟨B, m, σ, h, R.same s1, Gd.imp (Gd.bnd (rel := rF X.K B m (flg σ cb)) g1) fun y H2 ⟨q, s2, r2, g2⟩ => ?_⟩
  obtain ⟨i, ei, g2⟩ := Gd.wo g2
  obtain ⟨z, e, g2⟩ := Gd.some g2
  exact ⟨i, asIntV r2.top ei, B, m, h, p, z, (R.toRh.same s1).same s2, (RF.same s2 r1).top, e, fun v H3 s3 hv => Gd.new g2 s3 (RF.of hv)⟩
theorem s_slN (ha : PE X a (tE X.K X.mg P W ca)) : PE X (.Subscript a (.Slice none none none p2) pos) (tE X.K X.mg P W (.slN ca)) := by
  refine PE.imp (pe_slice sl_p ha po_none po_none) fun τ H Q ⟨B, m, σ, h, R, g⟩ => ?_
  simp only [ev] at g
  refine ⟨B, m, σ, h, R, Gd.imp (Gd.bnd (rel := rF X.K B m (flg σ ca)) g) fun x H1 ⟨p, s1, r1, g1⟩ => ?_⟩
  obtain ⟨z, e, g2⟩ := Gd.some g1
  exact ⟨B, m, h, p, z, R.toRh.same s1, r1.top, e, fun v H3 s3 hv => Gd.new g2 s3 (RF.of hv)⟩
theorem s_slLU (ha : PE X a (tE X.K X.mg P W ca)) (hb : PE X b (tE X.K X.mg P W cb)) (hc : PE X c (tE X.K X.mg P W cc)) : PE X (.Subscript a (.Slice (some b) (some c) none p2) pos) (tE X.K X.mg P W (.slLU ca cb cc)) := by
  refine PE.imp (pe_slice sl_p ha (po_some hb) (po_some hc)) fun τ H Q ⟨B, m, σ, h, R, g⟩ => ?_
  simp only [ev] at g
  refine ⟨B, m, σ, h, R, Gd.imp (Gd.bnd (rel := rF X.K B m (flg σ ca)) g) fun x H1 ⟨p, s1, r1, g1⟩ => ?_⟩
  refine ⟨B, m, σ, h, R.same s1, Gd.imp (Gd.bnd (rel := rF X.K B m (flg σ cb)) g1) fun y H2 ⟨q, s2, r2, g2⟩ => ?_⟩
  obtain ⟨i, ei, g2⟩ := Gd.wo g2
  refine ⟨i, asIntV r2.top ei, B, m, σ, h, (R.same s1).same s2, Gd.imp (Gd.bnd (rel := rF X.K B m (flg σ cc)) g2) fun z H3 ⟨z3, s3, r3, g3⟩ => ?_⟩
  obtain ⟨j, ej, g3⟩ := Gd.wo g3
  obtain ⟨zz, e, g3⟩ := Gd.some g3
  exact ⟨j, asIntV r3.top ej, B, m, h, p, zz, ((R.toRh.same s1).same s2).same s3, (RF.same s3 (RF.same s2 r1)).top, e, fun v H4 s4 hv => Gd.new g3 s4 (RF.of hv)⟩
end
end Ev

set_option Elab.async false
set_option linter.all false
set_option maxRecDepth 100000
/-! Ev7: chains, built-in calls, isinstance, calls of defs. -/
namespace Ev
open PySem PySem.Spec PyProof.Rows L2
section
variable {X : Cx} {W : WX} {P : Pg} {a b c : Expr} {es : List Expr} {ca cb cc : CE} {ces : List CE} {pos p p2 : Pos}
theorem s_chain {o o' : Cm} (hu : X.A.units + 65 < cLine) (ha : PE X a (tE X.K X.mg P W ca)) (hb : PE X b (tE X.K X.mg P W cb)) (hc : PE X c (tE X.K X.mg P W cc)) (hm : lastMarks [opC o, opC o'] [b, c] = false) :
    PE X (.Compare a [opC o, opC o'] [b, c] pos) (tE X.K X.mg P W (.chain o o' ca cb cc)) := by
  refine PE.imp (pe_chain (op_cm hu o) (op_cm hu o') ha hb hc hm) fun τ H Q ⟨B, m, σ, h, R, g⟩ => ?_
  simp only [ev] at g
  refine ⟨B, m, σ, h, R, Gd.imp (Gd.bnd (rel := rF X.K B m (flg σ ca)) g) fun x H1 ⟨p, s1, r1, g1⟩ => ?_⟩
  refine ⟨B, m, σ, h, R.same s1, Gd.imp (Gd.bnd (rel := rF X.K B m (flg σ cb)) g1) fun y H2 ⟨q, s2, r2, g2⟩ => ?_⟩
  obtain ⟨t, e, g2⟩ := Gd.wo g2
  refine ⟨fb B m, p, q, t, (RF.same s2 r1).top, r2.top, e, t, rfl, ?_⟩
  cases t with
  | true =>
    rw [if_pos rfl] at g2 ⊢
    refine ⟨B, m, σ, h, (R.same s1).same s2, Gd.imp (Gd.bnd (rel := rF X.K B m (flg σ cc)) g2) fun z H3 ⟨q3, s3, r3, g3⟩ => ?_⟩
    cases e3 : cm2 o' q q3 with
    | none => rw [e3] at g3; exact g3.elim
    | some c3 =>
      rw [e3] at g3
      exact ⟨fb B m, q, q3, c3, (RF.same s3 r2).top, r3.top, e3, Gd.ok (p := PV.bl c3) g3 (RF.of rfl)⟩
  | false =>
    rw [if_neg (by decide)] at g2 ⊢
    exact Gd.ok g2 (RF.of rfl)
theorem evT_plain {σ : St} {h : OH} : evT P ca σ h = bnd (ev P ca σ h) fun x => (truth x).map .ok := rfl
theorem s_chainT {o o' : Cm} (hu : X.A.units + 65 < cLine) (ha : PE X a (tE X.K X.mg P W ca)) (hb : PE X b (tE X.K X.mg P W cb)) (hc : PE X c (tE X.K X.mg P W cc)) (hm : lastMarks [opC o, opC o'] [b, c] = false) :
    PT X (.Compare a [opC o, opC o'] [b, c] pos) (tT X.K X.mg P W (.chain o o' ca cb cc)) := by
  refine PT.imp (pt_chain (op_cm hu o) (op_cm hu o') ha hb hc hm) fun τ H Q ⟨B, m, σ, h, R, g⟩ => ?_
  have e0 : evT P (.chain o o' ca cb cc) σ h = bnd (ev P ca σ h) fun x => bnd (ev P cb σ h) fun y => withO (cm2 o x y) fun t => if t then bnd (ev P cc σ h) fun z => (cm2 o' y z).map .ok else ok false := by
    simp only [evT, ev]
    cases ev P ca σ h with
    | none => rfl
    | some ra =>
      cases ra with
      | error x => rfl
      | ok pa =>
        simp only [bnd_ok]
        cases ev P cb σ h with
        | none => rfl
        | some rb =>
          cases rb with
          | error x => rfl
          | ok pb =>
            simp only [bnd_ok]
            cases cm2 o pa pb with
            | none => rfl
            | some t =>
              cases t with
              | false => rfl
              | true =>
                simp only [withO_some, if_true]
                cases ev P cc σ h with
                | none => rfl
                | some rc =>
                  cases rc with
                  | error x => rfl
                  | ok pc => simp only [bnd_ok]; cases cm2 o' pb pc <;> rfl
  rw [e0] at g
  refine ⟨B, m, σ, h, R, Gd.imp (Gd.bnd (rel := rF X.K B m (flg σ ca)) g) fun x H1 ⟨p, s1, r1, g1⟩ => ?_⟩
  refine ⟨B, m, σ, h, R.same s1, Gd.imp (Gd.bnd (rel := rF X.K B m (flg σ cb)) g1) fun y H2 ⟨q, s2, r2, g2⟩ => ?_⟩
  obtain ⟨t, e, g2⟩ := Gd.wo g2
  refine ⟨fb B m, p, q, t, (RF.same s2 r1).top, r2.top, e, t, rfl, ?_⟩
  cases t with
  | true =>
    rw [if_pos rfl] at g2 ⊢
    refine ⟨B, m, σ, h, (R.same s1).same s2, Gd.imp (Gd.bnd (rel := rF X.K B m (flg σ cc)) g2) fun z H3 ⟨q3, s3, r3, g3⟩ => ?_⟩
    obtain ⟨c3, e3, g3⟩ := Gd.some g3
    exact ⟨fb B m, q, q3, c3, (RF.same s3 r2).top, r3.top, e3, c3, rfl, Gd.ok g3 rfl⟩
  | false =>
    rw [if_neg (by decide)] at g2 ⊢
    exact ⟨false, rfl, Gd.ok g2 rfl⟩
/-! ### built-in functions -/
theorem mem_blt (f : Bi) : biS f ∈ bltNames := by cases f <;> decide +kernel
theorem bi_ne (f : Bi) : biS f ≠ "__name__" ∧ (biS f == ("__debug__" : Str)) = false := by cases f <;> decide +kernel
theorem RAs.one {K : PySem.W.Frag} {H : Hp} {B : Fb} {m : List Addr} {σ : St} {c : CE} {ps : List PV} {vs : List V} (hc : isStarE c = false) (h : RAs K H B m σ [c] ps vs) : ∃ p v, ps = [p] ∧ vs = [v] ∧ RF K H B m (flg σ c) p v := by
  unfold RAs at h
  rw [if_neg (by rw [hc]; exact fun z => nomatch z)] at h
  obtain ⟨p, r, v, w, rfl, rfl, h1, rfl, rfl⟩ := h
  exact ⟨p, v, rfl, rfl, h1⟩
theorem s_bi {f : Bi} (hf : bi1ok f = true) (hc : X.calm = true) (hg : Gl X (biS f)) (hm : X.mg (biS f) = none) (ha : PA X [a] (tAs X.K X.mg P W [ca])) (hn : notStar a = true) (hs : isStarE ca = false) :
    PE X (.Call (.Name (biS f) p) [a] [] pos) (tE X.K X.mg P W (.bi f [ca])) := by
  have he : starEach [a] X.env = (false, eval a X.env) :: starEach [] X.env := star_no hn
  have key : PE X (.Call (.Name (biS f) p) [a] [] pos) (tCB (rBi X.K f) (tAs X.K X.mg P W [ca])) := by
    have hb := boot_bi f hf
    have cr := cr_bi1 (X := X) hc f hf
    obtain ⟨n1, n2⟩ := bi_ne f
    cases e : biV f with
    | builtin id => rw [e] at hb cr; exact pe_callB cr hg hm hb ha n1 n2 he rfl
    | type T => rw [e] at hb cr; exact pe_callTy cr hg hm hb ha n1 n2 he rfl
    | _ => cases f <;> first | (cases hf; done) | (cases e; done)
  refine PE.imp key fun τ H Q ⟨B, m, σ, h, R, g⟩ => ?_
  simp only [ev] at g
  refine ⟨B, m, σ, h, R, Gd.imp (Gd.bnd (rel := rA X.K B m σ [ca]) g) fun vs H1 ⟨ps, s1, r1, g1⟩ => ?_⟩
  obtain ⟨q, v, rfl, rfl, r2⟩ := RAs.one hs r1
  obtain ⟨z, e, g2⟩ := Gd.some g1
  exact ⟨B, m, h, q, v, z, rfl, R.toRh.same s1, r2.top, e, fun v H3 s3 hv => Gd.new g2 s3 (RF.of hv)⟩
theorem s_bi2 {f : Bi} (hf : f = .max2 ∨ f = .min2) (hc : X.calm = true) (hg : Gl X (biS f)) (hm : X.mg (biS f) = none) (ha : PA X [a, b] (tAs X.K X.mg P W [ca, cb])) (hn : notStar a = true) (hn2 : notStar b = true) (hs : isStarE ca = false) (hs2 : isStarE cb = false) :
    PE X (.Call (.Name (biS f) p) [a, b] [] pos) (tE X.K X.mg P W (.bi f [ca, cb])) := by
  have he : starEach [a, b] X.env = (false, eval a X.env) :: starEach [b] X.env := star_no hn
  have hpl : (backTo pos (starEach [b] X.env)).any (·.1) = false := star_any0 (by simp [hn2])
  obtain ⟨n1, n2⟩ := bi_ne f
  have r2 : ∀ {H : Hp} {B : Fb} {m : List Addr} {σ : St} {ps : List PV} {vs : List V}, RAs X.K H B m σ [ca, cb] ps vs → ∃ p q v w, ps = [p, q] ∧ vs = [v, w] ∧ RF X.K H B m (flg σ ca) p v ∧ RF X.K H B m (flg σ cb) q w := by
    intro H B m σ ps vs h
    unfold RAs at h
    rw [if_neg (by rw [hs]; exact fun z => nomatch z)] at h
    obtain ⟨p, r, v, w, rfl, rfl, h1, h2⟩ := h
    obtain ⟨q, z, rfl, rfl, h3⟩ := RAs.one hs2 h2
    exact ⟨p, q, v, z, rfl, rfl, h1, h3⟩
  rcases hf with rfl | rfl
  · refine PE.imp (pe_callB (call_max2 hc) hg hm (by decide +kernel) ha n1 n2 he hpl) fun τ H Q ⟨B, m, σ, h, R, g⟩ => ?_
    simp only [ev] at g
    refine ⟨B, m, σ, h, R, Gd.imp (Gd.bnd (rel := rA X.K B m σ [ca, cb]) g) fun vs H1 ⟨ps, s1, r1, g1⟩ => ?_⟩
    obtain ⟨q1, q2, v, w, rfl, rfl, h1, h2⟩ := r2 r1
    obtain ⟨z, e, g2⟩ := Gd.some g1
    cases q1 with
    | int i =>
      cases q2 with
      | int j =>
        have e' : PV.int (if j > i then j else i) = z := by simpa only [bi2, Option.some.injEq] using e
        subst e'
        exact ⟨i, j, by rw [h1.top.int, h2.top.int], Gd.ok g2 (RF.of rfl)⟩
      | _ => simp only [bi2] at e; cases e
    | _ => simp only [bi2] at e; cases e
  · refine PE.imp (pe_callB (call_min2 hc) hg hm (by decide +kernel) ha n1 n2 he hpl) fun τ H Q ⟨B, m, σ, h, R, g⟩ => ?_
    simp only [ev] at g
    refine ⟨B, m, σ, h, R, Gd.imp (Gd.bnd (rel := rA X.K B m σ [ca, cb]) g) fun vs H1 ⟨ps, s1, r1, g1⟩ => ?_⟩
    obtain ⟨q1, q2, v, w, rfl, rfl, h1, h2⟩ := r2 r1
    obtain ⟨z, e, g2⟩ := Gd.some g1
    cases q1 with
    | int i =>
      cases q2 with
      | int j =>
        have e' : PV.int (if j < i then j else i) = z := by simpa only [bi2, Option.some.injEq] using e
        subst e'
        exact ⟨i, j, by rw [h1.top.int, h2.top.int], Gd.ok g2 (RF.of rfl)⟩
      | _ => simp only [bi2] at e; cases e
    | _ => simp only [bi2] at e; cases e
/-! ### isinstance of built-in classes -/
def tyN : PV → Option String
  | .non => some "NoneType" | .bl _ => some "bool" | .int _ => some "int" | .str _ => some "str" | .tup _ => some "tuple" | .lst _ => some "list" | .dct _ _ => some "dict"
  | _ => none
def tyNames : List String := ["int", "bool", "tuple", "list", "str", "dict"]
theorem ty_of {K : PySem.W.Frag} {H : Hp} {F : Fb} {p : PV} {v : V} {t : String} (h : RT K H F p v) (e : tyN p = some t) : TyX K H v (.type t) := by
  cases p with
  | non => cases e; cases (show v = V.non from h); exact .base .non
  | bl b => cases e; cases (show v = V.bl b from h); exact .base (.bl b)
  | int b => cases e; cases (show v = V.int b from h); exact .base (.int b)
  | str b => cases e; cases (show v = V.str b from h); exact .base (.str b)
  | tup xs =>
    cases e
    obtain ⟨a, vs, rfl, ha, _⟩ := h.tup
    rcases ha with (ha | ⟨o, ha⟩) | ⟨o, its, n, h1, h2, _⟩
    · exact .base (.tup ha)
    · exact .fTuple ha
    · exact .kTuple h1 h2
  | lst xs =>
    cases e
    obtain ⟨a, vs, rfl, ha, _⟩ := h
    rcases ha with (ha | ⟨o, ha⟩) | ⟨o, its, n, h1, h2, _⟩
    · exact .base (.lst ha)
    · exact .base (.frz ha)
    · exact .kList h1 h2
  | dct ks xs =>
    cases e
    obtain ⟨a, vs, rfl, ha, _⟩ := h
    exact .base (.dK ha)
  | _ => cases e
theorem kit_is {p : PV} {t n : String} (e : tyN p = some t) (hn : n ∈ tyNames) : kitB t n = some (isTy n p) := by
  simp only [tyNames, List.mem_cons, List.not_mem_nil, or_false] at hn
  cases p <;> first
    | (cases e; done)
    | (cases e; rcases hn with rfl | rfl | rfl | rfl | rfl | rfl <;> (show kitB _ _ = some (isTy _ _); simp only [isTy]; decide +kernel))
theorem hasTyN {K : PySem.W.Frag} {H : Hp} {F : Fb} {p : PV} {v : V} (h : RT K H F p v) (e : hasTy p = true) : ∃ t, Ev.tyN p = some t := by
  cases p with
  | ins c fs => cases e
  | cl c => cases e
  | ty n => cases e
  | _ => exact ⟨_, rfl⟩
/-- the class names of a test, as the text has them -/
def tkB : Tk → Option String
  | .b n => if n ∈ tyNames then some n else none
  | .own _ => none
theorem s_isi1 {n : String} {x : Str} {px : Pos} (hn : n ∈ tyNames) (hx : bootBuiltins x = some (.type n)) (hx1 : x ≠ "__name__") (hx2 : (x == ("__debug__" : Str)) = false) (hgx : Gl X x) (hmx : X.mg x = none)
    (hg : Gl X "isinstance") (hm : X.mg "isinstance" = none) (ha : PE X a (tE X.K X.mg P W ca)) (hna : notStar a = true) :
    PE X (.Call (.Name "isinstance" p) [a, .Name x px] [] pos) (tE X.K X.mg P W (.isi ca [.b n])) := by
  have hT : PE X (.Name x px) (tC (.ty n)) := pe_bltn hgx hmx hx rfl hx1 hx2
  have he : starEach [a, .Name x px] X.env = (false, eval a X.env) :: starEach [.Name x px] X.env := star_no hna
  refine PE.imp (pe_callB call_isi hg hm PyProof.Rows.boot_isinstance (pa_cons ha (pa_cons hT pa_nil) (star_no hna)) (by decide) (by decide) he (star_any0 rfl)) fun τ H Q ⟨B, m, σ, h, R, g⟩ => ?_
  simp only [ev] at g
  refine ⟨B, m, σ, h, R, Gd.imp (Gd.bnd (rel := rF X.K B m (flg σ ca)) g) fun v H1 ⟨q, s1, r1, g1⟩ => ?_⟩
  obtain ⟨c, g1⟩ := Gd.ite g1
  obtain ⟨t, et⟩ := hasTyN r1.top c
  refine ⟨v, .ty n, .type t, .type n, isTy n q, rfl, .ty n, ty_of r1.top et, kit_ty (kit_is et hn), Gd.ok g1 (RF.of ?_)⟩
  show V.bl _ = V.bl _
  simp only [List.any_cons, List.any_nil, isTk, Bool.or_false]
/-- the names of built-in classes -/
def clsRow : List Expr → List String → Bool
  | [], [] => true
  | .Name x _ :: es, n :: ns => decide (bootBuiltins x = some (.type n)) && decide (x ≠ "__name__") && !(x == ("__debug__" : Str)) && decide (x ∈ bltNames) && decide (n ∈ tyNames) && clsRow es ns
  | _, _ => false
theorem clsRow_pa (hg : ∀ x, x ∈ bltNames → Gl X x → X.mg x = none) : ∀ {es : List Expr} {ns : List String}, clsRow es ns = true → (∀ x px, Expr.Name x px ∈ es → Gl X x) → PA X es (fun _ H Q => Q (ns.map V.ty) H) ∧ es.all notStar = true
  | [], [], _, _ => ⟨PA.imp pa_nil fun τ H Q q => q, rfl⟩
  | e :: es, n :: ns, h, hgl => by
    cases e with
    | Name x px =>
      simp only [clsRow, Bool.and_eq_true, decide_eq_true_eq, Bool.not_eq_true'] at h
      obtain ⟨⟨⟨⟨⟨h1, h2⟩, h3⟩, h4⟩, h5⟩, h6⟩ := h
      have gx := hgl x px List.mem_cons_self
      obtain ⟨i1, i2⟩ := clsRow_pa hg h6 fun y py hy => hgl y py (List.mem_cons_of_mem _ hy)
      have hT : PE X (.Name x px) (tC (.ty n)) := pe_bltn gx (hg x h4 gx) h1 rfl h2 h3
      exact ⟨PA.imp (pa_cons hT i1) fun τ H Q q => q, by simpa [notStar] using i2⟩
    | _ => simp only [clsRow] at h; cases h
  | [], _ :: _, h, _ => by cases h
  | e :: _, [], h, _ => by cases e <;> (simp only [clsRow] at h; cases h)
theorem clsRow_mem : ∀ {es : List Expr} {ns : List String}, clsRow es ns = true → (∀ n ∈ ns, n ∈ tyNames) ∧ ns.length = es.length
  | [], [], _ => ⟨fun _ h => (by cases h), rfl⟩
  | e :: es, n :: ns, h => by
    cases e with
    | Name x px =>
      simp only [clsRow, Bool.and_eq_true, decide_eq_true_eq, Bool.not_eq_true'] at h
      obtain ⟨⟨⟨⟨⟨h1, h2⟩, h3⟩, h4⟩, h5⟩, h6⟩ := h
      obtain ⟨i1, i2⟩ := clsRow_mem h6
      refine ⟨fun z hz => ?_, by simp [i2]⟩
      rcases List.mem_cons.mp hz with rfl | hz
      · exact h5
      · exact i1 z hz
    | _ => simp only [clsRow] at h; cases h
  | [], _ :: _, h => by cases h
  | e :: _, [], h => by cases e <;> (simp only [clsRow] at h; cases h)
theorem kitAny_is {K : PySem.W.Frag} {p : PV} {t : String} (e : Ev.tyN p = some t) : ∀ {ns : List String}, (∀ n ∈ ns, n ∈ tyNames) → PySem.W.kitAny K (.type t) (ns.map Value.type) = some (ns.any fun n => isTy n p)
  | [], _ => rfl
  | n :: ns, h => by
    have h1 := kit_ty (K := K) (kit_is e (h n List.mem_cons_self))
    have ih := kitAny_is (K := K) e fun z hz => h z (List.mem_cons_of_mem _ hz)
    show (match PySem.W.kitOne K (.type t) (.type n) with | some true => some true | some false => PySem.W.kitAny K (.type t) (ns.map Value.type) | none => none) = _
    rw [h1, ih]
    cases q : isTy n p <;> simp [q]
theorem clsV_row : ∀ ns : List String, Paired ClsV (ns.map V.ty) (ns.map Value.type)
  | [] => .nil
  | n :: ns => .cons (.ty n) (clsV_row ns)
theorem s_isiT {ns : List String} {k : Nat} {pt : Pos} (hr : clsRow es ns = true) (hgl : ∀ x px, Expr.Name x px ∈ es → Gl X x) (hgb : ∀ x, x ∈ bltNames → Gl X x → X.mg x = none)
    (hg : Gl X "isinstance") (hm : X.mg "isinstance" = none) (hl : ns.length ≤ 100) (ha : PE X a (tE X.K X.mg P W ca)) (hna : notStar a = true) :
    PE X (.Call (.Name "isinstance" p) [a, .Tuple es k pt] [] pos) (tE X.K X.mg P W (.isi ca (ns.map .b))) := by
  obtain ⟨pa, _⟩ := clsRow_pa hgb hr hgl
  obtain ⟨hmem, hlen⟩ := clsRow_mem hr
  have he : starEach [a, .Tuple es k pt] X.env = (false, eval a X.env) :: starEach [.Tuple es k pt] X.env := star_no hna
  refine PE.imp (pe_callB call_isiT hg hm PyProof.Rows.boot_isinstance (pa_cons ha (pa_cons (pe_tup pa) pa_nil) (star_no hna)) (by decide) (by decide) he (star_any0 rfl)) fun τ H Q ⟨B, m, σ, h, R, g⟩ => ?_
  simp only [ev] at g
  refine ⟨B, m, σ, h, R, Gd.imp (Gd.bnd (rel := rF X.K B m (flg σ ca)) g) fun v H1 ⟨q, s1, r1, g1⟩ => ?_⟩
  obtain ⟨c, g1⟩ := Gd.ite g1
  obtain ⟨t, et⟩ := hasTyN r1.top c
  refine ⟨by rw [List.length_map, sizeLine_eq]; omega, fun tp ntp => ?_⟩
  have s2 : Same H1 (upd H1 tp (.tup (ns.map V.ty))) := same_upd ntp
  refine ⟨v, tp, ns.map V.ty, .type t, ns.map Value.type, ns.any fun n => isTy n q, rfl, upd_same, ?_, ty_of (RT.same s2 r1.top) et, kitAny_is et hmem, Gd.new g1 s2 (RF.of ?_)⟩
  · exact clsV_row ns
  · show V.bl _ = V.bl _
    rw [List.any_map]
    rfl
end
end Ev

set_option Elab.async false
set_option linter.all false
set_option maxRecDepth 100000
/-! Ev8: calls of defs; what is walked; targets; comprehensions. -/
namespace Ev
open PySem PySem.Spec PyProof.Rows L2
section
variable {K : PySem.W.Frag} {H H' : Hp} {F F' : Fb}
mutual
theorem RV.weak (s : ∀ b, F b → F' b) : ∀ {p : PV} {v : V}, RV K H F' p v → RV K H F p v
  | .non, _, h => h
  | .bl _, _, h => h
  | .int _, _, h => h
  | .str _, _, h => h
  | .ins _ _, _, h => by
    obtain ⟨a, dx, vs, ws, e, r, d, na, nd, q, w⟩ := h
    exact ⟨a, dx, vs, ws, e, r, d, fun f => na (s _ f), fun f => nd (s _ f), q, RVs.weak s w⟩
  | .ty _, _, h => h
  | .cl _, _, h => h
  | .tup xs, v, h => by
    obtain ⟨a, vs, e, r, z, q⟩ := h
    exact ⟨a, vs, e, r, z, RVs.weak s q⟩
  | .lst xs, v, h => by
    obtain ⟨a, vs, e, r, z, nf, q⟩ := h
    exact ⟨a, vs, e, r, z, fun f => nf (s _ f), RVs.weak s q⟩
  | .dct ks xs, v, h => by
    obtain ⟨a, vs, e, r, z, nf, k, q⟩ := h
    exact ⟨a, vs, e, r, z, fun f => nf (s _ f), k, RVs.weak s q⟩
theorem RVs.weak (s : ∀ b, F b → F' b) : ∀ {p : List PV} {v : List V}, RVs K H F' p v → RVs K H F p v
  | [], _, h => h
  | p :: ps, _, h => by
    obtain ⟨v, r, e, hv, hr⟩ := h
    exact ⟨v, r, e, RV.weak s hv, RVs.weak s hr⟩
end
theorem RT.weak (s : ∀ b, F b → F' b) : ∀ {p : PV} {v : V}, RT K H F' p v → RT K H F p v
  | .non, _, h => h
  | .bl _, _, h => h
  | .int _, _, h => h
  | .str _, _, h => h
  | .ins c fs, _, h => RV.weak (p := .ins c fs) s h
  | .ty _, _, h => h
  | .cl _, _, h => h
  | .tup xs, v, h => RV.weak (p := .tup xs) s h
  | .lst xs, v, h => by
    obtain ⟨a, vs, e, r, z, q⟩ := h
    exact ⟨a, vs, e, r, z, q.weak s⟩
  | .dct ks xs, v, h => by
    obtain ⟨a, vs, e, r, z, k, q⟩ := h
    exact ⟨a, vs, e, r, z, k, q.weak s⟩
theorem RX.weak {mg : Str → Option Value} {cls : Value} {d : Option Addr} {x : Exn} (s : ∀ b, F b → F' b) (h : RX K mg H F' cls d x) : RX K mg H F cls d x := by
  obtain ⟨h1, h2⟩ := h
  refine ⟨h1, ?_⟩
  cases e : x.fld with
  | none => rw [e] at h2; exact h2
  | some p =>
    rw [e] at h2
    obtain ⟨da, nm, v, e1, e2, r⟩ := h2
    exact ⟨da, nm, v, e1, e2, r.weak s⟩
theorem fb_nil {B : Fb} : ∀ b, fb B [] b → B b := fun b h => by
  rcases h with h | h
  · exact h
  · cases h
end
theorem RT.bor0 {K : PySem.W.Frag} {H : Hp} {F F' : Fb} (s : ∀ b, F b → F' b) : ∀ {p : PV} {v : V}, RT K H F' p v → RB K H F [] p v
  | .non, _, h => h
  | .bl _, _, h => h
  | .int _, _, h => h
  | .str _, _, h => h
  | .ins c fs, _, h => RV.weak (p := .ins c fs) s h
  | .ty _, _, h => h
  | .cl _, _, h => h
  | .tup xs, v, h => RV.weak (p := .tup xs) s h
  | .lst xs, v, h => by
    obtain ⟨a, vs, e, r, z, q⟩ := h
    refine ⟨a, vs, e, ?_, z, q.weak s⟩
    rcases r with r | r
    · exact .inl ⟨r, (fun w => nomatch w)⟩
    · exact .inr (.inr r)
  | .dct ks xs, v, h => by
    obtain ⟨a, vs, e, r, z, k, q⟩ := h
    exact ⟨a, vs, e, r, (fun w => nomatch w), z, k, q.weak s⟩
section
variable {X : Cx} {W : WX} {P : Pg} {a b c : Expr} {es : List Expr} {ca cb cc : CE} {ces : List CE} {pos p p2 : Pos}
theorem rss_args {K : PySem.W.Frag} {H : Hp} {B : Fb} {m : List Addr} {σ : St} : ∀ {es : List CE} {ps : List PV} {vs : List V}, es.all (fun e => !isStarE e) = true → RAs K H B m σ es ps vs → RSs K H (fb (fb B m) []) [] (argsOf σ es ps) vs
  | [], ps, vs, _, h => by
    obtain ⟨rfl, rfl⟩ := h
    rfl
  | e :: es, ps, vs, hs, h => by
    rw [List.all_cons, Bool.and_eq_true] at hs
    have h1 : isStarE e = false := by simpa using hs.1
    unfold RAs at h
    rw [if_neg (by rw [h1]; exact fun z => nomatch z)] at h
    obtain ⟨p, r, v, w, rfl, rfl, hp, hr⟩ := h
    refine ⟨v, w, rfl, ?_, rss_args hs.2 hr⟩
    by_cases z : flg σ e = 0
    · rw [show decide (flg σ e ≠ 0) = false by simp [z]]
      exact RV.weak (fun b f => fb_nil b f) (hp.zero z)
    · rw [show decide (flg σ e ≠ 0) = true by simp [z]]
      exact RT.bor0 (fun b f => fb_nil b f) hp.top
theorem args_len {σ : St} : ∀ {es : List CE} {ps : List PV}, ps.length = es.length → (argsOf σ es ps).length = es.length
  | [], _, _ => rfl
  | e :: es, [], h => by simp at h
  | e :: es, p :: ps, h => by simp only [argsOf, List.length_cons, args_len (es := es) (ps := ps) (by simpa using h)]
theorem ras_len {K : PySem.W.Frag} {H : Hp} {B : Fb} {m : List Addr} {σ : St} : ∀ {es : List CE} {ps : List PV} {vs : List V}, es.all (fun e => !isStarE e) = true → RAs K H B m σ es ps vs → ps.length = es.length ∧ vs.length = es.length
  | [], ps, vs, _, h => by
    obtain ⟨rfl, rfl⟩ := h
    exact ⟨rfl, rfl⟩
  | e :: es, ps, vs, hs, h => by
    rw [List.all_cons, Bool.and_eq_true] at hs
    have h1 : isStarE e = false := by simpa using hs.1
    unfold RAs at h
    rw [if_neg (by rw [h1]; exact fun z => nomatch z)] at h
    obtain ⟨p, r, v, w, rfl, rfl, hp, hr⟩ := h
    obtain ⟨l1, l2⟩ := ras_len hs.2 hr
    exact ⟨by simp [l1], by simp [l2]⟩
/-- the answer of a pure call -/
theorem sp_told {K : PySem.W.Frag} {mg : Str → Option Value} {B : Fb} {m : List Addr} {τ : L2.St} {H : Hp} {h : OH} {D : List SV → OH → R (SV × OH)} {as : List SV} {vs : List V} {Q : VK} {n : Nat}
    (hl : vs.length = n) (R : Rh K H B m h) (ra : RSs K H (fb (fb B m) []) [] as vs) (g : Gd K mg W B m τ (rF K B m 0) H (told (D as [])) Q) : spD K mg n D vs H Q (WE W τ) := by
  refine ⟨hl, fb B m, [], as, [], ⟨fun b f => R.ne f, fun a z => (by cases z), List.nodup_nil, rfl, fun n a o z => (by simp at z)⟩, ra, ?_⟩
  cases e : D as [] with
  | none => rw [e] at g; exact g
  | some r =>
    rw [e] at g
    cases r with
    | error x => exact fun cls d H' xe rx => g cls d H' xe.same (rx.weak fun b f => .inl f)
    | ok sh =>
      obtain ⟨s, h'⟩ := sh
      intro v H' m' hp hn xe rh rs
      have g' : Gd K mg W B m τ (rF K B m 0) H ((toldS h' s).map .ok) Q := g
      obtain ⟨q, eq, g2⟩ := Gd.some g'
      refine Gd.new g2 xe.same (RF.of ?_)
      cases s with
      | d k p =>
        cases k with
        | true => simp only [toldS] at eq; cases eq
        | false =>
          have e2 : p = q := by simpa only [toldS, Option.some.injEq] using eq
          subst e2
          exact RV.weak (fun b f => .inl f) rs
      | r n =>
        obtain ⟨a, ha, rfl⟩ := rs
        simp only [toldS] at eq
        cases qo : h'[n]? with
        | none => rw [qo] at eq; cases eq
        | some o =>
          rw [qo] at eq
          have ro := rh.obj n a o ha qo
          have na : ¬ fb B m a := rh.ap a (List.mem_of_getElem? ha)
          cases o with
          | l xs =>
            have e3 : PV.lst xs = q := by simpa only [Option.bind_some, viewO, Option.some.injEq] using eq
            subst e3
            obtain ⟨ws, h1, h2, h3⟩ := ro
            exact ⟨a, ws, rfl, h1, h2, na, h3.weak fun b f => .inl f⟩
          | d ks xs =>
            have e3 : PV.dct ks xs = q := by simpa only [Option.bind_some, viewO, Option.some.injEq] using eq
            subst e3
            obtain ⟨ws, h1, h2, h3, h4⟩ := ro
            exact ⟨a, ws, rfl, h1, h2, na, h3, h4.weak fun b f => .inl f⟩
          | ins c fs => simp only [Option.bind_some, viewO] at eq; cases eq
          | hid => simp only [Option.bind_some, viewO] at eq; cases eq
theorem s_call {lv : Nat} {f : Str} (F : FnF X P lv f) (rm : Room lv X.A) (tk : Takes X W) (hg : Gl X f) (hd : (f == ("__debug__" : Str)) = false) (ha : PA X (a :: es) (tAs X.K X.mg P W (ca :: ces)))
    (hn : (a :: es).all notStar = true) (hs : (ca :: ces).all (fun e => !isStarE e) = true) : PE X (.Call (.Name f p) (a :: es) [] pos) (tE X.K X.mg P W (.call f (ca :: ces))) := by
  obtain ⟨fa, FA, hm, kp⟩ := F.ex
  obtain ⟨fd, ps, k, hk, hF, hb, hln, _⟩ := FA.ex
  have hn' := hn
  rw [List.all_cons, Bool.and_eq_true] at hn
  refine PE.imp (pe_callSD hF (rm.mono hk) hg hm kp hb (dvs := []) .nil (fun σ => L2.passAt tk σ) ha hd (star_no hn.1) (star_any0 hn.2)) fun τ H Q ⟨B, m, σ, h, R, g⟩ => ?_
  simp only [ev] at g
  refine ⟨B, m, σ, h, R, Gd.imp (Gd.bnd (rel := rA X.K B m σ (ca :: ces)) g) fun vs H1 ⟨qs, s1, r1, g1⟩ => ?_⟩
  rw [List.append_nil]
  obtain ⟨l1, l2⟩ := ras_len hs r1
  have hl : vs.length = ps.length := by
    rw [l2, ← hln (argsOf σ (ca :: ces) qs) [] (fun z => by rw [z] at g1; exact g1), args_len l1]
  exact sp_told hl (R.toRh.same s1) (rss_args hs r1) g1
theorem rss_app {K : PySem.W.Frag} {H : Hp} {F : Fb} {m : List Addr} : ∀ {as bs : List SV} {vs ws : List V}, RSs K H F m as vs → RSs K H F m bs ws → RSs K H F m (as ++ bs) (vs ++ ws)
  | [], _, _, _, h, h' => by
    cases (show _ = [] from h)
    exact h'
  | s :: as, _, _, _, h, h' => by
    obtain ⟨v, r, rfl, h1, h2⟩ := h
    exact ⟨v, _, rfl, h1, rss_app h2 h'⟩
theorem rss_rvs {K : PySem.W.Frag} {H : Hp} {F : Fb} {m : List Addr} : ∀ {ps : List PV} {vs : List V}, RVs K H F ps vs → RSs K H F m (ps.map (SV.d false)) vs
  | [], _, h => h
  | p :: ps, _, h => by
    obtain ⟨v, r, rfl, h1, h2⟩ := h
    exact ⟨v, r, rfl, h1, rss_rvs h2⟩
theorem rss_len {K : PySem.W.Frag} {H : Hp} {F : Fb} {m : List Addr} : ∀ {as : List SV} {vs : List V}, RSs K H F m as vs → as.length = vs.length
  | [], _, h => by cases (show _ = [] from h); rfl
  | s :: as, _, h => by
    obtain ⟨v, r, rfl, h1, h2⟩ := h
    rw [List.length_cons, List.length_cons, rss_len h2]
/-- a call whose last parameters have their defaults -/
theorem s_callD {lv : Nat} {f : Str} {ds : List PV} (F : FnF X P lv f) (rm : Room lv X.A) (tk : Takes X W) (hg : Gl X f) (hd : (f == ("__debug__" : Str)) = false) (ha : PA X (a :: es) (tAs X.K X.mg P W (ca :: ces)))
    (hn : (a :: es).all notStar = true) (hs : (ca :: ces).all (fun e => !isStarE e) = true) : PE X (.Call (.Name f p) (a :: es) [] pos) (tE X.K X.mg P W (.ext (.callD f ds) (ca :: ces))) := by
  obtain ⟨fa, FA, hm, kp⟩ := F.ex
  obtain ⟨fd, ps, k, hk, hF, hb, hln, hdf⟩ := FA.ex
  obtain ⟨us, dvs, hb2, hv, hfl⟩ := fillD_ok hb hdf ds
  rw [List.all_cons, Bool.and_eq_true] at hn
  refine PE.imp (pe_callSD hF (rm.mono hk) hg hm kp hb2 hv (fun σ => L2.passAt tk σ) ha hd (star_no hn.1) (star_any0 hn.2)) fun τ H Q ⟨B, m, σ, h, R, g⟩ => ?_
  simp only [ev] at g
  refine ⟨B, m, σ, h, R, Gd.imp (Gd.bnd (rel := rA X.K B m σ (ca :: ces)) g) fun vs H1 ⟨qs, s1, r1, g1⟩ => ?_⟩
  simp only [xop, xfn] at g1
  cases e : fillD P f ds (argsOf σ (ca :: ces) qs) with
  | none => rw [e] at g1; exact g1.elim
  | some as =>
    rw [e] at g1
    obtain ⟨rfl, hr⟩ := hfl _ _ e
    have ra := rss_app (rss_args hs r1) (rss_rvs (m := []) (hr H1 (fb (fb B m) [])))
    have hl : (vs ++ dvs).length = ps.length := by
      rw [← rss_len ra]
      exact hln _ [] (fun z => by
        have g2 : Gd X.K X.mg W B m τ (rF X.K B m 0) H1 (told (P.fn f (argsOf σ (ca :: ces) qs ++ ds.map (SV.d false)) [])) Q := g1
        rw [z] at g2; exact g2)
    exact sp_told hl (R.toRh.same s1) ra g1
end
end Ev

set_option Elab.async false
set_option linter.all false
set_option maxRecDepth 100000
/-! Ev9: what is walked; targets; comprehensions. -/
namespace Ev
open PySem PySem.Spec PyProof.Rows L2
/-- the iterator J yields these values, while what it walks stands -/
def Yl (w : Bool) (K : PySem.W.Frag) (F : Fb) (H0 : Hp) (src : List (Addr × HO)) (xs : List PV) (J : It) : Prop := ∀ (H : Hp) (i : Nat) (F' : Fb), Ext F H0 H → Grows H0 F F' → (∀ z ∈ src, H z.1 = some z.2) →
  (∀ p, xs[i]? = some p → J.go i H ∧ ∀ v H', J.yld i H v H' → Same H H' ∧ RI w K H' F' p v) ∧ (xs.length ≤ i → J.stop i H)
/-- what is walked stands now -/
def Src (H : Hp) (src : List (Addr × HO)) : Prop := ∀ z ∈ src, H z.1 = some z.2
/-- what is walked gives tuples that are new each time -/
def weakI : CE → Bool
  | .zip _ _ | .enum _ => true
  | _ => false
def rI_ (w : Bool) (K : PySem.W.Frag) (B : Fb) (m : List Addr) (n : Nat) : Hp → List PV → It → Prop := fun H1 xs J => ∃ src, xs.length ≤ sizeLine ∧ Yl w K (fb B m) H1 src xs J ∧ Src H1 src ∧ (n ≤ 1 → ∀ z ∈ src, z.1 ∉ m)
def tI (K : PySem.W.Frag) (mg : Str → Option Value) (P : Pg) (W : WX) (c : CE) : TI := fun τ H Q => ∃ B m σ h, Rl K H B m σ h τ ∧ Gd K mg W B m τ (rI_ (weakI c) K B m (flgI σ c)) H (evI P c σ h) Q
section
variable {K : PySem.W.Frag} {H : Hp} {F : Fb}
theorem yl_list {w : Bool} {a : Addr} {src : List (Addr × HO)} {vs : List V} {xs : List PV} (ho : ∀ H1, Src H1 src → SqL K H1 a vs) (r : RVs K H F xs vs) : Yl w K F H src xs (Itl K a) := by
  intro H1 i F' x gr sr
  have rd : SqL K H1 a vs := ho H1 sr
  refine ⟨fun p hp => ?_, fun hl => ⟨vs, rd, by rw [← r.length]; exact hl⟩⟩
  obtain ⟨v, hv, rv⟩ := r.get hp
  refine ⟨⟨vs, v, rd, hv⟩, fun w H2 ⟨e, q⟩ => ?_⟩
  subst e
  have e2 := q vs rd
  rw [hv] at e2
  cases e2
  exact ⟨Same.refl, .inl (rv.mono x gr)⟩
theorem yl_tup {w : Bool} {a : Addr} {vs : List V} {xs : List PV} (ha : SqT K H a vs) (r : RVs K H F xs vs) : Yl w K F H [] xs (Itt K a) := by
  intro H1 i F' x gr sr
  have rd : SqT K H1 a vs := x.sqT ha
  refine ⟨fun p hp => ?_, fun hl => ⟨vs, rd, by rw [← r.length]; exact hl⟩⟩
  obtain ⟨v, hv, rv⟩ := r.get hp
  refine ⟨⟨vs, v, rd, hv⟩, fun w H2 ⟨e, q⟩ => ?_⟩
  subst e
  have e2 := q vs rd
  rw [hv] at e2
  cases e2
  exact ⟨Same.refl, .inl (rv.mono x gr)⟩
theorem rangeP_len : ∀ (n : Nat) (lo : Int), (rangeP lo n).length = n
  | 0, _ => rfl
  | n + 1, lo => by simp only [rangeP, List.length_cons, rangeP_len n]
theorem rangeP_get : ∀ (n : Nat) (lo : Int) (i : Nat) (p : PV), (rangeP lo n)[i]? = some p → p = .int (lo + i)
  | 0, _, _, _, h => by simp [rangeP] at h
  | n + 1, lo, 0, p, h => by
    have e : PV.int lo = p := by simpa [rangeP] using h
    rw [← e]; simp
  | n + 1, lo, i + 1, p, h => by
    have e := rangeP_get n (lo + 1) i p (by simpa [rangeP] using h)
    rw [e]
    have : lo + 1 + (i : Int) = lo + ((i + 1 : Nat) : Int) := by push_cast; omega
    rw [this]
theorem yl_range {w : Bool} {lo : Int} {n : Nat} : Yl w K F H [] (rangeP lo n) (Itr lo n) := by
  intro H1 i F' x gr sr
  refine ⟨fun p hp => ?_, fun hl => by rw [rangeP_len] at hl; exact hl⟩
  have hi : i < n := by
    have := (List.getElem?_eq_some_iff.mp hp).1
    rwa [rangeP_len] at this
  refine ⟨hi, fun w H2 ⟨e, q⟩ => ?_⟩
  subst e
  subst q
  rw [rangeP_get n lo i p hp]
  exact ⟨Same.refl, .inl rfl⟩
theorem zipP_len : ∀ (xs ys : List PV), (zipP xs ys).length = min xs.length ys.length
  | [], ys => by simp [zipP]
  | x :: xs, [] => by simp [zipP]
  | x :: xs, y :: ys => by simp only [zipP, List.length_cons, zipP_len xs ys]; omega
theorem zipP_get : ∀ (xs ys : List PV) (i : Nat) (p : PV), (zipP xs ys)[i]? = some p → ∃ x y, xs[i]? = some x ∧ ys[i]? = some y ∧ p = .tup [x, y]
  | [], ys, i, p, h => by simp [zipP] at h
  | x :: xs, [], i, p, h => by simp [zipP] at h
  | x :: xs, y :: ys, 0, p, h => ⟨x, y, rfl, rfl, by simpa [zipP] using h.symm⟩
  | x :: xs, y :: ys, i + 1, p, h => by
    obtain ⟨a, b, h1, h2, h3⟩ := zipP_get xs ys i p (by simpa [zipP] using h)
    exact ⟨a, b, by simpa using h1, by simpa using h2, h3⟩
theorem yl_zip {a b : Addr} {src src2 : List (Addr × HO)} {vs ws : List V} {xs ys : List PV} (ho : ∀ H1, Src H1 src → SqL K H1 a vs) (hu : ∀ H1, Src H1 src2 → SqL K H1 b ws) (r : RVs K H F xs vs) (r' : RVs K H F ys ws) :
    Yl true K F H (src ++ src2) (zipP xs ys) (Itz K a b) := by
  intro H1 i F' x gr sr
  have rd : SqL K H1 a vs := ho H1 fun z hz => sr z (List.mem_append_left _ hz)
  have rd2 : SqL K H1 b ws := hu H1 fun z hz => sr z (List.mem_append_right _ hz)
  refine ⟨fun p hp => ?_, fun hl => ⟨vs, ws, rd, rd2, ?_⟩⟩
  · obtain ⟨px, py, e1, e2, rfl⟩ := zipP_get xs ys i p hp
    obtain ⟨v, hv, rv⟩ := r.get e1
    obtain ⟨w, hw, rw'⟩ := r'.get e2
    refine ⟨⟨vs, ws, v, w, rd, rd2, hv, hw⟩, fun z H2 ⟨T, x1, y1, ez, nT, eH, q1, q2⟩ => ?_⟩
    subst ez eH
    have e3 := q1 vs rd
    have e4 := q2 ws rd2
    rw [hv] at e3; rw [hw] at e4
    cases e3; cases e4
    refine ⟨same_upd nT, .inr ⟨rfl, _, T, _, rfl, rfl, .inl (.inl upd_same), (RVs.cons (rv.mono x gr) (RVs.one (rw'.mono x gr))).same (same_upd nT)⟩⟩
  · rw [zipP_len, r.length, r'.length] at hl
    by_cases q : vs.length ≤ i
    · exact .inl q
    · exact .inr (by omega)
theorem yl_zipT {a b : Addr} {vs ws : List V} {xs ys : List PV} (ha : SqT K H a vs) (hb : SqT K H b ws) (r : RVs K H F xs vs) (r' : RVs K H F ys ws) : Yl true K F H [] (zipP xs ys) (RZ.ItzT K a b) := by
  intro H1 i F' x gr sr
  have rd : SqT K H1 a vs := x.sqT ha
  have rd2 : SqT K H1 b ws := x.sqT hb
  refine ⟨fun p hp => ?_, fun hl => ⟨vs, ws, rd, rd2, ?_⟩⟩
  · obtain ⟨px, py, e1, e2, rfl⟩ := zipP_get xs ys i p hp
    obtain ⟨v, hv, rv⟩ := r.get e1
    obtain ⟨w, hw, rw'⟩ := r'.get e2
    refine ⟨⟨vs, ws, v, w, rd, rd2, hv, hw⟩, fun z H2 ⟨T, x1, y1, ez, nT, eH, q1, q2⟩ => ?_⟩
    subst ez eH
    have e3 := q1 vs rd
    have e4 := q2 ws rd2
    rw [hv] at e3; rw [hw] at e4
    cases e3; cases e4
    refine ⟨same_upd nT, .inr ⟨rfl, _, T, _, rfl, rfl, .inl (.inl upd_same), (RVs.cons (rv.mono x gr) (RVs.one (rw'.mono x gr))).same (same_upd nT)⟩⟩
  · rw [zipP_len, r.length, r'.length] at hl
    by_cases q : vs.length ≤ i
    · exact .inl q
    · exact .inr (by omega)
theorem enumP_len : ∀ (xs : List PV) (k : Nat), (enumP k xs).length = xs.length
  | [], _ => rfl
  | x :: xs, k => by simp only [enumP, List.length_cons, enumP_len xs]
theorem enumP_get : ∀ (xs : List PV) (k i : Nat) (p : PV), (enumP k xs)[i]? = some p → ∃ x, xs[i]? = some x ∧ p = .tup [.int (k + i : Nat), x]
  | [], _, i, p, h => by simp [enumP] at h
  | x :: xs, k, 0, p, h => ⟨x, rfl, by simpa [enumP] using h.symm⟩
  | x :: xs, k, i + 1, p, h => by
    obtain ⟨a, h1, h2⟩ := enumP_get xs (k + 1) i p (by simpa [enumP] using h)
    exact ⟨a, by simpa using h1, by rw [h2, show k + 1 + i = k + (i + 1) by omega]⟩
theorem yl_enum {a : Addr} {src : List (Addr × HO)} {vs : List V} {xs : List PV} (ho : ∀ H1, Src H1 src → SqL K H1 a vs) (r : RVs K H F xs vs) : Yl true K F H src (enumP 0 xs) (Ite K a) := by
  intro H1 i F' x gr sr
  have rd : SqL K H1 a vs := ho H1 sr
  refine ⟨fun p hp => ?_, fun hl => ⟨vs, rd, by rw [enumP_len, r.length] at hl; exact hl⟩⟩
  obtain ⟨px, e1, rfl⟩ := enumP_get xs 0 i p hp
  obtain ⟨v, hv, rv⟩ := r.get e1
  refine ⟨⟨vs, v, rd, hv⟩, fun z H2 ⟨T, x1, ez, nT, eH, q1⟩ => ?_⟩
  subst ez eH
  have e3 := q1 vs rd
  rw [hv] at e3
  cases e3
  refine ⟨same_upd nT, .inr ⟨rfl, _, T, _, rfl, rfl, .inl (.inl upd_same), (RVs.cons ?_ (RVs.one (rv.mono x gr))).same (same_upd nT)⟩⟩
  show V.int _ = V.int _
  rw [Nat.zero_add]
end
/-! ### the walked expressions -/
/-- a list that is walked: where it stands -/
theorem srcL {K : PySem.W.Frag} {H : Hp} {B : Fb} {m : List Addr} {n : Nat} {xs : List PV} {v : V} (r : RF K H B m n (.lst xs) v) : ∃ a vs src, v = .ref a ∧ SqL K H a vs ∧ vs.length ≤ sizeLine ∧ RVs K H (fb B m) xs vs ∧ Src H src ∧ (n ≤ 1 → ∀ z ∈ src, z.1 ∉ m) ∧
    ∀ H1, Src H1 src → SqL K H1 a vs := by
  have key : ∀ (a : Addr) (vs : List V), Rd H a (.lst vs) → ∃ o, H a = some o ∧ ∀ H1 : Hp, H1 a = some o → SqL K H1 a vs := fun a vs r => by
    rcases r with r | ⟨ob, r⟩
    · exact ⟨_, r, fun H1 e => .inl (.inl e)⟩
    · exact ⟨_, r, fun H1 e => .inl (.inr ⟨ob, e⟩)⟩
  by_cases hn : n ≤ 1
  · obtain ⟨a, vs, e, q, z, rr⟩ := r.bor hn
    rcases q with ⟨q, na⟩ | q
    · obtain ⟨o, eo, ho⟩ := key a vs q
      refine ⟨a, vs, [(a, o)], e, .inl q, z, rr, fun z hz => ?_, fun _ z hz => ?_, fun H1 h1 => ho H1 (h1 (a, o) (by simp))⟩
      · cases List.mem_singleton.mp hz; exact eo
      · cases List.mem_singleton.mp hz; exact na
    · exact ⟨a, vs, [], e, q.sq, z, rr, (fun z hz => by cases hz), fun _ z hz => (by cases hz), fun H1 _ => q.sq⟩
  · obtain ⟨a, vs, e, q, z, rr⟩ := r.top
    rcases q with q | q
    · obtain ⟨o, eo, ho⟩ := key a vs q
      refine ⟨a, vs, [(a, o)], e, .inl q, z, rr, fun z hz => ?_, fun h => absurd h hn, fun H1 h1 => ho H1 (h1 (a, o) (by simp))⟩
      cases List.mem_singleton.mp hz; exact eo
    · exact ⟨a, vs, [], e, .inr q, z, rr, (fun z hz => by cases hz), fun h => absurd h hn, fun H1 _ => .inr q⟩
section
variable {X : Cx} {W : WX} {P : Pg} {a b c tg : Expr} {es : List Expr} {ca cb cc : CE} {ces : List CE} {pos p p2 : Pos}
def isSeqC : CE → Bool
  | .range _ _ | .zip _ _ | .enum _ => false
  | _ => true
/-- a list or tuple as it stands -/
def iSeq (K : PySem.W.Frag) (tl : TE) : TI := fun σ H R => tl σ H fun x H1 => ∃ a, x = .ref a ∧ (((∃ xs, SqL K H1 a xs) ∧ R (Itl K a) H1) ∨ ((∃ xs, SqT K H1 a xs) ∧ R (Itt K a) H1))
theorem pi_seq {l : Expr} {tl : TE} (hl : PE X l tl) : PI X tg l (iSeq X.K tl) := by
  refine ⟨fun pins s σ H R I h => ?_⟩
  refine thn (hl.run pins s σ H _ I h) fun v s1 ⟨x, H1, I1, r1, q1⟩ => ?_
  obtain ⟨a, e, q⟩ := q1
  subst e
  cases r1
  rcases q with ⟨⟨xs, hq⟩, q⟩ | ⟨⟨xs, hq⟩, q⟩
  · obtain ⟨its, rv, p, hz⟩ := I1.list hq
    refine wpAny_pyIter_list p.isList ?_
    refine ⟨s1.heap.objs.size, [s1.heap.objs.size], _, _, H1, rfl, I1.kept (t' := s1.toks) fun b o e => Heap.get?_push_of_some _ e, turn_list a _, ⟨_, Heap.get?_push_size _ rfl, rfl, rfl⟩, fun b hb => ?_, q⟩
    have e : b = s1.heap.objs.size := by simpa using hb
    rw [e]
    exact I1.fpOk (Nat.le_refl _) (I1.hok.fresh (Nat.le_refl _))
  · obtain ⟨its, rv, p, hz⟩ := I1.tuple hq
    refine wpAny_pyIter_tuple (show s1.heap.IsTuple a its.toArray from p) ?_
    refine ⟨s1.heap.objs.size, [s1.heap.objs.size], _, _, H1, rfl, I1.kept (t' := s1.toks) fun b o e => Heap.get?_push_of_some _ e, turn_tuple a _, ⟨_, Heap.get?_push_size _ rfl, rfl, rfl⟩, fun b hb => ?_, q⟩
    have e : b = s1.heap.objs.size := by simpa using hb
    rw [e]
    exact I1.fpOk (Nat.le_refl _) (I1.hok.fresh (Nat.le_refl _))
theorem PI.imp {e : Expr} {t t' : TI} (h : PI X tg e t) (i : ∀ σ H R, t' σ H R → t σ H R) : PI X tg e t' := ⟨fun pins s σ H R I hw => h.run pins s σ H R I (i _ _ _ hw)⟩
theorem s_iseq (hc : isSeqC ca = true) (ha : PE X a (tE X.K X.mg P W ca)) : PI X tg a (tI X.K X.mg P W ca) := by
  refine PI.imp (pi_seq ha) fun τ H R ⟨B, m, σ, h, Q, g⟩ => ?_
  unfold evI at g
  refine ⟨B, m, σ, h, Q, Gd.imp (Gd.bnd (rel := rF X.K B m (flg σ ca)) g) fun v H1 ⟨q, s1, r1, g1⟩ => ?_⟩
  obtain ⟨ys, e, g1⟩ := Gd.wo g1
  have ff : flgI σ ca = flg σ ca := by cases ca <;> first | (cases hc; done) | rfl
  cases q with
  | lst xs =>
    cases e
    obtain ⟨a, vs, src, rfl, ha, hz, rr, hs, hm, hq⟩ := srcL r1
    have hl : ys.length ≤ sizeLine := by rw [rr.length]; exact hz
    exact ⟨a, rfl, .inl ⟨⟨vs, ha⟩, Gd.ok g1 ⟨src, hl, yl_list hq rr, hs, fun n0 => hm (ff ▸ n0)⟩⟩⟩
  | tup xs =>
    cases e
    obtain ⟨a, vs, rfl, ha, hz, rr⟩ := r1.top.tup
    have hl : ys.length ≤ sizeLine := by rw [rr.length]; exact hz
    exact ⟨a, rfl, .inr ⟨⟨vs, ha⟩, Gd.ok g1 ⟨[], hl, yl_tup ha rr, (fun z hz => by cases hz), fun _ z hz => by cases hz⟩⟩⟩
  | _ => simp only [itemsOf] at e; cases e
theorem evI_range {σ : St} {h : OH} : evI P (.range ca cb) σ h = bnd (ev P ca σ h) fun x => withO (asInt x) fun i => bnd (ev P cb σ h) fun y => withO (asInt y) fun j => if -(2 ^ 62) ≤ i ∧ i < 2 ^ 62 ∧ -(2 ^ 62) ≤ j ∧ j < 2 ^ 62 ∧ (j - i).toNat ≤ big then ok (rangeP i (j - i).toNat) else none := by
  simp only [evI, ev]
  cases ev P ca σ h with
  | none => rfl
  | some ra =>
    cases ra with
    | error x => rfl
    | ok za =>
      simp only [bnd_ok]
      cases asInt za with
      | none => rfl
      | some i =>
        simp only [withO_some]
        cases ev P cb σ h with
        | none => rfl
        | some rb =>
          cases rb with
          | error x => rfl
          | ok zb =>
            simp only [bnd_ok]
            cases asInt zb with
            | none => rfl
            | some j =>
              simp only [withO_some]
              split <;> rfl
theorem s_irange1 (hg : Gl X "range") (hm : X.mg "range" = none) (ha : PE X a (tE X.K X.mg P W ca)) (hn : notStar a = true) : PI X tg (.Call (.Name "range" p) [a] [] pos) (tI X.K X.mg P W (.range (.cst (.int 0)) ca)) := by
  refine PI.imp (pi_range1 hg hm (pa_cons ha pa_nil (star_no hn)) (star_no hn)) fun τ H R ⟨B, m, σ, h, Q, g⟩ => ?_
  rw [evI_range] at g
  have e1 : ev P (.cst (.int 0)) σ h = ok (.int 0) := by simp only [ev]
  rw [e1] at g
  refine ⟨B, m, σ, h, Q, Gd.imp (Gd.bnd (rel := rF X.K B m (flg σ ca)) g) fun v H1 ⟨q, s1, r1, g1⟩ => ?_⟩
  obtain ⟨j, ej, g1⟩ := Gd.wo g1
  obtain ⟨⟨c1, c2, c3, c4, c5⟩, g1⟩ := Gd.ite g1
  refine ⟨j, by rw [asIntV r1.top ej], c3, c4, ?_⟩
  have e2 : (j - 0).toNat = j.toNat := by rw [Int.sub_zero]
  rw [e2] at g1 c5
  exact Gd.ok (rel := rI_ false X.K B m 0) g1 ⟨[], by rw [rangeP_len, ← big_eq]; exact c5, yl_range, (fun z hz => by cases hz), fun _ z hz => by cases hz⟩
theorem s_irange2 (hg : Gl X "range") (hm : X.mg "range" = none) (ha : PE X a (tE X.K X.mg P W ca)) (hb : PE X b (tE X.K X.mg P W cb)) (hn : notStar a = true) (hn2 : notStar b = true) : PI X tg (.Call (.Name "range" p) [a, b] [] pos) (tI X.K X.mg P W (.range ca cb)) := by
  have e1 : starEach [b] X.env = [(false, eval b X.env)] := star_no hn2
  have e2 : starEach [a, b] X.env = [(false, eval a X.env), (false, eval b X.env)] := by rw [star_no hn, e1]
  refine PI.imp (pi_range2 hg hm (pa_cons ha (pa_cons hb pa_nil (star_no hn2)) (star_no hn)) e2 e1) fun τ H R ⟨B, m, σ, h, Q, g⟩ => ?_
  rw [evI_range] at g
  refine ⟨B, m, σ, h, Q, Gd.imp (Gd.bnd (rel := rF X.K B m (flg σ ca)) g) fun v H1 ⟨q, s1, r1, g1⟩ => ?_⟩
  obtain ⟨i, ei, g1⟩ := Gd.wo g1
  refine ⟨B, m, σ, h, Q.same s1, Gd.imp (Gd.bnd (rel := rF X.K B m (flg σ cb)) g1) fun w H2 ⟨q2, s2, r2, g2⟩ => ?_⟩
  obtain ⟨j, ej, g2⟩ := Gd.wo g2
  obtain ⟨⟨c1, c2, c3, c4, c5⟩, g2⟩ := Gd.ite g2
  refine ⟨i, j, by rw [asIntV r1.top ei, asIntV r2.top ej], ⟨c1, c2, c3, c4⟩, ?_⟩
  exact Gd.ok (rel := rI_ false X.K B m 0) g2 ⟨[], by rw [rangeP_len, ← big_eq]; exact c5, yl_range, (fun z hz => by cases hz), fun _ z hz => by cases hz⟩
theorem s_ienum {elts : List Expr} {kk : Nat} {tpos : Pos} (hg : Gl X "enumerate") (hm : X.mg "enumerate" = none) (ha : PE X a (tE X.K X.mg P W ca)) (hn : notStar a = true) : PI X (.Tuple elts kk tpos) (.Call (.Name "enumerate" p) [a] [] pos) (tI X.K X.mg P W (.enum ca)) := by
  refine PI.imp (pi_enum hg hm (pa_cons ha pa_nil (star_no hn)) (star_no hn)) fun τ H R ⟨B, m, σ, h, Q, g⟩ => ?_
  have e0 : evI P (.enum ca) σ h = bnd (ev P ca σ h) fun x => withO (listOf x) fun xs => ok (enumP 0 xs) := by
    simp only [evI, ev]
    cases ev P ca σ h with
    | none => rfl
    | some ra =>
      cases ra with
      | error x => rfl
      | ok za =>
        simp only [bnd_ok]
        cases listOf za with
        | none => rfl
        | some i => rfl
  rw [e0] at g
  refine ⟨B, m, σ, h, Q, Gd.imp (Gd.bnd (rel := rF X.K B m (flg σ ca)) g) fun v H1 ⟨q, s1, r1, g1⟩ => ?_⟩
  obtain ⟨ys, e, g1⟩ := Gd.wo g1
  cases q with
  | lst xs =>
    cases e
    obtain ⟨a, vs, src, rfl, ha, hz, rr, hs, hm, hq⟩ := srcL r1
    have hl : (enumP 0 ys).length ≤ sizeLine := by rw [enumP_len, rr.length]; exact hz
    exact ⟨a, vs, rfl, ha, Gd.ok g1 ⟨src, hl, yl_enum hq rr, hs, fun n0 => hm n0⟩⟩
  | _ => simp only [listOf] at e; cases e
theorem s_izip {elts : List Expr} {kk : Nat} {tpos : Pos} (hg : Gl X "zip") (hm : X.mg "zip" = none) (ha : PE X a (tE X.K X.mg P W ca)) (hb : PE X b (tE X.K X.mg P W cb)) (hn : notStar a = true) (hn2 : notStar b = true) :
    PI X (.Tuple elts kk tpos) (.Call (.Name "zip" p) [a, b] [] pos) (tI X.K X.mg P W (.zip ca cb)) := by
  refine PI.imp (RZ.pi_zipA hg hm (pa_cons ha (pa_cons hb pa_nil (star_no hn2)) (star_no hn)) (star_no hn) (star_any0 (by simp [hn2]))) fun τ H R ⟨B, m, σ, h, Q, g⟩ => ?_
  have e0 : evI P (.zip ca cb) σ h = bnd (ev P ca σ h) fun x => bnd (ev P cb σ h) fun y => withO (seq2 x y) ok := by
    simp only [evI, ev]
    cases ev P ca σ h with
    | none => rfl
    | some ra =>
      cases ra with
      | error x => rfl
      | ok za =>
        simp only [bnd_ok]
        cases ev P cb σ h with
        | none => rfl
        | some rb =>
          cases rb with
          | error x => rfl
          | ok zb =>
            simp only [bnd_ok]
            cases seq2 za zb <;> rfl
  rw [e0] at g
  refine ⟨B, m, σ, h, Q, Gd.imp (Gd.bnd (rel := rF X.K B m (flg σ ca)) g) fun v H1 ⟨q, s1, r1, g1⟩ => ?_⟩
  refine ⟨B, m, σ, h, Q.same s1, Gd.imp (Gd.bnd (rel := rF X.K B m (flg σ cb)) g1) fun w H2 ⟨q2, s2, r2, g2⟩ => ?_⟩
  obtain ⟨ys, e, g2⟩ := Gd.wo g2
  have r1' := RF.same s2 r1
  cases q with
  | lst xs =>
    cases q2 with
    | lst zs =>
      cases e
      obtain ⟨a, vs, src, rfl, ha, hz, rr, hs, hm, hq⟩ := srcL r1'
      obtain ⟨b, ws, src2, rfl, hb, hz2, rr2, hs2, hm2, hq2⟩ := srcL r2
      have hl : (zipP xs zs).length ≤ sizeLine := by rw [zipP_len, rr.length]; omega
      refine ⟨a, b, vs, ws, rfl, .inl ⟨ha, hb, Gd.ok g2 ⟨src ++ src2, hl, yl_zip hq hq2 rr rr2, fun z hz => ?_, fun n0 z hz => ?_⟩⟩⟩
      · rcases List.mem_append.mp hz with hz | hz
        · exact hs z hz
        · exact hs2 z hz
      · have n1 : max (flg σ ca) (flg σ cb) ≤ 1 := n0
        rcases List.mem_append.mp hz with hz | hz
        · exact hm (by omega) z hz
        · exact hm2 (by omega) z hz
    | _ => simp only [seq2] at e; cases e
  | tup xs =>
    cases q2 with
    | tup zs =>
      cases e
      obtain ⟨a, vs, rfl, ha, hz, rr⟩ := r1'.top.tup
      obtain ⟨b, ws, rfl, hb, hz2, rr2⟩ := r2.top.tup
      have hl : (zipP xs zs).length ≤ sizeLine := by rw [zipP_len, rr.length]; omega
      exact ⟨a, b, vs, ws, rfl, .inr ⟨ha, hb, Gd.ok g2 ⟨[], hl, yl_zipT ha hb rr rr2, (fun z hz => by cases hz), fun _ z hz => by cases hz⟩⟩⟩
    | _ => simp only [seq2] at e; cases e
  | _ => simp only [seq2] at e; cases e
end
end Ev

set_option Elab.async false
set_option linter.all false
set_option maxRecDepth 100000
/-! Ev10: targets; comprehensions. -/
namespace Ev
open PySem PySem.Spec PyProof.Rows L2
section
variable {K : PySem.W.Frag} {H : Hp} {B : Fb} {m : List Addr} {σ σ' : St} {h : OH} {τ : L2.St}
theorem Rl.put {i : Nat} {s : SV} {v : V} (R : Rl K H B m σ h τ) (rs : RS K H (fb B m) m s v) : Rl K H B m (σ.set i (some s)) h (τ.set i (some v)) where
  toRh := R.toRh
  sl := by simpa using R.sl
  slot := fun j t e => by
    by_cases hj : i = j
    · subst hj
      have hi : i < σ.length := by
        by_cases q : i < σ.length
        · exact q
        · rw [List.getElem?_eq_none (by simpa using q)] at e; cases e
      rw [List.getElem?_set_self hi] at e
      cases e
      exact ⟨v, by rw [List.getElem?_set_self (by rw [← R.sl]; exact hi)], rs⟩
    · rw [List.getElem?_set_ne hj] at e
      obtain ⟨w, h1, h2⟩ := R.slot j t e
      exact ⟨w, by rw [List.getElem?_set_ne hj]; exact h1, h2⟩
theorem Rl.none_ {i : Nat} (R : Rl K H B m σ h τ) : Rl K H B m (σ.set i none) h (τ.set i none) where
  toRh := R.toRh
  sl := by simpa using R.sl
  slot := fun j t e => by
    by_cases hj : i = j
    · subst hj
      by_cases q : i < σ.length
      · rw [List.getElem?_set_self q] at e; cases e
      · rw [List.getElem?_eq_none (by simpa using q)] at e; cases e
    · rw [List.getElem?_set_ne hj] at e
      obtain ⟨w, h1, h2⟩ := R.slot j t e
      exact ⟨w, by rw [List.getElem?_set_ne hj]; exact h1, h2⟩
theorem Rl.wipe (R : Rl K H B m σ h τ) : ∀ vs : List Nat, Rl K H B m (wipeS σ vs) h (L2.wipe τ vs)
  | [] => R
  | v :: vs => (R.wipe vs).none_
end
/-! ### more is forbidden, more is one's own -/
section
variable {K : PySem.W.Frag} {H H' : Hp} {B B' F' : Fb} {m m' : List Addr} {σ σ' : St} {h : OH} {τ : L2.St}
theorem ExtM.ext (x : ExtM m H H') : Ext (fb B m) H H' := ⟨fun b y nb e => x.keep b y (fun z => nb (.inr z)) e, x.tup, x.frz⟩
theorem RB.mono (x : ExtM m H H') (gr : Grows H (fb B m) F') (gm : ∀ a ∈ m', a ∈ m ∨ H a = none) : ∀ {p : PV} {v : V}, RB K H (fb B m) m p v → RB K H' F' m' p v
  | .non, _, h => h
  | .bl _, _, h => h
  | .int _, _, h => h
  | .str _, _, h => h
  | .ins c fs, _, h => RV.mono (p := .ins c fs) x.ext gr h
  | .ty _, _, h => h
  | .cl _, _, h => h
  | .tup xs, v, h => RV.mono (p := .tup xs) x.ext gr h
  | .lst xs, v, h => by
    obtain ⟨a, vs, e, r, z, q⟩ := h
    refine ⟨a, vs, e, ?_, z, q.mono x.ext gr⟩
    rcases r with ⟨r, na⟩ | r
    · refine .inl ⟨?_, fun hm => ?_⟩
      · rcases r with r | ⟨o, r⟩
        · exact .inl (x.keep _ _ na r)
        · exact .inr ⟨o, x.frz _ _ _ r⟩
      · rcases gm a hm with k | k
        · exact na k
        · exact Rd.ne r k
    · exact .inr r
  | .dct ks xs, v, h => by
    obtain ⟨a, vs, e, r, na, z, k, q⟩ := h
    refine ⟨a, vs, e, x.keep _ _ na r, fun hm => ?_, z, k, q.mono x.ext gr⟩
    rcases gm a hm with k | k
    · exact na k
    · rw [r] at k; cases k
theorem RS.mono (x : ExtM m H H') (gr : Grows H (fb B m) F') (gm : ∀ a ∈ m', a ∈ m ∨ H a = none) (pre : m <+: m') : ∀ {s : SV} {v : V}, RS K H (fb B m) m s v → RS K H' F' m' s v
  | .d false p, v, h => RV.mono (p := p) x.ext gr h
  | .d true p, v, h => RB.mono x gr gm h
  | .r n, v, h => by
    obtain ⟨a, e, rfl⟩ := h
    obtain ⟨t, rfl⟩ := pre
    refine ⟨a, ?_, rfl⟩
    rw [List.getElem?_append_left (List.getElem?_eq_some_iff.mp e).1]
    exact e
theorem RO.mono {m m' : List Addr} {a : Addr} {F : Fb} (x : Ext F H H') (gr : Grows H F F') (gk : ∀ b ∈ m, b ∈ m') (ha : H' a = H a) (hd : ∀ b, (H b = some (.own a) ∨ H b = some (.xd [])) → H' b = H b) : ∀ {o : OO}, RO K H F m a o → RO K H' F' m' a o
  | .l xs, h => by
    obtain ⟨vs, e, z, q⟩ := h
    exact ⟨vs, by rw [ha]; exact e, z, q.mono x gr⟩
  | .d ks xs, h => by
    obtain ⟨vs, e, z, k, q⟩ := h
    exact ⟨vs, by rw [ha]; exact e, z, k, q.mono x gr⟩
  | .ins c fs, h => by
    obtain ⟨dx, vs, r, d, n, f, q⟩ := h
    have e := hd dx d
    refine ⟨dx, vs, ?_, by rw [e]; exact d, n, gk _ f, fun i p h => ?_⟩
    · rcases r with ⟨h1, h2⟩ | ⟨h1, h2⟩
      · exact .inl ⟨by rw [ha]; exact h1, h2⟩
      · exact .inr ⟨by rw [ha]; exact h1, by rw [e]; exact h2⟩
    · obtain ⟨v, h1, h2⟩ := q i p h
      exact ⟨v, h1, h2.mono x gr⟩
  | .hid, h => by
    obtain ⟨h1, h2, h3⟩ := h
    exact ⟨by rw [ha]; exact h1, by rw [ha]; exact h2, by rw [ha]; exact h3⟩
theorem own_ne {a b : Addr} (d : H b = some (.own a) ∨ H b = some (.xd [])) : H b ≠ none := by
  rcases d with d | d <;> (rw [d]; exact fun z => nomatch z)
theorem Same.at (s : Same H H') {a : Addr} (n : H a ≠ none) : H' a = H a := by
  cases e : H a with
  | none => exact absurd e n
  | some x => exact s _ _ e
theorem grow_push {a : Addr} (ha : H a = none) : Grows H (fb B m) (fb B (m ++ [a])) := fun b hb => by
  rcases hb with hb | hb
  · exact .inl (.inl hb)
  · rcases List.mem_append.mp hb with hb | hb
    · exact .inl (.inr hb)
    · refine .inr ?_
      rw [List.mem_singleton.mp hb]; exact ha
theorem new_push {a : Addr} (ha : H a = none) : ∀ b ∈ m ++ [a], b ∈ m ∨ H b = none := fun b hb => by
  rcases List.mem_append.mp hb with hb | hb
  · exact .inl hb
  · refine .inr ?_
    rw [List.mem_singleton.mp hb]; exact ha
/-- a new object becomes one's own -/
theorem Rl.push {a : Addr} {o : OO} (R : Rl K H B m σ h τ) (s : Same H H') (ha : H a = none) (ro : RO K H' (fb B (m ++ [a])) (m ++ [a]) a o) : Rl K H' B (m ++ [a]) σ (h ++ [o]) τ := by
  have nF : ¬ fb B m a := R.toRh.free ha
  refine ⟨⟨fun b hb => ?_, fun b hb hB => ?_, ?_, by simp [R.len], fun n b u h1 h2 => ?_⟩, R.sl, fun i t e => ?_⟩
  · rw [Same.at s (R.fok b hb)]; exact R.fok b hb
  · rcases List.mem_append.mp hb with hb | hb
    · exact R.ap b hb hB
    · rw [List.mem_singleton.mp hb] at hB
      exact nF (.inl hB)
  · refine List.nodup_append.mpr ⟨R.nd, by simp, fun x hx y hy => ?_⟩
    rw [List.mem_singleton.mp hy]
    intro e
    rw [e] at hx
    exact nF (.inr hx)
  · by_cases hn : n < m.length
    · rw [List.getElem?_append_left hn] at h1
      rw [List.getElem?_append_left (by rw [← R.len]; exact hn)] at h2
      have ro1 := R.obj n b u h1 h2
      exact ro1.mono (.of_same s) (grow_push ha) (fun b hb => List.mem_append_left _ hb) (Same.at s ro1.ne) fun b d => Same.at s (own_ne d)
    · have hn2 : n = m.length := by
        have := (List.getElem?_eq_some_iff.mp h1).1
        simp at this
        omega
      subst hn2
      rw [List.getElem?_append_right (Nat.le_refl _), Nat.sub_self] at h1
      rw [R.len, List.getElem?_append_right (Nat.le_refl _), Nat.sub_self] at h2
      cases h1; cases h2
      exact ro
  · obtain ⟨v, e1, e2⟩ := R.slot i t e
    exact ⟨v, e1, e2.mono (ExtM.of s) (grow_push ha) (new_push ha) (List.prefix_append _ _)⟩
/-- more is forbidden -/
theorem Rl.forb {D : Addr} (R : Rl K H B m σ h τ) (s : Same H H') (hD : H D = none) (nD : H' D ≠ none) : Rl K H' (fun b => B b ∨ b = D) m σ h τ := by
  have nF : ¬ fb B m D := R.toRh.free hD
  have gr : Grows H (fb B m) (fb (fun b => B b ∨ b = D) m) := fun b hb => by
    rcases hb with (hb | hb) | hb
    · exact .inl (.inl hb)
    · exact .inr (by rw [hb]; exact hD)
    · exact .inl (.inr hb)
  refine ⟨⟨fun b hb => ?_, fun a ha hb => ?_, R.nd, R.len, fun n a o h1 h2 => ?_⟩, R.sl, fun i t e => ?_⟩
  · rcases hb with hb | hb
    · rw [Same.at s (R.fok b hb)]; exact R.fok b hb
    · rw [hb]; exact nD
  · rcases hb with hb | hb
    · exact R.ap a ha hb
    · rw [hb] at ha
      exact nF (.inr ha)
  · have ro := R.obj n a o h1 h2
    exact ro.mono (.of_same s) gr (fun b hb => hb) (Same.at s ro.ne) fun b d => Same.at s (own_ne d)
  · obtain ⟨v, e1, e2⟩ := R.slot i t e
    exact ⟨v, e1, e2.mono (ExtM.of s) gr (fun a ha => .inl ha) (List.prefix_refl _)⟩
/-- a new object of one's own -/
def rN (K : PySem.W.Frag) (B : Fb) (m : List Addr) (σ : St) (h : OH) (τ : L2.St) (H0 : Hp) : Hp → PV → V → Prop := fun H' p v => ∃ a o, v = .ref a ∧ ownO p = some o ∧ H0 a = none ∧ Rl K H' B (m ++ [a]) σ (h ++ [o]) τ
theorem rN.rf {H0 : Hp} {p : PV} {v : V} {n : Nat} (r : rN K B m σ h τ H0 H' p v) : RF K H' B m n p v := by
  obtain ⟨a, o, rfl, e, _, R⟩ := r
  have ha : (m ++ [a])[m.length]? = some a := by rw [List.getElem?_append_right (Nat.le_refl _), Nat.sub_self]; rfl
  have hh : m.length = h.length := by have := R.len; simpa using this
  have ho : (h ++ [o])[m.length]? = some o := by rw [hh, List.getElem?_append_right (Nat.le_refl _), Nat.sub_self]; rfl
  have ro := R.obj _ a o ha ho
  have na : ¬ fb B m a := fun q => by
    rcases q with q | q
    · exact R.ap a (by simp) q
    · have nd := R.nd
      rw [List.nodup_append] at nd
      exact nd.2.2 a q a (by simp) rfl
  have sub : ∀ b, fb B m b → fb B (m ++ [a]) b := fun b hb => by
    rcases hb with hb | hb
    · exact .inl hb
    · exact .inr (List.mem_append_left _ hb)
  cases p with
  | lst xs =>
    cases e
    obtain ⟨vs, e1, e2, e3⟩ := ro
    exact RF.of ⟨a, vs, rfl, e1, e2, na, e3.weak sub⟩
  | dct ks xs =>
    cases e
    obtain ⟨vs, e1, e2, e3, e4⟩ := ro
    exact RF.of ⟨a, vs, rfl, e1, e2, na, e3, e4.weak sub⟩
  | _ => simp only [ownO] at e; cases e
end
/-- an expression that makes a new object -/
def tEN (K : PySem.W.Frag) (mg : Str → Option Value) (P : Pg) (W : WX) (c : CE) : TE := fun τ H Q => ∃ B m σ h, Rl K H B m σ h τ ∧ Gd K mg W B m τ (rN K B m σ h τ H) H (ev P c σ h) Q
theorem s_new {X : Cx} {W : WX} {P : Pg} {a : Expr} {ca : CE} (ha : PE X a (tEN X.K X.mg P W ca)) : PE X a (tE X.K X.mg P W ca) := by
  refine PE.imp ha fun τ H Q ⟨B, m, σ, h, R, g⟩ => ⟨B, m, σ, h, R, g.rel fun H' p v r => ?_⟩
  exact r.rf
theorem s_lstN {X : Cx} {W : WX} {P : Pg} {es : List Expr} {ces : List CE} {pos : Pos} (ha : PA X es (tAs X.K X.mg P W ces)) : PE X (.List es pos) (tEN X.K X.mg P W (.lst ces)) := by
  refine PE.imp (pe_lst ha) fun τ H Q ⟨B, m, σ, h, R, g⟩ => ?_
  simp only [ev] at g
  refine ⟨B, m, σ, h, R, Gd.imp (Gd.bnd (rel := rA X.K B m σ ces) g) fun vs H1 ⟨ps, s1, r1, g1⟩ => ?_⟩
  obtain ⟨⟨c1, c2⟩, g1⟩ := Gd.ite g1
  have r2 := r1.zero c2
  have hz : vs.length ≤ sizeLine := by rw [← r2.length, ← big_eq]; exact c1
  refine ⟨hz, fun t nt => Gd.new g1 (same_upd nt) ⟨t, .l ps, rfl, rfl, ?_, ?_⟩⟩
  · cases e : H t with
    | none => rfl
    | some x => rw [s1 _ _ e] at nt; cases nt
  · refine (R.same s1).push (same_upd nt) nt ⟨vs, upd_same, hz, ?_⟩
    exact r2.mono (.of_same (same_upd nt)) (grow_push nt)
theorem s_dct0N {X : Cx} {W : WX} {P : Pg} {pos : Pos} : PE X (.Dict [] [] pos) (tEN X.K X.mg P W .dct0) := by
  refine PE.imp pe_dnewK fun τ H Q ⟨B, m, σ, h, R, g⟩ => ?_
  simp only [ev] at g
  refine fun t nt => Gd.new g (same_upd nt) ⟨t, .d [] [], rfl, rfl, nt, ?_⟩
  exact R.push (same_upd nt) nt ⟨[], upd_same, Nat.zero_le _, rfl, rfl⟩
def isTp : TN → Bool
  | .tp _ => true
  | .nm _ => false
/-- a target's reading -/
def gT (K : PySem.W.Frag) (t : TN) : TG := fun v τ H Q => ∃ B m σ h p σ', Rl K H B m σ h τ ∧ RI (isTp t) K H (fb B m) p v ∧ bindT t p σ = some σ' ∧
  ∀ τ', Rl K H B m σ' h τ' → (∀ i, i ∉ slotsT t → τ'[i]? = τ[i]?) → τ'.length = τ.length → Q τ' H
def gTs (K : PySem.W.Frag) (ts : List TN) : TGs := fun vs τ H Q => ∃ B m σ h ps σ', Rl K H B m σ h τ ∧ RVs K H (fb B m) ps vs ∧ bindTs ts ps σ = some σ' ∧
  ∀ τ', Rl K H B m σ' h τ' → (∀ i, i ∉ slotsTs ts → τ'[i]? = τ[i]?) → τ'.length = τ.length → Q τ' H
theorem PG.imp {X : Cx} {e : Expr} {t t' : TG} (h : PG X e t) (i : ∀ v σ H Q, t' v σ H Q → t v σ H Q) : PG X e t' := ⟨fun pins s σ H v u Q I r hw => h.run pins s σ H v u Q I r (i _ _ _ _ hw)⟩
theorem PGs.imp {X : Cx} {e : List Expr} {t t' : TGs} (h : PGs X e t) (i : ∀ v σ H Q, t' v σ H Q → t v σ H Q) : PGs X e t' := ⟨fun pins s σ H v u Q I r hw => h.run pins s σ H v u Q I r (i _ _ _ _ hw)⟩
/-- the names that may be stored -/
def Sto (X : Cx) (x : Str) : Prop := Loc X.env.scope x ∧ (X.fn x = true ∨ X.env.scope.names.lookup x = some .local)
mutual
/-- the text's target is t -/
def mT (N : List Str) (as_ : Str → Bool) : TN → Expr → Bool
  | .nm i, .Name x _ => decide (N[i]? = some x) && as_ x
  | .tp ts, .Tuple es _ _ => mTs N as_ ts es
  | _, _ => false
def mTs (N : List Str) (as_ : Str → Bool) : List TN → List Expr → Bool
  | [], [] => true
  | t :: ts, e :: es => mT N as_ t e && mTs N as_ ts es
  | _, _ => false
end
theorem asg_cons {e : Expr} {es : List Expr} {env : Env} (h : notStar e = true) : assignEach (e :: es) env = (false, assign e env) :: assignEach es env := by
  cases e <;> first | rfl | cases h
theorem mT_star {N : List Str} {as_ : Str → Bool} {t : TN} {e : Expr} (h : mT N as_ t e = true) : notStar e = true := by
  cases t <;> cases e <;> first | rfl | (simp only [mT] at h; cases h)
theorem mTs_each {N : List Str} {as_ : Str → Bool} {env : Env} : ∀ {ts : List TN} {es : List Expr}, mTs N as_ ts es = true → (assignEach es env).length = ts.length ∧ (assignEach es env).findIdx? (·.1) = none
  | [], [], _ => ⟨rfl, rfl⟩
  | t :: ts, e :: es, h => by
    simp only [mTs, Bool.and_eq_true] at h
    obtain ⟨i1, i2⟩ := mTs_each (env := env) h.2
    rw [asg_cons (mT_star h.1)]
    exact ⟨by simp [i1], by simp [List.findIdx?_cons, i2]⟩
  | [], _ :: _, h => by simp only [mTs] at h; cases h
  | _ :: _, [], h => by simp only [mTs] at h; cases h
theorem bindTs_len : ∀ {ts : List TN} {ps : List PV} {σ σ' : St}, bindTs ts ps σ = some σ' → ts.length = ps.length
  | [], [], _, _, _ => rfl
  | t :: ts, p :: ps, σ, σ', h => by
    simp only [bindTs] at h
    obtain ⟨σ1, _, h2⟩ := Option.bind_eq_some_iff.mp h
    rw [List.length_cons, List.length_cons, bindTs_len h2]
  | [], _ :: _, _, _, h => by simp only [bindTs] at h; cases h
  | _ :: _, [], _, _, h => by simp only [bindTs] at h; cases h
mutual
theorem s_tgt {X : Cx} {N : List Str} {as_ : Str → Bool} (hN : X.N = N) (nd : N.Nodup) (hc : X.calm = true) (ha : ∀ x, as_ x = true → Sto X x) : ∀ {t : TN} {e : Expr}, mT N as_ t e = true → PG X e (gT X.K t)
  | .nm i, .Name x px, h => by
    simp only [mT, Bool.and_eq_true, decide_eq_true_eq] at h
    obtain ⟨s1, s2⟩ := ha x h.2
    refine PG.imp (pg_name (i := i) (by rw [hN]; exact nd) (by rw [hN]; exact h.1) s1 s2) fun v τ H Q ⟨B, m, σ, hh, p, σ', R, rv, hb, q⟩ => ?_
    simp only [bindT, Option.some.injEq] at hb
    subst hb
    refine q _ (R.put (RI.rv rv)) (fun j hj => ?_) (by simp)
    have : i ≠ j := by
      intro e; exact hj (by simp [slotsT, e])
    rw [List.getElem?_set_ne this]
  | .tp ts, .Tuple es k pt, h => by
    simp only [mT] at h
    obtain ⟨l1, l2⟩ := mTs_each (env := X.env) h
    refine PG.imp (pg_tup hc (s_tgts hN nd hc ha h) l1 l2) fun v τ H Q ⟨B, m, σ, hh, p, σ', R, rv, hb, q⟩ => ?_
    cases p with
    | tup xs =>
      have rv' : ∃ a vs, v = .ref a ∧ SqT X.K H a vs ∧ RVs X.K H (fb B m) xs vs := by
        rcases rv with ⟨a, vs, e, hs, _, rr⟩ | ⟨_, ys, a, vs, e, e2, hs, rr⟩
        · exact ⟨a, vs, e, hs.sq, rr⟩
        · cases e; exact ⟨a, vs, e2, hs, rr⟩
      obtain ⟨a, vs, rfl, hs, rr⟩ := rv'
      simp only [bindT] at hb
      exact ⟨a, vs, rfl, hs, by rw [← rr.length, bindTs_len hb], B, m, σ, hh, xs, σ', R, rr, hb, fun τ' r' o l => q τ' r' (by simpa only [slotsT] using o) l⟩
    | _ => simp only [bindT] at hb; cases hb
  | .nm _, .Tuple _ _ _, h => by simp only [mT] at h; cases h
  | .tp _, .Name _ _, h => by simp only [mT] at h; cases h
  | t, .BoolOp .., h => by cases t <;> (simp only [mT] at h; cases h)
  | t, .NamedExpr .., h => by cases t <;> (simp only [mT] at h; cases h)
  | t, .BinOp .., h => by cases t <;> (simp only [mT] at h; cases h)
  | t, .UnaryOp .., h => by cases t <;> (simp only [mT] at h; cases h)
  | t, .Lambda .., h => by cases t <;> (simp only [mT] at h; cases h)
  | t, .IfExp .., h => by cases t <;> (simp only [mT] at h; cases h)
  | t, .Dict .., h => by cases t <;> (simp only [mT] at h; cases h)
  | t, .Set .., h => by cases t <;> (simp only [mT] at h; cases h)
  | t, .ListComp .., h => by cases t <;> (simp only [mT] at h; cases h)
  | t, .SetComp .., h => by cases t <;> (simp only [mT] at h; cases h)
  | t, .DictComp .., h => by cases t <;> (simp only [mT] at h; cases h)
  | t, .GeneratorExp .., h => by cases t <;> (simp only [mT] at h; cases h)
  | t, .Await .., h => by cases t <;> (simp only [mT] at h; cases h)
  | t, .Yield .., h => by cases t <;> (simp only [mT] at h; cases h)
  | t, .YieldFrom .., h => by cases t <;> (simp only [mT] at h; cases h)
  | t, .Compare .., h => by cases t <;> (simp only [mT] at h; cases h)
  | t, .Call .., h => by cases t <;> (simp only [mT] at h; cases h)
  | t, .FormattedValue .., h => by cases t <;> (simp only [mT] at h; cases h)
  | t, .JoinedStr .., h => by cases t <;> (simp only [mT] at h; cases h)
  | t, .Constant .., h => by cases t <;> (simp only [mT] at h; cases h)
  | t, .Attribute .., h => by cases t <;> (simp only [mT] at h; cases h)
  | t, .Subscript .., h => by cases t <;> (simp only [mT] at h; cases h)
  | t, .Starred .., h => by cases t <;> (simp only [mT] at h; cases h)
  | t, .List .., h => by cases t <;> (simp only [mT] at h; cases h)
  | t, .Slice .., h => by cases t <;> (simp only [mT] at h; cases h)
theorem s_tgts {X : Cx} {N : List Str} {as_ : Str → Bool} (hN : X.N = N) (nd : N.Nodup) (hc : X.calm = true) (ha : ∀ x, as_ x = true → Sto X x) : ∀ {ts : List TN} {es : List Expr}, mTs N as_ ts es = true → PGs X es (gTs X.K ts)
  | [], [], _ => by
    refine PGs.imp pgs_nil fun vs τ H Q ⟨B, m, σ, hh, ps, σ', R, rv, hb, q⟩ => ?_
    cases ps with
    | nil =>
      simp only [bindTs, Option.some.injEq] at hb
      subst hb
      exact ⟨rv, q τ R (fun _ _ => rfl) rfl⟩
    | cons _ _ => simp only [bindTs] at hb; cases hb
  | t :: ts, e :: es, h => by
    simp only [mTs, Bool.and_eq_true] at h
    refine PGs.imp (pgs_cons (s_tgt hN nd hc ha h.1) (s_tgts hN nd hc ha h.2) (by rw [asg_cons (mT_star h.1)]; rfl)) fun vs τ H Q ⟨B, m, σ, hh, ps, σ', R, rv, hb, q⟩ => ?_
    cases ps with
    | nil => simp only [bindTs] at hb; cases hb
    | cons p ps =>
      obtain ⟨v, r, rfl, hv, hr⟩ := rv
      simp only [bindTs] at hb
      obtain ⟨σ1, h1, h2⟩ := Option.bind_eq_some_iff.mp hb
      refine ⟨v, r, rfl, B, m, σ, hh, p, σ1, R, .inl hv, h1, fun τ1 R1 o1 l1 => ?_⟩
      refine ⟨B, m, σ1, hh, ps, σ', R1, hr, h2, fun τ2 R2 o2 l2 => q τ2 R2 (fun i hi => ?_) (l2.trans l1)⟩
      have hi' : i ∉ slotsT t ∧ i ∉ slotsTs ts := by simpa [slotsTs] using hi
      rw [o2 i hi'.2, o1 i hi'.1]
  | [], _ :: _, h => by simp only [mTs] at h; cases h
  | _ :: _, [], h => by simp only [mTs] at h; cases h
end
end Ev

set_option Elab.async false
set_option linter.all false
set_option maxRecDepth 100000
/-! Ev11: comprehensions. -/
namespace Ev
open PySem PySem.Spec PyProof.Rows L2
def tCs (K : PySem.W.Frag) (mg : Str → Option Value) (P : Pg) (W : WX) (cs : List CE) : TT := fun τ H Q => ∃ B m σ h, Rl K H B m σ h τ ∧ Gd K mg W B m τ rB H (evC P cs σ h) Q
theorem PTs.imp {X : Cx} {e : List Expr} {t t' : TT} (h : PTs X e t) (i : ∀ σ H Q, t' σ H Q → t σ H Q) : PTs X e t' := ⟨fun pins s σ H Q I hw => h.run pins s σ H Q I (i _ _ _ hw)⟩
section
variable {X : Cx} {W : WX} {P : Pg} {a : Expr} {ca : CE}
theorem s_tests0 : PTs X [] (tCs X.K X.mg P W []) := by
  refine PTs.imp pts_nil fun τ H Q ⟨B, m, σ, h, R, g⟩ => ?_
  exact Gd.ok (rel := rB) (p := true) (by simpa only [evC] using g) rfl
theorem s_tests1 (ha : PT X a (tT X.K X.mg P W ca)) : PTs X [a] (tCs X.K X.mg P W [ca]) := by
  refine PTs.imp (pts_one ha) fun τ H Q ⟨B, m, σ, h, R, g⟩ => ?_
  simp only [evC, ev_tr] at g
  refine ⟨B, m, σ, h, R, Gd.imp (Gd.bnd (rel := rB) g) fun x H1 ⟨p, s1, r1, g1⟩ => ?_⟩
  cases (show p = x from r1)
  cases x with
  | true => rw [if_pos rfl] at g1; exact Gd.ok g1 rfl
  | false => rw [if_neg (by decide)] at g1; exact Gd.ok g1 rfl
end
theorem evI_bnd {P : Pg} {c : CE} {σ : St} {h : OH} {β : Type} {k : List PV → R β} : (bnd (ev P c σ h) fun x => withO (itemsOf x) k) = bnd (evI P c σ h) k := by
  simp only [evI]
  cases ev P c σ h with
  | none => rfl
  | some r =>
    cases r with
    | error x => rfl
    | ok p => simp only [bnd_ok]; cases itemsOf p <;> rfl
def consO (o : Option PV) (ys : List PV) : List PV := match o with | some y => y :: ys | none => ys
theorem compL_nil {f : St → R (Option PV)} {t : TN} {σ : St} : compL f t σ [] = ok [] := rfl
theorem compL_cons {f : St → R (Option PV)} {t : TN} {σ : St} {x : PV} {xs zs : List PV} (h : compL f t σ (x :: xs) = some (.ok zs)) : ∃ σ' o zs', bindT t x σ = some σ' ∧ f σ' = some (.ok o) ∧ compL f t σ xs = some (.ok zs') ∧ zs = consO o zs' := by
  unfold compL at h
  cases q : bindT t x σ with
  | none => rw [q] at h; cases h
  | some σ' =>
    rw [q] at h
    dsimp only at h
    cases qf : f σ' with
    | none => rw [qf] at h; cases h
    | some r =>
      cases r with
      | error x => rw [qf] at h; cases h
      | ok o =>
        rw [qf] at h
        simp only [bnd_ok] at h
        cases qc : compL f t σ xs with
        | none => rw [qc] at h; cases h
        | some r =>
          cases r with
          | error x => rw [qc] at h; cases h
          | ok zs' =>
            rw [qc] at h
            refine ⟨σ', o, zs', rfl, qf, rfl, ?_⟩
            simp only [bnd_ok] at h
            cases o <;> (cases h; rfl)
theorem wipe_eq {τ τ2 : L2.St} {vs : List Nat} (h : ∀ i, i ∉ vs → τ2[i]? = (L2.wipe τ vs)[i]?) (hl : τ2.length = τ.length) : L2.wipe τ2 vs = L2.wipe τ vs := by
  apply List.ext_getElem?
  intro i
  by_cases hi : i ∈ vs
  · have key : ∀ (σ : L2.St), (L2.wipe σ vs)[i]? = if i < σ.length then some none else none := by
      intro σ
      by_cases q : i < σ.length
      · rw [if_pos q]
        have hw : i < (L2.wipe σ vs).length := by rw [wipe_length]; exact q
        cases e : (L2.wipe σ vs)[i]? with
        | none => rw [List.getElem?_eq_none_iff] at e; omega
        | some o =>
          cases o with
          | none => rfl
          | some x => exact absurd hi (wipe_some e).2
      · rw [if_neg q, List.getElem?_eq_none_iff, wipe_length]; omega
    rw [key, key, hl]
  · rw [wipe_out hi, h i hi]
/-- the wish of a block: nothing is raised -/
def W0 : WX := fun _ _ _ _ => False
section
variable {X : Cx} {W : WX} {P : Pg} {elt tg iter : Expr} {ifs : List Expr} {ce ci : CE} {cs : List CE} {t : TN} {scope : Scope} {own : List (Str × Nat)} {pos : Pos}
/-- the turns of a comprehension -/
theorem comp_read {τ : L2.St} {H : Hp} {Q : VK} (hw : weakI ci = true → isTp t = true) (ho : own.map (·.2) = slotsT t) (hq : tEN X.K X.mg P W (.comp ce t ci cs) τ H Q) :
    tLc (tI X.K X.mg P W ci) (gT X.K t) (tCs X.K X.mg P W0 cs) (tE X.K X.mg P W0 ce) (own.map (·.2)) τ H Q := by
  obtain ⟨B, m, σ, h, R, g⟩ := hq
  simp only [ev, evI_bnd] at g
  refine ⟨B, m, σ, h, R, Gd.imp (Gd.bnd (rel := rI_ (weakI ci) X.K B m (flgI σ ci)) g) fun J H1 ⟨xs, s1, ⟨src, hz, hY, hS, _⟩, g1⟩ => ?_⟩
  clear g
  intro D nD
  generalize hf : (fun σ' => bnd (evC P cs σ' h) fun b => if b = true then bnd (ev P ce σ' h) fun y => if flg σ' ce = 0 then ok (some y) else none else ok none) = f at g1
  cases ec : compL f t (wipeS σ (slotsT t)) xs with
  | none => rw [ec] at g1; exact g1.elim
  | some r =>
    cases r with
    | error x => rw [ec] at g1; exact g1.elim
    | ok ys =>
      rw [ec] at g1
      have g2 : Gd X.K X.mg W B m τ (rN X.K B m σ h τ H) H1 (ok (.lst ys)) Q := g1
      clear g1
      have R1 := R.same s1
      have nF : ¬ fb B m D := R1.toRh.free nD
      -- while the list is made, it is forbidden
      let B' : Fb := fun b => B b ∨ b = D
      have gr : Grows H1 (fb B m) (fb B' m) := fun b hb => by
        rcases hb with (hb | hb) | hb
        · exact .inl (.inl hb)
        · exact .inr (by rw [hb]; exact nD)
        · exact .inl (.inr hb)
      have sub : ∀ b, fb B m b → fb B' m b := fun b hb => by
        rcases hb with hb | hb
        · exact .inl (.inl hb)
        · exact .inr hb
      have RB : ∀ H2 : Hp, (∀ b x, H1 b = some x → H2 b = some x) → H2 D ≠ none → Rl X.K H2 B' m σ h τ := fun H2 k nd => R1.forb k nD nd
      refine ⟨fun i mm H2 => mm = xs.length - i ∧ i ≤ xs.length ∧ (∀ b x, H1 b = some x → H2 b = some x) ∧ ∃ pre acc zs, H2 D = some (.lst acc) ∧ RVs X.K H2 (fb B' m) pre acc ∧ pre.length ≤ i ∧ compL f t (wipeS σ (slotsT t)) (xs.drop i) = some (.ok zs) ∧ pre ++ zs = ys,
        ⟨xs.length, rfl, Nat.zero_le _, fun b x e => by rw [upd_ne (ne_of_none e nD)]; exact e, [], [], ys, upd_same, rfl, Nat.le_refl _, by rw [List.drop_zero]; exact ec, rfl⟩, ?_⟩
      rintro i mm H2 ⟨em, hi, k2, pre, acc, zs, eD, ra, hp, ez, ey⟩
      have xt : Ext (fb B m) H1 H2 := ⟨fun b x _ e => k2 b x e, fun b _ e => k2 b _ e, fun b _ _ e => k2 b _ e⟩
      have hY2 := hY H2 i (fb B' m) xt gr fun z hz => k2 _ _ (hS z hz)
      by_cases hlt : i < xs.length
      · have ex : xs[i]? = some xs[i] := List.getElem?_eq_getElem hlt
        have ed : xs.drop i = xs[i] :: xs.drop (i + 1) := List.drop_eq_getElem_cons hlt
        rw [ed] at ez
        obtain ⟨σ', o, zs', hb, hfo, hc, rfl⟩ := compL_cons ez
        obtain ⟨hgo, hy⟩ := hY2.1 _ ex
        refine .inr ⟨hgo, fun H3 => ∃ pre acc zs, (∀ b x, H1 b = some x → H3 b = some x) ∧ H3 D = some (.lst acc) ∧ RVs X.K H3 (fb B' m) pre acc ∧ pre.length ≤ i + 1 ∧ compL f t (wipeS σ (slotsT t)) (xs.drop (i + 1)) = some (.ok zs) ∧ pre ++ zs = ys, fun H3 ⟨pre3, acc3, zs3, k3, e3, r3, p3, c3, y3⟩ => ⟨mm - 1, by omega, by omega, by omega, k3, pre3, acc3, zs3, e3, r3, p3, c3, y3⟩, fun v H3 hv => ?_⟩
        obtain ⟨s3, rv⟩ := hy v H3 hv
        have k3 : ∀ b x, H1 b = some x → H3 b = some x := fun b x e => s3 _ _ (k2 _ _ e)
        have eD3 : H3 D = some (.lst acc) := s3 _ _ eD
        have RW := (RB H3 k3 (by rw [eD3]; exact fun z => nomatch z)).wipe (slotsT t)
        rw [ho]
        refine ⟨B', m, wipeS σ (slotsT t), h, xs[i], σ', RW, rv.up hw, hb, fun τ2 R2 o2 l2 => ⟨wipe_eq o2 (by rw [l2, wipe_length]), ?_⟩⟩
        rw [← hf] at hfo
        dsimp only at hfo
        cases qc : evC P cs σ' h with
        | none => rw [qc] at hfo; cases hfo
        | some rc =>
          cases rc with
          | error x => rw [qc] at hfo; cases hfo
          | ok b =>
            rw [qc] at hfo
            simp only [bnd_ok] at hfo
            refine ⟨B', m, σ', h, R2, ?_⟩
            rw [qc]
            intro b' H4 s4 eb
            cases (show b = b' from eb)
            cases b with
            | false =>
              rw [if_neg (by decide)] at hfo ⊢
              cases hfo
              exact ⟨pre, acc, zs', fun b x e => s4 _ _ (k3 _ _ e), s4 _ _ eD3, (ra.same s3).same s4, by omega, hc, ey⟩
            | true =>
              rw [if_pos rfl] at hfo ⊢
              cases qe : ev P ce σ' h with
              | none => rw [qe] at hfo; cases hfo
              | some re =>
                cases re with
                | error x => rw [qe] at hfo; cases hfo
                | ok y =>
                  rw [qe] at hfo
                  simp only [bnd_ok] at hfo
                  split at hfo
                  · rename_i fz
                    cases hfo
                    refine ⟨B', m, σ', h, R2.same s4, ?_⟩
                    rw [qe]
                    intro w H5 s5 rw'
                    have ry : RV X.K H5 (fb B' m) y w := RF.zero rw' fz
                    have eD5 : H5 D = some (.lst acc) := s5 _ _ (s4 _ _ eD3)
                    have ra5 : RVs X.K H5 (fb B' m) pre acc := ((ra.same s3).same s4).same s5
                    have hl := ra5.length
                    refine ⟨acc, eD5, by omega, pre ++ [y], acc ++ [w], zs', fun b x e => ?_, upd_same, ?_, by simp; omega, hc, by rw [← ey]; simp [consO]⟩
                    · rw [upd_ne (ne_of_none e nD)]
                      exact s5 _ _ (s4 _ _ (k3 _ _ e))
                    · have x5 : Ext (fb B' m) H5 (upd H5 D (.lst (acc ++ [w]))) := by
                        have nb : ∀ b, ¬ fb B' m b → b ≠ D := fun b hb e => hb (.inl (.inr e))
                        refine ⟨fun b x hb e => by rw [upd_ne (nb b hb)]; exact e, fun b xs' e => ?_, fun b o u e => ?_⟩
                        · rw [upd_ne (fun z => by rw [z, eD5] at e; cases e)]; exact e
                        · rw [upd_ne (fun z => by rw [z, eD5] at e; cases e)]; exact e
                      exact (ra5.append (RVs.one ry)).mono x5 .refl
                  · cases hfo
      · have ei : i = xs.length := by omega
        subst ei
        refine .inl ⟨hY2.2 (Nat.le_refl _), ?_⟩
        rw [List.drop_length] at ez
        have ezs : zs = [] := by
          have : some (Except.ok (ε := Exn) ([] : List PV)) = some (Except.ok zs) := ez
          cases this; rfl
        subst ezs
        rw [List.append_nil] at ey
        subst ey
        have hl := ra.length
        refine Gd.new g2 (fun b x e => k2 b x e) ⟨D, .l pre, rfl, rfl, ?_, R1.push k2 nD ⟨acc, eD, by omega, ra.weak fun b hb => ?_⟩⟩
        · cases e : H D with
          | none => rfl
          | some x => rw [s1 _ _ e] at nD; cases nD
        · rcases hb with hb | hb
          · exact .inl (.inl hb)
          · rcases List.mem_append.mp hb with hb | hb
            · exact .inr hb
            · exact .inl (.inr (List.mem_singleton.mp hb))
theorem s_compN (hc : X.calm = true) (hN : X.N.Nodup) (hi : PI X tg iter (tI X.K X.mg P W ci)) (ok : BlkOk X.N X.env.scope scope own) (hw : weakI ci = true → isTp t = true) (ho : own.map (·.2) = slotsT t)
    (hg : ∀ (s : Shared) (H : Hp) (C : Addr) (cl : List (Str × Addr)) (fp : List Addr), PG (X.blk s H scope (compEnvC scope cl C X.env) fp) tg (gT X.K t))
    (ht : ∀ (s : Shared) (H : Hp) (C : Addr) (cl : List (Str × Addr)) (fp : List Addr), PTs (X.blk s H scope (compEnvC scope cl C X.env) fp) ifs (tCs X.K X.mg P W0 cs))
    (he : ∀ (s : Shared) (H : Hp) (C : Addr) (cl : List (Str × Addr)) (fp : List Addr), PE (X.blk s H scope (compEnvC scope cl C X.env) fp) elt (tE X.K X.mg P W0 ce)) (hs : ∀ x, foldedSetIterable iter X.env x = pure x) :
    PE X (.ListComp elt [⟨tg, iter, ifs, 0⟩] scope pos) (tEN X.K X.mg P W (.comp ce t ci cs)) :=
  PE.imp (pe_lc hc hN hi ok hg ht he hs) fun _ _ _ hq => comp_read hw ho hq
end
end Ev

set_option Elab.async false
set_option linter.all false
set_option maxRecDepth 100000
/-! Ev12: statements by the evaluator. -/
namespace Ev
open PySem PySem.Spec PyProof.Rows L2
theorem PS.imp {X : Cx} {e : Stmt} {t t' : TS} (h : PS X e t) (i : ∀ D σ H, t' D σ H → t D σ H) : PS X e t' := ⟨fun pins s σ H D I hw => h.run pins s σ H D I (i _ _ _ hw)⟩
theorem PSs.imp {X : Cx} {e : List Stmt} {t t' : TS} (h : PSs X e t) (i : ∀ D σ H, t' D σ H → t D σ H) : PSs X e t' := ⟨fun pins s σ H D I hw => h.run pins s σ H D I (i _ _ _ hw)⟩
section
variable (K : PySem.W.Frag) (mg : Str → Option Value) (W : WX) (B : Fb)
/-- what is wanted at an end -/
def GF (m : List Addr) (D : Ends) (τ : L2.St) (H : Hp) : Fl → Prop
  | .nx => D.nx τ H
  | .bk => D.bk τ H
  | .ct => D.ct τ H
  | .ret s => ∀ v, RS K H (fb B m) m s v → D.rt v H
  | .exc x => ∀ cls d, RX K mg H (fb B m) cls d x → W cls d τ H
/-- what is wanted of a statement -/
def GO (m : List Addr) (H : Hp) (D : Ends) (r : O) : Prop := match r with
  | none => False
  | some (fl, σ', h') => ∀ τ' H' m', m <+: m' → (∀ a ∈ m', a ∈ m ∨ H a = none) → ExtM m H H' → Rl K H' B m' σ' h' τ' → GF K mg W B m' D τ' H' fl
end
def tS (K : PySem.W.Frag) (mg : Str → Option Value) (P : Pg) (W : WX) (s : CS) : TS := fun D τ H => ∃ B m σ h, Rl K H B m σ h τ ∧ GO K mg W B m H D (evS P s σ h)
def tSs (K : PySem.W.Frag) (mg : Str → Option Value) (P : Pg) (W : WX) (s : List CS) : TS := fun D τ H => ∃ B m σ h, Rl K H B m σ h τ ∧ GO K mg W B m H D (evSs P s σ h)
theorem ExtM.trans {m m1 : List Addr} {H H1 H2 : Hp} (x : ExtM m H H1) (n : ∀ a ∈ m1, a ∈ m ∨ H a = none) (y : ExtM m1 H1 H2) : ExtM m H H2 := by
  refine ⟨fun b z hb e => y.keep b z (fun q => ?_) (x.keep b z hb e), fun b xs e => y.tup b xs (x.tup b xs e), fun b o u e => y.frz b o u (x.frz b o u e)⟩
  rcases n b q with k | k
  · exact hb k
  · rw [k] at e; cases e
theorem ExtM.none {m : List Addr} {H H1 : Hp} (x : ExtM m H H1) {a : Addr} (e : H1 a = none) : a ∈ m ∨ H a = none := by
  by_cases h : a ∈ m
  · exact .inl h
  · cases q : H a with
    | none => exact .inr rfl
    | some z => rw [x.keep a z h q] at e; cases e
theorem new_trans {m m1 m2 : List Addr} {H H1 : Hp} (x : ExtM m H H1) (n : ∀ a ∈ m1, a ∈ m ∨ H a = none) (n2 : ∀ a ∈ m2, a ∈ m1 ∨ H1 a = none) : ∀ a ∈ m2, a ∈ m ∨ H a = none := fun a ha => by
  rcases n2 a ha with k | k
  · exact n a k
  · exact x.none k
section
variable {K : PySem.W.Frag} {mg : Str → Option Value} {W : WX} {B : Fb} {m m1 : List Addr} {D : Ends} {H H1 : Hp} {τ : L2.St} {σ : St} {h : OH}
theorem GO.go {r : O} (g : GO K mg W B m H D r) (p : m <+: m1) (n : ∀ a ∈ m1, a ∈ m ∨ H a = none) (x : ExtM m H H1) : GO K mg W B m1 H1 D r := by
  cases r with
  | none => exact g
  | some r =>
    obtain ⟨fl, σ', h'⟩ := r
    exact fun τ' H' m' p' n' x' R' => g τ' H' m' (p.trans p') (new_trans x n n') (x.trans n x') R'
theorem GO.later {r : O} (g : GO K mg W B m H D r) (s : Same H H1) : GO K mg W B m H1 D r := g.go (List.prefix_refl _) (fun _ h => .inl h) (.of s)
theorem GO.at {fl : Fl} (g : GO K mg W B m H D (some (fl, σ, h))) (R : Rl K H B m σ h τ) : GF K mg W B m D τ H fl := g τ H m (List.prefix_refl _) (fun _ h => .inl h) (.of Same.refl) R
theorem GO.seq {r : O} {k : St → OH → O} (g : GO K mg W B m H D (Ev.seq r k)) : GO K mg W B m H { D with nx := fun τ' H' => ∃ m' σ' h', Rl K H' B m' σ' h' τ' ∧ GO K mg W B m' H' D (k σ' h') } r := by
  cases r with
  | none => exact g
  | some r =>
    obtain ⟨fl, σ', h'⟩ := r
    cases fl with
    | nx => exact fun τ' H' m' p n x R => ⟨m', σ', h', R, GO.go (r := k σ' h') g p n x⟩
    | bk => exact g
    | ct => exact g
    | ret s => exact g
    | exc x => exact g
theorem GO.val {α β : Type} {rel : Hp → α → β → Prop} {r : R α} {k : α → O} (R : Rl K H B m σ h τ) (g : GO K mg W B m H D (Ev.val r σ h k)) :
    Gd K mg W B m τ rel H r (fun v H1 => ∃ p, Same H H1 ∧ rel H1 p v ∧ GO K mg W B m H1 D (k p)) := by
  cases r with
  | none => exact g
  | some r =>
    cases r with
    | ok a => exact fun v H1 s q => ⟨a, s, q, GO.later (r := k a) g s⟩
    | error x => exact fun cls d H1 s q => g τ H1 m (List.prefix_refl _) (fun _ h => .inl h) (.of s) (R.same s) cls d q
theorem GO.val' {α β : Type} {rel : Hp → α → β → Prop} {r : R α} {k : α → O} (R : Rl K H B m σ h τ) (g : GO K mg W B m H D (Ev.val r σ h k)) :
    Gd K mg W B m τ rel H r (fun v H1 => ∃ p, Same H H1 ∧ rel H1 p v ∧ GO K mg W B m H D (k p)) := by
  cases r with
  | none => exact g
  | some r =>
    cases r with
    | ok a => exact fun v H1 s q => ⟨a, s, q, g⟩
    | error x => exact fun cls d H1 s q => g τ H1 m (List.prefix_refl _) (fun _ h => .inl h) (.of s) (R.same s) cls d q
theorem GO.some {α : Type} {o : Option α} {k : α → Fl × St × OH} (g : GO K mg W B m H D (o.map k)) : ∃ a, o = some a ∧ GO K mg W B m H D (.some (k a)) := by
  cases o with
  | none => exact g.elim
  | some a => exact ⟨a, rfl, g⟩
theorem GO.bind {α : Type} {o : Option α} {k : α → O} (g : GO K mg W B m H D (o.bind k)) : ∃ a, o = .some a ∧ GO K mg W B m H D (k a) := by
  cases o with
  | none => exact g.elim
  | some a => exact ⟨a, rfl, g⟩
theorem GO.ite {c : Prop} [Decidable c] {r : O} (g : GO K mg W B m H D (if c then r else none)) : c ∧ GO K mg W B m H D r := by
  by_cases h : c
  · rw [if_pos h] at g; exact ⟨h, g⟩
  · rw [if_neg h] at g; exact g.elim
end

section
variable {X : Cx} {W : WX} {P : Pg} {st : Stmt} {rest : List Stmt} {s : CS} {ss : List CS} {pos px : Pos} {i : Nat} {x : Str} {e : Expr} {ce : CE}
theorem s_nil : PSs X [] (tSs X.K X.mg P W []) := by
  refine PSs.imp pss_nil fun D τ H ⟨B, m, σ, h, R, g⟩ => ?_
  simp only [evSs] at g
  exact g.at R
theorem s_cons (h1 : PS X st (tS X.K X.mg P W s)) (h2 : PSs X rest (tSs X.K X.mg P W ss)) : PSs X (st :: rest) (tSs X.K X.mg P W (s :: ss)) := by
  refine PSs.imp (pss_cons h1 h2) fun D τ H ⟨B, m, σ, h, R, g⟩ => ?_
  simp only [evSs] at g
  refine ⟨B, m, σ, h, R, ?_⟩
  have g' := g.seq
  -- the way on
  cases q : evS P s σ h with
  | none => rw [q] at g'; exact g'
  | some r =>
    rw [q] at g'
    obtain ⟨fl, σ', h'⟩ := r
    cases fl with
    | nx =>
      intro τ' H' m' p n x R'
      obtain ⟨m2, σ2, h2, R2, g2⟩ := g' τ' H' m' p n x R'
      exact ⟨B, m2, σ2, h2, R2, g2⟩
    | bk => exact g'
    | ct => exact g'
    | ret s => exact g'
    | exc x => exact g'
theorem s_pass : PS X (.Pass pos) (tS X.K X.mg P W .pass) := by
  refine PS.imp ps_pass fun D τ H ⟨B, m, σ, h, R, g⟩ => ?_
  simp only [evS] at g
  exact g.at R
theorem s_break : PS X (.Break pos) (tS X.K X.mg P W .brk) := by
  refine PS.imp ps_break fun D τ H ⟨B, m, σ, h, R, g⟩ => ?_
  simp only [evS] at g
  exact g.at R
theorem s_cont : PS X (.Continue pos) (tS X.K X.mg P W .cont) := by
  refine PS.imp ps_continue fun D τ H ⟨B, m, σ, h, R, g⟩ => ?_
  simp only [evS] at g
  exact g.at R
/-- the slot of a kept value -/
theorem RF.slot {K : PySem.W.Frag} {H : Hp} {B : Fb} {m : List Addr} {n : Nat} {p : PV} {v : V} (r : RF K H B m n p v) (h : n ≤ 1) : RS K H (fb B m) m (.d (decide (n = 1)) p) v := by
  by_cases z : n = 1
  · rw [show decide (n = 1) = true by simp [z]]
    exact r.bor h
  · rw [show decide (n = 1) = false by simp [z]]
    exact r.zero (by omega)
/-- name = e, by any rule of the layer -/
theorem s_asg0 {te : TE} (hs : PS X st (tAsg te (gName i))) (hi : ∀ τ H Q, tE X.K X.mg P W ce τ H Q → te τ H Q) : PS X st (tS X.K X.mg P W (.asg (.nm i) ce)) := by
  refine PS.imp hs fun D τ H ⟨B, m, σ, h, R, g⟩ => ?_
  simp only [evS] at g
  refine hi _ _ _ ⟨B, m, σ, h, R, Gd.imp (GO.val (rel := rF X.K B m (flg σ ce)) R g) fun v H1 ⟨p, s1, r1, g1⟩ => ?_⟩
  obtain ⟨c, g1⟩ := g1.ite
  exact g1.at ((R.same s1).put (RF.slot r1 c))
theorem s_new0 {te : TE} (hs : PS X st (tAsg te (gName i))) (hi : ∀ τ H Q, tEN X.K X.mg P W ce τ H Q → te τ H Q) : PS X st (tS X.K X.mg P W (.new i ce)) := by
  refine PS.imp hs fun D τ H ⟨B, m, σ, h, R, g⟩ => ?_
  simp only [evS] at g
  refine hi _ _ _ ⟨B, m, σ, h, R, Gd.imp (GO.val' (rel := rN X.K B m σ h τ H) R g) fun v H1 ⟨p, s1, r1, g1⟩ => ?_⟩
  obtain ⟨o, e, g1⟩ := g1.some
  obtain ⟨a, o', rfl, e', na, R1⟩ := r1
  rw [e] at e'; cases e'
  have hm : m.length = h.length := R.len
  refine GO.at (m := m ++ [a]) (g1.go (List.prefix_append _ _) (new_push na) (.of s1)) (R1.put ⟨a, ?_, rfl⟩)
  · rw [← hm, List.getElem?_append_right (Nat.le_refl _), Nat.sub_self]; rfl
/-- targets -/
theorem s_asgT {t : TN} {tg : Expr} (he : PE X e (tE X.K X.mg P W ce)) (hg : PG X tg (gT X.K t)) (ht : ∀ j, t ≠ .nm j) (hs : swapsWithSole [tg] e pos.line X.env = pure false) (hw : swappedStores [tg] e X.env = pure none)
    (h1 : (assignEach [tg] X.env).map (·.2) = [assign tg X.env]) : PS X (.Assign [tg] e pos) (tS X.K X.mg P W (.asg t ce)) := by
  refine PS.imp (ps_asg he hg hs hw h1) fun D τ H ⟨B, m, σ, h, R, g⟩ => ?_
  cases t with
  | nm j => exact absurd rfl (ht j)
  | tp ts =>
    simp only [evS] at g
    refine ⟨B, m, σ, h, R, Gd.imp (GO.val (rel := rF X.K B m (flg σ ce)) R g) fun v H1 ⟨p, s1, r1, g1⟩ => ?_⟩
    obtain ⟨c, g1⟩ := g1.ite
    obtain ⟨σ', e, g1⟩ := g1.some
    exact ⟨B, m, σ, h, p, σ', R.same s1, .inl (r1.zero c), e, fun τ' R' _ _ => g1.at R'⟩

/-! ### several arguments -/
section
variable (K : PySem.W.Frag) (mg : Str → Option Value) (W : WX) (B : Fb) (σ : St) (τ : L2.St)
def GP (m : List Addr) (H : Hp) (r : R (List SV × OH)) (Q : List V → Hp → Prop) : Prop := match r with
  | none => False
  | some (.ok p) => ∀ vs H' m', m <+: m' → (∀ a ∈ m', a ∈ m ∨ H a = none) → Same H H' → Rl K H' B m' σ p.2 τ → RSs K H' (fb B m') m' p.1 vs → Q vs H'
  | some (.error x) => ∀ cls d H', Same H H' → RX K mg H' (fb B m) cls d x → W cls d τ H'
end
def tP (K : PySem.W.Frag) (mg : Str → Option Value) (P : Pg) (W : WX) (ms : List AM) (es : List CE) : TA := fun τ H Q => ∃ B m σ h, Rl K H B m σ h τ ∧ GP K mg W B σ τ m H (evP P ms es σ h) Q
section
variable {K : PySem.W.Frag} {mg : Str → Option Value} {B : Fb} {m m1 : List Addr} {D : Ends} {H H1 : Hp} {τ : L2.St} {σ : St} {h : OH} {Q : List V → Hp → Prop}
theorem GP.go {r : R (List SV × OH)} (g : GP K mg W B σ τ m H r Q) (p : m <+: m1) (n : ∀ a ∈ m1, a ∈ m ∨ H a = none) (x : Same H H1) : GP K mg W B σ τ m1 H1 r Q := by
  cases r with
  | none => exact g
  | some r =>
    cases r with
    | ok r => exact fun vs H' m' p' n' x' R' => g vs H' m' (p.trans p') (new_trans (.of x) n n') (Same.trans' x x') R'
    | error z =>
      refine fun cls d H' s r => g cls d H' (Same.trans' x s) (r.weak fun b hb => ?_)
      rcases hb with hb | hb
      · exact .inl hb
      · exact .inr (p.subset hb)
theorem GP.val {α β : Type} {rel : Hp → α → β → Prop} {r : R α} {k : α → R (List SV × OH)} (g : GP K mg W B σ τ m H (Ev.bnd r k) Q) :
    Gd K mg W B m τ rel H r (fun v H1 => ∃ p, Same H H1 ∧ rel H1 p v ∧ GP K mg W B σ τ m H (k p) Q) := by
  cases r with
  | none => exact g
  | some r =>
    cases r with
    | ok a => exact fun v H1 s q => ⟨a, s, q, g⟩
    | error x => exact g
theorem GP.later {r : R (List SV × OH)} (g : GP K mg W B σ τ m H r Q) (s : Same H H1) : GP K mg W B σ τ m H1 r Q := g.go (List.prefix_refl _) (fun _ h => .inl h) s
theorem GP.cons {r : R (List SV × OH)} {s : SV} {v : V} (rs : RS K H (fb B m) m s v) (g : GP K mg W B σ τ m H (Ev.bnd r fun r => ok (s :: r.1, r.2)) Q) : GP K mg W B σ τ m H r (fun vs H' => Q (v :: vs) H') := by
  cases r with
  | none => exact g
  | some r =>
    cases r with
    | error x => exact g
    | ok p =>
      intro vs H' m' hp hn sm R rr
      refine g (v :: vs) H' m' hp hn sm R ⟨v, vs, rfl, ?_, rr⟩
      refine rs.mono (.of sm) (fun b hb => ?_) hn hp
      rcases hb with hb | hb
      · exact .inl (.inl hb)
      · rcases hn b hb with k | k
        · exact .inl (.inr k)
        · exact .inr k
theorem GP.ite {c : Prop} [Decidable c] {r : R (List SV × OH)} (g : GP K mg W B σ τ m H (if c then r else none) Q) : c ∧ GP K mg W B σ τ m H r Q := by
  by_cases h : c
  · rw [if_pos h] at g; exact ⟨h, g⟩
  · rw [if_neg h] at g; exact g.elim
theorem GP.wo {γ : Type} {o : Option γ} {k : γ → R (List SV × OH)} (g : GP K mg W B σ τ m H (withO o k) Q) : ∃ p, o = some p ∧ GP K mg W B σ τ m H (k p) Q := by
  cases o with
  | none => exact g.elim
  | some p => exact ⟨p, rfl, g⟩
end
variable {a : Expr} {es : List Expr} {ms : List AM} {ces : List CE} {ca : CE}
theorem p_nil : PA X [] (tP X.K X.mg P W [] []) := by
  refine PA.imp pa_nil fun τ H Q ⟨B, m, σ, h, R, g⟩ => ?_
  simp only [evP] at g
  exact g [] H m (List.prefix_refl _) (fun _ h => .inl h) Same.refl R rfl
theorem p_v (ha : PE X a (tE X.K X.mg P W ca)) (hr : PA X es (tP X.K X.mg P W ms ces)) (hn : notStar a = true) : PA X (a :: es) (tP X.K X.mg P W (.v :: ms) (ca :: ces)) := by
  refine PA.imp (pa_cons ha hr (star_no (env := X.env) (es := es) hn)) fun τ H Q ⟨B, m, σ, h, R, g⟩ => ?_
  simp only [evP] at g
  refine ⟨B, m, σ, h, R, Gd.imp (GP.val (rel := rF X.K B m (flg σ ca)) g) fun v H1 ⟨p, s1, r1, g1⟩ => ?_⟩
  obtain ⟨c, g1⟩ := g1.ite
  exact ⟨B, m, σ, h, R.same s1, (g1.later s1).cons (RF.slot r1 c)⟩
theorem p_n (ha : PE X a (tEN X.K X.mg P W ca)) (hr : PA X es (tP X.K X.mg P W ms ces)) (hn : notStar a = true) : PA X (a :: es) (tP X.K X.mg P W (.n :: ms) (ca :: ces)) := by
  refine PA.imp (pa_cons ha hr (star_no (env := X.env) (es := es) hn)) fun τ H Q ⟨B, m, σ, h, R, g⟩ => ?_
  simp only [evP] at g
  refine ⟨B, m, σ, h, R, Gd.imp (GP.val (rel := rN X.K B m σ h τ H) g) fun v H1 ⟨p, s1, r1, g1⟩ => ?_⟩
  obtain ⟨o, e, g1⟩ := g1.wo
  obtain ⟨b, o', rfl, e', na, R1⟩ := r1
  rw [e] at e'; cases e'
  have rs : RS X.K H1 (fb B (m ++ [b])) (m ++ [b]) (.r h.length) (.ref b) := ⟨b, by rw [← R.len, List.getElem?_append_right (Nat.le_refl _), Nat.sub_self]; rfl, rfl⟩
  exact ⟨B, m ++ [b], σ, h ++ [o], R1, GP.cons rs (g1.go (List.prefix_append _ _) (new_push na) s1)⟩
theorem slotR_eq {σ : St} {j n : Nat} (e : slotR σ j = some n) : σ[j]? = some (some (.r n)) := by
  unfold slotR at e
  split at e
  · rename_i k q; cases e; exact q
  · cases e
theorem p_o {j : Nat} (ha : PE X a (tVar j)) (hr : PA X es (tP X.K X.mg P W ms ces)) (hn : notStar a = true) : PA X (a :: es) (tP X.K X.mg P W (.o :: ms) (.loc j :: ces)) := by
  refine PA.imp (pa_cons ha hr (star_no (env := X.env) (es := es) hn)) fun τ H Q ⟨B, m, σ, h, R, g⟩ => ?_
  simp only [evP] at g
  obtain ⟨n, e, g1⟩ := g.wo
  obtain ⟨v, hv, rs⟩ := R.slot j _ (slotR_eq e)
  exact ⟨v, hv, B, m, σ, h, R, g1.cons rs⟩
end
end Ev

set_option Elab.async false
set_option linter.all false
set_option maxRecDepth 100000
/-! Ev13: statements by the evaluator. -/
namespace Ev
open PySem PySem.Spec PyProof.Rows L2
section
variable {K : PySem.W.Frag} {mg : Str → Option Value} {W : WX} {B : Fb} {m m1 : List Addr} {D : Ends} {H H1 : Hp} {τ : L2.St} {σ : St} {h : OH}
theorem RO.nt {m : List Addr} {a : Addr} {F : Fb} : ∀ {o : OO}, RO K H F m a o → (∀ xs, H a ≠ some (.tup xs)) ∧ ∀ ob u, H a ≠ some (.frz ob u)
  | .l xs, r => by
    obtain ⟨vs, e, _⟩ := r
    exact ⟨fun xs q => (by rw [e] at q; cases q), fun ob u q => (by rw [e] at q; cases q)⟩
  | .d ks xs, r => by
    obtain ⟨vs, e, _⟩ := r
    exact ⟨fun xs q => (by rw [e] at q; cases q), fun ob u q => (by rw [e] at q; cases q)⟩
  | .ins _ _, r => by
    obtain ⟨dx, vs, r, _⟩ := r
    rcases r with ⟨e, _⟩ | ⟨e, _⟩
    · exact ⟨fun xs q => (by rw [e] at q; cases q), fun ob u q => (by rw [e] at q; cases q)⟩
    · exact ⟨fun xs q => (by rw [e] at q; unfold SlX.SlO at q; cases q), fun ob u q => (by rw [e] at q; unfold SlX.SlO at q; cases q)⟩
  | .hid, r => r.2
theorem RO.nk {m : List Addr} {a : Addr} {F : Fb} : ∀ {o : OO}, o ≠ .hid → RO K H F m a o → ∀ b, H a ≠ some (.own b) ∧ H a ≠ some (.xd [])
  | .l xs, _, r => by
    obtain ⟨vs, e, _⟩ := r
    exact fun b => ⟨fun q => (by rw [e] at q; cases q), fun q => (by rw [e] at q; cases q)⟩
  | .d ks xs, _, r => by
    obtain ⟨vs, e, _⟩ := r
    exact fun b => ⟨fun q => (by rw [e] at q; cases q), fun q => (by rw [e] at q; cases q)⟩
  | .ins _ _, _, r => by
    obtain ⟨dx, vs, r, _⟩ := r
    rcases r with ⟨e, _⟩ | ⟨e, _⟩
    · exact fun b => ⟨fun q => (by rw [e] at q; cases q), fun q => (by rw [e] at q; cases q)⟩
    · exact fun b => ⟨fun q => (by rw [e] at q; unfold SlX.SlO at q; cases q), fun q => (by rw [e] at q; unfold SlX.SlO at q; cases q)⟩
  | .hid, n, _ => absurd rfl n
theorem nd_ix {N : List Addr} (hN : N.Nodup) {i j : Nat} {x : Addr} (a : N[i]? = some x) (b : N[j]? = some x) : i = j := by
  obtain ⟨k1, e1⟩ := List.getElem?_eq_some_iff.mp a
  obtain ⟨k2, e2⟩ := List.getElem?_eq_some_iff.mp b
  have := List.pairwise_iff_getElem.mp hN
  rcases Nat.lt_trichotomy i j with q | q | q
  · exact absurd (e1.trans e2.symm) (this i j k1 k2 q)
  · exact q
  · exact absurd (e2.trans e1.symm) (this j i k2 k1 q)
theorem Rh.objAt (R : Rh K H B m h) {n : Nat} {o : OO} (ho : h[n]? = some o) : ∃ a, m[n]? = some a ∧ RO K H (fb B m) m a o := by
  have hn : n < m.length := by rw [R.len]; exact (List.getElem?_eq_some_iff.mp ho).1
  exact ⟨m[n], List.getElem?_eq_getElem hn, R.obj n _ o (List.getElem?_eq_getElem hn) ho⟩
theorem extM_upd {n : Nat} {a : Addr} {o : OO} {ho : HO} (ha : m[n]? = some a) (ro : RO K H (fb B m) m a o) : ExtM m H (upd H a ho) := by
  obtain ⟨t1, t2⟩ := ro.nt
  refine ⟨fun b x hb e => ?_, fun b xs e => ?_, fun b ob u e => ?_⟩
  · rw [upd_ne (fun z => hb (by rw [z]; exact List.mem_of_getElem? ha))]; exact e
  · rw [upd_ne (fun z => t1 xs (by rw [← z]; exact e))]; exact e
  · rw [upd_ne (fun z => t2 ob u (by rw [← z]; exact e))]; exact e
/-- an own object is written -/
theorem Rl.write {n : Nat} {a : Addr} {o o' : OO} {ho : HO} (R : Rl K H B m σ h τ) (ha : m[n]? = some a) (hh : h[n]? = some o) (hx : o ≠ .hid) (ro' : RO K (upd H a ho) (fb B m) m a o') : Rl K (upd H a ho) B m σ (h.set n o') τ := by
  have ro := R.obj n a o ha hh
  have x : ExtM m H (upd H a ho) := extM_upd ha ro
  refine ⟨⟨fun b hb => ?_, R.ap, R.nd, by rw [List.length_set]; exact R.len, fun k b u h1 h2 => ?_⟩, R.sl, fun i t e => ?_⟩
  · have : b ≠ a := fun z => R.ap a (List.mem_of_getElem? ha) (by rw [← z]; exact hb)
    rw [upd_ne this]
    exact R.fok b hb
  · by_cases hk : n = k
    · subst hk
      rw [ha] at h1; cases h1
      rw [List.getElem?_set_self (List.getElem?_eq_some_iff.mp hh).1] at h2
      cases h2
      exact ro'
    · rw [List.getElem?_set_ne hk] at h2
      have nb : b ≠ a := fun z => by
        rw [z] at h1
        obtain ⟨k1, e1⟩ := List.getElem?_eq_some_iff.mp h1
        obtain ⟨k2, e2⟩ := List.getElem?_eq_some_iff.mp ha
        exact hk (nd_ix R.nd ha h1)
      exact (R.obj k b u h1 h2).mono x.ext .refl (fun _ hb => hb) (upd_ne nb) fun c d => upd_ne fun z => by
        rw [z] at d
        exact d.elim (ro.nk hx b).1 (ro.nk hx b).2
  · obtain ⟨v, e1, e2⟩ := R.slot i t e
    exact ⟨v, e1, e2.mono x .refl (fun a ha => .inl ha) (List.prefix_refl _)⟩
theorem wrote {n : Nat} {a : Addr} {o o' : OO} {ho : HO} (g : GO K mg W B m H D (some (Fl.nx, σ, h.set n o'))) (R : Rl K H B m σ h τ) (ha : m[n]? = some a) (hh : h[n]? = some o) (hx : o ≠ .hid) (ro' : RO K (upd H a ho) (fb B m) m a o') : D.nx τ (upd H a ho) :=
  g τ _ m (List.prefix_refl _) (fun _ h => .inl h) (extM_upd ha (R.obj n a o ha hh)) (R.write ha hh hx ro')
end
section
variable {X : Cx} {W : WX} {P : Pg} {st : Stmt} {rest : List Stmt} {s : CS} {ss : List CS} {pos px p2 : Pos} {i j : Nat} {x : Str} {e k : Expr} {ce ck : CE}
theorem s_expr (he : PE X e (tE X.K X.mg P W ce)) (hs : swapsWith e none pos.line X.env = pure false) : PS X (.Expr e pos) (tS X.K X.mg P W (.expr ce)) := by
  refine PS.imp (ps_expr he hs) fun D τ H ⟨B, m, σ, h, R, g⟩ => ?_
  simp only [evS] at g
  refine ⟨B, m, σ, h, R, Gd.imp (GO.val (rel := rF X.K B m (flg σ ce)) R g) fun v H1 ⟨p, s1, r1, g1⟩ => ?_⟩
  exact g1.at (R.same s1)
theorem s_doc {z : Str} {jj : Nat} : PS X (.Expr (.Constant (.str z) jj px) pos) (tS X.K X.mg P W .pass) := by
  refine PS.imp ps_doc fun D τ H ⟨B, m, σ, h, R, g⟩ => ?_
  simp only [evS] at g
  exact g.at R
theorem s_retN : PS X (.Return none pos) (tS X.K X.mg P W .retN) := by
  refine PS.imp ps_retN fun D τ H ⟨B, m, σ, h, R, g⟩ => ?_
  simp only [evS] at g
  exact g.at R _ rfl
def isLoc : CE → Bool
  | .loc _ => true
  | _ => false
theorem s_ret (he : PE X e (tE X.K X.mg P W ce)) (hl : isLoc ce = false) : PS X (.Return (some e) pos) (tS X.K X.mg P W (.ret ce)) := by
  refine PS.imp (ps_ret he) fun D τ H ⟨B, m, σ, h, R, g⟩ => ?_
  have g' : GO X.K X.mg W B m H D (val (ev P ce σ h) σ h fun p => if flg σ ce = 0 then some (.ret (.d false p), σ, h) else none) := by
    cases ce <;> first | (cases hl; done) | (simp only [evS] at g; exact g)
  refine ⟨B, m, σ, h, R, Gd.imp (GO.val (rel := rF X.K B m (flg σ ce)) R g') fun v H1 ⟨p, s1, r1, g1⟩ => ?_⟩
  obtain ⟨c, g1⟩ := g1.ite
  exact g1.at (R.same s1) _ (r1.zero c)
theorem s_retL (he : PE X e (tVar j)) : PS X (.Return (some e) pos) (tS X.K X.mg P W (.ret (.loc j))) := by
  refine PS.imp (ps_ret he) fun D τ H ⟨B, m, σ, h, R, g⟩ => ?_
  simp only [evS] at g
  cases q : slotR σ j with
  | some n =>
    rw [q] at g
    obtain ⟨v, hv, rs⟩ := R.slot j _ (slotR_eq q)
    exact ⟨v, hv, g.at R v rs⟩
  | none =>
    rw [q] at g
    have hE : PE X e (tE X.K X.mg P W (.loc j)) := s_loc he
    cases qs : σ[j]? with
    | none => simp only [ev, qs] at g; exact g.elim
    | some o =>
      cases o with
      | none => simp only [ev, qs] at g; exact g.elim
      | some sv =>
        cases sv with
        | r n => simp only [slotR, qs] at q; cases q
        | d kk p =>
          obtain ⟨v, hv, rs⟩ := R.slot j _ qs
          simp only [ev, qs, viewS, Option.map_some, val_ok] at g
          obtain ⟨c, g⟩ := g.ite
          refine ⟨v, hv, g.at R v ?_⟩
          cases kk with
          | false => exact rs
          | true => simp only [flg, qs] at c; cases c
theorem s_if {c : Expr} {a b : List Stmt} {cc : CE} {sa sb : List CS} (hc : PT X c (tT X.K X.mg P W cc)) (ha : PSs X a (tSs X.K X.mg P W sa)) (hb : PSs X b (tSs X.K X.mg P W sb)) : PS X (.If c a b pos) (tS X.K X.mg P W (.if_ cc sa sb)) := by
  refine PS.imp (ps_if hc ha hb) fun D τ H ⟨B, m, σ, h, R, g⟩ => ?_
  simp only [evS] at g
  refine ⟨B, m, σ, h, R, Gd.imp (GO.val (rel := rB) R g) fun v H1 ⟨p, s1, r1, g1⟩ => ?_⟩
  cases (show p = v from r1)
  cases v with
  | true => rw [if_pos rfl] at g1 ⊢; exact ⟨B, m, σ, h, R.same s1, g1⟩
  | false => rw [if_neg (by decide)] at g1 ⊢; exact ⟨B, m, σ, h, R.same s1, g1⟩
/-- i op= e, ints -/
def opS : Op → Option (Operator × (Int → Int → Int))
  | .add => some (.Add, fun i j => i + j)
  | .sub => some (.Sub, fun i j => i - j)
  | _ => none
theorem s_aug {o : Op} {op : Operator} {f : Int → Int → Int} (ho : opS o = some (op, f)) (hN : X.N.Nodup) (hi : X.N[i]? = some x) (hx : Sto X x) (he : PE X e (tE X.K X.mg P W ce)) : PS X (.AugAssign (.Name x px) op e pos) (tS X.K X.mg P W (.aug i o ce)) := by
  have hp : PIp X op (ipI f) := by
    cases o <;> first | (cases ho; exact ip_add) | (cases ho; exact ip_sub) | (cases ho; done)
  refine PS.imp (ps_aug hN hi hx.1 he hp hx.2) fun D τ H ⟨B, m, σ, h, R, g⟩ => ?_
  simp only [evS] at g
  cases qs : σ[i]? with
  | none => rw [qs] at g; exact g.elim
  | some oo =>
    cases oo with
    | none => rw [qs] at g; exact g.elim
    | some sv =>
      cases sv with
      | r n => rw [qs] at g; exact g.elim
      | d kk p =>
        rw [qs] at g
        obtain ⟨v, hv, rs⟩ := R.slot i _ qs
        refine ⟨v, hv, B, m, σ, h, R, Gd.imp (GO.val (rel := rF X.K B m (flg σ ce)) R g) fun w H1 ⟨q, s1, r1, g1⟩ => ?_⟩
        obtain ⟨n, e1, g1⟩ := g1.some
        have : ∃ a b, p = .int a ∧ q = .int b ∧ n = f a b := by
          cases o <;> first
            | (cases ho; done)
            | (cases ho
               cases p <;> cases q <;> first
                 | (cases e1; exact ⟨_, _, rfl, rfl, rfl⟩)
                 | (cases e1; done))
        obtain ⟨a, b, rfl, rfl, rfl⟩ := this
        have e2 : v = .int a := by
          cases kk with
          | false => exact rs
          | true => exact rs
        refine ⟨a, b, e2, r1.top.int, g1.at ((R.same s1).put ?_)⟩
        exact (rfl : V.int _ = V.int _)
/-! ### own objects are written -/
theorem few {es : List Expr} {env : Env} {pos : Pos} (h : es.all notStar = true) : (backTo pos (starEach es env)).all (fun x => !x.1) = true := by
  have := star_any0 (es := es) (env := env) (pos := pos) h
  rw [List.any_eq_false] at this
  rw [List.all_eq_true]
  intro x hx
  have := this x hx
  simpa using this
theorem slot_own {K : PySem.W.Frag} {H : Hp} {B : Fb} {m : List Addr} {σ : St} {h : OH} {τ : L2.St} {n : Nat} {o : OO} (R : Rl K H B m σ h τ) (q : slotR σ i = some n) (ho : h[n]? = some o) :
    ∃ a, τ[i]? = some (some (.ref a)) ∧ m[n]? = some a ∧ RO K H (fb B m) m a o := by
  obtain ⟨v, hv, a, ha, rfl⟩ := R.slot i _ (slotR_eq q)
  exact ⟨a, hv, ha, R.obj n a o ha ho⟩
theorem s_app {oe : Expr} {apos cpos : Pos} (hv : PE X oe (tVar i)) (he : PE X e (tE X.K X.mg P W ce)) (hn : notStar e = true) (hb : attributeBase oe "append" X.env (eval oe X.env) = eval oe X.env) (hl : (apos.endLine == cpos.line) = true) :
    PS X (.Expr (.Call (.Attribute oe "append" apos) [e] [] cpos) pos) (tS X.K X.mg P W (.app i ce)) := by
  have hfew : ((backTo cpos (starEach [e] X.env)).all (fun x => !x.1) && (backToKw cpos (keywordEach [] X.env)).all (fun x => x.1.isSome) && decide ([e].length + ([] : List Keyword).length + (if ([] : List Keyword).isEmpty then 0 else 1) < 30)) = true := by
    rw [few (by simp [hn])]; rfl
  refine PS.imp (ps_expr (pe_bm PySem.F.plainAttrs_list PySem.F.slot_list_append PySem.F.type_list_append mt_append hv (pa_cons he pa_nil (star_no hn)) hb hfew hl (star_no hn) rfl) rfl) fun D τ H ⟨B, m, σ, h, R, g⟩ => ?_
  simp only [evS] at g
  cases q : slotR σ i with
  | none => rw [q] at g; exact g.elim
  | some n =>
    rw [q] at g
    cases qh : h[n]? with
    | none => simp only [qh] at g; exact g.elim
    | some o =>
      cases o with
      | l xs =>
        simp only [qh] at g
        obtain ⟨a, hv, ha, vs, e1, e2, e3⟩ := slot_own R q qh
        refine ⟨.ref a, hv, .inl ⟨rfl, vs, .inl (.inl e1)⟩, B, m, σ, h, R, Gd.imp (GO.val (rel := rF X.K B m (flg σ ce)) R g) fun w H1 ⟨p, s1, r1, g1⟩ => ?_⟩
        obtain ⟨⟨c1, c2⟩, g1⟩ := g1.ite
        have e1' := s1 _ _ e1
        have hlen : vs.length < sizeLine := by rw [← e3.length, ← big_eq]; exact c2
        refine ⟨a, vs, w, rfl, rfl, e1', hlen, ?_⟩
        have R1 := R.same s1
        refine wrote (o' := .l (xs ++ [p])) g1 R1 ha qh (fun z => nomatch z) ⟨vs ++ [w], upd_same, by simp; omega, ?_⟩
        exact ((e3.same s1).append (RVs.one (r1.zero c1))).mono (extM_upd ha (R1.obj n a _ ha qh)).ext .refl
      | d ks vs => simp only [qh] at g; exact g.elim
      | ins c fs => simp only [qh] at g; exact g.elim
      | hid => simp only [qh] at g; exact g.elim
theorem s_ext {oe : Expr} {apos cpos : Pos} (hv : PE X oe (tVar i)) (he : PE X e (tE X.K X.mg P W ce)) (hn : notStar e = true) (hb : attributeBase oe "extend" X.env (eval oe X.env) = eval oe X.env) (hl : (apos.endLine == cpos.line) = true) :
    PS X (.Expr (.Call (.Attribute oe "extend" apos) [e] [] cpos) pos) (tS X.K X.mg P W (.ext i ce)) := by
  have hfew : ((backTo cpos (starEach [e] X.env)).all (fun x => !x.1) && (backToKw cpos (keywordEach [] X.env)).all (fun x => x.1.isSome) && decide ([e].length + ([] : List Keyword).length + (if ([] : List Keyword).isEmpty then 0 else 1) < 30)) = true := by
    rw [few (by simp [hn])]; rfl
  refine PS.imp (ps_expr (pe_bm PySem.F.plainAttrs_list PySem.F.slot_list_extend PySem.F.type_list_extend mt_extend hv (pa_cons he pa_nil (star_no hn)) hb hfew hl (star_no hn) rfl) rfl) fun D τ H ⟨B, m, σ, h, R, g⟩ => ?_
  simp only [evS] at g
  cases q : slotR σ i with
  | none => rw [q] at g; exact g.elim
  | some n =>
    rw [q] at g
    cases qh : h[n]? with
    | none => simp only [qh] at g; exact g.elim
    | some o =>
      cases o with
      | l xs =>
        simp only [qh] at g
        obtain ⟨a, hv, ha, vs, e1, e2, e3⟩ := slot_own R q qh
        refine ⟨.ref a, hv, .inl ⟨rfl, vs, .inl (.inl e1)⟩, B, m, σ, h, R, Gd.imp (GO.val (rel := rF X.K B m (flg σ ce)) R g) fun w H1 ⟨p, s1, r1, g1⟩ => ?_⟩
        obtain ⟨ys, e5, g2⟩ := g1.bind
        clear g1
        obtain ⟨⟨c1, c2⟩, g1⟩ := g2.ite
        clear g2
        have e1' := s1 _ _ e1
        cases p with
        | lst zs =>
          cases e5
          obtain ⟨b, ws, rfl, f1, f2, f3, f4⟩ := r1.zero c1
          have hlen : vs.length + ws.length ≤ sizeLine := by rw [← e3.length, ← f4.length, ← big_eq]; exact c2
          refine ⟨a, b, vs, ws, rfl, rfl, e1', f1, hlen, ?_⟩
          have R1 := R.same s1
          refine wrote (o' := .l (xs ++ ys)) g1 R1 ha qh (fun z => nomatch z) ⟨vs ++ ws, upd_same, by simp; omega, ?_⟩
          exact ((e3.same s1).append f4).mono (extM_upd ha (R1.obj n a _ ha qh)).ext .refl
        | _ => simp only [listOf] at e5; cases e5
      | d ks vs => simp only [qh] at g; exact g.elim
      | ins c fs => simp only [qh] at g; exact g.elim
      | hid => simp only [qh] at g; exact g.elim
end
end Ev

set_option Elab.async false
set_option linter.all false
set_option maxRecDepth 100000
/-! Ev14: statements by the evaluator: items, several names, loops. -/
namespace Ev
open PySem PySem.Spec PyProof.Rows L2
theorem any_has (k : Key) : ∀ kvs : List (Key × V), (kvs.any fun kv => decide (kv.1 = k)) = hasK (kP k) (kvs.map fun z => kP z.1)
  | [] => rfl
  | z :: r => by
    show (decide (z.1 = k) || r.any fun kv => decide (kv.1 = k)) = (peq (kP z.1) (kP k) || hasK (kP k) (r.map fun z => kP z.1))
    rw [peq_kP, any_has k r]
theorem put_ks (k : Key) (v : V) (kvs : List (Key × V)) : putKs (kP k) (kvs.map fun z => kP z.1) = (putK kvs k v).map fun z => kP z.1 := by
  unfold putKs putK
  rw [any_has]
  split
  · rw [List.map_map]
    apply List.map_congr_left
    intro z _
    show kP z.1 = kP (if z.1 = k then (z.1, v) else z).1
    split <;> rfl
  · rw [List.map_append]; rfl
theorem put_vs {K : PySem.W.Frag} {H : Hp} {F : Fb} (k : Key) {v : V} {p : PV} (hp : RV K H F p v) : ∀ {kvs : List (Key × V)} {xs : List PV}, RVs K H F xs (kvs.map (·.2)) →
    RVs K H F (putVs (kP k) p (kvs.map fun z => kP z.1) xs) ((kvs.map (fun kv => if kv.1 = k then (kv.1, v) else kv)).map (·.2))
  | [], xs, h => by
    cases xs with
    | nil => exact h
    | cons _ _ => obtain ⟨_, _, e, _⟩ := h; cases e
  | z :: r, [], h => by cases (show (z :: r).map (·.2) = [] from h)
  | z :: r, x :: xs, h => by
    obtain ⟨w, r', ew, hw, hr⟩ := h
    have e1 : z.2 = w ∧ r.map (·.2) = r' := by simpa using ew
    obtain ⟨e1, e2⟩ := e1
    subst e1 e2
    simp only [List.map_cons, putVs, peq_kP]
    refine RVs.cons ?_ (put_vs k hp hr)
    by_cases ek : z.1 = k
    · rw [decide_eq_true ek, if_pos rfl, if_pos ek]; exact hp
    · rw [decide_eq_false ek, if_neg (by decide), if_neg ek]; exact hw
theorem put_vv {K : PySem.W.Frag} {H : Hp} {F : Fb} (k : Key) {v : V} {p : PV} (hp : RV K H F p v) {kvs : List (Key × V)} {xs : List PV} (h : RVs K H F xs (kvs.map (·.2))) :
    RVs K H F (putVv (kP k) p (kvs.map fun z => kP z.1) xs) ((putK kvs k v).map (·.2)) := by
  unfold putVv putK
  rw [any_has]
  split
  · exact put_vs k hp h
  · rw [List.map_append]
    exact h.append (RVs.one hp)
theorem length_put (kvs : List (Key × V)) (k : Key) (v : V) : (putK kvs k v).length ≤ kvs.length + 1 := by
  unfold putK
  split
  · rw [List.length_map]; omega
  · rw [List.length_append]; simp
section
variable {X : Cx} {W : WX} {P : Pg} {st : Stmt} {rest : List Stmt} {s : CS} {ss : List CS} {pos px p2 : Pos} {i j : Nat} {x : Str} {e k oe : Expr} {ce ck : CE}
def rSet : TSet := fun o i v H Q => rSetL o i v H Q ∨ ∃ a H', o = .ref a ∧ DPut H a i v H' ∧ Q H'
theorem set_any (hu : X.A.units + 1 < cLine) : PSet X rSet := by
  intro pins s σ H o i v ov iv u Q I ro ri rv h
  rcases h with h | ⟨a, H', rfl, g, q⟩
  · exact set_list pins s σ H o i v ov iv u Q I ro ri rv h
  · obtain rfl : ov = Value.ref a := ro
    exact d_setItem hu I g ri rv fun s' I' => ⟨H', I', q⟩
theorem s_seti (hu : X.A.units + 1 < cLine) (hv : PE X oe (tVar i)) (hk : PE X k (tE X.K X.mg P W ck)) (he : PE X e (tE X.K X.mg P W ce))
    (ha : ∀ v, assign (.Subscript oe k p2) X.env v = (do
      let ov ← holding [v] (eval oe X.env)
      let iv ← holding [v, ov] (eval k X.env)
      standAt p2
      holding [v, ov, iv] (PySem.setItem ov iv v)
      release [v, ov, iv] [])) (hs : swapsWithSole [.Subscript oe k p2] e pos.line X.env = pure false) :
    PS X (.Assign [.Subscript oe k p2] e pos) (tS X.K X.mg P W (.seti i ck ce)) := by
  have hw : swappedStores [.Subscript oe k p2] e X.env = pure none := by cases e <;> rfl
  refine PS.imp (ps_asg he (pg_sub hv hk (set_any hu) ha) hs hw rfl) fun D τ H ⟨B, m, σ, h, R, g⟩ => ?_
  simp only [evS] at g
  cases q : slotR σ i with
  | none => rw [q] at g; exact g.elim
  | some n =>
    rw [q] at g
    refine ⟨B, m, σ, h, R, Gd.imp (GO.val (rel := rF X.K B m (flg σ ce)) R g) fun v H1 ⟨p, s1, r1, g1⟩ => ?_⟩
    have R1 := R.same s1
    obtain ⟨ov, hov, a, ha, rfl⟩ := R1.slot i _ (slotR_eq q)
    refine ⟨.ref a, hov, B, m, σ, h, R1, Gd.imp (GO.val (rel := rF X.K B m (flg σ ck)) R1 g1) fun y H2 ⟨z, s2, r2, g2⟩ => ?_⟩
    have R2 := R1.same s2
    obtain ⟨c, g3⟩ := g2.ite
    obtain ⟨o', e1, g4⟩ := g3.some
    obtain ⟨o, qh, e2⟩ := Option.bind_eq_some_iff.mp e1
    have ro := R2.obj n a o ha qh
    have rp : RV X.K H2 (fb B m) p v := (RF.same s2 r1).zero c
    cases o with
    | l xs =>
      obtain ⟨vs, f1, f2, f3⟩ := ro
      cases z with
      | int jj =>
        simp only [Ev.setItem] at e2
        obtain ⟨ii, e3, e4⟩ := Option.map_eq_some_iff.mp e2
        subst e4
        refine .inl ⟨a, vs, jj, ii, rfl, r2.top.int, f1, by rw [← f3.length, ← ixN_eq]; exact e3, ?_⟩
        refine wrote (o' := .l (xs.set ii p)) g4 R2 ha qh (fun z => nomatch z) ⟨vs.set ii v, upd_same, by rw [List.length_set]; exact f2, ?_⟩
        exact (f3.set ii rp).mono (extM_upd ha (R2.obj n a _ ha qh)).ext .refl
      | _ => simp only [Ev.setItem] at e2; cases e2
    | d ks xs =>
      obtain ⟨kvs, f1, f2, f3, f4⟩ := ro
      have e3 : keyOk z = true ∧ ks.length < big ∧ o' = .d (putKs z ks) (putVv z p ks xs) := by
        cases z <;> simp only [Ev.setItem] at e2 <;> (split at e2 <;> first | (cases e2; rename_i cc; exact ⟨cc.1, cc.2, rfl⟩) | (cases e2; done))
      obtain ⟨c1, c2, rfl⟩ := e3
      obtain ⟨kk, rfl⟩ := keyOk_kP c1
      cases kP_kV r2.top
      subst f3
      have hl : kvs.length < sizeLine := by rw [← big_eq]; simpa using c2
      refine .inr ⟨a, _, rfl, DPut.k f1 hl, ?_⟩
      refine wrote g4 R2 ha qh (fun z => nomatch z) ⟨putK kvs kk v, upd_same, ?_, put_ks kk v kvs, ?_⟩
      · have := length_put kvs kk v; omega
      · exact (put_vv kk rp f4).mono (extM_upd ha (R2.obj n a _ ha qh)).ext .refl
    | ins c fs => cases z <;> (simp only [Ev.setItem] at e2; cases e2)
    | hid => cases z <;> (simp only [Ev.setItem] at e2; cases e2)
/-! ### several names -/
theorem rss_two {K : PySem.W.Frag} {H : Hp} {F : Fb} {m : List Addr} {ss : List SV} {is : List Nat} {σ σ' : St} {vs : List V} {i j : Nat} (h : RSs K H F m ss vs) (e : storeS [i, j] ss σ = some σ') :
    ∃ a b v w, ss = [a, b] ∧ vs = [v, w] ∧ RS K H F m a v ∧ RS K H F m b w ∧ σ' = (σ.set i (some a)).set j (some b) := by
  match ss, h, e with
  | [], _, e => cases e
  | [_], _, e => cases e
  | [a, b], h, e =>
    obtain ⟨v, r, rfl, h1, w, r2, rfl, h2, h3⟩ := h
    cases (show r2 = [] from h3)
    cases e
    exact ⟨a, b, v, w, rfl, rfl, h1, h2, rfl⟩
  | _ :: _ :: _ :: _, _, e => cases e
theorem s_par2 {ms : List AM} {ces : List CE} (hs : PS X st (tPar i j (tP X.K X.mg P W ms ces))) : PS X st (tS X.K X.mg P W (.par [i, j] ms ces)) := by
  refine PS.imp hs fun D τ H ⟨B, m, σ, h, R, g⟩ => ?_
  simp only [evS] at g
  refine ⟨B, m, σ, h, R, ?_⟩
  cases q : evP P ms ces σ h with
  | none => rw [q] at g; exact g
  | some r =>
    rw [q] at g
    cases r with
    | error z => exact fun cls d H1 s1 rx => g τ H1 m (List.prefix_refl _) (fun _ h => .inl h) (.of s1) (R.same s1) cls d rx
    | ok r =>
      intro vs H1 m1 hp hn s1 R1 rr
      simp only [val_ok] at g
      obtain ⟨σ', e, g1⟩ := g.some
      obtain ⟨a, b, v, w, _, rfl, ra, rb, rfl⟩ := rss_two (is := []) rr e
      exact ⟨v, w, rfl, GO.at (g1.go hp hn (.of s1)) ((R1.put ra).put rb)⟩
theorem rss_three {K : PySem.W.Frag} {H : Hp} {F : Fb} {m : List Addr} {ss : List SV} {σ σ' : St} {vs : List V} {i j l : Nat} (h : RSs K H F m ss vs) (e : storeS [i, j, l] ss σ = some σ') :
    ∃ a b c v w u, ss = [a, b, c] ∧ vs = [v, w, u] ∧ RS K H F m a v ∧ RS K H F m b w ∧ RS K H F m c u ∧ σ' = ((σ.set i (some a)).set j (some b)).set l (some c) := by
  match ss, h, e with
  | [], _, e => cases e
  | [_], _, e => cases e
  | [_, _], _, e => cases e
  | [a, b, c], h, e =>
    obtain ⟨v, r, rfl, h1, w, r2, rfl, h2, u, r3, rfl, h3, h4⟩ := h
    cases (show r3 = [] from h4)
    cases e
    exact ⟨a, b, c, v, w, u, rfl, rfl, h1, h2, h3, rfl⟩
  | _ :: _ :: _ :: _ :: _, _, e => cases e
theorem s_par3 {l : Nat} {ms : List AM} {ces : List CE} (hs : PS X st (tPar3 i j l (tP X.K X.mg P W ms ces))) : PS X st (tS X.K X.mg P W (.par [i, j, l] ms ces)) := by
  refine PS.imp hs fun D τ H ⟨B, m, σ, h, R, g⟩ => ?_
  simp only [evS] at g
  refine ⟨B, m, σ, h, R, ?_⟩
  cases q : evP P ms ces σ h with
  | none => rw [q] at g; exact g
  | some r =>
    rw [q] at g
    cases r with
    | error z => exact fun cls d H1 s1 rx => g τ H1 m (List.prefix_refl _) (fun _ h => .inl h) (.of s1) (R.same s1) cls d rx
    | ok r =>
      intro vs H1 m1 hp hn s1 R1 rr
      simp only [val_ok] at g
      obtain ⟨σ', e, g1⟩ := g.some
      obtain ⟨a, b, c, v, w, u, _, rfl, ra, rb, rc, rfl⟩ := rss_three rr e
      exact ⟨v, w, u, rfl, GO.at (g1.go hp hn (.of s1)) (((R1.put ra).put rb).put rc)⟩
end
end Ev

set_option Elab.async false
set_option linter.all false
set_option maxRecDepth 100000
/-! Ev15: loops, exceptions, calls that change own objects. -/
namespace Ev
open PySem PySem.Spec PyProof.Rows L2
theorem evS_for {P : Pg} {t : TN} {ci : CE} {sb : List CS} {σ : St} {h : OH} : evS P (.for_ t ci sb) σ h = val (evI P ci σ h) σ h fun xs => if flgI σ ci ≤ 1 then forL (evSs P sb) t xs σ h else none := by
  simp only [evS, evI]
  cases ev P ci σ h with
  | none => rfl
  | some r =>
    cases r with
    | error x => rfl
    | ok p => simp only [val_ok, bnd_ok]; cases itemsOf p <;> rfl
def kkA (σ : St) (i : Nat) (s : SV) (h' : OH) : O := match s with
  | .d false p => some (.nx, σ.set i (some (.d false p)), h')
  | .r n => some (.nx, σ.set i (some (.r n)), h')
  | _ => none
theorem evS_callA {P : Pg} {i : Nat} {f : Str} {ms : List AM} {ces : List CE} {σ : St} {h : OH} : evS P (.callS (some i) f ms ces) σ h = val (evP P ms ces σ h) σ h fun r => match P.fn f r.1 r.2 with | some (.ok (s, h')) => kkA σ i s h' | some (.error _) => none | none => none := by
  simp only [evS]
  congr 1
  funext r
  cases P.fn f r.1 r.2 with
  | none => rfl
  | some q =>
    cases q with
    | error x => rfl
    | ok sh =>
      obtain ⟨s, h'⟩ := sh
      cases s with
      | d b p => cases b <;> rfl
      | r n => rfl
section
variable {X : Cx} {W : WX} {P : Pg} {st : Stmt} {rest body suite : List Stmt} {s : CS} {ss sb sh : List CS} {pos px p2 pos' np : Pos} {i j : Nat} {x : Str} {e k oe tg iter c : Expr} {ce ck ci cc : CE} {t : TN}
theorem s_for (hw : weakI ci = true → isTp t = true) (hp : PassesOwn (model X.prog X.w) X.A X.env X.xe) (hc : X.calm = true) (hi : PI X tg iter (tI X.K X.mg P W ci)) (hg : PG X tg (gT X.K t)) (hb : PSs X body (tSs X.K X.mg P W sb))
    (hs : ∀ x, foldedSetIterable iter X.env x = pure x) : PS X (.For tg iter body [] pos) (tS X.K X.mg P W (.for_ t ci sb)) := by
  refine PS.imp (ps_for hp hc hi hg hb hs) fun D τ H ⟨B, m, σ, h, R, g⟩ => ?_
  rw [evS_for] at g
  refine ⟨B, m, σ, h, R, Gd.imp (GO.val (rel := rI_ (weakI ci) X.K B m (flgI σ ci)) (r := evI P ci σ h) R g) fun J H1 ⟨xs, s1, ⟨src, hz, hY, hS, hm⟩, g1⟩ => ?_⟩
  obtain ⟨cf, g1⟩ := g1.ite
  have hm := hm cf
  refine ⟨fun i mm τ' H2 => mm = xs.length - i ∧ i ≤ xs.length ∧ ∃ m' σ' h', m <+: m' ∧ (∀ a ∈ m', a ∈ m ∨ H1 a = none) ∧ ExtM m H1 H2 ∧ Rl X.K H2 B m' σ' h' τ' ∧ GO X.K X.mg W B m' H2 D (forL (evSs P sb) t (xs.drop i) σ' h'),
    ⟨xs.length, by simp, Nat.zero_le _, m, σ, h, List.prefix_refl _, fun _ h => .inl h, .of Same.refl, R.same s1, g1⟩, ?_⟩
  rintro i mm τ' H2 ⟨em, hil, m', σ', h', hpre, hnew, hx, R2, g2⟩
  have gr : Grows H1 (fb B m) (fb B m') := fun b hb => by
    rcases hb with hb | hb
    · exact .inl (.inl hb)
    · rcases hnew b hb with k | k
      · exact .inl (.inr k)
      · exact .inr k
  have hY2 := hY H2 i (fb B m') hx.ext gr fun z hz => hx.keep _ _ (hm z hz) (hS z hz)
  by_cases hlt : i < xs.length
  · have ex : xs[i]? = some xs[i] := List.getElem?_eq_getElem hlt
    have ed : xs.drop i = xs[i] :: xs.drop (i + 1) := List.drop_eq_getElem_cons hlt
    rw [ed] at g2
    unfold forL at g2
    obtain ⟨hgo, hy⟩ := hY2.1 _ ex
    cases qb : bindT t xs[i] σ' with
    | none => rw [qb] at g2; exact g2.elim
    | some σ1 =>
      rw [qb] at g2
      dsimp only at g2
      refine .inr ⟨hgo, fun τ4 H4 => ∃ m4 σ4 h4, m <+: m4 ∧ (∀ a ∈ m4, a ∈ m ∨ H1 a = none) ∧ ExtM m H1 H4 ∧ Rl X.K H4 B m4 σ4 h4 τ4 ∧ GO X.K X.mg W B m4 H4 D (forL (evSs P sb) t (xs.drop (i + 1)) σ4 h4),
        fun τ4 H4 ⟨m4, σ4, h4, q1, q2, q3, q4, q5⟩ => ⟨mm - 1, by omega, by omega, by omega, m4, σ4, h4, q1, q2, q3, q4, q5⟩, fun v H3 hv => ?_⟩
      obtain ⟨s3, rv⟩ := hy v H3 hv
      refine ⟨B, m', σ', h', xs[i], σ1, R2.same s3, rv.up hw, qb, fun τ3 R3 _ _ => ⟨B, m', σ1, h', R3, ?_⟩⟩
      have x3 : ExtM m H1 H3 := hx.trans hnew (.of s3)
      cases qf : evSs P sb σ1 h' with
      | none => rw [qf] at g2; exact g2.elim
      | some r =>
        rw [qf] at g2
        obtain ⟨fl, σ5, h5⟩ := r
        cases fl with
        | nx =>
          intro τ4 H4 m4 p4 n4 x4 R4
          have g3 : GO X.K X.mg W B m' H3 D (forL (evSs P sb) t (xs.drop (i + 1)) σ5 h5) := GO.later g2 s3
          exact ⟨m4, σ5, h5, hpre.trans p4, new_trans x3 hnew n4, x3.trans hnew x4, R4, g3.go p4 n4 x4⟩
        | ct =>
          intro τ4 H4 m4 p4 n4 x4 R4
          have g3 : GO X.K X.mg W B m' H3 D (forL (evSs P sb) t (xs.drop (i + 1)) σ5 h5) := GO.later g2 s3
          exact ⟨m4, σ5, h5, hpre.trans p4, new_trans x3 hnew n4, x3.trans hnew x4, R4, g3.go p4 n4 x4⟩
        | bk =>
          have g3 : GO X.K X.mg W B m' H3 D (some (.nx, σ5, h5)) := GO.later g2 s3
          exact g3
        | ret s =>
          have g3 : GO X.K X.mg W B m' H3 D (some (.ret s, σ5, h5)) := GO.later g2 s3
          exact g3
        | exc x =>
          have g3 : GO X.K X.mg W B m' H3 D (some (.exc x, σ5, h5)) := GO.later g2 s3
          exact g3
  · have ei : i = xs.length := by omega
    subst ei
    refine .inl ⟨hY2.2 (Nat.le_refl _), ?_⟩
    rw [List.drop_length] at g2
    exact GO.at (fl := .nx) g2 R2
theorem s_while {n : Nat} (hp : PassesOwn (model X.prog X.w) X.A X.env X.xe) (hc : PT X c (tT X.K X.mg P W cc)) (hb : PSs X body (tSs X.K X.mg P W sb)) : PS X (.While c body [] pos) (tS X.K X.mg P W (.while_ n cc sb)) := by
  refine PS.imp (ps_while hp hc hb) fun D τ H ⟨B, m, σ, h, R, g⟩ => ?_
  simp only [evS] at g
  refine ⟨fun k τ' H' => ∃ m' σ' h', Rl X.K H' B m' σ' h' τ' ∧ GO X.K X.mg W B m' H' D (whileL (evT P cc) (evSs P sb) k σ' h'), ⟨n, m, σ, h, R, g⟩, ?_⟩
  rintro k τ' H' ⟨m', σ', h', R', g'⟩
  cases k with
  | zero => exact g'.elim
  | succ k =>
    unfold whileL at g'
    refine ⟨B, m', σ', h', R', Gd.imp (GO.val (rel := rB) R' g') fun v H1 ⟨p, s1, r1, g1⟩ => ?_⟩
    cases (show p = v from r1)
    cases v with
    | false => rw [if_neg (by decide)] at g1 ⊢; exact g1.at (R'.same s1)
    | true =>
      rw [if_pos rfl] at g1 ⊢
      refine ⟨fun τ4 H4 => ∃ m4 σ4 h4, Rl X.K H4 B m4 σ4 h4 τ4 ∧ GO X.K X.mg W B m4 H4 D (whileL (evT P cc) (evSs P sb) k σ4 h4), fun τ4 H4 q => ⟨k, by omega, q⟩, B, m', σ', h', R'.same s1, ?_⟩
      cases qf : evSs P sb σ' h' with
      | none => rw [qf] at g1; exact g1.elim
      | some r =>
        rw [qf] at g1
        obtain ⟨fl, σ5, h5⟩ := r
        cases fl with
        | nx => exact fun τ4 H4 m4 p4 n4 x4 R4 => ⟨m4, σ5, h5, R4, GO.go (r := whileL (evT P cc) (evSs P sb) k σ5 h5) g1 p4 n4 x4⟩
        | ct => exact fun τ4 H4 m4 p4 n4 x4 R4 => ⟨m4, σ5, h5, R4, GO.go (r := whileL (evT P cc) (evSs P sb) k σ5 h5) g1 p4 n4 x4⟩
        | bk => exact g1
        | ret s => exact g1
        | exc x => exact g1
theorem s_raise {cn : Str} {cls : Value} (hc : X.calm = true) (tk : Takes X W) (he : PMk X e (fun _ H Q => Q cls none H)) (hm : X.mg cn = some cls) : PS X (.Raise (some e) none pos) (tS X.K X.mg P W (.raise_ cn)) := by
  refine PS.imp (ps_raise hc tk he) fun D τ H ⟨B, m, σ, h, R, g⟩ => ?_
  simp only [evS] at g
  exact g.at R cls none ⟨hm, rfl⟩
theorem s_try {cv : Value} {b₀ : Stmt} (hs : X.stack = X.env :: X.outer) (hf : X.env.frame = some X.env.locals) (hc : Names X x cv) (tk : Takes X W)
    (hsub : ∀ y b cls, P.esub y x = some b → X.mg y = some cls → PySem.W.exmOne X.K cls cv = some b)
    (hb : ∀ (W : WX) (pn : List (Addr × Obj)) (xe : Value → Shared → Prop), Takes (X.tr pn xe) W → PassesOwn (model X.prog X.w) X.A X.env xe → PSs (X.tr pn xe) body (tSs X.K X.mg P W sb))
    (hsu : ∀ (a : Addr) (oe : Obj) (cls : Value) (d : Option Addr) (pn : List (Addr × Obj)), Zc cls d oe → (∃ vs, oe.data = .fields vs) → PSs (X.suite a ((a, oe) :: pn)) (b₀ :: suite) (tSs X.K X.mg P W0 sh)) :
    PS X (.Try body [.ExceptHandler (some (.Name x np)) none (b₀ :: suite) pos'] [] [] pos) (tS X.K X.mg P W (.try_ sb x sh)) := by
  refine PS.imp (ps_try_only (ts := fun _ _ _ => tSs X.K X.mg P W0 sh) hs hf hc tk hb hsu) fun D τ H ⟨B, m, σ, h, R, g⟩ => ?_
  simp only [evS] at g
  refine ⟨B, m, σ, h, R, ?_⟩
  cases qf : evSs P sb σ h with
  | none => rw [qf] at g; exact g.elim
  | some r =>
    rw [qf] at g
    obtain ⟨fl, σ5, h5⟩ := r
    cases fl with
    | nx => exact g
    | ct => exact g
    | bk => exact g
    | ret s => exact g
    | exc ex =>
      dsimp only at g
      intro τ4 H4 m4 p4 n4 x4 R4 cls d rx
      cases qe : P.esub ex.cls x with
      | none => rw [qe] at g; exact g.elim
      | some b =>
        rw [qe] at g
        refine ⟨b, hsub _ _ _ qe rx.1, fun hb1 a ha => ?_, fun hb0 => ?_⟩
        · subst hb1
          have g4 : GO X.K X.mg W B m4 H4 D (noExc (evSs P sh σ5 h5)) := GO.go g p4 n4 x4
          refine ⟨B, m4, σ5, h5, R4, ?_⟩
          cases qh : evSs P sh σ5 h5 with
          | none => rw [qh] at g4; exact g4
          | some r =>
            rw [qh] at g4
            obtain ⟨fl, σ6, h6⟩ := r
            cases fl with
            | exc y => exact g4.elim
            | nx => exact g4
            | ct => exact g4
            | bk => exact g4
            | ret s => exact g4
        · subst hb0
          have g4 : GO X.K X.mg W B m4 H4 D (some (.exc ex, σ5, h5)) := GO.go g p4 n4 x4
          exact g4.at R4 cls d rx
/-! ### calls that change own objects -/
theorem RSs.length {K : PySem.W.Frag} {H : Hp} {F : Fb} {m : List Addr} : ∀ {ss : List SV} {vs : List V}, RSs K H F m ss vs → ss.length = vs.length
  | [], _, h => by cases (show _ = [] from h); rfl
  | s :: ss, _, h => by
    obtain ⟨v, r, rfl, _, q⟩ := h
    rw [List.length_cons, List.length_cons, RSs.length q]
theorem Rl.rh {K : PySem.W.Frag} {H H' : Hp} {B : Fb} {m m' : List Addr} {σ : St} {h h' : OH} {τ : L2.St} (R : Rl K H B m σ h τ) (x : ExtM m H H') (p : m <+: m') (n : ∀ a ∈ m', a ∈ m ∨ H a = none) (r : Rh K H' B m' h') : Rl K H' B m' σ h' τ := by
  refine ⟨r, R.sl, fun i t e => ?_⟩
  obtain ⟨v, e1, e2⟩ := R.slot i t e
  refine ⟨v, e1, e2.mono x (fun b hb => ?_) n p⟩
  rcases hb with hb | hb
  · exact .inl (.inl hb)
  · rcases n b hb with k | k
    · exact .inl (.inr k)
    · exact .inr k
variable {es : List Expr} {a : Expr} {ms : List AM} {ces : List CE}
/-- the call as the layer reads it -/
def tCallF (X : Cx) (P : Pg) (W : WX) (f : Str) (n : Nat) (ms : List AM) (ces : List CE) : TE := tCallSD (spD X.K X.mg n (P.fn f)) [] (WE W) (tP X.K X.mg P W ms ces)
theorem callF_read {f : Str} {n : Nat} {τ : L2.St} {H : Hp} {Q : VK} {D : Ends} {B : Fb} {m : List Addr} {σ : St} {h : OH} {kk : SV → OH → O} (hl : ∀ as h, P.fn f as h ≠ none → as.length = n)
    (R : Rl X.K H B m σ h τ) (g : GO X.K X.mg W B m H D (val (evP P ms ces σ h) σ h fun r => match P.fn f r.1 r.2 with | some (.ok (s, h')) => kk s h' | some (.error _) => none | none => none))
    (hq : ∀ s h' v H' m', m <+: m' → (∀ a ∈ m', a ∈ m ∨ H a = none) → ExtM m H H' → Rl X.K H' B m' σ h' τ → RS X.K H' (fb B m') m' s v → GO X.K X.mg W B m' H' D (kk s h') → Q v H') : tCallF X P W f n ms ces τ H Q := by
  refine ⟨B, m, σ, h, R, ?_⟩
  cases q : evP P ms ces σ h with
  | none => rw [q] at g; exact g
  | some r =>
    rw [q] at g
    cases r with
    | error z => exact fun cls d H1 s1 rx => g τ H1 m (List.prefix_refl _) (fun _ h => .inl h) (.of s1) (R.same s1) cls d rx
    | ok r =>
      intro vs H1 m1 hp hn s1 R1 rr
      simp only [val_ok] at g
      rw [List.append_nil]
      cases qf : P.fn f r.1 r.2 with
      | none => rw [qf] at g; exact g.elim
      | some rf =>
        rw [qf] at g
        cases rf with
        | error z => exact g.elim
        | ok sh =>
          obtain ⟨s, h'⟩ := sh
          refine ⟨?_, B, m1, r.1, r.2, R1.toRh, rr, ?_⟩
          · rw [← RSs.length rr]; exact hl r.1 r.2 (by rw [qf]; exact fun z => nomatch z)
          · rw [qf]
            intro v H' m' hp2 hn2 x2 rh rs
            have g1 : GO X.K X.mg W B m1 H1 D (kk s h') := GO.go g hp hn (.of s1)
            exact hq s h' v H' m' (hp.trans hp2) (new_trans (.of s1) hn hn2) ((ExtM.of s1).trans hn x2) (R1.rh x2 hp2 hn2 rh) rs (g1.go hp2 hn2 x2)
theorem s_callN {f : Str} {n : Nat} (hl : ∀ as h, P.fn f as h ≠ none → as.length = n) (hs : PS X st (tDrop (tCallF X P W f n ms ces))) : PS X st (tS X.K X.mg P W (.callS none f ms ces)) := by
  refine PS.imp hs fun D τ H ⟨B, m, σ, h, R, g⟩ => ?_
  simp only [evS] at g
  refine callF_read (kk := fun s h' => some (.nx, σ, h')) hl R ?_ fun s h' v H' m' _ _ _ R' _ g' => g'.at R'
  exact g
theorem s_callA {f : Str} {n : Nat} (hl : ∀ as h, P.fn f as h ≠ none → as.length = n) (hs : PS X st (tAsg (tCallF X P W f n ms ces) (gName i))) : PS X st (tS X.K X.mg P W (.callS (some i) f ms ces)) := by
  refine PS.imp hs fun D τ H ⟨B, m, σ, h, R, g⟩ => ?_
  refine callF_read (D := D) (kk := kkA σ i) hl R (by rw [evS_callA] at g; exact g) fun s h' v H' m' _ _ _ R' rs g' => ?_
  cases s with
  | d b p =>
    cases b with
    | false => exact GO.at (fl := .nx) g' (R'.put rs)
    | true => exact g'.elim
  | r n => exact GO.at (fl := .nx) g' (R'.put rs)
theorem pe_callF {lv : Nat} {f : Str} (F : FnF X P lv f) (rm : Room lv X.A) (tk : Takes X W) (hg : Gl X f) (hd : (f == ("__debug__" : Str)) = false) (ha : PA X (a :: es) (tP X.K X.mg P W ms ces)) (hn : (a :: es).all notStar = true) :
    ∃ n, (∀ as h, P.fn f as h ≠ none → as.length = n) ∧ PE X (.Call (.Name f px) (a :: es) [] pos) (tCallF X P W f n ms ces) := by
  obtain ⟨fa, FA, hm, kp⟩ := F.ex
  obtain ⟨fd, ps, k, hk, hF, hb, hln, _⟩ := FA.ex
  rw [List.all_cons, Bool.and_eq_true] at hn
  exact ⟨ps.length, hln, pe_callSD hF (rm.mono hk) hg hm kp hb (dvs := []) .nil (fun σ => L2.passAt tk σ) ha hd (star_no hn.1) (star_any0 hn.2)⟩
end
end Ev

set_option Elab.async false
set_option linter.all false
set_option maxRecDepth 100000
/-! Ev16: min of rows, sorted(set(..)), count. -/
namespace Ev
open PySem PySem.Spec PyProof.Rows L2
theorem ltL_lt : ∀ xs ys : List Int, ltL xs ys = decide (xs < ys)
  | [], [] => by simp [ltL]
  | [], y :: ys => by simp [ltL]
  | x :: xs, [] => by simp [ltL]
  | x :: xs, y :: ys => by
    unfold ltL
    by_cases e : x = y
    · subst e
      rw [if_pos rfl, ltL_lt xs ys]
      simp [List.cons_lt_cons_iff]
    · rw [if_neg e]
      simp [List.cons_lt_cons_iff, e]
theorem dataLt_L (xs ys : List Int) : PySem.W.dataLt (.tuple (xs.map .int)) (.tuple (ys.map .int)) = ltL xs ys := by
  rw [ltL_lt, ← PySem.W.dataLt_ints xs ys, PySem.W.dataLt_tuple]
  rfl
theorem minD_L : ∀ (r : List (List Int)) (x : List Int), PySem.W.minD (.tuple (x.map .int)) (r.map fun z => .tuple (z.map .int)) = .tuple ((r.foldl (fun a b => if ltL b a then b else a) x).map .int)
  | [], x => rfl
  | y :: r, x => by
    show PySem.W.minD (if PySem.W.dataLt (.tuple (y.map .int)) (.tuple (x.map .int)) then .tuple (y.map .int) else .tuple (x.map .int)) (r.map fun z => .tuple (z.map .int)) = _
    rw [dataLt_L]
    rw [List.foldl_cons]
    cases ltL y x with
    | true => exact minD_L r y
    | false => exact minD_L r x
theorem asInts_dats : ∀ {xs : List PV} {ns : List Int}, asInts xs = some ns → dats xs = ns.map .int ∧ xs = ns.map .int ∧ areData xs = true
  | [], ns, e => by cases e; exact ⟨rfl, rfl, rfl⟩
  | .int i :: r, ns, e => by
    simp only [asInts] at e
    obtain ⟨ns', e1, rfl⟩ := Option.map_eq_some_iff.mp e
    obtain ⟨h1, h2, h3⟩ := asInts_dats e1
    exact ⟨by simp only [dats, dat, h1, List.map_cons], by rw [List.map_cons, ← h2], by simp only [areData, isData, h3, Bool.and_self]⟩
  | .non :: r, ns, e => by simp only [asInts] at e; cases e
  | .bl _ :: r, ns, e => by simp only [asInts] at e; cases e
  | .str _ :: r, ns, e => by simp only [asInts] at e; cases e
  | .tup _ :: r, ns, e => by simp only [asInts] at e; cases e
  | .lst _ :: r, ns, e => by simp only [asInts] at e; cases e
  | .dct _ _ :: r, ns, e => by simp only [asInts] at e; cases e
  | .ins _ _ :: r, ns, e => by simp only [asInts] at e; cases e
  | .ty _ :: r, ns, e => by simp only [asInts] at e; cases e
  | .cl _ :: r, ns, e => by simp only [asInts] at e; cases e
theorem asIntss_dats : ∀ {xs : List PV} {ns : List (List Int)}, asIntss xs = some ns → dats xs = ns.map (fun z => .tuple (z.map .int)) ∧ xs = ns.map (fun z => .tup (z.map .int)) ∧ areData xs = true
  | [], ns, e => by cases e; exact ⟨rfl, rfl, rfl⟩
  | .tup ys :: r, ns, e => by
    simp only [asIntss] at e
    obtain ⟨y, e1, e2⟩ := Option.bind_eq_some_iff.mp e
    obtain ⟨ns', e3, rfl⟩ := Option.map_eq_some_iff.mp e2
    obtain ⟨h1, h2, h3⟩ := asIntss_dats e3
    obtain ⟨g1, g2, g3⟩ := asInts_dats e1
    exact ⟨by simp only [dats, dat, h1, g1, List.map_cons], by rw [List.map_cons, ← h2, ← g2], by simp only [areData, isData, g3, h3, Bool.and_self]⟩
  | .non :: r, ns, e => by simp only [asIntss] at e; cases e
  | .bl _ :: r, ns, e => by simp only [asIntss] at e; cases e
  | .str _ :: r, ns, e => by simp only [asIntss] at e; cases e
  | .int _ :: r, ns, e => by simp only [asIntss] at e; cases e
  | .lst _ :: r, ns, e => by simp only [asIntss] at e; cases e
  | .dct _ _ :: r, ns, e => by simp only [asIntss] at e; cases e
  | .ins _ _ :: r, ns, e => by simp only [asIntss] at e; cases e
  | .ty _ :: r, ns, e => by simp only [asIntss] at e; cases e
  | .cl _ :: r, ns, e => by simp only [asIntss] at e; cases e
theorem alike_ints : ∀ (x y : List Int), PySem.W.alikeAll (x.map .int) (y.map .int) = true
  | [], _ => by simp [PySem.W.alikeAll]
  | _ :: _, [] => by simp [PySem.W.alikeAll]
  | x :: xs, y :: ys => by simp [PySem.W.alikeAll, PySem.W.alike, alike_ints xs ys]
theorem depth_ints : ∀ x : List Int, PyData.depthAll (x.map .int) = 0
  | [] => rfl
  | x :: xs => by simp [PyData.depthAll, PyData.depth, depth_ints xs]
theorem depth_rows : ∀ x : List (List Int), PyData.depthAll (x.map fun z => .tuple (z.map .int)) ≤ 1
  | [] => by simp [PyData.depthAll]
  | x :: xs => by
    have := depth_rows xs
    simp only [List.map_cons, PyData.depthAll, PyData.depth, depth_ints]
    omega
theorem lay_ints : ∀ x : List Int, PyData.canLayAll0 (x.map .int) = true
  | [] => rfl
  | x :: xs => by simp [PyData.canLayAll0, PyData.canLay0, lay_ints xs]
section
variable {X : Cx}
theorem cr_min1 (hc : X.calm = true) (hu : X.A.units + 65 < cLine) : CallR X (.builtin "min") (rBi X.K .min) := by
  intro pins s σ H xs us Q I r ⟨B, m, h, p, v, z, ex, R, hp, e, k⟩
  subst ex
  cases p with
  | lst ps =>
    obtain ⟨a, vs, rfl, ha, hz, rr⟩ := hp.lst
    simp only [bi1] at e
    cases q : asIntss ps with
    | none => rw [q] at e; cases e
    | some ns =>
      rw [q] at e
      obtain ⟨mn, e3, rfl⟩ := Option.map_eq_some_iff.mp e
      obtain ⟨d1, d2, d3⟩ := asIntss_dats q
      obtain ⟨u, rfl, ru⟩ := r.one
      cases ru
      obtain ⟨its, rv, pl, hlen⟩ := I.list ha
      obtain ⟨as, hra⟩ := Dp.readsAll I (dats ps) _ its (rr.dp d3) rv
      cases ns with
      | nil => cases e3
      | cons n0 nr =>
        have em : mn = nr.foldl (fun a b => if ltL b a then b else a) n0 := by
          simp only [minL, Option.some.injEq] at e3; exact e3.symm
        rw [d1, List.map_cons] at hra
        have hal : PySem.W.AlikeAll (.tuple (n0.map .int) :: nr.map fun z => .tuple (z.map .int)) := by
          have key : ∀ x ∈ (PyData.tuple (n0.map .int) :: nr.map fun z => PyData.tuple (z.map .int)), ∃ z : List Int, x = .tuple (z.map .int) := by
            intro x hx
            rcases List.mem_cons.mp hx with hx | hx
            · exact ⟨n0, hx⟩
            · obtain ⟨z, _, rfl⟩ := List.mem_map.mp hx
              exact ⟨z, rfl⟩
          refine ⟨fun x hx y hy => ?_, fun x hx e => ?_⟩
          · obtain ⟨z, rfl⟩ := key x hx
            obtain ⟨z', rfl⟩ := key y hy
            simp [PySem.W.alike, alike_ints]
          · obtain ⟨z, rfl⟩ := key x hx
            cases e
        have hdep := depth_rows (n0 :: nr)
        rw [List.map_cons] at hdep
        refine PySem.W.min_list_data (I.ok.hd hc) pl.isList (by simpa using hra) hal (by omega) fun i w h' tk bs hi hrd hk => ?_
        rw [minD_L, ← em] at hrd
        have I2 : Inv X pins σ H { s with heap := h', toks := tk } := I.kept hk
        have hw : its[i]? = some w := by simpa using hi
        obtain ⟨hil, _⟩ := List.getElem?_eq_some_iff.mp hw
        have hvl := rv.length
        have hiv : i < vs.length := by omega
        have hgv : vs[i]? = some vs[i] := List.getElem?_eq_getElem hiv
        obtain ⟨pi, hpi, rpi⟩ := rr.getV hgv
        obtain ⟨w', hw', rel⟩ := Vals.get rv hgv
        rw [hw] at hw'; cases hw'
        have hpz : ∃ zz : List Int, pi = .tup (zz.map .int) := by
          rw [d2] at hpi
          have := List.mem_of_getElem? hpi
          obtain ⟨zz, _, ezz⟩ := List.mem_map.mp this
          exact ⟨zz, ezz.symm⟩
        obtain ⟨zz, rfl⟩ := hpz
        have hdat : dat (.tup (zz.map .int)) = .tuple (zz.map .int) := by
          simp only [dat]
          have : asInts (zz.map PV.int) = some zz := by
            clear rpi hpi
            induction zz with
            | nil => rfl
            | cons a b ih => simp only [List.map_cons, asInts, ih, Option.map_some]
          rw [(asInts_dats this).1]
        have hdd : isData (.tup (zz.map .int)) = true := by
          have : asInts (zz.map PV.int) = some zz := by
            clear rpi hpi hdat
            induction zz with
            | nil => rfl
            | cons a b ih => simp only [List.map_cons, asInts, ih, Option.map_some]
          simp only [isData, (asInts_dats this).2.2]
        obtain ⟨cs, hrd2⟩ := Dp.reads I2 _ _ _ (RV.dp hdd rpi) rel
        rw [hdat] at hrd2
        have eq1 := SeqAt.readsAll_map [.tuple (mn.map .int)] [w] (bs ++ []) (by simp [PyData.canLayAll0, PyData.canLay0, lay_ints]) (.cons hrd .nil)
        have eq2 := SeqAt.readsAll_map [.tuple (zz.map .int)] [w] (cs ++ []) (by simp [PyData.canLayAll0, PyData.canLay0, lay_ints]) (.cons hrd2 .nil)
        have eq3 : (PyData.tuple (mn.map .int)) = .tuple (zz.map .int) := by
          have := eq1.symm.trans eq2
          simpa using this
        have eq4 : mn = zz := by
          injection eq3 with eq3
          exact (List.map_inj_right (fun a b e => by injection e)).mp eq3
        subst eq4
        exact ⟨vs[i], H, I2, rel, k _ _ Same.refl rpi⟩
  | _ => simp only [bi1] at e; cases e
end

/-! ### sorted(set(l)) of a list of ints -/
section
variable {P : Program} {w : World} {A : Around} {E : Value → Shared → Prop} {s : Shared}
/-- the empty set as it is made -/
abbrev eSet (w : World) : Obj := { cls := .type "set", dict := none, data := .set #[] 0 (.fresh 0 0 (!w.params.followText "set-order")) }
set_option maxHeartbeats 3200000 in
/-- set(l), as the layer's set -/
theorem call_set_lstR {l : Addr} {items : Array Value} (ns : List Int) {Q : Value → Shared → Prop} (hh : A.handled = none) (hl : s.heap.IsList l items) (hit : IntsAre items.toList ns) (hb : ns.length + 1 < scanBound)
    (h : ∀ (h' : Heap) (tk c : Nat), SetR w h' s.heap.objs.size (fun j => decide (j ∈ ns)) c → c ≤ ns.length → (∀ b o, s.heap.get? b = some o → h'.get? b = some o) → Q (.ref s.heap.objs.size) { s with heap := h', toks := tk }) :
    wpAny (model P w) A (call (.type "set") [.ref l]) Q E s := by
  have hsz : items.size = ns.length := by
    have q := IntsAre.length hit
    rwa [Array.length_toList] at q
  obtain ⟨c, tl, hmro⟩ := F.called_set.mro
  have hmade := F.called_set.made
  have hsub := F.called_set.sub
  refine wpAny_call (codeAny_of_tree ?_)
  show wpAny _ _ (callAny (.type "set") _) _ _ _
  refine wpAny_pure ⟨Code.quiet_builtin _ (by decide +kernel), codeAny_builtin F.entry_type_call ?_⟩
  rw [Around.under_plain (weight_type_call_type "set" [.ref l] []) rfl]
  have h1 := F.called_set.notType
  have h2 := F.called_set.canCreate
  have hct := F.typeCall_set_1 (.ref l)
  repeat (any_goals (first | assumption | wp_step))
  refine codeAny_mono (code_set_led1 (.ref l) (E := E) (Q₁ := fun obj s₁ => obj = .ref s.heap.objs.size ∧ s₁ = { s with heap := s.heap.push (eSet w) }) ⟨rfl, rfl⟩) fun r s₁ hr => ?_
  cases r with
  | error e => exact hr
  | ok fl =>
    cases fl with
    | ret obj =>
      obtain ⟨rfl, rfl⟩ := hr
      have hS : (s.heap.push (eSet w)).get? s.heap.objs.size = some (eSet w) := Heap.get?_push_size _ rfl
      have hT : Shared.TypeIs { s with heap := s.heap.push (eSet w) } (.ref s.heap.objs.size) "set" := ⟨_, hS, rfl⟩
      have hli := F.called_set.init.lookup
      have hbi := F.called_set.init.bind (.ref s.heap.objs.size)
      repeat (any_goals (first | assumption | wp_step))
      refine codeAny_mono (codeAny_call_builtin (R := wants (fun r s₂ => r = .none ∧ ∃ h' tk c, s₂ = { s with heap := h', toks := tk } ∧ SetR w h' s.heap.objs.size (fun j => decide (j ∈ ns)) c ∧ c ≤ ns.length ∧
          (∀ b o, s.heap.get? b = some o → h'.get? b = some o)) E) F.called_set.init.plain F.entry_set_init (check_set_init_1 hT ?_)) fun r₂ s₂ hr₂ => ?_
      · obtain ⟨⟨ocls, odict, odata, oslots⟩, hol, hcl, nl, hdl⟩ := hl
        simp only at hcl hdl
        subst hcl; subst hdl
        have hol' : (s.heap.push (eSet w)).get? l = some { cls := .type "list", dict := odict, data := .seq items nl, slots := oslots } := Heap.get?_push_of_some _ hol
        have hsls := F.sub_list_set
        have hslf := F.sub_list_frozenset
        have hne : (Value.type "list" == Value.type "dict") = false := by decide
        have hl1 : (s.heap.push (eSet w)).IsList l items := ⟨_, hol', rfl, nl, rfl⟩
        unfold Builtin.«set.__init__» noKeywords Builtin.Frozenset.updateFrom
        generalize hPI : pyIter = PI
        wp_walk
        subst hPI
        refine wpAny_pyIter_list hl1 ?_
        refine wpAny_bind (wpAny_runValue ?_)
        have hlS : l < s.heap.objs.size := Heap.lt_size hol
        have hz1 : (s.heap.push (eSet w)).objs.size = s.heap.objs.size + 1 := Heap.size_push ..
        have hneI : l ≠ (s.heap.push (eSet w)).objs.size := by rw [hz1]; exact Nat.ne_of_lt (Nat.lt_succ_of_lt hlS)
        have hSf : s.heap.objs.size ∉ [(s.heap.push (eSet w)).objs.size, l] := by
          rw [hz1]
          intro q
          simp only [List.mem_cons, List.not_mem_nil, or_false] at q
          rcases q with q | q
          · exact absurd q (Nat.ne_of_lt (Nat.lt_succ_self _))
          · exact absurd q (Nat.ne_of_gt hlS)
        have hval : ∀ (i : Nat) (v : Value), items[i]? = some v → ∃ k t, ns[i]? = some k ∧ v = .int k t := fun i v hv => by
          have hi : i < ns.length := by rw [← hsz]; exact (Array.getElem?_eq_some_iff.mp hv).1
          obtain ⟨t, e⟩ := PyProof.Rows.IntsAre.int_at hit i v (by rw [Array.getElem?_toList]; exact hv)
          refine ⟨ns[i], t, List.getElem?_eq_getElem hi, ?_⟩
          rw [e, List.getD_eq_getElem?_getD, List.getElem?_eq_getElem hi] <;> rfl
        refine set_update_ints ((Walks.list (by simp [hh]) _ l hneI items).toS) s.heap.objs.size hSf ns hsz hb hval (items.size - 0) 0 _ (by omega) (Nat.zero_le _)
          ⟨⟨_, Heap.get?_push_size _ rfl, rfl, rfl⟩, (hl1.push _)⟩ ⟨0, Nat.le_refl 0, setR_new_at (Heap.get?_push_of_some _ hS)⟩ fun s' c' hm hc' hS' => ?_
        obtain ⟨h', g2, d', tk', os'⟩ := s'
        have eg : g2 = s.gens := hm.gens
        have ed : d' = s.drawn := hm.drawn
        have eo : os' = s.os := hm.os
        subst eg; subst ed; subst eo
        show wpAny _ _ _ _ _ _
        refine wpAny_pure ?_
        show wpAny _ _ (ret Value.none) _ _ _
        rw [hsz] at hc'
        refine wpAny_pure ⟨rfl, h', tk', c', rfl, hS', hc', fun b o e => ?_⟩
        have hb0 : b < s.heap.objs.size := Heap.lt_size e
        refine hm.heap b o (fun q => ?_) (Heap.get?_push_of_some _ (Heap.get?_push_of_some _ e))
        rw [hz1] at q
        simp only [List.mem_cons, List.not_mem_nil, or_false] at q
        rcases q with q | q
        · exact absurd q (Nat.ne_of_lt hb0)
        · exact absurd q (Nat.ne_of_lt (Nat.lt_succ_of_lt hb0))
      · cases r₂ with
        | error e => exact hr₂
        | ok fl₂ =>
          cases fl₂ with
          | ret r =>
            obtain ⟨rfl, h', tk, c', rfl, hS', hc', hk'⟩ := hr₂
            repeat (any_goals (first | assumption | wp_step))
            exact h _ _ _ hS' hc' hk'
          | _ => exact hr₂.elim
    | _ => exact hr.elim
end
theorem mem_nub (k : Int) : ∀ l : List Int, k ∈ nubI l ↔ k ∈ l
  | [] => Iff.rfl
  | x :: r => by
    unfold nubI
    split
    · rename_i h
      rw [mem_nub k r, List.mem_cons]
      exact ⟨.inr, fun q => q.elim (fun e => e ▸ h) id⟩
    · rw [List.mem_cons, List.mem_cons, mem_nub k r]
theorem nodup_nub : ∀ l : List Int, (nubI l).Nodup
  | [] => List.nodup_nil
  | x :: r => by
    unfold nubI
    split
    · exact nodup_nub r
    · rename_i h
      exact List.nodup_cons.mpr ⟨fun q => h ((mem_nub x r).mp q), nodup_nub r⟩
theorem sset_unique {ns ns' : List Int} (h1 : ns'.Pairwise (· < ·)) (h2 : ∀ k, k ∈ ns' ↔ k ∈ ns) : ns' = sortI (nubI ns) := by
  refine sorted_unique ?_ (h1.imp fun q => Int.le_of_lt q) (sortI_sorted _)
  refine List.Perm.trans ?_ (sortI_perm _).symm
  refine (List.perm_ext_iff_of_nodup (h1.imp fun q => Int.ne_of_lt q) (nodup_nub ns)).mpr fun k => ?_
  rw [h2, mem_nub]
section
variable {X : Cx} {W : WX} {P : Pg} {a b : Expr} {ca cb : CE} {pos p p2 q apos cpos : Pos}
def tSset (K : PySem.W.Frag) (ta : TE) : TE := fun σ H Q => ta σ H fun x H1 => ∃ (l : Addr) (ns : List Int), x = .ref l ∧ SqL K H1 l (ns.map V.int) ∧ ns.length < 64 ∧ ∀ t, H1 t = none → Q (.ref t) (upd H1 t (.lst ((sortI (nubI ns)).map V.int)))
theorem pe_sset {ta : TE} (hc : X.calm = true) (hg : Gl X "sorted") (hm : X.mg "sorted" = none) (hg2 : Gl X "set") (hm2 : X.mg "set" = none) (ha : PE X a ta) (na : notStar a = true) :
    PE X (.Call (.Name "sorted" p) [.Call (.Name "set" p2) [a] [] q] [] pos) (tSset X.K ta) := by
  have na' : starEach [a] X.env = (false, eval a X.env) :: starEach [] X.env := star_no na
  refine ⟨fun pins s σ H Q I h => ?_⟩
  refine Call_ (ld_blt I hg hm (show bootBuiltins "sorted" = some (.builtin "sorted") by decide +kernel) ?_)
  refine PyProof.Rows.callWith_builtin1 (PyProof.Rows.args_cons ?_ rfl) rfl rfl
  refine Call_ (ld_blt I hg2 hm2 boot_set ?_)
  refine PyProof.Rows.callWith_type1 (PyProof.Rows.args_cons (thn (ha.run pins s σ H _ I h) fun v s1 ⟨x, H1, I1, r1, q1⟩ => PyProof.Rows.args_nil ?_) na') na' rfl
  obtain ⟨l, ns, rfl, hq, hl, q1⟩ := q1
  cases r1
  obtain ⟨its, r, pl, hz⟩ := I1.list hq
  have hd := I1.ok.hd hc
  refine call_set_lstR ns hd pl.isList (by simpa using RZ.intsAre_vals r) (by unfold scanBound; omega) fun h' tk c hS hcn hk => ?_
  refine PyProof.Rows.args_nil ?_
  have I2 : Inv X pins σ H1 { s1 with heap := h', toks := tk } := I1.kept hk
  refine sorted_set (s := { s1 with heap := h', toks := tk }) hS hd (by omega) fun s' t out cc ns' k1 g1 o1 ht ho hi hlt hmem hnl => ?_
  have en : ns' = sortI (nubI ns) := sset_unique hlt fun k => by rw [hmem k, decide_eq_true_eq]
  subst en
  have hlen : ((sortI (nubI ns)).map V.int).length ≤ sizeLine := by rw [List.length_map, hnl, sizeLine_eq]; omega
  have hn : H1 t = none := I2.hok.fresh ht
  have J : Inv X pins σ (upd H1 t (.lst ((sortI (nubI ns)).map V.int))) { ({ s1 with heap := h', toks := tk } : Shared) with heap := s'.heap, gens := s'.gens, drawn := s'.drawn, toks := s'.toks } :=
    I2.call (ch := []) (Un.laid k1 ht hn) (I2.hok.laid k1 ht ⟨hlen, out.toList, cc, vals_of_ints hi, ho⟩) (by rw [g1]; exact I2.bare) (fun _ z => nomatch z)
  have e : s' = { ({ s1 with heap := h', toks := tk } : Shared) with heap := s'.heap, gens := s'.gens, drawn := s'.drawn, toks := s'.toks } := by
    cases s'
    cases s1
    cases o1
    rfl
  rw [e]
  exact ⟨.ref t, _, J, rfl, q1 t hn⟩
theorem s_sset (hc : X.calm = true) (hg : Gl X "sorted") (hm : X.mg "sorted" = none) (hg2 : Gl X "set") (hm2 : X.mg "set" = none) (ha : PE X a (tE X.K X.mg P W ca)) (na : notStar a = true) (hs : isStarE ca = false) :
    PE X (.Call (.Name "sorted" p) [.Call (.Name "set" p2) [a] [] q] [] pos) (tE X.K X.mg P W (.bi .sset [ca])) := by
  refine PE.imp (pe_sset hc hg hm hg2 hm2 ha na) fun τ H Q ⟨B, m, σ, h, R, g⟩ => ?_
  have e0 : ev P (.bi .sset [ca]) σ h = bnd (ev P ca σ h) fun x => (bi1 .sset x).map .ok := by
    simp only [ev]
    rw [evs_cons hs]
    simp only [evs]
    cases ev P ca σ h with
    | none => rfl
    | some r =>
      cases r with
      | error x => rfl
      | ok v => rfl
  rw [e0] at g
  refine ⟨B, m, σ, h, R, Gd.imp (Gd.bnd (rel := rF X.K B m (flg σ ca)) g) fun v H1 ⟨pv, s1, r1, g1⟩ => ?_⟩
  obtain ⟨z, e, g2⟩ := Gd.some g1
  cases pv with
  | lst xs =>
    obtain ⟨l, vs, rfl, ha, hz, rr⟩ := r1.top.lst
    simp only [bi1] at e
    obtain ⟨ns, e1, e2⟩ := Option.bind_eq_some_iff.mp e
    split at e2
    · rename_i c
      cases e2
      have ev := asInts_map rr e1
      subst ev
      refine ⟨l, ns, rfl, ha, c, fun t nt => Gd.new g2 (same_upd nt) (RF.of (RV.newLst (R.toRh.same s1) nt ?_ (RVs.ints _)))⟩
      rw [List.length_map, (sortI_perm _).length_eq]
      have : (nubI ns).length ≤ ns.length := by
        clear e1 rr ha e c g2 g1 hz r1
        induction ns with
        | nil => exact Nat.le_refl _
        | cons x r ih =>
          unfold nubI
          split
          · simp; omega
          · simp; omega
      rw [sizeLine_eq]
      omega
    · cases e2
  | _ => simp only [bi1] at e; cases e
theorem s_min (hc : X.calm = true) (hu : X.A.units + 65 < cLine) (hg : Gl X "min") (hm : X.mg "min" = none) (ha : PA X [a] (tAs X.K X.mg P W [ca])) (hn : notStar a = true) (hs : isStarE ca = false) :
    PE X (.Call (.Name "min" p) [a] [] pos) (tE X.K X.mg P W (.bi .min [ca])) := by
  have he : starEach [a] X.env = (false, eval a X.env) :: starEach [] X.env := star_no hn
  refine PE.imp (pe_callB (cr_min1 hc hu) hg hm (by decide +kernel) ha (by decide) (by decide) he rfl) fun τ H Q ⟨B, m, σ, h, R, g⟩ => ?_
  simp only [ev] at g
  refine ⟨B, m, σ, h, R, Gd.imp (Gd.bnd (rel := rA X.K B m σ [ca]) g) fun vs H1 ⟨ps, s1, r1, g1⟩ => ?_⟩
  obtain ⟨q, v, rfl, rfl, r2⟩ := RAs.one hs r1
  obtain ⟨z, e, g2⟩ := Gd.some g1
  exact ⟨B, m, h, q, v, z, rfl, R.toRh.same s1, r2.top, e, fun v H3 s3 hv => Gd.new g2 s3 (RF.of hv)⟩
theorem s_cnt (hb : attributeBase a "count" X.env (eval a X.env) = eval a X.env) (hl : (apos.endLine == cpos.line) = true) (ha : PE X a (tE X.K X.mg P W ca)) (he : PE X b (tE X.K X.mg P W cb)) (hn : notStar b = true) :
    PE X (.Call (.Attribute a "count" apos) [b] [] cpos) (tE X.K X.mg P W (.cnt ca cb)) := by
  have hfew : ((backTo cpos (starEach [b] X.env)).all (fun x => !x.1) && (backToKw cpos (keywordEach [] X.env)).all (fun x => x.1.isSome) && decide ([b].length + ([] : List Keyword).length + (if ([] : List Keyword).isEmpty then 0 else 1) < 30)) = true := by
    rw [few (by simp [hn])]; rfl
  refine PE.imp (pe_bm PySem.F.plainAttrs_list PySem.F.slot_list_count PySem.F.type_list_count mt_lcount ha (pa_cons he pa_nil (star_no hn)) hb hfew hl (star_no hn) rfl) fun τ H Q ⟨B, m, σ, h, R, g⟩ => ?_
  simp only [ev] at g
  refine ⟨B, m, σ, h, R, Gd.imp (Gd.bnd (rel := rF X.K B m (flg σ ca)) g) fun v H1 ⟨pv, s1, r1, g1⟩ => ?_⟩
  obtain ⟨ys, ey, g1⟩ := Gd.wo g1
  cases pv with
  | lst xs =>
    cases ey
    obtain ⟨l, vs, rfl, hq, hz, rr⟩ := r1.top.lst
    refine ⟨.inl ⟨rfl, vs, hq⟩, B, m, σ, h, R.same s1, Gd.imp (Gd.bnd (rel := rF X.K B m (flg σ cb)) g1) fun w H2 ⟨y, s2, r2, g2⟩ => ?_⟩
    obtain ⟨z, e, g3⟩ := Gd.some g2
    unfold cntOf at e
    split at e
    · rename_i ns k e1 
      cases e
      have ev := asInts_map rr e1
      subst ev
      refine ⟨l, ns, k, rfl, by rw [r2.top.int], ?_, Gd.ok g3 (RF.of rfl)⟩
      rcases hq with hq | hq
      · exact .inl (Rd.same s2 hq)
      · exact .inr hq
    · cases e
  | _ => simp only [listOf] at ey; cases ey
end
end Ev

set_option Elab.async false
set_option linter.all false
set_option maxRecDepth 100000
set_option maxHeartbeats 1000000
/-! EvX1: classes with slots: attributes, methods, making. -/
namespace Ev
open PySem PySem.Spec PyProof.Rows L2
/-- a class with an own __eq__ and no __ne__ -/
def neIn (K : PySem.W.Frag) (C g : Addr) : Bool := match K.lookup C with
  | some ⟨.type "type", _, .cls cd, sl⟩ => (match cd.mro, sl.toList with
    | [.ref C', .type "object"], [_, _, _, _, some (.builtin _), _] => decide (C' = C) && (!cd.hasDel && (PySem.W.nsOkIn K cd.ns && (decide (PySem.W.nsIn K cd.ns "__eq__" = some (some (.ref g))) && (decide (PySem.W.nsIn K cd.ns "__ne__" = some none) && match K.lookup g with
      | some og => decide (og.cls = .type "function")
      | none => false))))
    | _, _ => false)
  | _ => false
/-- what the head tells of a class with slots -/
structure ClF (X : Cx) (P : Pg) (lv : Nat) (c : Str) (ss : List Str) : Prop where
  mg : X.mg c = some (.ref (He.ga X.K c))
  sc : SlX.SCls X.K (He.ga X.K c)
  si : SlX.SIsi X.K (He.ga X.K c)
  slot : ∀ f i, ixOf f ss = some i → ∃ p, SlX.Slot1 X.K (He.ga X.K c) f p i
  meth : ∀ m k, P.key c m = some k → ∃ g j, j + 1 ≤ lv ∧ Meth X.K (He.ga X.K c) m g ∧ FnA X P j k g
  init : ∀ k, P.key c "__init__" = some k → ∃ g j, j + 1 ≤ lv ∧ Mk X.K (He.ga X.K c) g ∧ FnA X P j k g
  kitT : ∀ t ∈ ["NoneType", "bool", "int", "str", "tuple", "list", "dict"], PySem.W.kitOne X.K (.type t) (.ref (He.ga X.K c)) = some false
  ne : ∀ k, P.key c "__eq__" = some k → ∀ g, PySem.W.findIn X.K (.ref (He.ga X.K c)) "__eq__" = some (some (.ref g)) → neIn X.K (He.ga X.K c) g = true
  kit : ∀ c' ss', P.cls c' = some ss' → PySem.W.kitOne X.K (.ref (He.ga X.K c)) (.ref (He.ga X.K c')) = some (decide (c = c')) ∧ PySem.W.notFirst X.K (He.ga X.K c) (.ref (He.ga X.K c')) = true
/-- .. of all that is around -/
structure XF (X : Cx) (P : Pg) (lv : Nat) : Prop where
  cls : ∀ c ss, P.cls c = some ss → ClF X P lv c ss
  con : ∀ x p, P.con x = some p → ∃ v u, X.mg x = some u ∧ RelV v u ∧ ∀ H F, RV X.K H F p v
  key : ∀ c m k, P.key c m = some k → ∃ ss, P.cls c = some ss
section
variable {X : Cx} {W : WX} {P : Pg} {a b e : Expr} {es : List Expr} {ca cb ce : CE} {ces : List CE} {pos p apos : Pos} {lv : Nat} {f m : Str} {ds : List PV}
theorem s_nope : PE X e (tE X.K X.mg P W .nope) := ⟨fun pins s τ H Q I ⟨B, m, σ, h, R, g⟩ => by simp only [ev] at g; exact g.elim⟩
theorem evs_one {σ : St} {h : OH} (hs : isStarE ce = false) : evs P [ce] σ h = bnd (ev P ce σ h) fun x => ok [x] := by
  rw [evs_cons hs]
  simp only [evs, bnd_ok]
theorem bnd_assoc {α β γ : Type} (r : R α) (k : α → R β) (j : β → R γ) : bnd (bnd r k) j = bnd r fun x => bnd (k x) j := by
  cases r with
  | none => rfl
  | some r => cases r <;> rfl
/-- a name of the module -/
theorem s_glo {x : Str} (F : XF X P lv) (hg : Gl X x) (hd : (x == ("__debug__" : Str)) = false) (hc : (P.con x).isSome = true) : PE X (.Name x pos) (tE X.K X.mg P W (.ext (.glo x) [])) := by
  obtain ⟨q, hq⟩ := Option.isSome_iff_exists.mp hc
  obtain ⟨v, u, h1, h2, h3⟩ := F.con x q hq
  refine PE.imp (pe_glob hg h1 h2 hd) fun τ H Q ⟨B, m, σ, h, R, g⟩ => ?_
  simp only [ev, evs, bnd_ok, argsOf, xop, hq, Option.map_some] at g
  exact Gd.ok g (RF.of (h3 _ _))
def noCall0 : Expr → Bool
  | .Call (.Name _ _) [] [] _ => false
  | _ => true
theorem base_eq {o : Expr} {f : Str} {env : Env} {w : Sem Value} (h : noCall0 o = true) : attributeBase o f env w = w := by
  unfold attributeBase
  split
  · cases h
  · rfl
/-- e.f -/
theorem s_attr (F : XF X P lv) (he : PE X e (tE X.K X.mg P W ce)) (hs : isStarE ce = false) (hb : noCall0 e = true) : PE X (.Attribute e f pos) (tE X.K X.mg P W (.ext (.attr f) [ce])) := by
  refine PE.imp (SlX.pe_sl he (base_eq hb)) fun τ H Q ⟨B, m, σ, h, R, g⟩ => ?_
  simp only [ev] at g
  rw [evs_one hs, bnd_assoc] at g
  refine ⟨B, m, σ, h, R, Gd.imp (Gd.bnd (rel := rF X.K B m (flg σ ce)) g) fun v H1 ⟨q, s1, r1, g1⟩ => ?_⟩
  simp only [bnd_ok, argsOf, xop] at g1
  obtain ⟨z, ez, g2⟩ := Gd.some g1
  cases q with
  | ins c fs =>
    simp only [xattr] at ez
    obtain ⟨i, ei, hi⟩ := Option.bind_eq_some_iff.mp ez
    obtain ⟨ss, hss, hix⟩ := Option.bind_eq_some_iff.mp ei
    have cf := F.cls c ss hss
    obtain ⟨a, dx, vs, ws, rfl, sl, _, _, _, hv, hr⟩ := (show RV X.K H1 (fb B m) (.ins c fs) v from r1.top)
    obtain ⟨w, hw, rw_⟩ := hr.get hi
    obtain ⟨p, sp⟩ := cf.slot f i hix
    exact ⟨a, _, dx, p, vs, i, w, rfl, sl, cf.sc, sp, hv i w hw, Gd.ok g2 (RF.of rw_)⟩
  | _ => simp only [xattr] at ez; cases ez
/-! ### methods -/
theorem call_form {o : Expr} {es : List Expr} {env : Env} (hb : noCall0 o = true) (hn : es.all notStar = true) (hl : (apos.endLine == pos.line) = true) (hf : decide (es.length < 30) = true) :
    eval (.Call (.Attribute o m apos) es [] pos) env = (do
      let ov ← eval o env
      standAt apos.atName
      let (f, first) ← holding [ov] (getMethod ov m (do return (← importBound o env).getD true))
      callWith pos f first (backTo pos (starEach es env)) (backToKw pos (keywordEach [] env))) := by
  have hm : methodCallForm (es.length + ([] : List Keyword).length) (backTo pos (starEach es env)) (backToKw pos (keywordEach [] env)) = true := by
    unfold methodCallForm
    have h1 : (backTo pos (starEach es env)).all (fun x => !x.1) = true := by
      have := star_any0 (env := env) (pos := pos) hn
      rw [List.all_eq_true]
      intro x hx
      rw [List.any_eq_false] at this
      have := this x hx
      simpa using this
    rw [h1]
    show (true && true && decide (es.length + 0 + 0 < 30)) = true
    simpa using hf
  show (do
    let ov ← attributeBase o m env (eval o env)
    standAt apos.atName
    methodCall o m apos pos env ov (es.length + ([] : List Keyword).length) (backTo pos (starEach es env)) (backToKw pos (keywordEach [] env))) = _
  rw [base_eq hb]
  unfold methodCall
  rw [hm]
  unfold calleeOf methodCallPos
  rw [hl]
  rfl
/-- o.m(..): the method is found ahead of the arguments -/
def tMX (X : Cx) (W : WX) (m : Str) (ta : TE) (t : TA) : TE := fun τ H Q => ta τ H fun x H1 => ∃ a C dx vs g fd ps k sp us dvs, x = .ref a ∧ SlX.Slt H1 a C dx vs ∧ SlX.SCls X.K C ∧ Meth X.K C m g ∧
  FnOk X.prog X.w X.K X.mg X.base (L2.CX X.prog X.w) k g fd ps sp ∧ Room k X.A ∧ Binds X.K fd ps us ∧ Vals dvs us ∧ t τ H1 fun ws H2 => sp (.ref a :: ws ++ dvs) H2 Q (WE W τ)
theorem pe_mx {o : Expr} {ta : TE} {t : TA} (tk : Takes X W) (he : PE X o ta) (ha : PA X (a :: es) t) (hb : noCall0 o = true) (hn : (a :: es).all notStar = true) (hl : (apos.endLine == pos.line) = true) (hf : decide ((a :: es).length < 30) = true) :
    PE X (.Call (.Attribute o m apos) (a :: es) [] pos) (tMX X W m ta t) := by
  have hn2 := hn
  rw [List.all_cons, Bool.and_eq_true] at hn2
  refine ⟨fun pins s σ H Q I h => ?_⟩
  refine PySem.W.methodCall_KW (thn (he.run pins s σ H _ I h) fun u s1 ⟨x, H1, I1, rx, b, C, dx, vs, g, fd, ps, k, sp, us, dvs, ex, hsl, c, hm, F, hr, hbi, hv, q⟩ => ?_) (call_form hb hn hl hf)
  subst ex
  cases (show u = Value.ref b from rx)
  refine SlX.getmethsl_ok I1 hsl c hm ?_
  refine PySem.W.callWith_K (first := [.ref b]) (h₀ := X.base) I.ok.mod.kin hm.kp (thn (ha.run pos pins s1 σ H1 _ I1 q) fun us2 s2 ⟨ws, H2, I2, r, q2⟩ => ⟨I2.kIn, ?_⟩) (star_no hn2.1) (star_any0 hn2.2)
  exact L2.run_fnSD (E := WE W) (us := .ref b :: us2) (vs := .ref b :: ws) F hr hbi hv (L2.passAt tk σ) I2 (.cons rfl r) q2
theorem pe_mx0 {o : Expr} {ta : TE} (tk : Takes X W) (he : PE X o ta) (hb : noCall0 o = true) (hl : (apos.endLine == pos.line) = true) : PE X (.Call (.Attribute o m apos) [] [] pos) (tMX X W m ta tNil) := by
  refine ⟨fun pins s σ H Q I h => ?_⟩
  refine PySem.W.methodCall_KW (thn (he.run pins s σ H _ I h) fun u s1 ⟨x, H1, I1, rx, b, C, dx, vs, g, fd, ps, k, sp, us, dvs, ex, hsl, c, hm, F, hr, hbi, hv, q⟩ => ?_) (call_form hb rfl hl rfl)
  subst ex
  cases (show u = Value.ref b from rx)
  refine SlX.getmethsl_ok I1 hsl c hm ?_
  exact PySem.W.callWith_K0 (first := [.ref b]) I1.kIn hm.kp (L2.run_fnSD (E := WE W) (us := [.ref b]) (vs := [.ref b]) F hr hbi hv (L2.passAt tk σ) I1 (.cons rfl .nil) q)
theorem RF.ins_rs {K : PySem.W.Frag} {H : Hp} {B : Fb} {m : List Addr} {n : Nat} {c : Str} {fs : List PV} {v : V} {k : Bool} (r : RF K H B m n (.ins c fs) v) : RS K H (fb (fb B m) []) [] (.d k (.ins c fs)) v := by
  have h : RV K H (fb B m) (.ins c fs) v := r.top
  have h2 : RV K H (fb (fb B m) []) (.ins c fs) v := RV.weak (fun b f => fb_nil b f) h
  cases k with
  | false => exact h2
  | true => exact h2
theorem s_meth {o : Expr} {co : CE} (F : XF X P lv) (rm : Room lv X.A) (tk : Takes X W) (he : PE X o (tE X.K X.mg P W co)) (ha : es = [] ∧ ces = [] ∨ ∃ x r, es = x :: r ∧ PA X es (tAs X.K X.mg P W ces)) (hb : noCall0 o = true) (hn : es.all notStar = true) (hs : ces.all (fun e => !isStarE e) = true)
    (hl : (apos.endLine == pos.line) = true) (hf : decide (es.length < 30) = true) : PE X (.Call (.Attribute o m apos) es [] pos) (tE X.K X.mg P W (.meth m ds co ces)) := by
  have key : ∀ (t : TA), PE X (.Call (.Attribute o m apos) es [] pos) (tMX X W m (tE X.K X.mg P W co) t) → (∀ τ H (Q : List V → Hp → Prop), tAs X.K X.mg P W ces τ H Q → t τ H Q) → PE X (.Call (.Attribute o m apos) es [] pos) (tE X.K X.mg P W (.meth m ds co ces)) := by
    intro t hp ht
    refine PE.imp hp fun τ H Q ⟨B, mm, σ, h, R, g⟩ => ?_
    simp only [ev] at g
    refine ⟨B, mm, σ, h, R, Gd.imp (Gd.bnd (rel := rF X.K B mm (flg σ co)) g) fun v H1 ⟨q, s1, r1, g1⟩ => ?_⟩
    obtain ⟨k, ek, g2⟩ := g1.wo
    obtain ⟨c, ec, hk⟩ := Option.bind_eq_some_iff.mp ek
    cases q with
    | ins c' fs =>
      cases ec
      obtain ⟨ss, hss⟩ := F.key _ _ _ hk
      have cf := F.cls _ ss hss
      obtain ⟨gm, j0, hj0, hm, FA⟩ := cf.meth m k hk
      obtain ⟨fd, ps, j, hj, hF, hbi, hln, hdf⟩ := FA.ex
      obtain ⟨us, dvs, hb2, hv, hfl⟩ := fillD_ok hbi hdf ds
      have rv : RV X.K H1 (fb B mm) (.ins c fs) v := r1.top
      obtain ⟨a, dx, vs, ws, rfl, sl, _⟩ := id rv
      refine ⟨a, _, dx, vs, gm, fd, ps, j, _, us, dvs, rfl, sl, cf.sc, hm, hF, rm.mono (by omega), hb2, hv, ht _ _ _ ⟨B, mm, σ, h, R.same s1, Gd.imp (Gd.bnd (rel := rA X.K B mm σ ces) g2) fun zs H2 ⟨qs, s2, r2, g3⟩ => ?_⟩⟩
      simp only [xfn] at g3
      cases e : fillD P k ds (.d (decide (flg σ co ≠ 0)) (.ins c fs) :: argsOf σ ces qs) with
      | none => rw [e] at g3; exact g3.elim
      | some as =>
        rw [e] at g3
        obtain ⟨rfl, hr⟩ := hfl _ _ e
        have r0 : RSs X.K H2 (fb (fb B mm) []) [] (.d (decide (flg σ co ≠ 0)) (.ins c fs) :: argsOf σ ces qs) (.ref a :: zs) := ⟨_, _, rfl, RF.ins_rs (RF.same s2 r1), rss_args hs r2⟩
        have ra := rss_app r0 (rss_rvs (m := []) (hr H2 (fb (fb B mm) [])))
        have hlen : ((V.ref a :: zs) ++ dvs).length = ps.length := by
          rw [← rss_len ra]
          exact hln _ [] (fun z => by
            have g4 : Gd X.K X.mg W B mm τ (rF X.K B mm 0) H2 (told (P.fn k (.d (decide (flg σ co ≠ 0)) (.ins c fs) :: argsOf σ ces qs ++ ds.map (SV.d false)) [])) Q := g3
            rw [z] at g4; exact g4)
        exact sp_told hlen ((R.same s1).toRh.same s2) ra g3
    | _ => cases ec
  rcases ha with ⟨rfl, rfl⟩ | ⟨x, r, rfl, ha⟩
  · refine key tNil (pe_mx0 tk he hb hl) fun τ H Q ⟨B, mm, σ, h, R, g⟩ => ?_
    exact Gd.ok (rel := rA X.K B mm σ []) (p := []) (v := []) (by simpa only [evs] using g) ⟨rfl, rfl⟩
  · exact key _ (pe_mx tk he ha hb hn hl hf) fun _ _ _ q => q
end
end Ev

set_option Elab.async false
set_option linter.all false
set_option maxRecDepth 100000
set_option maxHeartbeats 1000000
/-! EvX2: instances made; attributes stored. -/
namespace Ev
open PySem PySem.Spec PyProof.Rows L2
section
variable {X : Cx} {W : WX} {P : Pg} {a b e : Expr} {es : List Expr} {ca cb ce : CE} {ces : List CE} {pos p apos : Pos} {lv : Nat} {f m c : Str} {ds : List PV}
/-- C(..), where what is raised is wished for at the caller's slots -/
theorem run_mk {CX : CXT} {C fa : Addr} {fd : FuncData} {ps : List Str} {sp : Sp} {k : Nat} {us0 : List Value} {dvs : List V} {E : XK} {pins : List (Addr × Obj)} {σ : L2.St} {H : Hp} {s : Shared} {Q : VK} {us : List Value} {vs : List V} (M : Mk X.K C fa)
    (F : FnOk X.prog X.w X.K X.mg X.base CX k fa fd ps sp) (hr : Room (k + 1) X.A) (hb : Binds X.K fd ps us0) (hd : Vals dvs us0) (hx : PassesAt CX X σ E) (I : Inv X pins σ H s) (r : Vals vs us)
    (h : ∀ x dx, H x = none → H dx = none → dx ≠ x → sp (.ref x :: (vs ++ dvs)) (upd (upd H dx (.own x)) x (.ins C dx [])) (fun v H2 => v = .non ∧ Q (.ref x) H2) E) : wpAny (model X.prog X.w) X.A (call (.ref C) us) (EP X pins σ Q) X.xe s := by
  have want := h (s.heap.objs.size + 1) s.heap.objs.size (I.hok.fresh (Nat.le_succ _)) (I.hok.fresh (Nat.le_refl _)) (Nat.ne_of_lt (Nat.lt_succ_self _))
  have J := Inv.made (C := C) I
  have rr : Vals (V.ref (s.heap.objs.size + 1) :: (vs ++ dvs)) (Value.ref (s.heap.objs.size + 1) :: (us ++ us0)) := .cons rfl (r.append hd)
  have len : (Value.ref (s.heap.objs.size + 1) :: us ++ us0).length = ps.length := (rr.length.symm.trans (F.len _ _ _ _ want))
  have run := F.run _ X.stack _ _ ⟨Value.ref (s.heap.objs.size + 1) :: us, []⟩ (Value.ref (s.heap.objs.size + 1) :: (us ++ us0)) _ _ E (hr.make C us []) (J.env0.make C us []) (hb _ (Value.ref (s.heap.objs.size + 1) :: us) J.kIn len) rr want
  refine wpAny_call (make_map (f := fa) I.kIn M.makes M.init (beq_iff_eq.mp M.fn) (codeAny_mono run fun o s2 ho => ?_))
  rcases o with o | fl
  · exact hx pins _ _ o s2 J ho
  · cases fl with
    | ret u =>
      obtain ⟨v, H2, J2, rv, rfl, q⟩ := J.after ho
      exact ⟨rv, V.ref (s.heap.objs.size + 1), H2, J2, rfl, q⟩
    | next => exact ho.elim
    | brk => exact ho.elim
    | cont => exact ho.elim
def tMk (C : Addr) (sp : Sp) (dvs : List V) (E : L2.St → XK) (t : TA) : TE := fun σ H Q => t σ H fun vs H1 => ∀ x dx, H1 x = none → H1 dx = none → dx ≠ x → sp (.ref x :: (vs ++ dvs)) (upd (upd H1 dx (.own x)) x (.ins C dx [])) (fun v H2 => v = .non ∧ Q (.ref x) H2) (E σ)
theorem pe_mk {CX : CXT} {C fa : Addr} {fd : FuncData} {ps : List Str} {sp : Sp} {k : Nat} {us0 : List Value} {dvs : List V} {E : L2.St → XK} {x : Str} {t : TA} (M : Mk X.K C fa) (F : FnOk X.prog X.w X.K X.mg X.base CX k fa fd ps sp) (hr : Room (k + 1) X.A)
    (hg : Gl X x) (hm : X.mg x = some (.ref C)) (hb : Binds X.K fd ps us0) (hd : Vals dvs us0) (hx : ∀ σ, PassesAt CX X σ (E σ)) (ha : PA X (a :: es) t) (hdb : (x == ("__debug__" : Str)) = false) (hn : (a :: es).all notStar = true) :
    PE X (.Call (.Name x p) (a :: es) [] pos) (tMk C sp dvs E t) := by
  rw [List.all_cons, Bool.and_eq_true] at hn
  refine ⟨fun pins s σ H Q I h => wpAny_Call_Name_kw (ld_glob I hg hm ?_ hdb)⟩
  refine PySem.W.callWith_K (h₀ := X.base) I.ok.mod.kin M.kp (thn (ha.run pos pins s σ H _ I h) fun us s1 ⟨vs, H1, I1, r, q⟩ => ⟨I1.kIn, ?_⟩) (star_no hn.1) (star_any0 hn.2)
  exact run_mk M F hr hb hd (hx σ) I1 r q
theorem same_made {H : Hp} {x dx C : Addr} (hx : H x = none) (hd : H dx = none) (ne : dx ≠ x) : Same H (upd (upd H dx (.own x)) x (.ins C dx [])) := fun b y e => by
  rw [upd_ne (ne_of_none e hx), upd_ne (ne_of_none e hd)]
  exact e
theorem RSs.mono {K : PySem.W.Frag} {H H' : Hp} {B : Fb} {m m' : List Addr} {F' : Fb} (x : ExtM m H H') (gr : Grows H (fb B m) F') (gm : ∀ a ∈ m', a ∈ m ∨ H a = none) (pre : m <+: m') : ∀ {ss : List SV} {vs : List V}, RSs K H (fb B m) m ss vs → RSs K H' F' m' ss vs
  | [], _, h => h
  | s :: ss, _, h => by
    obtain ⟨v, r, rfl, h1, h2⟩ := h
    exact ⟨v, r, rfl, h1.mono x gr gm pre, RSs.mono x gr gm pre h2⟩
theorem allSome_get : ∀ {fs : List (Option PV)} {ys : List PV}, allSome fs = some ys → ∀ (i : Nat) p, ys[i]? = some p → fs[i]? = some (some p)
  | [], ys, h, i, p, e => by cases h; simp at e
  | some q :: r, ys, h, i, p, e => by
    simp only [allSome] at h
    obtain ⟨zs, hz, rfl⟩ := Option.map_eq_some_iff.mp h
    cases i with
    | zero => simpa using e
    | succ i => simpa using allSome_get hz i p (by simpa using e)
  | none :: r, ys, h, i, p, e => by simp only [allSome] at h; cases h
/-- all fields, one by one -/
theorem rvs_of {K : PySem.W.Frag} {H : Hp} {F : Fb} : ∀ (ys : List PV) (k : Nat) (vs : List (Option V)), (∀ (i : Nat) p, ys[i]? = some p → ∃ v, vs[k + i]? = some (some v) ∧ RV K H F p v) → ∃ ws, RVs K H F ys ws ∧ ∀ (i : Nat) w, ws[i]? = some w → vs[k + i]? = some (some w)
  | [], k, vs, h => ⟨[], rfl, fun i w e => by simp at e⟩
  | y :: ys, k, vs, h => by
    obtain ⟨v, h1, h2⟩ := h 0 y rfl
    obtain ⟨ws, h3, h4⟩ := rvs_of ys (k + 1) vs fun i p e => by
      obtain ⟨v, a, b⟩ := h (i + 1) p (by simpa using e)
      exact ⟨v, by rw [show k + 1 + i = k + (i + 1) by omega]; exact a, b⟩
    refine ⟨v :: ws, ⟨v, ws, rfl, h2, h3⟩, fun i w e => ?_⟩
    cases i with
    | zero =>
      have : v = w := by simpa using e
      subst this; exact h1
    | succ i => rw [show k + (i + 1) = k + 1 + i by omega]; exact h4 i w (by simpa using e)
theorem s_make (F : XF X P lv) (rm : Room lv X.A) (tk : Takes X W) (hg : Gl X c) (hd : (c == ("__debug__" : Str)) = false) (hc : ∃ ss k, P.cls c = some ss ∧ P.key c "__init__" = some k) (ha : PA X (a :: es) (tAs X.K X.mg P W (ca :: ces)))
    (hn : (a :: es).all notStar = true) (hs : (ca :: ces).all (fun e => !isStarE e) = true) : PE X (.Call (.Name c p) (a :: es) [] pos) (tE X.K X.mg P W (.ext (.make c ds) (ca :: ces))) := by
  obtain ⟨ss, k, hss, hk⟩ := hc
  have cf := F.cls c ss hss
  obtain ⟨g0, j, hj, M, FA⟩ := cf.init k hk
  obtain ⟨fd, ps, l, hl, hF, hbi, hln, hdf⟩ := FA.ex
  obtain ⟨us, dvs, hb2, hv, hfl⟩ := fillD_ok hbi hdf ds
  refine PE.imp (pe_mk M hF (rm.mono (by omega)) hg cf.mg hb2 hv (fun σ => L2.passAt tk σ) ha hd hn) fun τ H Q ⟨B, mm, σ, h, R, g⟩ => ?_
  simp only [ev] at g
  refine ⟨B, mm, σ, h, R, Gd.imp (Gd.bnd (rel := rA X.K B mm σ (ca :: ces)) g) fun vs H1 ⟨qs, s1, r1, g1⟩ x dx hx hdx ne => ?_⟩
  simp only [xop, xmake, hss, hk] at g1
  cases e : fillD P k ds (.r 0 :: argsOf σ (ca :: ces) qs) with
  | none => rw [e] at g1; exact g1.elim
  | some as =>
    rw [e] at g1
    obtain ⟨rfl, hrd⟩ := hfl _ _ e
    have R1 := R.toRh.same s1
    have nx : ¬ fb B mm x := R1.free hx
    have nd : ¬ fb B mm dx := R1.free hdx
    have sm : Same H1 (upd (upd H1 dx (.own x)) x (.ins (He.ga X.K c) dx [])) := same_made hx hdx ne
    have atd : upd (upd H1 dx (.own x)) x (.ins (He.ga X.K c) dx []) dx = some (.own x) := by rw [upd_ne ne, upd_same]
    have rh : Rh X.K (upd (upd H1 dx (.own x)) x (.ins (He.ga X.K c) dx [])) (fb B mm) [x, dx] [.ins c (ss.map fun _ => none), .hid] := by
      refine ⟨fun b hb => ?_, fun b hb hB => ?_, by simp [Ne.symm ne], rfl, fun n b o h1 h2 => ?_⟩
      · rw [Same.at sm (R1.ne hb)]; exact R1.ne hb
      · rcases List.mem_cons.mp hb with rfl | hb
        · exact nx hB
        · cases List.mem_singleton.mp hb; exact nd hB
      · match n, h1, h2 with
        | 0, h1, h2 =>
          cases h1; cases h2
          refine ⟨dx, [], .inl ⟨upd_same, rfl⟩, .inl atd, ne, by simp, fun i q z => ?_⟩
          rw [List.getElem?_map] at z
          obtain ⟨y, _, z⟩ := Option.map_eq_some_iff.mp z
          cases z
        | 1, h1, h2 =>
          cases h1; cases h2
          refine ⟨by rw [atd]; exact (fun z => nomatch z), fun xs z => ?_, fun ob u z => ?_⟩
          · rw [atd] at z; cases z
          · rw [atd] at z; cases z
        | n + 2, h1, h2 => simp at h1
    have r0 : RSs X.K H1 (fb (fb B mm) []) [] (argsOf σ (ca :: ces) qs ++ ds.map (SV.d false)) (vs ++ dvs) := rss_app (rss_args hs r1) (rss_rvs (hrd H1 _))
    have gr : Grows H1 (fb (fb B mm) []) (fb (fb B mm) [x, dx]) := fun b hb => by
      rcases hb with hb | hb
      · exact .inl (.inl hb)
      · rcases List.mem_cons.mp hb with rfl | hb
        · exact .inr hx
        · cases List.mem_singleton.mp hb; exact .inr hdx
    have r2 := RSs.mono (m' := [x, dx]) (ExtM.of sm) gr (fun b hb => by
      rcases List.mem_cons.mp hb with rfl | hb
      · exact .inr hx
      · cases List.mem_singleton.mp hb; exact .inr hdx) ⟨_, rfl⟩ r0
    have r3 : RSs X.K (upd (upd H1 dx (.own x)) x (.ins (He.ga X.K c) dx [])) (fb (fb B mm) [x, dx]) [x, dx] (.r 0 :: argsOf σ (ca :: ces) qs ++ ds.map (SV.d false)) (.ref x :: (vs ++ dvs)) := ⟨_, _, rfl, ⟨x, rfl, rfl⟩, r2⟩
    refine ⟨?_, fb B mm, [x, dx], _, _, rh, r3, ?_⟩
    · rw [← rss_len r3]
      exact hln _ [.ins c (ss.map fun _ => none), .hid] (fun z => by
        have g2 : Gd X.K X.mg W B mm τ (rF X.K B mm 0) H1 (made (P.fn k (.r 0 :: argsOf σ (ca :: ces) qs ++ ds.map (SV.d false)) [.ins c (ss.map fun _ => none), .hid])) Q := g1
        rw [z] at g2; exact g2)
    · have g2 : Gd X.K X.mg W B mm τ (rF X.K B mm 0) H1 (made (P.fn k (.r 0 :: argsOf σ (ca :: ces) qs ++ ds.map (SV.d false)) [.ins c (ss.map fun _ => none), .hid])) Q := g1
      have toS : ∀ {H'}, ExtM [x, dx] (upd (upd H1 dx (.own x)) x (.ins (He.ga X.K c) dx [])) H' → Same H1 H' := fun xe b y eb => by
        refine xe.keep b y (fun z => ?_) (sm b y eb)
        rcases List.mem_cons.mp z with rfl | z
        · rw [hx] at eb; cases eb
        · cases List.mem_singleton.mp z; rw [hdx] at eb; cases eb
      cases q : P.fn k (.r 0 :: argsOf σ (ca :: ces) qs ++ ds.map (SV.d false)) [.ins c (ss.map fun _ => none), .hid] with
      | none => rw [q] at g2; exact g2
      | some rr =>
        rw [q] at g2
        cases rr with
        | error z => exact fun cls d H' xe rx => g2 cls d H' (toS xe) (rx.weak fun b f => .inl f)
        | ok sh =>
          obtain ⟨sv, h'⟩ := sh
          intro v H' m' hp hnew xe rh' rs
          match sv, h', g2, rh', rs with
          | .d false .non, OO.ins c' fs :: rest, g2, rh', rs =>
            refine ⟨rs, ?_⟩
            have g3 : Gd X.K X.mg W B mm τ (rF X.K B mm 0) H1 ((allSome fs).map fun ys => .ok (.ins c' ys)) Q := g2
            cases ea : allSome fs with
            | none => rw [ea] at g3; exact g3.elim
            | some ys =>
              rw [ea] at g3
              refine Gd.new (p := PV.ins c' ys) g3 (toS xe) (RF.of ?_)
              have h0 : m'[0]? = some x := by
                obtain ⟨t, rfl⟩ := hp
                rfl
              obtain ⟨dx', vs', sl, dd, ne', dm, hf⟩ := rh'.obj 0 x (.ins c' fs) h0 rfl
              obtain ⟨ws, hw, hw2⟩ := rvs_of ys 0 vs' (K := X.K) (H := H') (F := fb (fb B mm) m') fun i q e => by
                obtain ⟨v, a1, a2⟩ := hf i q (allSome_get ea i q e)
                exact ⟨v, by rw [Nat.zero_add]; exact a1, a2⟩
              refine ⟨x, dx', vs', ws, rfl, sl, own_ne dd, rh'.ap x (List.mem_of_getElem? h0), rh'.ap dx' dm, fun i w e => by have := hw2 i w e; rw [Nat.zero_add] at this; exact this, RVs.weak (fun b f => .inl f) hw⟩
          | .d false .non, [], g2, _, _ => exact g2.elim
          | .d false .non, OO.l _ :: _, g2, _, _ => exact g2.elim
          | .d false .non, OO.d _ _ :: _, g2, _, _ => exact g2.elim
          | .d false .non, OO.hid :: _, g2, _, _ => exact g2.elim
          | .d true _, _, g2, _, _ => exact g2.elim
          | .r _, _, g2, _, _ => exact g2.elim
          | .d false (.bl _), _, g2, _, _ => exact g2.elim
          | .d false (.int _), _, g2, _, _ => exact g2.elim
          | .d false (.str _), _, g2, _, _ => exact g2.elim
          | .d false (.tup _), _, g2, _, _ => exact g2.elim
          | .d false (.lst _), _, g2, _, _ => exact g2.elim
          | .d false (.dct _ _), _, g2, _, _ => exact g2.elim
          | .d false (.ins _ _), _, g2, _, _ => exact g2.elim
          | .d false (.ty _), _, g2, _, _ => exact g2.elim
          | .d false (.cl _), _, g2, _, _ => exact g2.elim
end
end Ev

set_option Elab.async false
set_option linter.all false
set_option maxRecDepth 100000
set_option maxHeartbeats 1000000
/-! EvX3: an attribute of one's own instance is stored. -/
namespace Ev
open PySem PySem.Spec PyProof.Rows L2
section
variable {K : PySem.W.Frag} {mg : Str → Option Value} {W : WX} {B : Fb} {m : List Addr} {D : Ends} {H : Hp} {τ : L2.St} {σ : St} {h : OH}
theorem extM_sl {n : Nat} {a C dx : Addr} {vs vs' : List (Option V)} (ha : a ∈ m) (hd : dx ∈ m) (sl : SlX.Slt H a C dx vs) (dd : H dx = some (.own a) ∨ H dx = some (.xd [])) : ExtM m H (SlX.slH H a C dx vs') := by
  have na : ∀ xs, H a ≠ some (.tup xs) := fun xs q => by
    rcases sl with ⟨e, _⟩ | ⟨e, _⟩
    · rw [e] at q; cases q
    · rw [e] at q; unfold SlX.SlO at q; cases q
  have na2 : ∀ ob u, H a ≠ some (.frz ob u) := fun ob u q => by
    rcases sl with ⟨e, _⟩ | ⟨e, _⟩
    · rw [e] at q; cases q
    · rw [e] at q; unfold SlX.SlO at q; cases q
  refine ⟨fun b x hb e => ?_, fun b xs e => ?_, fun b ob u e => ?_⟩
  · rw [SlX.slH_ne (fun z => hb (by rw [z]; exact ha)) (fun z => hb (by rw [z]; exact hd))]; exact e
  · rw [SlX.slH_ne (fun z => na xs (by rw [← z]; exact e)) (fun z => by rw [z] at e; rcases dd with d | d <;> (rw [d] at e; cases e))]; exact e
  · rw [SlX.slH_ne (fun z => na2 ob u (by rw [← z]; exact e)) (fun z => by rw [z] at e; rcases dd with d | d <;> (rw [d] at e; cases e))]; exact e
theorem Rl.field {n j : Nat} {a dx : Addr} {c : Str} {fs : List (Option PV)} {vs : List (Option V)} {p : PV} {y : V} (R : Rl K H B m σ h τ) (ha : m[n]? = some a) (hh : h[n]? = some (.ins c fs)) (sl : SlX.Slt H a (He.ga K c) dx vs)
    (dd : H dx = some (.own a) ∨ H dx = some (.xd [])) (ne : dx ≠ a) (dm : dx ∈ m) (hf : ∀ (i : Nat) q, fs[i]? = some (some q) → ∃ v, vs[i]? = some (some v) ∧ RV K H (fb B m) q v) (rp : RV K H (fb B m) p y) :
    Rl K (SlX.slH H a (He.ga K c) dx (SlX.putS j y vs)) B m σ (h.set n (.ins c (fs.set j (some p)))) τ := by
  have am : a ∈ m := List.mem_of_getElem? ha
  have x : ExtM m H (SlX.slH H a (He.ga K c) dx (SlX.putS j y vs)) := extM_sl (n := n) am dm sl dd
  have ro := R.obj n a _ ha hh
  have hd' : SlX.slH H a (He.ga K c) dx (SlX.putS j y vs) dx = some (.xd []) := by unfold SlX.slH; rw [upd_ne ne, upd_same]
  refine ⟨⟨fun b hb => ?_, R.ap, R.nd, by rw [List.length_set]; exact R.len, fun k b u h1 h2 => ?_⟩, R.sl, fun i t e => ?_⟩
  · rw [SlX.slH_ne (fun z => R.ap a am (by rw [← z]; exact hb)) (fun z => R.ap dx dm (by rw [← z]; exact hb))]
    exact R.fok b hb
  · by_cases hk : n = k
    · subst hk
      rw [ha] at h1; cases h1
      rw [List.getElem?_set_self (List.getElem?_eq_some_iff.mp hh).1] at h2
      cases h2
      refine ⟨dx, _, SlX.slH_slt ne, .inr hd', ne, dm, fun i q e => ?_⟩
      by_cases hi : i = j
      · subst hi
        have hl : i < fs.length := by
          have := (List.getElem?_eq_some_iff.mp e).1
          simpa using this
        rw [List.getElem?_set_self hl] at e
        cases e
        exact ⟨y, SlX.putS_get _ _ _, rp.mono x.ext .refl⟩
      · rw [List.getElem?_set_ne (Ne.symm hi)] at e
        obtain ⟨v, h3, h4⟩ := hf i q e
        exact ⟨v, (SlX.putS_ne hi).mpr h3, h4.mono x.ext .refl⟩
    · rw [List.getElem?_set_ne hk] at h2
      have nb : b ≠ a := fun z => by
        rw [z] at h1
        exact hk (nd_ix R.nd ha h1)
      have ro2 := R.obj k b u h1 h2
      by_cases hid : u = .hid
      · subst hid
        by_cases bd : b = dx
        · rw [bd]
          refine ⟨by rw [hd']; exact (fun z => nomatch z), fun xs z => ?_, fun ob u z => ?_⟩
          · rw [hd'] at z; cases z
          · rw [hd'] at z; cases z
        · refine ro2.mono x.ext .refl (fun _ hb => hb) (SlX.slH_ne nb bd) fun e de => ?_
          by_cases ed : e = dx
          · rw [ed] at de ⊢
            rw [hd']
            rcases de with de | de
            · rcases dd with d | d
              · rw [d] at de
                have : a = b := by injection de with de; injection de
                exact absurd this.symm nb
              · exact d.symm
            · exact de.symm
          · refine SlX.slH_ne (fun z => ?_) ed
            rw [z] at de
            exact de.elim (RO.nk (o := .ins c fs) (fun z => nomatch z) ro b).1 (RO.nk (o := .ins c fs) (fun z => nomatch z) ro b).2
      · have bd : b ≠ dx := fun z => by
          rw [z] at ro2
          rcases dd with d | d
          · exact (ro2.nk hid a).1 d
          · exact (ro2.nk hid a).2 d
        refine ro2.mono x.ext .refl (fun _ hb => hb) (SlX.slH_ne nb bd) fun e de => ?_
        by_cases ed : e = dx
        · rw [ed] at de ⊢
          rw [hd']
          rcases de with de | de
          · rcases dd with d | d
            · rw [d] at de
              have : a = b := by injection de with de; injection de
              exact absurd this.symm nb
            · exact d.symm
          · exact de.symm
        · refine SlX.slH_ne (fun z => ?_) ed
          rw [z] at de
          exact de.elim (RO.nk (o := .ins c fs) (fun z => nomatch z) ro b).1 (RO.nk (o := .ins c fs) (fun z => nomatch z) ro b).2
  · obtain ⟨v, e1, e2⟩ := R.slot i t e
    exact ⟨v, e1, e2.mono x .refl (fun a ha => .inl ha) (List.prefix_refl _)⟩
end
section
variable {X : Cx} {W : WX} {P : Pg} {e oe : Expr} {ce : CE} {pos p2 : Pos} {i lv : Nat} {f : Str}
theorem s_setf (F : XF X P lv) (hv : PE X oe (tVar i)) (he : PE X e (tE X.K X.mg P W ce)) (hs : swapsWith e (some (.Attribute oe f p2)) pos.line X.env = pure false) : PS X (.Assign [.Attribute oe f p2] e pos) (tS X.K X.mg P W (.setf i f ce)) := by
  refine PS.imp (SlX.ps_sl hv he hs) fun D τ H ⟨B, m, σ, h, R, g⟩ => ?_
  simp only [evS] at g
  cases q : slotR σ i with
  | none => rw [q] at g; exact g.elim
  | some n =>
    rw [q] at g
    refine ⟨B, m, σ, h, R, Gd.imp (GO.val (rel := rF X.K B m (flg σ ce)) R g) fun y H1 ⟨pv, s1, r1, g1⟩ => ?_⟩
    obtain ⟨c1, g2⟩ := g1.ite
    have R1 := R.same s1
    cases qh : h[n]? with
    | none => simp only [qh] at g2; exact g2.elim
    | some o =>
      cases o with
      | ins c fs =>
        simp only [qh] at g2
        obtain ⟨j, ej, g3⟩ := g2.some
        obtain ⟨j0, ej0, hj⟩ := Option.bind_eq_some_iff.mp ej
        obtain ⟨ss, hss, hix⟩ := Option.bind_eq_some_iff.mp ej0
        split at hj
        · rename_i hlt
          cases hj
          have cf := F.cls c ss hss
          obtain ⟨p, sp⟩ := cf.slot f j hix
          obtain ⟨a, hv1, ha, dx, vs, sl, dd, ne, dm, hf⟩ := slot_own R1 q qh
          refine ⟨.ref a, hv1, a, _, dx, p, vs, j, rfl, sl, cf.sc, sp, ?_⟩
          have R2 := R1.field (j := j) ha qh sl dd ne dm hf (r1.zero c1)
          exact g3 τ _ m (List.prefix_refl _) (fun _ h => .inl h) (extM_sl (n := n) (List.mem_of_getElem? ha) dm sl dd) R2
        · cases hj
      | l xs => simp only [qh] at g2; exact g2.elim
      | d ks xs => simp only [qh] at g2; exact g2.elim
      | hid => simp only [qh] at g2; exact g2.elim
theorem s_nopeS {st : Stmt} : PS X st (tS X.K X.mg P W .nope) := ⟨fun pins s τ H D I ⟨B, m, σ, h, R, g⟩ => by simp only [evS] at g; exact g.elim⟩
end
end Ev

set_option Elab.async false
set_option linter.all false
set_option maxRecDepth 100000
set_option maxHeartbeats 1000000
/-! EvX4: == and != of instances, isinstance of one's own classes. -/
namespace Ev
open PySem PySem.Spec PyProof.Rows L2
abbrev EF : XK := fun _ _ _ => False
theorem passF {X : Cx} : Passes (L2.CX X.prog X.w) X EF := fun pins σ H s e s' I q => by
  obtain ⟨_, _, _, _, _, _, _, _, _, _, _, _, z⟩ := q
  exact z.elim
section
variable {X : Cx} {W : WX} {P : Pg} {a b e : Expr} {es : List Expr} {ca cb ce : CE} {ces : List CE} {pos p apos : Pos} {lv : Nat} {f m c : Str} {ds : List PV}
/-- a def called with two instances -/
theorem run_two {pins : List (Addr × Obj)} {σ : L2.St} {H : Hp} {s : Shared} {Q : VK} {A : Around} {x y g : Addr} {fd : FuncData} {ps : List Str} {k : Nat} {sp : Sp} (F : FnOk X.prog X.w X.K X.mg X.base (L2.CX X.prog X.w) k g fd ps sp) (hr : Room k A)
    (e0 : Env0 X.prog X.w X.K X.mg X.base A X.stack s H) (hb : Binds X.K fd ps []) (I : Inv X pins σ H s) (h : sp [.ref x, .ref y] H Q EF) : wpAny (model X.prog X.w) A (call (.ref g) [.ref x, .ref y]) (EP X pins σ Q) X.xe s := by
  have r : Vals [V.ref x, V.ref y] [Value.ref x, Value.ref y] := .cons rfl (.cons rfl .nil)
  have hl : ([Value.ref x, Value.ref y] ++ []).length = ps.length := by rw [← F.len _ _ _ _ h]; rfl
  refine wpAny_call (codeAny_mono (F.run A X.stack s H ⟨[.ref x, .ref y], []⟩ [.ref x, .ref y] [.ref x, .ref y] Q EF hr e0 (hb s [.ref x, .ref y] I.kIn hl) r h) fun o s2 ho => ?_)
  rcases o with o | fl
  · exact passF pins σ H s o s2 I ho
  · cases fl with
    | ret u => exact I.after ho
    | next => exact ho.elim
    | brk => exact ho.elim
    | cont => exact ho.elim
structure EqX (X : Cx) (x y : V) (H : Hp) (a b C g : Addr) (fd : FuncData) (ps : List Str) (k : Nat) (sp : Sp) : Prop where
  ex : x = .ref a
  ey : y = .ref b
  sa : ∃ dx vs, SlX.Slt H a C dx vs
  sb : ∃ C' dy ws, SlX.Slt H b C' dy ws ∧ PySem.W.notFirst X.K C (.ref C') = true
  me : Meth X.K C "__eq__" g
  F : FnOk X.prog X.w X.K X.mg X.base (L2.CX X.prog X.w) k g fd ps sp
  hb : Binds X.K fd ps []
def rEqX (X : Cx) : R2 := fun x y H Q => ∃ a b C g fd ps k sp, EqX X x y H a b C g fd ps k sp ∧ Room k X.A ∧ sp [x, y] H Q EF
theorem op_eqX : OpR X (compareOp .Eq) (rEqX X) := by
  intro pins s σ H x y v u Q I rx ry ⟨a, b, C, g, fd, ps, k, sp, E, hr, q⟩
  cases E.ex; cases E.ey
  cases (show v = Value.ref a from rx)
  cases (show u = Value.ref b from ry)
  obtain ⟨dx, vs, sa⟩ := E.sa
  obtain ⟨C', dy, ws, sb, nf⟩ := E.sb
  obtain ⟨sl, od, _, J, _⟩ := SlX.slt_inst I sa
  obtain ⟨sl2, od2, _, J2, _⟩ := SlX.slt_inst I sb
  obtain ⟨m, hF⟩ := I.fr
  show wpAny _ _ (richCompare .Eq (.ref a) (.ref b)) _ _ _
  refine PySem.W.cmp_K (op := .Eq) (tb := .ref C') hr.units0 hF I.ok.mod.kin J J2.type nf E.me.at_ E.me.fn ?_
  refine wpAny_mono (run_two E.F hr I.env0 E.hb I q) (fun w s2 ⟨z, H2, I2, rz, qz⟩ => SlX.cmpback rz ⟨z, H2, I2, rz, qz⟩) fun _ _ x => x
/-- what the library's rule for != asks -/
theorem neIn_ok {K : PySem.W.Frag} {h : Heap} {x C g : Addr} {ox : Obj} (X : K.In h) (q : neIn K C g = true) (hx : h.get? x = some ox) (hc : ox.cls = .ref C) : h.OwnEqNoNe x C g "object" [.type "object"] := by
  unfold neIn at q
  split at q
  · rename_i dd cd sl ho
    split at q
    · rename_i C' k0 k1 k2 k3 n k5 hm hs
      simp only [Bool.and_eq_true, decide_eq_true_eq, Bool.not_eq_true'] at q
      obtain ⟨rfl, hdel, hok, he, hn, hf⟩ := q
      obtain ⟨nm, bs, mro, ns, qn, hd, sn, sub, ab, col, del⟩ := cd
      dsimp only at hm hdel hok he hn
      subst hm hdel
      have hsl : sl = #[k0, k1, k2, k3, some (.builtin n), k5] := by
        obtain ⟨l⟩ := sl
        simp only at hs
        rw [hs]
      subst hsl
      split at hf
      · rename_i og hog
        have N : h.Ns ns (h.nsMap ns) := .of_isNs (PySem.W.isNs_of_in X hok)
        have e1 : h.nsMap ns "__eq__" = some (.ref g) := by
          obtain ⟨o, es, ep, ho2, hd2, _, hfi⟩ := N
          have he' := he
          unfold PySem.W.nsIn at he'
          split at he'
          · rename_i c d es' n' sl' q'
            have := X _ _ q'
            rw [ho2] at this
            cases this
            cases hd2
            split at he'
            · rename_i en hen
              rw [← hfi]
              unfold nsFind findBy
              rw [← Array.find?_toList, hen]
              have hv : en.val = .ref g := by simpa using he'
              show some en.val = _
              rw [hv]
            · split at he' <;> cases he'
          · cases he'
        exact ⟨ox, og, nm, qn, ns, bs, hd, sn, sub, ab, col, dd, k0, k1, k2, k3, k5, n, h.nsMap ns, _, hx, hc, X _ _ ho, N, e1, X _ _ hog, of_decide_eq_true hf, F.cmp_object.mro, F.cmp_object.eq.lookup, PySem.W.ns_none_of X N hn⟩
      · cases hf
    · cases q
  · cases q
def rNeX (X : Cx) : R2 := fun x y H Q => ∃ a b C g fd ps k sp, EqX X x y H a b C g fd ps k sp ∧ neIn X.K C g = true ∧ Room (k + 1) X.A ∧ sp [x, y] H (fun z H' => ∃ t, z = .bl t ∧ Q (.bl !t) H') EF
theorem op_neX : OpR X (compareOp .NotEq) (rNeX X) := by
  intro pins s σ H x y v u Q I rx ry ⟨a, b, C, g, fd, ps, k, sp, E, ne, hr, q⟩
  cases E.ex; cases E.ey
  cases (show v = Value.ref a from rx)
  cases (show u = Value.ref b from ry)
  obtain ⟨dx, vs, sa⟩ := E.sa
  obtain ⟨C', dy, ws, sb, nf⟩ := E.sb
  obtain ⟨sl, od, _, J, _⟩ := SlX.slt_inst I sa
  obtain ⟨sl2, od2, _, J2, _⟩ := SlX.slt_inst I sb
  have un : X.A.units + 1 < cLine := by have := hr.un; omega
  have one : wpAny (model X.prog X.w) X.A (tryCompare (.ref a) (cmpInfo .NotEq).2.1 (.ref b)) (fun r s' => ∃ v, r = some v ∧ EP X pins σ Q v s') X.xe s := by
    obtain ⟨hp, gs, dr, tk, os⟩ := s
    refine tryCompare_ne_ownEq F.cmp_object (neIn_ok I.kIn ne J.at_ J.cls) un ?_
    refine wpAny_mono (run_two (A := X.A.in1) E.F hr.in1 I.env0.in1 E.hb I q) (fun w s2 z => ?_) fun _ _ x => x
    obtain ⟨z', H2, I2, rz, t, et, qt⟩ := z
    subst et
    cases (show w = Value.bool t from rz)
    exact ⟨t, rfl, _, rfl, .bl !t, H2, I2, rfl, qt⟩
  have fin : ∀ {t : Option Value → Sem Value}, (∀ v, t (some v) = pure v) → wpAny (model X.prog X.w) X.A (tryCompare (.ref a) (cmpInfo .NotEq).2.1 (.ref b) >>= t) (EP X pins σ Q) X.xe s := fun ht =>
    wpAny_bind (wpAny_mono one (fun r s2 ⟨v, ev, q⟩ => by rw [ev, ht]; exact wpAny_pure q) fun _ _ x => x)
  show wpAny _ _ (richCompare .NotEq (.ref a) (.ref b)) _ _ _
  unfold richCompare
  simp only [oneThing_ref]
  refine wpAny_holding (wpAny_bind (wpAny_cRoomFor (by omega) (wpAny_bind (J.type.here (wpAny_bind (J2.type.here ?_))))))
  split
  · rename_i hq
    have hsub : PySem.W.subIn X.K (.ref C') (.ref C) = some false := by
      unfold PySem.W.notFirst at nf
      rcases Bool.or_eq_true_iff.mp nf with z | z
      · rw [beq_iff_eq.mp z] at hq; simp at hq
      · exact beq_iff_eq.mp z
    refine wpAny_bind ((PySem.W.looks_subIn I.kIn hsub).here ?_)
    simp only [Bool.false_eq_true, if_false]
    exact fin fun _ => rfl
  · refine wpAny_bind (wpAny_pure ?_)
    simp only [Bool.false_eq_true, if_false]
    exact fin fun _ => rfl
end
end Ev

set_option Elab.async false
set_option linter.all false
set_option maxRecDepth 100000
set_option maxHeartbeats 1000000
/-! EvX5: these by the evaluator; a loop over a list of one's own. -/
namespace Ev
open PySem PySem.Spec PyProof.Rows L2
section
variable {X : Cx} {W : WX} {P : Pg} {a b e : Expr} {es : List Expr} {ca cb ce : CE} {ces : List CE} {pos p px apos : Pos} {lv : Nat} {f m c : Str} {ds : List PV}
theorem evs_two {σ : St} {h : OH} (h1 : isStarE ca = false) (h2 : isStarE cb = false) : evs P [ca, cb] σ h = bnd (ev P ca σ h) fun x => bnd (ev P cb σ h) fun y => ok [x, y] := by
  rw [evs_cons h1, evs_one h2]
  congr 1
  funext x
  rw [bnd_assoc]
  rfl
/-- what == of two instances gives -/
theorem eq_read (F : XF X P lv) (rm : Room lv X.A) {B : Fb} {mm : List Addr} {τ : L2.St} {H : Hp} {h : OH} {n1 n2 : Nat} {c c' : Str} {fs fs' : List PV} {v w : V} {k1 k2 : Bool} {Q : Bool → Hp → Prop} (R : Rh X.K H B mm h) (r1 : RF X.K H B mm n1 (.ins c fs) v) (r2 : RF X.K H B mm n2 (.ins c' fs') w)
    (hc : (P.cls c').isNone = false) {t : Bool} (e : asB (xmeth P c "__eq__" [] [.d k1 (.ins c fs), .d k2 (.ins c' fs')]) = ok t) (q : ∀ H', Same H H' → Q t H') :
    ∃ a b C g fd ps k sp, EqX X v w H a b C g fd ps k sp ∧ neIn X.K C g = true ∧ Room (k + 1) X.A ∧ ∀ Q' : VK, (∀ H', Same H H' → Q' (.bl t) H') → sp [v, w] H Q' EF := by
  unfold xmeth at e
  cases hk : P.key c "__eq__" with
  | none => rw [hk] at e; cases e
  | some k =>
    rw [hk] at e
    obtain ⟨ss, hss⟩ := F.key _ _ _ hk
    have cf := F.cls c ss hss
    obtain ⟨g, j, hj, hm, FA⟩ := cf.meth _ k hk
    obtain ⟨fd, ps, l, hl, hF, hbi, hln, _⟩ := FA.ex
    have hne := cf.ne k hk g hm.at_
    cases hc' : P.cls c' with
    | none => rw [hc'] at hc; cases hc
    | some ss' =>
      have rv : RV X.K H (fb B mm) (.ins c fs) v := r1.top
      have rw2 : RV X.K H (fb B mm) (.ins c' fs') w := r2.top
      obtain ⟨a, dx, vs, ws, rfl, sl, _⟩ := id rv
      obtain ⟨b, dy, vs2, ws2, rfl, sl2, _⟩ := id rw2
      refine ⟨a, b, _, g, fd, ps, l, _, ⟨rfl, rfl, ⟨dx, vs, sl⟩, ⟨_, dy, vs2, sl2, (cf.kit c' ss' hc').2⟩, hm, hF, hbi⟩, hne, rm.mono (by omega), fun Q' hq => ?_⟩
      have ra : RSs X.K H (fb (fb B mm) []) [] [.d k1 (.ins c fs), .d k2 (.ins c' fs')] [.ref a, .ref b] := ⟨_, _, rfl, RF.ins_rs r1, _, _, rfl, RF.ins_rs r2, rfl⟩
      simp only [xfn, fillD] at e
      cases et : told (P.fn k [.d k1 (.ins c fs), .d k2 (.ins c' fs')] []) with
      | none => rw [et] at e; cases e
      | some r =>
        cases r with
        | error x => rw [et] at e; cases e
        | ok z =>
          rw [et] at e
          have ez : z = .bl t := by
            cases z with
            | bl u => cases e; rfl
            | _ => cases e
          subst ez
          have hlen : ([V.ref a, V.ref b] : List V).length = ps.length := by
            rw [← hln [.d k1 (.ins c fs), .d k2 (.ins c' fs')] [] (fun z => by rw [z] at et; cases et)]; rfl
          refine sp_told (W := fun _ _ _ _ => False) (B := B) (m := mm) (τ := τ) (h := h) hlen R ra ?_
          rw [et]
          intro v' H' s' rv'
          cases (show v' = V.bl t from rv'.top)
          exact hq H' s'
/-- a test by a truth value -/
theorem tT_bl {τ : L2.St} {H : Hp} {Q : Bool → Hp → Prop} (hbl : ∀ σ h p, ev P ce σ h = some (.ok p) → ∃ t, p = .bl t) (hq : tT X.K X.mg P W ce τ H Q) : tE X.K X.mg P W ce τ H (fun x H' => ∃ k, x = .bl k ∧ Q k H') := by
  obtain ⟨B, mm, σ, h, R, g⟩ := hq
  refine ⟨B, mm, σ, h, R, ?_⟩
  rw [evT_def] at g
  cases e : ev P ce σ h with
  | none => rw [e] at g; exact g
  | some r =>
    rw [e] at g
    cases r with
    | error x => exact g
    | ok p =>
      obtain ⟨t, rfl⟩ := hbl σ h p e
      intro v H' s r
      have ev : v = .bl t := r.top
      subst ev
      have g' : Gd X.K X.mg W B mm τ rB H (some (.ok t)) Q := g
      exact ⟨t, rfl, g' t H' s rfl⟩
theorem bl_two {k : XO} (hk : ∀ as p, xop P k as = some (.ok p) → ∃ t, p = .bl t) {es : List CE} (σ : St) (h : OH) (p : PV) (e : ev P (.ext k es) σ h = some (.ok p)) : ∃ t, p = .bl t := by
  simp only [ev] at e
  cases q : evs P es σ h with
  | none => rw [q] at e; cases e
  | some r =>
    rw [q] at e
    cases r with
    | error x => cases e
    | ok xs => exact hk _ p e
theorem bl_oeq (h1 : isStarE ca = false) (h2 : isStarE cb = false) (σ : St) (h : OH) (p : PV) (e : ev P (.ext .oeq [ca, cb]) σ h = some (.ok p)) : ∃ t, p = .bl t := by
  refine bl_two (fun as p e => ?_) σ h p e
  unfold xop at e
  split at e <;> first | (cases e; done) | (rename_i z; cases z; done) | skip
  rename_i k c fs k' c' fs' _
  split at e
  · cases e
  · cases q : asB (xmeth P c "__eq__" [] [.d k (.ins c fs), .d k' (.ins c' fs')]) with
    | none => rw [q] at e; cases e
    | some r =>
      rw [q] at e
      cases r with
      | error x => cases e
      | ok t => cases e; exact ⟨t, rfl⟩
theorem bl_one (h1 : isStarE ca = false) (h2 : isStarE cb = false) (σ : St) (h : OH) (p : PV) (e : ev P (.ext .one [ca, cb]) σ h = some (.ok p)) : ∃ t, p = .bl t := by
  refine bl_two (fun as p e => ?_) σ h p e
  unfold xop at e
  split at e <;> first | (cases e; done) | (rename_i z; cases z; done) | skip
  rename_i k c fs k' c' fs' _
  split at e
  · cases e
  · cases q : asB (xmeth P c "__eq__" [] [.d k (.ins c fs), .d k' (.ins c' fs')]) with
    | none => rw [q] at e; cases e
    | some r =>
      rw [q] at e
      cases r with
      | error x => cases e
      | ok t => cases e; exact ⟨_, rfl⟩
theorem oeq_read (F : XF X P lv) (rm : Room lv X.A) (h1 : isStarE ca = false) (h2 : isStarE cb = false) {τ : L2.St} {H : Hp} {Q : VK} (hq : tE X.K X.mg P W (.ext .oeq [ca, cb]) τ H Q) : tOp (rEqX X) (tE X.K X.mg P W ca) (tE X.K X.mg P W cb) τ H Q := by
  obtain ⟨B, mm, σ, h, R, g⟩ := hq
  simp only [ev] at g
  rw [evs_two h1 h2, bnd_assoc] at g
  refine ⟨B, mm, σ, h, R, Gd.imp (Gd.bnd (rel := rF X.K B mm (flg σ ca)) g) fun v H1 ⟨q, s1, r1, g1⟩ => ?_⟩
  rw [bnd_assoc] at g1
  refine ⟨B, mm, σ, h, R.same s1, Gd.imp (Gd.bnd (rel := rF X.K B mm (flg σ cb)) g1) fun w H2 ⟨q2, s2, r2, g2⟩ => ?_⟩
  simp only [bnd_ok, argsOf] at g2
  cases q with
  | ins c fs =>
    cases q2 with
    | ins c' fs' =>
      simp only [xop] at g2
      split at g2
      · exact g2.elim
      · rename_i hc
        cases e : asB (xmeth P c "__eq__" [] [.d (decide (flg σ ca ≠ 0)) (.ins c fs), .d (decide (flg σ cb ≠ 0)) (.ins c' fs')]) with
        | none => rw [e] at g2; exact g2.elim
        | some r =>
          cases r with
          | error x =>
            exfalso
            unfold asB at e
            split at e <;> cases e
          | ok t =>
            rw [e] at g2
            obtain ⟨a', b', C, g', fd, ps, k, sp, E, _, hr, hq⟩ := eq_read (Q := fun t H => True) F rm (τ := τ) ((R.same s1).same s2).toRh (RF.same s2 r1) r2 (Bool.eq_false_iff.mpr hc) e fun _ _ => trivial
            exact ⟨a', b', C, g', fd, ps, k, sp, E, hr.mono (by omega), hq _ fun H' s' => Gd.new g2 s' (RF.of rfl)⟩
    | _ => simp only [xop] at g2; exact g2.elim
  | _ => simp only [xop] at g2; exact g2.elim
theorem s_oeq (F : XF X P lv) (rm : Room lv X.A) (ha : PE X a (tE X.K X.mg P W ca)) (hb : PE X b (tE X.K X.mg P W cb)) (h1 : isStarE ca = false) (h2 : isStarE cb = false) (hm : behindInMarks .Eq b = false) : PE X (.Compare a [.Eq] [b] pos) (tE X.K X.mg P W (.ext .oeq [ca, cb])) :=
  PE.imp (pe_cmpR op_eqX ha hb hm) fun _ _ _ hq => oeq_read F rm h1 h2 hq
theorem s_oeqT (F : XF X P lv) (rm : Room lv X.A) (ha : PE X a (tE X.K X.mg P W ca)) (hb : PE X b (tE X.K X.mg P W cb)) (h1 : isStarE ca = false) (h2 : isStarE cb = false) (hm : behindInMarks .Eq b = false) : PT X (.Compare a [.Eq] [b] pos) (tT X.K X.mg P W (.ext .oeq [ca, cb])) :=
  PT.imp (pt_cmpR op_eqX ha hb hm) fun _ _ _ hq => oeq_read F rm h1 h2 (tT_bl (bl_oeq h1 h2) hq)
theorem one_read (F : XF X P lv) (rm : Room lv X.A) (h1 : isStarE ca = false) (h2 : isStarE cb = false) {τ : L2.St} {H : Hp} {Q : VK} (hq : tE X.K X.mg P W (.ext .one [ca, cb]) τ H Q) : tOp (rNeX X) (tE X.K X.mg P W ca) (tE X.K X.mg P W cb) τ H Q := by
  obtain ⟨B, mm, σ, h, R, g⟩ := hq
  simp only [ev] at g
  rw [evs_two h1 h2, bnd_assoc] at g
  refine ⟨B, mm, σ, h, R, Gd.imp (Gd.bnd (rel := rF X.K B mm (flg σ ca)) g) fun v H1 ⟨q, s1, r1, g1⟩ => ?_⟩
  rw [bnd_assoc] at g1
  refine ⟨B, mm, σ, h, R.same s1, Gd.imp (Gd.bnd (rel := rF X.K B mm (flg σ cb)) g1) fun w H2 ⟨q2, s2, r2, g2⟩ => ?_⟩
  simp only [bnd_ok, argsOf] at g2
  cases q with
  | ins c fs =>
    cases q2 with
    | ins c' fs' =>
      simp only [xop] at g2
      split at g2
      · exact g2.elim
      · rename_i hc
        cases e : asB (xmeth P c "__eq__" [] [.d (decide (flg σ ca ≠ 0)) (.ins c fs), .d (decide (flg σ cb ≠ 0)) (.ins c' fs')]) with
        | none => rw [e] at g2; exact g2.elim
        | some r =>
          cases r with
          | error x =>
            exfalso
            unfold asB at e
            split at e <;> cases e
          | ok t =>
            rw [e] at g2
            obtain ⟨a', b', C, g', fd, ps, k, sp, E, ne, hr, hq⟩ := eq_read (Q := fun t H => True) F rm (τ := τ) ((R.same s1).same s2).toRh (RF.same s2 r1) r2 (Bool.eq_false_iff.mpr hc) e fun _ _ => trivial
            exact ⟨a', b', C, g', fd, ps, k, sp, E, ne, hr, hq _ fun H' s' => ⟨t, rfl, Gd.new g2 s' (RF.of rfl)⟩⟩
    | _ => simp only [xop] at g2; exact g2.elim
  | _ => simp only [xop] at g2; exact g2.elim
theorem s_one (F : XF X P lv) (rm : Room lv X.A) (ha : PE X a (tE X.K X.mg P W ca)) (hb : PE X b (tE X.K X.mg P W cb)) (h1 : isStarE ca = false) (h2 : isStarE cb = false) (hm : behindInMarks .NotEq b = false) : PE X (.Compare a [.NotEq] [b] pos) (tE X.K X.mg P W (.ext .one [ca, cb])) :=
  PE.imp (pe_cmpR op_neX ha hb hm) fun _ _ _ hq => one_read F rm h1 h2 hq
theorem s_oneT (F : XF X P lv) (rm : Room lv X.A) (ha : PE X a (tE X.K X.mg P W ca)) (hb : PE X b (tE X.K X.mg P W cb)) (h1 : isStarE ca = false) (h2 : isStarE cb = false) (hm : behindInMarks .NotEq b = false) : PT X (.Compare a [.NotEq] [b] pos) (tT X.K X.mg P W (.ext .one [ca, cb])) :=
  PT.imp (pt_cmpR op_neX ha hb hm) fun _ _ _ hq => one_read F rm h1 h2 (tT_bl (bl_one h1 h2) hq)
/-- isinstance(x, C) -/
theorem s_isiO (F : XF X P lv) (hcc : Gl X c) (hcd : (c == ("__debug__" : Str)) = false) (hcl : (P.cls c).isSome = true) (hg : Gl X "isinstance") (hm : X.mg "isinstance" = none) (ha : PE X a (tE X.K X.mg P W ca)) (hna : notStar a = true) (hs : isStarE ca = false) :
    PE X (.Call (.Name "isinstance" p) [a, .Name c px] [] pos) (tE X.K X.mg P W (.ext (.isiO c) [ca])) := by
  obtain ⟨ss, hss⟩ := Option.isSome_iff_exists.mp hcl
  have cf := F.cls c ss hss
  have hT : PE X (.Name c px) (tC (.ref (He.ga X.K c))) := pe_glob hcc cf.mg rfl hcd
  have he : starEach [a, .Name c px] X.env = (false, eval a X.env) :: starEach [.Name c px] X.env := star_no hna
  refine PE.imp (pe_callB (call_isi.or (SlX.call_isiSl (.ref (He.ga X.K c)))) hg hm PyProof.Rows.boot_isinstance (pa_cons ha (pa_cons hT pa_nil) (star_no hna)) (by decide) (by decide) he (star_any0 rfl)) fun τ H Q ⟨B, mm, σ, h, R, g⟩ => ?_
  simp only [ev] at g
  rw [evs_one hs, bnd_assoc] at g
  refine ⟨B, mm, σ, h, R, Gd.imp (Gd.bnd (rel := rF X.K B mm (flg σ ca)) g) fun v H1 ⟨q, s1, r1, g1⟩ => ?_⟩
  simp only [bnd_ok, argsOf, xop, hcl, Bool.true_and] at g1
  split at g1
  · rename_i kn
    obtain ⟨t, et, g2⟩ : ∃ t, isiOf c q = some t ∧ Gd X.K X.mg W B mm τ (rF X.K B mm (flg σ (.ext (.isiO c) [ca]))) H1 (some (.ok (.bl t))) Q := by
      cases e : isiOf c q with
      | none => rw [e] at g1; exact g1.elim
      | some t => rw [e] at g1; exact ⟨t, rfl, g1⟩
    have fin : Q (.bl t) H1 := Gd.ok g2 (RF.of rfl)
    by_cases hi : ∃ d fs, q = .ins d fs
    · obtain ⟨d, fs, rfl⟩ := hi
      have hd : decide (d = c) = t := by simpa only [isiOf, Option.some.injEq] using et
      obtain ⟨x, dx, vs, ws, rfl, sl, _⟩ := (show RV X.K H1 (fb B mm) (.ins d fs) v from r1.top)
      obtain ⟨ss', hss'⟩ := Option.isSome_iff_exists.mp (show (P.cls d).isSome = true from kn)
      have df := F.cls d ss' hss'
      exact .inr ⟨x, _, dx, vs, .ref (He.ga X.K c), t, rfl, rfl, fun w hw => hw, sl, df.sc, df.si, by rw [← hd]; exact (df.kit c ss hss).1, fin⟩
    · have hty : hasTy q = true ∧ t = false := by
        cases q <;> first
          | (exact absurd ⟨_, _, rfl⟩ hi)
          | (simp only [isiOf] at et; split at et <;> first | (cases et; done) | (rename_i z; cases et; exact ⟨z, rfl⟩))
      obtain ⟨ty, ety⟩ := hasTyN r1.top hty.1
      have hmem : ty ∈ ["NoneType", "bool", "int", "str", "tuple", "list", "dict"] := by
        cases q <;> first | (cases ety; done) | (cases ety; simp)
      refine .inl ⟨v, .ref (He.ga X.K c), .type ty, .ref (He.ga X.K c), t, rfl, .own _, ty_of r1.top ety, ?_, fin⟩
      rw [hty.2]
      exact cf.kitT ty hmem
  · exact g1.elim
end
end Ev

set_option Elab.async false
set_option linter.all false
set_option maxRecDepth 100000
set_option maxHeartbeats 1000000
/-! EvX6: a loop over a list of one's own; lists repeated. -/
namespace Ev
open PySem PySem.Spec PyProof.Rows L2
section
variable {X : Cx} {W : WX} {P : Pg} {body : List Stmt} {sb : List CS} {pos px : Pos} {i : Nat} {tg iter a b : Expr} {t : TN} {ca cb : CE}
theorem s_forO (hp : PassesOwn (model X.prog X.w) X.A X.env X.xe) (hc : X.calm = true) (hv : PE X iter (tVar i)) (hg : PG X tg (gT X.K t)) (hb : PSs X body (tSs X.K X.mg P W sb))
    (hs : ∀ x, foldedSetIterable iter X.env x = pure x) : PS X (.For tg iter body [] pos) (tS X.K X.mg P W (.forO t i sb)) := by
  refine PS.imp (ps_for hp hc (pi_seq hv) hg hb hs) fun D τ H ⟨B, m, σ, h, R, g⟩ => ?_
  simp only [evS] at g
  cases q : slotR σ i with
  | none => rw [q] at g; exact g.elim
  | some n =>
    rw [q] at g
    cases qh : h[n]? with
    | none => simp only [qh] at g; exact g.elim
    | some o =>
      cases o with
      | l xs =>
        simp only [qh] at g
        obtain ⟨a, hva, ha, vs, e1, e2, e3⟩ := slot_own R q qh
        refine ⟨.ref a, hva, a, rfl, .inl ⟨⟨vs, .inl (.inl e1)⟩, ?_⟩⟩
        refine ⟨fun k mm τ' H2 => ∃ m' σ' h', m <+: m' ∧ (∀ a ∈ m', a ∈ m ∨ H a = none) ∧ ExtM m H H2 ∧ Rl X.K H2 B m' σ' h' τ' ∧ GO X.K X.mg W B m' H2 D (forLO (evSs P sb) t n mm k σ' h'),
          ⟨xs.length + 1, m, σ, h, List.prefix_refl _, fun _ h => .inl h, .of Same.refl, R, g⟩, ?_⟩
        rintro k mm τ' H2 ⟨m', σ', h', hpre, hnew, hx, R2, g2⟩
        cases mm with
        | zero => exact g2.elim
        | succ fu =>
          have ha2 : m'[n]? = some a := by
            obtain ⟨r, rfl⟩ := hpre
            rw [List.getElem?_append_left (List.getElem?_eq_some_iff.mp ha).1]; exact ha
          unfold forLO at g2
          cases qo : h'[n]? with
          | none => simp only [qo] at g2; exact g2.elim
          | some o2 =>
            cases o2 with
            | l ys =>
              simp only [qo] at g2
              obtain ⟨vs2, f1, f2, f3⟩ := R2.obj n a _ ha2 qo
              have hY : Yl false X.K (fb B m') H2 [(a, .lst vs2)] ys (Itl X.K a) := yl_list (fun H1 hsrc => .inl (.inl (hsrc (a, .lst vs2) List.mem_cons_self))) f3
              have hY2 := hY H2 k (fb B m') .refl .refl fun z hz => by cases List.mem_singleton.mp hz; exact f1
              cases ek : ys[k]? with
              | none =>
                simp only [ek] at g2
                exact .inl ⟨hY2.2 (List.getElem?_eq_none_iff.mp ek), GO.at (fl := .nx) g2 R2⟩
              | some x =>
                simp only [ek] at g2
                obtain ⟨hgo, hy⟩ := hY2.1 x ek
                cases qb : bindT t x σ' with
                | none => simp only [qb] at g2; exact g2.elim
                | some σ1 =>
                  simp only [qb] at g2
                  refine .inr ⟨hgo, fun τ4 H4 => ∃ m4 σ4 h4, m <+: m4 ∧ (∀ a ∈ m4, a ∈ m ∨ H a = none) ∧ ExtM m H H4 ∧ Rl X.K H4 B m4 σ4 h4 τ4 ∧ GO X.K X.mg W B m4 H4 D (forLO (evSs P sb) t n fu (k + 1) σ4 h4),
                    fun τ4 H4 ⟨m4, σ4, h4, q1, q2, q3, q4, q5⟩ => ⟨fu, by omega, m4, σ4, h4, q1, q2, q3, q4, q5⟩, fun v H3 hv3 => ?_⟩
                  obtain ⟨s3, rv⟩ := hy v H3 hv3
                  refine ⟨B, m', σ', h', x, σ1, R2.same s3, .inl rv.rv, qb, fun τ3 R3 _ _ => ⟨B, m', σ1, h', R3, ?_⟩⟩
                  have x3 : ExtM m H H3 := hx.trans hnew (.of s3)
                  cases qf : evSs P sb σ1 h' with
                  | none => simp only [qf] at g2; exact g2.elim
                  | some r =>
                    simp only [qf] at g2
                    obtain ⟨fl, σ5, h5⟩ := r
                    cases fl with
                    | nx =>
                      intro τ4 H4 m4 p4 n4 x4 R4
                      have g3 : GO X.K X.mg W B m' H3 D (forLO (evSs P sb) t n fu (k + 1) σ5 h5) := GO.later g2 s3
                      exact ⟨m4, σ5, h5, hpre.trans p4, new_trans x3 hnew n4, x3.trans hnew x4, R4, g3.go p4 n4 x4⟩
                    | ct =>
                      intro τ4 H4 m4 p4 n4 x4 R4
                      have g3 : GO X.K X.mg W B m' H3 D (forLO (evSs P sb) t n fu (k + 1) σ5 h5) := GO.later g2 s3
                      exact ⟨m4, σ5, h5, hpre.trans p4, new_trans x3 hnew n4, x3.trans hnew x4, R4, g3.go p4 n4 x4⟩
                    | bk =>
                      have g3 : GO X.K X.mg W B m' H3 D (some (.nx, σ5, h5)) := GO.later g2 s3
                      exact g3
                    | ret s =>
                      have g3 : GO X.K X.mg W B m' H3 D (some (.ret s, σ5, h5)) := GO.later g2 s3
                      exact g3
                    | exc x =>
                      have g3 : GO X.K X.mg W B m' H3 D (some (.exc x, σ5, h5)) := GO.later g2 s3
                      exact g3
            | d ks xs => simp only [qo] at g2; exact g2.elim
            | ins c fs => simp only [qo] at g2; exact g2.elim
            | hid => simp only [qo] at g2; exact g2.elim
      | d ks xs => simp only [qh] at g; exact g.elim
      | ins c fs => simp only [qh] at g; exact g.elim
      | hid => simp only [qh] at g; exact g.elim
theorem RVs.rep {K : PySem.W.Frag} {H : Hp} {F : Fb} {xs : List PV} {vs : List V} (r : RVs K H F xs vs) : ∀ n : Nat, RVs K H F (List.replicate n xs).flatten (List.replicate n vs).flatten
  | 0 => rfl
  | n + 1 => by
    rw [List.replicate_succ, List.replicate_succ, List.flatten_cons, List.flatten_cons]
    exact r.append (RVs.rep r n)
/-- xs * n -/
theorem s_rep (ha : PE X a (tE X.K X.mg P W ca)) (hb : PE X b (tE X.K X.mg P W cb)) (h1 : isStarE ca = false) (h2 : isStarE cb = false) : PE X (.BinOp a .Mult b pos) (tE X.K X.mg P W (.ext .rep [ca, cb])) := by
  refine PE.imp (pe_op op_rep ha hb) fun τ H Q ⟨B, mm, σ, h, R, g⟩ => ?_
  simp only [ev] at g
  rw [evs_two h1 h2, bnd_assoc] at g
  refine ⟨B, mm, σ, h, R, Gd.imp (Gd.bnd (rel := rF X.K B mm (flg σ ca)) g) fun v H1 ⟨q, s1, r1, g1⟩ => ?_⟩
  rw [bnd_assoc] at g1
  refine ⟨B, mm, σ, h, R.same s1, Gd.imp (Gd.bnd (rel := rF X.K B mm (flg σ cb)) g1) fun w H2 ⟨q2, s2, r2, g2⟩ => ?_⟩
  simp only [bnd_ok, argsOf] at g2
  by_cases hz : flg σ ca = 0
  · rw [show decide (flg σ ca ≠ 0) = false by simp [hz]] at g2
    cases q with
    | lst xs =>
      cases q2 with
      | int n =>
        simp only [xop] at g2
        obtain ⟨⟨c1, c2, c3⟩, g3⟩ := Gd.ite g2
        have r1' := RF.same s2 r1
        obtain ⟨a, vs, rfl, e1, e2, e3, e4⟩ := r1'.zero hz
        have hlen : vs.length * n.toNat ≤ sizeLine := by rw [← e4.length, ← big_eq]; exact c1
        refine ⟨a, n, vs, rfl, r2.top.int, e1, by omega, by omega, hlen, fun l hl => ?_⟩
        refine Gd.new (p := PV.lst (List.replicate n.toNat xs).flatten) g3 (same_upd hl) (RF.of ⟨l, _, rfl, upd_same, ?_, ?_, (e4.rep n.toNat).same (same_upd hl)⟩)
        · rw [List.length_flatten, List.map_replicate, List.sum_replicate_nat, Nat.mul_comm]; exact hlen
        · exact ((R.same s1).same s2).toRh.free hl
      | _ => simp only [xop] at g2; exact g2.elim
    | _ => simp only [xop] at g2; exact g2.elim
  · rw [show decide (flg σ ca ≠ 0) = true by simp [hz]] at g2
    cases q <;> cases q2 <;> (simp only [xop] at g2; exact g2.elim)
end
end Ev

set_option Elab.async false
set_option linter.all false
set_option maxRecDepth 100000
set_option maxHeartbeats 1000000
/-! EvX7: count and index. -/
namespace Ev
open PySem PySem.Spec PyProof.Rows L2
section
variable {X : Cx} {W : WX} {P : Pg} {a b e : Expr} {es : List Expr} {ca cb ce : CE} {ces : List CE} {pos p px apos cpos : Pos} {lv : Nat} {f m c : Str} {ds : List PV}
def tyT (t : Bool) : String := if t then "tuple" else "list"
theorem seq_heap {pins : List (Addr × Obj)} {s : Shared} {σ : L2.St} {H : Hp} {F : Fb} {t : Bool} {q : PV} {ys : List PV} {x : V} {v : Value} (I : Inv X pins σ H s) (hq : RT X.K H F q x) (rx : RelV x v) (e : seqT t q = some ys) (hd : areData ys = true) :
    ∃ (l : Addr) (its : List Value) (dd : Option Addr) (n : Nat) (sl : Array (Option Value)) (as : List Addr), x = .ref l ∧ v = .ref l ∧ s.heap.get? l = some { cls := .type (tyT t), dict := dd, data := .seq its.toArray n, slots := sl } ∧ ReadsAll s.heap its (dats ys) as ∧ its.length ≤ sizeLine := by
  cases q with
  | tup xs =>
    obtain ⟨l, vs, rfl, hs, hz, rr⟩ := hq.tup
    cases t with
    | false => simp only [seqT] at e; cases e
    | true =>
      have ee : xs = ys := by simpa [seqT] using e
      subst ee
      obtain ⟨its, r, ⟨⟨cls, dd, dt, sl⟩, ho, hc, n, hdt⟩, _⟩ := I.tuple hs
      simp only at hc hdt
      subst hc hdt
      obtain ⟨as, ra⟩ := Dp.readsAll I _ vs its (rr.dp hd) r
      exact ⟨l, its, dd, n, sl, as, rfl, rx, ho, ra, by rw [← r.length]; exact hz⟩
  | lst xs =>
    obtain ⟨l, vs, rfl, hs, hz, rr⟩ := hq.lst
    cases t with
    | true => simp only [seqT] at e; cases e
    | false =>
      have ee : xs = ys := by simpa [seqT] using e
      subst ee
      obtain ⟨its, r, ⟨⟨cls, dd, dt, sl⟩, n, ho, hc, _, hdt⟩, _⟩ := I.list hs
      simp only at hc hdt
      subst hc hdt
      obtain ⟨as, ra⟩ := Dp.readsAll I _ vs its (rr.dp hd) r
      exact ⟨l, its, dd, n, sl, as, rfl, rx, ho, ra, by rw [← r.length]; exact hz⟩
  | _ => simp only [seqT] at e; cases e
def rCI (K : PySem.W.Frag) (t : Bool) (ask : List PV → PV → Option Nat) : V → List V → Hp → VK → Prop := fun x xs H Q => ∃ F q y p ys j, xs = [y] ∧ RT K H F q x ∧ RT K H F p y ∧ seqT t q = some ys ∧ cmpOk p = true ∧ cmpOk (.lst ys) = true ∧ ask ys p = some j ∧ Q (.int (j : Nat)) H
def askI (ys : List PV) (p : PV) : Option Nat := ys.findIdx? fun z => peq z p
def askC (ys : List PV) (p : PV) : Option Nat := some (ys.countP fun z => peq z p)
theorem dats_map : ∀ xs : List PV, dats xs = xs.map dat
  | [] => rfl
  | x :: xs => by rw [dats, dats_map xs]; rfl
theorem data_of : ∀ {xs : List PV}, areData xs = true → ∀ x ∈ xs, isData x = true
  | [], _, _, h => by cases h
  | y :: xs, h, x, hx => by
    simp only [areData, Bool.and_eq_true] at h
    rcases List.mem_cons.mp hx with rfl | hx
    · exact h.1
    · exact data_of h.2 x hx
/-- what both need -/
theorem ci_read {pins : List (Addr × Obj)} {s : Shared} {σ : L2.St} {H : Hp} {t : Bool} {ask : List PV → PV → Option Nat} {x : V} {xs : List V} {v : Value} {us : List Value} {Q : VK} (hu : X.A.units + 65 < cLine) (I : Inv X pins σ H s) (rx : RelV x v) (rxs : Vals xs us) (h : rCI X.K t ask x xs H Q) :
    ∃ (l : Addr) (its : List Value) (dd : Option Addr) (n : Nat) (sl : Array (Option Value)) (as : List Addr) (uy : Value) (p : PV) (ys : List PV) (j : Nat), v = .ref l ∧ us = [uy] ∧ s.heap.get? l = some { cls := .type (tyT t), dict := dd, data := .seq its.toArray n, slots := sl } ∧ its.length ≤ sizeLine ∧ ask ys p = some j ∧ Q (.int (j : Nat)) H ∧
      (∀ y, y ∈ its.toArray → SeqAt.EqAt X.A.in1 s y uy (PyData.eqv (SeqAt.readOf s.heap y) (dat p))) ∧ its.map (SeqAt.readOf s.heap) = dats ys ∧ isData p = true ∧ areData ys = true := by
  obtain ⟨F, q, y, p, ys, j, rfl, hq, hp, e, c1, c2, ej, k⟩ := h
  cases rxs with
  | cons ry rt =>
    rename_i uy ut
    cases rt
    have hx : areData ys = true := by simpa only [isData] using cmpOk_data c2
    obtain ⟨l, its, dd, n, sl, as, rfl, rfl, ho, ra, hz⟩ := seq_heap I hq rx e hx
    obtain ⟨bs, r1⟩ := Dp.reads I (dat p) y uy (hp.dp (cmpOk_data c1)) ry
    have hxs : PyData.canLayAll0 (dats ys) = true := (lays_dat ys hx).1
    refine ⟨l, its, dd, n, sl, as, uy, p, ys, j, rfl, rfl, ho, hz, ej, k, ?_, SeqAt.readsAll_map _ its as hxs ra, cmpOk_data c1, hx⟩
    exact SeqAt.items_eqAt (vs := its.toArray) (show ReadsAll s.heap its.toArray.toList (dats ys) as from ra) r1 hxs (lay_dat p (cmpOk_data c1)).1 (room_in' hu c1)
theorem at_read {h : Heap} {its : List Value} {ys : List PV} {p : PV} (em : its.map (SeqAt.readOf h) = dats ys) (hp : isData p = true) (hx : areData ys = true) (i : Nat) (hi : i < its.toArray.size) : ∃ hj : i < ys.length, PyData.eqv (SeqAt.readOf h its.toArray[i]) (dat p) = peq ys[i] p := by
  have hi' : i < its.length := by simpa using hi
  rw [dats_map] at em
  have hl : its.length = ys.length := by simpa using congrArg List.length em
  refine ⟨by omega, ?_⟩
  have e : (its.map (SeqAt.readOf h))[i]? = (ys.map dat)[i]? := by rw [em]
  rw [List.getElem?_map, List.getElem?_map, List.getElem?_eq_getElem hi', List.getElem?_eq_getElem (show i < ys.length by omega)] at e
  have e1 : SeqAt.readOf h its[i] = dat ys[i] := by simpa using e
  rw [peq_dat _ p (data_of hx _ (List.getElem_mem _)) hp, ← e1]
  simp
theorem idx_ok {h : Heap} {its : List Value} {ys : List PV} {p : PV} {j : Nat} (em : its.map (SeqAt.readOf h) = dats ys) (hp : isData p = true) (hx : areData ys = true) (e : askI ys p = some j) :
    ∃ hj : j < its.toArray.size, PyData.eqv (SeqAt.readOf h its.toArray[j]) (dat p) = true ∧ ∀ m (hm : m < its.toArray.size), m < j → PyData.eqv (SeqAt.readOf h its.toArray[m]) (dat p) = false := by
  obtain ⟨h1, h2, h3⟩ := List.findIdx?_eq_some_iff_getElem.mp e
  have hl : its.length = ys.length := by
    have := congrArg List.length em
    rw [dats_map] at this
    simpa using this
  have hj : j < its.toArray.size := by simpa [hl] using h1
  refine ⟨hj, ?_, fun m hm hmj => ?_⟩
  · obtain ⟨_, e2⟩ := at_read em hp hx j hj
    rw [e2]; exact h2
  · obtain ⟨_, e2⟩ := at_read em hp hx m hm
    rw [e2]
    simpa using h3 m hmj
theorem cnt_ok {h : Heap} {its : List Value} {ys : List PV} {p : PV} {j : Nat} (em : its.map (SeqAt.readOf h) = dats ys) (hp : isData p = true) (hx : areData ys = true) (e : askC ys p = some j) : its.toArray.toList.countP (fun y => PyData.eqv (SeqAt.readOf h y) (dat p)) = j := by
  have e1 : ys.countP (fun z => peq z p) = j := Option.some.inj e
  have e2 : (its.map (SeqAt.readOf h)).countP (fun d => PyData.eqv d (dat p)) = its.toArray.toList.countP (fun y => PyData.eqv (SeqAt.readOf h y) (dat p)) := by rw [List.countP_map]; rfl
  rw [← e2, em, dats_map, List.countP_map, ← e1]
  refine List.countP_congr fun z hz => ?_
  rw [peq_dat z p (data_of hx z hz) hp]
  rfl
theorem mt_idxT (hu : X.A.units + 65 < cLine) : MtR X "tuple.index" (rCI X.K true askI) := by
  intro pins s σ H x xs v us Q I rx rxs h
  obtain ⟨l, its, dd, n, sl, as, uy, p, ys, j, rfl, rfl, ho, hz, ej, k, heq, em, hp, hx⟩ := ci_read hu I rx rxs h
  obtain ⟨hj, h1, h2⟩ := idx_ok em hp hx ej
  exact call_meets PySem.F.slot_tuple_index ⟨_, ho, rfl⟩ PySem.F.entry_tuple_index (PySem.F.args_tuple_index_2 _ _) (TI.tuple_indexAt l its.toArray n dd sl uy _ j hj h1 h2) ⟨ho, heq, ⟨.int (j : Nat), H, I.tok _, ⟨_, rfl⟩, k⟩⟩
theorem mt_idxL (hu : X.A.units + 65 < cLine) : MtR X "list.index" (rCI X.K false askI) := by
  intro pins s σ H x xs v us Q I rx rxs h
  obtain ⟨l, its, dd, n, sl, as, uy, p, ys, j, rfl, rfl, ho, hz, ej, k, heq, em, hp, hx⟩ := ci_read hu I rx rxs h
  obtain ⟨hj, h1, h2⟩ := idx_ok em hp hx ej
  have hj' : j < its.length := by simpa using hj
  have hsl := sizeLine_eq
  exact call_meets PySem.F.slot_list_index ⟨_, ho, rfl⟩ PySem.F.entry_list_index (PySem.F.args_list_index_2 _ _) (SeqAt.list_indexAt l its.toArray n dd sl uy _ j hj (by omega) h1 h2) ⟨ho, heq, ⟨.int (j : Nat), H, I.tok _, ⟨_, rfl⟩, k⟩⟩
theorem mt_cntT (hu : X.A.units + 65 < cLine) : MtR X "tuple.count" (rCI X.K true askC) := by
  intro pins s σ H x xs v us Q I rx rxs h
  obtain ⟨l, its, dd, n, sl, as, uy, p, ys, j, rfl, rfl, ho, hz, ej, k, heq, em, hp, hx⟩ := ci_read hu I rx rxs h
  have e := cnt_ok em hp hx ej
  refine call_meets PySem.F.slot_tuple_count ⟨_, ho, rfl⟩ PySem.F.entry_tuple_count (PySem.F.args_tuple_count_2 _ _) (SeqAt.tuple_countAt l its.toArray n dd sl uy _) ⟨ho, heq, ?_⟩
  rw [e]
  exact ⟨.int (j : Nat), H, I.tok _, ⟨_, rfl⟩, k⟩
theorem mt_cntL (hu : X.A.units + 65 < cLine) : MtR X "list.count" (rCI X.K false askC) := by
  intro pins s σ H x xs v us Q I rx rxs h
  obtain ⟨l, its, dd, n, sl, as, uy, p, ys, j, rfl, rfl, ho, hz, ej, k, heq, em, hp, hx⟩ := ci_read hu I rx rxs h
  have e := cnt_ok em hp hx ej
  refine call_meets PySem.F.slot_list_count ⟨_, ho, rfl⟩ PySem.F.entry_list_count (PySem.F.args_list_count_2 _ _) (SeqAt.list_countAt l its.toArray n dd sl uy _) ⟨ho, heq, ?_⟩
  rw [e]
  exact ⟨.int (j : Nat), H, I.tok _, ⟨_, rfl⟩, k⟩
/-- a value without a dict, of that type -/
def tyD (K : PySem.W.Frag) (t : Bool) (x : V) (H : Hp) : Prop := ∃ a, x = .ref a ∧ ((t = true ∧ ∃ vs, TqD K H a vs) ∨ (t = false ∧ ∃ vs, SqL K H a vs))
theorem tyD_is {pins : List (Addr × Obj)} {σ : L2.St} {H : Hp} {s : Shared} {t : Bool} {x : V} {v : Value} (I : Inv X pins σ H s) (r : RelV x v) (h : tyD X.K t x H) : s.TypeIs v (tyT t) ∧ ∀ a, v = .ref a → ∃ ob, s.heap.get? a = some ob ∧ ob.dict = none := by
  obtain ⟨l, rfl, h⟩ := h
  rcases h with ⟨rfl, vs, h⟩ | ⟨rfl, vs, h⟩
  · cases (show v = Value.ref l from r)
    obtain ⟨its, _, pl, _⟩ := I.tuple h.sq
    refine ⟨pl.typeIs, fun a e => ?_⟩
    cases e
    exact h.nod I
  · exact tyV_is I r (.inl ⟨rfl, vs, h⟩)
def tBD (K : PySem.W.Frag) (t : Bool) (r : V → List V → Hp → VK → Prop) (to : TE) (ta : TA) : TE := fun σ H Q => to σ H fun x H1 => tyD K t x H1 ∧ ta σ H1 fun xs H2 => r x xs H2 Q
theorem pe_bd {t : Bool} {id : String} {r : V → List V → Hp → VK → Prop} {to : TE} {ta : TA} (pa : PlainAttrs (tyT t)) (slot : Slot (tyT t) m id) (hty : typeOf (.builtin id) = pure (.type "method_descriptor")) (hm : MtR X id r) (ho : PE X a to) (ha : PA X [b] ta)
    (hb : noCall0 a = true) (hl : (apos.endLine == cpos.line) = true) (hn : notStar b = true) : PE X (.Call (.Attribute a m apos) [b] [] cpos) (tBD X.K t r to ta) := by
  have hfew : ((backTo cpos (starEach [b] X.env)).all (fun x => !x.1) && (backToKw cpos (keywordEach [] X.env)).all (fun x => x.1.isSome) && decide ([b].length + ([] : List Keyword).length + (if ([] : List Keyword).isEmpty then 0 else 1) < 30)) = true := by
    rw [few (by simp [hn])]; rfl
  refine ⟨fun pins s σ H Q I h => wpAny_Call_method_late (base_eq hb) hfew hl rfl (thn (ho.run pins s σ H _ I h) fun v s1 ⟨x, H1, I1, r1, ty, q1⟩ => ?_)⟩
  obtain ⟨h1, h2⟩ := tyD_is I1 r1 ty
  have hA := ha.run cpos pins s1 σ H1 _ I1 q1
  have hs : starEach [b] X.env = (false, eval b X.env) :: starEach [] X.env := star_no hn
  rw [hs] at hA ⊢
  exact ⟨tyT t, id, pa, slot, hty, h1, h2, Calls.callWith_builtin rfl (Calls.evalArgs_plain (thn hA fun us s2 ⟨vs, H2, I2, r2, q2⟩ => hm pins s2 σ H2 x vs v us Q I2 r1 r2 q2))⟩
/-- what raises nothing -/
def calmE : CE → Bool
  | .loc _ | .cst _ | .ext (.glo _) [] => true
  | .cmp _ a b | .idx a b | .bin _ a b => calmE a && calmE b
  | .ite c a b => calmE c && calmE a && calmE b
  | _ => false
def quiet {α : Type} : R α → Bool
  | some (.error _) => false
  | _ => true
theorem quiet_bnd {α β : Type} {r : R α} {k : α → R β} (h : quiet r = true) (hk : ∀ x, quiet (k x) = true) : quiet (bnd r k) = true := by
  cases r with
  | none => rfl
  | some r =>
    cases r with
    | ok x => exact hk x
    | error x => cases h
theorem quiet_map {α β : Type} {o : Option α} {f : α → β} : quiet (o.map fun x => (Except.ok (f x) : Except Exn β)) = true := by cases o <;> rfl
theorem calm_ev {σ : St} {h : OH} : ∀ (c : CE), calmE c = true → quiet (ev P c σ h) = true
  | .loc i, _ => by
    simp only [ev]
    split
    · exact quiet_map (f := id)
    · rfl
  | .cst p, _ => by simp only [ev]; rfl
  | .ext (.glo x) [], _ => by
    simp only [ev, evs, bnd_ok, argsOf, xop]
    exact quiet_map (f := id)
  | .cmp o a b, hc => by
    simp only [calmE, Bool.and_eq_true] at hc
    simp only [ev]
    exact quiet_bnd (calm_ev a hc.1) fun x => quiet_bnd (calm_ev b hc.2) fun y => quiet_map (f := fun b => PV.bl b)
  | .idx a b, hc => by
    simp only [calmE, Bool.and_eq_true] at hc
    simp only [ev]
    exact quiet_bnd (calm_ev a hc.1) fun x => quiet_bnd (calm_ev b hc.2) fun y => quiet_map (f := id)
  | .bin o a b, hc => by
    simp only [calmE, Bool.and_eq_true] at hc
    simp only [ev]
    refine quiet_bnd (calm_ev a hc.1) fun x => quiet_bnd (calm_ev b hc.2) fun y => ?_
    split
    · split <;> rfl
    · exact quiet_map (f := id)
  | .ite c a b, hc => by
    simp only [calmE, Bool.and_eq_true] at hc
    simp only [ev]
    refine quiet_bnd (calm_ev c hc.1.1) fun x => ?_
    cases truth x with
    | none => rfl
    | some t =>
      simp only [withO_some]
      cases t
      · exact calm_ev b hc.2
      · exact calm_ev a hc.1.2
/-- q.m(x), q a tuple or a list -/
theorem s_ci {t : Bool} {id : String} {k : XO} {ask : List PV → PV → Option Nat} (pa : PlainAttrs (tyT t)) (slot : Slot (tyT t) m id) (hty : typeOf (.builtin id) = pure (.type "method_descriptor")) (hm : MtR X id (rCI X.K t ask))
    (hk : ∀ P k1 k2 q p, xop P k [.d k1 q, .d k2 p] = withO (seqT t q) fun xs => if cmpOk p && cmpOk (.lst xs) then (ask xs p).map fun (i : Nat) => .ok (.int i) else none)
    (hb : noCall0 a = true) (hl : (apos.endLine == cpos.line) = true) (ha : PE X a (tE X.K X.mg P W ca)) (he : PE X b (tE X.K X.mg P W cb)) (hn : notStar b = true) (h1 : isStarE ca = false) (h2 : isStarE cb = false) (hq : calmE cb = true) :
    PE X (.Call (.Attribute a m apos) [b] [] cpos) (tE X.K X.mg P W (.ext k [ca, cb])) := by
  refine PE.imp (pe_bd pa slot hty hm ha (pa_cons he pa_nil (star_no hn)) hb hl hn) fun τ H Q ⟨B, mm, σ, h, R, g⟩ => ?_
  simp only [ev] at g
  rw [evs_two h1 h2, bnd_assoc] at g
  refine ⟨B, mm, σ, h, R, Gd.imp (Gd.bnd (rel := rF X.K B mm (flg σ ca)) g) fun v H1 ⟨q, s1, r1, g1⟩ => ?_⟩
  rw [bnd_assoc] at g1
  have cq := calm_ev (P := P) (σ := σ) (h := h) cb hq
  cases eb : ev P cb σ h with
  | none => rw [eb] at g1; exact g1.elim
  | some rb =>
    rw [eb] at g1 cq
    cases rb with
    | error x => cases cq
    | ok y =>
      simp only [bnd_ok, argsOf, hk] at g1
      obtain ⟨ys, ey, g2⟩ := g1.wo
      obtain ⟨cc, g3⟩ := Gd.ite g2
      rw [Bool.and_eq_true] at cc
      cases ej : ask ys y with
      | none => rw [ej] at g3; exact g3.elim
      | some j =>
      rw [ej] at g3
      have g4 : Gd X.K X.mg W B mm τ (rF X.K B mm (flg σ (CE.ext k [ca, cb]))) H1 (some (.ok (PV.int (j : Nat)))) Q := g3
      have ty : tyD X.K t v H1 := by
        cases q with
        | tup xs =>
          cases t with
          | false => simp only [seqT] at ey; cases ey
          | true =>
            obtain ⟨l, vs, rfl, hq, _⟩ := r1.top.tupD
            exact ⟨l, rfl, .inl ⟨rfl, vs, hq⟩⟩
        | lst xs =>
          cases t with
          | true => simp only [seqT] at ey; cases ey
          | false =>
            obtain ⟨l, vs, rfl, hq, _⟩ := r1.top.lst
            exact ⟨l, rfl, .inr ⟨rfl, vs, hq⟩⟩
        | _ => simp only [seqT] at ey; cases ey
      refine ⟨ty, B, mm, σ, h, R.same s1, ?_⟩
      rw [eb]
      intro w H2 s2 r2
      exact ⟨fb B mm, q, w, y, ys, j, rfl, (RF.same s2 r1).top, r2.top, ey, cc.1, cc.2, ej, Gd.ok (Gd.later s2 g4) (RF.of rfl)⟩
theorem s_ciIT (hu : X.A.units + 65 < cLine) (hb : noCall0 a = true) (hl : (apos.endLine == cpos.line) = true) (ha : PE X a (tE X.K X.mg P W ca)) (he : PE X b (tE X.K X.mg P W cb)) (hn : notStar b = true) (h1 : isStarE ca = false) (h2 : isStarE cb = false) (hq : calmE cb = true) :
    PE X (.Call (.Attribute a "index" apos) [b] [] cpos) (tE X.K X.mg P W (.ext (.index true) [ca, cb])) := s_ci (t := true) (ask := askI) PySem.F.plainAttrs_tuple PySem.F.slot_tuple_index PySem.F.type_tuple_index (mt_idxT hu) (fun _ _ _ _ _ => rfl) hb hl ha he hn h1 h2 hq
theorem s_ciIL (hu : X.A.units + 65 < cLine) (hb : noCall0 a = true) (hl : (apos.endLine == cpos.line) = true) (ha : PE X a (tE X.K X.mg P W ca)) (he : PE X b (tE X.K X.mg P W cb)) (hn : notStar b = true) (h1 : isStarE ca = false) (h2 : isStarE cb = false) (hq : calmE cb = true) :
    PE X (.Call (.Attribute a "index" apos) [b] [] cpos) (tE X.K X.mg P W (.ext (.index false) [ca, cb])) := s_ci (t := false) (ask := askI) PySem.F.plainAttrs_list PySem.F.slot_list_index PySem.F.type_list_index (mt_idxL hu) (fun _ _ _ _ _ => rfl) hb hl ha he hn h1 h2 hq
theorem s_ciCT (hu : X.A.units + 65 < cLine) (hb : noCall0 a = true) (hl : (apos.endLine == cpos.line) = true) (ha : PE X a (tE X.K X.mg P W ca)) (he : PE X b (tE X.K X.mg P W cb)) (hn : notStar b = true) (h1 : isStarE ca = false) (h2 : isStarE cb = false) (hq : calmE cb = true) :
    PE X (.Call (.Attribute a "count" apos) [b] [] cpos) (tE X.K X.mg P W (.ext (.count true) [ca, cb])) := s_ci (t := true) (ask := askC) PySem.F.plainAttrs_tuple PySem.F.slot_tuple_count PySem.F.type_tuple_count (mt_cntT hu) (fun _ _ _ _ _ => rfl) hb hl ha he hn h1 h2 hq
theorem s_ciCL (hu : X.A.units + 65 < cLine) (hb : noCall0 a = true) (hl : (apos.endLine == cpos.line) = true) (ha : PE X a (tE X.K X.mg P W ca)) (he : PE X b (tE X.K X.mg P W cb)) (hn : notStar b = true) (h1 : isStarE ca = false) (h2 : isStarE cb = false) (hq : calmE cb = true) :
    PE X (.Call (.Attribute a "count" apos) [b] [] cpos) (tE X.K X.mg P W (.ext (.count false) [ca, cb])) := s_ci (t := false) (ask := askC) PySem.F.plainAttrs_list PySem.F.slot_list_count PySem.F.type_list_count (mt_cntL hu) (fun _ _ _ _ _ => rfl) hb hl ha he hn h1 h2 hq
end
end Ev

set_option Elab.async false
set_option linter.all false
set_option maxRecDepth 100000
set_option maxHeartbeats 1000000
/-! EvX8: new objects; tests by own ==. -/
namespace Ev
open PySem PySem.Spec PyProof.Rows L2
section
variable {X : Cx} {W : WX} {P : Pg} {a b e : Expr} {es : List Expr} {ca cb ce : CE} {ces : List CE} {pos p p2 px apos cpos : Pos} {lv : Nat} {f m c : Str} {ds : List PV} {ms : List AM}
theorem rN_mk {K : PySem.W.Frag} {B : Fb} {m : List Addr} {σ : St} {h : OH} {τ : L2.St} {H0 H1 : Hp} {t : Addr} {xs : List PV} {vs : List V} (R : Rl K H1 B m σ h τ) (s0 : Same H0 H1) (nt : H1 t = none) (hz : vs.length ≤ sizeLine) (r : RVs K H1 (fb B m) xs vs) :
    rN K B m σ h τ H0 (upd H1 t (.lst vs)) (.lst xs) (.ref t) := by
  refine ⟨t, .l xs, rfl, rfl, ?_, R.push (same_upd nt) nt ⟨vs, upd_same, hz, r.mono (.of_same (same_upd nt)) (grow_push nt)⟩⟩
  cases e : H0 t with
  | none => rfl
  | some x => rw [s0 _ _ e] at nt; cases nt
/-- xs * n, as a new list -/
theorem s_repN (ha : PE X a (tE X.K X.mg P W ca)) (hb : PE X b (tE X.K X.mg P W cb)) (h1 : isStarE ca = false) (h2 : isStarE cb = false) : PE X (.BinOp a .Mult b pos) (tEN X.K X.mg P W (.ext .rep [ca, cb])) := by
  refine PE.imp (pe_op op_rep ha hb) fun τ H Q ⟨B, mm, σ, h, R, g⟩ => ?_
  simp only [ev] at g
  rw [evs_two h1 h2, bnd_assoc] at g
  refine ⟨B, mm, σ, h, R, Gd.imp (Gd.bnd (rel := rF X.K B mm (flg σ ca)) g) fun v H1 ⟨q, s1, r1, g1⟩ => ?_⟩
  rw [bnd_assoc] at g1
  refine ⟨B, mm, σ, h, R.same s1, Gd.imp (Gd.bnd (rel := rF X.K B mm (flg σ cb)) g1) fun w H2 ⟨q2, s2, r2, g2⟩ => ?_⟩
  simp only [bnd_ok, argsOf] at g2
  by_cases hz : flg σ ca = 0
  · rw [show decide (flg σ ca ≠ 0) = false by simp [hz]] at g2
    cases q with
    | lst xs =>
      cases q2 with
      | int n =>
        simp only [xop] at g2
        obtain ⟨⟨c1, c2, c3⟩, g3⟩ := Gd.ite g2
        have r1' := RF.same s2 r1
        obtain ⟨a, vs, rfl, e1, e2, e3, e4⟩ := r1'.zero hz
        have hlen : vs.length * n.toNat ≤ sizeLine := by rw [← e4.length, ← big_eq]; exact c1
        refine ⟨a, n, vs, rfl, r2.top.int, e1, by omega, by omega, hlen, fun l hl => ?_⟩
        refine Gd.new (p := PV.lst (List.replicate n.toNat xs).flatten) g3 (same_upd hl) (rN_mk ((R.same s1).same s2) (Same.trans' s1 s2) hl ?_ (e4.rep n.toNat))
        rw [List.length_flatten, List.map_replicate, List.sum_replicate_nat, Nat.mul_comm]; exact hlen
      | _ => simp only [xop] at g2; exact g2.elim
    | _ => simp only [xop] at g2; exact g2.elim
  · rw [show decide (flg σ ca ≠ 0) = true by simp [hz]] at g2
    cases q <;> cases q2 <;> (simp only [xop] at g2; exact g2.elim)
/-- what is a list by its form -/
def isLstC : CE → Bool
  | .lst _ => true
  | _ => false
theorem isLst_ev {σ : St} {h : OH} {q : PV} : ∀ {c : CE}, isLstC c = true → ev P c σ h = some (.ok q) → ∃ xs, q = .lst xs := by
  intro c hc e
  cases c with
  | lst es =>
    simp only [ev] at e
    cases qe : evs P es σ h with
    | none => rw [qe] at e; cases e
    | some r =>
      rw [qe] at e
      cases r with
      | error x => cases e
      | ok xs =>
        simp only [bnd_ok] at e
        split at e
        · cases e; exact ⟨xs, rfl⟩
        · cases e
  | _ => cases hc
/-- xs[:k] of a list, as a new list -/
theorem s_slUN (ha : PE X a (tE X.K X.mg P W ca)) (hb : PE X b (tE X.K X.mg P W cb)) (hl : isLstC ca = true) : PE X (.Subscript a (.Slice none (some b) none p2) pos) (tEN X.K X.mg P W (.slU ca cb)) := by
  refine PE.imp (pe_slice sl_list ha po_none (po_some hb)) fun τ H Q ⟨B, m, σ, h, R, g⟩ => ?_
  simp only [ev] at g
  refine ⟨B, m, σ, h, R, ?_⟩
  cases ea : ev P ca σ h with
  | none => rw [ea] at g; exact g.elim
  | some ra =>
    rw [ea] at g
    cases ra with
    | error x => exact g
    | ok q =>
      obtain ⟨xs, rfl⟩ := isLst_ev hl ea
      intro v H1 s1 r1
      refine ⟨B, m, σ, h, R.same s1, Gd.imp (Gd.bnd (rel := rF X.K B m (flg σ cb)) (Gd.later s1 (r := bnd (ev P cb σ h) fun y => withO (asInt y) fun i => (slice (.lst xs) none (some i)).map .ok) g)) fun y H2 ⟨q, s2, r2, g2⟩ => ?_⟩
      obtain ⟨i, ei, g2⟩ := Gd.wo g2
      obtain ⟨z, e, g2⟩ := Gd.some g2
      have e' : PV.lst (cut xs none (some i)) = z := by simpa only [slice, Option.some.injEq] using e
      subst e'
      obtain ⟨l, vs, rfl, hs, hz, rr⟩ := (RF.same s2 r1).top.lst
      exact ⟨i, asIntV r2.top ei, l, vs, rfl, hs, fun t nt => Gd.new g2 (same_upd nt) (rN_mk ((R.same s1).same s2) (Same.trans' s1 s2) nt (Nat.le_trans (cutV_length vs none (some i)) hz) (cut_eq rr none (some i)))⟩
/-- return of a new object -/
theorem s_retO (he : PE X e (tEN X.K X.mg P W ce)) : PS X (.Return (some e) pos) (tS X.K X.mg P W (.retO ce)) := by
  refine PS.imp (ps_ret he) fun D τ H ⟨B, m, σ, h, R, g⟩ => ?_
  simp only [evS] at g
  refine ⟨B, m, σ, h, R, Gd.imp (GO.val' (rel := rN X.K B m σ h τ H) R g) fun v H1 ⟨p, s1, r1, g1⟩ => ?_⟩
  obtain ⟨o, e, g1⟩ := g1.some
  obtain ⟨a, o', rfl, e', na, R1⟩ := r1
  rw [e] at e'; cases e'
  have hm : m.length = h.length := R.len
  refine GO.at (m := m ++ [a]) (fl := .ret (.r h.length)) (g1.go (List.prefix_append _ _) (new_push na) (.of s1)) R1 _ ⟨a, ?_, rfl⟩
  rw [← hm, List.getElem?_append_right (Nat.le_refl _), Nat.sub_self]; rfl
/-- a call that gives a new object -/
def tEO (K : PySem.W.Frag) (mg : Str → Option Value) (P : Pg) (W : WX) (c : CE) : TE := fun τ H Q => ∃ B m σ h, Rl K H B m σ h τ ∧ Gd K mg W B m τ (rN K B m σ h τ H) H (evO P c σ h) Q
theorem s_callO {f : Str} (F : FnF X P lv f) (rm : Room lv X.A) (tk : Takes X W) (hg : Gl X f) (hd : (f == ("__debug__" : Str)) = false) (ha : PA X (a :: es) (tAs X.K X.mg P W (ca :: ces)))
    (hn : (a :: es).all notStar = true) (hs : (ca :: ces).all (fun e => !isStarE e) = true) : PE X (.Call (.Name f p) (a :: es) [] pos) (tEO X.K X.mg P W (.call f (ca :: ces))) := by
  obtain ⟨fa, FA, hm, kp⟩ := F.ex
  obtain ⟨fd, ps, k, hk, hF, hb, hln, _⟩ := FA.ex
  have hn' := hn
  rw [List.all_cons, Bool.and_eq_true] at hn
  refine PE.imp (pe_callSD hF (rm.mono hk) hg hm kp hb (dvs := []) .nil (fun σ => L2.passAt tk σ) ha hd (star_no hn.1) (star_any0 hn.2)) fun τ H Q ⟨B, m, σ, h, R, g⟩ => ?_
  simp only [evO] at g
  refine ⟨B, m, σ, h, R, Gd.imp (Gd.bnd (rel := rA X.K B m σ (ca :: ces)) g) fun vs H1 ⟨qs, s1, r1, g1⟩ => ?_⟩
  rw [List.append_nil]
  obtain ⟨l1, l2⟩ := ras_len hs r1
  have hl : vs.length = ps.length := by
    rw [l2, ← hln (argsOf σ (ca :: ces) qs) [] (fun z => by rw [z] at g1; exact g1), args_len l1]
  have R1 := R.same s1
  refine ⟨hl, fb B m, [], _, [], ⟨fun b f => R1.toRh.ne f, fun a z => (by cases z), List.nodup_nil, rfl, fun n a o z => (by simp at z)⟩, rss_args hs r1, ?_⟩
  cases ed : P.fn f (argsOf σ (ca :: ces) qs) [] with
  | none => rw [ed] at g1; exact g1
  | some r =>
    rw [ed] at g1
    cases r with
    | error x => exact fun cls d H' xe rx => g1 cls d H' xe.same (rx.weak fun b f => .inl f)
    | ok sh =>
      obtain ⟨sv, h'⟩ := sh
      intro v H' m' hp hnew xe rh rs
      cases sv with
      | d k q => exact g1.elim
      | r n =>
        have g2 : Gd X.K X.mg W B m τ (rN X.K B m σ h τ H) H1 ((h'[n]?.bind viewO).map .ok) Q := g1
        obtain ⟨q, eq, g3⟩ := Gd.some g2
        obtain ⟨l, hl2, rfl⟩ := rs
        have nl : H1 l = none := by
          rcases hnew l (List.mem_of_getElem? hl2) with z | z
          · cases z
          · exact z
        have na : ¬ fb B m l := rh.ap l (List.mem_of_getElem? hl2)
        have nl0 : H l = none := by
          cases e : H l with
          | none => rfl
          | some x => rw [s1 _ _ e] at nl; cases nl
        have sub : ∀ b, fb B (m ++ [l]) b → fb (fb B m) m' b := fun b hb => by
          rcases hb with hb | hb
          · exact .inl (.inl hb)
          · rcases List.mem_append.mp hb with hb | hb
            · exact .inl (.inr hb)
            · rw [List.mem_singleton.mp hb]; exact .inr (List.mem_of_getElem? hl2)
        obtain ⟨o, eo, ev⟩ := Option.bind_eq_some_iff.mp eq
        have ro := rh.obj n l o hl2 eo
        cases o with
        | l xs =>
          have e3 : PV.lst xs = q := by simpa only [viewO, Option.some.injEq] using ev
          subst e3
          obtain ⟨ws, h1, h2, h3⟩ := ro
          exact Gd.new g3 xe.same ⟨l, .l xs, rfl, rfl, nl0, R1.push xe.same nl ⟨ws, h1, h2, h3.weak sub⟩⟩
        | d ks xs =>
          have e3 : PV.dct ks xs = q := by simpa only [viewO, Option.some.injEq] using ev
          subst e3
          obtain ⟨ws, h1, h2, h3, h4⟩ := ro
          exact Gd.new g3 xe.same ⟨l, .d ks xs, rfl, rfl, nl0, R1.push xe.same nl ⟨ws, h1, h2, h3, h4.weak sub⟩⟩
        | ins c fs => simp only [viewO] at ev; cases ev
        | hid => simp only [viewO] at ev; cases ev
theorem p_c (ha : PE X a (tEO X.K X.mg P W ca)) (hr : PA X es (tP X.K X.mg P W ms ces)) (hn : notStar a = true) : PA X (a :: es) (tP X.K X.mg P W (.c :: ms) (ca :: ces)) := by
  refine PA.imp (pa_cons ha hr (star_no (env := X.env) (es := es) hn)) fun τ H Q ⟨B, m, σ, h, R, g⟩ => ?_
  simp only [evP] at g
  refine ⟨B, m, σ, h, R, Gd.imp (GP.val (rel := rN X.K B m σ h τ H) g) fun v H1 ⟨p, s1, r1, g1⟩ => ?_⟩
  obtain ⟨o, e, g1⟩ := g1.wo
  obtain ⟨b, o', rfl, e', na, R1⟩ := r1
  rw [e] at e'; cases e'
  have rs : RS X.K H1 (fb B (m ++ [b])) (m ++ [b]) (.r h.length) (.ref b) := ⟨b, by rw [← R.len, List.getElem?_append_right (Nat.le_refl _), Nat.sub_self]; rfl, rfl⟩
  exact ⟨B, m ++ [b], σ, h ++ [o], R1, GP.cons rs (g1.go (List.prefix_append _ _) (new_push na) s1)⟩
end
end Ev

set_option Elab.async false
set_option linter.all false
set_option maxRecDepth 100000
set_option maxHeartbeats 4000000
/-! Ev17: the evaluator's expressions against the program's text. -/
namespace Ev
open PySem PySem.Spec PyProof.Rows L2
/-- the names that a text may lean on -/
structure Ns where
  fns : List Str
  cons : List Str := []
  clss : List Str := []
theorem XF.re {X Y : Cx} {P : Pg} {lv : Nat} (F : XF X P lv) (h1 : Y.prog = X.prog) (h2 : Y.w = X.w) (h3 : Y.K = X.K) (h4 : Y.mg = X.mg) (h5 : Y.base = X.base) : XF Y P lv := by
  obtain ⟨f1, f2, f3⟩ := F
  have fa : ∀ {k j g}, FnA X P j k g → FnA Y P j k g := fun q => ⟨by rw [h1, h2, h3, h4, h5]; exact q.ex⟩
  refine ⟨fun c ss e => ?_, by rw [h3, h4]; exact f2, f3⟩
  obtain ⟨a1, a2, a3, a4, a5, a6, a7, a8, a9⟩ := f1 c ss e
  exact ⟨by rw [h3, h4]; exact a1, by rw [h3]; exact a2, by rw [h3]; exact a3, by rw [h3]; exact a4, fun m k e => by
    obtain ⟨g, j, hj, hm, FA⟩ := a5 m k e
    exact ⟨g, j, hj, by rw [h3]; exact hm, fa FA⟩, fun k e => by
    obtain ⟨g, j, hj, hm, FA⟩ := a6 k e
    exact ⟨g, j, hj, by rw [h3]; exact hm, fa FA⟩, by rw [h3]; exact a7, by rw [h3]; exact a8, by rw [h3]; exact a9⟩
structure Cxt (X : Cx) (N : List Str) (sc fs : Scope) (W : WX) (P : Pg) (lv : Nat) (fns : Ns) : Prop where
  hN : X.N = N
  nd : N.Nodup
  scp : X.env.scope = sc
  cal : X.calm = true
  rm : Room lv X.A
  tk : Takes X W
  fnl : ∀ x, fs.names.lookup x = some .cell → X.fn x = true
  blt : ∀ x ∈ bltNames, X.mg x = none
  fnf : ∀ f ∈ fns.fns, FnF X P lv f
  xf : XF X P lv
  con : ∀ x ∈ fns.cons, (P.con x).isSome = true
  cls : ∀ c ∈ fns.clss, ∃ ss k, P.cls c = some ss ∧ P.key c "__init__" = some k
theorem Cxt.u65 {X : Cx} {N : List Str} {sc fs : Scope} {W : WX} {P : Pg} {lv : Nat} {fns : Ns} (c : Cxt X N sc fs W P lv fns) : X.A.units + 65 < cLine := by
  have := c.rm.un
  omega
theorem Cxt.blk {X : Cx} {N : List Str} {sc fs : Scope} {W : WX} {P : Pg} {lv : Nat} {fns : Ns} (c : Cxt X N sc fs W P lv fns) (scope : Scope) (s : Shared) (H : Hp) (C : Addr) (cl : List (Str × Addr)) (fp : List Addr) :
    Cxt (X.blk s H scope (compEnvC scope cl C X.env) fp) N (relS scope sc) scope W0 P lv fns where
  hN := c.hN
  nd := c.nd
  scp := by rw [← c.scp]; rfl
  cal := c.cal
  rm := c.rm
  tk := fun u s' ⟨a, B, sI, pins, σ, H, cls, d, e, I, nb, up, sky, na, os, ag, w⟩ => w.elim
  fnl := fun x h => by
    show (scope.names.lookup x == some .cell) = true
    rw [h]; rfl
  blt := c.blt
  fnf := fun f hf => ⟨let ⟨fa, FA, h⟩ := (c.fnf f hf).ex; ⟨fa, ⟨FA.ex⟩, h⟩⟩
  xf := c.xf.re rfl rfl rfl rfl rfl
  con := c.con
  cls := c.cls
def okN (x : Str) : Bool := !(x == ("__debug__" : Str)) && !(x == ("__classdict__" : Str))
def visB (sc : Scope) (x : Str) : Bool := match sc.names.lookup x with
  | some .local | some .cell | some .free => true
  | _ => false
def glB (sc : Scope) (x : Str) : Bool := match sc.names.lookup x with
  | some .globalImplicit => true
  | _ => false
def stoB (sc fs : Scope) (x : Str) : Bool := match sc.names.lookup x with
  | some .local => true
  | some .cell => (match fs.names.lookup x with | some .cell => true | _ => false)
  | _ => false
def notSlice : Expr → Bool
  | .Slice .. => false
  | _ => true
def notSet : Expr → Bool
  | .Set .. => false
  | _ => true
def isTup : Expr → Bool
  | .Tuple .. => true
  | _ => false
/-- tests that are told by their value's truth -/
def plainT : Expr → Bool
  | .UnaryOp .Not _ _ | .BoolOp .. | .IfExp .. | .Compare .. => false
  | _ => true
def ownOf (N : List Str) (is : List Nat) : List (Str × Nat) := is.map fun i => (N.getD i "", i)
def tkNs : List Tk → Option (List String)
  | [] => some []
  | .b n :: r => (tkNs r).map (n :: ·)
  | _ => none
def allGl (sc : Scope) : List Expr → Bool
  | [] => true
  | .Name x _ :: r => glB sc x && allGl sc r
  | _ => false
section
variable (N : List Str) (fns : Ns)
mutual
def mE : Nat → Scope → Scope → CE → Expr → Bool
  | 0, _, _, _, _ => false
  | n + 1, sc, fs, c, e => match c, e with
    | .cst .non, .Constant .none _ _ => true
    | .cst (.bl b), .Constant (.bool b') _ _ => b == b'
    | .cst (.int i), .Constant (.int j) _ _ => i == j
    | .cst (.str s), .Constant (.str t) _ _ => decide (s = t)
    | .loc i, .Name x _ => decide (N[i]? = some x) && visB sc x && okN x
    | .tup es, .Tuple xs _ _ => mA n sc fs es xs
    | .lst es, .List xs _ => mA n sc fs es xs
    | .dct0, .Dict [] [] _ => true
    | .bin o a b, .BinOp x op y _ => decide (op = opB o) && mE n sc fs a x && mE n sc fs b y
    | .neg a, .UnaryOp .USub x _ => mE n sc fs a x
    | .cmp o a b, .Compare x [op] [y] _ => decide (op = opC o) && mE n sc fs a x && mE n sc fs b y && !(behindInMarks op y)
    | .chain o o' a b c, .Compare x [op, op'] [y, z] _ => decide (op = opC o) && decide (op' = opC o') && mE n sc fs a x && mE n sc fs b y && mE n sc fs c z && !(lastMarks [op, op'] [y, z])
    | .not a, .UnaryOp .Not x _ => mE n sc fs a x
    | .and a b, .BoolOp .And (x :: y :: r) p => mE n sc fs a x && (if r.isEmpty then mE n sc fs b y else mE n sc fs b (.BoolOp .And (y :: r) p))
    | .or a b, .BoolOp .Or (x :: y :: r) p => mE n sc fs a x && (if r.isEmpty then mE n sc fs b y else mE n sc fs b (.BoolOp .Or (y :: r) p))
    | .ite c a b, .IfExp t x y _ => mB n sc fs c t && mE n sc fs a x && mE n sc fs b y
    | .idx a i, .Subscript x y _ => notSlice y && mE n sc fs a x && mE n sc fs i y
    | .slN a, .Subscript x (.Slice none none none _) _ => mE n sc fs a x
    | .slL a l, .Subscript x (.Slice (some y) none none _) _ => mE n sc fs a x && mE n sc fs l y
    | .slU a u, .Subscript x (.Slice none (some y) none _) _ => mE n sc fs a x && mE n sc fs u y
    | .slLU a l u, .Subscript x (.Slice (some y) (some z) none _) _ => mE n sc fs a x && mE n sc fs l y && mE n sc fs u z
    | .bi .sset [a], .Call (.Name f _) [.Call (.Name g _) [x] [] _] [] _ => decide (f = "sorted") && decide (g = "set") && glB sc f && glB sc g && notStar x && !(isStarE a) && mE n sc fs a x
    | .bi f [a], .Call (.Name g _) [x] [] _ => (bi1ok f || decide (f = .min)) && decide (g = biS f) && glB sc g && notStar x && !(isStarE a) && mE n sc fs a x
    | .bi f [a, b], .Call (.Name g _) [x, y] [] _ => (decide (f = .max2) || decide (f = .min2)) && decide (g = biS f) && glB sc g && notStar x && notStar y && !(isStarE a) && !(isStarE b) && mE n sc fs a x && mE n sc fs b y
    | .isi a ts, .Call (.Name g _) [x, k] [] _ => decide (g = "isinstance") && glB sc g && notStar x && mE n sc fs a x && (match tkNs ts, k with
      | some [m], .Name z _ => clsRow [.Name z ⟨0, 0, 0, 0⟩] [m] && glB sc z
      | some ms, .Tuple zs _ _ => clsRow zs ms && allGl sc zs && decide (ms.length ≤ 100)
      | _, _ => false)
    | .cnt a b, .Call (.Attribute x f ap) [y] [] cp => decide (f = "count") && (match x with | .Name .. => true | _ => false) && (ap.endLine == cp.line) && notStar y && mE n sc fs a x && mE n sc fs b y
    | .call f (a :: es), .Call (.Name g _) (x :: xs) [] _ => decide (g = f) && fns.fns.contains f && glB sc f && okN f && (x :: xs).all notStar && (a :: es).all (fun e => !isStarE e) && mA n sc fs (a :: es) (x :: xs)
    | .comp e t it cs, .ListComp elt [⟨tg, iter, ifs, 0⟩] scope _ => mI n sc fs tg it iter && notSet iter && blkC N sc scope (ownOf N (slotsT t)) && mT N (stoB (relS scope sc) scope) t tg && (!(weakI it) || isTp t) && (match cs, ifs with
        | [], [] => true
        | [c], [i] => mB n (relS scope sc) scope c i
        | _, _ => false) && mE n (relS scope sc) scope e elt
    | .nope, _ => true
    | .ext (.glo x) [], .Name y _ => decide (y = x) && fns.cons.contains x && glB sc x && okN x
    | .ext (.attr f) [a], .Attribute x g _ => decide (g = f) && noCall0 x && !(isStarE a) && mE n sc fs a x
    | .ext (.make c _) (a :: es), .Call (.Name g _) (x :: xs) [] _ => decide (g = c) && fns.clss.contains c && glB sc c && okN c && (x :: xs).all notStar && (a :: es).all (fun e => !isStarE e) && mA n sc fs (a :: es) (x :: xs)
    | .ext (.callD f _) (a :: es), .Call (.Name g _) (x :: xs) [] _ => decide (g = f) && fns.fns.contains f && glB sc f && okN f && (x :: xs).all notStar && (a :: es).all (fun e => !isStarE e) && mA n sc fs (a :: es) (x :: xs)
    | .ext .oeq [a, b], .Compare x [op] [y] _ => decide (op = .Eq) && !(isStarE a) && !(isStarE b) && mE n sc fs a x && mE n sc fs b y && !(behindInMarks .Eq y)
    | .ext .one [a, b], .Compare x [op] [y] _ => decide (op = .NotEq) && !(isStarE a) && !(isStarE b) && mE n sc fs a x && mE n sc fs b y && !(behindInMarks .NotEq y)
    | .ext (.isiO c) [a], .Call (.Name g _) [x, .Name d _] [] _ => decide (g = "isinstance") && decide (d = c) && fns.clss.contains c && glB sc g && glB sc c && okN c && notStar x && !(isStarE a) && mE n sc fs a x
    | .ext .rep [a, b], .BinOp x op y _ => decide (op = .Mult) && !(isStarE a) && !(isStarE b) && mE n sc fs a x && mE n sc fs b y
    | .ext (.index t) [a, b], .Call (.Attribute x f ap) [y] [] cp => decide (f = "index") && noCall0 x && (ap.endLine == cp.line) && notStar y && !(isStarE a) && !(isStarE b) && calmE b && mE n sc fs a x && mE n sc fs b y
    | .ext (.count t) [a, b], .Call (.Attribute x f ap) [y] [] cp => decide (f = "count") && noCall0 x && (ap.endLine == cp.line) && notStar y && !(isStarE a) && !(isStarE b) && calmE b && mE n sc fs a x && mE n sc fs b y
    | .meth m _ a es, .Call (.Attribute x f ap) ys [] cp => decide (f = m) && noCall0 x && ys.all notStar && es.all (fun e => !isStarE e) && (ap.endLine == cp.line) && decide (ys.length < 30) && mE n sc fs a x && (if ys.isEmpty then es.isEmpty else mA n sc fs es ys)
    | _, _ => false
/-- a test -/
def mB : Nat → Scope → Scope → CE → Expr → Bool
  | 0, _, _, _, _ => false
  | n + 1, sc, fs, c, e => match c, e with
    | .cmp o a b, .Compare x [op] [y] _ => decide (op = opC o) && mE n sc fs a x && mE n sc fs b y && !(behindInMarks op y)
    | .chain o o' a b c, .Compare x [op, op'] [y, z] _ => decide (op = opC o) && decide (op' = opC o') && mE n sc fs a x && mE n sc fs b y && mE n sc fs c z && !(lastMarks [op, op'] [y, z])
    | .not a, .UnaryOp .Not x _ => mB n sc fs a x
    | .and a b, .BoolOp .And (x :: y :: r) p => mB n sc fs a x && (if r.isEmpty then mB n sc fs b y else mB n sc fs b (.BoolOp .And (y :: r) p))
    | .or a b, .BoolOp .Or (x :: y :: r) p => mB n sc fs a x && (if r.isEmpty then mB n sc fs b y else mB n sc fs b (.BoolOp .Or (y :: r) p))
    | .nope, _ => true
    | .ext .oeq [a, b], .Compare x [op] [y] _ => decide (op = .Eq) && !(isStarE a) && !(isStarE b) && mE n sc fs a x && mE n sc fs b y && !(behindInMarks .Eq y)
    | .ext .one [a, b], .Compare x [op] [y] _ => decide (op = .NotEq) && !(isStarE a) && !(isStarE b) && mE n sc fs a x && mE n sc fs b y && !(behindInMarks .NotEq y)
    | c, e => plainT e && mE n sc fs c e
/-- items -/
def mA : Nat → Scope → Scope → List CE → List Expr → Bool
  | 0, _, _, _, _ => false
  | n + 1, sc, fs, cs, es => match cs, es with
    | [], [] => true
    | .star a :: cs, .Starred x _ :: es => mE n sc fs a x && mA n sc fs cs es
    | c :: cs, e :: es => notStar e && !(isStarE c) && mE n sc fs c e && mA n sc fs cs es
    | _, _ => false
/-- what is walked -/
def mI : Nat → Scope → Scope → Expr → CE → Expr → Bool
  | 0, _, _, _, _, _ => false
  | n + 1, sc, fs, tg, c, e => match c, e with
    | .range (.cst (.int 0)) b, .Call (.Name f _) [x] [] _ => decide (f = "range") && glB sc f && notStar x && mE n sc fs b x
    | .range a b, .Call (.Name f _) [x, y] [] _ => decide (f = "range") && glB sc f && notStar x && notStar y && mE n sc fs a x && mE n sc fs b y
    | .enum a, .Call (.Name f _) [x] [] _ => decide (f = "enumerate") && glB sc f && notStar x && isTup tg && mE n sc fs a x
    | .zip a b, .Call (.Name f _) [x, y] [] _ => decide (f = "zip") && glB sc f && notStar x && notStar y && isTup tg && mE n sc fs a x && mE n sc fs b y
    | c, e => isSeqC c && mE n sc fs c e
end
end

theorem visB_ok {sc : Scope} {x : Str} (h : visB sc x = true) : Vis sc x := by
  unfold visB at h
  split at h
  · rename_i q; exact .inl q
  · rename_i q; exact .inr (.inl q)
  · rename_i q; exact .inr (.inr q)
  · cases h
section
variable {X : Cx} {N : List Str} {sc fs : Scope} {W : WX} {P : Pg} {lv : Nat} {fns : Ns}
theorem Cxt.gl (c : Cxt X N sc fs W P lv fns) {x : Str} (h : glB sc x = true) : Gl X x := by
  unfold glB at h
  split at h
  · rename_i q
    show X.env.scope.names.lookup x = _
    rw [c.scp]; exact q
  · cases h
theorem Cxt.sto (c : Cxt X N sc fs W P lv fns) {x : Str} (h : stoB sc fs x = true) : Sto X x := by
  unfold stoB at h
  unfold Sto L2.Loc
  rw [c.scp]
  split at h
  · rename_i q; exact ⟨.inl q, .inr q⟩
  · rename_i q
    refine ⟨.inr q, .inl (c.fnl x ?_)⟩
    split at h
    · assumption
    · cases h
  · cases h
theorem tkNs_eq : ∀ {ts : List Tk} {ns : List String}, tkNs ts = some ns → ts = ns.map .b
  | [], ns, h => by cases h; rfl
  | .b n :: r, ns, h => by
    simp only [tkNs] at h
    obtain ⟨m, e, rfl⟩ := Option.map_eq_some_iff.mp h
    rw [tkNs_eq e]; rfl
  | .own _ :: r, ns, h => by simp only [tkNs] at h; cases h
theorem allGl_ok (c : Cxt X N sc fs W P lv fns) : ∀ {es : List Expr}, allGl sc es = true → ∀ x px, Expr.Name x px ∈ es → Gl X x
  | [], _, _, _, h => by cases h
  | e :: es, ha, x, px, h => by
    cases e with
    | Name y py =>
      simp only [allGl, Bool.and_eq_true] at ha
      rcases List.mem_cons.mp h with h | h
      · cases h; exact c.gl ha.1
      · exact allGl_ok c ha.2 x px h
    | _ => simp only [allGl] at ha; cases ha
theorem ownOf_ok (is : List Nat) : (ownOf N is).map (·.2) = is := by
  unfold ownOf
  rw [List.map_map]
  exact List.map_id' is
theorem plainT_ok {e : Expr} {env : Env} (h : plainT e = true) : ∀ whole, isTrue e env whole = (do let v ← whole; standAt e.pos; holding [v] (truthy v)) := by
  intro whole
  cases e <;> first | rfl | (cases h; done) | (rename_i op _ _; cases op <;> first | rfl | (cases h; done))
theorem notSet_ok {e : Expr} {env : Env} (h : notSet e = true) : ∀ x, foldedSetIterable e env x = pure x := by
  intro x
  cases e <;> first | rfl | (cases h; done)
theorem notSlice_ok {e : Expr} (h : notSlice e = true) : PlainIx e := by
  intro o i
  cases e <;> first | rfl | (cases h; done)
/-- what the four checks promise -/
structure Mok (N : List Str) (fns : Ns) (P : Pg) (lv n : Nat) : Prop where
  e : ∀ {X : Cx} {sc fs : Scope} {W : WX} {c : CE} {x : Expr}, Cxt X N sc fs W P lv fns → mE N fns n sc fs c x = true → PE X x (tE X.K X.mg P W c)
  b : ∀ {X : Cx} {sc fs : Scope} {W : WX} {c : CE} {x : Expr}, Cxt X N sc fs W P lv fns → mB N fns n sc fs c x = true → PT X x (tT X.K X.mg P W c)
  w : ∀ {X : Cx} {sc fs : Scope} {W : WX} {c : CE} {op : BoolOp} {xs : List Expr} {p : Pos}, Cxt X N sc fs W P lv fns → mB N fns n sc fs c (.BoolOp op xs p) = true → PW X (.BoolOp op xs p) (tT X.K X.mg P W c)
  a : ∀ {X : Cx} {sc fs : Scope} {W : WX} {cs : List CE} {xs : List Expr}, Cxt X N sc fs W P lv fns → mA N fns n sc fs cs xs = true → PA X xs (tAs X.K X.mg P W cs)
  i : ∀ {X : Cx} {sc fs : Scope} {W : WX} {c : CE} {tg x : Expr}, Cxt X N sc fs W P lv fns → mI N fns n sc fs tg c x = true → PI X tg x (tI X.K X.mg P W c)
theorem Mok.zero : Mok N fns P lv 0 := by
  refine ⟨fun _ h => ?_, fun _ h => ?_, fun _ h => ?_, fun _ h => ?_, fun _ h => ?_⟩
  · unfold mE at h; cases h
  · unfold mB at h; cases h
  · unfold mB at h; cases h
  · unfold mA at h; cases h
  · unfold mI at h; cases h
theorem okN_ok {x : Str} (h : okN x = true) : (x == ("__debug__" : Str)) = false ∧ (x == ("__classdict__" : Str)) = false := by
  unfold okN at h
  simpa only [Bool.and_eq_true, Bool.not_eq_true'] using h
theorem Mok.one {n : Nat} (M : Mok N fns P lv n) {c : CE} {x : Expr} (C : Cxt X N sc fs W P lv fns) (h : mE N fns n sc fs c x = true) (hn : notStar x = true) (hs : isStarE c = false) : PA X [x] (tAs X.K X.mg P W [c]) := s_acons (M.e C h) s_anil hn hs
theorem weak_ok {c : CE} {t : TN} (h : (!(weakI c) || isTp t) = true) : weakI c = true → isTp t = true := fun e => by
  rw [e] at h
  simpa using h
theorem s_nopeT {e : Expr} : PT X e (tT X.K X.mg P W .nope) := ⟨fun pins s τ H Q I ⟨B, m, σ, h, R, g⟩ => by simp only [evT, ev, bnd_none] at g; exact g.elim⟩
theorem s_nopeW {e : Expr} : PW X e (tT X.K X.mg P W .nope) := ⟨fun wh pins s τ H Q I ⟨B, m, σ, h, R, g⟩ => by simp only [evT, ev, bnd_none] at g; exact g.elim⟩
theorem Mok.comp {n : Nat} (M : Mok N fns P lv n) {e it : CE} {t : TN} {cs : List CE} {elt tg iter : Expr} {ifs : List Expr} {scope : Scope} {p : Pos} (C : Cxt X N sc fs W P lv fns)
    (h : (mI N fns n sc fs tg it iter && notSet iter && blkC N sc scope (ownOf N (slotsT t)) && mT N (stoB (relS scope sc) scope) t tg && (!(weakI it) || isTp t) && (match cs, ifs with
        | [], [] => true
        | [c], [i] => mB N fns n (relS scope sc) scope c i
        | _, _ => false) && mE N fns n (relS scope sc) scope e elt) = true) : PE X (.ListComp elt [⟨tg, iter, ifs, 0⟩] scope p) (tEN X.K X.mg P W (.comp e t it cs)) := by
  simp only [Bool.and_eq_true] at h
  obtain ⟨⟨⟨⟨⟨⟨h1, h2⟩, h3⟩, h4⟩, hw⟩, h5⟩, h6⟩ := h
  refine s_compN C.cal (by rw [C.hN]; exact C.nd) (M.i C h1) (own := ownOf N (slotsT t)) (by rw [C.hN, C.scp]; exact blkOk_by h3) (weak_ok hw) (ownOf_ok _) (fun s H A cl fp => ?_) (fun s H A cl fp => ?_) (fun s H A cl fp => ?_) (notSet_ok h2)
  · have D := C.blk scope s H A cl fp
    exact s_tgt D.hN D.nd D.cal (fun x h => D.sto h) h4
  · have D := C.blk scope s H A cl fp
    split at h5
    · exact s_tests0
    · exact s_tests1 (M.b D h5)
    · cases h5
  · exact M.e (C.blk scope s H A cl fp) h6
theorem Mok.isi {n : Nat} (M : Mok N fns P lv n) {c : CE} {ts : List Tk} {x k : Expr} {p q : Pos} (C : Cxt X N sc fs W P lv fns) (hx : mE N fns n sc fs c x = true) (hn : notStar x = true) (hg : glB sc "isinstance" = true)
    (h : (match tkNs ts, k with
      | some [m], .Name z _ => clsRow [.Name z ⟨0, 0, 0, 0⟩] [m] && glB sc z
      | some ms, .Tuple zs _ _ => clsRow zs ms && allGl sc zs && decide (ms.length ≤ 100)
      | _, _ => false) = true) : PE X (.Call (.Name "isinstance" p) [x, k] [] q) (tE X.K X.mg P W (.isi c ts)) := by
  have hm : X.mg "isinstance" = none := C.blt _ (by decide +kernel)
  split at h
  · rename_i m z pz e
    rw [tkNs_eq e]
    simp only [clsRow, Bool.and_eq_true, decide_eq_true_eq, Bool.not_eq_true'] at h
    obtain ⟨⟨⟨⟨⟨⟨h1, h2⟩, h3⟩, h4⟩, h5⟩, _⟩, h6⟩ := h
    exact s_isi1 h5 h1 h2 h3 (C.gl h6) (C.blt _ h4) (C.gl hg) hm (M.e C hx) hn
  · rename_i ms zs k2 p2 e
    rw [tkNs_eq e]
    simp only [Bool.and_eq_true, decide_eq_true_eq] at h
    obtain ⟨⟨h1, h2⟩, h3⟩ := h
    exact s_isiT h1 (allGl_ok C h2) (fun x hx _ => C.blt x hx) (C.gl hg) hm h3 (M.e C hx) hn
  · cases h
theorem Mok.sE {n : Nat} (M : Mok N fns P lv n) {c : CE} {x : Expr} (C : Cxt X N sc fs W P lv fns) (h : mE N fns (n + 1) sc fs c x = true) : PE X x (tE X.K X.mg P W c) := by
  have u1 : X.A.units + 1 < cLine := by have := C.u65; omega
  unfold mE at h
  split at h
  all_goals (try simp only [Bool.and_eq_true, Bool.or_eq_true, Bool.not_eq_true', decide_eq_true_eq, beq_iff_eq] at h)
  · exact s_cst pe_non fun _ _ => rfl
  · subst h; exact s_cst pe_bl fun _ _ => rfl
  · subst h; exact s_cst pe_int fun _ _ => rfl
  · subst h; exact s_cst pe_str fun _ _ => rfl
  · obtain ⟨⟨h1, h2⟩, h3⟩ := h
    obtain ⟨h4, h5⟩ := okN_ok h3
    exact s_loc (pe_var (by rw [C.hN]; exact h1) (by rw [C.scp]; exact visB_ok h2) h4 h5)
  · exact s_tup (M.a C h)
  · exact s_lst (M.a C h)
  · exact s_dct0
  · obtain ⟨⟨rfl, ha⟩, hb⟩ := h
    exact s_bin (M.e C ha) (M.e C hb)
  · exact s_neg (M.e C h)
  · obtain ⟨⟨⟨rfl, ha⟩, hb⟩, hm⟩ := h
    exact s_cmp C.u65 (M.e C ha) (M.e C hb) hm
  · obtain ⟨⟨⟨⟨⟨rfl, rfl⟩, ha⟩, hb⟩, hc⟩, hm⟩ := h
    exact s_chain C.u65 (M.e C ha) (M.e C hb) (M.e C hc) hm
  · exact s_not (M.e C h)
  · obtain ⟨ha, hb⟩ := h
    split at hb
    · rename_i hr
      cases (List.isEmpty_iff.mp hr)
      exact s_and (M.e C ha) (pe_one (M.e C hb))
    · exact s_and (M.e C ha) (M.e C hb)
  · obtain ⟨ha, hb⟩ := h
    split at hb
    · rename_i hr
      cases (List.isEmpty_iff.mp hr)
      exact s_or (M.e C ha) (pe_one (M.e C hb))
    · exact s_or (M.e C ha) (M.e C hb)
  · obtain ⟨⟨hc, ha⟩, hb⟩ := h
    exact s_ite (M.b C hc) (M.e C ha) (M.e C hb)
  · obtain ⟨⟨hs, ha⟩, hb⟩ := h
    exact s_idx u1 (M.e C ha) (M.e C hb) (notSlice_ok hs)
  · exact s_slN (M.e C h)
  · exact s_slL (M.e C h.1) (M.e C h.2)
  · exact s_slU (M.e C h.1) (M.e C h.2)
  · exact s_slLU (M.e C h.1.1) (M.e C h.1.2) (M.e C h.2)
  · obtain ⟨⟨⟨⟨⟨⟨rfl, rfl⟩, g1⟩, g2⟩, hn⟩, hs⟩, hx⟩ := h
    exact s_sset C.cal (C.gl g1) (C.blt _ (by decide +kernel)) (C.gl g2) (C.blt _ (by decide +kernel)) (M.e C hx) hn hs
  · obtain ⟨⟨⟨⟨⟨hf, rfl⟩, g1⟩, hn⟩, hs⟩, hx⟩ := h
    rcases hf with hf | rfl
    · exact s_bi hf C.cal (C.gl g1) (C.blt _ (mem_blt _)) (M.one C hx hn hs) hn hs
    · exact s_min C.cal C.u65 (C.gl g1) (C.blt _ (by decide +kernel)) (M.one C hx hn hs) hn hs
  · obtain ⟨⟨⟨⟨⟨⟨⟨⟨hf, rfl⟩, g1⟩, hn⟩, hn2⟩, hs⟩, hs2⟩, hx⟩, hy⟩ := h
    exact s_bi2 hf C.cal (C.gl g1) (C.blt _ (mem_blt _)) (s_acons (M.e C hx) (M.one C hy hn2 hs2) hn hs) hn hn2 hs hs2
  · obtain ⟨⟨⟨⟨rfl, g1⟩, hn⟩, hx⟩, hk⟩ := h
    exact M.isi C hx hn g1 hk
  · obtain ⟨⟨⟨⟨⟨rfl, hx1⟩, hl⟩, hn⟩, hx⟩, hy⟩ := h
    split at hx1
    · exact s_cnt rfl (by simpa using hl) (M.e C hx) (M.e C hy) hn
    · cases hx1
  · obtain ⟨⟨⟨⟨⟨⟨rfl, hf⟩, g1⟩, ho⟩, hn⟩, hs⟩, ha⟩ := h
    exact s_call (C.fnf _ (by simpa using hf)) C.rm C.tk (C.gl g1) (okN_ok ho).1 (M.a C ha) hn hs
  · exact s_new (M.comp C (by simpa only [Bool.and_eq_true, Bool.or_eq_true, Bool.not_eq_true'] using h))
  · exact s_nope
  · obtain ⟨⟨⟨rfl, h1⟩, h2⟩, h3⟩ := h
    exact s_glo C.xf (C.gl h2) (okN_ok h3).1 (C.con _ (by simpa using h1))
  · obtain ⟨⟨⟨rfl, h1⟩, h2⟩, h3⟩ := h
    exact s_attr C.xf (M.e C h3) h2 h1
  · obtain ⟨⟨⟨⟨⟨⟨rfl, hf⟩, g1⟩, ho⟩, hn⟩, hs⟩, ha⟩ := h
    exact s_make C.xf C.rm C.tk (C.gl g1) (okN_ok ho).1 (C.cls _ (by simpa using hf)) (M.a C ha) hn hs
  · obtain ⟨⟨⟨⟨⟨⟨rfl, hf⟩, g1⟩, ho⟩, hn⟩, hs⟩, ha⟩ := h
    exact s_callD (C.fnf _ (by simpa using hf)) C.rm C.tk (C.gl g1) (okN_ok ho).1 (M.a C ha) hn hs
  · obtain ⟨⟨⟨⟨⟨rfl, h1⟩, h2⟩, h3⟩, h4⟩, h5⟩ := h
    exact s_oeq C.xf C.rm (M.e C h3) (M.e C h4) h1 h2 h5
  · obtain ⟨⟨⟨⟨⟨rfl, h1⟩, h2⟩, h3⟩, h4⟩, h5⟩ := h
    exact s_one C.xf C.rm (M.e C h3) (M.e C h4) h1 h2 h5
  · obtain ⟨⟨⟨⟨⟨⟨⟨⟨rfl, rfl⟩, h1⟩, h2⟩, h3⟩, h4⟩, h5⟩, h6⟩, h7⟩ := h
    obtain ⟨ss, k, e1, _⟩ := C.cls _ (by simpa using h1)
    exact s_isiO C.xf (C.gl h3) (okN_ok h4).1 (by rw [e1]; rfl) (C.gl h2) (C.blt _ (by decide +kernel)) (M.e C h7) h5 h6
  · obtain ⟨⟨⟨⟨rfl, h1⟩, h2⟩, h3⟩, h4⟩ := h
    exact s_rep (M.e C h3) (M.e C h4) h1 h2
  · rename_i t _ _ _ _ _ _ _
    obtain ⟨⟨⟨⟨⟨⟨⟨⟨rfl, h1⟩, h2⟩, h3⟩, h4⟩, h5⟩, h6⟩, h7⟩, h8⟩ := h
    cases t
    · exact s_ciIL C.u65 h1 (by simpa using h2) (M.e C h7) (M.e C h8) h3 h4 h5 h6
    · exact s_ciIT C.u65 h1 (by simpa using h2) (M.e C h7) (M.e C h8) h3 h4 h5 h6
  · rename_i t _ _ _ _ _ _ _
    obtain ⟨⟨⟨⟨⟨⟨⟨⟨rfl, h1⟩, h2⟩, h3⟩, h4⟩, h5⟩, h6⟩, h7⟩, h8⟩ := h
    cases t
    · exact s_ciCL C.u65 h1 (by simpa using h2) (M.e C h7) (M.e C h8) h3 h4 h5 h6
    · exact s_ciCT C.u65 h1 (by simpa using h2) (M.e C h7) (M.e C h8) h3 h4 h5 h6
  · obtain ⟨⟨⟨⟨⟨⟨⟨rfl, h1⟩, h2⟩, h3⟩, h4⟩, h5⟩, h6⟩, h7⟩ := h
    refine s_meth C.xf C.rm C.tk (M.e C h6) ?_ h1 h2 h3 (by simpa using h4) (by simpa using h5)
    have key : ∀ {es : List CE} {ys : List Expr}, (if ys.isEmpty = true then es.isEmpty else mA N fns n sc fs es ys) = true → ys = [] ∧ es = [] ∨ ∃ x r, ys = x :: r ∧ PA X ys (tAs X.K X.mg P W es) := by
      intro es ys h
      cases ys with
      | nil => exact .inl ⟨rfl, List.isEmpty_iff.mp h⟩
      | cons y r => exact .inr ⟨y, r, rfl, M.a C h⟩
    exact key h7
  · cases h
theorem Mok.sB {n : Nat} (M : Mok N fns P lv n) {c : CE} {x : Expr} (C : Cxt X N sc fs W P lv fns) (h : mB N fns (n + 1) sc fs c x = true) : PT X x (tT X.K X.mg P W c) := by
  unfold mB at h
  split at h
  all_goals (try simp only [Bool.and_eq_true, Bool.or_eq_true, Bool.not_eq_true', decide_eq_true_eq, beq_iff_eq] at h)
  · obtain ⟨⟨⟨rfl, ha⟩, hb⟩, hm⟩ := h
    exact s_cmpT C.u65 (M.e C ha) (M.e C hb) hm
  · obtain ⟨⟨⟨⟨⟨rfl, rfl⟩, ha⟩, hb⟩, hc⟩, hm⟩ := h
    exact s_chainT C.u65 (M.e C ha) (M.e C hb) (M.e C hc) hm
  · exact s_notT (M.b C h)
  · obtain ⟨ha, hb⟩ := h
    split at hb
    · rename_i hr
      cases (List.isEmpty_iff.mp hr)
      exact (s_andW (M.b C ha) (pw_and1 (M.b C hb))).pt
    · exact (s_andW (M.b C ha) (M.w C hb)).pt
  · obtain ⟨ha, hb⟩ := h
    split at hb
    · rename_i hr
      cases (List.isEmpty_iff.mp hr)
      exact (s_orW (M.b C ha) (pw_or1 (M.b C hb))).pt
    · exact (s_orW (M.b C ha) (M.w C hb)).pt
  · exact s_nopeT
  · obtain ⟨⟨⟨⟨⟨rfl, h1⟩, h2⟩, h3⟩, h4⟩, h5⟩ := h
    exact s_oeqT C.xf C.rm (M.e C h3) (M.e C h4) h1 h2 h5
  · obtain ⟨⟨⟨⟨⟨rfl, h1⟩, h2⟩, h3⟩, h4⟩, h5⟩ := h
    exact s_oneT C.xf C.rm (M.e C h3) (M.e C h4) h1 h2 h5
  · exact s_test (M.e C h.2) (plainT_ok h.1)
theorem Mok.sW {n : Nat} (M : Mok N fns P lv n) {c : CE} {op : BoolOp} {xs : List Expr} {p : Pos} (C : Cxt X N sc fs W P lv fns) (h : mB N fns (n + 1) sc fs c (.BoolOp op xs p) = true) : PW X (.BoolOp op xs p) (tT X.K X.mg P W c) := by
  unfold mB at h
  split at h
  all_goals (try simp only [Bool.and_eq_true, Bool.or_eq_true, Bool.not_eq_true', decide_eq_true_eq, beq_iff_eq] at h)
  all_goals (first | exact s_nopeW | (rename_i heq; first | (cases heq; done) | skip))
  · cases heq
    obtain ⟨ha, hb⟩ := h
    split at hb
    · rename_i hr
      cases (List.isEmpty_iff.mp hr)
      exact s_andW (M.b C ha) (pw_and1 (M.b C hb))
    · exact s_andW (M.b C ha) (M.w C hb)
  · cases heq
    obtain ⟨ha, hb⟩ := h
    split at hb
    · rename_i hr
      cases (List.isEmpty_iff.mp hr)
      exact s_orW (M.b C ha) (pw_or1 (M.b C hb))
    · exact s_orW (M.b C ha) (M.w C hb)
  · cases h.1
theorem Mok.sA {n : Nat} (M : Mok N fns P lv n) {cs : List CE} {xs : List Expr} (C : Cxt X N sc fs W P lv fns) (h : mA N fns (n + 1) sc fs cs xs = true) : PA X xs (tAs X.K X.mg P W cs) := by
  unfold mA at h
  split at h
  all_goals (try simp only [Bool.and_eq_true, Bool.or_eq_true, Bool.not_eq_true', decide_eq_true_eq, beq_iff_eq] at h)
  · exact s_anil
  · exact s_astar (M.e C h.1) (M.a C h.2)
  · exact s_acons (M.e C h.1.2) (M.a C h.2) h.1.1.1 h.1.1.2
  · cases h
theorem Mok.sI {n : Nat} (M : Mok N fns P lv n) {c : CE} {tg x : Expr} (C : Cxt X N sc fs W P lv fns) (h : mI N fns (n + 1) sc fs tg c x = true) : PI X tg x (tI X.K X.mg P W c) := by
  unfold mI at h
  split at h
  all_goals (try simp only [Bool.and_eq_true, Bool.or_eq_true, Bool.not_eq_true', decide_eq_true_eq, beq_iff_eq] at h)
  · obtain ⟨⟨⟨rfl, g1⟩, hn⟩, hx⟩ := h
    exact s_irange1 (C.gl g1) (C.blt _ (by decide +kernel)) (M.e C hx) hn
  · obtain ⟨⟨⟨⟨⟨rfl, g1⟩, hn⟩, hn2⟩, hx⟩, hy⟩ := h
    exact s_irange2 (C.gl g1) (C.blt _ (by decide +kernel)) (M.e C hx) (M.e C hy) hn hn2
  · obtain ⟨⟨⟨⟨rfl, g1⟩, hn⟩, ht⟩, hx⟩ := h
    cases tg with
    | Tuple es k p => exact s_ienum (C.gl g1) (C.blt _ (by decide +kernel)) (M.e C hx) hn
    | _ => cases ht
  · obtain ⟨⟨⟨⟨⟨⟨rfl, g1⟩, hn⟩, hn2⟩, ht⟩, hx⟩, hy⟩ := h
    cases tg with
    | Tuple es k p => exact s_izip (C.gl g1) (C.blt _ (by decide +kernel)) (M.e C hx) (M.e C hy) hn hn2
    | _ => cases ht
  · exact s_iseq h.1 (M.e C h.2)
end
theorem mok (N : List Str) (fns : Ns) (P : Pg) (lv : Nat) : ∀ n, Mok N fns P lv n
  | 0 => .zero
  | n + 1 =>
    have M := mok N fns P lv n
    ⟨fun C h => M.sE C h, fun C h => M.sB C h, fun C h => M.sW C h, fun C h => M.sA C h, fun C h => M.sI C h⟩
end Ev

set_option Elab.async false
set_option linter.all false
set_option maxRecDepth 100000
set_option maxHeartbeats 4000000
/-! Ev18: the evaluator's statements against the program's text. -/
namespace Ev
open PySem PySem.Spec PyProof.Rows L2
/-- an exception class that may be raised with a text -/
def ExF (X : Cx) (c : Str) : Prop := ∃ (C : Addr) (bmB : List Value) (B newId initId : String), ExcBaseFacts B newId initId bmB ∧ PySem.W.excIn X.K C bmB newId = true ∧ X.mg c = some (.ref C) ∧ PySem.W.keepIn X.K (.ref C) = true ∧ Raises X (.ref C)
structure Cst (X : Cx) (N : List Str) (sc : Scope) (W : WX) (P : Pg) (lv : Nat) (fns : Ns) (exs : List Str) : Prop extends Cxt X N sc sc W P lv fns where
  po : PassesOwn (model X.prog X.w) X.A X.env X.xe
  stk : X.stack = X.env :: X.outer
  frm : X.env.frame = some X.env.locals
  knd : sc.kind = .function
  exc : ∀ c ∈ exs, ExF X c
  sub : ∀ y x b cy cx, P.esub y x = some b → X.mg y = some cy → X.mg x = some cx → PySem.W.exmOne X.K cy cx = some b
theorem Cst.tr {X : Cx} {N : List Str} {sc : Scope} {W W' : WX} {P : Pg} {lv : Nat} {fns : Ns} {exs : List Str} (c : Cst X N sc W P lv fns exs) (pn : List (Addr × Obj)) (xe : Value → Shared → Prop) (tk : Takes (X.tr pn xe) W') (po : PassesOwn (model X.prog X.w) X.A X.env xe) :
    Cst (X.tr pn xe) N sc W' P lv fns exs where
  hN := c.hN
  nd := c.nd
  scp := c.scp
  cal := c.cal
  rm := c.rm
  tk := tk
  fnl := c.fnl
  blt := c.blt
  fnf := fun f hf => ⟨let ⟨fa, FA, h⟩ := (c.fnf f hf).ex; ⟨fa, ⟨FA.ex⟩, h⟩⟩
  xf := c.xf.re rfl rfl rfl rfl rfl
  con := c.con
  cls := c.cls
  po := po
  stk := c.stk
  frm := c.frm
  knd := c.knd
  exc := c.exc
  sub := c.sub
def notComp : Expr → Bool
  | .ListComp .. | .SetComp .. | .DictComp .. => false
  | _ => true
def notTup : Expr → Bool
  | .Tuple .. => false
  | _ => true
theorem sw_no {v : Expr} {t : Option Expr} {l : Nat} {env : Env} (h : notComp v = true) : swapsWith v t l env = pure false := by
  cases v <;> first | (cases h; done) | rfl
def locB (sc : Scope) (x : Str) : Bool := match sc.names.lookup x with
  | some .local => true
  | _ => false
theorem locB_ok {sc : Scope} {x : Str} (h : locB sc x = true) : sc.names.lookup x = some .local := by
  unfold locB at h
  split at h
  · assumption
  · cases h
def cellB (sc : Scope) (x : Str) : Bool := match sc.names.lookup x with
  | some .cell => true
  | _ => false
theorem cellB_ok {sc : Scope} {x : Str} (h : cellB sc x = true) : sc.names.lookup x = some .cell := by
  unfold cellB at h
  split at h
  · assumption
  · cases h
theorem sw_cell {elt : Expr} {gs : List Comprehension} {scope : Scope} {pos py : Pos} {y : Str} {l : Nat} {env : Env} (hy : env.scope.names.lookup y = some .cell) : swapsWith (.ListComp elt gs scope pos) (some (.Name y py)) l env = pure false := by
  have ky : env.kindOf y = some .cell := hy
  unfold swapsWith
  simp only [ky]
  show pure (_ && (some NameKind.cell == some NameKind.local) && _ && _) = _
  rw [show (some NameKind.cell == some NameKind.local) = false by decide]
  simp
def isSt : Expr → Bool
  | .Starred .. => true
  | _ => false
def nmF (env : Env) (line : Nat) : Expr → Option Str
  | .Name id pos => if env.kindOf id == some .local && pos.line == line then some id else none
  | _ => none
theorem sws {ts vs : List Expr} {env : Env} {kt k2 : Nat} {pt p2 : Pos} : swappedStores [.Tuple ts kt pt] (.Tuple vs k2 p2) env =
    (if (!(ts.length == 2 || ts.length == 3) || vs.length != ts.length || env.blockKind != .function) = true then pure none else
      if (vs.any isSt) = true then pure none else
      if ((ts.filterMap (nmF env ((ts.head?.map (·.pos.line)).getD 0))).length != ts.length || (ts.filterMap (nmF env ((ts.head?.map (·.pos.line)).getD 0))).eraseDups.length != (ts.filterMap (nmF env ((ts.head?.map (·.pos.line)).getD 0))).length) = true then pure none else
      if (vs.all (foldedForSure 8)) = true then pure none else
      if (vs.all (constantsAlone 8)) = true then (do unsupported "assign.tuple-of-constant-expressions:order-of-the-stores"; pure (some (ts.filterMap (nmF env ((ts.head?.map (·.pos.line)).getD 0))))) else
      pure (some (ts.filterMap (nmF env ((ts.head?.map (·.pos.line)).getD 0))))) := by
  unfold swappedStores
  rfl
/-- the names of a, b = x, y that are stored from the right -/
def parNs (sc : Scope) (line : Nat) : List Expr → List Str
  | [] => []
  | .Name x p :: r => if sc.names.lookup x == some .local && p.line == line then x :: parNs sc line r else parNs sc line r
  | _ :: r => parNs sc line r
def parB (sc : Scope) (ts vs : List Expr) (names : List Str) : Bool :=
  (ts.length == 2 || ts.length == 3) && (vs.length == ts.length) && !(vs.any isSt) && decide (parNs sc ((ts.head?.map (·.pos.line)).getD 0) ts = names) && (names.length == ts.length) && (names.eraseDups.length == names.length) &&
    !(vs.all (foldedForSure 8)) && !(vs.all (constantsAlone 8))
theorem parNs_eq {env : Env} {line : Nat} : ∀ ts : List Expr, ts.filterMap (nmF env line) = parNs env.scope line ts
  | [] => rfl
  | e :: r => by
    rw [List.filterMap_cons, parNs_eq r]
    cases e with
    | Name x p =>
      by_cases c : (env.scope.names.lookup x == some .local && p.line == line) = true
      · have e1 : nmF env line (.Name x p) = some x := if_pos c
        have e2 : parNs env.scope line (.Name x p :: r) = x :: parNs env.scope line r := if_pos c
        rw [e1, e2]
      · have e1 : nmF env line (.Name x p) = none := if_neg c
        have e2 : parNs env.scope line (.Name x p :: r) = parNs env.scope line r := if_neg c
        rw [e1, e2]
    | _ => rfl
theorem parB_ok {env : Env} {ts vs : List Expr} {names : List Str} {kt : Nat} {pt : Pos} {k2 : Nat} {p2 : Pos} (hk : env.scope.kind = .function) (h : parB env.scope ts vs names = true) :
    swappedStores [.Tuple ts kt pt] (.Tuple vs k2 p2) env = pure (some names) := by
  unfold parB at h
  simp only [Bool.and_eq_true, Bool.not_eq_true', decide_eq_true_eq, beq_iff_eq] at h
  obtain ⟨⟨⟨⟨⟨⟨⟨h1, h2⟩, h3⟩, h4⟩, h5⟩, h6⟩, h7⟩, h8⟩ := h
  have hb : env.blockKind = .function := by unfold Env.blockKind; rw [hk]; rfl
  rw [sws]
  simp only [parNs_eq, h4]
  rw [if_neg (by simp [h1, h2, hb]), if_neg (by simp [h3]), if_neg (by simp [h5, h6]), if_neg (by simp [h7]), if_neg (by simp [h8])]

/-- suites of except clauses: what needs no calm -/
def mH0 (N : List Str) (sc : Scope) : CE → Expr → Bool
  | .cst .non, .Constant .none _ _ => true
  | .cst (.bl b), .Constant (.bool b') _ _ => b == b'
  | .cst (.int i), .Constant (.int j) _ _ => i == j
  | _, _ => false
def mH (N : List Str) (sc : Scope) : List CS → List Stmt → Bool
  | [], [] => true
  | .pass :: ss, .Pass _ :: xs => mH N sc ss xs
  | .cont :: ss, .Continue _ :: xs => mH N sc ss xs
  | .brk :: ss, .Break _ :: xs => mH N sc ss xs
  | .ret c :: ss, .Return (some x) _ :: xs => mH0 N sc c x && mH N sc ss xs
  | .asg (.nm i) c :: ss, .Assign [.Name y _] x _ :: xs => decide (N[i]? = some y) && stoB sc sc y && mH0 N sc c x && notComp x && mH N sc ss xs
  | _, _ => false
section
variable (N : List Str) (fns : Ns) (exs : List Str)
/-- a new object -/
def mN (n : Nat) (sc fs : Scope) : CE → Expr → Bool
  | .lst es, .List xs _ => mA N fns n sc fs es xs
  | .dct0, .Dict [] [] _ => true
  | .comp e t it cs, .ListComp elt [⟨tg, iter, ifs, 0⟩] scope _ => mI N fns n sc fs tg it iter && notSet iter && blkC N sc scope (ownOf N (slotsT t)) && mT N (stoB (relS scope sc) scope) t tg && (!(weakI it) || isTp t) && (match cs, ifs with
        | [], [] => true
        | [c], [i] => mB N fns n (relS scope sc) scope c i
        | _, _ => false) && mE N fns n (relS scope sc) scope e elt
  | .ext .rep [a, b], .BinOp x op y _ => decide (op = .Mult) && !(isStarE a) && !(isStarE b) && mE N fns n sc fs a x && mE N fns n sc fs b y
  | .slU a u, .Subscript x (.Slice none (some y) none _) _ => isLstC a && mE N fns n sc fs a x && mE N fns n sc fs u y
  | _, _ => false
def mP (n : Nat) (sc fs : Scope) : List AM → List CE → List Expr → Bool
  | [], [], [] => true
  | .v :: ms, c :: cs, x :: xs => notStar x && mE N fns n sc fs c x && mP n sc fs ms cs xs
  | .n :: ms, c :: cs, x :: xs => notStar x && mN N fns n sc fs c x && mP n sc fs ms cs xs
  | .c :: ms, .call f (a :: es) :: cs, .Call (.Name g _) (x :: ys) [] _ :: xs => decide (g = f) && fns.fns.contains f && glB sc f && okN f && (x :: ys).all notStar && (a :: es).all (fun e => !isStarE e) && mA N fns n sc fs (a :: es) (x :: ys) && mP n sc fs ms cs xs
  | .o :: ms, .loc i :: cs, .Name x _ :: xs => decide (N[i]? = some x) && visB sc x && okN x && mP n sc fs ms cs xs
  | _, _, _ => false
/-- how name = e is stored -/
def swF (sc : Scope) (x : Str) (v : Expr) : Bool := notComp v || (cellB sc x && match v with | .ListComp .. => true | _ => false)
def swT (sc : Scope) (x : Str) (px : Pos) : Expr → Bool
  | .ListComp _ _ scope p => locB sc x && (px.line == p.line) && !(scope.names.any fun (n, k) => n == x && (k == .local || k == .cell))
  | _ => false
mutual
def mS : Nat → Scope → CS → Stmt → Bool
  | 0, _, _, _ => false
  | n + 1, sc, s, st => match s, st with
    | .pass, .Pass _ => true
    | .pass, .Expr (.Constant (.str _) _ _) _ => true
    | .brk, .Break _ => true
    | .cont, .Continue _ => true
    | .asg (.nm i) c, .Assign [.Name x px] v _ => decide (N[i]? = some x) && stoB sc sc x && (if swF sc x v then mE N fns n sc sc c v else swT sc x px v && mN N fns n sc sc c v)
    | .new i c, .Assign [.Name x px] v _ => decide (N[i]? = some x) && stoB sc sc x && (swF sc x v || swT sc x px v) && mN N fns n sc sc c v
    | .asg (.tp ts) c, .Assign [.Tuple tgs k p] v _ => mT N (stoB sc sc) (.tp ts) (.Tuple tgs k p) && notComp v && notTup v && mE N fns n sc sc c v
    | .par [i, j] ms cs, .Assign [.Tuple [.Name x px, .Name y py] kt pt] (.Tuple [a, b] _ _) _ => decide (N[i]? = some x) && decide (N[j]? = some y) && decide (i ≠ j) && locB sc x && locB sc y && parB sc [.Name x px, .Name y py] [a, b] [x, y] && mP N fns n sc sc ms cs [a, b]
    | .par [i, j, l] ms cs, .Assign [.Tuple [.Name x px, .Name y py, .Name z pz] kt pt] (.Tuple [a, b, c] _ _) _ => decide (N[i]? = some x) && decide (N[j]? = some y) && decide (N[l]? = some z) && decide (i ≠ j) && decide (i ≠ l) && decide (j ≠ l) && locB sc x && locB sc y && locB sc z &&
        parB sc [.Name x px, .Name y py, .Name z pz] [a, b, c] [x, y, z] && mP N fns n sc sc ms cs [a, b, c]
    | .aug i o c, .AugAssign (.Name x _) op v _ => decide (N[i]? = some x) && stoB sc sc x && decide ((opS o).map (·.1) = some op) && mE N fns n sc sc c v
    | .app i c, .Expr (.Call (.Attribute (.Name x _) f ap) [v] [] cp) _ => decide (f = "append") && decide (N[i]? = some x) && visB sc x && okN x && notStar v && (ap.endLine == cp.line) && mE N fns n sc sc c v
    | .ext i c, .Expr (.Call (.Attribute (.Name x _) f ap) [v] [] cp) _ => decide (f = "extend") && decide (N[i]? = some x) && visB sc x && okN x && notStar v && (ap.endLine == cp.line) && mE N fns n sc sc c v
    | .seti i k c, .Assign [.Subscript (.Name x _) y _] v _ => decide (N[i]? = some x) && visB sc x && okN x && notSlice y && notComp v && mE N fns n sc sc k y && mE N fns n sc sc c v
    | .callS none f ms (a :: cs), .Expr (.Call (.Name g _) (x :: xs) [] _) _ => decide (g = f) && fns.fns.contains f && glB sc f && okN f && (x :: xs).all notStar && mP N fns n sc sc ms (a :: cs) (x :: xs)
    | .callS (some i) f ms (a :: cs), .Assign [.Name y _] (.Call (.Name g _) (x :: xs) [] _) _ => decide (N[i]? = some y) && stoB sc sc y && decide (g = f) && fns.fns.contains f && glB sc f && okN f && (x :: xs).all notStar && mP N fns n sc sc ms (a :: cs) (x :: xs)
    | .expr c, .Expr v _ => notComp v && mE N fns n sc sc c v
    | .ret (.loc i), .Return (some (.Name x _)) _ => decide (N[i]? = some x) && visB sc x && okN x
    | .ret c, .Return (some v) _ => !(isLoc c) && mE N fns n sc sc c v
    | .retN, .Return none _ => true
    | .if_ c a b, .If t xs ys _ => mB N fns n sc sc c t && mSs n sc a xs && mSs n sc b ys
    | .for_ t it b, .For tg iter body [] _ => mI N fns n sc sc tg it iter && notSet iter && mT N (stoB sc sc) t tg && (!(weakI it) || isTp t) && mSs n sc b body
    | .while_ _ c b, .While t body [] _ => mB N fns n sc sc c t && mSs n sc b body
    | .raise_ c, .Raise (some (.Call (.Name x _) [.Constant (.str _) _ _] [] _)) none _ => decide (x = c) && exs.contains c && glB sc c && okN c
    | .try_ b c hb, .Try body [.ExceptHandler (some (.Name x _)) none (s0 :: suite) _] [] [] _ => decide (x = c) && exs.contains c && glB sc c && okN c && mSs n sc b body && mH N sc hb (s0 :: suite)
    | .nope, _ => true
    | .setf i f c, .Assign [.Attribute (.Name x _) g _] v _ => decide (g = f) && decide (N[i]? = some x) && visB sc x && okN x && notComp v && mE N fns n sc sc c v
    | .forO t i b, .For tg (.Name x _) body [] _ => decide (N[i]? = some x) && visB sc x && okN x && mT N (stoB sc sc) t tg && mSs n sc b body
    | .retO c, .Return (some v) _ => mN N fns n sc sc c v
    | _, _ => false
def mSs : Nat → Scope → List CS → List Stmt → Bool
  | 0, _, _, _ => false
  | n + 1, sc, ss, sts => match ss, sts with
    | [], [] => true
    | .nope :: _, _ => true
    | s :: ss, st :: sts => mS n sc s st && mSs n sc ss sts
    | _, _ => false
end
end
end Ev

set_option Elab.async false
set_option linter.all false
set_option maxRecDepth 100000
set_option maxHeartbeats 4000000
/-! Ev19: the statements' check is right. -/
namespace Ev
open PySem PySem.Spec PyProof.Rows L2
section
variable {X : Cx} {N : List Str} {sc fs : Scope} {W : WX} {P : Pg} {lv : Nat} {fns : Ns} {exs : List Str}
/-- what a suite's text needs -/
structure Csu (X : Cx) (N : List Str) (sc : Scope) : Prop where
  hN : X.N = N
  nd : N.Nodup
  scp : X.env.scope = sc
  fnl : ∀ x, sc.names.lookup x = some .cell → X.fn x = true
theorem Csu.sto (c : Csu X N sc) {x : Str} (h : stoB sc sc x = true) : Sto X x := by
  unfold stoB at h
  unfold Sto L2.Loc
  rw [c.scp]
  split at h
  · rename_i q; exact ⟨.inl q, .inr q⟩
  · rename_i q
    exact ⟨.inr q, .inl (c.fnl x q)⟩
  · cases h
theorem mH0_ok {c : CE} {x : Expr} (h : mH0 N sc c x = true) : PE X x (tE X.K X.mg P W c) := by
  unfold mH0 at h
  split at h
  all_goals (try simp only [beq_iff_eq] at h)
  · exact s_cst pe_non fun _ _ => rfl
  · subst h; exact s_cst pe_bl fun _ _ => rfl
  · subst h; exact s_cst pe_int fun _ _ => rfl
  · cases h
theorem mH0_loc {c : CE} {x : Expr} (h : mH0 N sc c x = true) : isLoc c = false := by
  unfold mH0 at h
  split at h
  · rfl
  · rfl
  · rfl
  · cases h
theorem mH_ok (C : Csu X N sc) : ∀ {ss : List CS} {xs : List Stmt}, mH N sc ss xs = true → PSs X xs (tSs X.K X.mg P W ss) := by
  intro ss
  induction ss with
  | nil =>
    intro xs h
    cases xs with
    | nil => exact s_nil
    | cons _ _ => simp only [mH] at h; cases h
  | cons s ss ih =>
    intro xs h
    unfold mH at h
    split at h
    · rename_i e; cases e
    · rename_i e; cases e; exact s_cons s_pass (ih h)
    · rename_i e; cases e; exact s_cons s_cont (ih h)
    · rename_i e; cases e; exact s_cons s_break (ih h)
    · rename_i e; cases e
      rw [Bool.and_eq_true] at h
      exact s_cons (s_ret (mH0_ok h.1) (mH0_loc h.1)) (ih h.2)
    · rename_i e; cases e
      simp only [Bool.and_eq_true, decide_eq_true_eq] at h
      obtain ⟨⟨⟨⟨h1, h2⟩, h3⟩, h4⟩, h5⟩ := h
      obtain ⟨q1, q2⟩ := C.sto h2
      exact s_cons (s_asg0 (ps_set (by rw [C.hN]; exact C.nd) (by rw [C.hN]; exact h1) q1 (mH0_ok h3) (sw_no h4) q2) fun _ _ _ q => q) (ih h5)
    · cases h
theorem mN_ok {n : Nat} (M : Mok N fns P lv n) {c : CE} {x : Expr} (C : Cxt X N sc fs W P lv fns) (h : mN N fns n sc fs c x = true) : PE X x (tEN X.K X.mg P W c) := by
  unfold mN at h
  split at h
  · exact s_lstN (M.a C h)
  · exact s_dct0N
  · exact M.comp C h
  · simp only [Bool.and_eq_true, Bool.not_eq_true', decide_eq_true_eq] at h
    obtain ⟨⟨⟨⟨rfl, h1⟩, h2⟩, h3⟩, h4⟩ := h
    exact s_repN (M.e C h3) (M.e C h4) h1 h2
  · simp only [Bool.and_eq_true] at h
    exact s_slUN (M.e C h.1.2) (M.e C h.2) h.1.1
  · cases h
theorem mPc_inv {n : Nat} {ms : List AM} {cs : List CE} {xs : List Expr} (h : mP N fns n sc fs (.c :: ms) cs xs = true) : ∃ f a es cs' g p x ys q xs', cs = .call f (a :: es) :: cs' ∧ xs = .Call (.Name g p) (x :: ys) [] q :: xs' ∧
    (decide (g = f) && fns.fns.contains f && glB sc f && okN f && (x :: ys).all notStar && (a :: es).all (fun e => !isStarE e) && mA N fns n sc fs (a :: es) (x :: ys) && mP N fns n sc fs ms cs' xs') = true := by
  unfold mP at h
  split at h
  · rename_i e; cases e
  · rename_i e; cases e
  · rename_i e; cases e
  · rename_i e; cases e; exact ⟨_, _, _, _, _, _, _, _, _, _, rfl, rfl, h⟩
  · rename_i e; cases e
  · cases h
theorem mP_ok {n : Nat} (M : Mok N fns P lv n) (C : Cxt X N sc fs W P lv fns) : ∀ {ms : List AM} {cs : List CE} {xs : List Expr}, mP N fns n sc fs ms cs xs = true → PA X xs (tP X.K X.mg P W ms cs) := by
  intro ms
  induction ms with
  | nil =>
    intro cs xs h
    cases cs with
    | nil =>
      cases xs with
      | nil => exact p_nil
      | cons _ _ => simp only [mP] at h; cases h
    | cons _ _ => cases xs <;> (simp only [mP] at h; cases h)
  | cons m ms ih =>
    intro cs xs h
    cases m with
    | v =>
      cases cs with
      | nil => cases xs <;> (simp only [mP] at h; cases h)
      | cons c cs =>
        cases xs with
        | nil => simp only [mP] at h; cases h
        | cons x xs =>
          simp only [mP, Bool.and_eq_true] at h
          exact p_v (M.e C h.1.2) (ih h.2) h.1.1
    | n =>
      cases cs with
      | nil => cases xs <;> (simp only [mP] at h; cases h)
      | cons c cs =>
        cases xs with
        | nil => simp only [mP] at h; cases h
        | cons x xs =>
          simp only [mP, Bool.and_eq_true] at h
          exact p_n (mN_ok M C h.1.2) (ih h.2) h.1.1
    | c =>
      obtain ⟨f, a, es, cs', g, p, x, ys, q, xs', e1, e2, h9⟩ := mPc_inv h
      subst e1 e2
      simp only [Bool.and_eq_true, decide_eq_true_eq] at h9
      obtain ⟨⟨⟨⟨⟨⟨⟨e3, hf⟩, g1⟩, ho⟩, hn⟩, hs⟩, ha⟩, hr⟩ := h9
      subst e3
      exact p_c (s_callO (C.fnf _ (by simpa using hf)) C.rm C.tk (C.gl g1) (okN_ok ho).1 (M.a C ha) hn hs) (ih hr) rfl
    | o =>
      cases cs with
      | nil => cases xs <;> (simp only [mP] at h; cases h)
      | cons c cs =>
        cases xs with
        | nil => cases c <;> (simp only [mP] at h; cases h)
        | cons x xs =>
          cases c with
          | loc i =>
            cases x with
            | Name x px =>
              simp only [mP, Bool.and_eq_true, decide_eq_true_eq] at h
              obtain ⟨⟨⟨h1, h2⟩, h3⟩, h4⟩ := h
              obtain ⟨h5, h6⟩ := okN_ok h3
              exact p_o (pe_var (by rw [C.hN]; exact h1) (by rw [C.scp]; exact visB_ok h2) h5 h6) (ih h4) rfl
            | _ => simp only [mP] at h; cases h
          | _ => simp only [mP] at h; cases h
theorem sws1 {t v : Expr} {l : Nat} {env : Env} (h : notComp v = true) : swapsWithSole [t] v l env = pure false := sw_no (t := some t) h
theorem Cxt.var (C : Cxt X N sc fs W P lv fns) {i : Nat} {x : Str} {p : Pos} (h1 : N[i]? = some x) (h2 : visB sc x = true) (h3 : okN x = true) : PE X (.Name x p) (tVar i) := by
  obtain ⟨h5, h6⟩ := okN_ok h3
  exact pe_var (by rw [C.hN]; exact h1) (by rw [C.scp]; exact visB_ok h2) h5 h6
theorem swF_ok (C : Cxt X N sc fs W P lv fns) {x : Str} {v : Expr} {px : Pos} {l : Nat} (h : swF sc x v = true) : swapsWith v (some (.Name x px)) l X.env = pure false := by
  unfold swF at h
  rw [Bool.or_eq_true] at h
  rcases h with h | h
  · exact sw_no h
  · rw [Bool.and_eq_true] at h
    have hc := cellB_ok h.1
    rw [← C.scp] at hc
    have h2 := h.2
    split at h2
    · exact sw_cell hc
    · cases h2
/-- name = [..] of a local on one line -/
theorem swT_ok {n : Nat} (M : Mok N fns P lv n) (C : Cxt X N sc fs W P lv fns) (hk : sc.kind = .function) {x : Str} {v : Expr} {px pos : Pos} {i : Nat} {c : CE} (hi : N[i]? = some x) (h : swT sc x px v = true) (hm : mN N fns n sc fs c v = true) :
    ∃ te : TE, PS X (.Assign [.Name x px] v pos) (tAsg te (gName i)) ∧ ∀ τ H Q, tEN X.K X.mg P W c τ H Q → te τ H Q := by
  unfold swT at h
  split at h
  · rename_i elt gs scope p
    simp only [Bool.and_eq_true, Bool.not_eq_true', beq_iff_eq] at h
    obtain ⟨⟨h1, h2⟩, h3⟩ := h
    have hl := locB_ok h1
    unfold mN at hm
    split at hm
    · rename_i e; cases e
    · rename_i e; cases e
    · rename_i e
      cases e
      rename_i ce t it cs tg iter ifs
      simp only [Bool.and_eq_true] at hm
      obtain ⟨⟨⟨⟨⟨⟨m1, m2⟩, m3⟩, m4⟩, mw⟩, m5⟩, m6⟩ := hm
      refine ⟨_, ps_setLc (own := ownOf N (slotsT t)) (g := gT X.K t) (tt := tCs X.K X.mg P W0 cs) (te := tE X.K X.mg P W0 ce) C.cal (by rw [C.hN]; exact C.nd) (by rw [C.hN]; exact hi) (by rw [C.scp]; exact hl) (sw_true (by rw [C.scp]; exact hk) (by rw [C.scp]; exact hl) (by simpa using h2) h3) (M.i C m1)
        (by rw [C.hN, C.scp]; exact blkOk_by m3) (fun s H A cl fp => ?_) (fun s H A cl fp => ?_) (fun s H A cl fp => ?_) (notSet_ok m2), fun τ H Q q => comp_read (weak_ok mw) (ownOf_ok _) q⟩
      · have D := C.blk scope s H A cl fp
        exact s_tgt D.hN D.nd D.cal (fun x h => D.sto h) m4
      · have D := C.blk scope s H A cl fp
        split at m5
        · exact s_tests0
        · exact s_tests1 (M.b D m5)
        · cases m5
      · exact M.e (C.blk scope s H A cl fp) m6
    · rename_i e; cases e
    · rename_i e; cases e
    · cases hm
  · cases h
theorem tE_tEN {τ : L2.St} {H : Hp} {Q : VK} {c : CE} (q : tE X.K X.mg P W c τ H Q) : tEN X.K X.mg P W c τ H Q := by
  obtain ⟨B, m, σ, h, R, g⟩ := q
  exact ⟨B, m, σ, h, R, g.rel fun H' p v r => r.rf⟩
theorem asg_sub {x : Str} {px p2 : Pos} {y : Expr} {env : Env} (h : notSlice y = true) : ∀ v, assign (.Subscript (.Name x px) y p2) env v = (do
      let ov ← holding [v] (eval (.Name x px) env)
      let iv ← holding [v, ov] (eval y env)
      standAt p2
      holding [v, ov, iv] (PySem.setItem ov iv v)
      release [v, ov, iv] []) := by
  intro v
  cases y <;> first | (cases h; done) | rfl
structure Sok (N : List Str) (fns : Ns) (exs : List Str) (P : Pg) (lv n : Nat) : Prop where
  s : ∀ {X : Cx} {sc : Scope} {W : WX} {c : CS} {x : Stmt}, Cst X N sc W P lv fns exs → mS N fns exs n sc c x = true → PS X x (tS X.K X.mg P W c)
  ss : ∀ {X : Cx} {sc : Scope} {W : WX} {c : List CS} {x : List Stmt}, Cst X N sc W P lv fns exs → mSs N fns exs n sc c x = true → PSs X x (tSs X.K X.mg P W c)
theorem s_nopeSs {xs : List Stmt} {ss : List CS} : PSs X xs (tSs X.K X.mg P W (.nope :: ss)) := ⟨fun pins s τ H D I ⟨B, m, σ, h, R, g⟩ => by simp only [evSs, evS, seq_none] at g; exact g.elim⟩
theorem Sok.sSs {n : Nat} (S : Sok N fns exs P lv n) {c : List CS} {x : List Stmt} (C : Cst X N sc W P lv fns exs) (h : mSs N fns exs (n + 1) sc c x = true) : PSs X x (tSs X.K X.mg P W c) := by
  unfold mSs at h
  split at h
  · exact s_nil
  · exact s_nopeSs
  · rw [Bool.and_eq_true] at h
    exact s_cons (S.s C h.1) (S.ss C h.2)
  · cases h
theorem Sok.sS {n : Nat} (S : Sok N fns exs P lv n) {c : CS} {x : Stmt} (C : Cst X N sc W P lv fns exs) (h : mS N fns exs (n + 1) sc c x = true) : PS X x (tS X.K X.mg P W c) := by
  have M := mok N fns P lv n
  have C0 : Cxt X N sc sc W P lv fns := C.toCxt
  have hNd : X.N.Nodup := by rw [C.hN]; exact C.nd
  have u1 : X.A.units + 1 < cLine := by have := C0.u65; omega
  unfold mS at h
  split at h
  all_goals (try simp only [Bool.and_eq_true, Bool.or_eq_true, Bool.not_eq_true', decide_eq_true_eq, beq_iff_eq] at h)
  · exact s_pass
  · exact s_doc
  · exact s_break
  · exact s_cont
  · obtain ⟨⟨h1, h2⟩, h3⟩ := h
    obtain ⟨q1, q2⟩ := C0.sto h2
    split at h3
    · rename_i hsw
      exact s_asg0 (ps_set hNd (by rw [C.hN]; exact h1) q1 (M.e C0 h3) (swF_ok C0 hsw) q2) fun _ _ _ q => q
    · rw [Bool.and_eq_true] at h3
      obtain ⟨te, p1, p2⟩ := swT_ok M C0 C.knd h1 h3.1 h3.2
      exact s_asg0 p1 fun τ H Q q => p2 τ H Q (tE_tEN q)
  · obtain ⟨⟨⟨h1, h2⟩, h3⟩, h4⟩ := h
    obtain ⟨q1, q2⟩ := C0.sto h2
    rcases h3 with h3 | h3
    · exact s_new0 (ps_set hNd (by rw [C.hN]; exact h1) q1 (mN_ok M C0 h4) (swF_ok C0 h3) q2) fun _ _ _ q => q
    · obtain ⟨te, p1, p2⟩ := swT_ok M C0 C.knd h1 h3 h4
      exact s_new0 p1 p2
  · obtain ⟨⟨⟨h1, h2⟩, h3⟩, h4⟩ := h
    refine s_asgT (M.e C0 h4) (s_tgt C.hN C.nd C.cal (fun x h => C0.sto h) h1) (fun j z => by cases z) (sws1 h2) ?_ rfl
    rename_i v _
    cases v <;> first | (cases h3; done) | rfl
  · obtain ⟨⟨⟨⟨⟨⟨h1, h2⟩, h3⟩, h4⟩, h5⟩, h6⟩, h7⟩ := h
    have k4 := locB_ok h4
    have k5 := locB_ok h5
    rw [← C.scp] at k4 k5 h6
    exact s_par2 (ps_par C.cal hNd (by rw [C.hN]; exact h1) (by rw [C.hN]; exact h2) h3 k4 k5 (mP_ok M C0 h7) (parB_ok (by rw [C.scp]; exact C.knd) h6) (sws1 rfl))
  · obtain ⟨⟨⟨⟨⟨⟨⟨⟨⟨⟨h1, h2⟩, h3⟩, e1⟩, e2⟩, e3⟩, h4⟩, h5⟩, h6⟩, h7⟩, h8⟩ := h
    have k4 := locB_ok h4
    have k5 := locB_ok h5
    have k6 := locB_ok h6
    rw [← C.scp] at k4 k5 k6 h7
    exact s_par3 (ps_par3 C.cal hNd (by rw [C.hN]; exact h1) (by rw [C.hN]; exact h2) (by rw [C.hN]; exact h3) e1 e2 e3 k4 k5 k6 (mP_ok M C0 h8) (parB_ok (by rw [C.scp]; exact C.knd) h7) (sws1 rfl))
  · obtain ⟨⟨⟨h1, h2⟩, h3⟩, h4⟩ := h
    obtain ⟨⟨op, f⟩, e1, e2⟩ := Option.map_eq_some_iff.mp h3
    subst e2
    exact s_aug e1 hNd (by rw [C.hN]; exact h1) (C0.sto h2) (M.e C0 h4)
  · obtain ⟨⟨⟨⟨⟨⟨rfl, h1⟩, h2⟩, h3⟩, h4⟩, h5⟩, h6⟩ := h
    exact s_app (C0.var h1 h2 h3) (M.e C0 h6) h4 rfl (by simpa using h5)
  · obtain ⟨⟨⟨⟨⟨⟨rfl, h1⟩, h2⟩, h3⟩, h4⟩, h5⟩, h6⟩ := h
    exact s_ext (C0.var h1 h2 h3) (M.e C0 h6) h4 rfl (by simpa using h5)
  · obtain ⟨⟨⟨⟨⟨⟨h1, h2⟩, h3⟩, h4⟩, h5⟩, h6⟩, h7⟩ := h
    exact s_seti u1 (C0.var h1 h2 h3) (M.e C0 h6) (M.e C0 h7) (asg_sub h4) (sws1 h5)
  · obtain ⟨⟨⟨⟨⟨rfl, h2⟩, h3⟩, h4⟩, h5⟩, h6⟩ := h
    obtain ⟨k, hl, he⟩ := pe_callF (C.fnf _ (by simpa using h2)) C.rm C.tk (C0.gl h3) (okN_ok h4).1 (mP_ok M C0 h6) h5
    exact s_callN hl (ps_expr he rfl)
  · obtain ⟨⟨⟨⟨⟨⟨⟨h0, h1⟩, rfl⟩, h2⟩, h3⟩, h4⟩, h5⟩, h6⟩ := h
    obtain ⟨q1, q2⟩ := C0.sto h1
    obtain ⟨k, hl, he⟩ := pe_callF (C.fnf _ (by simpa using h2)) C.rm C.tk (C0.gl h3) (okN_ok h4).1 (mP_ok M C0 h6) h5
    exact s_callA hl (ps_set hNd (by rw [C.hN]; exact h0) q1 he rfl q2)
  · exact s_expr (M.e C0 h.2) (sw_no h.1)
  · obtain ⟨⟨h1, h2⟩, h3⟩ := h
    exact s_retL (C0.var h1 h2 h3)
  · exact s_ret (M.e C0 h.2) h.1
  · exact s_retN
  · exact s_if (M.b C0 h.1.1) (S.ss C h.1.2) (S.ss C h.2)
  · obtain ⟨⟨⟨⟨h1, h2⟩, h3⟩, hw⟩, h4⟩ := h
    exact s_for (weak_ok (by simpa only [Bool.or_eq_true, Bool.not_eq_true'] using hw)) C.po C.cal (M.i C0 h1) (s_tgt C.hN C.nd C.cal (fun x h => C0.sto h) h3) (S.ss C h4) (notSet_ok h2)
  · exact s_while C.po (M.b C0 h.1) (S.ss C h.2)
  · obtain ⟨⟨⟨rfl, h1⟩, h2⟩, h3⟩ := h
    obtain ⟨A, bmB, B, newId, initId, F, q, gC, kC, r⟩ := C.exc _ (by simpa using h1)
    exact s_raise C.cal C.tk (pmk_own F q gC kC r (C0.gl h2) (okN_ok h3).1) gC
  · obtain ⟨⟨⟨⟨⟨rfl, h1⟩, h2⟩, h3⟩, h4⟩, h5⟩ := h
    obtain ⟨A, bmB, B, newId, initId, F, q, gC, kC, r⟩ := C.exc _ (by simpa using h1)
    refine s_try C.stk C.frm ⟨C0.gl h2, (okN_ok h3).1, .inl gC⟩ C.tk (fun y b cls e1 e2 => C.sub _ _ _ _ _ e1 e2 gC) (fun W' pn xe tk po => S.ss (C.tr pn xe tk po) h4) fun a oe cls d pn _ _ => ?_
    exact mH_ok (X := X.suite a ((a, oe) :: pn)) ⟨C.hN, C.nd, C.scp, C.fnl⟩ h5
  · exact s_nopeS
  · obtain ⟨⟨⟨⟨⟨rfl, h1⟩, h2⟩, h3⟩, h4⟩, h5⟩ := h
    exact s_setf C.xf (C0.var h1 h2 h3) (M.e C0 h5) (sw_no h4)
  · obtain ⟨⟨⟨⟨h1, h2⟩, h3⟩, h4⟩, h5⟩ := h
    exact s_forO C.po C.cal (C0.var h1 h2 h3) (s_tgt C.hN C.nd C.cal (fun x h => C0.sto h) h4) (S.ss C h5) (notSet_ok rfl)
  · exact s_retO (mN_ok M C0 h)
  · cases h
end
theorem sok (N : List Str) (fns : Ns) (exs : List Str) (P : Pg) (lv : Nat) : ∀ n, Sok N fns exs P lv n
  | 0 => ⟨fun _ h => (by unfold mS at h; cases h), fun _ h => (by unfold mSs at h; cases h)⟩
  | n + 1 =>
    have S := sok N fns exs P lv n
    ⟨fun C h => S.sS C h, fun C h => S.sSs C h⟩
end Ev

set_option Elab.async false
set_option linter.all false
set_option maxRecDepth 100000
set_option maxHeartbeats 4000000
/-! Ev20: a def keeps the evaluator's promise; a table of defs. -/
namespace Ev
open PySem PySem.Spec PyProof.Rows L2
theorem rss_at {K : PySem.W.Frag} {H : Hp} {F : Fb} {m : List Addr} : ∀ {ss : List SV} {vs : List V} {i : Nat} {s : SV}, RSs K H F m ss vs → ss[i]? = some s → ∃ v, vs[i]? = some v ∧ RS K H F m s v
  | [], _, i, s, _, e => by simp at e
  | t :: ss, _, 0, s, h, e => by
    obtain ⟨v, r, rfl, h1, _⟩ := h
    cases e
    exact ⟨v, rfl, h1⟩
  | t :: ss, _, i + 1, s, h, e => by
    obtain ⟨v, r, rfl, _, h2⟩ := h
    obtain ⟨w, e1, e2⟩ := rss_at (i := i) h2 (by simpa using e)
    exact ⟨w, by simpa using e1, e2⟩
theorem start_rl {K : PySem.W.Frag} {H : Hp} {B : Fb} {m : List Addr} {as : List SV} {h : OH} {vs : List V} {N : List Str} {d : Df} (R : Rh K H B m h) (rs : RSs K H (fb B m) m as vs) (hn : d.n = N.length) : Rl K H B m (Ev.start d as) h (L2.start N vs) := by
  have hl := RSs.length rs
  refine ⟨R, by simp only [Ev.start, L2.start, List.length_append, List.length_map, List.length_replicate, hn, hl], fun i s e => ?_⟩
  unfold Ev.start at e
  by_cases hi : i < as.length
  · rw [List.getElem?_append_left (by simpa using hi), List.getElem?_map] at e
    obtain ⟨s', e1, e2⟩ := Option.map_eq_some_iff.mp e
    cases e2
    obtain ⟨v, e3, e4⟩ := rss_at rs e1
    refine ⟨v, ?_, e4⟩
    unfold L2.start
    rw [List.getElem?_append_left (by simpa [← hl] using hi), List.getElem?_map, e3]
    rfl
  · rw [List.getElem?_append_right (by simpa using hi)] at e
    rw [List.getElem?_replicate] at e
    split at e <;> cases e
theorem run_ok {K : PySem.W.Frag} {mg : Str → Option Value} {p : Pg} {d : Df} {N ps : List Str} {vs : List V} {H : Hp} {Q : VK} {E : XK} (hn : d.n = N.length) (hp : d.ps = ps.length) (hd : d.dfl = []) (h : spD K mg ps.length (run p d) vs H Q E) :
    tSs K mg p (fun cls d _ H => E cls d H) d.body { nx := fun _ H' => Q .non H', rt := Q } (L2.start N vs) H := by
  obtain ⟨hl, B, m, as, oh, R, rs, g⟩ := h
  have hal : as.length = ps.length := by rw [RSs.length rs]; exact hl
  have hf : fill d as = some as := by
    unfold fill
    rw [if_pos (by rw [hd, hp, hal]; simp), hd]
    simp
  refine ⟨B, m, Ev.start d as, oh, start_rl R rs hn, ?_⟩
  unfold run at g
  rw [hf] at g
  dsimp only at g
  cases q : evSs p d.body (Ev.start d as) oh with
  | none => rw [q] at g; exact g
  | some r =>
    rw [q] at g
    obtain ⟨fl, σ', h'⟩ := r
    cases fl with
    | nx => exact fun τ' H' m' hp hn x R' => g .non H' m' hp hn x R'.toRh rfl
    | ret s => exact fun τ' H' m' hp hn x R' v rv => g v H' m' hp hn x R'.toRh rv
    | exc x =>
      intro τ' H' m' hp hn x R' cls d rx
      refine g cls d H' x (rx.weak fun b hb => ?_)
      rcases hb with hb | hb
      · exact .inl hb
      · exact .inr (hp.subset hb)
    | bk => exact g.elim
    | ct => exact g.elim
/-- what is around a table -/
structure Ard (P : Program) (w : World) (K : PySem.W.Frag) (mg : Str → Option Value) (esub : Str → Str → Option Bool) (exs : List Str) : Prop where
  blt : ∀ x ∈ bltNames, mg x = none
  exc : ∀ c ∈ exs, ∃ (C : Addr) (bmB : List Value) (B newId initId : String), ExcBaseFacts B newId initId bmB ∧ PySem.W.excIn K C bmB newId = true ∧ mg c = some (.ref C) ∧ PySem.W.keepIn K (.ref C) = true ∧
    PySem.W.subIn K (.ref C) (.type "BaseException") = some true ∧ PySem.W.typeIn K (.ref C) = some (.type "type")
  sub : ∀ y x b cy cx, esub y x = some b → mg y = some cy → mg x = some cx → PySem.W.exmOne K cy cx = some b
/-- a def of the program: its key, its name, where it stands, its slots' names, its parameters, the evaluator's form, its text, its defaults -/
structure Ent where
  nm : Str
  fnm : Str
  at_ : Str × Option Str
  N : List Str
  ps : List Str
  df : Df
  st : Stmt
  dfl : List PV := []
/-- the program with one more def -/
def Pg.add (p : Pg) (x : Str) (d : Df) : Pg := { p with fn := fun f as h => if f = x then run p d as h else p.fn f as h }
def pgOf (p0 : Pg) : List Ent → Pg
  | [] => p0
  | e :: r => (pgOf p0 r).add e.nm e.df
theorem pgOf_esub (p0 : Pg) : ∀ es, (pgOf p0 es).esub = p0.esub
  | [] => rfl
  | e :: r => pgOf_esub p0 r
theorem pgOf_cls (p0 : Pg) : ∀ es, (pgOf p0 es).cls = p0.cls
  | [] => rfl
  | e :: r => pgOf_cls p0 r
theorem pgOf_key (p0 : Pg) : ∀ es, (pgOf p0 es).key = p0.key
  | [] => rfl
  | e :: r => pgOf_key p0 r
theorem pgOf_dfl (p0 : Pg) : ∀ es, (pgOf p0 es).dfl = p0.dfl
  | [] => rfl
  | e :: r => pgOf_dfl p0 r
theorem pgOf_con (p0 : Pg) : ∀ es, (pgOf p0 es).con = p0.con
  | [] => rfl
  | e :: r => pgOf_con p0 r
theorem pgOf_none (p0 : Pg) (h0 : ∀ f as h, p0.fn f as h = none) {f : Str} : ∀ {es : List Ent}, f ∉ es.map (·.nm) → ∀ as h, (pgOf p0 es).fn f as h = none
  | [], _, as, h => h0 f as h
  | e :: r, n, as, h => by
    have n1 : f ≠ e.nm := fun z => n (by simp [z])
    show (if f = e.nm then _ else _) = _
    rw [if_neg n1]
    exact pgOf_none p0 h0 (fun z => n (by simp at z ⊢; exact .inr z)) as h
def scopeB (N ps : List Str) (sc : Scope) : Bool :=
  (match sc.kind with | .function => true | _ => false) && !sc.isCoroutine && !sc.isGenerator && decide N.Nodup && decide (N.take ps.length = ps) && (ps.all fun x => visB sc x && !(match sc.names.lookup x with | some .free => true | _ => false)) && (sc.names.all fun y => decide (y.2 ≠ .free))
theorem scopeB_ok {N ps : List Str} {sc : Scope} (h : scopeB N ps sc = true) : FnScope N ps sc := by
  unfold scopeB at h
  simp only [Bool.and_eq_true, Bool.not_eq_true', decide_eq_true_eq, List.all_eq_true] at h
  obtain ⟨⟨⟨⟨⟨⟨h1, h2⟩, h3⟩, h4⟩, h5⟩, h6⟩, h7⟩ := h
  refine ⟨?_, h2, h3, h4, h5, fun x hx => ?_, h7⟩
  · split at h1
    · assumption
    · cases h1
  · obtain ⟨q1, q2⟩ := h6 x hx
    rcases visB_ok q1 with q | q | q
    · exact .inl q
    · exact .inr q
    · rw [q] at q2; cases q2
/-- written defaults: numbers, texts, truth values, None -/
def dvP : PV → He.Dv
  | .bl b => .bl b
  | .int i => .int i
  | .str x => .str x
  | _ => .non
def scal : PV → Bool
  | .non | .bl _ | .int _ | .str _ => true
  | _ => false
def Ent.dvs (e : Ent) : List V := e.dfl.map fun p => (dvP p).v []
theorem scal_rv {K : PySem.W.Frag} {H : Hp} {F : Fb} : ∀ {ps : List PV}, ps.all scal = true → RVs K H F ps (ps.map fun p => (dvP p).v [])
  | [], _ => rfl
  | p :: ps, h => by
    rw [List.all_cons, Bool.and_eq_true] at h
    refine ⟨_, _, rfl, ?_, scal_rv h.2⟩
    cases p <;> first | rfl | (cases h.1; done)
abbrev Ent.fun_ (e : Ent) (K : PySem.W.Frag) (f : Addr) (fd : FuncData) : Prop := FunD K e.fnm e.nm (defArgs e.st) (defBody e.st) (defScope e.st) e.dvs [] f fd
/-- how it may be called -/
def Ent.bnds (e : Ent) : Prop := ∀ (K : PySem.W.Frag) (f : Addr) (fd : FuncData), e.fun_ K f fd → ∀ j, j ≤ e.dfl.length → ∃ us, Vals (e.dvs.drop j) us ∧ Binds K fd e.ps us
/-- what the head tells of a class, K alone -/
structure ClH (p0 : Pg) (K : PySem.W.Frag) (mg : Str → Option Value) (c : Str) (ss : List Str) : Prop where
  mg : mg c = some (.ref (He.ga K c))
  sc : SlX.SCls K (He.ga K c)
  si : SlX.SIsi K (He.ga K c)
  slot : ∀ f i, ixOf f ss = some i → ∃ p, SlX.Slot1 K (He.ga K c) f p i
  kitT : ∀ t ∈ ["NoneType", "bool", "int", "str", "tuple", "list", "dict"], PySem.W.kitOne K (.type t) (.ref (He.ga K c)) = some false
  ne : ∀ k, p0.key c "__eq__" = some k → ∀ g, PySem.W.findIn K (.ref (He.ga K c)) "__eq__" = some (some (.ref g)) → neIn K (He.ga K c) g = true
  kit : ∀ c' ss', p0.cls c' = some ss' → PySem.W.kitOne K (.ref (He.ga K c)) (.ref (He.ga K c')) = some (decide (c = c')) ∧ PySem.W.notFirst K (He.ga K c) (.ref (He.ga K c')) = true
/-- what the head tells -/
structure TabH (p0 : Pg) (all : List Ent) (K : PySem.W.Frag) (mg : Str → Option Value) : Prop where
  fn0 : ∀ f as h, p0.fn f as h = none
  ent : ∀ e ∈ all, ∃ fd, e.fun_ K (He.fAd K e.at_) fd
  glo : ∀ e ∈ all, e.at_.2 = none → mg e.nm = some (.ref (He.fAd K e.at_))
  bnd : ∀ e ∈ all, e.bnds
  sc : ∀ e ∈ all, e.dfl.all scal = true
  cls : ∀ c ss, p0.cls c = some ss → ClH p0 K mg c ss
  key : ∀ c m k, p0.key c m = some k → (∃ ss, p0.cls c = some ss) ∧ ∃ e ∈ all, e.nm = k ∧ He.fAd K e.at_ = He.ma K (He.ga K c) m ∧ Meth K (He.ga K c) m (He.ma K (He.ga K c) m) ∧ (m = "__init__" → Mk K (He.ga K c) (He.ma K (He.ga K c) m))
  con : ∀ x p, p0.con x = some p → ∃ v u, mg x = some u ∧ RelV v u ∧ ∀ H F, RV K H F p v
  dfl : ∀ e ∈ all, ∀ ds, p0.dfl e.nm ds = true → ∃ j, j ≤ e.dfl.length ∧ ds = e.dfl.drop j
  nd : ∀ e ∈ all, ∀ e' ∈ all, e.nm = e'.nm → e = e'
theorem fn_none {P : Program} {w : World} {K : PySem.W.Frag} {mg : Str → Option Value} {base : Heap} {CX : CXT} {f : Addr} {fd : FuncData} {ps : List Str} {D : List SV → OH → R (SV × OH)} {k : Nat} (h : ∀ as h, D as h = none) : FnOk P w K mg base CX k f fd ps (spD K mg ps.length D) :=
  ⟨fun vs H Q E q => q.1, fun A outer s H args us vs Q E _ _ _ _ q => by
    obtain ⟨_, B, m, as, oh, _, _, g⟩ := q
    rw [h] at g
    exact g.elim⟩
/-- a def at its level, and how it may be called -/
def FnT (P : Program) (w : World) (K : PySem.W.Frag) (mg : Str → Option Value) (base : Heap) (p0 : Pg) (r : List Ent) (e : Ent) : Prop :=
  ∃ fd, e.fun_ K (He.fAd K e.at_) fd ∧ FnOk P w K mg base (L2.CX P w) (2 * r.length) (He.fAd K e.at_) fd e.ps (spD K mg e.ps.length ((pgOf p0 r).fn e.nm)) ∧ ∀ as h, (pgOf p0 r).fn e.nm as h ≠ none → as.length = e.ps.length
theorem FnT.fnA {X : Cx} {p0 : Pg} {all r : List Ent} {e : Ent} {lv : Nat} (T : TabH p0 all X.K X.mg) (he : e ∈ all) (h : FnT X.prog X.w X.K X.mg X.base p0 r e) (hl : 2 * r.length ≤ lv) : FnA X (pgOf p0 r) lv e.nm (He.fAd X.K e.at_) := by
  obtain ⟨fd, F, ok, ar⟩ := h
  refine ⟨fd, e.ps, 2 * r.length, hl, ok, ?_, ar, fun ds hd => ?_⟩
  · obtain ⟨us, hv, hb⟩ := T.bnd e he X.K _ fd F e.dfl.length (Nat.le_refl _)
    have hz : e.dvs.drop e.dfl.length = [] := by
      apply List.drop_eq_nil_of_le
      simp [Ent.dvs]
    rw [hz] at hv
    cases hv
    exact hb
  · rw [pgOf_dfl] at hd
    obtain ⟨j, hj, rfl⟩ := T.dfl e he ds hd
    obtain ⟨us, hv, hb⟩ := T.bnd e he X.K _ fd F j hj
    refine ⟨us, e.dvs.drop j, hb, hv, fun H F => ?_⟩
    have := scal_rv (K := X.K) (H := H) (F := F) (T.sc e he)
    exact this.drop j
theorem xf_of {X : Cx} {p0 : Pg} {all r : List Ent} {lv : Nat} (T : TabH p0 all X.K X.mg) (ih : ∀ e ∈ all, FnT X.prog X.w X.K X.mg X.base p0 r e) (hl : 2 * r.length + 1 ≤ lv) : XF X (pgOf p0 r) lv := by
  refine ⟨fun c ss e => ?_, fun x p e => T.con x p (by rw [pgOf_con] at e; exact e), fun c m k e => ?_⟩
  · rw [pgOf_cls] at e
    obtain ⟨a1, a2, a3, a4, a5, a6, a7⟩ := T.cls c ss e
    refine ⟨a1, a2, a3, a4, fun m k e => ?_, fun k e => ?_, a5, fun k e => a6 k (by rw [pgOf_key] at e; exact e), fun c' ss' e => a7 c' ss' (by rw [pgOf_cls] at e; exact e)⟩
    · rw [pgOf_key] at e
      obtain ⟨_, en, hen, rfl, ea, hm, _⟩ := T.key c m k e
      refine ⟨_, 2 * r.length, hl, hm, ?_⟩
      have := (ih en hen).fnA T hen (Nat.le_refl _)
      rw [ea] at this
      exact this
    · rw [pgOf_key] at e
      obtain ⟨_, en, hen, rfl, ea, hm, hk⟩ := T.key c _ k e
      refine ⟨_, 2 * r.length, hl, hk rfl, ?_⟩
      have := (ih en hen).fnA T hen (Nat.le_refl _)
      rw [ea] at this
      exact this
  · rw [pgOf_key] at e
    rw [pgOf_cls]
    exact (T.key c m k e).1
theorem fn_ok {P : Program} {w : World} {K : PySem.W.Frag} {mg : Str → Option Value} {base : Heap} {e : Ent} {f : Addr} {fd : FuncData} {n : Nat} {p0 : Pg} {all r : List Ent} {fns : Ns} {exs : List Str} (F : e.fun_ K f fd) (S : FnScope e.N e.ps (defScope e.st)) (hn : e.df.n = e.N.length) (hp : e.df.ps = e.ps.length) (hd : e.df.dfl = [])
    (A : Ard P w K mg p0.esub exs) (T : TabH p0 all K mg) (ih : ∀ e ∈ all, FnT P w K mg base p0 r e) (hf : ∀ g ∈ fns.fns, ∃ en ∈ all, en.nm = g ∧ en.at_.2 = none) (hcn : ∀ x ∈ fns.cons, (p0.con x).isSome = true) (hcl : ∀ c ∈ fns.clss, ∃ ss k, p0.cls c = some ss ∧ p0.key c "__init__" = some k)
    (hc : mSs e.N fns exs n (defScope e.st) e.df.body (defBody e.st) = true) : FnOk P w K mg base (L2.CX P w) (2 * r.length + 2) f fd e.ps (spD K mg e.ps.length (run (pgOf p0 r) e.df)) := by
  refine F.ok S (fun vs H Q E h => h.1) fun cdv A' outer s H vs Q E hr h => ⟨tSs K mg (pgOf p0 r) (fun cls d _ H => E cls d H) e.df.body, ?_, run_ok hn hp hd h⟩
  refine (sok e.N fns exs (pgOf p0 r) (2 * r.length + 1) n).ss (X := cxOf (L2.CX P w) P w K mg base e.N e.nm (defScope e.st) f cdv A' outer s H E) (sc := defScope e.st) ?_ hc
  have xf : XF (cxOf (L2.CX P w) P w K mg base e.N e.nm (defScope e.st) f cdv A' outer s H E) (pgOf p0 r) (2 * r.length + 1) := xf_of (X := cxOf (L2.CX P w) P w K mg base e.N e.nm (defScope e.st) f cdv A' outer s H E) T ih (Nat.le_refl _)
  exact {
    hN := rfl
    nd := S.nd
    scp := rfl
    cal := rfl
    rm := hr
    tk := takes_of rfl rfl rfl rfl
    fnl := fun _ _ => rfl
    blt := A.blt
    fnf := fun g hg => by
      obtain ⟨en, hen, rfl, ha⟩ := hf g hg
      refine ⟨_, (ih en hen).fnA (X := cxOf (L2.CX P w) P w K mg base e.N e.nm (defScope e.st) f cdv A' outer s H E) T hen (Nat.le_succ _), T.glo en hen ha, ?_⟩
      obtain ⟨fd', F'⟩ := T.ent en hen
      exact F'.kp
    xf := xf
    con := fun x hx => by rw [pgOf_con]; exact hcn x hx
    cls := fun c hc => by rw [pgOf_cls, pgOf_key]; exact hcl c hc
    po := passes_of rfl
    stk := rfl
    frm := rfl
    knd := S.kind
    exc := fun c hc => by
      obtain ⟨C, bmB, B, newId, initId, h1, h2, h3, h4, h5, h6⟩ := A.exc c hc
      exact ⟨C, bmB, B, newId, initId, h1, h2, h3, h4, raises_own h5 h6⟩
    sub := by rw [pgOf_esub]; exact A.sub }
/-- the names of plain defs -/
def plainNs : List Ent → List Str
  | [] => []
  | e :: r => match e.at_.2 with
    | none => e.nm :: plainNs r
    | some _ => plainNs r
theorem plainNs_ok {g : Str} : ∀ {r : List Ent}, g ∈ plainNs r → ∃ en ∈ r, en.nm = g ∧ en.at_.2 = none
  | e :: r, h => by
    unfold plainNs at h
    split at h
    · rename_i q
      rcases List.mem_cons.mp h with rfl | h
      · exact ⟨e, List.mem_cons_self, rfl, q⟩
      · obtain ⟨en, h1, h2⟩ := plainNs_ok h
        exact ⟨en, List.mem_cons_of_mem _ h1, h2⟩
    · obtain ⟨en, h1, h2⟩ := plainNs_ok h
      exact ⟨en, List.mem_cons_of_mem _ h1, h2⟩
def entB (exs cons clss : List Str) (r : List Ent) (e : Ent) : Bool := scopeB e.N e.ps (defScope e.st) && decide (e.df.n = e.N.length) && decide (e.df.ps = e.ps.length) && e.df.dfl.isEmpty && !((r.map (·.nm)).contains e.nm) && mSs e.N ⟨plainNs r, cons, clss⟩ exs 200 (defScope e.st) e.df.body (defBody e.st)
def tabB (exs cons clss : List Str) : List Ent → Bool
  | [] => true
  | e :: r => entB exs cons clss r e && tabB exs cons clss r
theorem run_len {p : Pg} {d : Df} {as : List SV} {h : OH} (hd : d.dfl = []) (hr : run p d as h ≠ none) : as.length = d.ps := by
  unfold run fill at hr
  by_cases c : as.length ≤ d.ps ∧ d.ps ≤ as.length + d.dfl.length
  · rw [hd] at c
    simp at c
    omega
  · rw [if_neg c] at hr
    exact absurd rfl hr
theorem tab_ok {P : Program} {w : World} {K : PySem.W.Frag} {mg : Str → Option Value} {base : Heap} {p0 : Pg} {exs cons clss : List Str} {all : List Ent} (A : Ard P w K mg p0.esub exs) (T : TabH p0 all K mg) (hcn : ∀ x ∈ cons, (p0.con x).isSome = true) (hcl : ∀ c ∈ clss, ∃ ss k, p0.cls c = some ss ∧ p0.key c "__init__" = some k) :
    ∀ (r : List Ent), (∀ e ∈ r, e ∈ all) → tabB exs cons clss r = true → ∀ e ∈ all, FnT P w K mg base p0 r e
  | [], _, _, e, he => by
    obtain ⟨fd, F⟩ := T.ent e he
    exact ⟨fd, F, fn_none fun as h => T.fn0 e.nm as h, fun as h z => absurd (T.fn0 e.nm as h) z⟩
  | e0 :: r, hs, hb, e, he => by
    simp only [tabB, Bool.and_eq_true] at hb
    have ih := tab_ok (base := base) A T hcn hcl r (fun x hx => hs x (List.mem_cons_of_mem _ hx)) hb.2
    have hB := hb.1
    unfold entB at hB
    simp only [Bool.and_eq_true, Bool.not_eq_true', decide_eq_true_eq] at hB
    obtain ⟨⟨⟨⟨⟨h1, h2⟩, h3⟩, h4⟩, h5⟩, h6⟩ := hB
    have hd : e0.df.dfl = [] := List.isEmpty_iff.mp h4
    have h0 : e0 ∈ all := hs e0 List.mem_cons_self
    by_cases c : e.nm = e0.nm
    · have ee := T.nd e he e0 h0 c
      subst ee
      obtain ⟨fd, F⟩ := T.ent e he
      have ok := fn_ok (r := r) (fns := ⟨plainNs r, cons, clss⟩) F (scopeB_ok h1) h2 h3 hd A T ih (fun g hg => by
        obtain ⟨en, q1, q2⟩ := plainNs_ok (show g ∈ plainNs r from hg)
        exact ⟨en, hs en (List.mem_cons_of_mem _ q1), q2⟩) hcn hcl h6
      have efn : (pgOf p0 (e :: r)).fn e.nm = run (pgOf p0 r) e.df := by
        funext as h
        show (if e.nm = e.nm then _ else _) = _
        rw [if_pos rfl]
      refine ⟨fd, F, ?_, fun as h q => ?_⟩
      · rw [efn]
        have : 2 * (e :: r).length = 2 * r.length + 2 := by simp only [List.length_cons]; omega
        rw [this]; exact ok
      · rw [efn] at q
        rw [← h3]; exact run_len hd q
    · obtain ⟨fd, F, ok, ar⟩ := ih e he
      have efn : (pgOf p0 (e0 :: r)).fn e.nm = (pgOf p0 r).fn e.nm := by
        funext as h
        show (if e.nm = e0.nm then _ else _) = _
        rw [if_neg c]
      refine ⟨fd, F, ?_, ?_⟩
      · rw [efn]; exact ok.mono (by simp only [List.length_cons]; omega)
      · rw [efn]; exact ar
/-- a def that lets nothing out -/
def sp0 (sp : Sp) : Sp := fun vs H Q _ => sp vs H Q fun _ _ _ => False
theorem FnOk.cx0 {P : Program} {w : World} {K : PySem.W.Frag} {mg : Str → Option Value} {base : Heap} {k : Nat} {f : Addr} {fd : FuncData} {ps : List Str} {sp : Sp} (F : FnOk P w K mg base (L2.CX P w) k f fd ps sp) : FnOk P w K mg base L2.CX0 k f fd ps (sp0 sp) :=
  ⟨fun vs H Q E q => F.len vs H Q _ q, fun A outer s H args us vs Q E hr he hb hv hs => codeAny_mono (F.run A outer s H args us vs Q _ hr he hb hv hs) fun r s' q => by
    cases r with
    | error e =>
      obtain ⟨_, _, _, _, _, _, _, _, _, _, _, _, z⟩ := q
      exact z.elim
    | ok fl => cases fl <;> exact q⟩
/-- the law's call -/
theorem law_sp {K : PySem.W.Frag} {mg : Str → Option Value} {D : List SV → OH → R (SV × OH)} {H : Hp} {a : Addr} {ns : List Int} {E : XK} (hl : ns.length ≤ sizeLine) (hS : SqL K H a (ns.map V.int)) (hm : ∃ h', D [.d true (.lst (ns.map .int))] [] = some (.ok (.d false (.bl true), h'))) :
    spD K mg 1 D [.ref a] H (fun v _ => v = .bl true) E := by
  obtain ⟨h', e⟩ := hm
  refine ⟨rfl, fun _ => False, [], [.d true (.lst (ns.map .int))], [], ⟨fun b h => h.elim, fun a z => (by cases z), List.nodup_nil, rfl, fun n a o z => (by simp at z)⟩, ⟨.ref a, [], rfl, ?_, rfl⟩, ?_⟩
  · have rt : RT K H (fb (fun _ => False) []) (.lst (ns.map .int)) (.ref a) := ⟨a, ns.map V.int, rfl, hS, by rw [List.length_map]; exact hl, RVs.ints ns⟩
    exact RT.bor0 (fun b h => h) rt
  · rw [e]
    exact fun v H' m' _ _ _ _ rv => rv
end Ev

set_option Elab.async false
set_option linter.all false
set_option maxRecDepth 100000
set_option maxHeartbeats 1000000
/-! EvH: what the head tells, as one truth value over a part of the heap. -/
namespace Ev
open PySem PySem.Spec PyProof.Rows L2
/-- look up by a name -/
def look {α : Type} (x : Str) : List (Str × α) → Option α
  | [] => none
  | (y, a) :: r => if y = x then some a else look x r
theorem look_mem {α : Type} {x : Str} {a : α} : ∀ {l : List (Str × α)}, look x l = some a → (x, a) ∈ l
  | (y, b) :: r, h => by
    unfold look at h
    split at h
    · rename_i e; cases h; rw [e]; exact List.mem_cons_self
    · exact List.mem_cons_of_mem _ (look_mem h)
mutual
/-- a value among what is kept for good -/
def pvB (K : PySem.W.Frag) : PV → Value → Bool
  | .non, .none => true
  | .bl b, .bool c => b == c
  | .int i, .int j _ => decide (i = j)
  | .str x, .str y _ => decide (x = y)
  | .tup xs, .ref a => (match K.lookup a with
    | some ⟨.type c, none, .seq its _, _⟩ => decide (c = "tuple") && (decide (its.size ≤ sizeLine) && pvsB K xs its.toList)
    | _ => false)
  | _, _ => false
def pvsB (K : PySem.W.Frag) : List PV → List Value → Bool
  | [], [] => true
  | p :: ps, u :: us => pvB K p u && pvsB K ps us
  | _, _ => false
end
mutual
theorem pvB_ok {K : PySem.W.Frag} : ∀ {p : PV} {u : Value}, pvB K p u = true → ∃ v, RelV v u ∧ ∀ H F, RV K H F p v
  | .non, u, h => by
    cases u <;> first | exact ⟨.non, rfl, fun _ _ => rfl⟩ | (simp only [pvB] at h; cases h)
  | .bl b, u, h => by
    cases u with
    | bool c =>
      have e : b = c := by simpa only [pvB, beq_iff_eq] using h
      exact ⟨.bl b, by rw [e]; rfl, fun _ _ => rfl⟩
    | _ => simp only [pvB] at h; cases h
  | .int i, u, h => by
    cases u with
    | int j t =>
      have e : i = j := by simpa only [pvB, decide_eq_true_eq] using h
      exact ⟨.int i, ⟨t, by rw [e]⟩, fun _ _ => rfl⟩
    | _ => simp only [pvB] at h; cases h
  | .str x, u, h => by
    cases u with
    | str y t =>
      have e : x = y := by simpa only [pvB, decide_eq_true_eq] using h
      exact ⟨.str x, ⟨t, by rw [e]⟩, fun _ _ => rfl⟩
    | _ => simp only [pvB] at h; cases h
  | .tup xs, u, h => by
    cases u with
    | ref a =>
      simp only [pvB] at h
      split at h
      · rename_i c its n sl q
        simp only [Bool.and_eq_true, decide_eq_true_eq] at h
        obtain ⟨rfl, hz, hx⟩ := h
        obtain ⟨vs, r, rv⟩ := pvsB_ok hx
        refine ⟨.ref a, rfl, fun H F => ⟨a, vs, rfl, .inr ⟨_, its, n, q, rfl, rfl, rfl, hz, r⟩, ?_, rv H F⟩⟩
        rw [r.length, Array.length_toList]; exact hz
      · cases h
    | _ => simp only [pvB] at h; cases h
  | .lst _, u, h => by cases u <;> (simp only [pvB] at h; cases h)
  | .dct _ _, u, h => by cases u <;> (simp only [pvB] at h; cases h)
  | .ins _ _, u, h => by cases u <;> (simp only [pvB] at h; cases h)
  | .ty _, u, h => by cases u <;> (simp only [pvB] at h; cases h)
  | .cl _, u, h => by cases u <;> (simp only [pvB] at h; cases h)
theorem pvsB_ok {K : PySem.W.Frag} : ∀ {ps : List PV} {us : List Value}, pvsB K ps us = true → ∃ vs, Vals vs us ∧ ∀ H F, RVs K H F ps vs
  | [], [], _ => ⟨[], .nil, fun _ _ => rfl⟩
  | p :: ps, u :: us, h => by
    simp only [pvsB, Bool.and_eq_true] at h
    obtain ⟨v, r1, v1⟩ := pvB_ok h.1
    obtain ⟨vs, r2, v2⟩ := pvsB_ok h.2
    exact ⟨v :: vs, .cons r1 r2, fun H F => ⟨v, vs, rfl, v1 H F, v2 H F⟩⟩
  | [], _ :: _, h => by simp only [pvsB] at h; cases h
  | _ :: _, [], h => by simp only [pvsB] at h; cases h
end
/-- the program's classes with their slots, its methods with their keys, its constants -/
structure HS where
  clss : List (Str × List Str)
  meths : List ((Str × Str) × Str)
  cons : List (Str × PV)
def key2 (c m : Str) : List ((Str × Str) × Str) → Option Str
  | [] => none
  | ((d, n), k) :: r => if d = c ∧ n = m then some k else key2 c m r
theorem key2_mem {c m k : Str} : ∀ {l : List ((Str × Str) × Str)}, key2 c m l = some k → ((c, m), k) ∈ l
  | ((d, n), j) :: r, h => by
    unfold key2 at h
    split at h
    · rename_i e; cases h; rw [e.1, e.2]; exact List.mem_cons_self
    · exact List.mem_cons_of_mem _ (key2_mem h)
def samP : PV → PV → Bool
  | .non, .non => true
  | .bl a, .bl b => a == b
  | .int i, .int j => decide (i = j)
  | .str x, .str y => decide (x = y)
  | _, _ => false
def samPs : List PV → List PV → Bool
  | [], [] => true
  | x :: xs, y :: ys => samP x y && samPs xs ys
  | _, _ => false
theorem samP_eq : ∀ {x y : PV}, samP x y = true → x = y := by
  intro x y h
  cases x <;> cases y <;> simp only [samP] at h <;> first | rfl | (cases h; done) | (congr 1; first | exact of_decide_eq_true h | exact beq_iff_eq.mp h)
theorem samPs_eq : ∀ {xs ys : List PV}, samPs xs ys = true → xs = ys
  | [], [], _ => rfl
  | x :: xs, y :: ys, h => by
    simp only [samPs, Bool.and_eq_true] at h
    rw [samP_eq h.1, samPs_eq h.2]
  | [], _ :: _, h => by simp only [samPs] at h; cases h
  | _ :: _, [], h => by simp only [samPs] at h; cases h
def sufB (ds : List PV) : List PV → Bool
  | [] => samPs ds []
  | x :: r => samPs ds (x :: r) || sufB ds r
theorem sufB_ok {ds : List PV} : ∀ {l : List PV}, sufB ds l = true → ∃ j, j ≤ l.length ∧ ds = l.drop j
  | [], h => ⟨0, Nat.le_refl _, samPs_eq h⟩
  | x :: r, h => by
    simp only [sufB, Bool.or_eq_true] at h
    rcases h with h | h
    · exact ⟨0, Nat.zero_le _, samPs_eq h⟩
    · obtain ⟨j, hj, e⟩ := sufB_ok h
      exact ⟨j + 1, by simpa using hj, by simpa using e⟩
def entOf (x : Str) : List Ent → Option Ent
  | [] => none
  | e :: r => if e.nm = x then some e else entOf x r
theorem entOf_mem {x : Str} {e : Ent} : ∀ {l : List Ent}, entOf x l = some e → e ∈ l ∧ e.nm = x
  | a :: r, h => by
    unfold entOf at h
    split at h
    · rename_i q; cases h; exact ⟨List.mem_cons_self, q⟩
    · exact ⟨List.mem_cons_of_mem _ (entOf_mem h).1, (entOf_mem h).2⟩
def HS.p0 (S : HS) (dfls : List (Str × List PV)) (esub : Str → Str → Option Bool) : Pg where
  fn := fun _ _ _ => none
  con := fun x => look x S.cons
  sub := fun _ _ => false
  esub := esub
  cls := fun c => look c S.clss
  key := fun c m => key2 c m S.meths
  dfl := fun f ds => match look f dfls with
    | some d => sufB ds d
    | none => false
/-! ### the checks over K -/
def slotB (K : PySem.W.Frag) (C : Addr) (f : Str) (i : Nat) : Bool := match PySem.W.findIn K (.ref C) f with
  | some (some (.ref p)) => decide (PySem.W.specialIn K (.ref p) "__get__" = some (some (.builtin "member_descriptor.__get__"))) && (decide (PySem.W.takesIn K (.ref p) = some true) && (decide (PySem.W.typeIn K (.ref p) = some (.type "member_descriptor")) && (decide (PySem.W.slotIn K p C = some i) && decide (i < 1000))))
  | _ => false
theorem slotB_ok {K : PySem.W.Frag} {C : Addr} {f : Str} {i : Nat} (h : slotB K C f i = true) : ∃ p, SlX.Slot1 K C f p i := by
  unfold slotB at h
  split at h
  · rename_i p q
    simp only [Bool.and_eq_true, decide_eq_true_eq] at h
    obtain ⟨h1, h2, h3, h4, h5⟩ := h
    exact ⟨p, q, h1, h2, h3, h4, h5⟩
  · cases h
def slotsB (K : PySem.W.Frag) (C : Addr) : Nat → List Str → Bool
  | _, [] => true
  | i, f :: r => slotB K C f i && slotsB K C (i + 1) r
theorem slotsB_ok {K : PySem.W.Frag} {C : Addr} {f : Str} : ∀ {ss : List Str} {k i : Nat}, slotsB K C k ss = true → ixOf f ss = some i → ∃ p, SlX.Slot1 K C f p (k + i)
  | x :: r, k, i, h, e => by
    simp only [slotsB, Bool.and_eq_true] at h
    unfold ixOf at e
    split at e
    · rename_i q; cases e; subst q; exact slotB_ok h.1
    · obtain ⟨j, e1, e2⟩ := Option.map_eq_some_iff.mp e
      subst e2
      obtain ⟨p, hp⟩ := slotsB_ok h.2 e1
      exact ⟨p, by rw [show k + (j + 1) = k + 1 + j by omega]; exact hp⟩
def sclsB (K : PySem.W.Frag) (C : Addr) : Bool := PySem.W.plainGet K C Str.empty && (PySem.W.isClsIn K C && (PySem.W.plainOver K C && (decide (PySem.W.findIn K (.ref C) "__setattr__" = some (some (.builtin "object.__setattr__"))) &&
  (decide (PySem.W.findIn K (.ref C) "__class__" = some (some (.builtin "object.__class__"))) && (decide (PySem.W.specialIn K (.builtin "object.__class__") "__get__" = some (some (.builtin "getset_descriptor.__get__"))) &&
  (decide (PySem.W.takesIn K (.builtin "object.__class__") = some true) && decide (PySem.W.mroIn K C (.type "object") = some true)))))))
def kitN : List String := ["NoneType", "bool", "int", "str", "tuple", "list", "dict"]
def eqB (K : PySem.W.Frag) (C : Addr) : Bool := match PySem.W.findIn K (.ref C) "__eq__" with
  | some (some (.ref g)) => neIn K C g
  | _ => true
def HS.clsB (S : HS) (K : PySem.W.Frag) (c : Str) (ss : List Str) : Bool := He.eqO (PySem.W.nsIn K mainGlobals c) (some (some (.ref (He.ga K c)))) && (sclsB K (He.ga K c) && (slotsB K (He.ga K c) 0 ss && ((kitN.all fun t => decide (PySem.W.kitOne K (.type t) (.ref (He.ga K c)) = some false)) &&
  (((key2 c "__eq__" S.meths).isNone || eqB K (He.ga K c)) && (S.clss.all fun d => decide (PySem.W.kitOne K (.ref (He.ga K c)) (.ref (He.ga K d.1)) = some (decide (c = d.1))) && PySem.W.notFirst K (He.ga K c) (.ref (He.ga K d.1)))))))
theorem clsB_ok {S : HS} {K : PySem.W.Frag} {h : Heap} {mg : Str → Option Value} {c : Str} {ss : List Str} {dfls : List (Str × List PV)} {esub : Str → Str → Option Bool} (X : K.In h) (G : h.Ns mainGlobals mg) (q : S.clsB K c ss = true) : ClH (S.p0 dfls esub) K mg c ss := by
  unfold HS.clsB sclsB at q
  simp only [Bool.and_eq_true, decide_eq_true_eq, List.all_eq_true] at q
  obtain ⟨q1, ⟨a1, a2, a3, a4, a5, a6, a7, a8⟩, q3, q4, q5, q6⟩ := q
  refine ⟨PySem.W.mg_of X G (He.eqO_ok q1), ⟨a1, a2, a3, a4⟩, ⟨a5, a6, a7, a8⟩, fun f i e => ?_, fun t ht => q4 t ht, fun k e g hg => ?_, fun c' ss' e => q6 (c', ss') (look_mem e)⟩
  · obtain ⟨p, hp⟩ := slotsB_ok q3 e
    exact ⟨p, by rw [Nat.zero_add] at hp; exact hp⟩
  · have e' : key2 c "__eq__" S.meths = some k := e
    rw [e'] at q5
    have q5' : eqB K (He.ga K c) = true := by simpa using q5
    unfold eqB at q5'
    rw [hg] at q5'
    exact q5'
def methB (K : PySem.W.Frag) (c m : Str) : Bool := decide (PySem.W.findIn K (.ref (He.ga K c)) m = some (some (.ref (He.ma K (He.ga K c) m)))) && (PySem.W.isFn K (.ref (He.ma K (He.ga K c) m)) && (PySem.W.keepIn K (.ref (He.ma K (He.ga K c) m)) &&
  (decide (m ≠ "__init__") || (PySem.W.makesIn K (He.ga K c) && PySem.W.keepIn K (.ref (He.ga K c))))))
/-- all of it -/
def HS.ok (S : HS) (all : List Ent) (fa : List He.Fa) (K : PySem.W.Frag) : Bool := (fa.all fun f => f.ok K) && ((S.clss.all fun z => S.clsB K z.1 z.2) && ((S.meths.all fun z => methB K z.1.1 z.1.2) && ((S.cons.all fun z => match PySem.W.nsIn K mainGlobals z.1 with
  | some (some u) => pvB K z.2 u
  | _ => false) && all.all fun e => match e.at_.2 with
  | none => He.eqO (PySem.W.nsIn K mainGlobals e.nm) (some (some (.ref (He.fAd K e.at_))))
  | some _ => true)))
/-- what the table says itself -/
def HS.stB (S : HS) (dfls : List (Str × List PV)) (all : List Ent) : Bool := (all.all fun e => e.dfl.all scal) && ((S.meths.all fun z => (look z.1.1 S.clss).isSome && match entOf z.2 all with
  | some e => decide (e.at_ = (z.1.1, some z.1.2))
  | none => false) && ((all.all fun e => match look e.nm dfls with
  | some d => samPs d e.dfl
  | none => true) && decide ((all.map (·.nm)).Nodup)))
theorem nodup_nm : ∀ {l : List Ent}, (l.map (·.nm)).Nodup → ∀ e ∈ l, ∀ e' ∈ l, e.nm = e'.nm → e = e'
  | a :: r, h, e, he, e', he', q => by
    rw [List.map_cons, List.nodup_cons] at h
    rcases List.mem_cons.mp he with e1 | e1
    · rcases List.mem_cons.mp he' with e2 | e2
      · rw [e1, e2]
      · exact absurd (List.mem_map.mpr ⟨e', e2, by rw [← q, e1]⟩) h.1
    · rcases List.mem_cons.mp he' with e2 | e2
      · exact absurd (List.mem_map.mpr ⟨e, e1, by rw [q, e2]⟩) h.1
      · exact nodup_nm h.2 e e1 e' e2 q
theorem tabH_of {S : HS} {all : List Ent} {fa : List He.Fa} {K : PySem.W.Frag} {h : Heap} {mg : Str → Option Value} {dfls : List (Str × List PV)} {esub : Str → Str → Option Bool} (X : K.In h) (G : h.Ns mainGlobals mg) (c : S.ok all fa K = true) (st : S.stB dfls all = true)
    (hdef : ∀ e ∈ all, ∃ fd, e.fun_ K (He.fAd K e.at_) fd) (hb : ∀ e ∈ all, e.bnds) : TabH (S.p0 dfls esub) all K mg := by
  unfold HS.ok at c
  unfold HS.stB at st
  simp only [Bool.and_eq_true, List.all_eq_true, decide_eq_true_eq] at c st
  obtain ⟨_, c1, c2, c3, c4⟩ := c
  obtain ⟨s1, s2, s3, s4⟩ := st
  refine ⟨fun _ _ _ => rfl, hdef, fun e he ha => ?_, hb, fun e he => List.all_eq_true.mpr (s1 e he), fun d ss e => clsB_ok X G (c1 (d, ss) (look_mem e)), fun d m k e => ?_, fun x p e => ?_, fun e he ds hd => ?_, nodup_nm s4⟩
  · have := c4 e he
    rw [ha] at this
    exact PySem.W.mg_of X G (He.eqO_ok this)
  · have hm := key2_mem e
    have t1 := s2 _ hm
    have t2 := c2 _ hm
    obtain ⟨t3, t4⟩ := t1
    refine ⟨Option.isSome_iff_exists.mp t3, ?_⟩
    cases q : entOf k all with
    | none => simp only [q] at t4; cases t4
    | some en =>
      simp only [q, decide_eq_true_eq] at t4
      obtain ⟨h1, h2⟩ := entOf_mem q
      unfold methB at t2
      simp only [Bool.and_eq_true, decide_eq_true_eq, Bool.or_eq_true] at t2
      obtain ⟨u1, u2, u3, u4⟩ := t2
      refine ⟨en, h1, h2, by rw [t4]; rfl, ⟨u1, u2, u3⟩, fun z => ?_⟩
      rcases u4 with u4 | ⟨u4, u5⟩
      · exact absurd z u4
      · refine ⟨u4, ?_, u2, u5⟩
        rw [← z]; exact u1
  · have := c3 (x, p) (look_mem e)
    split at this
    · rename_i u q
      obtain ⟨v, r, rv⟩ := pvB_ok this
      exact ⟨v, u, PySem.W.mg_of X G q, r, rv⟩
    · cases this
  · have := s3 e he
    have hd' : (match look e.nm dfls with | some d => sufB ds d | none => false) = true := hd
    cases q : look e.nm dfls with
    | none => rw [q] at hd'; cases hd'
    | some d =>
      rw [q] at hd' this
      rw [← samPs_eq this]
      exact sufB_ok hd'
/-! ### the Hook -/
def Ent.dd (e : Ent) : He.DefD := ⟨e.at_, e.fnm, e.nm, defArgs e.st, defBody e.st, defScope e.st, e.dfl.map dvP, []⟩
theorem dvs_eq (e : Ent) (K : PySem.W.Frag) : e.dd.dvs K = e.dvs := by
  show (e.dfl.map dvP).map (He.Dv.v K) = e.dfl.map fun p => (dvP p).v []
  rw [List.map_map]
  refine List.map_congr_left fun p _ => ?_
  cases p <;> rfl
def obsX (F : PySem.W.Frag → Bool) (fn : List He.DefD) (K : PySem.W.Frag) : He.AlD := (F K && fn.all fun d => d.ok K, fn.map fun d => He.fnW K d.at_)
def obsXG (n : Nat) (F : PySem.W.Frag → Bool) (fn : List He.DefD) (g : Addr → Option Obj) : He.AlD := obsX F fn (He.frG g (He.asD g n))
def hookX (n : Nat) (F : PySem.W.Frag → Bool) (fn : List He.DefD) : PySem.W.Hook where
  α := He.AlD
  obs := fun s => obsXG n F fn s.heap.get?
  val := fun _ => He.valD fn
  says := fun _ h => ∃ K : PySem.W.Frag, K.In h ∧ obsX F fn K = He.valD fn
  of := fun _ _ e => ⟨_, He.frG_in, e⟩
  keeps := fun _ _ _ ⟨K, hK, c⟩ k => ⟨K, PySem.W.Frag.In.keeps hK k, c⟩
theorem obsXG_eq {n : Nat} {F : PySem.W.Frag → Bool} {fn : List He.DefD} {g : Addr → Option Obj} {s : Shared} (h : ∀ a, g a = s.heap.get? a) : obsXG n F fn g = (hookX n F fn).obs s := by
  have e : g = s.heap.get? := funext h
  rw [e] <;> rfl
theorem saysX {F : PySem.W.Frag → Bool} {all : List Ent} {K : PySem.W.Frag} (c : obsX F (all.map Ent.dd) K = He.valD (all.map Ent.dd)) : F K = true ∧ ∀ e ∈ all, ∃ fd, e.fun_ K (He.fAd K e.at_) fd := by
  have c1 : (F K && (all.map Ent.dd).all fun d => d.ok K) = true := congrArg (fun z : He.AlD => z.1) c
  have c2 : (all.map Ent.dd).map (fun d => He.fnW K d.at_) = (all.map Ent.dd).map He.DefD.val := congrArg (fun z : He.AlD => z.2) c
  rw [Bool.and_eq_true] at c1
  refine ⟨c1.1, fun e he => ?_⟩
  have hm : e.dd ∈ all.map Ent.dd := List.mem_map.mpr ⟨e, he, rfl⟩
  have hq : He.fnW K e.dd.at_ = e.dd.val := List.map_inj_left.mp c2 e.dd hm
  obtain ⟨fd, F⟩ := He.DefD.funD hq (List.all_eq_true.mp c1.2 e.dd hm)
  refine ⟨fd, ?_⟩
  rw [dvs_eq] at F
  exact F
/-! ### how defs are called -/
theorem bnd0 {e : Ent} (hd : e.dfl = []) (h : ∀ (kV doc pm : Value) (an : Option Addr) (cdv ct : Value) (us : List Value), us.length = e.ps.length → bindArgs (PySem.W.fnOf e.fnm e.nm (defArgs e.st) (defBody e.st) (defScope e.st) .none kV doc pm an cdv ct) ⟨us, []⟩ = pure (e.ps.zip us)) : e.bnds := by
  intro K f fd F j hj
  have e0 : e.dvs = [] := by unfold Ent.dvs; rw [hd]; rfl
  unfold Ent.fun_ at F
  rw [e0] at F
  exact ⟨[], by rw [e0, List.drop_nil]; exact .nil, F.bindsN h⟩
theorem bnd1 {e : Ent} (hd : e.dfl.isEmpty = false) (h : ∀ j, j ≤ e.dfl.length → ∃ n, n + (e.dfl.length - j) = e.ps.length ∧ ∀ (T : Addr) (kV doc pm : Value) (an : Option Addr) (cdv ct : Value) (us its : List Value), us.length = n → its.length = e.dfl.length →
      ∃ k, bindArgs (PySem.W.fnOf e.fnm e.nm (defArgs e.st) (defBody e.st) (defScope e.st) (.ref T) kV doc pm an cdv ct) ⟨us, []⟩ = seqItems? (.ref T) >>= k ∧ k (some its.toArray) = pure (e.ps.zip (us ++ its.drop j))) : e.bnds := by
  intro K f fd F j hj
  obtain ⟨n, hn, hk⟩ := h j hj
  have hl : e.dvs.length = e.dfl.length := by simp [Ent.dvs]
  refine F.binds1 n j (fun z => ?_) (by rw [hl]; exact hn) fun T kV doc pm an cdv ct us its h1 h2 => hk T kV doc pm an cdv ct us its h1 (by rw [h2, hl])
  have : e.dfl.length = 0 := by rw [← hl, z]; rfl
  rw [List.length_eq_zero_iff.mp this] at hd
  cases hd
end Ev

set_option Elab.async false
set_option linter.all false
/-! K14d: the defs of the law's text, for the evaluator. -/
namespace K14
open Ev
/-- Broken.__eq__(self, other): self, other -/
def d_Broken___eq__ : Df where
  ps := 2
  n := 2
  body := [
    .ret (.and (.ext (.isiO "Broken") [.loc 1]) (.cmp .eq (.ext (.attr "history") [.loc 0]) (.ext (.attr "history") [.loc 1])))]
/-- Broken.__init__(self, history): self, history -/
def d_Broken___init__ : Df where
  ps := 2
  n := 2
  body := [
    .setf 0 "history" (.bi .tuple [.loc 1])]
/-- Plan.__eq__(self, other): self, other -/
def d_Plan___eq__ : Df where
  ps := 2
  n := 2
  body := [
    .ret (.and (.ext (.isiO "Plan") [.loc 1]) (.cmp .eq (.tup [.ext (.attr "steps") [.loc 0], .ext (.attr "repair") [.loc 0]]) (.tup [.ext (.attr "steps") [.loc 1], .ext (.attr "repair") [.loc 1]])))]
/-- is_couple_right(steps, first, second): steps, first, second -/
def d_is_couple_right : Df where
  ps := 3
  n := 3
  body := [
    .if_ (.or (.cmp .notIn (.loc 1) (.loc 0)) (.cmp .notIn (.loc 2) (.loc 0))) [
      .ret (.and (.cmp .notIn (.loc 1) (.loc 0)) (.cmp .notIn (.loc 2) (.loc 0)))] [],
    .ret (.cmp .lt (.ext (.index true) [.loc 0, .loc 1]) (.ext (.index true) [.loc 0, .loc 2]))]
/-- is_word(thing, words): thing, words -/
def d_is_word : Df where
  ps := 2
  n := 2
  body := [
    .ret (.and (.isi (.loc 0) [.b "str"]) (.cmp .in_ (.loc 0) (.loc 1)))]
/-- are_steps(thing): thing, word, looks, put, first, second -/
def d_are_steps : Df where
  ps := 1
  n := 6
  body := [
    .if_ (.or (.not (.isi (.loc 0) [.b "tuple"])) (.cmp .gt (.bi .len [.loc 0]) (.ext (.glo "MOST_STEPS") []))) [
      .ret (.cst (.bl false))] [],
    .if_ (.not (.bi .all [.comp (.and (.call "is_word" [.loc 1, .ext (.glo "STEPS") []]) (.cmp .eq (.ext (.count true) [.loc 0, .loc 1]) (.cst (.int 1)))) (.nm 1) (.loc 0) []])) [
      .ret (.cst (.bl false))] [],
    .if_ (.or (.cmp .notIn (.cst (.str "data")) (.loc 0)) (.cmp .eq (.cmp .in_ (.cst (.str "delta")) (.loc 0)) (.cmp .in_ (.cst (.str "fresh")) (.loc 0)))) [
      .ret (.cst (.bl false))] [],
    .asg (.nm 2) (.ite (.cmp .in_ (.cst (.str "delta")) (.loc 0)) (.tup [.cst (.str "old"), .cst (.str "sums")]) (.tup [.cst (.str "rest")])),
    .asg (.nm 3) (.ext (.index true) [.loc 0, .ite (.cmp .in_ (.cst (.str "delta")) (.loc 0)) (.cst (.str "delta")) (.cst (.str "fresh"))]),
    .if_ (.not (.bi .all [.comp (.and (.cmp .in_ (.loc 1) (.loc 0)) (.cmp .lt (.ext (.index true) [.loc 0, .loc 1]) (.loc 3))) (.nm 1) (.loc 2) []])) [
      .ret (.cst (.bl false))] [],
    .if_ (.bi .any [.comp (.cmp .in_ (.loc 1) (.loc 0)) (.nm 1) (.tup [.cst (.str "old"), .cst (.str "sums"), .cst (.str "rest")]) [.cmp .notIn (.loc 1) (.loc 2)]]) [
      .ret (.cst (.bl false))] [],
    .if_ (.not (.bi .all [.comp (.call "is_couple_right" [.loc 0, .loc 4, .loc 5]) (.tp [.nm 4, .nm 5]) (.ext (.glo "COUPLES") []) []])) [
      .ret (.cst (.bl false))] [],
    .ret (.or (.cmp .notIn (.cst (.str "note")) (.loc 0)) (.bi .all [.comp (.cmp .lt (.ext (.index true) [.loc 0, .loc 1]) (.ext (.index true) [.loc 0, .cst (.str "note")])) (.nm 1) (.loc 2) []]))]
/-- Plan.__init__(self, steps, repair): self, steps, repair -/
def d_Plan___init__ : Df where
  ps := 3
  n := 3
  body := [
    .if_ (.not (.call "are_steps" [.loc 1])) [
      .nope] [],
    .if_ (.not (.call "is_word" [.loc 2, .ext (.glo "REPAIRS") []])) [
      .nope] [],
    .setf 0 "steps" (.loc 1),
    .setf 0 "repair" (.loc 2)]
/-- Safe.__eq__(self, other): self, other -/
def d_Safe___eq__ : Df where
  ps := 2
  n := 2
  body := [
    .ret (.and (.ext (.isiO "Safe") [.loc 1]) (.cmp .eq (.ext (.attr "states") [.loc 0]) (.ext (.attr "states") [.loc 1])))]
/-- Safe.__init__(self, states): self, states -/
def d_Safe___init__ : Df where
  ps := 2
  n := 2
  body := [
    .setf 0 "states" (.bi .list [.loc 1])]
/-- Spared.__eq__(self, other): self, other -/
def d_Spared___eq__ : Df where
  ps := 2
  n := 2
  body := [
    .ret (.and (.ext (.isiO "Spared") [.loc 1]) (.cmp .eq (.ext (.attr "states") [.loc 0]) (.ext (.attr "states") [.loc 1])))]
/-- Spared.__init__(self, states): self, states -/
def d_Spared___init__ : Df where
  ps := 2
  n := 2
  body := [
    .setf 0 "states" (.bi .list [.loc 1])]
/-- Stripe.parts(self): self -/
def d_Stripe_parts : Df where
  ps := 1
  n := 1
  body := [
    .ret (.tup [.ext (.attr "blocks") [.loc 0], .ext (.attr "sums") [.loc 0], .ext (.attr "jobs") [.loc 0]])]
/-- Stripe.__eq__(self, other): self, other -/
def d_Stripe___eq__ : Df where
  ps := 2
  n := 2
  body := [
    .ret (.and (.ext (.isiO "Stripe") [.loc 1]) (.cmp .eq (.meth "parts" [] (.loc 0) []) (.meth "parts" [] (.loc 1) [])))]
/-- is_number(thing, low, high): thing, low, high -/
def d_is_number : Df where
  ps := 3
  n := 3
  body := [
    .ret (.and (.isi (.loc 0) [.b "int"]) (.and (.not (.isi (.loc 0) [.b "bool"])) (.chain .le .le (.loc 1) (.loc 0) (.loc 2))))]
/-- is_sum(blocks, thing): blocks, thing, one, other -/
def d_is_sum : Df where
  ps := 2
  n := 4
  body := [
    .if_ (.or (.not (.isi (.loc 1) [.b "tuple"])) (.or (.cmp .eq (.loc 1) (.tup [])) (.not (.bi .all [.comp (.call "is_number" [.loc 2, .cst (.int 0), .bin .sub (.loc 0) (.cst (.int 1))]) (.nm 2) (.loc 1) []])))) [
      .ret (.cst (.bl false))] [],
    .ret (.bi .all [.comp (.cmp .lt (.loc 2) (.loc 3)) (.tp [.nm 2, .nm 3]) (.zip (.loc 1) (.slL (.loc 1) (.cst (.int 1)))) []])]
/-- are_sums(blocks, thing): blocks, thing, one, block -/
def d_are_sums : Df where
  ps := 2
  n := 4
  body := [
    .if_ (.or (.not (.isi (.loc 1) [.b "tuple"])) (.or (.not (.chain .le .le (.cst (.int 1)) (.bi .len [.loc 1]) (.cst (.int 2)))) (.not (.bi .all [.comp (.call "is_sum" [.loc 0, .loc 2]) (.nm 2) (.loc 1) []])))) [
      .ret (.cst (.bl false))] [],
    .if_ (.and (.cmp .eq (.bi .len [.loc 1]) (.cst (.int 2))) (.cmp .eq (.idx (.loc 1) (.cst (.int 0))) (.idx (.loc 1) (.cst (.int 1))))) [
      .ret (.cst (.bl false))] [],
    .ret (.bi .all [.comp (.bi .any [.comp (.cmp .in_ (.loc 3) (.loc 2)) (.nm 2) (.loc 1) []]) (.nm 3) (.range (.cst (.int 0)) (.loc 0)) []])]
/-- Stripe.__init__(self, blocks, sums, jobs): self, blocks, sums, jobs -/
def d_Stripe___init__ : Df where
  ps := 4
  n := 4
  body := [
    .if_ (.not (.call "is_number" [.loc 1, .cst (.int 1), .ext (.glo "MOST_BLOCKS") []])) [
      .nope] [],
    .if_ (.not (.call "are_sums" [.loc 1, .loc 2])) [
      .nope] [],
    .if_ (.not (.call "is_number" [.loc 3, .cst (.int 1), .cst (.int 2)])) [
      .nope] [],
    .setf 0 "blocks" (.loc 1),
    .setf 0 "sums" (.loc 2),
    .setf 0 "jobs" (.loc 3)]
/-- Victim.__eq__(self, other): self, other -/
def d_Victim___eq__ : Df where
  ps := 2
  n := 2
  body := [
    .ret (.and (.ext (.isiO "Victim") [.loc 1]) (.cmp .eq (.ext (.attr "history") [.loc 0]) (.ext (.attr "history") [.loc 1])))]
/-- Victim.__init__(self, history): self, history -/
def d_Victim___init__ : Df where
  ps := 2
  n := 2
  body := [
    .setf 0 "history" (.bi .tuple [.loc 1])]
/-- _law_answer(word, part): word, part -/
def d_law_answer : Df where
  ps := 2
  n := 2
  body := [
    .if_ (.cmp .eq (.loc 0) (.cst (.str "safe"))) [
      .ret (.ext (.make "Safe" []) [.loc 1])] [],
    .if_ (.cmp .eq (.loc 0) (.cst (.str "spared"))) [
      .ret (.ext (.make "Spared" []) [.loc 1])] [],
    .ret (.ite (.cmp .eq (.loc 0) (.cst (.str "broken"))) (.ext (.make "Broken" []) [.loc 1]) (.ext (.make "Victim" []) [.loc 1]))]
/-- _law_number(script, index): script, index, cells, cell, low, high, total, blend -/
def d_law_number : Df where
  ps := 2
  n := 8
  body := [
    .asg (.nm 2) (.ite (.cmp .ne (.loc 0) (.lst [])) (.slU (.loc 0) (.cst (.int 63))) (.lst [.cst (.int 5)])),
    .asg (.nm 3) (.bin .add (.idx (.loc 2) (.bin .mod (.bi .int [.loc 1]) (.bi .len [.loc 2]))) (.bin .mul (.cst (.int 13)) (.bin .fdiv (.loc 1) (.bi .len [.loc 2])))),
    .par [4, 5] [.v, .v] [.bin .mod (.bi .int [.loc 3]) (.cst (.int 1000003)), .bin .mod (.bi .int [.bin .fdiv (.loc 3) (.cst (.int 1000003))]) (.cst (.int 999983))],
    .asg (.nm 6) (.bin .mod (.bi .int [.bi .sum [.loc 2]]) (.cst (.int 65521))),
    .asg (.nm 7) (.bin .mod (.bi .int [.bin .add (.bin .add (.bin .mul (.bin .add (.loc 4) (.bin .mul (.cst (.int 977)) (.loc 1))) (.cst (.int 48271))) (.bin .mul (.cst (.int 31)) (.loc 5))) (.loc 6)]) (.cst (.int 2147483647))),
    .ret (.bin .add (.bin .mul (.bin .mod (.bi .int [.bin .mul (.loc 7) (.bin .add (.bin .add (.loc 7) (.bin .mul (.cst (.int 31)) (.loc 1))) (.cst (.int 7)))]) (.cst (.int 2147483629))) (.cst (.int 65537))) (.loc 5))]
/-- _law_part(script, at, word): script, at, word, seed, state -/
def d_law_part : Df where
  ps := 3
  n := 5
  body := [
    .asg (.nm 3) (.bi .int [.call "_law_number" [.loc 0, .loc 1]]),
    .asg (.nm 4) (.tup [.tup [], .tup [], .tup [], .tup [], .cmp .eq (.bin .mod (.bi .int [.loc 3]) (.cst (.int 2))) (.cst (.int 0)), .cst (.bl false), .tup []]),
    .if_ (.cmp .in_ (.loc 2) (.tup [.cst (.str "safe"), .cst (.str "spared")])) [
      .retO (.ext .rep [.lst [.loc 4], .bin .add (.cst (.int 1)) (.bin .mod (.bi .int [.bin .fdiv (.loc 3) (.cst (.int 2))]) (.cst (.int 2)))])] [],
    .retO (.slU (.lst [.tup [.cst (.str "begin"), .bin .mod (.bi .int [.loc 3]) (.cst (.int 2))], .tup [.cst (.str "fall")]]) (.bin .add (.cst (.int 1)) (.bin .mod (.bi .int [.bin .fdiv (.loc 3) (.cst (.int 2))]) (.cst (.int 2)))))]
/-- _law_seen(word, found): word, found -/
def d_law_seen : Df where
  ps := 2
  n := 2
  body := [
    .if_ (.cmp .in_ (.loc 0) (.tup [.cst (.str "safe"), .cst (.str "spared")])) [
      .ret (.ext (.attr "states") [.loc 1])] [],
    .ret (.ite (.isi (.ext (.attr "history") [.loc 1]) [.b "tuple"]) (.bi .list [.ext (.attr "history") [.loc 1]]) (.cst (.non)))]
/-- law(script): script, words, rows, turn, word, found, part, due, one, again, other_word, other, two -/
def d_law : Df where
  ps := 1
  n := 13
  body := [
    .par [1, 2] [.v, .n] [.tup [.cst (.str "safe"), .cst (.str "broken"), .cst (.str "spared"), .cst (.str "victim")], .lst []],
    .for_ (.nm 3) (.range (.cst (.int 0)) (.cst (.int 20))) [
      .asg (.nm 4) (.idx (.loc 1) (.bin .mod (.loc 3) (.cst (.int 4)))),
      .par [6, 7] [.c, .v] [.call "_law_part" [.loc 0, .bin .mul (.cst (.int 5)) (.loc 3), .loc 4], .call "_law_part" [.loc 0, .bin .mul (.cst (.int 5)) (.loc 3), .loc 4]],
      .asg (.nm 5) (.call "_law_answer" [.loc 4, .loc 6]),
      .app 6 (.cst (.int 5)),
      .if_ (.cmp .ne (.call "_law_seen" [.loc 4, .loc 5]) (.loc 7)) [
        .ret (.cst (.bl false))] [],
      .app 2 (.tup [.loc 4, .loc 7, .loc 5])],
    .forO (.tp [.nm 4, .nm 6, .nm 8]) 2 [
      .asg (.nm 9) (.ite (.cmp .in_ (.loc 4) (.tup [.cst (.str "broken"), .cst (.str "victim")])) (.bi .tuple [.loc 6]) (.loc 6)),
      .if_ (.or (.not (.ext .oeq [.loc 8, .call "_law_answer" [.loc 4, .loc 6]])) (.ext .one [.loc 8, .call "_law_answer" [.loc 4, .loc 9]])) [
        .ret (.cst (.bl false))] [],
      .forO (.tp [.nm 10, .nm 11, .nm 12]) 2 [
        .asg (.nm 7) (.and (.cmp .eq (.loc 4) (.loc 10)) (.cmp .eq (.loc 6) (.loc 11))),
        .if_ (.or (.cmp .ne (.ext .oeq [.loc 8, .loc 12]) (.loc 7)) (.cmp .eq (.ext .one [.loc 8, .loc 12]) (.loc 7))) [
          .ret (.cst (.bl false))] []]],
    .if_ (.or (.not (.ext .oeq [.ext (.make "Broken" []) [.lst [.tup [.cst (.str "fall")]]], .ext (.make "Broken" []) [.tup [.tup [.cst (.str "fall")]]]])) (.or (.ext .oeq [.ext (.make "Safe" []) [.lst []], .ext (.make "Spared" []) [.lst []]]) (.ext .oeq [.ext (.make "Victim" []) [.tup []], .ext (.make "Broken" []) [.tup []]]))) [
      .ret (.cst (.bl false))] [],
    .ret (.and (.ext .one [.ext (.make "Stripe" [.int 1]) [.cst (.int 1), .tup [.tup [.cst (.int 0)]]], .ext (.make "Plan" [.str "none"]) [.tup [.cst (.str "rest"), .cst (.str "data"), .cst (.str "fresh")]]]) (.ext .one [.ext (.make "Stripe" []) [.cst (.int 2), .tup [.tup [.cst (.int 0), .cst (.int 1)]], .cst (.int 2)], .ext (.make "Stripe" [.int 1]) [.cst (.int 2), .tup [.tup [.cst (.int 0), .cst (.int 1)]]]]))]
def hs_clss : List (PySem.Str × List PySem.Str) := [("Stripe", ["blocks", "jobs", "sums"]), ("Plan", ["repair", "steps"]), ("Safe", ["states"]), ("Broken", ["history"]), ("Victim", ["history"]), ("Spared", ["states"])]
def hs_meths : List ((PySem.Str × PySem.Str) × PySem.Str) := [(("Broken", "__eq__"), "Broken.__eq__"), (("Broken", "__init__"), "Broken.__init__"), (("Plan", "__eq__"), "Plan.__eq__"), (("Plan", "__init__"), "Plan.__init__"), (("Safe", "__eq__"), "Safe.__eq__"), (("Safe", "__init__"), "Safe.__init__"), (("Spared", "__eq__"), "Spared.__eq__"), (("Spared", "__init__"), "Spared.__init__"), (("Stripe", "parts"), "Stripe.parts"), (("Stripe", "__eq__"), "Stripe.__eq__"), (("Stripe", "__init__"), "Stripe.__init__"), (("Victim", "__eq__"), "Victim.__eq__"), (("Victim", "__init__"), "Victim.__init__")]
def hs_cons : List (PySem.Str × PV) := [("MOST_BLOCKS", .int 3), ("MOST_STEPS", .int 10), ("REPAIRS", .tup [.str "none", .str "marked", .str "always", .str "noted"]), ("STEPS", .tup [.str "old", .str "sums", .str "rest", .str "data", .str "delta", .str "fresh", .str "note", .str "drop", .str "mark", .str "clear", .str "lock", .str "free"]), ("COUPLES", .tup [.tup [.str "lock", .str "free"], .tup [.str "mark", .str "clear"], .tup [.str "note", .str "drop"]])]
def dfls : List (PySem.Str × List PV) := [("Plan.__init__", [.str "none"]), ("Stripe.__init__", [.int 1])]
end K14

set_option Elab.async false
set_option linter.all false
set_option maxRecDepth 100000
set_option maxHeartbeats 0
/-! K14a: the defs of the law's text, as a table. -/
namespace K14
open Ev PySem L2
def top (i : Nat) : Stmt := PySem.Challenge.pw_stripehole_k14_whole_answers.main.body.getD i (.Pass ⟨0, 0, 0, 0⟩)
def sub (i j : Nat) : Stmt := match top i with
  | .ClassDef _ _ _ body _ _ _ _ _ _ _ => body.getD j (.Pass ⟨0, 0, 0, 0⟩)
  | s => s
def e_Broken___eq__ : Ent := ⟨"Broken.__eq__", "__eq__", ("Broken", some "__eq__"), ["self", "other"], ["self", "other"], d_Broken___eq__, sub 21 2, []⟩
def e_Broken___init__ : Ent := ⟨"Broken.__init__", "__init__", ("Broken", some "__init__"), ["self", "history"], ["self", "history"], d_Broken___init__, sub 21 1, []⟩
def e_Plan___eq__ : Ent := ⟨"Plan.__eq__", "__eq__", ("Plan", some "__eq__"), ["self", "other"], ["self", "other"], d_Plan___eq__, sub 18 4, []⟩
def e_is_couple_right : Ent := ⟨"is_couple_right", "is_couple_right", ("is_couple_right", none), ["steps", "first", "second"], ["steps", "first", "second"], d_is_couple_right, top 16, []⟩
def e_is_word : Ent := ⟨"is_word", "is_word", ("is_word", none), ["thing", "words"], ["thing", "words"], d_is_word, top 12, []⟩
def e_are_steps : Ent := ⟨"are_steps", "are_steps", ("are_steps", none), ["thing", "word", "looks", "put", "first", "second"], ["thing"], d_are_steps, top 17, []⟩
def e_Plan___init__ : Ent := ⟨"Plan.__init__", "__init__", ("Plan", some "__init__"), ["self", "steps", "repair"], ["self", "steps", "repair"], d_Plan___init__, sub 18 1, [.str "none"]⟩
def e_Safe___eq__ : Ent := ⟨"Safe.__eq__", "__eq__", ("Safe", some "__eq__"), ["self", "other"], ["self", "other"], d_Safe___eq__, sub 20 2, []⟩
def e_Safe___init__ : Ent := ⟨"Safe.__init__", "__init__", ("Safe", some "__init__"), ["self", "states"], ["self", "states"], d_Safe___init__, sub 20 1, []⟩
def e_Spared___eq__ : Ent := ⟨"Spared.__eq__", "__eq__", ("Spared", some "__eq__"), ["self", "other"], ["self", "other"], d_Spared___eq__, sub 24 2, []⟩
def e_Spared___init__ : Ent := ⟨"Spared.__init__", "__init__", ("Spared", some "__init__"), ["self", "states"], ["self", "states"], d_Spared___init__, sub 24 1, []⟩
def e_Stripe_parts : Ent := ⟨"Stripe.parts", "parts", ("Stripe", some "parts"), ["self"], ["self"], d_Stripe_parts, sub 15 3, []⟩
def e_Stripe___eq__ : Ent := ⟨"Stripe.__eq__", "__eq__", ("Stripe", some "__eq__"), ["self", "other"], ["self", "other"], d_Stripe___eq__, sub 15 5, []⟩
def e_is_number : Ent := ⟨"is_number", "is_number", ("is_number", none), ["thing", "low", "high"], ["thing", "low", "high"], d_is_number, top 11, []⟩
def e_is_sum : Ent := ⟨"is_sum", "is_sum", ("is_sum", none), ["blocks", "thing", "one", "other"], ["blocks", "thing"], d_is_sum, top 13, []⟩
def e_are_sums : Ent := ⟨"are_sums", "are_sums", ("are_sums", none), ["blocks", "thing", "one", "block"], ["blocks", "thing"], d_are_sums, top 14, []⟩
def e_Stripe___init__ : Ent := ⟨"Stripe.__init__", "__init__", ("Stripe", some "__init__"), ["self", "blocks", "sums", "jobs"], ["self", "blocks", "sums", "jobs"], d_Stripe___init__, sub 15 1, [.int 1]⟩
def e_Victim___eq__ : Ent := ⟨"Victim.__eq__", "__eq__", ("Victim", some "__eq__"), ["self", "other"], ["self", "other"], d_Victim___eq__, sub 23 2, []⟩
def e_Victim___init__ : Ent := ⟨"Victim.__init__", "__init__", ("Victim", some "__init__"), ["self", "history"], ["self", "history"], d_Victim___init__, sub 23 1, []⟩
def e_law_answer : Ent := ⟨"_law_answer", "_law_answer", ("_law_answer", none), ["word", "part"], ["word", "part"], d_law_answer, top 28, []⟩
def e_law_number : Ent := ⟨"_law_number", "_law_number", ("_law_number", none), ["script", "index", "cells", "cell", "low", "high", "total", "blend"], ["script", "index"], d_law_number, top 26, []⟩
def e_law_part : Ent := ⟨"_law_part", "_law_part", ("_law_part", none), ["script", "at", "word", "seed", "state"], ["script", "at", "word"], d_law_part, top 27, []⟩
def e_law_seen : Ent := ⟨"_law_seen", "_law_seen", ("_law_seen", none), ["word", "found"], ["word", "found"], d_law_seen, top 29, []⟩
def e_law : Ent := ⟨"law", "law", ("law", none), ["script", "words", "rows", "turn", "word", "found", "part", "due", "one", "again", "other_word", "other", "two"], ["script"], d_law, top 30, []⟩
def tab : List Ent := [e_law, e_law_seen, e_law_part, e_law_number, e_law_answer, e_Victim___init__, e_Victim___eq__, e_Stripe___init__, e_are_sums, e_is_sum, e_is_number, e_Stripe___eq__, e_Stripe_parts, e_Spared___init__, e_Spared___eq__, e_Safe___init__, e_Safe___eq__, e_Plan___init__, e_are_steps, e_is_word, e_is_couple_right, e_Plan___eq__, e_Broken___init__, e_Broken___eq__]
def hs : HS := ⟨hs_clss, hs_meths, hs_cons⟩
def exs : List Str := []
def cons : List Str := ["MOST_BLOCKS", "MOST_STEPS", "REPAIRS", "STEPS", "COUPLES"]
def clss : List Str := ["Stripe", "Plan", "Safe", "Broken", "Victim", "Spared"]
theorem b_Broken___eq__ : e_Broken___eq__.bnds := bnd0 rfl fun _ _ _ _ _ _ us hl => match us, hl with | [_, _], _ => rfl
theorem b_Broken___init__ : e_Broken___init__.bnds := bnd0 rfl fun _ _ _ _ _ _ us hl => match us, hl with | [_, _], _ => rfl
theorem b_Plan___eq__ : e_Plan___eq__.bnds := bnd0 rfl fun _ _ _ _ _ _ us hl => match us, hl with | [_, _], _ => rfl
theorem b_is_couple_right : e_is_couple_right.bnds := bnd0 rfl fun _ _ _ _ _ _ us hl => match us, hl with | [_, _, _], _ => rfl
theorem b_is_word : e_is_word.bnds := bnd0 rfl fun _ _ _ _ _ _ us hl => match us, hl with | [_, _], _ => rfl
theorem b_are_steps : e_are_steps.bnds := bnd0 rfl fun _ _ _ _ _ _ us hl => match us, hl with | [_], _ => rfl
theorem b_Plan___init__ : e_Plan___init__.bnds := by
  refine bnd1 rfl fun j hj => ?_
  have hj2 : j = 0 ∨ j = 1 := by
    have : j ≤ 1 := hj
    omega
  rcases hj2 with rfl | rfl
  · exact ⟨2, rfl, fun _ _ _ _ _ _ _ us its hl hi => match us, its, hl, hi with | [_, _], [_], _, _ => ⟨_, rfl, rfl⟩⟩
  · exact ⟨3, rfl, fun _ _ _ _ _ _ _ us its hl hi => match us, its, hl, hi with | [_, _, _], [_], _, _ => ⟨_, rfl, rfl⟩⟩
theorem b_Safe___eq__ : e_Safe___eq__.bnds := bnd0 rfl fun _ _ _ _ _ _ us hl => match us, hl with | [_, _], _ => rfl
theorem b_Safe___init__ : e_Safe___init__.bnds := bnd0 rfl fun _ _ _ _ _ _ us hl => match us, hl with | [_, _], _ => rfl
theorem b_Spared___eq__ : e_Spared___eq__.bnds := bnd0 rfl fun _ _ _ _ _ _ us hl => match us, hl with | [_, _], _ => rfl
theorem b_Spared___init__ : e_Spared___init__.bnds := bnd0 rfl fun _ _ _ _ _ _ us hl => match us, hl with | [_, _], _ => rfl
theorem b_Stripe_parts : e_Stripe_parts.bnds := bnd0 rfl fun _ _ _ _ _ _ us hl => match us, hl with | [_], _ => rfl
theorem b_Stripe___eq__ : e_Stripe___eq__.bnds := bnd0 rfl fun _ _ _ _ _ _ us hl => match us, hl with | [_, _], _ => rfl
theorem b_is_number : e_is_number.bnds := bnd0 rfl fun _ _ _ _ _ _ us hl => match us, hl with | [_, _, _], _ => rfl
theorem b_is_sum : e_is_sum.bnds := bnd0 rfl fun _ _ _ _ _ _ us hl => match us, hl with | [_, _], _ => rfl
theorem b_are_sums : e_are_sums.bnds := bnd0 rfl fun _ _ _ _ _ _ us hl => match us, hl with | [_, _], _ => rfl
theorem b_Stripe___init__ : e_Stripe___init__.bnds := by
  refine bnd1 rfl fun j hj => ?_
  have hj2 : j = 0 ∨ j = 1 := by
    have : j ≤ 1 := hj
    omega
  rcases hj2 with rfl | rfl
  · exact ⟨3, rfl, fun _ _ _ _ _ _ _ us its hl hi => match us, its, hl, hi with | [_, _, _], [_], _, _ => ⟨_, rfl, rfl⟩⟩
  · exact ⟨4, rfl, fun _ _ _ _ _ _ _ us its hl hi => match us, its, hl, hi with | [_, _, _, _], [_], _, _ => ⟨_, rfl, rfl⟩⟩
theorem b_Victim___eq__ : e_Victim___eq__.bnds := bnd0 rfl fun _ _ _ _ _ _ us hl => match us, hl with | [_, _], _ => rfl
theorem b_Victim___init__ : e_Victim___init__.bnds := bnd0 rfl fun _ _ _ _ _ _ us hl => match us, hl with | [_, _], _ => rfl
theorem b_law_answer : e_law_answer.bnds := bnd0 rfl fun _ _ _ _ _ _ us hl => match us, hl with | [_, _], _ => rfl
theorem b_law_number : e_law_number.bnds := bnd0 rfl fun _ _ _ _ _ _ us hl => match us, hl with | [_, _], _ => rfl
theorem b_law_part : e_law_part.bnds := bnd0 rfl fun _ _ _ _ _ _ us hl => match us, hl with | [_, _, _], _ => rfl
theorem b_law_seen : e_law_seen.bnds := bnd0 rfl fun _ _ _ _ _ _ us hl => match us, hl with | [_, _], _ => rfl
theorem b_law : e_law.bnds := bnd0 rfl fun _ _ _ _ _ _ us hl => match us, hl with | [_], _ => rfl
theorem all_bnds : ∀ e ∈ tab, e.bnds := by
  intro e he
  simp only [tab, List.mem_cons, List.not_mem_nil, or_false] at he
  rcases he with rfl | rfl | rfl | rfl | rfl | rfl | rfl | rfl | rfl | rfl | rfl | rfl | rfl | rfl | rfl | rfl | rfl | rfl | rfl | rfl | rfl | rfl | rfl | rfl
  · exact b_law
  · exact b_law_seen
  · exact b_law_part
  · exact b_law_number
  · exact b_law_answer
  · exact b_Victim___init__
  · exact b_Victim___eq__
  · exact b_Stripe___init__
  · exact b_are_sums
  · exact b_is_sum
  · exact b_is_number
  · exact b_Stripe___eq__
  · exact b_Stripe_parts
  · exact b_Spared___init__
  · exact b_Spared___eq__
  · exact b_Safe___init__
  · exact b_Safe___eq__
  · exact b_Plan___init__
  · exact b_are_steps
  · exact b_is_word
  · exact b_is_couple_right
  · exact b_Plan___eq__
  · exact b_Broken___init__
  · exact b_Broken___eq__
theorem tab_is : tabB exs cons clss tab = true := by decide +kernel
theorem st_is : hs.stB dfls tab = true := by decide +kernel
end K14

set_option Elab.async false
set_option linter.all false
set_option maxRecDepth 100000
set_option maxHeartbeats 0
/-! HCut: a head cut into several runs, the states between them written out. -/
noncomputable section
namespace HC
open PySem PySem.W PySem.Calls PyProof.Rows L2
def kE (P : Params) (x : Str) (k v : Value) : DictEntry := ⟨PyData.keyHash P x, k, v⟩
def fD (s : Stmt) (nm qn : Str) (g : Addr) (cl : List (Str × Addr)) (df kd doc pm : Value) (an : Option Addr) (cd ct : Value) (bi : Addr) : FuncData := ⟨nm, qn, defArgs s, .stmts (defBody s), defScope s, g, cl, df, kd, doc, pm, an, cd, ct, bi⟩
def tpOf (p : Program) (i : Nat) : Stmt := p.main.body.getD i (.Pass ⟨0, 0, 0, 0⟩)
def exQ := PySem.W.Fast.tw12563942051412417395
theorem exQ_eq : @PySem.execs = exQ := PySem.W.Fast.te12563942051412417395
abbrev stQ (p : Program) (w : World) : SharedT → Thread → Option (SharedT × Thread) := HandSHeadRun.stepQ (HandSHeadRun.denQ HandSHeadRun.tabQ) p w
theorem stQ_eq (p : Program) (w : World) : stQ p w = stepT (denote treeTable) p w := by
  unfold stQ
  rw [← HandSHeadRun.stepQ_eq, ← HandSHeadRun.denQ_eq, ← HandSHeadRun.tabQ_eq]
/-- some statements, to their end -/
def segF (st : SharedT → Thread → Option (SharedT × Thread)) (n0 : Nat) (ann : Option Value) : Nat → SharedT → Thread → Option (SharedT × Code × Pos)
  | 0, _, _ => none
  | m + 1, s, t => match endAt 1 t with
    | some f => (match f with
      | .next => some (s, t.code, t.pos)
      | _ => none)
    | none => match stepOk n0 ann t with
      | false => none
      | true => match st s t with
        | some z => HandSHeadRun.frS z.1 fun s2 => segF st n0 ann m s2 z.2
        | none => none
theorem segF_ok {p : Program} {w : World} {n0 : Nat} {ann : Option Value} : ∀ {m : Nat} {s s1 : SharedT} {t : Thread} {c : Code} {q : Pos}, segF (stepT (denote treeTable) p w) n0 ann m s t = some (s1, c, q) → segRun treeTable p w n0 ann 1 m s.abs t = some (.next, s1.abs, c, q)
  | 0, _, _, _, _, _, h => by cases h
  | m + 1, s, s1, t, c, q, h => by
    rw [segF] at h
    rw [segRun]
    cases he : endAt 1 t with
    | some f =>
      rw [he] at h
      cases f with
      | next => cases h; rfl
      | _ => cases h
    | none =>
      rw [he] at h
      dsimp only at h ⊢
      cases hk : stepOk n0 ann t with
      | false => rw [hk] at h; cases h
      | true =>
        rw [hk] at h
        dsimp only at h ⊢
        cases hs : stepT (denote treeTable) p w s t with
        | none => rw [hs] at h; cases h
        | some z =>
          rw [hs] at h
          dsimp only at h
          rw [HandSHeadRun.frS_eq] at h
          rw [stepT_spec (t' := z.2) (s' := z.1) hs]
          exact segF_ok h
/-- the statements of a piece, by the library's twin -/
def pcQ (l : List Stmt) (env : Env) (c : Code) (q : Pos) (B : List Frame) : Thread := ⟨(exQ l env).wrap doneF deadEnd id id, c, q, B⟩
theorem pcQ_eq (l : List Stmt) (env : Env) (c : Code) (q : Pos) (B : List Frame) : pcQ l env c q B = piecesOf l env c q B := by
  unfold pcQ
  rw [← exQ_eq]
theorem seg_of {p : Program} {w : World} {n0 : Nat} {ann : Option Value} {m : Nat} {s s1 : SharedT} {l : List Stmt} {env : Env} {c : Code} {q q1 : Pos} {B : List Frame} (h : segF (stQ p w) n0 ann m s (pcQ l env c q B) = some (s1, c, q1)) :
    segRun treeTable p w n0 ann 1 m s.abs (piecesOf l env c q B) = some (.next, s1.abs, c, q1) := by
  rw [stQ_eq, pcQ_eq] at h
  exact segF_ok h
theorem boot_size (w : World) : ((boot_heap w.params).isNs mainGlobals && (Array.mk [] : Array GenState).size == 0, (boot_heap w.params).objs.size, (boot_heap w.params).nsMap mainGlobals "__annotations__") = (true, 11, some (.ref 6)) := by kernel_rfl
/-- the top's run, from its parts -/
theorem left_cut {p q : Program} {loose : List Str} {Xt : Shared → Bool} {α : Type} {Yf : Shared → α} {Ya : World → α} {H1 : Params → Heap} {gs : Array GenState} {dr : Drawn} {k M : Nat}
    (e : opening p = plainProg p.main.scope.names) (f : ∀ s, fenceModules? p s = some s)
    (run : ∀ (w : World) (os : OsState), topRun treeTable p w 11 (some (.ref 6)) M ⟨boot_heap w.params, Array.mk [], boot_drawn, boot_toks, os⟩ (topStub p) = some ⟨H1 w.params, gs, dr, k, os⟩)
    (l1 : ∀ (w : World) (os : OsState), HandSHeadRun.looksF p (boot_heap w.params) ⟨H1 w.params, gs, dr, k, os⟩ = true)
    (l2 : ∀ (w : World) (os : OsState), HandSHeadRun.seenQ q loose (importedModules p.main.body) Xt ⟨H1 w.params, gs, dr, k, os⟩ = openGood q loose)
    (l3 : ∀ (w : World) (os : OsState), Yf ⟨H1 w.params, gs, dr, k, os⟩ = Ya w) : LeftO p q loose Xt Yf Ya (M + 600) true :=
  LeftO.of_pieces (boot_open e (Nat.ble_eq_true_of_le (by omega)) f) boot_size run (Nat.ble_eq_true_of_le (by omega)) fun w => by
    funext os
    have a := l1 w os
    have b := l2 w os
    rw [← HandSHeadRun.seenQ_eq] at b
    unfold HandSHeadRun.looksF at a
    rw [b, l3 w os]
    exact Prod.ext a rfl
/-- the law, over such a head -/
theorem head_cut {r : OpenRow} {q : Program} {H : Hook} {loose : List Str} {d : DefRec} {kwd : List (Str × Expr)} {M : Nat} (left : LeftO r.prog q loose (fun s => xlAt q [] s && recOk r.toRowW.records s) H.obs H.val M true)
    (hdef : defOf q r.name = some (d, kwd)) (hp : r.prog.theDef r.name = some (d.params, d.body, d.scope)) (hk : kwWritten? d.params.kwonlyargs d.params.kw_defaults = some kwd)
    (hwr : (!r.writes || r.records.isEmpty) = true) (k1 : r.wellSaid = true) (ok : (chainsOk q && opensWell r.prog && (frees r.toRowW && r.within.isEmpty)) = true) (hb : r.prog.bare) (hw : r.toRowW.promised)
    (call : WalkO q loose (XL q []) H.says r.toRowW d kwd fun f vs => PySem.call f vs) : r.Holds :=
  holds_open left H.of H.keeps (fun s z => xl_of s (Bool.and_eq_true_iff.mp z).1) XL.keeps hdef hp hk (fun s z => recFacts_of (Bool.and_eq_true_iff.mp z).2) hwr k1 ok hb hw call
end HC

set_option Elab.async false
set_option linter.all false
set_option maxRecDepth 100000
set_option maxHeartbeats 0
noncomputable section
namespace Hk14
open PySem PySem.W PySem.Calls PyProof.Rows L2 HC
abbrev prg : Program := PySem.Challenge.pw_stripehole_k14_whole_answers
def tp (i : Nat) : Stmt := tpOf prg i
def mt (i j : Nat) : Stmt := inClass (tp i) j
noncomputable def oa_0 (P : Params) : Obj := ⟨(.type "dict"), none, .dict #[(kE P "__name__" (.str "__name__" 1) (.str "builtins" 160)), (kE P "__doc__" (.str "__doc__" 2) (.builtin "builtins.__doc__:str#opaque")), (kE P "__package__" (.str "__package__" 3) (.builtin "builtins.__package__:str#opaque")), (kE P "__loader__" (.str "__loader__" 4) (.builtin "builtins.__loader__:shared#opaque")), (kE P "__spec__" (.str "__spec__" 5) (.builtin "builtins.__spec__#opaque")), (kE P "__build_class__" (.str "__build_class__" 6) (.builtin "__build_class__")), (kE P "__import__" (.str "__import__" 7) (.builtin "__import__")), (kE P "abs" (.str "abs" 8) (.builtin "abs")), (kE P "all" (.str "all" 9) (.builtin "all")), (kE P "any" (.str "any" 10) (.builtin "any")), (kE P "ascii" (.str "ascii" 11) (.builtin "ascii")), (kE P "bin" (.str "bin" 12) (.builtin "bin")), (kE P "breakpoint" (.str "breakpoint" 13) (.builtin "breakpoint")), (kE P "callable" (.str "callable" 14) (.builtin "callable")), (kE P "chr" (.str "chr" 15) (.builtin "chr")), (kE P "compile" (.str "compile" 16) (.builtin "compile")), (kE P "delattr" (.str "delattr" 17) (.builtin "delattr")), (kE P "dir" (.str "dir" 18) (.builtin "dir")), (kE P "divmod" (.str "divmod" 19) (.builtin "divmod")), (kE P "eval" (.str "eval" 20) (.builtin "eval")), (kE P "exec" (.str "exec" 21) (.builtin "exec")), (kE P "format" (.str "format" 22) (.builtin "format")), (kE P "getattr" (.str "getattr" 23) (.builtin "getattr")), (kE P "globals" (.str "globals" 24) (.builtin "globals")), (kE P "hasattr" (.str "hasattr" 25) (.builtin "hasattr")), (kE P "hash" (.str "hash" 26) (.builtin "hash")), (kE P "hex" (.str "hex" 27) (.builtin "hex")), (kE P "id" (.str "id" 28) (.builtin "id")), (kE P "input" (.str "input" 29) (.builtin "input")), (kE P "isinstance" (.str "isinstance" 30) (.builtin "isinstance")), (kE P "issubclass" (.str "issubclass" 31) (.builtin "issubclass")), (kE P "iter" (.str "iter" 32) (.builtin "iter")), (kE P "aiter" (.str "aiter" 33) (.builtin "aiter")), (kE P "len" (.str "len" 34) (.builtin "len")), (kE P "locals" (.str "locals" 35) (.builtin "locals")), (kE P "max" (.str "max" 36) (.builtin "max")), (kE P "min" (.str "min" 37) (.builtin "min")), (kE P "next" (.str "next" 38) (.builtin "next")), (kE P "anext" (.str "anext" 39) (.builtin "anext")), (kE P "oct" (.str "oct" 40) (.builtin "oct")), (kE P "ord" (.str "ord" 41) (.builtin "ord")), (kE P "pow" (.str "pow" 42) (.builtin "pow")), (kE P "print" (.str "print" 43) (.builtin "print")), (kE P "repr" (.str "repr" 44) (.builtin "repr")), (kE P "round" (.str "round" 45) (.builtin "round")), (kE P "setattr" (.str "setattr" 46) (.builtin "setattr")), (kE P "sorted" (.str "sorted" 47) (.builtin "sorted")), (kE P "sum" (.str "sum" 48) (.builtin "sum")), (kE P "vars" (.str "vars" 49) (.builtin "vars")), (kE P "None" (.str "None" 50) .none), (kE P "Ellipsis" (.str "Ellipsis" 51) .ellipsis), (kE P "NotImplemented" (.str "NotImplemented" 52) .notImplemented), (kE P "False" (.str "False" 53) (.bool false)), (kE P "True" (.str "True" 54) (.bool true)), (kE P "bool" (.str "bool" 55) (.type "bool")), (kE P "memoryview" (.str "memoryview" 56) (.type "memoryview")), (kE P "bytearray" (.str "bytearray" 57) (.type "bytearray")), (kE P "bytes" (.str "bytes" 58) (.type "bytes")), (kE P "classmethod" (.str "classmethod" 59) (.type "classmethod")), (kE P "complex" (.str "complex" 60) (.type "complex")), (kE P "dict" (.str "dict" 61) (.type "dict")), (kE P "enumerate" (.str "enumerate" 62) (.type "enumerate")), (kE P "filter" (.str "filter" 63) (.type "filter")), (kE P "float" (.str "float" 64) (.type "float")), (kE P "frozenset" (.str "frozenset" 65) (.type "frozenset")), (kE P "property" (.str "property" 66) (.type "property")), (kE P "int" (.str "int" 67) (.type "int")), (kE P "list" (.str "list" 68) (.type "list")), (kE P "map" (.str "map" 69) (.type "map")), (kE P "object" (.str "object" 70) (.type "object")), (kE P "range" (.str "range" 71) (.type "range")), (kE P "reversed" (.str "reversed" 72) (.type "reversed")), (kE P "set" (.str "set" 73) (.type "set")), (kE P "slice" (.str "slice" 74) (.type "slice")), (kE P "staticmethod" (.str "staticmethod" 75) (.type "staticmethod")), (kE P "str" (.str "str" 76) (.type "str")), (kE P "super" (.str "super" 77) (.type "super")), (kE P "tuple" (.str "tuple" 78) (.type "tuple")), (kE P "type" (.str "type" 79) (.type "type")), (kE P "zip" (.str "zip" 80) (.type "zip")), (kE P "__debug__" (.str "__debug__" 81) (.bool true)), (kE P "BaseException" (.str "BaseException" 82) (.type "BaseException")), (kE P "BaseExceptionGroup" (.str "BaseExceptionGroup" 83) (.type "BaseExceptionGroup")), (kE P "Exception" (.str "Exception" 84) (.type "Exception")), (kE P "GeneratorExit" (.str "GeneratorExit" 85) (.type "GeneratorExit")), (kE P "KeyboardInterrupt" (.str "KeyboardInterrupt" 86) (.type "KeyboardInterrupt")), (kE P "SystemExit" (.str "SystemExit" 87) (.type "SystemExit")), (kE P "ArithmeticError" (.str "ArithmeticError" 88) (.type "ArithmeticError")), (kE P "AssertionError" (.str "AssertionError" 89) (.type "AssertionError")), (kE P "AttributeError" (.str "AttributeError" 90) (.type "AttributeError")), (kE P "BufferError" (.str "BufferError" 91) (.type "BufferError")), (kE P "EOFError" (.str "EOFError" 92) (.type "EOFError")), (kE P "ImportError" (.str "ImportError" 93) (.type "ImportError")), (kE P "LookupError" (.str "LookupError" 94) (.type "LookupError")), (kE P "MemoryError" (.str "MemoryError" 95) (.type "MemoryError")), (kE P "NameError" (.str "NameError" 96) (.type "NameError")), (kE P "OSError" (.str "OSError" 97) (.type "OSError")), (kE P "ReferenceError" (.str "ReferenceError" 98) (.type "ReferenceError")), (kE P "RuntimeError" (.str "RuntimeError" 99) (.type "RuntimeError")), (kE P "StopAsyncIteration" (.str "StopAsyncIteration" 100) (.type "StopAsyncIteration")), (kE P "StopIteration" (.str "StopIteration" 101) (.type "StopIteration")), (kE P "SyntaxError" (.str "SyntaxError" 102) (.type "SyntaxError")), (kE P "SystemError" (.str "SystemError" 103) (.type "SystemError")), (kE P "TypeError" (.str "TypeError" 104) (.type "TypeError")), (kE P "ValueError" (.str "ValueError" 105) (.type "ValueError")), (kE P "Warning" (.str "Warning" 106) (.type "Warning")), (kE P "FloatingPointError" (.str "FloatingPointError" 107) (.type "FloatingPointError")), (kE P "OverflowError" (.str "OverflowError" 108) (.type "OverflowError")), (kE P "ZeroDivisionError" (.str "ZeroDivisionError" 109) (.type "ZeroDivisionError")), (kE P "BytesWarning" (.str "BytesWarning" 110) (.type "BytesWarning")), (kE P "DeprecationWarning" (.str "DeprecationWarning" 111) (.type "DeprecationWarning")), (kE P "EncodingWarning" (.str "EncodingWarning" 112) (.type "EncodingWarning")), (kE P "FutureWarning" (.str "FutureWarning" 113) (.type "FutureWarning")), (kE P "ImportWarning" (.str "ImportWarning" 114) (.type "ImportWarning")), (kE P "PendingDeprecationWarning" (.str "PendingDeprecationWarning" 115) (.type "PendingDeprecationWarning")), (kE P "ResourceWarning" (.str "ResourceWarning" 116) (.type "ResourceWarning")), (kE P "RuntimeWarning" (.str "RuntimeWarning" 117) (.type "RuntimeWarning")), (kE P "SyntaxWarning" (.str "SyntaxWarning" 118) (.type "SyntaxWarning")), (kE P "UnicodeWarning" (.str "UnicodeWarning" 119) (.type "UnicodeWarning")), (kE P "UserWarning" (.str "UserWarning" 120) (.type "UserWarning")), (kE P "BlockingIOError" (.str "BlockingIOError" 121) (.type "BlockingIOError")), (kE P "ChildProcessError" (.str "ChildProcessError" 122) (.type "ChildProcessError")), (kE P "ConnectionError" (.str "ConnectionError" 123) (.type "ConnectionError")), (kE P "FileExistsError" (.str "FileExistsError" 124) (.type "FileExistsError")), (kE P "FileNotFoundError" (.str "FileNotFoundError" 125) (.type "FileNotFoundError")), (kE P "InterruptedError" (.str "InterruptedError" 126) (.type "InterruptedError")), (kE P "IsADirectoryError" (.str "IsADirectoryError" 127) (.type "IsADirectoryError")), (kE P "NotADirectoryError" (.str "NotADirectoryError" 128) (.type "NotADirectoryError")), (kE P "PermissionError" (.str "PermissionError" 129) (.type "PermissionError")), (kE P "ProcessLookupError" (.str "ProcessLookupError" 130) (.type "ProcessLookupError")), (kE P "TimeoutError" (.str "TimeoutError" 131) (.type "TimeoutError")), (kE P "IndentationError" (.str "IndentationError" 132) (.type "IndentationError")), (kE P "_IncompleteInputError" (.str "_IncompleteInputError" 133) (.type "_IncompleteInputError")), (kE P "IndexError" (.str "IndexError" 134) (.type "IndexError")), (kE P "KeyError" (.str "KeyError" 135) (.type "KeyError")), (kE P "ModuleNotFoundError" (.str "ModuleNotFoundError" 136) (.type "ModuleNotFoundError")), (kE P "NotImplementedError" (.str "NotImplementedError" 137) (.type "NotImplementedError")), (kE P "PythonFinalizationError" (.str "PythonFinalizationError" 138) (.type "PythonFinalizationError")), (kE P "RecursionError" (.str "RecursionError" 139) (.type "RecursionError")), (kE P "UnboundLocalError" (.str "UnboundLocalError" 140) (.type "UnboundLocalError")), (kE P "UnicodeError" (.str "UnicodeError" 141) (.type "UnicodeError")), (kE P "BrokenPipeError" (.str "BrokenPipeError" 142) (.type "BrokenPipeError")), (kE P "ConnectionAbortedError" (.str "ConnectionAbortedError" 143) (.type "ConnectionAbortedError")), (kE P "ConnectionRefusedError" (.str "ConnectionRefusedError" 144) (.type "ConnectionRefusedError")), (kE P "ConnectionResetError" (.str "ConnectionResetError" 145) (.type "ConnectionResetError")), (kE P "TabError" (.str "TabError" 146) (.type "TabError")), (kE P "UnicodeDecodeError" (.str "UnicodeDecodeError" 147) (.type "UnicodeDecodeError")), (kE P "UnicodeEncodeError" (.str "UnicodeEncodeError" 148) (.type "UnicodeEncodeError")), (kE P "UnicodeTranslateError" (.str "UnicodeTranslateError" 149) (.type "UnicodeTranslateError")), (kE P "ExceptionGroup" (.str "ExceptionGroup" 150) (.type "ExceptionGroup")), (kE P "EnvironmentError" (.str "EnvironmentError" 151) (.type "OSError")), (kE P "IOError" (.str "IOError" 152) (.type "OSError")), (kE P "open" (.str "open" 153) (.builtin "open")), (kE P "quit" (.str "quit" 154) (.builtin "builtins.quit#opaque")), (kE P "exit" (.str "exit" 155) (.builtin "builtins.exit#opaque")), (kE P "copyright" (.str "copyright" 156) (.builtin "builtins.copyright#opaque")), (kE P "credits" (.str "credits" 157) (.builtin "builtins.credits#opaque")), (kE P "license" (.str "license" 158) (.builtin "builtins.license#opaque")), (kE P "help" (.str "help" 159) (.builtin "builtins.help#opaque"))] 159, #[]⟩
noncomputable def oa_1 (P : Params) : Obj := ⟨(.type "dict"), none, .dict #[(kE P "builtins" (.str "builtins" 162) (.ref 4)), (kE P "__main__" (.str "__main__" 163) (.ref 5))] 2, #[]⟩
noncomputable def oa_2 (P : Params) : Obj := ⟨.none, none, .dict #[] 0, #[]⟩
noncomputable def oa_3 (P : Params) : Obj := ⟨(.type "dict"), none, .dict #[(kE P "__name__" (.str "__name__" 165) (.str "__main__" 164)), (kE P "__doc__" (.str "__doc__" 166) .none), (kE P "__package__" (.str "__package__" 167) .none), (kE P "__loader__" (.str "__loader__" 168) (.builtin "__main__.__loader__#opaque")), (kE P "__spec__" (.str "__spec__" 169) .none), (kE P "__annotations__" (.str "__annotations__" 170) (.ref 6)), (kE P "__builtins__" (.str "__builtins__" 171) (.ref 4)), (kE P "__file__" (.str "__file__" 173) (.str "/claim/cut.py" 172)), (kE P "__cached__" (.str "__cached__" 174) .none)] 9, #[]⟩
noncomputable def oa_4 (P : Params) : Obj := ⟨(.type "module"), (some 0), .plain, #[]⟩
noncomputable def oa_5 (P : Params) : Obj := ⟨(.type "module"), (some 3), .plain, #[]⟩
noncomputable def oa_6 (P : Params) : Obj := ⟨(.type "dict"), none, .dict #[] 0, #[]⟩
noncomputable def oa_7 (P : Params) : Obj := ⟨(.type "tuple"), none, .seq #[] 0, #[]⟩
noncomputable def oa_8 (P : Params) : Obj := ⟨.none, none, .fields #[], #[]⟩
noncomputable def oa_9 (P : Params) : Obj := ⟨(.type "code"), none, .fields #[(.str "<module>" 176), (.str "<module>" 177), (.str "/claim/cut.py" 178), (.int (1) 0), (.int (0) 0), (.int (0) 0), (.int (0) 0), (.int (0) 0), (.ref 7), (.bool false), (.int (175) 0), (.ref 8), .none, .none, .none, .none, (.int (179) 0), (.int (1) 0), (.str "/claim/cut.py" 180)], #[]⟩
noncomputable def oa_10 (P : Params) : Obj := ⟨(.type "frame"), none, .plain, #[(some (.ref 9)), (some (.ref 3)), (some (.ref 3)), none, (some (.str "__main__" 164)), none, (some (.ref 0))]⟩
noncomputable def oa_11 (P : Params) : Obj := ⟨(.type "tuple"), none, .seq #[] 0, #[]⟩
noncomputable def oa_12 (P : Params) : Obj := ⟨.none, none, .fields #[], #[]⟩
noncomputable def oa_13 (P : Params) : Obj := ⟨(.type "code"), none, .fields #[(.str "<module>" 182), (.str "<module>" 183), (.str "/claim/cut.py" 184), (.int (1) 0), (.int (0) 0), (.int (0) 0), (.int (0) 0), (.int (0) 0), (.ref 11), (.bool false), (.int (181) 0), (.ref 12), .none, .none, .none, .none, (.int (185) 0), (.int (1) 0), (.str "/claim/cut.py" 186)], #[]⟩
noncomputable def oa_14 (P : Params) : Obj := ⟨(.type "frame"), none, .plain, #[(some (.ref 13)), (some (.ref 3)), (some (.ref 3)), none, (some (.str "__main__" 164)), none, (some (.ref 0))]⟩
noncomputable def ta (P : Params) : BT := (.node (oa_0 P) (.node (oa_1 P) (.node (oa_3 P) (.node (oa_7 P) .nil .nil) (.node (oa_11 P) .nil .nil)) (.node (oa_5 P) (.node (oa_9 P) .nil .nil) (.node (oa_13 P) .nil .nil))) (.node (oa_2 P) (.node (oa_4 P) (.node (oa_8 P) .nil .nil) (.node (oa_12 P) .nil .nil)) (.node (oa_6 P) (.node (oa_10 P) .nil .nil) (.node (oa_14 P) .nil .nil))))
noncomputable def na : Nat := 15
noncomputable def ka : Nat := 187
noncomputable def qa : Pos := ⟨0, 0, 0, 0⟩
noncomputable def o18_3 (P : Params) : Obj := ⟨(.type "dict"), none, .dict #[(kE P "__name__" (.str "__name__" 165) (.str "stripehole.stripes" 268)), (kE P "__doc__" (.str "__doc__" 166) .none), (kE P "__package__" (.str "__package__" 167) .none), (kE P "__loader__" (.str "__loader__" 168) (.builtin "__main__.__loader__#opaque")), (kE P "__spec__" (.str "__spec__" 169) .none), (kE P "__annotations__" (.str "__annotations__" 170) (.ref 6)), (kE P "__builtins__" (.str "__builtins__" 171) (.ref 4)), (kE P "__file__" (.str "__file__" 173) (.str "/claim/cut.py" 172)), (kE P "__cached__" (.str "__cached__" 174) .none), (kE P "_wall" (.str "_wall" 193) (.ref 21)), (kE P "StripeError" (.str "StripeError" 213) (.ref 31)), (kE P "BadStripe" (.str "BadStripe" 240) (.ref 53)), (kE P "BadPlan" (.str "BadPlan" 267) (.ref 74)), (kE P "MOST_BLOCKS" (.str "MOST_BLOCKS" 271) (.int (3) 270)), (kE P "MOST_STEPS" (.str "MOST_STEPS" 273) (.int (10) 272)), (kE P "REPAIRS" (.str "REPAIRS" 278) (.ref 77)), (kE P "STEPS" (.str "STEPS" 291) (.ref 78)), (kE P "COUPLES" (.str "COUPLES" 298) (.ref 82)), (kE P "is_number" (.str "is_number" 307) (.ref 89)), (kE P "is_word" (.str "is_word" 315) (.ref 96)), (kE P "is_sum" (.str "is_sum" 321) (.ref 101)), (kE P "are_sums" (.str "are_sums" 327) (.ref 106)), (kE P "Stripe" (.str "Stripe" 421) (.ref 165)), (kE P "is_couple_right" (.str "is_couple_right" 430) (.ref 177)), (kE P "are_steps" (.str "are_steps" 436) (.ref 182))] 25, #[]⟩
noncomputable def o18_12 (P : Params) : Obj := ⟨.none, none, .fields #[(.int (1) 0), (.int (0) 0), (.ref 20), (.int (5) 0), (.int (0) 0), (.ref 27), (.int (7) 0), (.int (0) 0), (.ref 41), (.int (12) 0), (.int (0) 0), (.ref 62), (.int (23) 0), (.int (0) 0), (.ref 88), (.int (25) 0), (.int (0) 0), (.ref 95), (.int (27) 0), (.int (0) 0), (.ref 100), (.int (31) 0), (.int (0) 0), (.ref 105), (.int (37) 0), (.int (0) 0), (.ref 112), (.int (66) 0), (.int (0) 0), (.ref 176), (.int (70) 0), (.int (0) 0), (.ref 181)], #[]⟩
noncomputable def o18_15 (P : Params) : Obj := ⟨(.type "tuple"), none, .seq #[] 0, #[]⟩
noncomputable def o18_16 (P : Params) : Obj := ⟨.none, none, .fields #[], #[]⟩
noncomputable def o18_17 (P : Params) : Obj := ⟨(.type "tuple"), none, .seq #[(.str "k" 190)] 0, #[]⟩
noncomputable def o18_18 (P : Params) : Obj := ⟨(.type "tuple"), none, .seq #[] 0, #[]⟩
noncomputable def o18_19 (P : Params) : Obj := ⟨.none, none, .func (fD (tp 0) "_wall" "_wall" 0 [] .none .none .none .none none .none .none 0), #[]⟩
noncomputable def o18_20 (P : Params) : Obj := ⟨(.type "code"), none, .fields #[(.str "_wall" 187), (.str "_wall" 188), (.str "/claim/cut.py" 189), (.int (1) 0), (.int (1) 0), (.int (0) 0), (.int (0) 0), (.int (3) 0), (.ref 15), (.bool true), (.int (181) 0), (.ref 16), .none, (.ref 17), (.ref 18), (.ref 19), (.int (191) 0), (.int (1) 0), (.str "/claim/cut.py" 192)], #[]⟩
noncomputable def o18_21 (P : Params) : Obj := ⟨(.type "function"), none, .func (fD (tp 0) "_wall" "_wall" 3 [] .none .none .none (.str "__main__" 164) none (.ref 20) .none 0), #[]⟩
noncomputable def o18_22 (P : Params) : Obj := ⟨(.type "tuple"), none, .seq #[(.type "ValueError")] 0, #[]⟩
noncomputable def o18_23 (P : Params) : Obj := ⟨(.type "builtin_function_or_method"), none, .fields #[(.builtin "type.__prepare__"), (.type "type")], #[]⟩
noncomputable def o18_24 (P : Params) : Obj := ⟨(.type "dict"), none, .dict #[(kE P "__module__" (.str "__module__" 203) (.str "stripehole.errors" 194)), (kE P "__qualname__" (.str "__qualname__" 205) (.str "StripeError" 204)), (kE P "__firstlineno__" (.str "__firstlineno__" 207) (.int (5) 206)), (kE P "__static_attributes__" (.str "__static_attributes__" 208) (.ref 29))] 4, #[]⟩
noncomputable def o18_25 (P : Params) : Obj := ⟨(.type "tuple"), none, .seq #[] 0, #[]⟩
noncomputable def o18_26 (P : Params) : Obj := ⟨.none, none, .fields #[], #[]⟩
noncomputable def o18_27 (P : Params) : Obj := ⟨(.type "code"), none, .fields #[(.str "StripeError" 198), (.str "StripeError" 199), (.str "/claim/cut.py" 200), (.int (5) 0), (.int (0) 0), (.int (0) 0), (.int (0) 0), (.int (0) 0), (.ref 25), (.bool false), (.int (181) 0), (.ref 26), .none, .none, .none, .none, (.int (201) 0), (.int (5) 0), (.str "/claim/cut.py" 202)], #[]⟩
noncomputable def o18_28 (P : Params) : Obj := ⟨(.type "frame"), none, .plain, #[(some (.ref 27)), (some (.ref 3)), (some (.ref 24)), none, (some (.str "stripehole.errors" 194)), none, (some (.ref 0))]⟩
noncomputable def o18_29 (P : Params) : Obj := ⟨(.type "tuple"), none, .seq #[] 0, #[]⟩
noncomputable def o18_30 (P : Params) : Obj := ⟨(.type "dict"), none, .dict #[(kE P "__module__" (.str "__module__" 203) (.str "stripehole.errors" 194)), (kE P "__firstlineno__" (.str "__firstlineno__" 207) (.int (5) 206)), (kE P "__static_attributes__" (.str "__static_attributes__" 208) (.ref 29)), (kE P "__weakref__" (.str "__weakref__" 210) (.ref 32)), (kE P "__doc__" (.str "__doc__" 211) .none)] 3, #[]⟩
noncomputable def o18_31 (P : Params) : Obj := ⟨(.type "type"), none, .cls ⟨"StripeError", [(.type "ValueError")], [(.ref 31), (.type "ValueError"), (.type "Exception"), (.type "BaseException"), (.type "object")], 30, "StripeError", true, [], [(.ref 53), (.ref 74)], false, none, false⟩, #[(some (.ref 22)), none, (some (.str "StripeError" 196)), (some (.str "StripeError" 204)), (some (.builtin "ValueError.__new__")), (some (.bool true))]⟩
noncomputable def o18_32 (P : Params) : Obj := ⟨(.type "getset_descriptor"), none, .fields #[(.str "__weakref__" 209), (.ref 31), (.builtin "ExceptionGroup.__weakref__"), .none], #[]⟩
noncomputable def o18_33 (P : Params) : Obj := ⟨(.type "super"), none, .fields #[(.ref 31), (.ref 31), (.ref 31)], #[]⟩
noncomputable def o18_34 (P : Params) : Obj := ⟨(.type "builtin_function_or_method"), none, .fields #[(.builtin "object.__init_subclass__"), (.ref 31)], #[]⟩
noncomputable def o18_35 (P : Params) : Obj := ⟨(.type "tuple"), none, .seq #[(.ref 31)] 0, #[]⟩
noncomputable def o18_36 (P : Params) : Obj := ⟨(.type "builtin_function_or_method"), none, .fields #[(.builtin "type.__prepare__"), (.type "type")], #[]⟩
noncomputable def o18_37 (P : Params) : Obj := ⟨(.type "dict"), none, .dict #[(kE P "__module__" (.str "__module__" 221) (.str "stripehole.errors" 194)), (kE P "__qualname__" (.str "__qualname__" 223) (.str "BadStripe" 222)), (kE P "__firstlineno__" (.str "__firstlineno__" 225) (.int (7) 224)), (kE P "__init__" (.str "__init__" 234) (.ref 50)), (kE P "__static_attributes__" (.str "__static_attributes__" 236) (.ref 51)), (kE P "__classcell__" (.str "__classcell__" 237) (.ref 38))] 6, #[]⟩
noncomputable def o18_38 (P : Params) : Obj := ⟨(.type "cell"), none, .cell (some (.ref 53)), #[]⟩
noncomputable def o18_39 (P : Params) : Obj := ⟨(.type "tuple"), none, .seq #[] 0, #[]⟩
noncomputable def o18_40 (P : Params) : Obj := ⟨.none, none, .fields #[(.int (9) 0), (.int (4) 0), (.ref 49)], #[]⟩
noncomputable def o18_41 (P : Params) : Obj := ⟨(.type "code"), none, .fields #[(.str "BadStripe" 216), (.str "BadStripe" 217), (.str "/claim/cut.py" 218), (.int (7) 0), (.int (0) 0), (.int (0) 0), (.int (0) 0), (.int (0) 0), (.ref 39), (.bool false), (.int (181) 0), (.ref 40), .none, .none, .none, .none, (.int (219) 0), (.int (7) 0), (.str "/claim/cut.py" 220)], #[]⟩
noncomputable def o18_42 (P : Params) : Obj := ⟨(.type "frame"), none, .plain, #[(some (.ref 41)), (some (.ref 3)), (some (.ref 37)), none, (some (.str "stripehole.errors" 194)), none, (some (.ref 0))]⟩
noncomputable def o18_43 (P : Params) : Obj := ⟨(.type "tuple"), none, .seq #[(.ref 38)] 0, #[]⟩
noncomputable def o18_44 (P : Params) : Obj := ⟨(.type "tuple"), none, .seq #[(.str "__class__" 229)] 0, #[]⟩
noncomputable def o18_45 (P : Params) : Obj := ⟨.none, none, .fields #[], #[]⟩
noncomputable def o18_46 (P : Params) : Obj := ⟨(.type "tuple"), none, .seq #[(.str "self" 230), (.str "part" 231)] 0, #[]⟩
noncomputable def o18_47 (P : Params) : Obj := ⟨(.type "tuple"), none, .seq #[] 0, #[]⟩
noncomputable def o18_48 (P : Params) : Obj := ⟨.none, none, .func (fD (mt 3 0) "__init__" "BadStripe.__init__" 0 [] .none .none .none .none none .none .none 0), #[]⟩
noncomputable def o18_49 (P : Params) : Obj := ⟨(.type "code"), none, .fields #[(.str "__init__" 226), (.str "BadStripe.__init__" 227), (.str "/claim/cut.py" 228), (.int (9) 0), (.int (2) 0), (.int (0) 0), (.int (0) 0), (.int (3) 0), (.ref 44), (.bool true), (.int (181) 0), (.ref 45), .none, (.ref 46), (.ref 47), (.ref 48), (.int (232) 0), (.int (9) 0), (.str "/claim/cut.py" 233)], #[]⟩
noncomputable def o18_50 (P : Params) : Obj := ⟨(.type "function"), none, .func (fD (mt 3 0) "__init__" "BadStripe.__init__" 3 [("__class__", 38)] .none .none .none (.str "stripehole.errors" 194) none (.ref 49) (.ref 43) 0), #[]⟩
noncomputable def o18_51 (P : Params) : Obj := ⟨(.type "tuple"), none, .seq #[(.str "part" 235)] 0, #[]⟩
noncomputable def o18_52 (P : Params) : Obj := ⟨(.type "dict"), none, .dict #[(kE P "__module__" (.str "__module__" 221) (.str "stripehole.errors" 194)), (kE P "__firstlineno__" (.str "__firstlineno__" 225) (.int (7) 224)), (kE P "__init__" (.str "__init__" 234) (.ref 50)), (kE P "__static_attributes__" (.str "__static_attributes__" 236) (.ref 51)), (kE P "__doc__" (.str "__doc__" 238) .none)] 3, #[]⟩
noncomputable def o18_53 (P : Params) : Obj := ⟨(.type "type"), none, .cls ⟨"BadStripe", [(.ref 31)], [(.ref 53), (.ref 31), (.type "ValueError"), (.type "Exception"), (.type "BaseException"), (.type "object")], 52, "BadStripe", true, [], [], false, none, false⟩, #[(some (.ref 35)), none, (some (.str "BadStripe" 214)), (some (.str "BadStripe" 222)), (some (.builtin "ValueError.__new__")), (some (.bool true))]⟩
noncomputable def o18_54 (P : Params) : Obj := ⟨(.type "super"), none, .fields #[(.ref 53), (.ref 53), (.ref 53)], #[]⟩
noncomputable def o18_55 (P : Params) : Obj := ⟨(.type "builtin_function_or_method"), none, .fields #[(.builtin "object.__init_subclass__"), (.ref 53)], #[]⟩
noncomputable def o18_56 (P : Params) : Obj := ⟨(.type "tuple"), none, .seq #[(.ref 31)] 0, #[]⟩
noncomputable def o18_57 (P : Params) : Obj := ⟨(.type "builtin_function_or_method"), none, .fields #[(.builtin "type.__prepare__"), (.type "type")], #[]⟩
noncomputable def o18_58 (P : Params) : Obj := ⟨(.type "dict"), none, .dict #[(kE P "__module__" (.str "__module__" 248) (.str "stripehole.errors" 194)), (kE P "__qualname__" (.str "__qualname__" 250) (.str "BadPlan" 249)), (kE P "__firstlineno__" (.str "__firstlineno__" 252) (.int (12) 251)), (kE P "__init__" (.str "__init__" 261) (.ref 71)), (kE P "__static_attributes__" (.str "__static_attributes__" 263) (.ref 72)), (kE P "__classcell__" (.str "__classcell__" 264) (.ref 59))] 6, #[]⟩
noncomputable def o18_59 (P : Params) : Obj := ⟨(.type "cell"), none, .cell (some (.ref 74)), #[]⟩
noncomputable def o18_60 (P : Params) : Obj := ⟨(.type "tuple"), none, .seq #[] 0, #[]⟩
noncomputable def o18_61 (P : Params) : Obj := ⟨.none, none, .fields #[(.int (14) 0), (.int (4) 0), (.ref 70)], #[]⟩
noncomputable def o18_62 (P : Params) : Obj := ⟨(.type "code"), none, .fields #[(.str "BadPlan" 243), (.str "BadPlan" 244), (.str "/claim/cut.py" 245), (.int (12) 0), (.int (0) 0), (.int (0) 0), (.int (0) 0), (.int (0) 0), (.ref 60), (.bool false), (.int (181) 0), (.ref 61), .none, .none, .none, .none, (.int (246) 0), (.int (12) 0), (.str "/claim/cut.py" 247)], #[]⟩
noncomputable def o18_63 (P : Params) : Obj := ⟨(.type "frame"), none, .plain, #[(some (.ref 62)), (some (.ref 3)), (some (.ref 58)), none, (some (.str "stripehole.errors" 194)), none, (some (.ref 0))]⟩
noncomputable def o18_64 (P : Params) : Obj := ⟨(.type "tuple"), none, .seq #[(.ref 59)] 0, #[]⟩
noncomputable def o18_65 (P : Params) : Obj := ⟨(.type "tuple"), none, .seq #[(.str "__class__" 256)] 0, #[]⟩
noncomputable def o18_66 (P : Params) : Obj := ⟨.none, none, .fields #[], #[]⟩
noncomputable def o18_67 (P : Params) : Obj := ⟨(.type "tuple"), none, .seq #[(.str "self" 257), (.str "part" 258)] 0, #[]⟩
noncomputable def o18_68 (P : Params) : Obj := ⟨(.type "tuple"), none, .seq #[] 0, #[]⟩
noncomputable def o18_69 (P : Params) : Obj := ⟨.none, none, .func (fD (mt 4 0) "__init__" "BadPlan.__init__" 0 [] .none .none .none .none none .none .none 0), #[]⟩
noncomputable def o18_70 (P : Params) : Obj := ⟨(.type "code"), none, .fields #[(.str "__init__" 253), (.str "BadPlan.__init__" 254), (.str "/claim/cut.py" 255), (.int (14) 0), (.int (2) 0), (.int (0) 0), (.int (0) 0), (.int (3) 0), (.ref 65), (.bool true), (.int (181) 0), (.ref 66), .none, (.ref 67), (.ref 68), (.ref 69), (.int (259) 0), (.int (14) 0), (.str "/claim/cut.py" 260)], #[]⟩
noncomputable def o18_71 (P : Params) : Obj := ⟨(.type "function"), none, .func (fD (mt 4 0) "__init__" "BadPlan.__init__" 3 [("__class__", 59)] .none .none .none (.str "stripehole.errors" 194) none (.ref 70) (.ref 64) 0), #[]⟩
noncomputable def o18_72 (P : Params) : Obj := ⟨(.type "tuple"), none, .seq #[(.str "part" 262)] 0, #[]⟩
noncomputable def o18_73 (P : Params) : Obj := ⟨(.type "dict"), none, .dict #[(kE P "__module__" (.str "__module__" 248) (.str "stripehole.errors" 194)), (kE P "__firstlineno__" (.str "__firstlineno__" 252) (.int (12) 251)), (kE P "__init__" (.str "__init__" 261) (.ref 71)), (kE P "__static_attributes__" (.str "__static_attributes__" 263) (.ref 72)), (kE P "__doc__" (.str "__doc__" 265) .none)] 3, #[]⟩
noncomputable def o18_74 (P : Params) : Obj := ⟨(.type "type"), none, .cls ⟨"BadPlan", [(.ref 31)], [(.ref 74), (.ref 31), (.type "ValueError"), (.type "Exception"), (.type "BaseException"), (.type "object")], 73, "BadPlan", true, [], [], false, none, false⟩, #[(some (.ref 56)), none, (some (.str "BadPlan" 241)), (some (.str "BadPlan" 249)), (some (.builtin "ValueError.__new__")), (some (.bool true))]⟩
noncomputable def o18_75 (P : Params) : Obj := ⟨(.type "super"), none, .fields #[(.ref 74), (.ref 74), (.ref 74)], #[]⟩
noncomputable def o18_76 (P : Params) : Obj := ⟨(.type "builtin_function_or_method"), none, .fields #[(.builtin "object.__init_subclass__"), (.ref 74)], #[]⟩
noncomputable def o18_77 (P : Params) : Obj := ⟨(.type "tuple"), none, .seq #[(.str "none" 274), (.str "marked" 275), (.str "always" 276), (.str "noted" 277)] 0, #[]⟩
noncomputable def o18_78 (P : Params) : Obj := ⟨(.type "tuple"), none, .seq #[(.str "old" 279), (.str "sums" 280), (.str "rest" 281), (.str "data" 282), (.str "delta" 283), (.str "fresh" 284), (.str "note" 285), (.str "drop" 286), (.str "mark" 287), (.str "clear" 288), (.str "lock" 289), (.str "free" 290)] 0, #[]⟩
noncomputable def o18_79 (P : Params) : Obj := ⟨(.type "tuple"), none, .seq #[(.str "lock" 292), (.str "free" 293)] 0, #[]⟩
noncomputable def o18_80 (P : Params) : Obj := ⟨(.type "tuple"), none, .seq #[(.str "mark" 294), (.str "clear" 295)] 0, #[]⟩
noncomputable def o18_81 (P : Params) : Obj := ⟨(.type "tuple"), none, .seq #[(.str "note" 296), (.str "drop" 297)] 0, #[]⟩
noncomputable def o18_82 (P : Params) : Obj := ⟨(.type "tuple"), none, .seq #[(.ref 79), (.ref 80), (.ref 81)] 0, #[]⟩
noncomputable def o18_83 (P : Params) : Obj := ⟨(.type "tuple"), none, .seq #[] 0, #[]⟩
noncomputable def o18_84 (P : Params) : Obj := ⟨.none, none, .fields #[], #[]⟩
noncomputable def o18_85 (P : Params) : Obj := ⟨(.type "tuple"), none, .seq #[(.str "thing" 302), (.str "low" 303), (.str "high" 304)] 0, #[]⟩
noncomputable def o18_86 (P : Params) : Obj := ⟨(.type "tuple"), none, .seq #[] 0, #[]⟩
noncomputable def o18_87 (P : Params) : Obj := ⟨.none, none, .func (fD (tp 11) "is_number" "is_number" 0 [] .none .none .none .none none .none .none 0), #[]⟩
noncomputable def o18_88 (P : Params) : Obj := ⟨(.type "code"), none, .fields #[(.str "is_number" 299), (.str "is_number" 300), (.str "/claim/cut.py" 301), (.int (23) 0), (.int (3) 0), (.int (0) 0), (.int (0) 0), (.int (3) 0), (.ref 83), (.bool true), (.int (181) 0), (.ref 84), .none, (.ref 85), (.ref 86), (.ref 87), (.int (305) 0), (.int (23) 0), (.str "/claim/cut.py" 306)], #[]⟩
noncomputable def o18_89 (P : Params) : Obj := ⟨(.type "function"), none, .func (fD (tp 11) "is_number" "is_number" 3 [] .none .none .none (.str "stripehole.stripes" 268) none (.ref 88) .none 0), #[]⟩
noncomputable def o18_90 (P : Params) : Obj := ⟨(.type "tuple"), none, .seq #[] 0, #[]⟩
noncomputable def o18_91 (P : Params) : Obj := ⟨.none, none, .fields #[], #[]⟩
noncomputable def o18_92 (P : Params) : Obj := ⟨(.type "tuple"), none, .seq #[(.str "thing" 311), (.str "words" 312)] 0, #[]⟩
noncomputable def o18_93 (P : Params) : Obj := ⟨(.type "tuple"), none, .seq #[] 0, #[]⟩
noncomputable def o18_94 (P : Params) : Obj := ⟨.none, none, .func (fD (tp 12) "is_word" "is_word" 0 [] .none .none .none .none none .none .none 0), #[]⟩
noncomputable def o18_95 (P : Params) : Obj := ⟨(.type "code"), none, .fields #[(.str "is_word" 308), (.str "is_word" 309), (.str "/claim/cut.py" 310), (.int (25) 0), (.int (2) 0), (.int (0) 0), (.int (0) 0), (.int (3) 0), (.ref 90), (.bool true), (.int (181) 0), (.ref 91), .none, (.ref 92), (.ref 93), (.ref 94), (.int (313) 0), (.int (25) 0), (.str "/claim/cut.py" 314)], #[]⟩
noncomputable def o18_96 (P : Params) : Obj := ⟨(.type "function"), none, .func (fD (tp 12) "is_word" "is_word" 3 [] .none .none .none (.str "stripehole.stripes" 268) none (.ref 95) .none 0), #[]⟩
noncomputable def o18_97 (P : Params) : Obj := ⟨(.type "tuple"), none, .seq #[] 0, #[]⟩
noncomputable def o18_98 (P : Params) : Obj := ⟨.none, none, .fields #[], #[]⟩
noncomputable def o18_99 (P : Params) : Obj := ⟨.none, none, .func (fD (tp 13) "is_sum" "is_sum" 0 [] .none .none .none .none none .none .none 0), #[]⟩
noncomputable def o18_100 (P : Params) : Obj := ⟨(.type "code"), none, .fields #[(.str "is_sum" 316), (.str "is_sum" 317), (.str "/claim/cut.py" 318), (.int (27) 0), (.int (2) 0), (.int (0) 0), (.int (0) 0), (.int (3) 0), (.ref 97), (.bool true), (.int (181) 0), (.ref 98), .none, .none, .none, (.ref 99), (.int (319) 0), (.int (27) 0), (.str "/claim/cut.py" 320)], #[]⟩
noncomputable def o18_101 (P : Params) : Obj := ⟨(.type "function"), none, .func (fD (tp 13) "is_sum" "is_sum" 3 [] .none .none .none (.str "stripehole.stripes" 268) none (.ref 100) .none 0), #[]⟩
noncomputable def o18_102 (P : Params) : Obj := ⟨(.type "tuple"), none, .seq #[] 0, #[]⟩
noncomputable def o18_103 (P : Params) : Obj := ⟨.none, none, .fields #[], #[]⟩
noncomputable def o18_104 (P : Params) : Obj := ⟨.none, none, .func (fD (tp 14) "are_sums" "are_sums" 0 [] .none .none .none .none none .none .none 0), #[]⟩
noncomputable def o18_105 (P : Params) : Obj := ⟨(.type "code"), none, .fields #[(.str "are_sums" 322), (.str "are_sums" 323), (.str "/claim/cut.py" 324), (.int (31) 0), (.int (2) 0), (.int (0) 0), (.int (0) 0), (.int (3) 0), (.ref 102), (.bool true), (.int (181) 0), (.ref 103), .none, .none, .none, (.ref 104), (.int (325) 0), (.int (31) 0), (.str "/claim/cut.py" 326)], #[]⟩
noncomputable def o18_106 (P : Params) : Obj := ⟨(.type "function"), none, .func (fD (tp 14) "are_sums" "are_sums" 3 [] .none .none .none (.str "stripehole.stripes" 268) none (.ref 105) .none 0), #[]⟩
noncomputable def o18_107 (P : Params) : Obj := ⟨(.type "tuple"), none, .seq #[] 0, #[]⟩
noncomputable def o18_108 (P : Params) : Obj := ⟨(.type "builtin_function_or_method"), none, .fields #[(.builtin "type.__prepare__"), (.type "type")], #[]⟩
noncomputable def o18_109 (P : Params) : Obj := ⟨(.type "dict"), none, .dict #[(kE P "__module__" (.str "__module__" 335) (.str "stripehole.stripes" 268)), (kE P "__qualname__" (.str "__qualname__" 337) (.str "Stripe" 336)), (kE P "__firstlineno__" (.str "__firstlineno__" 339) (.int (37) 338)), (kE P "__slots__" (.str "__slots__" 343) (.ref 114)), (kE P "__init__" (.str "__init__" 354) (.ref 122)), (kE P "plain" (.str "plain" 377) (.ref 132)), (kE P "parts" (.str "parts" 384) (.ref 140)), (kE P "__len__" (.str "__len__" 391) (.ref 147)), (kE P "__eq__" (.str "__eq__" 399) (.ref 154)), (kE P "__add__" (.str "__add__" 407) (.ref 161)), (kE P "__static_attributes__" (.str "__static_attributes__" 411) (.ref 162))] 11, #[]⟩
noncomputable def o18_110 (P : Params) : Obj := ⟨(.type "tuple"), none, .seq #[] 0, #[]⟩
noncomputable def o18_111 (P : Params) : Obj := ⟨.none, none, .fields #[(.int (40) 0), (.int (4) 0), (.ref 121), (.int (52) 0), (.int (4) 0), (.ref 129), (.int (55) 0), (.int (4) 0), (.ref 139), (.int (58) 0), (.int (4) 0), (.ref 146), (.int (61) 0), (.int (4) 0), (.ref 153), (.int (64) 0), (.int (4) 0), (.ref 160)], #[]⟩
noncomputable def o18_112 (P : Params) : Obj := ⟨(.type "code"), none, .fields #[(.str "Stripe" 330), (.str "Stripe" 331), (.str "/claim/cut.py" 332), (.int (37) 0), (.int (0) 0), (.int (0) 0), (.int (0) 0), (.int (0) 0), (.ref 110), (.bool false), (.int (181) 0), (.ref 111), .none, .none, .none, .none, (.int (333) 0), (.int (37) 0), (.str "/claim/cut.py" 334)], #[]⟩
noncomputable def o18_113 (P : Params) : Obj := ⟨(.type "frame"), none, .plain, #[(some (.ref 112)), (some (.ref 3)), (some (.ref 109)), none, (some (.str "stripehole.stripes" 268)), none, (some (.ref 0))]⟩
noncomputable def o18_114 (P : Params) : Obj := ⟨(.type "tuple"), none, .seq #[(.str "blocks" 340), (.str "sums" 341), (.str "jobs" 342)] 0, #[]⟩
noncomputable def o18_115 (P : Params) : Obj := ⟨(.type "tuple"), none, .seq #[(.int (1) 344)] 0, #[]⟩
noncomputable def o18_116 (P : Params) : Obj := ⟨(.type "tuple"), none, .seq #[] 0, #[]⟩
noncomputable def o18_117 (P : Params) : Obj := ⟨.none, none, .fields #[], #[]⟩
noncomputable def o18_118 (P : Params) : Obj := ⟨(.type "tuple"), none, .seq #[(.str "self" 348), (.str "blocks" 349), (.str "sums" 350), (.str "jobs" 351)] 0, #[]⟩
noncomputable def o18_119 (P : Params) : Obj := ⟨(.type "tuple"), none, .seq #[] 0, #[]⟩
noncomputable def o18_120 (P : Params) : Obj := ⟨.none, none, .func (fD (mt 15 1) "__init__" "Stripe.__init__" 0 [] .none .none .none .none none .none .none 0), #[]⟩
noncomputable def o18_121 (P : Params) : Obj := ⟨(.type "code"), none, .fields #[(.str "__init__" 345), (.str "Stripe.__init__" 346), (.str "/claim/cut.py" 347), (.int (40) 0), (.int (4) 0), (.int (0) 0), (.int (0) 0), (.int (3) 0), (.ref 116), (.bool true), (.int (181) 0), (.ref 117), .none, (.ref 118), (.ref 119), (.ref 120), (.int (352) 0), (.int (40) 0), (.str "/claim/cut.py" 353)], #[]⟩
noncomputable def o18_122 (P : Params) : Obj := ⟨(.type "function"), none, .func (fD (mt 15 1) "__init__" "Stripe.__init__" 3 [] (.ref 115) .none .none (.str "stripehole.stripes" 268) none (.ref 121) .none 0), #[]⟩
noncomputable def o18_123 (P : Params) : Obj := ⟨(.type "dict"), none, .dict #[(kE P "jobs" (.str "jobs" 356) (.int (1) 355))] 1, #[]⟩
noncomputable def o18_124 (P : Params) : Obj := ⟨(.type "tuple"), none, .seq #[] 0, #[]⟩
noncomputable def o18_125 (P : Params) : Obj := ⟨.none, none, .fields #[], #[]⟩
noncomputable def o18_126 (P : Params) : Obj := ⟨(.type "tuple"), none, .seq #[(.str "cls" 360), (.str "blocks" 361), (.str "jobs" 362)] 0, #[]⟩
noncomputable def o18_127 (P : Params) : Obj := ⟨(.type "tuple"), none, .seq #[] 0, #[]⟩
noncomputable def o18_128 (P : Params) : Obj := ⟨.none, none, .func (fD (mt 15 2) "plain" "Stripe.plain" 0 [] .none .none .none .none none .none .none 0), #[]⟩
noncomputable def o18_129 (P : Params) : Obj := ⟨(.type "code"), none, .fields #[(.str "plain" 357), (.str "Stripe.plain" 358), (.str "/claim/cut.py" 359), (.int (51) 0), (.int (2) 0), (.int (0) 0), (.int (1) 0), (.int (3) 0), (.ref 124), (.bool true), (.int (181) 0), (.ref 125), .none, (.ref 126), (.ref 127), (.ref 128), (.int (363) 0), (.int (51) 0), (.str "/claim/cut.py" 364)], #[]⟩
noncomputable def o18_130 (P : Params) : Obj := ⟨(.type "function"), none, .func (fD (mt 15 2) "plain" "Stripe.plain" 3 [] .none (.ref 123) .none (.str "stripehole.stripes" 268) (some 133) (.ref 129) .none 0), #[]⟩
noncomputable def o18_131 (P : Params) : Obj := ⟨(.type "dict"), none, .dict #[(kE P "__module__" (.str "__module__" 366) (.str "stripehole.stripes" 268)), (kE P "__name__" (.str "__name__" 369) (.str "plain" 368)), (kE P "__qualname__" (.str "__qualname__" 372) (.str "Stripe.plain" 371)), (kE P "__doc__" (.str "__doc__" 374) .none), (kE P "__annotations__" (.str "__annotations__" 376) (.ref 133))] 5, #[]⟩
noncomputable def o18_132 (P : Params) : Obj := ⟨(.type "classmethod"), (some 131), .fields #[(.ref 130), (.bool false)], #[]⟩
noncomputable def o18_133 (P : Params) : Obj := ⟨(.type "dict"), none, .dict #[] 0, #[]⟩
noncomputable def o18_134 (P : Params) : Obj := ⟨(.type "tuple"), none, .seq #[] 0, #[]⟩
noncomputable def o18_135 (P : Params) : Obj := ⟨.none, none, .fields #[], #[]⟩
noncomputable def o18_136 (P : Params) : Obj := ⟨(.type "tuple"), none, .seq #[(.str "self" 381)] 0, #[]⟩
noncomputable def o18_137 (P : Params) : Obj := ⟨(.type "tuple"), none, .seq #[] 0, #[]⟩
noncomputable def o18_138 (P : Params) : Obj := ⟨.none, none, .func (fD (mt 15 3) "parts" "Stripe.parts" 0 [] .none .none .none .none none .none .none 0), #[]⟩
noncomputable def o18_139 (P : Params) : Obj := ⟨(.type "code"), none, .fields #[(.str "parts" 378), (.str "Stripe.parts" 379), (.str "/claim/cut.py" 380), (.int (55) 0), (.int (1) 0), (.int (0) 0), (.int (0) 0), (.int (3) 0), (.ref 134), (.bool true), (.int (181) 0), (.ref 135), .none, (.ref 136), (.ref 137), (.ref 138), (.int (382) 0), (.int (55) 0), (.str "/claim/cut.py" 383)], #[]⟩
noncomputable def o18_140 (P : Params) : Obj := ⟨(.type "function"), none, .func (fD (mt 15 3) "parts" "Stripe.parts" 3 [] .none .none .none (.str "stripehole.stripes" 268) none (.ref 139) .none 0), #[]⟩
noncomputable def o18_141 (P : Params) : Obj := ⟨(.type "tuple"), none, .seq #[] 0, #[]⟩
noncomputable def o18_142 (P : Params) : Obj := ⟨.none, none, .fields #[], #[]⟩
noncomputable def o18_143 (P : Params) : Obj := ⟨(.type "tuple"), none, .seq #[(.str "self" 388)] 0, #[]⟩
noncomputable def o18_144 (P : Params) : Obj := ⟨(.type "tuple"), none, .seq #[] 0, #[]⟩
noncomputable def o18_145 (P : Params) : Obj := ⟨.none, none, .func (fD (mt 15 4) "__len__" "Stripe.__len__" 0 [] .none .none .none .none none .none .none 0), #[]⟩
noncomputable def o18_146 (P : Params) : Obj := ⟨(.type "code"), none, .fields #[(.str "__len__" 385), (.str "Stripe.__len__" 386), (.str "/claim/cut.py" 387), (.int (58) 0), (.int (1) 0), (.int (0) 0), (.int (0) 0), (.int (3) 0), (.ref 141), (.bool true), (.int (181) 0), (.ref 142), .none, (.ref 143), (.ref 144), (.ref 145), (.int (389) 0), (.int (58) 0), (.str "/claim/cut.py" 390)], #[]⟩
noncomputable def o18_147 (P : Params) : Obj := ⟨(.type "function"), none, .func (fD (mt 15 4) "__len__" "Stripe.__len__" 3 [] .none .none .none (.str "stripehole.stripes" 268) none (.ref 146) .none 0), #[]⟩
noncomputable def o18_148 (P : Params) : Obj := ⟨(.type "tuple"), none, .seq #[] 0, #[]⟩
noncomputable def o18_149 (P : Params) : Obj := ⟨.none, none, .fields #[], #[]⟩
noncomputable def o18_150 (P : Params) : Obj := ⟨(.type "tuple"), none, .seq #[(.str "self" 395), (.str "other" 396)] 0, #[]⟩
noncomputable def o18_151 (P : Params) : Obj := ⟨(.type "tuple"), none, .seq #[] 0, #[]⟩
noncomputable def o18_152 (P : Params) : Obj := ⟨.none, none, .func (fD (mt 15 5) "__eq__" "Stripe.__eq__" 0 [] .none .none .none .none none .none .none 0), #[]⟩
noncomputable def o18_153 (P : Params) : Obj := ⟨(.type "code"), none, .fields #[(.str "__eq__" 392), (.str "Stripe.__eq__" 393), (.str "/claim/cut.py" 394), (.int (61) 0), (.int (2) 0), (.int (0) 0), (.int (0) 0), (.int (3) 0), (.ref 148), (.bool true), (.int (181) 0), (.ref 149), .none, (.ref 150), (.ref 151), (.ref 152), (.int (397) 0), (.int (61) 0), (.str "/claim/cut.py" 398)], #[]⟩
noncomputable def o18_154 (P : Params) : Obj := ⟨(.type "function"), none, .func (fD (mt 15 5) "__eq__" "Stripe.__eq__" 3 [] .none .none .none (.str "stripehole.stripes" 268) none (.ref 153) .none 0), #[]⟩
noncomputable def o18_155 (P : Params) : Obj := ⟨(.type "tuple"), none, .seq #[] 0, #[]⟩
noncomputable def o18_156 (P : Params) : Obj := ⟨.none, none, .fields #[], #[]⟩
noncomputable def o18_157 (P : Params) : Obj := ⟨(.type "tuple"), none, .seq #[(.str "self" 403), (.str "some" 404)] 0, #[]⟩
noncomputable def o18_158 (P : Params) : Obj := ⟨(.type "tuple"), none, .seq #[] 0, #[]⟩
noncomputable def o18_159 (P : Params) : Obj := ⟨.none, none, .func (fD (mt 15 6) "__add__" "Stripe.__add__" 0 [] .none .none .none .none none .none .none 0), #[]⟩
noncomputable def o18_160 (P : Params) : Obj := ⟨(.type "code"), none, .fields #[(.str "__add__" 400), (.str "Stripe.__add__" 401), (.str "/claim/cut.py" 402), (.int (64) 0), (.int (2) 0), (.int (0) 0), (.int (0) 0), (.int (3) 0), (.ref 155), (.bool true), (.int (181) 0), (.ref 156), .none, (.ref 157), (.ref 158), (.ref 159), (.int (405) 0), (.int (64) 0), (.str "/claim/cut.py" 406)], #[]⟩
noncomputable def o18_161 (P : Params) : Obj := ⟨(.type "function"), none, .func (fD (mt 15 6) "__add__" "Stripe.__add__" 3 [] .none .none .none (.str "stripehole.stripes" 268) none (.ref 160) .none 0), #[]⟩
noncomputable def o18_162 (P : Params) : Obj := ⟨(.type "tuple"), none, .seq #[(.str "blocks" 408), (.str "jobs" 409), (.str "sums" 410)] 0, #[]⟩
noncomputable def o18_163 (P : Params) : Obj := ⟨(.type "list"), none, .seq #[(.str "blocks" 340), (.str "sums" 341), (.str "jobs" 342)] 1, #[]⟩
noncomputable def o18_164 (P : Params) : Obj := ⟨(.type "dict"), none, .dict #[(kE P "__module__" (.str "__module__" 335) (.str "stripehole.stripes" 268)), (kE P "__firstlineno__" (.str "__firstlineno__" 339) (.int (37) 338)), (kE P "__slots__" (.str "__slots__" 343) (.ref 114)), (kE P "__init__" (.str "__init__" 354) (.ref 122)), (kE P "plain" (.str "plain" 377) (.ref 132)), (kE P "parts" (.str "parts" 384) (.ref 140)), (kE P "__len__" (.str "__len__" 391) (.ref 147)), (kE P "__eq__" (.str "__eq__" 399) (.ref 154)), (kE P "__add__" (.str "__add__" 407) (.ref 161)), (kE P "__static_attributes__" (.str "__static_attributes__" 411) (.ref 162)), (kE P "blocks" (.str "blocks" 413) (.ref 166)), (kE P "jobs" (.str "jobs" 415) (.ref 167)), (kE P "sums" (.str "sums" 417) (.ref 168)), (kE P "__doc__" (.str "__doc__" 418) .none), (kE P "__hash__" (.str "__hash__" 419) .none)] 6, #[]⟩
noncomputable def o18_165 (P : Params) : Obj := ⟨(.type "type"), none, .cls ⟨"Stripe", [(.type "object")], [(.ref 165), (.type "object")], 164, "Stripe", false, ["blocks", "jobs", "sums"], [], false, none, false⟩, #[none, none, (some (.str "Stripe" 328)), (some (.str "Stripe" 336)), (some (.builtin "object.__new__")), (some (.bool false))]⟩
noncomputable def o18_166 (P : Params) : Obj := ⟨(.type "member_descriptor"), none, .fields #[(.str "blocks" 412), (.ref 165), (.builtin "proto.slot"), (.builtin "proto.slot#set"), (.int (2) 0)], #[]⟩
noncomputable def o18_167 (P : Params) : Obj := ⟨(.type "member_descriptor"), none, .fields #[(.str "jobs" 414), (.ref 165), (.builtin "proto.slot"), (.builtin "proto.slot#set"), (.int (1) 0)], #[]⟩
noncomputable def o18_168 (P : Params) : Obj := ⟨(.type "member_descriptor"), none, .fields #[(.str "sums" 416), (.ref 165), (.builtin "proto.slot"), (.builtin "proto.slot#set"), (.int (0) 0)], #[]⟩
noncomputable def o18_169 (P : Params) : Obj := ⟨(.type "super"), none, .fields #[(.ref 165), (.ref 165), (.ref 165)], #[]⟩
noncomputable def o18_170 (P : Params) : Obj := ⟨(.type "builtin_function_or_method"), none, .fields #[(.builtin "object.__init_subclass__"), (.ref 165)], #[]⟩
noncomputable def o18_171 (P : Params) : Obj := ⟨(.type "tuple"), none, .seq #[] 0, #[]⟩
noncomputable def o18_172 (P : Params) : Obj := ⟨.none, none, .fields #[], #[]⟩
noncomputable def o18_173 (P : Params) : Obj := ⟨(.type "tuple"), none, .seq #[(.str "steps" 425), (.str "first" 426), (.str "second" 427)] 0, #[]⟩
noncomputable def o18_174 (P : Params) : Obj := ⟨(.type "tuple"), none, .seq #[] 0, #[]⟩
noncomputable def o18_175 (P : Params) : Obj := ⟨.none, none, .func (fD (tp 16) "is_couple_right" "is_couple_right" 0 [] .none .none .none .none none .none .none 0), #[]⟩
noncomputable def o18_176 (P : Params) : Obj := ⟨(.type "code"), none, .fields #[(.str "is_couple_right" 422), (.str "is_couple_right" 423), (.str "/claim/cut.py" 424), (.int (66) 0), (.int (3) 0), (.int (0) 0), (.int (0) 0), (.int (3) 0), (.ref 171), (.bool true), (.int (181) 0), (.ref 172), .none, (.ref 173), (.ref 174), (.ref 175), (.int (428) 0), (.int (66) 0), (.str "/claim/cut.py" 429)], #[]⟩
noncomputable def o18_177 (P : Params) : Obj := ⟨(.type "function"), none, .func (fD (tp 16) "is_couple_right" "is_couple_right" 3 [] .none .none .none (.str "stripehole.stripes" 268) none (.ref 176) .none 0), #[]⟩
noncomputable def o18_178 (P : Params) : Obj := ⟨(.type "tuple"), none, .seq #[] 0, #[]⟩
noncomputable def o18_179 (P : Params) : Obj := ⟨.none, none, .fields #[], #[]⟩
noncomputable def o18_180 (P : Params) : Obj := ⟨.none, none, .func (fD (tp 17) "are_steps" "are_steps" 0 [] .none .none .none .none none .none .none 0), #[]⟩
noncomputable def o18_181 (P : Params) : Obj := ⟨(.type "code"), none, .fields #[(.str "are_steps" 431), (.str "are_steps" 432), (.str "/claim/cut.py" 433), (.int (70) 0), (.int (1) 0), (.int (0) 0), (.int (0) 0), (.int (3) 0), (.ref 178), (.bool true), (.int (181) 0), (.ref 179), .none, .none, .none, (.ref 180), (.int (434) 0), (.int (70) 0), (.str "/claim/cut.py" 435)], #[]⟩
noncomputable def o18_182 (P : Params) : Obj := ⟨(.type "function"), none, .func (fD (tp 17) "are_steps" "are_steps" 3 [] .none .none .none (.str "stripehole.stripes" 268) none (.ref 181) .none 0), #[]⟩
noncomputable def t18 (P : Params) : BT := (.node (oa_0 P) (.node (oa_1 P) (.node (o18_3 P) (.node (oa_7 P) (.node (o18_15 P) (.node (o18_31 P) (.node (o18_63 P) (.node (o18_127 P) .nil .nil) .nil) (.node (o18_95 P) (.node (o18_159 P) .nil .nil) .nil)) (.node (o18_47 P) (.node (o18_79 P) (.node (o18_143 P) .nil .nil) .nil) (.node (o18_111 P) (.node (o18_175 P) .nil .nil) .nil))) (.node (o18_23 P) (.node (o18_39 P) (.node (o18_71 P) (.node (o18_135 P) .nil .nil) .nil) (.node (o18_103 P) (.node (o18_167 P) .nil .nil) .nil)) (.node (o18_55 P) (.node (o18_87 P) (.node (o18_151 P) .nil .nil) .nil) (.node (o18_119 P) .nil .nil)))) (.node (oa_11 P) (.node (o18_19 P) (.node (o18_35 P) (.node (o18_67 P) (.node (o18_131 P) .nil .nil) .nil) (.node (o18_99 P) (.node (o18_163 P) .nil .nil) .nil)) (.node (o18_51 P) (.node (o18_83 P) (.node (o18_147 P) .nil .nil) .nil) (.node (o18_115 P) (.node (o18_179 P) .nil .nil) .nil))) (.node (o18_27 P) (.node (o18_43 P) (.node (o18_75 P) (.node (o18_139 P) .nil .nil) .nil) (.node (o18_107 P) (.node (o18_171 P) .nil .nil) .nil)) (.node (o18_59 P) (.node (o18_91 P) (.node (o18_155 P) .nil .nil) .nil) (.node (o18_123 P) .nil .nil))))) (.node (oa_5 P) (.node (oa_9 P) (.node (o18_17 P) (.node (o18_33 P) (.node (o18_65 P) (.node (o18_129 P) .nil .nil) .nil) (.node (o18_97 P) (.node (o18_161 P) .nil .nil) .nil)) (.node (o18_49 P) (.node (o18_81 P) (.node (o18_145 P) .nil .nil) .nil) (.node (o18_113 P) (.node (o18_177 P) .nil .nil) .nil))) (.node (o18_25 P) (.node (o18_41 P) (.node (o18_73 P) (.node (o18_137 P) .nil .nil) .nil) (.node (o18_105 P) (.node (o18_169 P) .nil .nil) .nil)) (.node (o18_57 P) (.node (o18_89 P) (.node (o18_153 P) .nil .nil) .nil) (.node (o18_121 P) .nil .nil)))) (.node (oa_13 P) (.node (o18_21 P) (.node (o18_37 P) (.node (o18_69 P) (.node (o18_133 P) .nil .nil) .nil) (.node (o18_101 P) (.node (o18_165 P) .nil .nil) .nil)) (.node (o18_53 P) (.node (o18_85 P) (.node (o18_149 P) .nil .nil) .nil) (.node (o18_117 P) (.node (o18_181 P) .nil .nil) .nil))) (.node (o18_29 P) (.node (o18_45 P) (.node (o18_77 P) (.node (o18_141 P) .nil .nil) .nil) (.node (o18_109 P) (.node (o18_173 P) .nil .nil) .nil)) (.node (o18_61 P) (.node (o18_93 P) (.node (o18_157 P) .nil .nil) .nil) (.node (o18_125 P) .nil .nil)))))) (.node (oa_2 P) (.node (oa_4 P) (.node (oa_8 P) (.node (o18_16 P) (.node (o18_32 P) (.node (o18_64 P) (.node (o18_128 P) .nil .nil) .nil) (.node (o18_96 P) (.node (o18_160 P) .nil .nil) .nil)) (.node (o18_48 P) (.node (o18_80 P) (.node (o18_144 P) .nil .nil) .nil) (.node (o18_112 P) (.node (o18_176 P) .nil .nil) .nil))) (.node (o18_24 P) (.node (o18_40 P) (.node (o18_72 P) (.node (o18_136 P) .nil .nil) .nil) (.node (o18_104 P) (.node (o18_168 P) .nil .nil) .nil)) (.node (o18_56 P) (.node (o18_88 P) (.node (o18_152 P) .nil .nil) .nil) (.node (o18_120 P) .nil .nil)))) (.node (o18_12 P) (.node (o18_20 P) (.node (o18_36 P) (.node (o18_68 P) (.node (o18_132 P) .nil .nil) .nil) (.node (o18_100 P) (.node (o18_164 P) .nil .nil) .nil)) (.node (o18_52 P) (.node (o18_84 P) (.node (o18_148 P) .nil .nil) .nil) (.node (o18_116 P) (.node (o18_180 P) .nil .nil) .nil))) (.node (o18_28 P) (.node (o18_44 P) (.node (o18_76 P) (.node (o18_140 P) .nil .nil) .nil) (.node (o18_108 P) (.node (o18_172 P) .nil .nil) .nil)) (.node (o18_60 P) (.node (o18_92 P) (.node (o18_156 P) .nil .nil) .nil) (.node (o18_124 P) .nil .nil))))) (.node (oa_6 P) (.node (oa_10 P) (.node (o18_18 P) (.node (o18_34 P) (.node (o18_66 P) (.node (o18_130 P) .nil .nil) .nil) (.node (o18_98 P) (.node (o18_162 P) .nil .nil) .nil)) (.node (o18_50 P) (.node (o18_82 P) (.node (o18_146 P) .nil .nil) .nil) (.node (o18_114 P) (.node (o18_178 P) .nil .nil) .nil))) (.node (o18_26 P) (.node (o18_42 P) (.node (o18_74 P) (.node (o18_138 P) .nil .nil) .nil) (.node (o18_106 P) (.node (o18_170 P) .nil .nil) .nil)) (.node (o18_58 P) (.node (o18_90 P) (.node (o18_154 P) .nil .nil) .nil) (.node (o18_122 P) .nil .nil)))) (.node (oa_14 P) (.node (o18_22 P) (.node (o18_38 P) (.node (o18_70 P) (.node (o18_134 P) .nil .nil) .nil) (.node (o18_102 P) (.node (o18_166 P) .nil .nil) .nil)) (.node (o18_54 P) (.node (o18_86 P) (.node (o18_150 P) .nil .nil) .nil) (.node (o18_118 P) (.node (o18_182 P) .nil .nil) .nil))) (.node (o18_30 P) (.node (o18_46 P) (.node (o18_78 P) (.node (o18_142 P) .nil .nil) .nil) (.node (o18_110 P) (.node (o18_174 P) .nil .nil) .nil)) (.node (o18_62 P) (.node (o18_94 P) (.node (o18_158 P) .nil .nil) .nil) (.node (o18_126 P) .nil .nil)))))))
noncomputable def n18 : Nat := 183
noncomputable def k18 : Nat := 437
noncomputable def q18 : Pos := ⟨70, 0, 85, 98⟩
noncomputable def o28_3 (P : Params) : Obj := ⟨(.type "dict"), none, .dict #[(kE P "__name__" (.str "__name__" 165) (.str "law_stripehole_k14_whole_answers" 712)), (kE P "__doc__" (.str "__doc__" 166) .none), (kE P "__package__" (.str "__package__" 167) .none), (kE P "__loader__" (.str "__loader__" 168) (.builtin "__main__.__loader__#opaque")), (kE P "__spec__" (.str "__spec__" 169) .none), (kE P "__annotations__" (.str "__annotations__" 170) (.ref 6)), (kE P "__builtins__" (.str "__builtins__" 171) (.ref 4)), (kE P "__file__" (.str "__file__" 173) (.str "/claim/cut.py" 172)), (kE P "__cached__" (.str "__cached__" 174) .none), (kE P "_wall" (.str "_wall" 193) (.ref 21)), (kE P "StripeError" (.str "StripeError" 213) (.ref 31)), (kE P "BadStripe" (.str "BadStripe" 240) (.ref 53)), (kE P "BadPlan" (.str "BadPlan" 267) (.ref 74)), (kE P "MOST_BLOCKS" (.str "MOST_BLOCKS" 271) (.int (3) 270)), (kE P "MOST_STEPS" (.str "MOST_STEPS" 273) (.int (10) 272)), (kE P "REPAIRS" (.str "REPAIRS" 278) (.ref 77)), (kE P "STEPS" (.str "STEPS" 291) (.ref 78)), (kE P "COUPLES" (.str "COUPLES" 298) (.ref 82)), (kE P "is_number" (.str "is_number" 307) (.ref 89)), (kE P "is_word" (.str "is_word" 315) (.ref 96)), (kE P "is_sum" (.str "is_sum" 321) (.ref 101)), (kE P "are_sums" (.str "are_sums" 327) (.ref 106)), (kE P "Stripe" (.str "Stripe" 421) (.ref 165)), (kE P "is_couple_right" (.str "is_couple_right" 430) (.ref 177)), (kE P "are_steps" (.str "are_steps" 436) (.ref 182)), (kE P "Plan" (.str "Plan" 513) (.ref 237)), (kE P "Safe" (.str "Safe" 563) (.ref 274)), (kE P "Broken" (.str "Broken" 611) (.ref 310)), (kE P "Victim" (.str "Victim" 662) (.ref 346)), (kE P "Spared" (.str "Spared" 711) (.ref 382)), (kE P "_law_number" (.str "_law_number" 727) (.ref 392)), (kE P "_law_part" (.str "_law_part" 738) (.ref 399))] 32, #[]⟩
noncomputable def o28_12 (P : Params) : Obj := ⟨.none, none, .fields #[(.int (1) 0), (.int (0) 0), (.ref 20), (.int (5) 0), (.int (0) 0), (.ref 27), (.int (7) 0), (.int (0) 0), (.ref 41), (.int (12) 0), (.int (0) 0), (.ref 62), (.int (23) 0), (.int (0) 0), (.ref 88), (.int (25) 0), (.int (0) 0), (.ref 95), (.int (27) 0), (.int (0) 0), (.ref 100), (.int (31) 0), (.int (0) 0), (.ref 105), (.int (37) 0), (.int (0) 0), (.ref 112), (.int (66) 0), (.int (0) 0), (.ref 176), (.int (70) 0), (.int (0) 0), (.ref 181), (.int (86) 0), (.int (0) 0), (.ref 188), (.int (112) 0), (.int (0) 0), (.ref 247), (.int (123) 0), (.int (0) 0), (.ref 283), (.int (135) 0), (.int (0) 0), (.ref 319), (.int (146) 0), (.int (0) 0), (.ref 355), (.int (158) 0), (.int (0) 0), (.ref 391), (.int (165) 0), (.int (0) 0), (.ref 398)], #[]⟩
noncomputable def o28_183 (P : Params) : Obj := ⟨(.type "tuple"), none, .seq #[] 0, #[]⟩
noncomputable def o28_184 (P : Params) : Obj := ⟨(.type "builtin_function_or_method"), none, .fields #[(.builtin "type.__prepare__"), (.type "type")], #[]⟩
noncomputable def o28_185 (P : Params) : Obj := ⟨(.type "dict"), none, .dict #[(kE P "__module__" (.str "__module__" 444) (.str "stripehole.stripes" 268)), (kE P "__qualname__" (.str "__qualname__" 446) (.str "Plan" 445)), (kE P "__firstlineno__" (.str "__firstlineno__" 448) (.int (86) 447)), (kE P "__slots__" (.str "__slots__" 451) (.ref 190)), (kE P "__init__" (.str "__init__" 461) (.ref 198)), (kE P "__len__" (.str "__len__" 468) (.ref 205)), (kE P "__contains__" (.str "__contains__" 476) (.ref 212)), (kE P "__eq__" (.str "__eq__" 484) (.ref 219)), (kE P "but" (.str "but" 493) (.ref 226)), (kE P "around" (.str "around" 502) (.ref 233)), (kE P "__static_attributes__" (.str "__static_attributes__" 505) (.ref 234))] 11, #[]⟩
noncomputable def o28_186 (P : Params) : Obj := ⟨(.type "tuple"), none, .seq #[] 0, #[]⟩
noncomputable def o28_187 (P : Params) : Obj := ⟨.none, none, .fields #[(.int (89) 0), (.int (4) 0), (.ref 197), (.int (97) 0), (.int (4) 0), (.ref 204), (.int (100) 0), (.int (4) 0), (.ref 211), (.int (103) 0), (.int (4) 0), (.ref 218), (.int (106) 0), (.int (4) 0), (.ref 225), (.int (109) 0), (.int (4) 0), (.ref 232)], #[]⟩
noncomputable def o28_188 (P : Params) : Obj := ⟨(.type "code"), none, .fields #[(.str "Plan" 439), (.str "Plan" 440), (.str "/claim/cut.py" 441), (.int (86) 0), (.int (0) 0), (.int (0) 0), (.int (0) 0), (.int (0) 0), (.ref 186), (.bool false), (.int (181) 0), (.ref 187), .none, .none, .none, .none, (.int (442) 0), (.int (86) 0), (.str "/claim/cut.py" 443)], #[]⟩
noncomputable def o28_189 (P : Params) : Obj := ⟨(.type "frame"), none, .plain, #[(some (.ref 188)), (some (.ref 3)), (some (.ref 185)), none, (some (.str "stripehole.stripes" 268)), none, (some (.ref 0))]⟩
noncomputable def o28_190 (P : Params) : Obj := ⟨(.type "tuple"), none, .seq #[(.str "steps" 449), (.str "repair" 450)] 0, #[]⟩
noncomputable def o28_191 (P : Params) : Obj := ⟨(.type "tuple"), none, .seq #[(.str "none" 452)] 0, #[]⟩
noncomputable def o28_192 (P : Params) : Obj := ⟨(.type "tuple"), none, .seq #[] 0, #[]⟩
noncomputable def o28_193 (P : Params) : Obj := ⟨.none, none, .fields #[], #[]⟩
noncomputable def o28_194 (P : Params) : Obj := ⟨(.type "tuple"), none, .seq #[(.str "self" 456), (.str "steps" 457), (.str "repair" 458)] 0, #[]⟩
noncomputable def o28_195 (P : Params) : Obj := ⟨(.type "tuple"), none, .seq #[] 0, #[]⟩
noncomputable def o28_196 (P : Params) : Obj := ⟨.none, none, .func (fD (mt 18 1) "__init__" "Plan.__init__" 0 [] .none .none .none .none none .none .none 0), #[]⟩
noncomputable def o28_197 (P : Params) : Obj := ⟨(.type "code"), none, .fields #[(.str "__init__" 453), (.str "Plan.__init__" 454), (.str "/claim/cut.py" 455), (.int (89) 0), (.int (3) 0), (.int (0) 0), (.int (0) 0), (.int (3) 0), (.ref 192), (.bool true), (.int (181) 0), (.ref 193), .none, (.ref 194), (.ref 195), (.ref 196), (.int (459) 0), (.int (89) 0), (.str "/claim/cut.py" 460)], #[]⟩
noncomputable def o28_198 (P : Params) : Obj := ⟨(.type "function"), none, .func (fD (mt 18 1) "__init__" "Plan.__init__" 3 [] (.ref 191) .none .none (.str "stripehole.stripes" 268) none (.ref 197) .none 0), #[]⟩
noncomputable def o28_199 (P : Params) : Obj := ⟨(.type "tuple"), none, .seq #[] 0, #[]⟩
noncomputable def o28_200 (P : Params) : Obj := ⟨.none, none, .fields #[], #[]⟩
noncomputable def o28_201 (P : Params) : Obj := ⟨(.type "tuple"), none, .seq #[(.str "self" 465)] 0, #[]⟩
noncomputable def o28_202 (P : Params) : Obj := ⟨(.type "tuple"), none, .seq #[] 0, #[]⟩
noncomputable def o28_203 (P : Params) : Obj := ⟨.none, none, .func (fD (mt 18 2) "__len__" "Plan.__len__" 0 [] .none .none .none .none none .none .none 0), #[]⟩
noncomputable def o28_204 (P : Params) : Obj := ⟨(.type "code"), none, .fields #[(.str "__len__" 462), (.str "Plan.__len__" 463), (.str "/claim/cut.py" 464), (.int (97) 0), (.int (1) 0), (.int (0) 0), (.int (0) 0), (.int (3) 0), (.ref 199), (.bool true), (.int (181) 0), (.ref 200), .none, (.ref 201), (.ref 202), (.ref 203), (.int (466) 0), (.int (97) 0), (.str "/claim/cut.py" 467)], #[]⟩
noncomputable def o28_205 (P : Params) : Obj := ⟨(.type "function"), none, .func (fD (mt 18 2) "__len__" "Plan.__len__" 3 [] .none .none .none (.str "stripehole.stripes" 268) none (.ref 204) .none 0), #[]⟩
noncomputable def o28_206 (P : Params) : Obj := ⟨(.type "tuple"), none, .seq #[] 0, #[]⟩
noncomputable def o28_207 (P : Params) : Obj := ⟨.none, none, .fields #[], #[]⟩
noncomputable def o28_208 (P : Params) : Obj := ⟨(.type "tuple"), none, .seq #[(.str "self" 472), (.str "word" 473)] 0, #[]⟩
noncomputable def o28_209 (P : Params) : Obj := ⟨(.type "tuple"), none, .seq #[] 0, #[]⟩
noncomputable def o28_210 (P : Params) : Obj := ⟨.none, none, .func (fD (mt 18 3) "__contains__" "Plan.__contains__" 0 [] .none .none .none .none none .none .none 0), #[]⟩
noncomputable def o28_211 (P : Params) : Obj := ⟨(.type "code"), none, .fields #[(.str "__contains__" 469), (.str "Plan.__contains__" 470), (.str "/claim/cut.py" 471), (.int (100) 0), (.int (2) 0), (.int (0) 0), (.int (0) 0), (.int (3) 0), (.ref 206), (.bool true), (.int (181) 0), (.ref 207), .none, (.ref 208), (.ref 209), (.ref 210), (.int (474) 0), (.int (100) 0), (.str "/claim/cut.py" 475)], #[]⟩
noncomputable def o28_212 (P : Params) : Obj := ⟨(.type "function"), none, .func (fD (mt 18 3) "__contains__" "Plan.__contains__" 3 [] .none .none .none (.str "stripehole.stripes" 268) none (.ref 211) .none 0), #[]⟩
noncomputable def o28_213 (P : Params) : Obj := ⟨(.type "tuple"), none, .seq #[] 0, #[]⟩
noncomputable def o28_214 (P : Params) : Obj := ⟨.none, none, .fields #[], #[]⟩
noncomputable def o28_215 (P : Params) : Obj := ⟨(.type "tuple"), none, .seq #[(.str "self" 480), (.str "other" 481)] 0, #[]⟩
noncomputable def o28_216 (P : Params) : Obj := ⟨(.type "tuple"), none, .seq #[] 0, #[]⟩
noncomputable def o28_217 (P : Params) : Obj := ⟨.none, none, .func (fD (mt 18 4) "__eq__" "Plan.__eq__" 0 [] .none .none .none .none none .none .none 0), #[]⟩
noncomputable def o28_218 (P : Params) : Obj := ⟨(.type "code"), none, .fields #[(.str "__eq__" 477), (.str "Plan.__eq__" 478), (.str "/claim/cut.py" 479), (.int (103) 0), (.int (2) 0), (.int (0) 0), (.int (0) 0), (.int (3) 0), (.ref 213), (.bool true), (.int (181) 0), (.ref 214), .none, (.ref 215), (.ref 216), (.ref 217), (.int (482) 0), (.int (103) 0), (.str "/claim/cut.py" 483)], #[]⟩
noncomputable def o28_219 (P : Params) : Obj := ⟨(.type "function"), none, .func (fD (mt 18 4) "__eq__" "Plan.__eq__" 3 [] .none .none .none (.str "stripehole.stripes" 268) none (.ref 218) .none 0), #[]⟩
noncomputable def o28_220 (P : Params) : Obj := ⟨(.type "tuple"), none, .seq #[] 0, #[]⟩
noncomputable def o28_221 (P : Params) : Obj := ⟨.none, none, .fields #[], #[]⟩
noncomputable def o28_222 (P : Params) : Obj := ⟨(.type "tuple"), none, .seq #[(.str "self" 488), (.str "part" 489), (.str "value" 490)] 0, #[]⟩
noncomputable def o28_223 (P : Params) : Obj := ⟨(.type "tuple"), none, .seq #[] 0, #[]⟩
noncomputable def o28_224 (P : Params) : Obj := ⟨.none, none, .func (fD (mt 18 5) "but" "Plan.but" 0 [] .none .none .none .none none .none .none 0), #[]⟩
noncomputable def o28_225 (P : Params) : Obj := ⟨(.type "code"), none, .fields #[(.str "but" 485), (.str "Plan.but" 486), (.str "/claim/cut.py" 487), (.int (106) 0), (.int (3) 0), (.int (0) 0), (.int (0) 0), (.int (3) 0), (.ref 220), (.bool true), (.int (181) 0), (.ref 221), .none, (.ref 222), (.ref 223), (.ref 224), (.int (491) 0), (.int (106) 0), (.str "/claim/cut.py" 492)], #[]⟩
noncomputable def o28_226 (P : Params) : Obj := ⟨(.type "function"), none, .func (fD (mt 18 5) "but" "Plan.but" 3 [] .none .none .none (.str "stripehole.stripes" 268) none (.ref 225) .none 0), #[]⟩
noncomputable def o28_227 (P : Params) : Obj := ⟨(.type "tuple"), none, .seq #[] 0, #[]⟩
noncomputable def o28_228 (P : Params) : Obj := ⟨.none, none, .fields #[], #[]⟩
noncomputable def o28_229 (P : Params) : Obj := ⟨(.type "tuple"), none, .seq #[(.str "self" 497), (.str "first" 498), (.str "second" 499)] 0, #[]⟩
noncomputable def o28_230 (P : Params) : Obj := ⟨(.type "tuple"), none, .seq #[] 0, #[]⟩
noncomputable def o28_231 (P : Params) : Obj := ⟨.none, none, .func (fD (mt 18 6) "around" "Plan.around" 0 [] .none .none .none .none none .none .none 0), #[]⟩
noncomputable def o28_232 (P : Params) : Obj := ⟨(.type "code"), none, .fields #[(.str "around" 494), (.str "Plan.around" 495), (.str "/claim/cut.py" 496), (.int (109) 0), (.int (3) 0), (.int (0) 0), (.int (0) 0), (.int (3) 0), (.ref 227), (.bool true), (.int (181) 0), (.ref 228), .none, (.ref 229), (.ref 230), (.ref 231), (.int (500) 0), (.int (109) 0), (.str "/claim/cut.py" 501)], #[]⟩
noncomputable def o28_233 (P : Params) : Obj := ⟨(.type "function"), none, .func (fD (mt 18 6) "around" "Plan.around" 3 [] .none .none .none (.str "stripehole.stripes" 268) none (.ref 232) .none 0), #[]⟩
noncomputable def o28_234 (P : Params) : Obj := ⟨(.type "tuple"), none, .seq #[(.str "repair" 503), (.str "steps" 504)] 0, #[]⟩
noncomputable def o28_235 (P : Params) : Obj := ⟨(.type "list"), none, .seq #[(.str "steps" 449), (.str "repair" 450)] 1, #[]⟩
noncomputable def o28_236 (P : Params) : Obj := ⟨(.type "dict"), none, .dict #[(kE P "__module__" (.str "__module__" 444) (.str "stripehole.stripes" 268)), (kE P "__firstlineno__" (.str "__firstlineno__" 448) (.int (86) 447)), (kE P "__slots__" (.str "__slots__" 451) (.ref 190)), (kE P "__init__" (.str "__init__" 461) (.ref 198)), (kE P "__len__" (.str "__len__" 468) (.ref 205)), (kE P "__contains__" (.str "__contains__" 476) (.ref 212)), (kE P "__eq__" (.str "__eq__" 484) (.ref 219)), (kE P "but" (.str "but" 493) (.ref 226)), (kE P "around" (.str "around" 502) (.ref 233)), (kE P "__static_attributes__" (.str "__static_attributes__" 505) (.ref 234)), (kE P "repair" (.str "repair" 507) (.ref 238)), (kE P "steps" (.str "steps" 509) (.ref 239)), (kE P "__doc__" (.str "__doc__" 510) .none), (kE P "__hash__" (.str "__hash__" 511) .none)] 5, #[]⟩
noncomputable def o28_237 (P : Params) : Obj := ⟨(.type "type"), none, .cls ⟨"Plan", [(.type "object")], [(.ref 237), (.type "object")], 236, "Plan", false, ["repair", "steps"], [], false, none, false⟩, #[none, none, (some (.str "Plan" 437)), (some (.str "Plan" 445)), (some (.builtin "object.__new__")), (some (.bool false))]⟩
noncomputable def o28_238 (P : Params) : Obj := ⟨(.type "member_descriptor"), none, .fields #[(.str "repair" 506), (.ref 237), (.builtin "proto.slot"), (.builtin "proto.slot#set"), (.int (1) 0)], #[]⟩
noncomputable def o28_239 (P : Params) : Obj := ⟨(.type "member_descriptor"), none, .fields #[(.str "steps" 508), (.ref 237), (.builtin "proto.slot"), (.builtin "proto.slot#set"), (.int (0) 0)], #[]⟩
noncomputable def o28_240 (P : Params) : Obj := ⟨(.type "super"), none, .fields #[(.ref 237), (.ref 237), (.ref 237)], #[]⟩
noncomputable def o28_241 (P : Params) : Obj := ⟨(.type "builtin_function_or_method"), none, .fields #[(.builtin "object.__init_subclass__"), (.ref 237)], #[]⟩
noncomputable def o28_242 (P : Params) : Obj := ⟨(.type "tuple"), none, .seq #[] 0, #[]⟩
noncomputable def o28_243 (P : Params) : Obj := ⟨(.type "builtin_function_or_method"), none, .fields #[(.builtin "type.__prepare__"), (.type "type")], #[]⟩
noncomputable def o28_244 (P : Params) : Obj := ⟨(.type "dict"), none, .dict #[(kE P "__module__" (.str "__module__" 523) (.str "stripehole.judging" 514)), (kE P "__qualname__" (.str "__qualname__" 525) (.str "Safe" 524)), (kE P "__firstlineno__" (.str "__firstlineno__" 527) (.int (112) 526)), (kE P "__slots__" (.str "__slots__" 529) (.ref 249)), (kE P "__init__" (.str "__init__" 537) (.ref 256)), (kE P "__eq__" (.str "__eq__" 545) (.ref 263)), (kE P "shows" (.str "shows" 555) (.ref 270)), (kE P "__static_attributes__" (.str "__static_attributes__" 557) (.ref 271))] 8, #[]⟩
noncomputable def o28_245 (P : Params) : Obj := ⟨(.type "tuple"), none, .seq #[] 0, #[]⟩
noncomputable def o28_246 (P : Params) : Obj := ⟨.none, none, .fields #[(.int (115) 0), (.int (4) 0), (.ref 255), (.int (118) 0), (.int (4) 0), (.ref 262), (.int (121) 0), (.int (4) 0), (.ref 269)], #[]⟩
noncomputable def o28_247 (P : Params) : Obj := ⟨(.type "code"), none, .fields #[(.str "Safe" 518), (.str "Safe" 519), (.str "/claim/cut.py" 520), (.int (112) 0), (.int (0) 0), (.int (0) 0), (.int (0) 0), (.int (0) 0), (.ref 245), (.bool false), (.int (181) 0), (.ref 246), .none, .none, .none, .none, (.int (521) 0), (.int (112) 0), (.str "/claim/cut.py" 522)], #[]⟩
noncomputable def o28_248 (P : Params) : Obj := ⟨(.type "frame"), none, .plain, #[(some (.ref 247)), (some (.ref 3)), (some (.ref 244)), none, (some (.str "stripehole.judging" 514)), none, (some (.ref 0))]⟩
noncomputable def o28_249 (P : Params) : Obj := ⟨(.type "tuple"), none, .seq #[(.str "states" 528)] 0, #[]⟩
noncomputable def o28_250 (P : Params) : Obj := ⟨(.type "tuple"), none, .seq #[] 0, #[]⟩
noncomputable def o28_251 (P : Params) : Obj := ⟨.none, none, .fields #[], #[]⟩
noncomputable def o28_252 (P : Params) : Obj := ⟨(.type "tuple"), none, .seq #[(.str "self" 533), (.str "states" 534)] 0, #[]⟩
noncomputable def o28_253 (P : Params) : Obj := ⟨(.type "tuple"), none, .seq #[] 0, #[]⟩
noncomputable def o28_254 (P : Params) : Obj := ⟨.none, none, .func (fD (mt 20 1) "__init__" "Safe.__init__" 0 [] .none .none .none .none none .none .none 0), #[]⟩
noncomputable def o28_255 (P : Params) : Obj := ⟨(.type "code"), none, .fields #[(.str "__init__" 530), (.str "Safe.__init__" 531), (.str "/claim/cut.py" 532), (.int (115) 0), (.int (2) 0), (.int (0) 0), (.int (0) 0), (.int (3) 0), (.ref 250), (.bool true), (.int (181) 0), (.ref 251), .none, (.ref 252), (.ref 253), (.ref 254), (.int (535) 0), (.int (115) 0), (.str "/claim/cut.py" 536)], #[]⟩
noncomputable def o28_256 (P : Params) : Obj := ⟨(.type "function"), none, .func (fD (mt 20 1) "__init__" "Safe.__init__" 3 [] .none .none .none (.str "stripehole.judging" 514) none (.ref 255) .none 0), #[]⟩
noncomputable def o28_257 (P : Params) : Obj := ⟨(.type "tuple"), none, .seq #[] 0, #[]⟩
noncomputable def o28_258 (P : Params) : Obj := ⟨.none, none, .fields #[], #[]⟩
noncomputable def o28_259 (P : Params) : Obj := ⟨(.type "tuple"), none, .seq #[(.str "self" 541), (.str "other" 542)] 0, #[]⟩
noncomputable def o28_260 (P : Params) : Obj := ⟨(.type "tuple"), none, .seq #[] 0, #[]⟩
noncomputable def o28_261 (P : Params) : Obj := ⟨.none, none, .func (fD (mt 20 2) "__eq__" "Safe.__eq__" 0 [] .none .none .none .none none .none .none 0), #[]⟩
noncomputable def o28_262 (P : Params) : Obj := ⟨(.type "code"), none, .fields #[(.str "__eq__" 538), (.str "Safe.__eq__" 539), (.str "/claim/cut.py" 540), (.int (118) 0), (.int (2) 0), (.int (0) 0), (.int (0) 0), (.int (3) 0), (.ref 257), (.bool true), (.int (181) 0), (.ref 258), .none, (.ref 259), (.ref 260), (.ref 261), (.int (543) 0), (.int (118) 0), (.str "/claim/cut.py" 544)], #[]⟩
noncomputable def o28_263 (P : Params) : Obj := ⟨(.type "function"), none, .func (fD (mt 20 2) "__eq__" "Safe.__eq__" 3 [] .none .none .none (.str "stripehole.judging" 514) none (.ref 262) .none 0), #[]⟩
noncomputable def o28_264 (P : Params) : Obj := ⟨(.type "tuple"), none, .seq #[] 0, #[]⟩
noncomputable def o28_265 (P : Params) : Obj := ⟨.none, none, .fields #[], #[]⟩
noncomputable def o28_266 (P : Params) : Obj := ⟨(.type "tuple"), none, .seq #[(.str "self" 549), (.str "stripe" 550), (.str "plan" 551), (.str "wish" 552)] 0, #[]⟩
noncomputable def o28_267 (P : Params) : Obj := ⟨(.type "tuple"), none, .seq #[] 0, #[]⟩
noncomputable def o28_268 (P : Params) : Obj := ⟨.none, none, .func (fD (mt 20 3) "shows" "Safe.shows" 0 [] .none .none .none .none none .none .none 0), #[]⟩
noncomputable def o28_269 (P : Params) : Obj := ⟨(.type "code"), none, .fields #[(.str "shows" 546), (.str "Safe.shows" 547), (.str "/claim/cut.py" 548), (.int (121) 0), (.int (4) 0), (.int (0) 0), (.int (0) 0), (.int (3) 0), (.ref 264), (.bool true), (.int (181) 0), (.ref 265), .none, (.ref 266), (.ref 267), (.ref 268), (.int (553) 0), (.int (121) 0), (.str "/claim/cut.py" 554)], #[]⟩
noncomputable def o28_270 (P : Params) : Obj := ⟨(.type "function"), none, .func (fD (mt 20 3) "shows" "Safe.shows" 3 [] .none .none .none (.str "stripehole.judging" 514) none (.ref 269) .none 0), #[]⟩
noncomputable def o28_271 (P : Params) : Obj := ⟨(.type "tuple"), none, .seq #[(.str "states" 556)] 0, #[]⟩
noncomputable def o28_272 (P : Params) : Obj := ⟨(.type "list"), none, .seq #[(.str "states" 528)] 1, #[]⟩
noncomputable def o28_273 (P : Params) : Obj := ⟨(.type "dict"), none, .dict #[(kE P "__module__" (.str "__module__" 523) (.str "stripehole.judging" 514)), (kE P "__firstlineno__" (.str "__firstlineno__" 527) (.int (112) 526)), (kE P "__slots__" (.str "__slots__" 529) (.ref 249)), (kE P "__init__" (.str "__init__" 537) (.ref 256)), (kE P "__eq__" (.str "__eq__" 545) (.ref 263)), (kE P "shows" (.str "shows" 555) (.ref 270)), (kE P "__static_attributes__" (.str "__static_attributes__" 557) (.ref 271)), (kE P "states" (.str "states" 559) (.ref 275)), (kE P "__doc__" (.str "__doc__" 560) .none), (kE P "__hash__" (.str "__hash__" 561) .none)] 4, #[]⟩
noncomputable def o28_274 (P : Params) : Obj := ⟨(.type "type"), none, .cls ⟨"Safe", [(.type "object")], [(.ref 274), (.type "object")], 273, "Safe", false, ["states"], [], false, none, false⟩, #[none, none, (some (.str "Safe" 516)), (some (.str "Safe" 524)), (some (.builtin "object.__new__")), (some (.bool false))]⟩
noncomputable def o28_275 (P : Params) : Obj := ⟨(.type "member_descriptor"), none, .fields #[(.str "states" 558), (.ref 274), (.builtin "proto.slot"), (.builtin "proto.slot#set"), (.int (0) 0)], #[]⟩
noncomputable def o28_276 (P : Params) : Obj := ⟨(.type "super"), none, .fields #[(.ref 274), (.ref 274), (.ref 274)], #[]⟩
noncomputable def o28_277 (P : Params) : Obj := ⟨(.type "builtin_function_or_method"), none, .fields #[(.builtin "object.__init_subclass__"), (.ref 274)], #[]⟩
noncomputable def o28_278 (P : Params) : Obj := ⟨(.type "tuple"), none, .seq #[] 0, #[]⟩
noncomputable def o28_279 (P : Params) : Obj := ⟨(.type "builtin_function_or_method"), none, .fields #[(.builtin "type.__prepare__"), (.type "type")], #[]⟩
noncomputable def o28_280 (P : Params) : Obj := ⟨(.type "dict"), none, .dict #[(kE P "__module__" (.str "__module__" 571) (.str "stripehole.judging" 514)), (kE P "__qualname__" (.str "__qualname__" 573) (.str "Broken" 572)), (kE P "__firstlineno__" (.str "__firstlineno__" 575) (.int (123) 574)), (kE P "__slots__" (.str "__slots__" 577) (.ref 285)), (kE P "__init__" (.str "__init__" 585) (.ref 292)), (kE P "__eq__" (.str "__eq__" 593) (.ref 299)), (kE P "shows" (.str "shows" 603) (.ref 306)), (kE P "__static_attributes__" (.str "__static_attributes__" 605) (.ref 307))] 8, #[]⟩
noncomputable def o28_281 (P : Params) : Obj := ⟨(.type "tuple"), none, .seq #[] 0, #[]⟩
noncomputable def o28_282 (P : Params) : Obj := ⟨.none, none, .fields #[(.int (126) 0), (.int (4) 0), (.ref 291), (.int (129) 0), (.int (4) 0), (.ref 298), (.int (132) 0), (.int (4) 0), (.ref 305)], #[]⟩
noncomputable def o28_283 (P : Params) : Obj := ⟨(.type "code"), none, .fields #[(.str "Broken" 566), (.str "Broken" 567), (.str "/claim/cut.py" 568), (.int (123) 0), (.int (0) 0), (.int (0) 0), (.int (0) 0), (.int (0) 0), (.ref 281), (.bool false), (.int (181) 0), (.ref 282), .none, .none, .none, .none, (.int (569) 0), (.int (123) 0), (.str "/claim/cut.py" 570)], #[]⟩
noncomputable def o28_284 (P : Params) : Obj := ⟨(.type "frame"), none, .plain, #[(some (.ref 283)), (some (.ref 3)), (some (.ref 280)), none, (some (.str "stripehole.judging" 514)), none, (some (.ref 0))]⟩
noncomputable def o28_285 (P : Params) : Obj := ⟨(.type "tuple"), none, .seq #[(.str "history" 576)] 0, #[]⟩
noncomputable def o28_286 (P : Params) : Obj := ⟨(.type "tuple"), none, .seq #[] 0, #[]⟩
noncomputable def o28_287 (P : Params) : Obj := ⟨.none, none, .fields #[], #[]⟩
noncomputable def o28_288 (P : Params) : Obj := ⟨(.type "tuple"), none, .seq #[(.str "self" 581), (.str "history" 582)] 0, #[]⟩
noncomputable def o28_289 (P : Params) : Obj := ⟨(.type "tuple"), none, .seq #[] 0, #[]⟩
noncomputable def o28_290 (P : Params) : Obj := ⟨.none, none, .func (fD (mt 21 1) "__init__" "Broken.__init__" 0 [] .none .none .none .none none .none .none 0), #[]⟩
noncomputable def o28_291 (P : Params) : Obj := ⟨(.type "code"), none, .fields #[(.str "__init__" 578), (.str "Broken.__init__" 579), (.str "/claim/cut.py" 580), (.int (126) 0), (.int (2) 0), (.int (0) 0), (.int (0) 0), (.int (3) 0), (.ref 286), (.bool true), (.int (181) 0), (.ref 287), .none, (.ref 288), (.ref 289), (.ref 290), (.int (583) 0), (.int (126) 0), (.str "/claim/cut.py" 584)], #[]⟩
noncomputable def o28_292 (P : Params) : Obj := ⟨(.type "function"), none, .func (fD (mt 21 1) "__init__" "Broken.__init__" 3 [] .none .none .none (.str "stripehole.judging" 514) none (.ref 291) .none 0), #[]⟩
noncomputable def o28_293 (P : Params) : Obj := ⟨(.type "tuple"), none, .seq #[] 0, #[]⟩
noncomputable def o28_294 (P : Params) : Obj := ⟨.none, none, .fields #[], #[]⟩
noncomputable def o28_295 (P : Params) : Obj := ⟨(.type "tuple"), none, .seq #[(.str "self" 589), (.str "other" 590)] 0, #[]⟩
noncomputable def o28_296 (P : Params) : Obj := ⟨(.type "tuple"), none, .seq #[] 0, #[]⟩
noncomputable def o28_297 (P : Params) : Obj := ⟨.none, none, .func (fD (mt 21 2) "__eq__" "Broken.__eq__" 0 [] .none .none .none .none none .none .none 0), #[]⟩
noncomputable def o28_298 (P : Params) : Obj := ⟨(.type "code"), none, .fields #[(.str "__eq__" 586), (.str "Broken.__eq__" 587), (.str "/claim/cut.py" 588), (.int (129) 0), (.int (2) 0), (.int (0) 0), (.int (0) 0), (.int (3) 0), (.ref 293), (.bool true), (.int (181) 0), (.ref 294), .none, (.ref 295), (.ref 296), (.ref 297), (.int (591) 0), (.int (129) 0), (.str "/claim/cut.py" 592)], #[]⟩
noncomputable def o28_299 (P : Params) : Obj := ⟨(.type "function"), none, .func (fD (mt 21 2) "__eq__" "Broken.__eq__" 3 [] .none .none .none (.str "stripehole.judging" 514) none (.ref 298) .none 0), #[]⟩
noncomputable def o28_300 (P : Params) : Obj := ⟨(.type "tuple"), none, .seq #[] 0, #[]⟩
noncomputable def o28_301 (P : Params) : Obj := ⟨.none, none, .fields #[], #[]⟩
noncomputable def o28_302 (P : Params) : Obj := ⟨(.type "tuple"), none, .seq #[(.str "self" 597), (.str "stripe" 598), (.str "plan" 599), (.str "wish" 600)] 0, #[]⟩
noncomputable def o28_303 (P : Params) : Obj := ⟨(.type "tuple"), none, .seq #[] 0, #[]⟩
noncomputable def o28_304 (P : Params) : Obj := ⟨.none, none, .func (fD (mt 21 3) "shows" "Broken.shows" 0 [] .none .none .none .none none .none .none 0), #[]⟩
noncomputable def o28_305 (P : Params) : Obj := ⟨(.type "code"), none, .fields #[(.str "shows" 594), (.str "Broken.shows" 595), (.str "/claim/cut.py" 596), (.int (132) 0), (.int (4) 0), (.int (0) 0), (.int (0) 0), (.int (3) 0), (.ref 300), (.bool true), (.int (181) 0), (.ref 301), .none, (.ref 302), (.ref 303), (.ref 304), (.int (601) 0), (.int (132) 0), (.str "/claim/cut.py" 602)], #[]⟩
noncomputable def o28_306 (P : Params) : Obj := ⟨(.type "function"), none, .func (fD (mt 21 3) "shows" "Broken.shows" 3 [] .none .none .none (.str "stripehole.judging" 514) none (.ref 305) .none 0), #[]⟩
noncomputable def o28_307 (P : Params) : Obj := ⟨(.type "tuple"), none, .seq #[(.str "history" 604)] 0, #[]⟩
noncomputable def o28_308 (P : Params) : Obj := ⟨(.type "list"), none, .seq #[(.str "history" 576)] 1, #[]⟩
noncomputable def o28_309 (P : Params) : Obj := ⟨(.type "dict"), none, .dict #[(kE P "__module__" (.str "__module__" 571) (.str "stripehole.judging" 514)), (kE P "__firstlineno__" (.str "__firstlineno__" 575) (.int (123) 574)), (kE P "__slots__" (.str "__slots__" 577) (.ref 285)), (kE P "__init__" (.str "__init__" 585) (.ref 292)), (kE P "__eq__" (.str "__eq__" 593) (.ref 299)), (kE P "shows" (.str "shows" 603) (.ref 306)), (kE P "__static_attributes__" (.str "__static_attributes__" 605) (.ref 307)), (kE P "history" (.str "history" 607) (.ref 311)), (kE P "__doc__" (.str "__doc__" 608) .none), (kE P "__hash__" (.str "__hash__" 609) .none)] 4, #[]⟩
noncomputable def o28_310 (P : Params) : Obj := ⟨(.type "type"), none, .cls ⟨"Broken", [(.type "object")], [(.ref 310), (.type "object")], 309, "Broken", false, ["history"], [], false, none, false⟩, #[none, none, (some (.str "Broken" 564)), (some (.str "Broken" 572)), (some (.builtin "object.__new__")), (some (.bool false))]⟩
noncomputable def o28_311 (P : Params) : Obj := ⟨(.type "member_descriptor"), none, .fields #[(.str "history" 606), (.ref 310), (.builtin "proto.slot"), (.builtin "proto.slot#set"), (.int (0) 0)], #[]⟩
noncomputable def o28_312 (P : Params) : Obj := ⟨(.type "super"), none, .fields #[(.ref 310), (.ref 310), (.ref 310)], #[]⟩
noncomputable def o28_313 (P : Params) : Obj := ⟨(.type "builtin_function_or_method"), none, .fields #[(.builtin "object.__init_subclass__"), (.ref 310)], #[]⟩
noncomputable def o28_314 (P : Params) : Obj := ⟨(.type "tuple"), none, .seq #[] 0, #[]⟩
noncomputable def o28_315 (P : Params) : Obj := ⟨(.type "builtin_function_or_method"), none, .fields #[(.builtin "type.__prepare__"), (.type "type")], #[]⟩
noncomputable def o28_316 (P : Params) : Obj := ⟨(.type "dict"), none, .dict #[(kE P "__module__" (.str "__module__" 621) (.str "stripehole.victims" 612)), (kE P "__qualname__" (.str "__qualname__" 623) (.str "Victim" 622)), (kE P "__firstlineno__" (.str "__firstlineno__" 625) (.int (135) 624)), (kE P "__slots__" (.str "__slots__" 627) (.ref 321)), (kE P "__init__" (.str "__init__" 635) (.ref 328)), (kE P "__eq__" (.str "__eq__" 643) (.ref 335)), (kE P "shows" (.str "shows" 654) (.ref 342)), (kE P "__static_attributes__" (.str "__static_attributes__" 656) (.ref 343))] 8, #[]⟩
noncomputable def o28_317 (P : Params) : Obj := ⟨(.type "tuple"), none, .seq #[] 0, #[]⟩
noncomputable def o28_318 (P : Params) : Obj := ⟨.none, none, .fields #[(.int (138) 0), (.int (4) 0), (.ref 327), (.int (141) 0), (.int (4) 0), (.ref 334), (.int (144) 0), (.int (4) 0), (.ref 341)], #[]⟩
noncomputable def o28_319 (P : Params) : Obj := ⟨(.type "code"), none, .fields #[(.str "Victim" 616), (.str "Victim" 617), (.str "/claim/cut.py" 618), (.int (135) 0), (.int (0) 0), (.int (0) 0), (.int (0) 0), (.int (0) 0), (.ref 317), (.bool false), (.int (181) 0), (.ref 318), .none, .none, .none, .none, (.int (619) 0), (.int (135) 0), (.str "/claim/cut.py" 620)], #[]⟩
noncomputable def o28_320 (P : Params) : Obj := ⟨(.type "frame"), none, .plain, #[(some (.ref 319)), (some (.ref 3)), (some (.ref 316)), none, (some (.str "stripehole.victims" 612)), none, (some (.ref 0))]⟩
noncomputable def o28_321 (P : Params) : Obj := ⟨(.type "tuple"), none, .seq #[(.str "history" 626)] 0, #[]⟩
noncomputable def o28_322 (P : Params) : Obj := ⟨(.type "tuple"), none, .seq #[] 0, #[]⟩
noncomputable def o28_323 (P : Params) : Obj := ⟨.none, none, .fields #[], #[]⟩
noncomputable def o28_324 (P : Params) : Obj := ⟨(.type "tuple"), none, .seq #[(.str "self" 631), (.str "history" 632)] 0, #[]⟩
noncomputable def o28_325 (P : Params) : Obj := ⟨(.type "tuple"), none, .seq #[] 0, #[]⟩
noncomputable def o28_326 (P : Params) : Obj := ⟨.none, none, .func (fD (mt 23 1) "__init__" "Victim.__init__" 0 [] .none .none .none .none none .none .none 0), #[]⟩
noncomputable def o28_327 (P : Params) : Obj := ⟨(.type "code"), none, .fields #[(.str "__init__" 628), (.str "Victim.__init__" 629), (.str "/claim/cut.py" 630), (.int (138) 0), (.int (2) 0), (.int (0) 0), (.int (0) 0), (.int (3) 0), (.ref 322), (.bool true), (.int (181) 0), (.ref 323), .none, (.ref 324), (.ref 325), (.ref 326), (.int (633) 0), (.int (138) 0), (.str "/claim/cut.py" 634)], #[]⟩
noncomputable def o28_328 (P : Params) : Obj := ⟨(.type "function"), none, .func (fD (mt 23 1) "__init__" "Victim.__init__" 3 [] .none .none .none (.str "stripehole.victims" 612) none (.ref 327) .none 0), #[]⟩
noncomputable def o28_329 (P : Params) : Obj := ⟨(.type "tuple"), none, .seq #[] 0, #[]⟩
noncomputable def o28_330 (P : Params) : Obj := ⟨.none, none, .fields #[], #[]⟩
noncomputable def o28_331 (P : Params) : Obj := ⟨(.type "tuple"), none, .seq #[(.str "self" 639), (.str "other" 640)] 0, #[]⟩
noncomputable def o28_332 (P : Params) : Obj := ⟨(.type "tuple"), none, .seq #[] 0, #[]⟩
noncomputable def o28_333 (P : Params) : Obj := ⟨.none, none, .func (fD (mt 23 2) "__eq__" "Victim.__eq__" 0 [] .none .none .none .none none .none .none 0), #[]⟩
noncomputable def o28_334 (P : Params) : Obj := ⟨(.type "code"), none, .fields #[(.str "__eq__" 636), (.str "Victim.__eq__" 637), (.str "/claim/cut.py" 638), (.int (141) 0), (.int (2) 0), (.int (0) 0), (.int (0) 0), (.int (3) 0), (.ref 329), (.bool true), (.int (181) 0), (.ref 330), .none, (.ref 331), (.ref 332), (.ref 333), (.int (641) 0), (.int (141) 0), (.str "/claim/cut.py" 642)], #[]⟩
noncomputable def o28_335 (P : Params) : Obj := ⟨(.type "function"), none, .func (fD (mt 23 2) "__eq__" "Victim.__eq__" 3 [] .none .none .none (.str "stripehole.victims" 612) none (.ref 334) .none 0), #[]⟩
noncomputable def o28_336 (P : Params) : Obj := ⟨(.type "tuple"), none, .seq #[] 0, #[]⟩
noncomputable def o28_337 (P : Params) : Obj := ⟨.none, none, .fields #[], #[]⟩
noncomputable def o28_338 (P : Params) : Obj := ⟨(.type "tuple"), none, .seq #[(.str "self" 647), (.str "stripe" 648), (.str "plan" 649), (.str "block" 650), (.str "wish" 651)] 0, #[]⟩
noncomputable def o28_339 (P : Params) : Obj := ⟨(.type "tuple"), none, .seq #[] 0, #[]⟩
noncomputable def o28_340 (P : Params) : Obj := ⟨.none, none, .func (fD (mt 23 3) "shows" "Victim.shows" 0 [] .none .none .none .none none .none .none 0), #[]⟩
noncomputable def o28_341 (P : Params) : Obj := ⟨(.type "code"), none, .fields #[(.str "shows" 644), (.str "Victim.shows" 645), (.str "/claim/cut.py" 646), (.int (144) 0), (.int (5) 0), (.int (0) 0), (.int (0) 0), (.int (3) 0), (.ref 336), (.bool true), (.int (181) 0), (.ref 337), .none, (.ref 338), (.ref 339), (.ref 340), (.int (652) 0), (.int (144) 0), (.str "/claim/cut.py" 653)], #[]⟩
noncomputable def o28_342 (P : Params) : Obj := ⟨(.type "function"), none, .func (fD (mt 23 3) "shows" "Victim.shows" 3 [] .none .none .none (.str "stripehole.victims" 612) none (.ref 341) .none 0), #[]⟩
noncomputable def o28_343 (P : Params) : Obj := ⟨(.type "tuple"), none, .seq #[(.str "history" 655)] 0, #[]⟩
noncomputable def o28_344 (P : Params) : Obj := ⟨(.type "list"), none, .seq #[(.str "history" 626)] 1, #[]⟩
noncomputable def o28_345 (P : Params) : Obj := ⟨(.type "dict"), none, .dict #[(kE P "__module__" (.str "__module__" 621) (.str "stripehole.victims" 612)), (kE P "__firstlineno__" (.str "__firstlineno__" 625) (.int (135) 624)), (kE P "__slots__" (.str "__slots__" 627) (.ref 321)), (kE P "__init__" (.str "__init__" 635) (.ref 328)), (kE P "__eq__" (.str "__eq__" 643) (.ref 335)), (kE P "shows" (.str "shows" 654) (.ref 342)), (kE P "__static_attributes__" (.str "__static_attributes__" 656) (.ref 343)), (kE P "history" (.str "history" 658) (.ref 347)), (kE P "__doc__" (.str "__doc__" 659) .none), (kE P "__hash__" (.str "__hash__" 660) .none)] 4, #[]⟩
noncomputable def o28_346 (P : Params) : Obj := ⟨(.type "type"), none, .cls ⟨"Victim", [(.type "object")], [(.ref 346), (.type "object")], 345, "Victim", false, ["history"], [], false, none, false⟩, #[none, none, (some (.str "Victim" 614)), (some (.str "Victim" 622)), (some (.builtin "object.__new__")), (some (.bool false))]⟩
noncomputable def o28_347 (P : Params) : Obj := ⟨(.type "member_descriptor"), none, .fields #[(.str "history" 657), (.ref 346), (.builtin "proto.slot"), (.builtin "proto.slot#set"), (.int (0) 0)], #[]⟩
noncomputable def o28_348 (P : Params) : Obj := ⟨(.type "super"), none, .fields #[(.ref 346), (.ref 346), (.ref 346)], #[]⟩
noncomputable def o28_349 (P : Params) : Obj := ⟨(.type "builtin_function_or_method"), none, .fields #[(.builtin "object.__init_subclass__"), (.ref 346)], #[]⟩
noncomputable def o28_350 (P : Params) : Obj := ⟨(.type "tuple"), none, .seq #[] 0, #[]⟩
noncomputable def o28_351 (P : Params) : Obj := ⟨(.type "builtin_function_or_method"), none, .fields #[(.builtin "type.__prepare__"), (.type "type")], #[]⟩
noncomputable def o28_352 (P : Params) : Obj := ⟨(.type "dict"), none, .dict #[(kE P "__module__" (.str "__module__" 670) (.str "stripehole.victims" 612)), (kE P "__qualname__" (.str "__qualname__" 672) (.str "Spared" 671)), (kE P "__firstlineno__" (.str "__firstlineno__" 674) (.int (146) 673)), (kE P "__slots__" (.str "__slots__" 676) (.ref 357)), (kE P "__init__" (.str "__init__" 684) (.ref 364)), (kE P "__eq__" (.str "__eq__" 692) (.ref 371)), (kE P "shows" (.str "shows" 703) (.ref 378)), (kE P "__static_attributes__" (.str "__static_attributes__" 705) (.ref 379))] 8, #[]⟩
noncomputable def o28_353 (P : Params) : Obj := ⟨(.type "tuple"), none, .seq #[] 0, #[]⟩
noncomputable def o28_354 (P : Params) : Obj := ⟨.none, none, .fields #[(.int (149) 0), (.int (4) 0), (.ref 363), (.int (152) 0), (.int (4) 0), (.ref 370), (.int (155) 0), (.int (4) 0), (.ref 377)], #[]⟩
noncomputable def o28_355 (P : Params) : Obj := ⟨(.type "code"), none, .fields #[(.str "Spared" 665), (.str "Spared" 666), (.str "/claim/cut.py" 667), (.int (146) 0), (.int (0) 0), (.int (0) 0), (.int (0) 0), (.int (0) 0), (.ref 353), (.bool false), (.int (181) 0), (.ref 354), .none, .none, .none, .none, (.int (668) 0), (.int (146) 0), (.str "/claim/cut.py" 669)], #[]⟩
noncomputable def o28_356 (P : Params) : Obj := ⟨(.type "frame"), none, .plain, #[(some (.ref 355)), (some (.ref 3)), (some (.ref 352)), none, (some (.str "stripehole.victims" 612)), none, (some (.ref 0))]⟩
noncomputable def o28_357 (P : Params) : Obj := ⟨(.type "tuple"), none, .seq #[(.str "states" 675)] 0, #[]⟩
noncomputable def o28_358 (P : Params) : Obj := ⟨(.type "tuple"), none, .seq #[] 0, #[]⟩
noncomputable def o28_359 (P : Params) : Obj := ⟨.none, none, .fields #[], #[]⟩
noncomputable def o28_360 (P : Params) : Obj := ⟨(.type "tuple"), none, .seq #[(.str "self" 680), (.str "states" 681)] 0, #[]⟩
noncomputable def o28_361 (P : Params) : Obj := ⟨(.type "tuple"), none, .seq #[] 0, #[]⟩
noncomputable def o28_362 (P : Params) : Obj := ⟨.none, none, .func (fD (mt 24 1) "__init__" "Spared.__init__" 0 [] .none .none .none .none none .none .none 0), #[]⟩
noncomputable def o28_363 (P : Params) : Obj := ⟨(.type "code"), none, .fields #[(.str "__init__" 677), (.str "Spared.__init__" 678), (.str "/claim/cut.py" 679), (.int (149) 0), (.int (2) 0), (.int (0) 0), (.int (0) 0), (.int (3) 0), (.ref 358), (.bool true), (.int (181) 0), (.ref 359), .none, (.ref 360), (.ref 361), (.ref 362), (.int (682) 0), (.int (149) 0), (.str "/claim/cut.py" 683)], #[]⟩
noncomputable def o28_364 (P : Params) : Obj := ⟨(.type "function"), none, .func (fD (mt 24 1) "__init__" "Spared.__init__" 3 [] .none .none .none (.str "stripehole.victims" 612) none (.ref 363) .none 0), #[]⟩
noncomputable def o28_365 (P : Params) : Obj := ⟨(.type "tuple"), none, .seq #[] 0, #[]⟩
noncomputable def o28_366 (P : Params) : Obj := ⟨.none, none, .fields #[], #[]⟩
noncomputable def o28_367 (P : Params) : Obj := ⟨(.type "tuple"), none, .seq #[(.str "self" 688), (.str "other" 689)] 0, #[]⟩
noncomputable def o28_368 (P : Params) : Obj := ⟨(.type "tuple"), none, .seq #[] 0, #[]⟩
noncomputable def o28_369 (P : Params) : Obj := ⟨.none, none, .func (fD (mt 24 2) "__eq__" "Spared.__eq__" 0 [] .none .none .none .none none .none .none 0), #[]⟩
noncomputable def o28_370 (P : Params) : Obj := ⟨(.type "code"), none, .fields #[(.str "__eq__" 685), (.str "Spared.__eq__" 686), (.str "/claim/cut.py" 687), (.int (152) 0), (.int (2) 0), (.int (0) 0), (.int (0) 0), (.int (3) 0), (.ref 365), (.bool true), (.int (181) 0), (.ref 366), .none, (.ref 367), (.ref 368), (.ref 369), (.int (690) 0), (.int (152) 0), (.str "/claim/cut.py" 691)], #[]⟩
noncomputable def o28_371 (P : Params) : Obj := ⟨(.type "function"), none, .func (fD (mt 24 2) "__eq__" "Spared.__eq__" 3 [] .none .none .none (.str "stripehole.victims" 612) none (.ref 370) .none 0), #[]⟩
noncomputable def o28_372 (P : Params) : Obj := ⟨(.type "tuple"), none, .seq #[] 0, #[]⟩
noncomputable def o28_373 (P : Params) : Obj := ⟨.none, none, .fields #[], #[]⟩
noncomputable def o28_374 (P : Params) : Obj := ⟨(.type "tuple"), none, .seq #[(.str "self" 696), (.str "stripe" 697), (.str "plan" 698), (.str "block" 699), (.str "wish" 700)] 0, #[]⟩
noncomputable def o28_375 (P : Params) : Obj := ⟨(.type "tuple"), none, .seq #[] 0, #[]⟩
noncomputable def o28_376 (P : Params) : Obj := ⟨.none, none, .func (fD (mt 24 3) "shows" "Spared.shows" 0 [] .none .none .none .none none .none .none 0), #[]⟩
noncomputable def o28_377 (P : Params) : Obj := ⟨(.type "code"), none, .fields #[(.str "shows" 693), (.str "Spared.shows" 694), (.str "/claim/cut.py" 695), (.int (155) 0), (.int (5) 0), (.int (0) 0), (.int (0) 0), (.int (3) 0), (.ref 372), (.bool true), (.int (181) 0), (.ref 373), .none, (.ref 374), (.ref 375), (.ref 376), (.int (701) 0), (.int (155) 0), (.str "/claim/cut.py" 702)], #[]⟩
noncomputable def o28_378 (P : Params) : Obj := ⟨(.type "function"), none, .func (fD (mt 24 3) "shows" "Spared.shows" 3 [] .none .none .none (.str "stripehole.victims" 612) none (.ref 377) .none 0), #[]⟩
noncomputable def o28_379 (P : Params) : Obj := ⟨(.type "tuple"), none, .seq #[(.str "states" 704)] 0, #[]⟩
noncomputable def o28_380 (P : Params) : Obj := ⟨(.type "list"), none, .seq #[(.str "states" 675)] 1, #[]⟩
noncomputable def o28_381 (P : Params) : Obj := ⟨(.type "dict"), none, .dict #[(kE P "__module__" (.str "__module__" 670) (.str "stripehole.victims" 612)), (kE P "__firstlineno__" (.str "__firstlineno__" 674) (.int (146) 673)), (kE P "__slots__" (.str "__slots__" 676) (.ref 357)), (kE P "__init__" (.str "__init__" 684) (.ref 364)), (kE P "__eq__" (.str "__eq__" 692) (.ref 371)), (kE P "shows" (.str "shows" 703) (.ref 378)), (kE P "__static_attributes__" (.str "__static_attributes__" 705) (.ref 379)), (kE P "states" (.str "states" 707) (.ref 383)), (kE P "__doc__" (.str "__doc__" 708) .none), (kE P "__hash__" (.str "__hash__" 709) .none)] 4, #[]⟩
noncomputable def o28_382 (P : Params) : Obj := ⟨(.type "type"), none, .cls ⟨"Spared", [(.type "object")], [(.ref 382), (.type "object")], 381, "Spared", false, ["states"], [], false, none, false⟩, #[none, none, (some (.str "Spared" 663)), (some (.str "Spared" 671)), (some (.builtin "object.__new__")), (some (.bool false))]⟩
noncomputable def o28_383 (P : Params) : Obj := ⟨(.type "member_descriptor"), none, .fields #[(.str "states" 706), (.ref 382), (.builtin "proto.slot"), (.builtin "proto.slot#set"), (.int (0) 0)], #[]⟩
noncomputable def o28_384 (P : Params) : Obj := ⟨(.type "super"), none, .fields #[(.ref 382), (.ref 382), (.ref 382)], #[]⟩
noncomputable def o28_385 (P : Params) : Obj := ⟨(.type "builtin_function_or_method"), none, .fields #[(.builtin "object.__init_subclass__"), (.ref 382)], #[]⟩
noncomputable def o28_386 (P : Params) : Obj := ⟨(.type "tuple"), none, .seq #[] 0, #[]⟩
noncomputable def o28_387 (P : Params) : Obj := ⟨.none, none, .fields #[], #[]⟩
noncomputable def o28_388 (P : Params) : Obj := ⟨(.type "tuple"), none, .seq #[(.str "script" 717), (.str "index" 718), (.str "cells" 719), (.str "cell" 720), (.str "low" 721), (.str "high" 722), (.str "total" 723), (.str "blend" 724)] 0, #[]⟩
noncomputable def o28_389 (P : Params) : Obj := ⟨(.type "tuple"), none, .seq #[] 0, #[]⟩
noncomputable def o28_390 (P : Params) : Obj := ⟨.none, none, .func (fD (tp 26) "_law_number" "_law_number" 0 [] .none .none .none .none none .none .none 0), #[]⟩
noncomputable def o28_391 (P : Params) : Obj := ⟨(.type "code"), none, .fields #[(.str "_law_number" 714), (.str "_law_number" 715), (.str "/claim/cut.py" 716), (.int (158) 0), (.int (2) 0), (.int (0) 0), (.int (0) 0), (.int (3) 0), (.ref 386), (.bool true), (.int (181) 0), (.ref 387), .none, (.ref 388), (.ref 389), (.ref 390), (.int (725) 0), (.int (158) 0), (.str "/claim/cut.py" 726)], #[]⟩
noncomputable def o28_392 (P : Params) : Obj := ⟨(.type "function"), none, .func (fD (tp 26) "_law_number" "_law_number" 3 [] .none .none .none (.str "law_stripehole_k14_whole_answers" 712) none (.ref 391) .none 0), #[]⟩
noncomputable def o28_393 (P : Params) : Obj := ⟨(.type "tuple"), none, .seq #[] 0, #[]⟩
noncomputable def o28_394 (P : Params) : Obj := ⟨.none, none, .fields #[], #[]⟩
noncomputable def o28_395 (P : Params) : Obj := ⟨(.type "tuple"), none, .seq #[(.str "script" 731), (.str "at" 732), (.str "word" 733), (.str "seed" 734), (.str "state" 735)] 0, #[]⟩
noncomputable def o28_396 (P : Params) : Obj := ⟨(.type "tuple"), none, .seq #[] 0, #[]⟩
noncomputable def o28_397 (P : Params) : Obj := ⟨.none, none, .func (fD (tp 27) "_law_part" "_law_part" 0 [] .none .none .none .none none .none .none 0), #[]⟩
noncomputable def o28_398 (P : Params) : Obj := ⟨(.type "code"), none, .fields #[(.str "_law_part" 728), (.str "_law_part" 729), (.str "/claim/cut.py" 730), (.int (165) 0), (.int (3) 0), (.int (0) 0), (.int (0) 0), (.int (3) 0), (.ref 393), (.bool true), (.int (181) 0), (.ref 394), .none, (.ref 395), (.ref 396), (.ref 397), (.int (736) 0), (.int (165) 0), (.str "/claim/cut.py" 737)], #[]⟩
noncomputable def o28_399 (P : Params) : Obj := ⟨(.type "function"), none, .func (fD (tp 27) "_law_part" "_law_part" 3 [] .none .none .none (.str "law_stripehole_k14_whole_answers" 712) none (.ref 398) .none 0), #[]⟩
noncomputable def t28 (P : Params) : BT := (.node (oa_0 P) (.node (oa_1 P) (.node (o28_3 P) (.node (oa_7 P) (.node (o18_15 P) (.node (o18_31 P) (.node (o18_63 P) (.node (o18_127 P) (.node (o28_255 P) .nil .nil) (.node (o28_383 P) .nil .nil)) (.node (o28_191 P) (.node (o28_319 P) .nil .nil) .nil)) (.node (o18_95 P) (.node (o18_159 P) (.node (o28_287 P) .nil .nil) .nil) (.node (o28_223 P) (.node (o28_351 P) .nil .nil) .nil))) (.node (o18_47 P) (.node (o18_79 P) (.node (o18_143 P) (.node (o28_271 P) .nil .nil) (.node (o28_399 P) .nil .nil)) (.node (o28_207 P) (.node (o28_335 P) .nil .nil) .nil)) (.node (o18_111 P) (.node (o18_175 P) (.node (o28_303 P) .nil .nil) .nil) (.node (o28_239 P) (.node (o28_367 P) .nil .nil) .nil)))) (.node (o18_23 P) (.node (o18_39 P) (.node (o18_71 P) (.node (o18_135 P) (.node (o28_263 P) .nil .nil) (.node (o28_391 P) .nil .nil)) (.node (o28_199 P) (.node (o28_327 P) .nil .nil) .nil)) (.node (o18_103 P) (.node (o18_167 P) (.node (o28_295 P) .nil .nil) .nil) (.node (o28_231 P) (.node (o28_359 P) .nil .nil) .nil))) (.node (o18_55 P) (.node (o18_87 P) (.node (o18_151 P) (.node (o28_279 P) .nil .nil) .nil) (.node (o28_215 P) (.node (o28_343 P) .nil .nil) .nil)) (.node (o18_119 P) (.node (o28_183 P) (.node (o28_311 P) .nil .nil) .nil) (.node (o28_247 P) (.node (o28_375 P) .nil .nil) .nil))))) (.node (oa_11 P) (.node (o18_19 P) (.node (o18_35 P) (.node (o18_67 P) (.node (o18_131 P) (.node (o28_259 P) .nil .nil) (.node (o28_387 P) .nil .nil)) (.node (o28_195 P) (.node (o28_323 P) .nil .nil) .nil)) (.node (o18_99 P) (.node (o18_163 P) (.node (o28_291 P) .nil .nil) .nil) (.node (o28_227 P) (.node (o28_355 P) .nil .nil) .nil))) (.node (o18_51 P) (.node (o18_83 P) (.node (o18_147 P) (.node (o28_275 P) .nil .nil) .nil) (.node (o28_211 P) (.node (o28_339 P) .nil .nil) .nil)) (.node (o18_115 P) (.node (o18_179 P) (.node (o28_307 P) .nil .nil) .nil) (.node (o28_243 P) (.node (o28_371 P) .nil .nil) .nil)))) (.node (o18_27 P) (.node (o18_43 P) (.node (o18_75 P) (.node (o18_139 P) (.node (o28_267 P) .nil .nil) (.node (o28_395 P) .nil .nil)) (.node (o28_203 P) (.node (o28_331 P) .nil .nil) .nil)) (.node (o18_107 P) (.node (o18_171 P) (.node (o28_299 P) .nil .nil) .nil) (.node (o28_235 P) (.node (o28_363 P) .nil .nil) .nil))) (.node (o18_59 P) (.node (o18_91 P) (.node (o18_155 P) (.node (o28_283 P) .nil .nil) .nil) (.node (o28_219 P) (.node (o28_347 P) .nil .nil) .nil)) (.node (o18_123 P) (.node (o28_187 P) (.node (o28_315 P) .nil .nil) .nil) (.node (o28_251 P) (.node (o28_379 P) .nil .nil) .nil)))))) (.node (oa_5 P) (.node (oa_9 P) (.node (o18_17 P) (.node (o18_33 P) (.node (o18_65 P) (.node (o18_129 P) (.node (o28_257 P) .nil .nil) (.node (o28_385 P) .nil .nil)) (.node (o28_193 P) (.node (o28_321 P) .nil .nil) .nil)) (.node (o18_97 P) (.node (o18_161 P) (.node (o28_289 P) .nil .nil) .nil) (.node (o28_225 P) (.node (o28_353 P) .nil .nil) .nil))) (.node (o18_49 P) (.node (o18_81 P) (.node (o18_145 P) (.node (o28_273 P) .nil .nil) .nil) (.node (o28_209 P) (.node (o28_337 P) .nil .nil) .nil)) (.node (o18_113 P) (.node (o18_177 P) (.node (o28_305 P) .nil .nil) .nil) (.node (o28_241 P) (.node (o28_369 P) .nil .nil) .nil)))) (.node (o18_25 P) (.node (o18_41 P) (.node (o18_73 P) (.node (o18_137 P) (.node (o28_265 P) .nil .nil) (.node (o28_393 P) .nil .nil)) (.node (o28_201 P) (.node (o28_329 P) .nil .nil) .nil)) (.node (o18_105 P) (.node (o18_169 P) (.node (o28_297 P) .nil .nil) .nil) (.node (o28_233 P) (.node (o28_361 P) .nil .nil) .nil))) (.node (o18_57 P) (.node (o18_89 P) (.node (o18_153 P) (.node (o28_281 P) .nil .nil) .nil) (.node (o28_217 P) (.node (o28_345 P) .nil .nil) .nil)) (.node (o18_121 P) (.node (o28_185 P) (.node (o28_313 P) .nil .nil) .nil) (.node (o28_249 P) (.node (o28_377 P) .nil .nil) .nil))))) (.node (oa_13 P) (.node (o18_21 P) (.node (o18_37 P) (.node (o18_69 P) (.node (o18_133 P) (.node (o28_261 P) .nil .nil) (.node (o28_389 P) .nil .nil)) (.node (o28_197 P) (.node (o28_325 P) .nil .nil) .nil)) (.node (o18_101 P) (.node (o18_165 P) (.node (o28_293 P) .nil .nil) .nil) (.node (o28_229 P) (.node (o28_357 P) .nil .nil) .nil))) (.node (o18_53 P) (.node (o18_85 P) (.node (o18_149 P) (.node (o28_277 P) .nil .nil) .nil) (.node (o28_213 P) (.node (o28_341 P) .nil .nil) .nil)) (.node (o18_117 P) (.node (o18_181 P) (.node (o28_309 P) .nil .nil) .nil) (.node (o28_245 P) (.node (o28_373 P) .nil .nil) .nil)))) (.node (o18_29 P) (.node (o18_45 P) (.node (o18_77 P) (.node (o18_141 P) (.node (o28_269 P) .nil .nil) (.node (o28_397 P) .nil .nil)) (.node (o28_205 P) (.node (o28_333 P) .nil .nil) .nil)) (.node (o18_109 P) (.node (o18_173 P) (.node (o28_301 P) .nil .nil) .nil) (.node (o28_237 P) (.node (o28_365 P) .nil .nil) .nil))) (.node (o18_61 P) (.node (o18_93 P) (.node (o18_157 P) (.node (o28_285 P) .nil .nil) .nil) (.node (o28_221 P) (.node (o28_349 P) .nil .nil) .nil)) (.node (o18_125 P) (.node (o28_189 P) (.node (o28_317 P) .nil .nil) .nil) (.node (o28_253 P) (.node (o28_381 P) .nil .nil) .nil))))))) (.node (oa_2 P) (.node (oa_4 P) (.node (oa_8 P) (.node (o18_16 P) (.node (o18_32 P) (.node (o18_64 P) (.node (o18_128 P) (.node (o28_256 P) .nil .nil) (.node (o28_384 P) .nil .nil)) (.node (o28_192 P) (.node (o28_320 P) .nil .nil) .nil)) (.node (o18_96 P) (.node (o18_160 P) (.node (o28_288 P) .nil .nil) .nil) (.node (o28_224 P) (.node (o28_352 P) .nil .nil) .nil))) (.node (o18_48 P) (.node (o18_80 P) (.node (o18_144 P) (.node (o28_272 P) .nil .nil) .nil) (.node (o28_208 P) (.node (o28_336 P) .nil .nil) .nil)) (.node (o18_112 P) (.node (o18_176 P) (.node (o28_304 P) .nil .nil) .nil) (.node (o28_240 P) (.node (o28_368 P) .nil .nil) .nil)))) (.node (o18_24 P) (.node (o18_40 P) (.node (o18_72 P) (.node (o18_136 P) (.node (o28_264 P) .nil .nil) (.node (o28_392 P) .nil .nil)) (.node (o28_200 P) (.node (o28_328 P) .nil .nil) .nil)) (.node (o18_104 P) (.node (o18_168 P) (.node (o28_296 P) .nil .nil) .nil) (.node (o28_232 P) (.node (o28_360 P) .nil .nil) .nil))) (.node (o18_56 P) (.node (o18_88 P) (.node (o18_152 P) (.node (o28_280 P) .nil .nil) .nil) (.node (o28_216 P) (.node (o28_344 P) .nil .nil) .nil)) (.node (o18_120 P) (.node (o28_184 P) (.node (o28_312 P) .nil .nil) .nil) (.node (o28_248 P) (.node (o28_376 P) .nil .nil) .nil))))) (.node (o28_12 P) (.node (o18_20 P) (.node (o18_36 P) (.node (o18_68 P) (.node (o18_132 P) (.node (o28_260 P) .nil .nil) (.node (o28_388 P) .nil .nil)) (.node (o28_196 P) (.node (o28_324 P) .nil .nil) .nil)) (.node (o18_100 P) (.node (o18_164 P) (.node (o28_292 P) .nil .nil) .nil) (.node (o28_228 P) (.node (o28_356 P) .nil .nil) .nil))) (.node (o18_52 P) (.node (o18_84 P) (.node (o18_148 P) (.node (o28_276 P) .nil .nil) .nil) (.node (o28_212 P) (.node (o28_340 P) .nil .nil) .nil)) (.node (o18_116 P) (.node (o18_180 P) (.node (o28_308 P) .nil .nil) .nil) (.node (o28_244 P) (.node (o28_372 P) .nil .nil) .nil)))) (.node (o18_28 P) (.node (o18_44 P) (.node (o18_76 P) (.node (o18_140 P) (.node (o28_268 P) .nil .nil) (.node (o28_396 P) .nil .nil)) (.node (o28_204 P) (.node (o28_332 P) .nil .nil) .nil)) (.node (o18_108 P) (.node (o18_172 P) (.node (o28_300 P) .nil .nil) .nil) (.node (o28_236 P) (.node (o28_364 P) .nil .nil) .nil))) (.node (o18_60 P) (.node (o18_92 P) (.node (o18_156 P) (.node (o28_284 P) .nil .nil) .nil) (.node (o28_220 P) (.node (o28_348 P) .nil .nil) .nil)) (.node (o18_124 P) (.node (o28_188 P) (.node (o28_316 P) .nil .nil) .nil) (.node (o28_252 P) (.node (o28_380 P) .nil .nil) .nil)))))) (.node (oa_6 P) (.node (oa_10 P) (.node (o18_18 P) (.node (o18_34 P) (.node (o18_66 P) (.node (o18_130 P) (.node (o28_258 P) .nil .nil) (.node (o28_386 P) .nil .nil)) (.node (o28_194 P) (.node (o28_322 P) .nil .nil) .nil)) (.node (o18_98 P) (.node (o18_162 P) (.node (o28_290 P) .nil .nil) .nil) (.node (o28_226 P) (.node (o28_354 P) .nil .nil) .nil))) (.node (o18_50 P) (.node (o18_82 P) (.node (o18_146 P) (.node (o28_274 P) .nil .nil) .nil) (.node (o28_210 P) (.node (o28_338 P) .nil .nil) .nil)) (.node (o18_114 P) (.node (o18_178 P) (.node (o28_306 P) .nil .nil) .nil) (.node (o28_242 P) (.node (o28_370 P) .nil .nil) .nil)))) (.node (o18_26 P) (.node (o18_42 P) (.node (o18_74 P) (.node (o18_138 P) (.node (o28_266 P) .nil .nil) (.node (o28_394 P) .nil .nil)) (.node (o28_202 P) (.node (o28_330 P) .nil .nil) .nil)) (.node (o18_106 P) (.node (o18_170 P) (.node (o28_298 P) .nil .nil) .nil) (.node (o28_234 P) (.node (o28_362 P) .nil .nil) .nil))) (.node (o18_58 P) (.node (o18_90 P) (.node (o18_154 P) (.node (o28_282 P) .nil .nil) .nil) (.node (o28_218 P) (.node (o28_346 P) .nil .nil) .nil)) (.node (o18_122 P) (.node (o28_186 P) (.node (o28_314 P) .nil .nil) .nil) (.node (o28_250 P) (.node (o28_378 P) .nil .nil) .nil))))) (.node (oa_14 P) (.node (o18_22 P) (.node (o18_38 P) (.node (o18_70 P) (.node (o18_134 P) (.node (o28_262 P) .nil .nil) (.node (o28_390 P) .nil .nil)) (.node (o28_198 P) (.node (o28_326 P) .nil .nil) .nil)) (.node (o18_102 P) (.node (o18_166 P) (.node (o28_294 P) .nil .nil) .nil) (.node (o28_230 P) (.node (o28_358 P) .nil .nil) .nil))) (.node (o18_54 P) (.node (o18_86 P) (.node (o18_150 P) (.node (o28_278 P) .nil .nil) .nil) (.node (o28_214 P) (.node (o28_342 P) .nil .nil) .nil)) (.node (o18_118 P) (.node (o18_182 P) (.node (o28_310 P) .nil .nil) .nil) (.node (o28_246 P) (.node (o28_374 P) .nil .nil) .nil)))) (.node (o18_30 P) (.node (o18_46 P) (.node (o18_78 P) (.node (o18_142 P) (.node (o28_270 P) .nil .nil) (.node (o28_398 P) .nil .nil)) (.node (o28_206 P) (.node (o28_334 P) .nil .nil) .nil)) (.node (o18_110 P) (.node (o18_174 P) (.node (o28_302 P) .nil .nil) .nil) (.node (o28_238 P) (.node (o28_366 P) .nil .nil) .nil))) (.node (o18_62 P) (.node (o18_94 P) (.node (o18_158 P) (.node (o28_286 P) .nil .nil) .nil) (.node (o28_222 P) (.node (o28_350 P) .nil .nil) .nil)) (.node (o18_126 P) (.node (o28_190 P) (.node (o28_318 P) .nil .nil) .nil) (.node (o28_254 P) (.node (o28_382 P) .nil .nil) .nil))))))))
noncomputable def n28 : Nat := 400
noncomputable def k28 : Nat := 739
noncomputable def q28 : Pos := ⟨165, 0, 170, 73⟩
noncomputable def o31_3 (P : Params) : Obj := ⟨(.type "dict"), none, .dict #[(kE P "__name__" (.str "__name__" 165) (.str "law_stripehole_k14_whole_answers" 712)), (kE P "__doc__" (.str "__doc__" 166) .none), (kE P "__package__" (.str "__package__" 167) .none), (kE P "__loader__" (.str "__loader__" 168) (.builtin "__main__.__loader__#opaque")), (kE P "__spec__" (.str "__spec__" 169) .none), (kE P "__annotations__" (.str "__annotations__" 170) (.ref 6)), (kE P "__builtins__" (.str "__builtins__" 171) (.ref 4)), (kE P "__file__" (.str "__file__" 173) (.str "/claim/cut.py" 172)), (kE P "__cached__" (.str "__cached__" 174) .none), (kE P "_wall" (.str "_wall" 193) (.ref 21)), (kE P "StripeError" (.str "StripeError" 213) (.ref 31)), (kE P "BadStripe" (.str "BadStripe" 240) (.ref 53)), (kE P "BadPlan" (.str "BadPlan" 267) (.ref 74)), (kE P "MOST_BLOCKS" (.str "MOST_BLOCKS" 271) (.int (3) 270)), (kE P "MOST_STEPS" (.str "MOST_STEPS" 273) (.int (10) 272)), (kE P "REPAIRS" (.str "REPAIRS" 278) (.ref 77)), (kE P "STEPS" (.str "STEPS" 291) (.ref 78)), (kE P "COUPLES" (.str "COUPLES" 298) (.ref 82)), (kE P "is_number" (.str "is_number" 307) (.ref 89)), (kE P "is_word" (.str "is_word" 315) (.ref 96)), (kE P "is_sum" (.str "is_sum" 321) (.ref 101)), (kE P "are_sums" (.str "are_sums" 327) (.ref 106)), (kE P "Stripe" (.str "Stripe" 421) (.ref 165)), (kE P "is_couple_right" (.str "is_couple_right" 430) (.ref 177)), (kE P "are_steps" (.str "are_steps" 436) (.ref 182)), (kE P "Plan" (.str "Plan" 513) (.ref 237)), (kE P "Safe" (.str "Safe" 563) (.ref 274)), (kE P "Broken" (.str "Broken" 611) (.ref 310)), (kE P "Victim" (.str "Victim" 662) (.ref 346)), (kE P "Spared" (.str "Spared" 711) (.ref 382)), (kE P "_law_number" (.str "_law_number" 727) (.ref 392)), (kE P "_law_part" (.str "_law_part" 738) (.ref 399)), (kE P "_law_answer" (.str "_law_answer" 746) (.ref 406)), (kE P "_law_seen" (.str "_law_seen" 754) (.ref 413)), (kE P "law" (.str "law" 773) (.ref 420))] 35, #[]⟩
noncomputable def o31_12 (P : Params) : Obj := ⟨.none, none, .fields #[(.int (1) 0), (.int (0) 0), (.ref 20), (.int (5) 0), (.int (0) 0), (.ref 27), (.int (7) 0), (.int (0) 0), (.ref 41), (.int (12) 0), (.int (0) 0), (.ref 62), (.int (23) 0), (.int (0) 0), (.ref 88), (.int (25) 0), (.int (0) 0), (.ref 95), (.int (27) 0), (.int (0) 0), (.ref 100), (.int (31) 0), (.int (0) 0), (.ref 105), (.int (37) 0), (.int (0) 0), (.ref 112), (.int (66) 0), (.int (0) 0), (.ref 176), (.int (70) 0), (.int (0) 0), (.ref 181), (.int (86) 0), (.int (0) 0), (.ref 188), (.int (112) 0), (.int (0) 0), (.ref 247), (.int (123) 0), (.int (0) 0), (.ref 283), (.int (135) 0), (.int (0) 0), (.ref 319), (.int (146) 0), (.int (0) 0), (.ref 355), (.int (158) 0), (.int (0) 0), (.ref 391), (.int (165) 0), (.int (0) 0), (.ref 398), (.int (171) 0), (.int (0) 0), (.ref 405), (.int (177) 0), (.int (0) 0), (.ref 412), (.int (181) 0), (.int (0) 0), (.ref 419)], #[]⟩
noncomputable def o31_400 (P : Params) : Obj := ⟨(.type "tuple"), none, .seq #[] 0, #[]⟩
noncomputable def o31_401 (P : Params) : Obj := ⟨.none, none, .fields #[], #[]⟩
noncomputable def o31_402 (P : Params) : Obj := ⟨(.type "tuple"), none, .seq #[(.str "word" 742), (.str "part" 743)] 0, #[]⟩
noncomputable def o31_403 (P : Params) : Obj := ⟨(.type "tuple"), none, .seq #[] 0, #[]⟩
noncomputable def o31_404 (P : Params) : Obj := ⟨.none, none, .func (fD (tp 28) "_law_answer" "_law_answer" 0 [] .none .none .none .none none .none .none 0), #[]⟩
noncomputable def o31_405 (P : Params) : Obj := ⟨(.type "code"), none, .fields #[(.str "_law_answer" 739), (.str "_law_answer" 740), (.str "/claim/cut.py" 741), (.int (171) 0), (.int (2) 0), (.int (0) 0), (.int (0) 0), (.int (3) 0), (.ref 400), (.bool true), (.int (181) 0), (.ref 401), .none, (.ref 402), (.ref 403), (.ref 404), (.int (744) 0), (.int (171) 0), (.str "/claim/cut.py" 745)], #[]⟩
noncomputable def o31_406 (P : Params) : Obj := ⟨(.type "function"), none, .func (fD (tp 28) "_law_answer" "_law_answer" 3 [] .none .none .none (.str "law_stripehole_k14_whole_answers" 712) none (.ref 405) .none 0), #[]⟩
noncomputable def o31_407 (P : Params) : Obj := ⟨(.type "tuple"), none, .seq #[] 0, #[]⟩
noncomputable def o31_408 (P : Params) : Obj := ⟨.none, none, .fields #[], #[]⟩
noncomputable def o31_409 (P : Params) : Obj := ⟨(.type "tuple"), none, .seq #[(.str "word" 750), (.str "found" 751)] 0, #[]⟩
noncomputable def o31_410 (P : Params) : Obj := ⟨(.type "tuple"), none, .seq #[] 0, #[]⟩
noncomputable def o31_411 (P : Params) : Obj := ⟨.none, none, .func (fD (tp 29) "_law_seen" "_law_seen" 0 [] .none .none .none .none none .none .none 0), #[]⟩
noncomputable def o31_412 (P : Params) : Obj := ⟨(.type "code"), none, .fields #[(.str "_law_seen" 747), (.str "_law_seen" 748), (.str "/claim/cut.py" 749), (.int (177) 0), (.int (2) 0), (.int (0) 0), (.int (0) 0), (.int (3) 0), (.ref 407), (.bool true), (.int (181) 0), (.ref 408), .none, (.ref 409), (.ref 410), (.ref 411), (.int (752) 0), (.int (177) 0), (.str "/claim/cut.py" 753)], #[]⟩
noncomputable def o31_413 (P : Params) : Obj := ⟨(.type "function"), none, .func (fD (tp 29) "_law_seen" "_law_seen" 3 [] .none .none .none (.str "law_stripehole_k14_whole_answers" 712) none (.ref 412) .none 0), #[]⟩
noncomputable def o31_414 (P : Params) : Obj := ⟨(.type "tuple"), none, .seq #[] 0, #[]⟩
noncomputable def o31_415 (P : Params) : Obj := ⟨.none, none, .fields #[], #[]⟩
noncomputable def o31_416 (P : Params) : Obj := ⟨(.type "tuple"), none, .seq #[(.str "script" 758), (.str "words" 759), (.str "rows" 760), (.str "turn" 761), (.str "word" 762), (.str "part" 763), (.str "due" 764), (.str "found" 765), (.str "one" 766), (.str "again" 767), (.str "other_word" 768), (.str "other" 769), (.str "two" 770)] 0, #[]⟩
noncomputable def o31_417 (P : Params) : Obj := ⟨(.type "tuple"), none, .seq #[] 0, #[]⟩
noncomputable def o31_418 (P : Params) : Obj := ⟨.none, none, .func (fD (tp 30) "law" "law" 0 [] .none .none .none .none none .none .none 0), #[]⟩
noncomputable def o31_419 (P : Params) : Obj := ⟨(.type "code"), none, .fields #[(.str "law" 755), (.str "law" 756), (.str "/claim/cut.py" 757), (.int (181) 0), (.int (1) 0), (.int (0) 0), (.int (0) 0), (.int (3) 0), (.ref 414), (.bool true), (.int (181) 0), (.ref 415), .none, (.ref 416), (.ref 417), (.ref 418), (.int (771) 0), (.int (181) 0), (.str "/claim/cut.py" 772)], #[]⟩
noncomputable def o31_420 (P : Params) : Obj := ⟨(.type "function"), none, .func (fD (tp 30) "law" "law" 3 [] .none .none .none (.str "law_stripehole_k14_whole_answers" 712) none (.ref 419) .none 0), #[]⟩
noncomputable def t31 (P : Params) : BT := (.node (oa_0 P) (.node (oa_1 P) (.node (o31_3 P) (.node (oa_7 P) (.node (o18_15 P) (.node (o18_31 P) (.node (o18_63 P) (.node (o18_127 P) (.node (o28_255 P) .nil .nil) (.node (o28_383 P) .nil .nil)) (.node (o28_191 P) (.node (o28_319 P) .nil .nil) .nil)) (.node (o18_95 P) (.node (o18_159 P) (.node (o28_287 P) .nil .nil) (.node (o31_415 P) .nil .nil)) (.node (o28_223 P) (.node (o28_351 P) .nil .nil) .nil))) (.node (o18_47 P) (.node (o18_79 P) (.node (o18_143 P) (.node (o28_271 P) .nil .nil) (.node (o28_399 P) .nil .nil)) (.node (o28_207 P) (.node (o28_335 P) .nil .nil) .nil)) (.node (o18_111 P) (.node (o18_175 P) (.node (o28_303 P) .nil .nil) .nil) (.node (o28_239 P) (.node (o28_367 P) .nil .nil) .nil)))) (.node (o18_23 P) (.node (o18_39 P) (.node (o18_71 P) (.node (o18_135 P) (.node (o28_263 P) .nil .nil) (.node (o28_391 P) .nil .nil)) (.node (o28_199 P) (.node (o28_327 P) .nil .nil) .nil)) (.node (o18_103 P) (.node (o18_167 P) (.node (o28_295 P) .nil .nil) .nil) (.node (o28_231 P) (.node (o28_359 P) .nil .nil) .nil))) (.node (o18_55 P) (.node (o18_87 P) (.node (o18_151 P) (.node (o28_279 P) .nil .nil) (.node (o31_407 P) .nil .nil)) (.node (o28_215 P) (.node (o28_343 P) .nil .nil) .nil)) (.node (o18_119 P) (.node (o28_183 P) (.node (o28_311 P) .nil .nil) .nil) (.node (o28_247 P) (.node (o28_375 P) .nil .nil) .nil))))) (.node (oa_11 P) (.node (o18_19 P) (.node (o18_35 P) (.node (o18_67 P) (.node (o18_131 P) (.node (o28_259 P) .nil .nil) (.node (o28_387 P) .nil .nil)) (.node (o28_195 P) (.node (o28_323 P) .nil .nil) .nil)) (.node (o18_99 P) (.node (o18_163 P) (.node (o28_291 P) .nil .nil) (.node (o31_419 P) .nil .nil)) (.node (o28_227 P) (.node (o28_355 P) .nil .nil) .nil))) (.node (o18_51 P) (.node (o18_83 P) (.node (o18_147 P) (.node (o28_275 P) .nil .nil) (.node (o31_403 P) .nil .nil)) (.node (o28_211 P) (.node (o28_339 P) .nil .nil) .nil)) (.node (o18_115 P) (.node (o18_179 P) (.node (o28_307 P) .nil .nil) .nil) (.node (o28_243 P) (.node (o28_371 P) .nil .nil) .nil)))) (.node (o18_27 P) (.node (o18_43 P) (.node (o18_75 P) (.node (o18_139 P) (.node (o28_267 P) .nil .nil) (.node (o28_395 P) .nil .nil)) (.node (o28_203 P) (.node (o28_331 P) .nil .nil) .nil)) (.node (o18_107 P) (.node (o18_171 P) (.node (o28_299 P) .nil .nil) .nil) (.node (o28_235 P) (.node (o28_363 P) .nil .nil) .nil))) (.node (o18_59 P) (.node (o18_91 P) (.node (o18_155 P) (.node (o28_283 P) .nil .nil) (.node (o31_411 P) .nil .nil)) (.node (o28_219 P) (.node (o28_347 P) .nil .nil) .nil)) (.node (o18_123 P) (.node (o28_187 P) (.node (o28_315 P) .nil .nil) .nil) (.node (o28_251 P) (.node (o28_379 P) .nil .nil) .nil)))))) (.node (oa_5 P) (.node (oa_9 P) (.node (o18_17 P) (.node (o18_33 P) (.node (o18_65 P) (.node (o18_129 P) (.node (o28_257 P) .nil .nil) (.node (o28_385 P) .nil .nil)) (.node (o28_193 P) (.node (o28_321 P) .nil .nil) .nil)) (.node (o18_97 P) (.node (o18_161 P) (.node (o28_289 P) .nil .nil) (.node (o31_417 P) .nil .nil)) (.node (o28_225 P) (.node (o28_353 P) .nil .nil) .nil))) (.node (o18_49 P) (.node (o18_81 P) (.node (o18_145 P) (.node (o28_273 P) .nil .nil) (.node (o31_401 P) .nil .nil)) (.node (o28_209 P) (.node (o28_337 P) .nil .nil) .nil)) (.node (o18_113 P) (.node (o18_177 P) (.node (o28_305 P) .nil .nil) .nil) (.node (o28_241 P) (.node (o28_369 P) .nil .nil) .nil)))) (.node (o18_25 P) (.node (o18_41 P) (.node (o18_73 P) (.node (o18_137 P) (.node (o28_265 P) .nil .nil) (.node (o28_393 P) .nil .nil)) (.node (o28_201 P) (.node (o28_329 P) .nil .nil) .nil)) (.node (o18_105 P) (.node (o18_169 P) (.node (o28_297 P) .nil .nil) .nil) (.node (o28_233 P) (.node (o28_361 P) .nil .nil) .nil))) (.node (o18_57 P) (.node (o18_89 P) (.node (o18_153 P) (.node (o28_281 P) .nil .nil) (.node (o31_409 P) .nil .nil)) (.node (o28_217 P) (.node (o28_345 P) .nil .nil) .nil)) (.node (o18_121 P) (.node (o28_185 P) (.node (o28_313 P) .nil .nil) .nil) (.node (o28_249 P) (.node (o28_377 P) .nil .nil) .nil))))) (.node (oa_13 P) (.node (o18_21 P) (.node (o18_37 P) (.node (o18_69 P) (.node (o18_133 P) (.node (o28_261 P) .nil .nil) (.node (o28_389 P) .nil .nil)) (.node (o28_197 P) (.node (o28_325 P) .nil .nil) .nil)) (.node (o18_101 P) (.node (o18_165 P) (.node (o28_293 P) .nil .nil) .nil) (.node (o28_229 P) (.node (o28_357 P) .nil .nil) .nil))) (.node (o18_53 P) (.node (o18_85 P) (.node (o18_149 P) (.node (o28_277 P) .nil .nil) (.node (o31_405 P) .nil .nil)) (.node (o28_213 P) (.node (o28_341 P) .nil .nil) .nil)) (.node (o18_117 P) (.node (o18_181 P) (.node (o28_309 P) .nil .nil) .nil) (.node (o28_245 P) (.node (o28_373 P) .nil .nil) .nil)))) (.node (o18_29 P) (.node (o18_45 P) (.node (o18_77 P) (.node (o18_141 P) (.node (o28_269 P) .nil .nil) (.node (o28_397 P) .nil .nil)) (.node (o28_205 P) (.node (o28_333 P) .nil .nil) .nil)) (.node (o18_109 P) (.node (o18_173 P) (.node (o28_301 P) .nil .nil) .nil) (.node (o28_237 P) (.node (o28_365 P) .nil .nil) .nil))) (.node (o18_61 P) (.node (o18_93 P) (.node (o18_157 P) (.node (o28_285 P) .nil .nil) (.node (o31_413 P) .nil .nil)) (.node (o28_221 P) (.node (o28_349 P) .nil .nil) .nil)) (.node (o18_125 P) (.node (o28_189 P) (.node (o28_317 P) .nil .nil) .nil) (.node (o28_253 P) (.node (o28_381 P) .nil .nil) .nil))))))) (.node (oa_2 P) (.node (oa_4 P) (.node (oa_8 P) (.node (o18_16 P) (.node (o18_32 P) (.node (o18_64 P) (.node (o18_128 P) (.node (o28_256 P) .nil .nil) (.node (o28_384 P) .nil .nil)) (.node (o28_192 P) (.node (o28_320 P) .nil .nil) .nil)) (.node (o18_96 P) (.node (o18_160 P) (.node (o28_288 P) .nil .nil) (.node (o31_416 P) .nil .nil)) (.node (o28_224 P) (.node (o28_352 P) .nil .nil) .nil))) (.node (o18_48 P) (.node (o18_80 P) (.node (o18_144 P) (.node (o28_272 P) .nil .nil) (.node (o31_400 P) .nil .nil)) (.node (o28_208 P) (.node (o28_336 P) .nil .nil) .nil)) (.node (o18_112 P) (.node (o18_176 P) (.node (o28_304 P) .nil .nil) .nil) (.node (o28_240 P) (.node (o28_368 P) .nil .nil) .nil)))) (.node (o18_24 P) (.node (o18_40 P) (.node (o18_72 P) (.node (o18_136 P) (.node (o28_264 P) .nil .nil) (.node (o28_392 P) .nil .nil)) (.node (o28_200 P) (.node (o28_328 P) .nil .nil) .nil)) (.node (o18_104 P) (.node (o18_168 P) (.node (o28_296 P) .nil .nil) .nil) (.node (o28_232 P) (.node (o28_360 P) .nil .nil) .nil))) (.node (o18_56 P) (.node (o18_88 P) (.node (o18_152 P) (.node (o28_280 P) .nil .nil) (.node (o31_408 P) .nil .nil)) (.node (o28_216 P) (.node (o28_344 P) .nil .nil) .nil)) (.node (o18_120 P) (.node (o28_184 P) (.node (o28_312 P) .nil .nil) .nil) (.node (o28_248 P) (.node (o28_376 P) .nil .nil) .nil))))) (.node (o31_12 P) (.node (o18_20 P) (.node (o18_36 P) (.node (o18_68 P) (.node (o18_132 P) (.node (o28_260 P) .nil .nil) (.node (o28_388 P) .nil .nil)) (.node (o28_196 P) (.node (o28_324 P) .nil .nil) .nil)) (.node (o18_100 P) (.node (o18_164 P) (.node (o28_292 P) .nil .nil) (.node (o31_420 P) .nil .nil)) (.node (o28_228 P) (.node (o28_356 P) .nil .nil) .nil))) (.node (o18_52 P) (.node (o18_84 P) (.node (o18_148 P) (.node (o28_276 P) .nil .nil) (.node (o31_404 P) .nil .nil)) (.node (o28_212 P) (.node (o28_340 P) .nil .nil) .nil)) (.node (o18_116 P) (.node (o18_180 P) (.node (o28_308 P) .nil .nil) .nil) (.node (o28_244 P) (.node (o28_372 P) .nil .nil) .nil)))) (.node (o18_28 P) (.node (o18_44 P) (.node (o18_76 P) (.node (o18_140 P) (.node (o28_268 P) .nil .nil) (.node (o28_396 P) .nil .nil)) (.node (o28_204 P) (.node (o28_332 P) .nil .nil) .nil)) (.node (o18_108 P) (.node (o18_172 P) (.node (o28_300 P) .nil .nil) .nil) (.node (o28_236 P) (.node (o28_364 P) .nil .nil) .nil))) (.node (o18_60 P) (.node (o18_92 P) (.node (o18_156 P) (.node (o28_284 P) .nil .nil) (.node (o31_412 P) .nil .nil)) (.node (o28_220 P) (.node (o28_348 P) .nil .nil) .nil)) (.node (o18_124 P) (.node (o28_188 P) (.node (o28_316 P) .nil .nil) .nil) (.node (o28_252 P) (.node (o28_380 P) .nil .nil) .nil)))))) (.node (oa_6 P) (.node (oa_10 P) (.node (o18_18 P) (.node (o18_34 P) (.node (o18_66 P) (.node (o18_130 P) (.node (o28_258 P) .nil .nil) (.node (o28_386 P) .nil .nil)) (.node (o28_194 P) (.node (o28_322 P) .nil .nil) .nil)) (.node (o18_98 P) (.node (o18_162 P) (.node (o28_290 P) .nil .nil) (.node (o31_418 P) .nil .nil)) (.node (o28_226 P) (.node (o28_354 P) .nil .nil) .nil))) (.node (o18_50 P) (.node (o18_82 P) (.node (o18_146 P) (.node (o28_274 P) .nil .nil) (.node (o31_402 P) .nil .nil)) (.node (o28_210 P) (.node (o28_338 P) .nil .nil) .nil)) (.node (o18_114 P) (.node (o18_178 P) (.node (o28_306 P) .nil .nil) .nil) (.node (o28_242 P) (.node (o28_370 P) .nil .nil) .nil)))) (.node (o18_26 P) (.node (o18_42 P) (.node (o18_74 P) (.node (o18_138 P) (.node (o28_266 P) .nil .nil) (.node (o28_394 P) .nil .nil)) (.node (o28_202 P) (.node (o28_330 P) .nil .nil) .nil)) (.node (o18_106 P) (.node (o18_170 P) (.node (o28_298 P) .nil .nil) .nil) (.node (o28_234 P) (.node (o28_362 P) .nil .nil) .nil))) (.node (o18_58 P) (.node (o18_90 P) (.node (o18_154 P) (.node (o28_282 P) .nil .nil) (.node (o31_410 P) .nil .nil)) (.node (o28_218 P) (.node (o28_346 P) .nil .nil) .nil)) (.node (o18_122 P) (.node (o28_186 P) (.node (o28_314 P) .nil .nil) .nil) (.node (o28_250 P) (.node (o28_378 P) .nil .nil) .nil))))) (.node (oa_14 P) (.node (o18_22 P) (.node (o18_38 P) (.node (o18_70 P) (.node (o18_134 P) (.node (o28_262 P) .nil .nil) (.node (o28_390 P) .nil .nil)) (.node (o28_198 P) (.node (o28_326 P) .nil .nil) .nil)) (.node (o18_102 P) (.node (o18_166 P) (.node (o28_294 P) .nil .nil) .nil) (.node (o28_230 P) (.node (o28_358 P) .nil .nil) .nil))) (.node (o18_54 P) (.node (o18_86 P) (.node (o18_150 P) (.node (o28_278 P) .nil .nil) (.node (o31_406 P) .nil .nil)) (.node (o28_214 P) (.node (o28_342 P) .nil .nil) .nil)) (.node (o18_118 P) (.node (o18_182 P) (.node (o28_310 P) .nil .nil) .nil) (.node (o28_246 P) (.node (o28_374 P) .nil .nil) .nil)))) (.node (o18_30 P) (.node (o18_46 P) (.node (o18_78 P) (.node (o18_142 P) (.node (o28_270 P) .nil .nil) (.node (o28_398 P) .nil .nil)) (.node (o28_206 P) (.node (o28_334 P) .nil .nil) .nil)) (.node (o18_110 P) (.node (o18_174 P) (.node (o28_302 P) .nil .nil) .nil) (.node (o28_238 P) (.node (o28_366 P) .nil .nil) .nil))) (.node (o18_62 P) (.node (o18_94 P) (.node (o18_158 P) (.node (o28_286 P) .nil .nil) (.node (o31_414 P) .nil .nil)) (.node (o28_222 P) (.node (o28_350 P) .nil .nil) .nil)) (.node (o18_126 P) (.node (o28_190 P) (.node (o28_318 P) .nil .nil) .nil) (.node (o28_254 P) (.node (o28_382 P) .nil .nil) .nil))))))))
noncomputable def n31 : Nat := 421
noncomputable def k31 : Nat := 774
noncomputable def q31 : Pos := ⟨181, 0, 201, 116⟩
noncomputable def tz (P : Params) : BT := (.node (oa_0 P) (.node (oa_1 P) (.node (o31_3 P) (.node (oa_7 P) (.node (o18_15 P) (.node (o18_31 P) (.node (o18_63 P) (.node (o18_127 P) (.node (o28_255 P) .nil .nil) (.node (o28_383 P) .nil .nil)) (.node (o28_191 P) (.node (o28_319 P) .nil .nil) .nil)) (.node (o18_95 P) (.node (o18_159 P) (.node (o28_287 P) .nil .nil) (.node (o31_415 P) .nil .nil)) (.node (o28_223 P) (.node (o28_351 P) .nil .nil) .nil))) (.node (o18_47 P) (.node (o18_79 P) (.node (o18_143 P) (.node (o28_271 P) .nil .nil) (.node (o28_399 P) .nil .nil)) (.node (o28_207 P) (.node (o28_335 P) .nil .nil) .nil)) (.node (o18_111 P) (.node (o18_175 P) (.node (o28_303 P) .nil .nil) .nil) (.node (o28_239 P) (.node (o28_367 P) .nil .nil) .nil)))) (.node (o18_23 P) (.node (o18_39 P) (.node (o18_71 P) (.node (o18_135 P) (.node (o28_263 P) .nil .nil) (.node (o28_391 P) .nil .nil)) (.node (o28_199 P) (.node (o28_327 P) .nil .nil) .nil)) (.node (o18_103 P) (.node (o18_167 P) (.node (o28_295 P) .nil .nil) .nil) (.node (o28_231 P) (.node (o28_359 P) .nil .nil) .nil))) (.node (o18_55 P) (.node (o18_87 P) (.node (o18_151 P) (.node (o28_279 P) .nil .nil) (.node (o31_407 P) .nil .nil)) (.node (o28_215 P) (.node (o28_343 P) .nil .nil) .nil)) (.node (o18_119 P) (.node (o28_183 P) (.node (o28_311 P) .nil .nil) .nil) (.node (o28_247 P) (.node (o28_375 P) .nil .nil) .nil))))) (.node (oa_11 P) (.node (o18_19 P) (.node (o18_35 P) (.node (o18_67 P) (.node (o18_131 P) (.node (o28_259 P) .nil .nil) (.node (o28_387 P) .nil .nil)) (.node (o28_195 P) (.node (o28_323 P) .nil .nil) .nil)) (.node (o18_99 P) (.node (o18_163 P) (.node (o28_291 P) .nil .nil) (.node (o31_419 P) .nil .nil)) (.node (o28_227 P) (.node (o28_355 P) .nil .nil) .nil))) (.node (o18_51 P) (.node (o18_83 P) (.node (o18_147 P) (.node (o28_275 P) .nil .nil) (.node (o31_403 P) .nil .nil)) (.node (o28_211 P) (.node (o28_339 P) .nil .nil) .nil)) (.node (o18_115 P) (.node (o18_179 P) (.node (o28_307 P) .nil .nil) .nil) (.node (o28_243 P) (.node (o28_371 P) .nil .nil) .nil)))) (.node (o18_27 P) (.node (o18_43 P) (.node (o18_75 P) (.node (o18_139 P) (.node (o28_267 P) .nil .nil) (.node (o28_395 P) .nil .nil)) (.node (o28_203 P) (.node (o28_331 P) .nil .nil) .nil)) (.node (o18_107 P) (.node (o18_171 P) (.node (o28_299 P) .nil .nil) .nil) (.node (o28_235 P) (.node (o28_363 P) .nil .nil) .nil))) (.node (o18_59 P) (.node (o18_91 P) (.node (o18_155 P) (.node (o28_283 P) .nil .nil) (.node (o31_411 P) .nil .nil)) (.node (o28_219 P) (.node (o28_347 P) .nil .nil) .nil)) (.node (o18_123 P) (.node (o28_187 P) (.node (o28_315 P) .nil .nil) .nil) (.node (o28_251 P) (.node (o28_379 P) .nil .nil) .nil)))))) (.node (oa_5 P) (.node (oa_9 P) (.node (o18_17 P) (.node (o18_33 P) (.node (o18_65 P) (.node (o18_129 P) (.node (o28_257 P) .nil .nil) (.node (o28_385 P) .nil .nil)) (.node (o28_193 P) (.node (o28_321 P) .nil .nil) .nil)) (.node (o18_97 P) (.node (o18_161 P) (.node (o28_289 P) .nil .nil) (.node (o31_417 P) .nil .nil)) (.node (o28_225 P) (.node (o28_353 P) .nil .nil) .nil))) (.node (o18_49 P) (.node (o18_81 P) (.node (o18_145 P) (.node (o28_273 P) .nil .nil) (.node (o31_401 P) .nil .nil)) (.node (o28_209 P) (.node (o28_337 P) .nil .nil) .nil)) (.node (o18_113 P) (.node (o18_177 P) (.node (o28_305 P) .nil .nil) .nil) (.node (o28_241 P) (.node (o28_369 P) .nil .nil) .nil)))) (.node (o18_25 P) (.node (o18_41 P) (.node (o18_73 P) (.node (o18_137 P) (.node (o28_265 P) .nil .nil) (.node (o28_393 P) .nil .nil)) (.node (o28_201 P) (.node (o28_329 P) .nil .nil) .nil)) (.node (o18_105 P) (.node (o18_169 P) (.node (o28_297 P) .nil .nil) .nil) (.node (o28_233 P) (.node (o28_361 P) .nil .nil) .nil))) (.node (o18_57 P) (.node (o18_89 P) (.node (o18_153 P) (.node (o28_281 P) .nil .nil) (.node (o31_409 P) .nil .nil)) (.node (o28_217 P) (.node (o28_345 P) .nil .nil) .nil)) (.node (o18_121 P) (.node (o28_185 P) (.node (o28_313 P) .nil .nil) .nil) (.node (o28_249 P) (.node (o28_377 P) .nil .nil) .nil))))) (.node (oa_13 P) (.node (o18_21 P) (.node (o18_37 P) (.node (o18_69 P) (.node (o18_133 P) (.node (o28_261 P) .nil .nil) (.node (o28_389 P) .nil .nil)) (.node (o28_197 P) (.node (o28_325 P) .nil .nil) .nil)) (.node (o18_101 P) (.node (o18_165 P) (.node (o28_293 P) .nil .nil) .nil) (.node (o28_229 P) (.node (o28_357 P) .nil .nil) .nil))) (.node (o18_53 P) (.node (o18_85 P) (.node (o18_149 P) (.node (o28_277 P) .nil .nil) (.node (o31_405 P) .nil .nil)) (.node (o28_213 P) (.node (o28_341 P) .nil .nil) .nil)) (.node (o18_117 P) (.node (o18_181 P) (.node (o28_309 P) .nil .nil) .nil) (.node (o28_245 P) (.node (o28_373 P) .nil .nil) .nil)))) (.node (o18_29 P) (.node (o18_45 P) (.node (o18_77 P) (.node (o18_141 P) (.node (o28_269 P) .nil .nil) (.node (o28_397 P) .nil .nil)) (.node (o28_205 P) (.node (o28_333 P) .nil .nil) .nil)) (.node (o18_109 P) (.node (o18_173 P) (.node (o28_301 P) .nil .nil) .nil) (.node (o28_237 P) (.node (o28_365 P) .nil .nil) .nil))) (.node (o18_61 P) (.node (o18_93 P) (.node (o18_157 P) (.node (o28_285 P) .nil .nil) (.node (o31_413 P) .nil .nil)) (.node (o28_221 P) (.node (o28_349 P) .nil .nil) .nil)) (.node (o18_125 P) (.node (o28_189 P) (.node (o28_317 P) .nil .nil) .nil) (.node (o28_253 P) (.node (o28_381 P) .nil .nil) .nil))))))) (.node (oa_2 P) (.node (oa_4 P) (.node (oa_8 P) (.node (o18_16 P) (.node (o18_32 P) (.node (o18_64 P) (.node (o18_128 P) (.node (o28_256 P) .nil .nil) (.node (o28_384 P) .nil .nil)) (.node (o28_192 P) (.node (o28_320 P) .nil .nil) .nil)) (.node (o18_96 P) (.node (o18_160 P) (.node (o28_288 P) .nil .nil) (.node (o31_416 P) .nil .nil)) (.node (o28_224 P) (.node (o28_352 P) .nil .nil) .nil))) (.node (o18_48 P) (.node (o18_80 P) (.node (o18_144 P) (.node (o28_272 P) .nil .nil) (.node (o31_400 P) .nil .nil)) (.node (o28_208 P) (.node (o28_336 P) .nil .nil) .nil)) (.node (o18_112 P) (.node (o18_176 P) (.node (o28_304 P) .nil .nil) .nil) (.node (o28_240 P) (.node (o28_368 P) .nil .nil) .nil)))) (.node (o18_24 P) (.node (o18_40 P) (.node (o18_72 P) (.node (o18_136 P) (.node (o28_264 P) .nil .nil) (.node (o28_392 P) .nil .nil)) (.node (o28_200 P) (.node (o28_328 P) .nil .nil) .nil)) (.node (o18_104 P) (.node (o18_168 P) (.node (o28_296 P) .nil .nil) .nil) (.node (o28_232 P) (.node (o28_360 P) .nil .nil) .nil))) (.node (o18_56 P) (.node (o18_88 P) (.node (o18_152 P) (.node (o28_280 P) .nil .nil) (.node (o31_408 P) .nil .nil)) (.node (o28_216 P) (.node (o28_344 P) .nil .nil) .nil)) (.node (o18_120 P) (.node (o28_184 P) (.node (o28_312 P) .nil .nil) .nil) (.node (o28_248 P) (.node (o28_376 P) .nil .nil) .nil))))) (.node (o31_12 P) (.node (o18_20 P) (.node (o18_36 P) (.node (o18_68 P) (.node (o18_132 P) (.node (o28_260 P) .nil .nil) (.node (o28_388 P) .nil .nil)) (.node (o28_196 P) (.node (o28_324 P) .nil .nil) .nil)) (.node (o18_100 P) (.node (o18_164 P) (.node (o28_292 P) .nil .nil) (.node (o31_420 P) .nil .nil)) (.node (o28_228 P) (.node (o28_356 P) .nil .nil) .nil))) (.node (o18_52 P) (.node (o18_84 P) (.node (o18_148 P) (.node (o28_276 P) .nil .nil) (.node (o31_404 P) .nil .nil)) (.node (o28_212 P) (.node (o28_340 P) .nil .nil) .nil)) (.node (o18_116 P) (.node (o18_180 P) (.node (o28_308 P) .nil .nil) .nil) (.node (o28_244 P) (.node (o28_372 P) .nil .nil) .nil)))) (.node (o18_28 P) (.node (o18_44 P) (.node (o18_76 P) (.node (o18_140 P) (.node (o28_268 P) .nil .nil) (.node (o28_396 P) .nil .nil)) (.node (o28_204 P) (.node (o28_332 P) .nil .nil) .nil)) (.node (o18_108 P) (.node (o18_172 P) (.node (o28_300 P) .nil .nil) .nil) (.node (o28_236 P) (.node (o28_364 P) .nil .nil) .nil))) (.node (o18_60 P) (.node (o18_92 P) (.node (o18_156 P) (.node (o28_284 P) .nil .nil) (.node (o31_412 P) .nil .nil)) (.node (o28_220 P) (.node (o28_348 P) .nil .nil) .nil)) (.node (o18_124 P) (.node (o28_188 P) (.node (o28_316 P) .nil .nil) .nil) (.node (o28_252 P) (.node (o28_380 P) .nil .nil) .nil)))))) (.node (oa_6 P) (.node (oa_10 P) (.node (o18_18 P) (.node (o18_34 P) (.node (o18_66 P) (.node (o18_130 P) (.node (o28_258 P) .nil .nil) (.node (o28_386 P) .nil .nil)) (.node (o28_194 P) (.node (o28_322 P) .nil .nil) .nil)) (.node (o18_98 P) (.node (o18_162 P) (.node (o28_290 P) .nil .nil) (.node (o31_418 P) .nil .nil)) (.node (o28_226 P) (.node (o28_354 P) .nil .nil) .nil))) (.node (o18_50 P) (.node (o18_82 P) (.node (o18_146 P) (.node (o28_274 P) .nil .nil) (.node (o31_402 P) .nil .nil)) (.node (o28_210 P) (.node (o28_338 P) .nil .nil) .nil)) (.node (o18_114 P) (.node (o18_178 P) (.node (o28_306 P) .nil .nil) .nil) (.node (o28_242 P) (.node (o28_370 P) .nil .nil) .nil)))) (.node (o18_26 P) (.node (o18_42 P) (.node (o18_74 P) (.node (o18_138 P) (.node (o28_266 P) .nil .nil) (.node (o28_394 P) .nil .nil)) (.node (o28_202 P) (.node (o28_330 P) .nil .nil) .nil)) (.node (o18_106 P) (.node (o18_170 P) (.node (o28_298 P) .nil .nil) .nil) (.node (o28_234 P) (.node (o28_362 P) .nil .nil) .nil))) (.node (o18_58 P) (.node (o18_90 P) (.node (o18_154 P) (.node (o28_282 P) .nil .nil) (.node (o31_410 P) .nil .nil)) (.node (o28_218 P) (.node (o28_346 P) .nil .nil) .nil)) (.node (o18_122 P) (.node (o28_186 P) (.node (o28_314 P) .nil .nil) .nil) (.node (o28_250 P) (.node (o28_378 P) .nil .nil) .nil))))) (.node (oa_14 P) (.node (o18_22 P) (.node (o18_38 P) (.node (o18_70 P) (.node (o18_134 P) (.node (o28_262 P) .nil .nil) (.node (o28_390 P) .nil .nil)) (.node (o28_198 P) (.node (o28_326 P) .nil .nil) .nil)) (.node (o18_102 P) (.node (o18_166 P) (.node (o28_294 P) .nil .nil) .nil) (.node (o28_230 P) (.node (o28_358 P) .nil .nil) .nil))) (.node (o18_54 P) (.node (o18_86 P) (.node (o18_150 P) (.node (o28_278 P) .nil .nil) (.node (o31_406 P) .nil .nil)) (.node (o28_214 P) (.node (o28_342 P) .nil .nil) .nil)) (.node (o18_118 P) (.node (o18_182 P) (.node (o28_310 P) .nil .nil) .nil) (.node (o28_246 P) (.node (o28_374 P) .nil .nil) .nil)))) (.node (o18_30 P) (.node (o18_46 P) (.node (o18_78 P) (.node (o18_142 P) (.node (o28_270 P) .nil .nil) (.node (o28_398 P) .nil .nil)) (.node (o28_206 P) (.node (o28_334 P) .nil .nil) .nil)) (.node (o18_110 P) (.node (o18_174 P) (.node (o28_302 P) .nil .nil) .nil) (.node (o28_238 P) (.node (o28_366 P) .nil .nil) .nil))) (.node (o18_62 P) (.node (o18_94 P) (.node (o18_158 P) (.node (o28_286 P) .nil .nil) (.node (o31_414 P) .nil .nil)) (.node (o28_222 P) (.node (o28_350 P) .nil .nil) .nil)) (.node (o18_126 P) (.node (o28_190 P) (.node (o28_318 P) .nil .nil) .nil) (.node (o28_254 P) (.node (o28_382 P) .nil .nil) .nil))))))))
noncomputable def nz : Nat := 421
noncomputable def kz : Nat := 774
noncomputable def qz : Pos := ⟨181, 0, 201, 116⟩
def cenv : Env := { scope := prg.main.scope, locals := mainNs, globals := mainNs, cells := [], code := (.ref 13), frame := some 14 }
def cbody : Code := .body (behindTheImports prg) cenv
def cB : List Frame := [topFrame ⟨0, 0, 0, 0⟩]
def sa (w : World) (os : OsState) : SharedT := ⟨ta w.params, na, {}, Array.mk [], boot_drawn, ka, os⟩
def s18 (w : World) (os : OsState) : SharedT := ⟨t18 w.params, n18, {}, Array.mk [], boot_drawn, k18, os⟩
def s28 (w : World) (os : OsState) : SharedT := ⟨t28 w.params, n28, {}, Array.mk [], boot_drawn, k28, os⟩
def s31 (w : World) (os : OsState) : SharedT := ⟨t31 w.params, n31, {}, Array.mk [], boot_drawn, k31, os⟩
def sz (w : World) (os : OsState) : SharedT := ⟨tz w.params, nz, {}, Array.mk [], boot_drawn, kz, os⟩
def l18 : List Stmt := ((behindTheImports prg).drop 0).take 18
def l28 : List Stmt := ((behindTheImports prg).drop 18).take 10
def l31 : List Stmt := ((behindTheImports prg).drop 28).take 3
end Hk14

set_option Elab.async false
set_option linter.all false
set_option maxRecDepth 100000
set_option maxHeartbeats 0
noncomputable section
namespace Hk14
open PySem PySem.W PySem.Calls PyProof.Rows L2 HC
theorem r18 (w : World) (os : OsState) : segF (stQ prg w) 11 (some (.ref 6)) 1572 (sa w os) (pcQ l18 cenv cbody (⟨0, 0, 0, 0⟩ : Pos) cB) = some (s18 w os, cbody, q18) := by
  kernel_rfl
end Hk14

set_option Elab.async false
set_option linter.all false
set_option maxRecDepth 100000
set_option maxHeartbeats 0
noncomputable section
namespace Hk14
open PySem PySem.W PySem.Calls PyProof.Rows L2 HC
theorem r28 (w : World) (os : OsState) : segF (stQ prg w) 11 (some (.ref 6)) 1773 (s18 w os) (pcQ l28 cenv cbody q18 cB) = some (s28 w os, cbody, q28) := by
  kernel_rfl
end Hk14

set_option Elab.async false
set_option linter.all false
set_option maxRecDepth 100000
set_option maxHeartbeats 0
noncomputable section
namespace Hk14
open PySem PySem.W PySem.Calls PyProof.Rows L2 HC
theorem r31 (w : World) (os : OsState) : segF (stQ prg w) 11 (some (.ref 6)) 102 (s28 w os) (pcQ l31 cenv cbody q28 cB) = some (s31 w os, cbody, q31) := by
  kernel_rfl
end Hk14

set_option Elab.async false
set_option linter.all false
set_option maxRecDepth 100000
set_option maxHeartbeats 0
noncomputable section
namespace Hk14
open PySem PySem.W PySem.Calls PyProof.Rows L2 HC
theorem pre (w : World) (os : OsState) : topGo treeTable prg w 11 (some (.ref 6)) 12 ⟨boot_heap w.params, Array.mk [], boot_drawn, boot_toks, os⟩ (topStub prg) = some ((sa w os).abs, ⟨denote treeTable cbody, cbody, qa, cB⟩) := by kernel_rfl
theorem blk (w : World) (os : OsState) : segRun treeTable prg w 11 (some (.ref 6)) 1 1 (sa w os).abs (blockOf (behindTheImports prg) cenv cbody qa cB) = some (.next, (sa w os).abs, cbody, ⟨0, 0, 0, 0⟩) := by kernel_rfl
theorem fin (w : World) (os : OsState) : topRun treeTable prg w 11 (some (.ref 6)) 2 (s31 w os).abs ⟨doneF .next, cbody, q31, cB⟩ = some (sz w os).abs := by kernel_rfl
theorem parts : behindTheImports prg = l18 ++ (l28 ++ (l31 ++ [])) := by kernel_rfl
theorem run (w : World) (os : OsState) : topRun treeTable prg w 11 (some (.ref 6)) (12 + (1 + (1572 + (1773 + (102 + 2))))) ⟨boot_heap w.params, Array.mk [], boot_drawn, boot_toks, os⟩ (topStub prg) = some (sz w os).abs := by
  refine go_top (pre w os) (piece_block (blk w os) ?_)
  have e := piece_app (l := l18) (seg_of (r18 w os)) (piece_app (l := l28) (seg_of (r28 w os)) (piece_app (l := l31) (seg_of (r31 w os)) (piece_nil (env := cenv) (fin w os))))
  rw [← parts] at e
  exact e
end Hk14

set_option Elab.async false
set_option linter.all false
set_option maxRecDepth 100000
set_option maxHeartbeats 0
/-! K14b: the head. -/
noncomputable section
namespace K14
open Ev PySem PySem.Spec PySem.W PySem.Calls PyProof.Rows L2 HC
def fa : List He.Fa := bltNames.map He.Fa.free
def p0 : Pg := hs.p0 dfls fun _ _ => none
def fct (K : PySem.W.Frag) : Bool := hs.ok tab fa K
abbrev hk : PySem.W.Hook := hookX 6 fct (tab.map Ent.dd)
def loose : List PySem.Str := ["_wall", "StripeError", "BadStripe", "BadPlan", "MOST_BLOCKS", "MOST_STEPS", "REPAIRS", "STEPS", "COUPLES", "is_number", "is_word", "is_sum", "are_sums", "Stripe", "is_couple_right", "are_steps", "Plan", "Safe", "Broken", "Victim", "Spared", "_law_number", "_law_part", "_law_answer", "_law_seen"]
abbrev R : OpenRow := OpenLaw.row PySem.Challenge.rw_stripehole_k14_whole_answers
abbrev vw : Program := view R.prog [30]
theorem l1 (w : World) (os : OsState) : HandSHeadRun.looksF R.prog (boot_heap w.params) (Hk14.sz w os).abs = true := by kernel_rfl
theorem l2 (w : World) (os : OsState) : HandSHeadRun.seenQ vw loose (importedModules R.prog.main.body) (fun s => xlAt vw [] s && recOk R.toRowW.records s) (Hk14.sz w os).abs = openGood vw loose := by kernel_rfl
theorem l3t (w : World) (os : OsState) : obsXG 6 fct (tab.map Ent.dd) (HandSHeadRun.getT (Hk14.sz w os)) = He.valD (tab.map Ent.dd) := by kernel_rfl
end K14

set_option Elab.async false
set_option linter.all false
set_option maxRecDepth 100000
set_option maxHeartbeats 0
/-! K14c: the law by its evaluator. -/
noncomputable section
namespace K14
open Ev PySem PySem.Spec PySem.W PySem.Calls PyProof.Rows L2 HC
theorem l3 (w : World) (os : OsState) : hk.obs (Hk14.sz w os).abs = hk.val w := by
  have e := obsXG_eq (n := 6) (F := fct) (fn := tab.map Ent.dd) (HandSHeadRun.getT_eq (Hk14.sz w os))
  rw [← e]
  exact l3t w os
theorem left : ∃ M, LeftO R.prog vw loose (fun s => xlAt vw [] s && recOk R.toRowW.records s) hk.obs hk.val M true := ⟨_, HC.left_cut (p := R.prog) (q := vw) (loose := loose) (Xt := fun s => xlAt vw [] s && recOk R.toRowW.records s) (Yf := hk.obs) (Ya := hk.val) (H1 := fun P => absHeap (Hk14.tz P) Hk14.nz {}) (gs := Array.mk []) (dr := boot_drawn) (k := Hk14.kz)
  (by kernel_rfl) (fun s => by kernel_rfl) (fun w os => Hk14.run w os) (fun w os => l1 w os) (fun w os => l2 w os) (fun w os => l3 w os)⟩
theorem facts {P : Program} {w : World} {K : PySem.W.Frag} {h : Heap} {mg : Str → Option Value} {f : Addr} (X : K.In h) (G : h.Ns mainGlobals mg) (hfa : mg ("law" : Str) = some (.ref f)) (c : obsX fct (tab.map Ent.dd) K = He.valD (tab.map Ent.dd)) :
    ∃ fd : FuncData, (∀ (s : Shared) (v : Value), BindsTo s fd ⟨[v], []⟩ [("script", v)]) ∧ ∀ base : Heap, K.In base → base.Ns mainGlobals mg → FnOk P w K mg base L2.CX0 (2 * tab.length) f fd ["script"] (sp0 (spD K mg 1 ((pgOf p0 tab).fn "law"))) := by
  obtain ⟨cf, hd⟩ := saysX c
  have T : TabH p0 tab K mg := tabH_of X G cf st_is hd all_bnds
  have hfree : ∀ z ∈ fa, z.ok K = true := by
    have c2 : hs.ok tab fa K = true := cf
    unfold HS.ok at c2
    rw [Bool.and_eq_true] at c2
    exact List.all_eq_true.mp c2.1
  have A : Ard P w K mg p0.esub exs := {
    blt := fun x hx => He.free_ok X G (hfree _ (List.mem_map.mpr ⟨x, hx, rfl⟩))
    exc := fun z hz => by cases hz
    sub := fun y x b cy cx e _ _ => by cases (show (none : Option Bool) = some b from e) }
  have hl : e_law ∈ tab := by simp [tab]
  have hm := T.glo e_law hl rfl
  have e := hfa.symm.trans hm
  cases e
  have hcn : ∀ x ∈ cons, (p0.con x).isSome = true := by decide +kernel
  have hcl : ∀ c ∈ clss, ∃ ss k, p0.cls c = some ss ∧ p0.key c "__init__" = some k := by
    have q : ∀ c ∈ clss, (p0.cls c).isSome = true ∧ (p0.key c "__init__").isSome = true := by decide +kernel
    intro c hc
    obtain ⟨q1, q2⟩ := q c hc
    obtain ⟨ss, e1⟩ := Option.isSome_iff_exists.mp q1
    obtain ⟨k, e2⟩ := Option.isSome_iff_exists.mp q2
    exact ⟨ss, k, e1, e2⟩
  obtain ⟨fd, F⟩ := T.ent e_law hl
  have b := FunD.bindsA (ps := ["script"]) (show FunD K "law" "law" (defArgs e_law.st) (defBody e_law.st) (defScope e_law.st) [] [] _ fd from F) fun _ _ _ _ _ _ us hl => match us, hl with | [_], _ => rfl
  refine ⟨fd, fun s v => b s [v] rfl, fun base _ _ => ?_⟩
  obtain ⟨fd', F', ok, _⟩ := tab_ok (P := P) (w := w) (base := base) A T hcn hcl tab (fun _ h => h) tab_is e_law hl
  have ef : fd' = fd := by
    obtain ⟨oc, od, dV, kV, doc, pm, an, cdv, ct, osl, e1, l1, _⟩ := F.ex
    obtain ⟨oc', od', dV', kV', doc', pm', an', cdv', ct', osl', e1', l1', _⟩ := F'.ex
    rw [l1] at l1'
    cases l1'
    rfl
  subst ef
  exact FnOk.cx0 ok
theorem holds_of (hm : ∀ ns : List Int, ns.length ≤ 63 → ∃ h', (pgOf p0 tab).fn "law" [.d true (.lst (ns.map .int))] [] = some (.ok (.d false (.bl true), h'))) : PySem.Challenge.rw_stripehole_k14_whole_answers.Holds := by
  open PySem.W PySem.Calls in
  w_on; o_law
  obtain ⟨M, left⟩ := left
  refine HC.head_cut (r := R) (q := vw) (H := hk) (loose := loose) (d := HandSHeadRun.topDef R.prog 30) (kwd := []) left (by kernel_rfl) (by kernel_rfl) (by kernel_rfl) (by rfl) (by first | assumption | decide +kernel) (by decide +kernel) ⟨rfl, rfl, rfl, rfl, rfl, by decide +kernel⟩ ?hw ?hc
  case hw => w_witness2
  case hc =>
    refine L2.walk_ofE (l := PySem.Challenge.rw_stripehole_k14_whole_answers) (n := 63) (k := 2 * tab.length) (x := "script") (CX := L2.CX0) rfl (by decide) (by kernel_rfl) ⟨rfl, by decide, by decide⟩ ?F (fun _ _ _ _ z => z)
    intro w mg fa h Y G hmg0
    obtain ⟨K, KX, c⟩ := Y
    have hmg : mg ("law" : PySem.Str) = some (.ref fa) := by
      have e : (HandSHeadRun.topDef R.prog 30).name = ("law" : PySem.Str) := by kernel_rfl
      rw [← e]
      exact hmg0
    obtain ⟨fd, hb, hF⟩ := facts (P := (PySem.Challenge.rw_stripehole_k14_whole_answers).prog) (w := w) KX G hmg c
    exact ⟨K, fd, sp0 (spD K mg 1 ((pgOf p0 tab).fn "law")), KX, hb, fun H a ns hl _ hS => law_sp (Nat.le_trans hl (by decide)) hS (hm ns hl), hF⟩
end K14

set_option Elab.async false
set_option linter.all false
/-! EvL: the evaluator's steps as equations. -/
namespace Ev
section
variable {P : Pg} {σ : St} {h : OH} {s : CS} {ss a b hb : List CS} {i n : Nat} {c k e : CE} {t : TN} {ts : List TN} {is : List Nat} {ms : List AM} {es : List CE} {f x : PySem.Str} {o : Op}
theorem L_nil : evSs P [] σ h = some (.nx, σ, h) := rfl
theorem L_cons : evSs P (s :: ss) σ h = seq (evS P s σ h) (evSs P ss) := by simp only [evSs]
theorem L_pass : evS P .pass σ h = some (.nx, σ, h) := by simp only [evS]
theorem L_brk : evS P .brk σ h = some (.bk, σ, h) := by simp only [evS]
theorem L_cont : evS P .cont σ h = some (.ct, σ, h) := by simp only [evS]
theorem L_asg : evS P (.asg (.nm i) e) σ h = val (ev P e σ h) σ h fun p => if flg σ e ≤ 1 then some (.nx, σ.set i (some (.d (decide (flg σ e = 1)) p)), h) else none := by simp only [evS]
theorem L_asgT : evS P (.asg (.tp ts) e) σ h = val (ev P e σ h) σ h fun p => if flg σ e = 0 then (bindT (.tp ts) p σ).map fun σ' => (.nx, σ', h) else none := by simp only [evS]
theorem L_new : evS P (.new i e) σ h = val (ev P e σ h) σ h fun p => (ownO p).map fun o => (.nx, σ.set i (some (.r h.length)), h ++ [o]) := by simp only [evS]
theorem L_par : evS P (.par is ms es) σ h = val (evP P ms es σ h) σ h fun r => (storeS is r.1 σ).map fun σ' => (.nx, σ', r.2) := by simp only [evS]
theorem L_expr : evS P (.expr e) σ h = val (ev P e σ h) σ h fun _ => some (.nx, σ, h) := by simp only [evS]
theorem L_retN : evS P .retN σ h = some (.ret (.d false .non), σ, h) := by simp only [evS]
theorem L_if : evS P (.if_ c a b) σ h = val (evT P c σ h) σ h fun t => if t then evSs P a σ h else evSs P b σ h := by simp only [evS]
theorem L_while : evS P (.while_ n c b) σ h = whileL (evT P c) (evSs P b) n σ h := by simp only [evS]
theorem L_raise : evS P (.raise_ x) σ h = some (.exc ⟨x, none⟩, σ, h) := by simp only [evS]
theorem L_for {xs : List PV} {v : PV} (h1 : ev P e σ h = some (.ok v)) (h2 : itemsOf v = some xs) (h3 : flgI σ e ≤ 1) : evS P (.for_ t e b) σ h = forL (evSs P b) t xs σ h := by
  simp only [evS, h1, val_ok, h2, if_pos h3]
theorem L_retE (hl : ∀ j, e ≠ .loc j) : evS P (.ret e) σ h = val (ev P e σ h) σ h fun p => if flg σ e = 0 then some (.ret (.d false p), σ, h) else none := by
  cases e <;> first | (exact absurd rfl (hl _)) | simp only [evS]
theorem L_retV {p : PV} (h1 : σ[i]? = some (some (.d false p))) : evS P (.ret (.loc i)) σ h = some (.ret (.d false p), σ, h) := by
  simp only [evS, slotR, h1, ev, viewS, Option.map_some, val_ok, flg, if_true]
theorem L_retR (h1 : σ[i]? = some (some (.r n))) : evS P (.ret (.loc i)) σ h = some (.ret (.r n), σ, h) := by
  simp only [evS, slotR, h1]
theorem L_app {xs : List PV} (h1 : σ[i]? = some (some (.r n))) (h2 : h[n]? = some (.l xs)) (h3 : xs.length < big) : evS P (.app i e) σ h = val (ev P e σ h) σ h fun p => if flg σ e = 0 then some (.nx, σ, h.set n (.l (xs ++ [p]))) else none := by
  simp only [evS, slotR, h1, h2, h3, and_true]
theorem L_aug {p : PV} {kk : Bool} (h1 : σ[i]? = some (some (.d kk p))) : evS P (.aug i o e) σ h = val (ev P e σ h) σ h fun y => (augI o p y).map fun j => (.nx, σ.set i (some (.d false (.int j))), h) := by
  simp only [evS, h1]
theorem L_try (h1 : evSs P a σ h = some (.nx, σ, h)) : evS P (.try_ a x hb) σ h = some (.nx, σ, h) := by simp only [evS, h1]
theorem L_tryX {z : Exn} {σ' : St} {h' : OH} (h1 : evSs P a σ h = some (.exc z, σ', h')) (h2 : P.esub z.cls x = some true) : evS P (.try_ a x hb) σ h = noExc (evSs P hb σ' h') := by simp only [evS, h1, h2]
theorem forL_nil {f : St → OH → O} {t : TN} {σ : St} {h : OH} : forL f t [] σ h = some (.nx, σ, h) := rfl
theorem forL_nx {f : St → OH → O} {t : TN} {x : PV} {xs : List PV} {σ σ1 σ2 : St} {h h2 : OH} (hb : bindT t x σ = some σ1) (hf : f σ1 h = some (.nx, σ2, h2)) : forL f t (x :: xs) σ h = forL f t xs σ2 h2 := by
  rw [forL, hb]
  simp only [hf]
theorem forL_ret {f : St → OH → O} {t : TN} {x : PV} {xs : List PV} {σ σ1 σ2 : St} {h h2 : OH} {s : SV} (hb : bindT t x σ = some σ1) (hf : f σ1 h = some (.ret s, σ2, h2)) : forL f t (x :: xs) σ h = some (.ret s, σ2, h2) := by
  rw [forL, hb]
  simp only [hf]
/-- a loop over what a list of things stands for, by an invariant of what is done -/
theorem forL_inv {α : Type} {f : St → OH → O} {t : TN} {c : α → PV} (I : List α → St → OH → Prop) : ∀ (xs done : List α) (σ : St) (h : OH), (∀ d x r σ h, done ++ xs = d ++ x :: r → I d σ h → ∃ σ1 σ2 h2, bindT t (c x) σ = some σ1 ∧ f σ1 h = some (.nx, σ2, h2) ∧ I (d ++ [x]) σ2 h2) →
    I done σ h → ∃ σ' h', forL f t (xs.map c) σ h = some (.nx, σ', h') ∧ I (done ++ xs) σ' h'
  | [], done, σ, h, _, hi => ⟨σ, h, rfl, by rw [List.append_nil]; exact hi⟩
  | x :: xs, done, σ, h, step, hi => by
    obtain ⟨σ1, σ2, h2, e1, e2, i2⟩ := step done x xs σ h rfl hi
    obtain ⟨σ', h', e3, i3⟩ := forL_inv I xs (done ++ [x]) σ2 h2 (fun d y r σ h e => step d y r σ h (by rw [← e]; simp)) i2
    exact ⟨σ', h', by rw [List.map_cons, forL_nx e1 e2]; exact e3, by rw [List.append_assoc] at i3; exact i3⟩
/-! ### a block's steps -/
variable {p q : PV} {j : Nat} {e2 : CE}
theorem S_asg (he : ev P e σ h = some (.ok p)) (hf : flg σ e = 0) : evSs P (.asg (.nm i) e :: ss) σ h = evSs P ss (σ.set i (some (.d false p))) h := by
  rw [L_cons, L_asg, he, val_ok, hf]
  rfl
theorem S_new {oo : OO} (he : ev P e σ h = some (.ok p)) (ho : ownO p = some oo) : evSs P (.new i e :: ss) σ h = evSs P ss (σ.set i (some (.r h.length))) (h ++ [oo]) := by
  rw [L_cons, L_new, he, val_ok, ho]
  rfl
theorem S_ret (he : ev P e σ h = some (.ok p)) (hf : flg σ e = 0) (hl : ∀ k, e ≠ .loc k) : evSs P (.ret e :: ss) σ h = some (.ret (.d false p), σ, h) := by
  rw [L_cons, L_retE hl, he, val_ok, hf]
  rfl
theorem S_par2 (he : ev P e σ h = some (.ok p)) (hf : flg σ e = 0) (he2 : ev P e2 σ h = some (.ok q)) (hf2 : flg σ e2 = 0) : evSs P (.par [i, j] [.v, .v] [e, e2] :: ss) σ h = evSs P ss ((σ.set i (some (.d false p))).set j (some (.d false q))) h := by
  rw [L_cons, L_par]
  simp only [evP, he, he2, hf, hf2, bnd_ok, Nat.zero_le, if_true, val_ok, storeS, Option.map_some, seq_nx]
  rfl
theorem S_expr (he : ev P e σ h = some (.ok p)) : evSs P (.expr e :: ss) σ h = evSs P ss σ h := by
  rw [L_cons, L_expr, he, val_ok]
  rfl
theorem S_ifT (he : evT P c σ h = some (.ok true)) : evSs P (.if_ c a b :: ss) σ h = seq (evSs P a σ h) (evSs P ss) := by
  rw [L_cons, L_if, he, val_ok, if_pos rfl]
theorem S_ifF (he : evT P c σ h = some (.ok false)) : evSs P (.if_ c a b :: ss) σ h = seq (evSs P b σ h) (evSs P ss) := by
  rw [L_cons, L_if, he, val_ok, if_neg (by decide)]
theorem S_for {xs : List PV} {v : PV} {σ' : St} {h' : OH} (h1 : ev P e σ h = some (.ok v)) (h2 : itemsOf v = some xs) (h3 : flgI σ e ≤ 1) (h4 : forL (evSs P b) t xs σ h = some (.nx, σ', h')) : evSs P (.for_ t e b :: ss) σ h = evSs P ss σ' h' := by
  rw [L_cons, L_for h1 h2 h3, h4]
  rfl
theorem run_ret {d : Df} {as : List SV} {s : SV} {σ' : St} {h' : OH} (hf : as.length = d.ps) (hd : d.dfl = []) (e : evSs P d.body (start d as) h = some (.ret s, σ', h')) : run P d as h = some (.ok (s, h')) := by
  unfold run fill
  rw [if_pos ⟨by omega, by omega⟩, hd]
  simp only [List.drop_nil, List.map_nil, List.append_nil, e]
end
end Ev

set_option Elab.async false
set_option linter.all false
set_option maxRecDepth 100000
set_option maxHeartbeats 4000000
/-! EvN: the laws' numbers. -/
namespace Ev
/-- _law_number(script, index): script, index, cells, cell, low, high, total, blend -/
def dNum : Df where
  ps := 2
  n := 8
  body := [
    .asg (.nm 2) (.ite (.cmp .ne (.loc 0) (.lst [])) (.slU (.loc 0) (.cst (.int 63))) (.lst [.cst (.int 5)])),
    .asg (.nm 3) (.bin .add (.idx (.loc 2) (.bin .mod (.bi .int [.loc 1]) (.bi .len [.loc 2]))) (.bin .mul (.cst (.int 13)) (.bin .fdiv (.loc 1) (.bi .len [.loc 2])))),
    .par [4, 5] [.v, .v] [.bin .mod (.bi .int [.loc 3]) (.cst (.int 1000003)), .bin .mod (.bi .int [.bin .fdiv (.loc 3) (.cst (.int 1000003))]) (.cst (.int 999983))],
    .asg (.nm 6) (.bin .mod (.bi .int [.bi .sum [.loc 2]]) (.cst (.int 65521))),
    .asg (.nm 7) (.bin .mod (.bi .int [.bin .add (.bin .add (.bin .mul (.bin .add (.loc 4) (.bin .mul (.cst (.int 977)) (.loc 1))) (.cst (.int 48271))) (.bin .mul (.cst (.int 31)) (.loc 5))) (.loc 6)]) (.cst (.int 2147483647))),
    .ret (.bin .add (.bin .mul (.bin .mod (.bi .int [.bin .mul (.loc 7) (.bin .add (.bin .add (.loc 7) (.bin .mul (.cst (.int 31)) (.loc 1))) (.cst (.int 7)))]) (.cst (.int 2147483629))) (.cst (.int 65537))) (.loc 5))]
theorem areData_ints : ∀ xs : List Int, areData (xs.map PV.int) = true
  | [] => rfl
  | x :: xs => by simp only [List.map_cons, areData, isData, areData_ints xs, Bool.and_self]
theorem depths_ints : ∀ xs : List Int, depths (xs.map PV.int) = 0
  | [] => rfl
  | x :: xs => by simp only [List.map_cons, depths, depth, depths_ints xs, Nat.max_self]
theorem cmpOk_int (i : Int) : cmpOk (.int i) = true := rfl
theorem cmpOk_lst (xs : List Int) : cmpOk (.lst (xs.map PV.int)) = true := by
  simp only [cmpOk, isData, depth, areData_ints, depths_ints]; rfl
theorem bi1_int (i : Int) : bi1 .int (.int i) = some (.int i) := rfl
theorem bi1_len (xs : List PV) : bi1 .len (.lst xs) = some (.int xs.length) := rfl
theorem asInts_ints : ∀ xs : List Int, asInts (xs.map PV.int) = some xs
  | [] => rfl
  | x :: xs => by simp only [List.map_cons, asInts, asInts_ints xs, Option.map_some]
theorem op_add (i j : Int) : op2 .add (.int i) (.int j) = some (.int (i + j)) := rfl
theorem op_mod {j : Int} (i : Int) (h : 0 < j) : op2 .mod (.int i) (.int j) = some (.int (i % j)) := by simp only [op2, if_pos h]
theorem op_fdiv {j : Int} (i : Int) (h : 0 < j) (h2 : j < 1073741824) : op2 .fdiv (.int i) (.int j) = some (.int (i / j)) := by simp only [op2, if_pos (And.intro h h2)]
theorem op_mulL {i : Int} (j : Int) (h : -(2 ^ 64) < i ∧ i < 2 ^ 64) : op2 .mul (.int i) (.int j) = some (.int (i * j)) := by simp only [op2]; rw [if_pos (.inl h)]
theorem op_mulR (i : Int) {j : Int} (h : -(2 ^ 64) < j ∧ j < 2 ^ 64) : op2 .mul (.int i) (.int j) = some (.int (i * j)) := by simp only [op2]; rw [if_pos (.inr h)]
/-- an operation on whole numbers -/
theorem ev_bin {P : Pg} {o : Op} {a b : CE} {σ : St} {h : OH} {i j k : Int} (ha : ev P a σ h = ok (.int i)) (hb : ev P b σ h = ok (.int j)) (ho : op2 o (.int i) (.int j) = some (.int k)) : ev P (.bin o a b) σ h = ok (.int k) := by
  simp only [ev, ha, hb, bnd_ok, ho, Option.map_some]
theorem ev_int {P : Pg} {a : CE} {σ : St} {h : OH} {i : Int} (ha : ev P a σ h = ok (.int i)) (hs : ∀ z, a ≠ .star z) : ev P (.bi .int [a]) σ h = ok (.int i) := by
  have e : evs P [a] σ h = ok [.int i] := by
    cases a <;> first | exact absurd rfl (hs _) | (simp only [evs, ha, bnd_ok])
  simp only [ev, e, bnd_ok, bi1_int, Option.map_some]
theorem ev_bi1 {P : Pg} {f : Bi} {a : CE} {σ : St} {h : OH} {p q : PV} (ha : ev P a σ h = ok p) (hs : ∀ z, a ≠ .star z) (hf : bi1 f p = some q) : ev P (.bi f [a]) σ h = ok q := by
  have e : evs P [a] σ h = ok [p] := by
    cases a <;> first | exact absurd rfl (hs _) | (simp only [evs, ha, bnd_ok])
  simp only [ev, e, bnd_ok, hf, Option.map_some]
theorem ev_cst {P : Pg} {p : PV} {σ : St} {h : OH} : ev P (.cst p) σ h = ok p := by simp only [ev]
theorem ev_loc {P : Pg} {i : Nat} {k : Bool} {p : PV} {σ : St} {h : OH} (e : σ[i]? = some (some (.d k p))) : ev P (.loc i) σ h = ok p := by simp only [ev, e, viewS, Option.map_some]
theorem bi1_sum (xs : List Int) : bi1 .sum (.lst (xs.map PV.int)) = some (.int xs.sum) := by simp only [bi1, asInts_ints, Option.map_some]
theorem peq_nil : ∀ xs : List Int, peq (.lst (xs.map PV.int)) (.lst []) = xs.isEmpty
  | [] => rfl
  | x :: xs => rfl
theorem cut63 (xs : List Int) (h : xs.length ≤ 63) : cut (xs.map PV.int) none (some 63) = xs.map PV.int := by
  unfold cut sEnd
  simp only [show ¬ ((63 : Int) < 0) by decide, if_false, show (63 : Int).toNat = 63 from rfl, List.drop_zero, Nat.sub_zero, List.length_map]
  rw [List.take_of_length_le]
  simp only [List.length_map]
  omega
theorem idx_int {xs : List Int} {k : Int} (h0 : 0 ≤ k) (h1 : k < xs.length) : ∃ z, index (.lst (xs.map PV.int)) (.int k) = some (.int z) := by
  refine ⟨xs[k.toNat]'(by omega), ?_⟩
  have h2 : k.toNat < xs.length := by omega
  simp only [index, ixN, List.length_map, if_pos h0, if_pos h1, Option.bind_some, List.getElem?_map, List.getElem?_eq_getElem h2, Option.map_some]
/-- _law_number is a whole number -/
theorem run_number (P : Pg) (a b : Bool) (ns : List Int) (i : Int) (h : OH) (hn : ns.length ≤ 63) : ∃ n : Int, run P dNum [.d a (.lst (ns.map PV.int)), .d b (.int i)] h = ok (.d false (.int n), h) := by
  obtain ⟨cells, hc, hl1, hl2⟩ : ∃ cells : List Int, ev P (.ite (.cmp .ne (.loc 0) (.lst [])) (.slU (.loc 0) (.cst (.int 63))) (.lst [.cst (.int 5)])) [some (.d a (.lst (ns.map PV.int))), some (.d b (.int i)), none, none, none, none, none, none] h = ok (.lst (cells.map PV.int)) ∧ 0 < cells.length ∧ cells.length ≤ 63 := by
    have e1 : cmpOk (.lst (ns.map PV.int)) = true := cmpOk_lst ns
    have e2 : cmpOk (.lst []) = true := rfl
    cases ns with
    | nil =>
      refine ⟨[5], ?_, by decide, by decide⟩
      simp (config := { decide := true }) only [ev, evs, List.getElem?_cons_zero, viewS, Option.map_some, bnd_ok, flgs, cm2, e1, e2, Bool.and_self, if_true, peq_nil, truth, withO_some, List.isEmpty_nil, Bool.not_true]
      rfl
    | cons x xs =>
      refine ⟨x :: xs, ?_, by simp, hn⟩
      simp (config := { decide := true }) only [ev, evs, List.getElem?_cons_zero, viewS, Option.map_some, bnd_ok, flgs, cm2, e1, e2, Bool.and_self, if_true, peq_nil, truth, withO_some, List.isEmpty_cons, Bool.not_false, asInt, slice, cut63 (x :: xs) hn, List.length_nil, Nat.zero_le, true_and, and_true]
  have hlen : 0 < (cells.length : Int) := by omega
  have hm0 : 0 ≤ i % (cells.length : Int) := Int.emod_nonneg _ (by omega)
  have hm1 : i % (cells.length : Int) < cells.length := Int.emod_lt_of_pos _ hlen
  obtain ⟨z, hz⟩ := idx_int hm0 hm1
  -- the state, by what is known
  let σ1 : St := [some (.d a (.lst (ns.map PV.int))), some (.d b (.int i)), some (.d false (.lst (cells.map PV.int))), none, none, none, none, none]
  have f1 : ev P (.loc 1) σ1 h = ok (.int i) := ev_loc rfl
  have f2 : ev P (.loc 2) σ1 h = ok (.lst (cells.map PV.int)) := ev_loc rfl
  have f3 := ev_bi1 f2 (by intro z q; cases q) (by rw [bi1_len, List.length_map] : bi1 .len (.lst (cells.map PV.int)) = some (.int (cells.length : Int)))
  have f4 := ev_bin (ev_int f1 (by intro z q; cases q)) f3 (op_mod i hlen)
  have f5 := ev_bin f1 f3 (op_fdiv i hlen (by omega))
  have f6 := ev_bin (ev_cst (P := P) (p := .int 13)) f5 (op_mulL (i := 13) _ (by decide))
  have f7 : ev P (.idx (.loc 2) (.bin .mod (.bi .int [.loc 1]) (.bi .len [.loc 2]))) σ1 h = ok (.int z) := by
    rw [ev.eq_def]
    simp only [f2, f4, bnd_ok, hz, Option.map_some]
  have hw := ev_bin f7 f6 (op_add _ _)
  generalize z + 13 * (i / (cells.length : Int)) = w at hw
  let σ2 : St := [some (.d a (.lst (ns.map PV.int))), some (.d b (.int i)), some (.d false (.lst (cells.map PV.int))), some (.d false (.int w)), none, none, none, none]
  have g1 : ev P (.loc 3) σ2 h = ok (.int w) := ev_loc rfl
  have g2 := ev_bin (ev_int g1 (by intro z q; cases q)) (ev_cst (P := P) (p := .int 1000003)) (op_mod w (by decide))
  have g3 := ev_bin g1 (ev_cst (P := P) (p := .int 1000003)) (op_fdiv w (by decide) (by decide))
  have g4 := ev_bin (ev_int g3 (by intro z q; cases q)) (ev_cst (P := P) (p := .int 999983)) (op_mod _ (by decide))
  generalize w % 1000003 = lo at g2
  have hhb : 0 ≤ (w / 1000003) % 999983 ∧ (w / 1000003) % 999983 < 999983 := ⟨Int.emod_nonneg _ (by decide), Int.emod_lt_of_pos _ (by decide)⟩
  generalize (w / 1000003) % 999983 = hi at g4 hhb
  let σ3 : St := [some (.d a (.lst (ns.map PV.int))), some (.d b (.int i)), some (.d false (.lst (cells.map PV.int))), some (.d false (.int w)), some (.d false (.int lo)), some (.d false (.int hi)), none, none]
  have k1 : ev P (.loc 2) σ3 h = ok (.lst (cells.map PV.int)) := ev_loc rfl
  have k2 := ev_bin (ev_int (ev_bi1 k1 (by intro z q; cases q) (bi1_sum cells)) (by intro z q; cases q)) (ev_cst (P := P) (p := .int 65521)) (op_mod _ (by decide))
  generalize cells.sum % 65521 = to at k2
  let σ4 : St := [some (.d a (.lst (ns.map PV.int))), some (.d b (.int i)), some (.d false (.lst (cells.map PV.int))), some (.d false (.int w)), some (.d false (.int lo)), some (.d false (.int hi)), some (.d false (.int to)), none]
  have m1 : ev P (.loc 1) σ4 h = ok (.int i) := ev_loc rfl
  have m4 : ev P (.loc 4) σ4 h = ok (.int lo) := ev_loc rfl
  have m5 : ev P (.loc 5) σ4 h = ok (.int hi) := ev_loc rfl
  have m6 : ev P (.loc 6) σ4 h = ok (.int to) := ev_loc rfl
  have n1 := ev_bin (ev_cst (P := P) (p := .int 977)) m1 (op_mulL (i := 977) _ (by decide))
  have n2 := ev_bin (ev_bin m4 n1 (op_add _ _)) (ev_cst (P := P) (p := .int 48271)) (op_mulR _ (j := 48271) (by decide))
  have n3 := ev_bin (ev_cst (P := P) (p := .int 31)) m5 (op_mulL (i := 31) _ (by decide))
  have n4 := ev_bin (ev_int (ev_bin (ev_bin n2 n3 (op_add _ _)) m6 (op_add _ _)) (by intro z q; cases q)) (ev_cst (P := P) (p := .int 2147483647)) (op_mod _ (by decide))
  have hbb : 0 ≤ ((lo + 977 * i) * 48271 + 31 * hi + to) % 2147483647 ∧ ((lo + 977 * i) * 48271 + 31 * hi + to) % 2147483647 < 2147483647 := ⟨Int.emod_nonneg _ (by decide), Int.emod_lt_of_pos _ (by decide)⟩
  generalize ((lo + 977 * i) * 48271 + 31 * hi + to) % 2147483647 = bl at n4 hbb
  let σ5 : St := [some (.d a (.lst (ns.map PV.int))), some (.d b (.int i)), some (.d false (.lst (cells.map PV.int))), some (.d false (.int w)), some (.d false (.int lo)), some (.d false (.int hi)), some (.d false (.int to)), some (.d false (.int bl))]
  have o1 : ev P (.loc 1) σ5 h = ok (.int i) := ev_loc rfl
  have o5 : ev P (.loc 5) σ5 h = ok (.int hi) := ev_loc rfl
  have o7 : ev P (.loc 7) σ5 h = ok (.int bl) := ev_loc rfl
  have p1 := ev_bin (ev_cst (P := P) (p := .int 31)) o1 (op_mulL (i := 31) _ (by decide))
  have p2 := ev_bin (ev_bin o7 p1 (op_add _ _)) (ev_cst (P := P) (p := .int 7)) (op_add _ _)
  have p3 := ev_bin o7 p2 (op_mulL _ (by omega))
  have p4 := ev_bin (ev_int p3 (by intro z q; cases q)) (ev_cst (P := P) (p := .int 2147483629)) (op_mod _ (by decide))
  have p5 := ev_bin p4 (ev_cst (P := P) (p := .int 65537)) (op_mulR _ (j := 65537) (by decide))
  have p6 := ev_bin p5 o5 (op_add _ _)
  generalize (bl * (bl + 31 * i + 7)) % 2147483629 * 65537 + hi = fin at p6
  refine ⟨fin, run_ret (σ' := σ5) rfl rfl ?_⟩
  show evSs P dNum.body [some (.d a (.lst (ns.map PV.int))), some (.d b (.int i)), none, none, none, none, none, none] h = _
  unfold dNum
  dsimp only
  rw [S_asg hc rfl]
  show evSs P _ σ1 h = _
  rw [S_asg hw rfl]
  show evSs P _ σ2 h = _
  rw [S_par2 g2 rfl g4 rfl]
  show evSs P _ σ3 h = _
  rw [S_asg k2 rfl]
  show evSs P _ σ4 h = _
  rw [S_asg n4 rfl]
  show evSs P _ σ5 h = _
  rw [S_ret p6 rfl (by intro k q; cases q)]
end Ev

set_option Elab.async false
set_option linter.all false
set_option maxRecDepth 100000
set_option maxHeartbeats 4000000
/-! K14e: what the law's defs compute. -/
namespace K14
open Ev
/-- a state of which s tells one part -/
def stP (s : Bool) : PV := .tup [.tup [], .tup [], .tup [], .tup [], .bl (!s), .bl false, .tup []]
def beg (s : Bool) : PV := .tup [.str "begin", .int (if s then 1 else 0)]
/-- the words -/
inductive Wd where
  | safe | broken | spared | victim
def Wd.w : Wd → PySem.Str
  | .safe => "safe" | .broken => "broken" | .spared => "spared" | .victim => "victim"
def partL : Wd → Bool → Bool → List PV
  | .safe, s, b | .spared, s, b => if b then [stP s, stP s] else [stP s]
  | .broken, s, b | .victim, s, b => if b then [beg s, .tup [.str "fall"]] else [beg s]
def insP : Wd → Bool → Bool → PV
  | .safe, s, b => .ins "Safe" [.lst (partL .safe s b)]
  | .broken, s, b => .ins "Broken" [.tup (partL .broken s b)]
  | .spared, s, b => .ins "Spared" [.lst (partL .spared s b)]
  | .victim, s, b => .ins "Victim" [.tup (partL .victim s b)]
structure Rw where
  w : Wd
  s : Bool
  b : Bool
def Rw.p (r : Rw) : PV := .tup [.str r.w.w, .lst (partL r.w r.s r.b), insP r.w r.s r.b]
def isS : CE → Bool
  | .star _ => true
  | _ => false
theorem evs_cons' {P : Pg} {e : CE} {es : List CE} {σ : St} {h : OH} (hs : isS e = false) : evs P (e :: es) σ h = bnd (ev P e σ h) fun x => bnd (evs P es σ h) fun xs => ok (x :: xs) := by
  cases e <;> first | (cases hs; done) | (simp only [evs])
theorem L_retO {P : Pg} {e : CE} {σ : St} {h : OH} : evS P (.retO e) σ h = val (ev P e σ h) σ h fun p => (ownO p).map fun o => (.ret (.r h.length), σ, h ++ [o]) := by simp only [evS]
theorem rest_ok (P : Pg) (sv ia : SV) (kw : Bool) (n : Int) (w : Wd) (s b : Bool) (hs : n % 2 = if s then 1 else 0) (hb : n / 2 % 2 = if b then 1 else 0) :
    evSs P d_law_part.body.tail [some sv, some ia, some (.d kw (.str w.w)), some (.d false (.int n)), none] [] = some (.ret (.r 0), [some sv, some ia, some (.d kw (.str w.w)), some (.d false (.int n)), some (.d false (stP s))], [.l (partL w s b)]) := by
  have f1 : op2 .mod (.int n) (.int 2) = some (.int (if s then 1 else 0)) := by rw [op_mod n (by decide), hs]
  have f2 : op2 .fdiv (.int n) (.int 2) = some (.int (n / 2)) := op_fdiv n (by decide) (by decide)
  have f3 : op2 .mod (.int (n / 2)) (.int 2) = some (.int (if b then 1 else 0)) := by rw [op_mod _ (by decide), hb]
  have e1 : ∀ (x : Option SV), ev P (.bin .mod (.bi .int [.loc 3]) (.cst (.int 2))) [some sv, some ia, some (.d kw (.str w.w)), some (.d false (.int n)), x] [] = ok (.int (if s then 1 else 0)) := fun x => ev_bin (ev_int (ev_loc rfl) (by intro z q; cases q)) ev_cst f1
  have e2 : ∀ (x : Option SV), ev P (.bin .add (.cst (.int 1)) (.bin .mod (.bi .int [.bin .fdiv (.loc 3) (.cst (.int 2))]) (.cst (.int 2)))) [some sv, some ia, some (.d kw (.str w.w)), some (.d false (.int n)), x] [] = ok (.int (1 + if b then 1 else 0)) := fun x =>
    ev_bin ev_cst (ev_bin (ev_int (ev_bin (ev_loc rfl) ev_cst f2) (by intro z q; cases q)) ev_cst f3) (op_add _ _)
  have g1 : ev P (.tup [.tup [], .tup [], .tup [], .tup [], .cmp .eq (.bin .mod (.bi .int [.loc 3]) (.cst (.int 2))) (.cst (.int 0)), .cst (.bl false), .tup []]) [some sv, some ia, some (.d kw (.str w.w)), some (.d false (.int n)), none] [] = ok (stP s) := by
    have e0 : ∀ r, ev P (.bin .mod (.bi .int [.loc 3]) (.cst (.int 2))) [some sv, some ia, some (.d kw (.str w.w)), some (.d false (.int n)), none] [] = r → ev P (.tup [.tup [], .tup [], .tup [], .tup [], .cmp .eq (.bin .mod (.bi .int [.loc 3]) (.cst (.int 2))) (.cst (.int 0)), .cst (.bl false), .tup []]) [some sv, some ia, some (.d kw (.str w.w)), some (.d false (.int n)), none] [] = bnd r fun x => bnd ((cm2 .eq x (.int 0)).map fun b => .ok (.bl b)) fun y => ok (.tup [.tup [], .tup [], .tup [], .tup [], y, .bl false, .tup []]) := by
      intro r hr
      subst hr
      generalize hX : CE.bin .mod (.bi .int [.loc 3]) (.cst (.int 2)) = X
      have hX2 : flg [some sv, some ia, some (.d kw (.str w.w)), some (.d false (.int n)), none] X = 0 := by rw [← hX]; rfl
      simp only [ev, evs, bnd_ok, flgs, flg, List.length_nil]
      cases ev P X [some sv, some ia, some (.d kw (.str w.w)), some (.d false (.int n)), none] [] with
      | none => rfl
      | some r =>
        cases r with
        | error x => rfl
        | ok x =>
          simp only [bnd_ok]
          cases cm2 .eq x (.int 0) <;> rfl
    rw [e0 _ (e1 none)]
    cases s <;> rfl
  show evSs P (.asg (.nm 4) _ :: _) _ _ = _
  rw [S_asg g1 rfl]
  show evSs P (.if_ (.cmp .in_ (.loc 2) (.tup [.cst (.str "safe"), .cst (.str "spared")])) [.retO (.ext .rep [.lst [.loc 4], .bin .add (.cst (.int 1)) (.bin .mod (.bi .int [.bin .fdiv (.loc 3) (.cst (.int 2))]) (.cst (.int 2)))])] [] :: _) [some sv, some ia, some (.d kw (.str w.w)), some (.d false (.int n)), some (.d false (stP s))] [] = _
  have a1 : ev P (.ext .rep [.lst [.loc 4], .bin .add (.cst (.int 1)) (.bin .mod (.bi .int [.bin .fdiv (.loc 3) (.cst (.int 2))]) (.cst (.int 2)))]) [some sv, some ia, some (.d kw (.str w.w)), some (.d false (.int n)), some (.d false (stP s))] [] = ok (.lst (if b then [stP s, stP s] else [stP s])) := by
    have q := e2 (some (.d false (stP s)))
    generalize CE.bin .add (.cst (.int 1)) (.bin .mod (.bi .int [.bin .fdiv (.loc 3) (.cst (.int 2))]) (.cst (.int 2))) = X at q ⊢
    have hx : isS X = false := by
      cases X <;> first | rfl | (simp only [ev] at q; cases q)
    have z : evs P [.lst [.loc 4], X] [some sv, some ia, some (.d kw (.str w.w)), some (.d false (.int n)), some (.d false (stP s))] [] = ok [.lst [stP s], .int (1 + if b then 1 else 0)] := by
      rw [evs_cons' rfl, evs_cons' hx, q]
      rfl
    rw [ev.eq_def]
    simp only [z, bnd_ok]
    cases b <;> kernel_rfl
  have a2 : ev P (.slU (.lst [.tup [.cst (.str "begin"), .bin .mod (.bi .int [.loc 3]) (.cst (.int 2))], .tup [.cst (.str "fall")]]) (.bin .add (.cst (.int 1)) (.bin .mod (.bi .int [.bin .fdiv (.loc 3) (.cst (.int 2))]) (.cst (.int 2))))) [some sv, some ia, some (.d kw (.str w.w)), some (.d false (.int n)), some (.d false (stP s))] [] = ok (.lst (if b then [beg s, .tup [.str "fall"]] else [beg s])) := by
    have q := e2 (some (.d false (stP s)))
    have q1 := e1 (some (.d false (stP s)))
    generalize CE.bin .add (.cst (.int 1)) (.bin .mod (.bi .int [.bin .fdiv (.loc 3) (.cst (.int 2))]) (.cst (.int 2))) = X at q ⊢
    have hf : flg [some sv, some ia, some (.d kw (.str w.w)), some (.d false (.int n)), some (.d false (stP s))] (.bin .mod (.bi .int [.loc 3]) (.cst (.int 2))) = 0 := rfl
    have hy : isS (.bin .mod (.bi .int [.loc 3]) (.cst (.int 2))) = false := rfl
    generalize CE.bin .mod (.bi .int [.loc 3]) (.cst (.int 2)) = Y at q1 hf hy ⊢
    have t1 : ev P (.tup [.cst (.str "begin"), Y]) [some sv, some ia, some (.d kw (.str w.w)), some (.d false (.int n)), some (.d false (stP s))] [] = ok (beg s) := by
      have z1 : evs P [.cst (.str "begin"), Y] [some sv, some ia, some (.d kw (.str w.w)), some (.d false (.int n)), some (.d false (stP s))] [] = ok [.str "begin", .int (if s then 1 else 0)] := by
        rw [evs_cons' rfl, evs_cons' hy, q1]
        rfl
      rw [ev.eq_def]
      simp only [z1, bnd_ok, flgs, hf]
      rfl
    have t2 : ev P (.lst [.tup [.cst (.str "begin"), Y], .tup [.cst (.str "fall")]]) [some sv, some ia, some (.d kw (.str w.w)), some (.d false (.int n)), some (.d false (stP s))] [] = ok (.lst [beg s, .tup [.str "fall"]]) := by
      have z2 : evs P [.tup [.cst (.str "begin"), Y], .tup [.cst (.str "fall")]] [some sv, some ia, some (.d kw (.str w.w)), some (.d false (.int n)), some (.d false (stP s))] [] = ok [beg s, .tup [.str "fall"]] := by
        rw [evs_cons' rfl, evs_cons' rfl, t1]
        kernel_rfl
      rw [ev.eq_def]
      simp only [z2, bnd_ok]
      rfl
    rw [ev.eq_def]
    simp only [t2, q, bnd_ok]
    cases s <;> cases b <;> kernel_rfl
  cases w with
  | safe =>
    rw [S_ifT (by kernel_rfl), L_cons, L_retO, a1]
    cases s <;> cases b <;> rfl
  | spared =>
    rw [S_ifT (by kernel_rfl), L_cons, L_retO, a1]
    cases s <;> cases b <;> rfl
  | broken =>
    rw [S_ifF (by kernel_rfl), L_nil, seq_nx, L_cons, L_retO, a2]
    cases s <;> cases b <;> rfl
  | victim =>
    rw [S_ifF (by kernel_rfl), L_nil, seq_nx, L_cons, L_retO, a2]
    cases s <;> cases b <;> rfl
theorem two (n : Int) : n % 2 = 0 ∨ n % 2 = 1 := by omega
def NumOk (P : Pg) : Prop := ∀ (a b : Bool) (ns : List Int) (i : Int) (h : OH), ns.length ≤ 63 → ∃ n : Int, P.fn "_law_number" [.d a (.lst (ns.map PV.int)), .d b (.int i)] h = ok (.d false (.int n), h)
theorem run_part (P : Pg) (hN : NumOk P) (ka kb kw : Bool) (ns : List Int) (i : Int) (w : Wd) (hn : ns.length ≤ 63) : ∃ s b : Bool, run P d_law_part [.d ka (.lst (ns.map PV.int)), .d kb (.int i), .d kw (.str w.w)] [] = ok (.r 0, [.l (partL w s b)]) := by
  have e0 : ∃ n : Int, ev P (.bi .int [.call "_law_number" [.loc 0, .loc 1]]) [some (.d ka (.lst (ns.map PV.int))), some (.d kb (.int i)), some (.d kw (.str w.w)), none, none] [] = ok (.int n) := by
    obtain ⟨n, hn⟩ := hN (decide (flg [some (SV.d ka (.lst (ns.map PV.int))), some (.d kb (.int i)), some (.d kw (.str w.w)), none, none] (.loc 0) ≠ 0)) (decide (flg [some (SV.d ka (.lst (ns.map PV.int))), some (.d kb (.int i)), some (.d kw (.str w.w)), none, none] (.loc 1) ≠ 0)) ns i [] hn
    refine ⟨n, ev_int ?_ (by intro z q; cases q)⟩
    simp only [ev, evs, List.getElem?_cons_zero, List.getElem?_cons_succ, viewS, Option.map_some, bnd_ok, argsOf, hn, told, toldS]
  obtain ⟨n, e0⟩ := e0
  have fin : ∀ s b : Bool, n % 2 = (if s then 1 else 0) → n / 2 % 2 = (if b then 1 else 0) → run P d_law_part [.d ka (.lst (ns.map PV.int)), .d kb (.int i), .d kw (.str w.w)] [] = ok (.r 0, [.l (partL w s b)]) := by
    intro s b hs hb
    refine run_ret (σ' := [some (.d ka (.lst (ns.map PV.int))), some (.d kb (.int i)), some (.d kw (.str w.w)), some (.d false (.int n)), some (.d false (stP s))]) rfl rfl ?_
    show evSs P (.asg (.nm 3) (.bi .int [.call "_law_number" [.loc 0, .loc 1]]) :: d_law_part.body.tail) [some (.d ka (.lst (ns.map PV.int))), some (.d kb (.int i)), some (.d kw (.str w.w)), none, none] [] = _
    rw [S_asg e0 rfl]
    show evSs P d_law_part.body.tail [some (.d ka (.lst (ns.map PV.int))), some (.d kb (.int i)), some (.d kw (.str w.w)), some (.d false (.int n)), none] [] = _
    exact rest_ok P _ _ kw n w s b hs hb
  rcases two n with h1 | h1 <;> rcases two (n / 2) with h2 | h2
  · exact ⟨false, false, fin false false h1 h2⟩
  · exact ⟨false, true, fin false true h1 h2⟩
  · exact ⟨true, false, fin true false h1 h2⟩
  · exact ⟨true, true, fin true true h1 h2⟩
abbrev PL : Pg := pgOf p0 (tab.drop 1)
theorem ans_ok (w : Wd) (s b k : Bool) : PL.fn "_law_answer" [.d false (.str w.w), .d k (.lst (partL w s b))] [] = ok (.d false (insP w s b), []) := by
  cases w <;> cases s <;> cases b <;> cases k <;> kernel_rfl
theorem seen_ok (w : Wd) (s b : Bool) : PL.fn "_law_seen" [.d false (.str w.w), .d false (insP w s b)] [] = ok (.d false (.lst (partL w s b)), []) := by
  cases w <;> cases s <;> cases b <;> kernel_rfl
end K14

set_option Elab.async false
set_option linter.all false
set_option maxRecDepth 100000
set_option maxHeartbeats 4000000
/-! K14f: the law's loops. -/
namespace K14
open Ev
theorem numOk : NumOk (pgOf p0 (tab.drop 3)) := fun a b ns i h hn => by
  obtain ⟨n, e⟩ := run_number (pgOf p0 (tab.drop 4)) a b ns i h hn
  exact ⟨n, e⟩
theorem part_ok (ka kb kw : Bool) (ns : List Int) (i : Int) (w : Wd) (hn : ns.length ≤ 63) : ∃ s b : Bool, PL.fn "_law_part" [.d ka (.lst (ns.map PV.int)), .d kb (.int i), .d kw (.str w.w)] [] = ok (.r 0, [.l (partL w s b)]) :=
  run_part (pgOf p0 (tab.drop 3)) numOk ka kb kw ns i w hn
def wds : PV := .tup [.str "safe", .str "broken", .str "spared", .str "victim"]
def bodyOf : CS → List CS
  | .for_ _ _ b => b
  | .forO _ _ b => b
  | _ => []
def B1 : List CS := bodyOf (d_law.body.getD 1 .pass)
def B2 : List CS := bodyOf (d_law.body.getD 2 .pass)
def B3 : List CS := bodyOf (B2.getD 2 .pass)
def wdOf (i : Nat) : Wd := match i % 4 with
  | 0 => .safe
  | 1 => .broken
  | 2 => .spared
  | _ => .victim
theorem word_ok (P : Pg) (sc : SV) (i : Nat) (hi : i < 20) (x4 x5 x6 x7 x8 x9 x10 x11 x12 : Option SV) (h : OH) : ∃ w : Wd, ev P (.idx (.loc 1) (.bin .mod (.loc 3) (.cst (.int 4)))) [some sc, some (.d false wds), some (.r 0), some (.d false (.int i)), x4, x5, x6, x7, x8, x9, x10, x11, x12] h = ok (.str w.w) := by
  have : i = 0 ∨ i = 1 ∨ i = 2 ∨ i = 3 ∨ i = 4 ∨ i = 5 ∨ i = 6 ∨ i = 7 ∨ i = 8 ∨ i = 9 ∨ i = 10 ∨ i = 11 ∨ i = 12 ∨ i = 13 ∨ i = 14 ∨ i = 15 ∨ i = 16 ∨ i = 17 ∨ i = 18 ∨ i = 19 := by omega
  rcases this with rfl | rfl | rfl | rfl | rfl | rfl | rfl | rfl | rfl | rfl | rfl | rfl | rfl | rfl | rfl | rfl | rfl | rfl | rfl | rfl
  · exact ⟨wdOf 0, by kernel_rfl⟩
  · exact ⟨wdOf 1, by kernel_rfl⟩
  · exact ⟨wdOf 2, by kernel_rfl⟩
  · exact ⟨wdOf 3, by kernel_rfl⟩
  · exact ⟨wdOf 4, by kernel_rfl⟩
  · exact ⟨wdOf 5, by kernel_rfl⟩
  · exact ⟨wdOf 6, by kernel_rfl⟩
  · exact ⟨wdOf 7, by kernel_rfl⟩
  · exact ⟨wdOf 8, by kernel_rfl⟩
  · exact ⟨wdOf 9, by kernel_rfl⟩
  · exact ⟨wdOf 10, by kernel_rfl⟩
  · exact ⟨wdOf 11, by kernel_rfl⟩
  · exact ⟨wdOf 12, by kernel_rfl⟩
  · exact ⟨wdOf 13, by kernel_rfl⟩
  · exact ⟨wdOf 14, by kernel_rfl⟩
  · exact ⟨wdOf 15, by kernel_rfl⟩
  · exact ⟨wdOf 16, by kernel_rfl⟩
  · exact ⟨wdOf 17, by kernel_rfl⟩
  · exact ⟨wdOf 18, by kernel_rfl⟩
  · exact ⟨wdOf 19, by kernel_rfl⟩
theorem partL_len (w : Wd) (s b : Bool) : (partL w s b).length < big := by
  cases w <;> cases s <;> cases b <;> decide
theorem ne_part (w : Wd) (s b : Bool) : cm2 .ne (.lst (partL w s b)) (.lst (partL w s b)) = some false := by
  cases w <;> cases s <;> cases b <;> kernel_rfl
theorem at_end (h : OH) (o : OO) : (h ++ [o])[h.length]? = some o := by
  rw [List.getElem?_append_right (Nat.le_refl _), Nat.sub_self]; rfl
theorem set_end (h : OH) (o o' : OO) : (h ++ [o]).set h.length o' = h ++ [o'] := by
  rw [List.set_append_right _ _ (Nat.le_refl _), Nat.sub_self]; rfl
theorem S_app {P : Pg} {σ : St} {h : OH} {i n : Nat} {e : CE} {ss : List CS} {xs : List PV} {p : PV} (h1 : σ[i]? = some (some (.r n))) (h2 : h[n]? = some (.l xs)) (h3 : xs.length < big) (he : ev P e σ h = some (.ok p)) (hf : flg σ e = 0) : evSs P (.app i e :: ss) σ h = evSs P ss σ (h.set n (.l (xs ++ [p]))) := by
  rw [L_cons, L_app h1 h2 h3, he, val_ok, hf]
  rfl
theorem turn (ns : List Int) (hn : ns.length ≤ 63) (i : Nat) (hi : i < 20) (x4 x5 x6 x7 x8 x9 x10 x11 x12 : Option SV) (h : OH) (rows : List PV) (hh : h[0]? = some (.l rows)) (hr : rows.length < big) :
    ∃ r : Rw, evSs PL B1 [some (.d true (.lst (ns.map PV.int))), some (.d false wds), some (.r 0), some (.d false (.int i)), x4, x5, x6, x7, x8, x9, x10, x11, x12] h =
      some (.nx, [some (.d true (.lst (ns.map PV.int))), some (.d false wds), some (.r 0), some (.d false (.int i)), some (.d false (.str r.w.w)), some (.d false (insP r.w r.s r.b)), some (.r h.length), some (.d false (.lst (partL r.w r.s r.b))), x8, x9, x10, x11, x12],
        (h ++ [OO.l (partL r.w r.s r.b ++ [.int 5])]).set 0 (.l (rows ++ [r.p]))) := by
  obtain ⟨w, hw⟩ := word_ok PL (.d true (.lst (ns.map PV.int))) i hi x4 x5 x6 x7 x8 x9 x10 x11 x12 h
  obtain ⟨s, b, hp⟩ := part_ok true false false ns (5 * (i : Int)) w hn
  refine ⟨⟨w, s, b⟩, ?_⟩
  show evSs PL (.asg (.nm 4) (.idx (.loc 1) (.bin .mod (.loc 3) (.cst (.int 4)))) :: B1.tail) _ h = _
  rw [S_asg hw rfl]
  have hargs : ∀ h' : OH, evs PL [.loc 0, .bin .mul (.cst (.int 5)) (.loc 3), .loc 4] [some (.d true (.lst (ns.map PV.int))), some (.d false wds), some (.r 0), some (.d false (.int i)), some (.d false (.str w.w)), x5, x6, x7, x8, x9, x10, x11, x12] h' = ok [.lst (ns.map PV.int), .int (5 * (i : Int)), .str w.w] := by
    intro h'
    have m1 : ev PL (.bin .mul (.cst (.int 5)) (.loc 3)) [some (.d true (.lst (ns.map PV.int))), some (.d false wds), some (.r 0), some (.d false (.int i)), some (.d false (.str w.w)), x5, x6, x7, x8, x9, x10, x11, x12] h' = ok (.int (5 * (i : Int))) := ev_bin ev_cst (ev_loc rfl) (op_mulL (i := 5) _ (by decide))
    rw [evs_cons' rfl, evs_cons' rfl, evs_cons' rfl, m1]
    rfl
  have c1 : evO PL (.call "_law_part" [.loc 0, .bin .mul (.cst (.int 5)) (.loc 3), .loc 4]) [some (.d true (.lst (ns.map PV.int))), some (.d false wds), some (.r 0), some (.d false (.int i)), some (.d false (.str w.w)), x5, x6, x7, x8, x9, x10, x11, x12] h = ok (.lst (partL w s b)) := by
    simp only [evO, hargs, bnd_ok]
    show toldN (PL.fn "_law_part" [.d true (.lst (ns.map PV.int)), .d false (.int (5 * (i : Int))), .d false (.str w.w)] []) = _
    rw [hp]
    rfl
  have c2 : ∀ h' : OH, ev PL (.call "_law_part" [.loc 0, .bin .mul (.cst (.int 5)) (.loc 3), .loc 4]) [some (.d true (.lst (ns.map PV.int))), some (.d false wds), some (.r 0), some (.d false (.int i)), some (.d false (.str w.w)), x5, x6, x7, x8, x9, x10, x11, x12] h' = ok (.lst (partL w s b)) := by
    intro h'
    rw [ev.eq_def]
    simp only [hargs, bnd_ok]
    show told (PL.fn "_law_part" [.d true (.lst (ns.map PV.int)), .d false (.int (5 * (i : Int))), .d false (.str w.w)] []) = _
    rw [hp]
    rfl
  have s2 : evS PL (.par [6, 7] [.c, .v] [.call "_law_part" [.loc 0, .bin .mul (.cst (.int 5)) (.loc 3), .loc 4], .call "_law_part" [.loc 0, .bin .mul (.cst (.int 5)) (.loc 3), .loc 4]]) [some (.d true (.lst (ns.map PV.int))), some (.d false wds), some (.r 0), some (.d false (.int i)), some (.d false (.str w.w)), x5, x6, x7, x8, x9, x10, x11, x12] h =
      some (.nx, [some (.d true (.lst (ns.map PV.int))), some (.d false wds), some (.r 0), some (.d false (.int i)), some (.d false (.str w.w)), x5, some (.r h.length), some (.d false (.lst (partL w s b))), x8, x9, x10, x11, x12], h ++ [.l (partL w s b)]) := by
    rw [L_par]
    simp only [evP, c1, c2, bnd_ok, ownO, withO_some]
    rfl
  show evSs PL (.par [6, 7] [.c, .v] _ :: B1.tail.tail) [some (.d true (.lst (ns.map PV.int))), some (.d false wds), some (.r 0), some (.d false (.int i)), some (.d false (.str w.w)), x5, x6, x7, x8, x9, x10, x11, x12] h = _
  rw [L_cons, s2, seq_nx]
  have s3 : ev PL (.call "_law_answer" [.loc 4, .loc 6]) [some (.d true (.lst (ns.map PV.int))), some (.d false wds), some (.r 0), some (.d false (.int i)), some (.d false (.str w.w)), x5, some (.r h.length), some (.d false (.lst (partL w s b))), x8, x9, x10, x11, x12] (h ++ [.l (partL w s b)]) = ok (insP w s b) := by
    have a6 : ev PL (.loc 6) [some (.d true (.lst (ns.map PV.int))), some (.d false wds), some (.r 0), some (.d false (.int i)), some (.d false (.str w.w)), x5, some (.r h.length), some (.d false (.lst (partL w s b))), x8, x9, x10, x11, x12] (h ++ [.l (partL w s b)]) = ok (.lst (partL w s b)) := by
      have : viewS (h ++ [OO.l (partL w s b)]) (.r h.length) = some (.lst (partL w s b)) := by
        simp only [viewS, at_end, Option.bind_some, viewO]
      rw [ev.eq_def]
      show (viewS (h ++ [OO.l (partL w s b)]) (.r h.length)).map Except.ok = _
      rw [this]
      rfl
    have z : evs PL [.loc 4, .loc 6] [some (.d true (.lst (ns.map PV.int))), some (.d false wds), some (.r 0), some (.d false (.int i)), some (.d false (.str w.w)), x5, some (.r h.length), some (.d false (.lst (partL w s b))), x8, x9, x10, x11, x12] (h ++ [.l (partL w s b)]) = ok [.str w.w, .lst (partL w s b)] := by
      rw [evs_cons' rfl, evs_cons' rfl, a6]
      rfl
    rw [ev.eq_def]
    simp only [z, bnd_ok]
    show told (PL.fn "_law_answer" [.d false (.str w.w), .d true (.lst (partL w s b))] []) = _
    rw [ans_ok]
    rfl
  show evSs PL (.asg (.nm 5) (.call "_law_answer" [.loc 4, .loc 6]) :: B1.tail.tail.tail) [some (.d true (.lst (ns.map PV.int))), some (.d false wds), some (.r 0), some (.d false (.int i)), some (.d false (.str w.w)), x5, some (.r h.length), some (.d false (.lst (partL w s b))), x8, x9, x10, x11, x12] _ = _
  rw [S_asg s3 rfl]
  show evSs PL (.app 6 (.cst (.int 5)) :: B1.tail.tail.tail.tail) [some (.d true (.lst (ns.map PV.int))), some (.d false wds), some (.r 0), some (.d false (.int i)), some (.d false (.str w.w)), some (.d false (insP w s b)), some (.r h.length), some (.d false (.lst (partL w s b))), x8, x9, x10, x11, x12] _ = _
  rw [S_app (n := h.length) (xs := partL w s b) rfl (at_end _ _) (partL_len w s b) ev_cst rfl, set_end]
  have s5 : evT PL (.cmp .ne (.call "_law_seen" [.loc 4, .loc 5]) (.loc 7)) [some (.d true (.lst (ns.map PV.int))), some (.d false wds), some (.r 0), some (.d false (.int i)), some (.d false (.str w.w)), some (.d false (insP w s b)), some (.r h.length), some (.d false (.lst (partL w s b))), x8, x9, x10, x11, x12] (h ++ [.l (partL w s b ++ [.int 5])]) = ok false := by
    have q : ev PL (.call "_law_seen" [.loc 4, .loc 5]) [some (.d true (.lst (ns.map PV.int))), some (.d false wds), some (.r 0), some (.d false (.int i)), some (.d false (.str w.w)), some (.d false (insP w s b)), some (.r h.length), some (.d false (.lst (partL w s b))), x8, x9, x10, x11, x12] (h ++ [.l (partL w s b ++ [.int 5])]) = ok (.lst (partL w s b)) := by
      have z : evs PL [.loc 4, .loc 5] [some (.d true (.lst (ns.map PV.int))), some (.d false wds), some (.r 0), some (.d false (.int i)), some (.d false (.str w.w)), some (.d false (insP w s b)), some (.r h.length), some (.d false (.lst (partL w s b))), x8, x9, x10, x11, x12] (h ++ [.l (partL w s b ++ [.int 5])]) = ok [.str w.w, insP w s b] := by
        rw [evs_cons' rfl, evs_cons' rfl]
        rfl
      rw [ev.eq_def]
      simp only [z, bnd_ok]
      show told (PL.fn "_law_seen" [.d false (.str w.w), .d false (insP w s b)] []) = _
      rw [seen_ok]
      rfl
    have q7 : ev PL (.loc 7) [some (.d true (.lst (ns.map PV.int))), some (.d false wds), some (.r 0), some (.d false (.int i)), some (.d false (.str w.w)), some (.d false (insP w s b)), some (.r h.length), some (.d false (.lst (partL w s b))), x8, x9, x10, x11, x12] (h ++ [.l (partL w s b ++ [.int 5])]) = ok (.lst (partL w s b)) := ev_loc rfl
    unfold evT
    rw [ev.eq_def]
    simp only [q, q7, bnd_ok, ne_part]
    rfl
  show evSs PL (.if_ (.cmp .ne (.call "_law_seen" [.loc 4, .loc 5]) (.loc 7)) [.ret (.cst (.bl false))] [] :: [.app 2 (.tup [.loc 4, .loc 7, .loc 5])]) [some (.d true (.lst (ns.map PV.int))), some (.d false wds), some (.r 0), some (.d false (.int i)), some (.d false (.str w.w)), some (.d false (insP w s b)), some (.r h.length), some (.d false (.lst (partL w s b))), x8, x9, x10, x11, x12] _ = _
  rw [S_ifF s5, L_nil, seq_nx]
  have h0 : (h ++ [OO.l (partL w s b ++ [.int 5])])[0]? = some (.l rows) := by
    cases h with
    | nil => simp at hh
    | cons a r => simpa using hh
  have e6 : ev PL (.tup [.loc 4, .loc 7, .loc 5]) [some (.d true (.lst (ns.map PV.int))), some (.d false wds), some (.r 0), some (.d false (.int i)), some (.d false (.str w.w)), some (.d false (insP w s b)), some (.r h.length), some (.d false (.lst (partL w s b))), x8, x9, x10, x11, x12] (h ++ [.l (partL w s b ++ [.int 5])]) = ok (Rw.p ⟨w, s, b⟩) := by
    kernel_rfl
  rw [S_app (n := 0) (xs := rows) rfl h0 hr e6 rfl, L_nil]
end K14

set_option Elab.async false
set_option linter.all false
set_option maxRecDepth 100000
set_option maxHeartbeats 8000000
/-! K14g: each answer against each. -/
namespace K14
open Ev
def dueB (r q : Rw) : Bool := peq (.str r.w.w) (.str q.w.w) && peq (.lst (partL r.w r.s r.b)) (.lst (partL q.w q.s q.b))
theorem inner (sc x1 x2 x3 x5 x7 x9 : Option SV) (r q : Rw) (h : OH) : evSs PL B3 [sc, x1, x2, x3, some (.d false (.str r.w.w)), x5, some (.d false (.lst (partL r.w r.s r.b))), x7, some (.d false (insP r.w r.s r.b)), x9, some (.d false (.str q.w.w)), some (.d false (.lst (partL q.w q.s q.b))), some (.d false (insP q.w q.s q.b))] h =
    some (.nx, [sc, x1, x2, x3, some (.d false (.str r.w.w)), x5, some (.d false (.lst (partL r.w r.s r.b))), some (.d false (.bl (dueB r q))), some (.d false (insP r.w r.s r.b)), x9, some (.d false (.str q.w.w)), some (.d false (.lst (partL q.w q.s q.b))), some (.d false (insP q.w q.s q.b))], h) := by
  obtain ⟨w, s, b⟩ := r
  obtain ⟨w2, s2, b2⟩ := q
  cases w <;> cases s <;> cases b <;> cases w2 <;> cases s2 <;> cases b2 <;> kernel_rfl
def againP (r : Rw) : PV := match r.w with
  | .broken | .victim => .tup (partL r.w r.s r.b)
  | _ => .lst (partL r.w r.s r.b)
theorem outer (sc x1 x2 x3 x5 x7 x9 x10 x11 x12 : Option SV) (r : Rw) (h : OH) (ss : List CS) : evSs PL (B2.take 2 ++ ss) [sc, x1, x2, x3, some (.d false (.str r.w.w)), x5, some (.d false (.lst (partL r.w r.s r.b))), x7, some (.d false (insP r.w r.s r.b)), x9, x10, x11, x12] h =
    evSs PL ss [sc, x1, x2, x3, some (.d false (.str r.w.w)), x5, some (.d false (.lst (partL r.w r.s r.b))), x7, some (.d false (insP r.w r.s r.b)), some (.d false (againP r)), x10, x11, x12] h := by
  have e1 : evS PL (B2.getD 0 .pass) [sc, x1, x2, x3, some (.d false (.str r.w.w)), x5, some (.d false (.lst (partL r.w r.s r.b))), x7, some (.d false (insP r.w r.s r.b)), x9, x10, x11, x12] h = some (.nx, [sc, x1, x2, x3, some (.d false (.str r.w.w)), x5, some (.d false (.lst (partL r.w r.s r.b))), x7, some (.d false (insP r.w r.s r.b)), some (.d false (againP r)), x10, x11, x12], h) := by
    obtain ⟨w, s, b⟩ := r
    cases w <;> cases s <;> cases b <;> kernel_rfl
  have e2 : evS PL (B2.getD 1 .pass) [sc, x1, x2, x3, some (.d false (.str r.w.w)), x5, some (.d false (.lst (partL r.w r.s r.b))), x7, some (.d false (insP r.w r.s r.b)), some (.d false (againP r)), x10, x11, x12] h = some (.nx, [sc, x1, x2, x3, some (.d false (.str r.w.w)), x5, some (.d false (.lst (partL r.w r.s r.b))), x7, some (.d false (insP r.w r.s r.b)), some (.d false (againP r)), x10, x11, x12], h) := by
    obtain ⟨w, s, b⟩ := r
    cases w <;> cases s <;> cases b <;> kernel_rfl
  show evSs PL (B2.getD 0 .pass :: B2.getD 1 .pass :: ss) _ _ = _
  rw [L_cons, e1, seq_nx, L_cons, e2, seq_nx]
theorem last (σ : St) (h : OH) : evSs PL (d_law.body.drop 3) σ h = some (.ret (.d false (.bl true)), σ, h) := by kernel_rfl
end K14

set_option Elab.async false
set_option linter.all false
set_option maxRecDepth 100000
set_option maxHeartbeats 4000000
/-! K14h: the end. -/
namespace K14
open Ev
theorem forLO_keep {f : St → OH → O} {t : TN} {n : Nat} {ys : List PV} {h : OH} (hn : h[n]? = some (.l ys)) (J : St → Prop) (step : ∀ y ∈ ys, ∀ σ, J σ → ∃ σ1 σ2, bindT t y σ = some σ1 ∧ f σ1 h = some (.nx, σ2, h) ∧ J σ2) :
    ∀ (g k : Nat) (σ : St), ys.length - k < g → J σ → ∃ σ', forLO f t n g k σ h = some (.nx, σ', h) ∧ J σ'
  | 0, k, σ, hg, _ => by omega
  | g + 1, k, σ, hg, hJ => by
    unfold forLO
    rw [hn]
    dsimp only
    cases e : ys[k]? with
    | none => exact ⟨σ, rfl, hJ⟩
    | some y =>
      dsimp only
      obtain ⟨hk, _⟩ := List.getElem?_eq_some_iff.mp e
      obtain ⟨σ1, σ2, h1, h2, h3⟩ := step y (List.mem_of_getElem? e) σ hJ
      obtain ⟨σ', h4, h5⟩ := forLO_keep hn J step g (k + 1) σ2 (by omega) h3
      refine ⟨σ', ?_, h5⟩
      rw [h1]
      dsimp only
      rw [h2]
      exact h4
theorem evS_forO {P : Pg} {t : TN} {i n : Nat} {b : List CS} {σ : St} {h : OH} {xs : List PV} (h1 : σ[i]? = some (some (.r n))) (h2 : h[n]? = some (.l xs)) : evS P (.forO t i b) σ h = forLO (evSs P b) t n (xs.length + 1) 0 σ h := by
  simp only [evS, slotR, h1, h2]
/-- the slots behind the rows -/
def Sl (sc : SV) (σ : St) : Prop := ∃ x3 x4 x5 x6 x7 x8 x9 x10 x11 x12, σ = [some sc, some (.d false wds), some (.r 0), x3, x4, x5, x6, x7, x8, x9, x10, x11, x12]
theorem law_ok (ns : List Int) (hn : ns.length ≤ 63) : ∃ h', (pgOf p0 tab).fn "law" [.d true (.lst (ns.map .int))] [] = some (.ok (.d false (.bl true), h')) := by
  show ∃ h', run PL d_law [.d true (.lst (ns.map .int))] [] = _
  -- the rows
  obtain ⟨σ1, h1, e1, rws, hl, hS, hr⟩ : ∃ σ1 h1, forL (evSs PL B1) (.nm 3) ((List.range 20).map fun i : Nat => PV.int i) [some (.d true (.lst (ns.map .int))), some (.d false wds), some (.r 0), none, none, none, none, none, none, none, none, none, none] [.l []] = some (.nx, σ1, h1) ∧
      ∃ rws : List Rw, rws.length ≤ 20 ∧ Sl (.d true (.lst (ns.map .int))) σ1 ∧ h1[0]? = some (.l (rws.map Rw.p)) := by
    obtain ⟨σ', h', e, rws, q1, q2, q3⟩ := forL_inv (f := evSs PL B1) (t := .nm 3) (c := fun i : Nat => PV.int i) (fun done σ h => ∃ rws : List Rw, rws.length = done.length ∧ Sl (.d true (.lst (ns.map .int))) σ ∧ h[0]? = some (.l (rws.map Rw.p))) (List.range 20) [] [some (.d true (.lst (ns.map .int))), some (.d false wds), some (.r 0), none, none, none, none, none, none, none, none, none, none] [.l []] (fun d x r σ h ed ⟨rws, a1, ⟨x3, x4, x5, x6, x7, x8, x9, x10, x11, x12, es⟩, a3⟩ => by
      have hlen : d.length < 20 := by
        have := congrArg List.length ed
        simp at this
        omega
      have hx : x < 20 := by
        have hm : x ∈ List.range 20 := by
          have : x ∈ ([] : List Nat) ++ List.range 20 := by rw [ed]; simp
          simpa using this
        simpa using hm
      subst es
      obtain ⟨rw', e⟩ := turn ns hn x hx x4 x5 x6 x7 x8 x9 x10 x11 x12 h (rws.map Rw.p) a3 (by rw [List.length_map, a1]; exact Nat.lt_of_lt_of_le hlen (by decide))
      refine ⟨_, _, _, rfl, e, rws ++ [rw'], by simp [a1], ⟨_, _, _, _, _, _, _, _, _, _, rfl⟩, ?_⟩
      have : 0 < (h ++ [OO.l (partL rw'.w rw'.s rw'.b ++ [.int 5])]).length := by simp
      rw [List.getElem?_set_self this]
      simp) ⟨[], rfl, ⟨_, _, _, _, _, _, _, _, _, _, rfl⟩, rfl⟩
    exact ⟨σ', h', e, rws, by rw [q1]; simp, q2, q3⟩
  -- each against each
  have step2 : ∀ y ∈ rws.map Rw.p, ∀ σ, Sl (.d true (.lst (ns.map .int))) σ → ∃ σa σb, bindT (.tp [.nm 4, .nm 6, .nm 8]) y σ = some σa ∧ evSs PL B2 σa h1 = some (.nx, σb, h1) ∧ Sl (.d true (.lst (ns.map .int))) σb := by
    intro y hy σ ⟨x3, x4, x5, x6, x7, x8, x9, x10, x11, x12, es⟩
    obtain ⟨r, _, rfl⟩ := List.mem_map.mp hy
    subst es
    have key : ∃ σb, evSs PL B2 [some (.d true (.lst (ns.map .int))), some (.d false wds), some (.r 0), x3, some (.d false (.str r.w.w)), x5, some (.d false (.lst (partL r.w r.s r.b))), x7, some (.d false (insP r.w r.s r.b)), x9, x10, x11, x12] h1 = some (.nx, σb, h1) ∧ Sl (.d true (.lst (ns.map .int))) σb := by
      show ∃ σb, evSs PL (B2.take 2 ++ [.forO (.tp [.nm 10, .nm 11, .nm 12]) 2 B3]) _ h1 = _ ∧ _
      rw [outer]
      obtain ⟨σb, e2, ⟨y3, y5, y7, y9, y10, y11, y12, es⟩⟩ := forLO_keep (f := evSs PL B3) (t := .tp [.nm 10, .nm 11, .nm 12]) (n := 0) (ys := rws.map Rw.p) (h := h1) hr
        (fun σ => ∃ y3 y5 y7 y9 y10 y11 y12, σ = [some (.d true (.lst (ns.map .int))), some (.d false wds), some (.r 0), y3, some (.d false (.str r.w.w)), y5, some (.d false (.lst (partL r.w r.s r.b))), y7, some (.d false (insP r.w r.s r.b)), y9, y10, y11, y12])
        (fun y hy σ ⟨y3, y5, y7, y9, y10, y11, y12, es⟩ => by
          obtain ⟨q, _, rfl⟩ := List.mem_map.mp hy
          subst es
          exact ⟨_, _, rfl, inner _ _ _ _ _ _ _ r q h1, _, _, _, _, _, _, _, rfl⟩)
        ((rws.map Rw.p).length + 1) 0 [some (.d true (.lst (ns.map .int))), some (.d false wds), some (.r 0), x3, some (.d false (.str r.w.w)), x5, some (.d false (.lst (partL r.w r.s r.b))), x7, some (.d false (insP r.w r.s r.b)), some (.d false (againP r)), x10, x11, x12] (by omega) ⟨_, _, _, _, _, _, _, rfl⟩
      refine ⟨σb, ?_, ?_⟩
      · rw [L_cons, evS_forO (n := 0) (xs := rws.map Rw.p) rfl hr, e2, seq_nx, L_nil]
      · subst es
        exact ⟨_, _, _, _, _, _, _, _, _, _, rfl⟩
    obtain ⟨σb, e2, hs⟩ := key
    exact ⟨_, σb, rfl, e2, hs⟩
  obtain ⟨σ2, e2, _⟩ := forLO_keep (f := evSs PL B2) (t := .tp [.nm 4, .nm 6, .nm 8]) (n := 0) (ys := rws.map Rw.p) (h := h1) hr (Sl (.d true (.lst (ns.map .int)))) step2 ((rws.map Rw.p).length + 1) 0 σ1 (by omega) hS
  refine ⟨h1, run_ret (σ' := σ2) rfl rfl ?_⟩
  have s0 : evS PL (.par [1, 2] [.v, .n] [.tup [.cst (.str "safe"), .cst (.str "broken"), .cst (.str "spared"), .cst (.str "victim")], .lst []]) [some (.d true (.lst (ns.map .int))), none, none, none, none, none, none, none, none, none, none, none, none] [] =
      some (.nx, [some (.d true (.lst (ns.map .int))), some (.d false wds), some (.r 0), none, none, none, none, none, none, none, none, none, none], [.l []]) := by kernel_rfl
  show evSs PL (.par [1, 2] [.v, .n] _ :: .for_ (.nm 3) (.range (.cst (.int 0)) (.cst (.int 20))) B1 :: .forO (.tp [.nm 4, .nm 6, .nm 8]) 2 B2 :: d_law.body.drop 3) [some (.d true (.lst (ns.map .int))), none, none, none, none, none, none, none, none, none, none, none, none] [] = _
  rw [L_cons, s0, seq_nx, S_for (v := .lst ((List.range 20).map fun i : Nat => PV.int i)) (xs := (List.range 20).map fun i : Nat => PV.int i) (by kernel_rfl) rfl (Nat.zero_le _) e1]
  have h2 : σ1[2]? = some (some (.r 0)) := by
    obtain ⟨x3, x4, x5, x6, x7, x8, x9, x10, x11, x12, es⟩ := hS
    rw [es]
    rfl
  rw [L_cons, evS_forO (n := 0) (xs := rws.map Rw.p) h2 hr, e2, seq_nx]
  exact last σ2 h1
theorem holds : PySem.Challenge.rw_stripehole_k14_whole_answers.Holds := holds_of law_ok
end K14

theorem PySem.Challenge.cw_stripehole_k14_whole_answers_holds : PySem.Challenge.rw_stripehole_k14_whole_answers.Holds := by
  exact K14.holds
