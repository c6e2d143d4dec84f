import PyProof.Rows.All
import Wide.All
import OpenK.AllK
import Wide.FinOn
import PySem.Challenge.RW_manychoose_k81_whole_fewest_calls
import HandS.ForMost
import HandS.Exc
import HandS.TryOnly
import HandS.ExcOwn
import KE.SortData
import HandS.Flow
import HandS.Style
import HandS.Deep
import HandS.IsInst
import HandS.Conv
import HandS.Rev
import HandS.More
import HandS.DictComp
import HandS.CallSlots
import HandS.WordsExc
import HandS.HeadHook4
import HandS.ExcCtx
import HandS.Small
import HandS.StrMore
import HandS.HotCalls
import HandS.ExcIs
import HandS.Defaults
import HandS.Keys
import HandS.HeadEnd
import HandS.HeadHook2
import HandS.HeadWalk
import HandS.EndTab
import KE.Datum
import KE.DatumOrd
import KE.DatumMore
import KE.DatumMoreOrd
import KE.KStateDown
import Lean
import HandS.Head0
import HandS.Head1
import HandS.Head2
section
set_option Elab.async false
set_option linter.all false
/-! Mv: a small language with values of its own, and what its programs do (pure Lean; the model is not spoken of here). -/
namespace Mv
open PySem L2

/-! ### values -/
/-- a value: data that never changes again; an owned list of such; an owned list of owned lists; an owned dict; the script -/
inductive T where
  | d (x : PyData)
  | l (xs : List PyData)
  | o (ts : List (List PyData))
  | m (kvs : List (Key × PyData))
  | s (ns : List Int)

abbrev Env := List (Option T)

/-- what an expression comes to -/
inductive R (α : Type) where
  | ok (a : α) (e : Env)
  | exc (c : Nat) (e : Env)
  | bad

def R.bind {α β : Type} (r : R α) (f : α → Env → R β) : R β :=
  match r with
  | .ok a e => f a e
  | .exc c e => .exc c e
  | .bad => .bad
@[simp] theorem R.bind_ok {α β : Type} (a : α) (e : Env) (f : α → Env → R β) : (R.ok a e).bind f = f a e := rfl
@[simp] theorem R.bind_exc {α β : Type} (c : Nat) (e : Env) (f : α → Env → R β) : (R.exc c e : R α).bind f = .exc c e := rfl
@[simp] theorem R.bind_bad {α β : Type} (f : α → Env → R β) : (R.bad : R α).bind f = .bad := rfl

/-- an option as a result -/
def lift {α : Type} (o : Option α) (e : Env) : R α :=
  match o with
  | some a => .ok a e
  | none => .bad
@[simp] theorem lift_some {α : Type} (a : α) (e : Env) : lift (some a) e = .ok a e := rfl
@[simp] theorem lift_none {α : Type} (e : Env) : lift (none : Option α) e = .bad := rfl

/-! ### data that the model carries: texts and rows of bounded size -/
abbrev LINE : Nat := 16777216
def strB (x : Str) : Bool := PyData.strOk x && decide (x.length ≤ LINE)
mutual
def okD : PyData → Bool
  | .none => true
  | .bool _ => true
  | .int _ => true
  | .str x => strB x
  | .list xs => decide (xs.length ≤ LINE) && okDs xs
  | .tuple xs => decide (xs.length ≤ LINE) && okDs xs
  | .dict _ => false
def okDs : List PyData → Bool
  | [] => true
  | x :: xs => okD x && okDs xs
end

/-! ### operations on values -/
/-- the items of a list -/
def T.list? : T → Option (List PyData)
  | .d (.list xs) => some xs
  | .l xs => some xs
  | _ => none
/-- a value as data -/
def T.data? : T → Option PyData
  | .d x => some x
  | .l xs => some (.list xs)
  | .o ts => some (.list (ts.map .list))
  | _ => none
/-- an owned value given up -/
def T.frz? : T → Option PyData
  | .d x => some x
  | .l xs => some (.list xs)
  | .o ts => some (.list (ts.map .list))
  | _ => none

inductive BOp where | add | sub | mul | fdiv | mod | pow
  deriving DecidableEq
inductive COp where | eq | ne | lt | le | gt | ge | isin | notin | is | isnot
  deriving DecidableEq
inductive Ty where | int | bool | str | list | tuple | dict
  deriving DecidableEq

def binL (x y : T) : Option T :=
  match x.list?, y.list? with
  | some xs, some ys => if xs.length + ys.length ≤ LINE then some (.l (xs ++ ys)) else none
  | _, _ => none
def bin (o : BOp) (x y : T) : Option T :=
  match o, x, y with
  | .add, .d (.int i), .d (.int j) => some (.d (.int (i + j)))
  | .add, .d (.str a), .d (.str b) => if a.length + b.length ≤ LINE then some (.d (.str (a ++ b))) else none
  | .add, .d (.tuple xs), .d (.tuple ys) => if xs ≠ [] ∧ xs.length + ys.length ≤ LINE then some (.d (.tuple (xs ++ ys))) else none
  | .add, x, y => binL x y
  | .sub, .d (.int i), .d (.int j) => some (.d (.int (i - j)))
  | .mul, .d (.int i), .d (.int j) => if (i.natAbs < 2 ^ 64 ∨ j.natAbs < 2 ^ 64) then some (.d (.int (i * j))) else none
  | .fdiv, .d (.int i), .d (.int j) => if 0 < j ∧ j < 1073741824 then some (.d (.int (i / j))) else none
  | .mod, .d (.int i), .d (.int j) => if 0 < j then some (.d (.int (i % j))) else none
  | .pow, .d (.int i), .d (.int j) => if 0 ≤ j ∧ j ≤ 1000000 ∧ i.natAbs < 2 ^ 64 then some (.d (.int (i ^ j.toNat))) else none
  | _, _, _ => none

/-- a dict's key -/
def key? : T → Option Key
  | .d (.int i) => some (.inl i)
  | .d (.str x) => some (.inr x)
  | _ => none
def find (kvs : List (Key × PyData)) (k : Key) : Option PyData := (kvs.find? fun p => decide (p.1 = k)).map (·.2)
def put (kvs : List (Key × PyData)) (k : Key) (v : PyData) : List (Key × PyData) :=
  if (kvs.any fun p => decide (p.1 = k)) = true then kvs.map (fun p => if p.1 = k then (p.1, v) else p) else kvs ++ [(k, v)]

/-- y within x -/
def isIn (x y : T) : Option Bool :=
  match y with
  | .m kvs => (key? x).map fun k => (find kvs k).isSome
  | .d (.str b) => match x with
    | .d (.str a) => some (!(Builtin.Str.occurrences b a 0 b.length 1).isEmpty)
    | _ => none
  | .d (.tuple ds) => match x.data? with
    | some d => if d.depth ≤ 60 ∧ PyData.depthAll ds ≤ 60 then some (ds.any fun z => PyData.eqv z d) else none
    | none => none
  | y => match x.data?, y.list? with
    | some d, some ds => if d.depth ≤ 60 ∧ PyData.depthAll ds ≤ 60 then some (ds.any fun z => PyData.eqv z d) else none
    | _, _ => none
def eqT (x y : T) : Option Bool :=
  match x.data?, y.data? with
  | some d, some e => if d.depth ≤ 60 ∧ e.depth ≤ 60 then some (PyData.eqv d e) else none
  | _, _ => none
def T.non : T → Bool
  | .d .none => true
  | _ => false
def isT (x y : T) : Option Bool :=
  match y with
  | .d .none => some x.non
  | .d (.bool b) => match x with
    | .d (.bool a) => some (decide (a = b))
    | _ => none
  | _ => none
def cmp (o : COp) (x y : T) : Option Bool :=
  match o with
  | .eq => eqT x y
  | .ne => (eqT x y).map (!·)
  | .isin => isIn x y
  | .notin => (isIn x y).map (!·)
  | .is => isT x y
  | .isnot => (isT x y).map (!·)
  | .lt => match x, y with
    | .d (.int i), .d (.int j) => some (decide (i < j))
    | .d (.str a), .d (.str b) => some (decide (a.cps.toList < b.cps.toList))
    | _, _ => none
  | .le => match x, y with
    | .d (.int i), .d (.int j) => some (decide (i ≤ j))
    | _, _ => none
  | .gt => match x, y with
    | .d (.int i), .d (.int j) => some (decide (j < i))
    | _, _ => none
  | .ge => match x, y with
    | .d (.int i), .d (.int j) => some (decide (j ≤ i))
    | _, _ => none

def truth : T → Option Bool
  | .d .none => some false
  | .d (.bool b) => some b
  | .d (.int i) => some (i != 0)
  | .d (.str x) => some ((x.length : Int) != 0)
  | .d (.list xs) => some (!xs.isEmpty)
  | .d (.tuple xs) => some (!xs.isEmpty)
  | .l xs => some (!xs.isEmpty)
  | .o ts => some (!ts.isEmpty)
  | .m kvs => some (!kvs.isEmpty)
  | _ => none

/-- an item by its place -/
def item (x i : T) : Option T :=
  match x with
  | .m kvs => (key? i).bind fun k => (find kvs k).map .d
  | .d (.str z) => match i with
    | .d (.int i) => (atI z.cps.toList i).map fun c => .d (.str ⟨#[c]⟩)
    | _ => none
  | .d (.list xs) => match i with
    | .d (.int i) => (atI xs i).map .d
    | _ => none
  | .d (.tuple xs) => match i with
    | .d (.int i) => (atI xs i).map .d
    | _ => none
  | .l xs => match i with
    | .d (.int i) => (atI xs i).map .d
    | _ => none
  | _ => none

def cut {α : Type} (xs : List α) (lo hi : Option Int) : List α :=
  (xs.drop (HT.sIx xs.length 0 lo)).take (HT.sIx xs.length xs.length hi - HT.sIx xs.length 0 lo)
/-- a slice; a tuple's must not be the whole -/
def slice (x : T) (lo hi : Option Int) : Option T :=
  match x with
  | .d (.str z) => some (.d (.str ⟨(cut z.cps.toList lo hi).toArray⟩))
  | .d (.list xs) => some (.l (cut xs lo hi))
  | .l xs => some (.l (cut xs lo hi))
  | .d (.tuple xs) => if HT.sIx xs.length 0 lo = 0 ∧ HT.sIx xs.length xs.length hi = xs.length then none else some (.d (.tuple (cut xs lo hi)))
  | _ => none
def isTy (t : Ty) (x : T) : Bool :=
  match t, x with
  | .int, .d (.int _) => true
  | .int, .d (.bool _) => true
  | .bool, .d (.bool _) => true
  | .str, .d (.str _) => true
  | .list, .d (.list _) => true
  | .list, .l _ => true
  | .list, .o _ => true
  | .list, .s _ => true
  | .tuple, .d (.tuple _) => true
  | .dict, .m _ => true
  | _, _ => false

/-- all of one shape, and of a kind that is sorted -/
def alikeB (ds : List PyData) : Bool := ds.all fun d => ds.all fun e => W.alike d e
def sortB (ds : List PyData) : Bool :=
  (ds.all fun d => match d with | .tuple (_ :: _) => true | _ => false) || (ds.all fun d => match d with | .none => false | .tuple _ => false | _ => true)
/-- sorting by putting each in its place, from the last on -/
def ins {α : Type} (le : α → α → Bool) (a : α) : List α → List α
  | [] => [a]
  | b :: r => if le a b = true then a :: b :: r else b :: ins le a r
def isort {α : Type} (le : α → α → Bool) : List α → List α
  | [] => []
  | a :: r => ins le a (isort le r)
def leD (x y : PyData) : Bool := W.dataLe false id x y
def sorted (ds : List PyData) : Option (List PyData) :=
  if alikeB ds = true ∧ sortB ds = true ∧ PyData.depthAll ds ≤ 60 then some (isort leD ds) else none

def ints? : List PyData → Option (List Int)
  | [] => some []
  | .int i :: r => (ints? r).map (i :: ·)
  | _ => none
def strs? : List PyData → Option (List Str)
  | [] => some []
  | .str i :: r => (strs? r).map (i :: ·)
  | _ => none
def maxI : List Int → Option Int
  | [] => none
  | x :: r => some (r.foldl max x)
def minI : List Int → Option Int
  | [] => none
  | x :: r => some (r.foldl min x)

/-- built-in functions of values -/
inductive Fn where
  | len | list | tuple | sorted | sum | abs | int | str | min2 | max2 | min1 | max1
  deriving DecidableEq
def fn (f : Fn) (ts : List T) : Option T :=
  match f, ts with
  | .len, [.d (.str x)] => some (.d (.int x.length))
  | .len, [.d (.list xs)] => some (.d (.int xs.length))
  | .len, [.d (.tuple xs)] => some (.d (.int xs.length))
  | .len, [.l xs] => some (.d (.int xs.length))
  | .len, [.o ts] => some (.d (.int ts.length))
  | .len, [.s ns] => some (.d (.int ns.length))
  | .list, [.d (.list xs)] => some (.l xs)
  | .list, [.d (.tuple xs)] => some (.l xs)
  | .list, [.l xs] => some (.l xs)
  | .list, [.s ns] => some (.l (ns.map .int))
  | .tuple, [.d (.list xs)] => some (.d (.tuple xs))
  | .tuple, [.l xs] => some (.d (.tuple xs))
  | .tuple, [.d (.tuple xs)] => some (.d (.tuple xs))
  | .sorted, [t] => (t.list?.bind sorted).map .l
  | .sum, [t] => (t.list?.bind ints?).map fun ns => .d (.int ns.sum)
  | .abs, [.d (.int i)] => some (.d (.int (if i < 0 then -i else i)))
  | .int, [.d (.int i)] => some (.d (.int i))
  | .str, [.d (.int i)] => if i.natAbs.log2 < 1920 ∧ strB (toString i : String) = true then some (.d (.str (toString i : String))) else none
  | .min2, [.d (.int i), .d (.int j)] => some (.d (.int (if j < i then j else i)))
  | .max2, [.d (.int i), .d (.int j)] => some (.d (.int (if j > i then j else i)))
  | .max1, [t] => ((t.list?.bind ints?).bind maxI).map fun n => .d (.int n)
  | .min1, [t] => ((t.list?.bind ints?).bind minI).map fun n => .d (.int n)
  | _, _ => none

/-- methods that change nothing -/
inductive Mt where | index | get1 | get2 | join
  deriving DecidableEq
/-- what the receiver must be -/
def Mt.takes (m : Mt) (x : T) : Bool :=
  match m, x with
  | .index, .d (.list _) => true
  | .index, .l _ => true
  | .get1, .m _ => true
  | .get2, .m _ => true
  | .join, .d (.str _) => true
  | _, _ => false
/-- how many arguments -/
def Mt.n : Mt → Nat
  | .get2 => 2
  | _ => 1
def place (ds : List PyData) (d : PyData) : Option Nat := (ds.findIdx? fun z => PyData.eqv z d)
def meth (m : Mt) (x : T) (ts : List T) : Option T :=
  match m, ts with
  | .index, [y] => match x.list?, y.data? with
    | some ds, some d => if d.depth ≤ 60 ∧ PyData.depthAll ds ≤ 60 then (place ds d).map fun j => .d (.int (j : Nat)) else none
    | _, _ => none
  | .get1, [y] => match x with
    | .m kvs => (key? y).map fun k => .d ((find kvs k).getD .none)
    | _ => none
  | .get2, [y, .d z] => match x with
    | .m kvs => (key? y).map fun k => .d ((find kvs k).getD z)
    | _ => none
  | .join, [y] => match x, y.list?.bind strs? with
    | .d (.str z), some xs => if (xs.map Str.length).sum + xs.length * z.length ≤ LINE then some (.d (.str (Str.join z xs))) else none
    | _, _ => none
  | _, _ => none

def T.own : T → Bool
  | .l _ => true
  | _ => false
/-- methods that change a list -/
inductive Mu where | append | extend | insert | pop
  deriving DecidableEq
/-- what is handed back, the list behind it -/
def chg (m : Mu) (x : T) (ts : List T) : Option (PyData × T) :=
  match m, x, ts with
  | .append, .l xs, [.d y] => if xs.length < LINE then some (.none, .l (xs ++ [y])) else none
  | .extend, .l xs, [.l ys] => if xs.length + ys.length ≤ LINE then some (.none, .l (xs ++ ys)) else none
  | .extend, .l xs, [.d (.list ys)] => if xs.length + ys.length ≤ LINE then some (.none, .l (xs ++ ys)) else none
  | .insert, .l xs, [.d (.int i), .d y] => if xs.length < LINE ∧ 0 ≤ i ∧ i ≤ xs.length then some (.none, .l (xs.take i.toNat ++ y :: xs.drop i.toNat)) else none
  | .pop, .l xs, [] => match xs.getLast? with
    | some y => some (y, .l xs.dropLast)
    | none => none
  | _, _, _ => none
def setAt (x i : T) (y : PyData) : Option T :=
  match x with
  | .m kvs => if kvs.length < LINE then (key? i).map fun k => .m (put kvs k y) else none
  | .l xs => match i with
    | .d (.int i) => (ixN xs.length i).map fun j => .l (xs.set j y)
    | _ => none
  | _ => none
def setAt2 (x i j : T) (y : PyData) : Option T :=
  match x with
  | .o ts => match i, j with
    | .d (.int i), .d (.int j) => (ixN ts.length i).bind fun a => (ts[a]?).bind fun xs => (ixN xs.length j).map fun b => .o (ts.set a (xs.set b y))
    | _, _ => none
  | _ => none

/-! ### the language -/
/-- what a loop stores: one name; the parts of a tuple (of a list) -/
inductive Tg where
  | nm (i : Nat)
  | tp (is : List Nat)
  | tl (is : List Nat)
mutual
inductive Ex where
  | c (x : PyData)
  | v (i : Nat)
  | mv (i : Nat)
  | fz (e : Ex)
  | bin (o : BOp) (a b : Ex)
  | neg (a : Ex)
  | not (a : Ex)
  | and (a b : Ex)
  | or (a b : Ex)
  | cmp (o : COp) (a b : Ex)
  | chn (o o' : COp) (a b c : Ex)
  | ite (c a b : Ex)
  | lst (es : Exs)
  | tup (es : Exs)
  | dnew
  | dct (e : Ex)
  | comp (own : List Nat) (t : Tg) (s : Src) (cs : Exs) (e : Ex)
  | compo (own : List Nat) (t : Tg) (s : Src) (e : Ex)
  | comp2 (own own1 : List Nat) (t : Tg) (s : Src) (cs : Exs) (t1 : Tg) (s1 : Src) (cs1 : Exs) (e : Ex)
  | dcomp (own : List Nat) (t : Tg) (s : Src) (k e : Ex)
  | uniq (own : List Nat) (t : Tg) (s : Src) (e : Ex)
  | ix (a i : Ex)
  | sl (a : Ex) (lo hi : Exs)
  | isi (a : Ex) (ts : List Ty)
  | fn (f : Fn) (es : Exs)
  | lrng1 (a : Ex)
  | lrng2 (a b : Ex)
  | lrev (a : Ex)
  | meth (m : Mt) (a : Ex) (es : Exs)
  | mu (m : Mu) (i : Nat) (es : Exs)
  | call (f : Nat) (es : Exs) (ds : List PyData)
inductive Exs where
  | nil
  | cons (e : Ex) (es : Exs)
inductive Src where
  | seq (e : Ex)
  | tup (e : Ex)
  | str (e : Ex)
  | rng1 (a : Ex)
  | rng2 (a b : Ex)
  | rev (e : Ex)
end

/-- a call's end: what is handed back, the arguments behind it -/
inductive CR where
  | ok (t : T) (outs : List (Option T))
  | exc (c : Nat) (outs : List (Option T))
  | bad
abbrev Orc := Nat → List T → CR

/-- an operand: a slot, or a value -/
inductive Opd where
  | r (i : Nat)
  | w (t : T)
def Opd.get (x : Opd) (e : Env) : Option T :=
  match x with
  | .r i => (e[i]?).join
  | .w t => some t
/-- an expression's doing: the slot if it is a mere name, its value, its truth -/
structure Dn where
  x : Option Nat
  v : Env → R T
  b : Env → R Bool
def Dn.opd (D : Dn) (e : Env) : R Opd :=
  match D.x with
  | some i => match (e[i]?).join with
    | some _ => .ok (.r i) e
    | none => .bad
  | none => (D.v e).bind fun t e => .ok (.w t) e
/-- .. whose test is its value's truth -/
def Dn.of (f : Env → R T) : Dn := ⟨none, f, fun e => (f e).bind fun t e => lift (truth t) e⟩
/-- a slot's value given up in its place -/
def rd (i : Nat) (e : Env) : R T :=
  match (e[i]?).join with
  | some t => match t.frz? with
    | some x => .ok (.d x) (e.set i (some (.d x)))
    | none => .bad
  | none => .bad
/-- .. or taken out -/
def mvo (i : Nat) (e : Env) : R T :=
  match (e[i]?).join with
  | some (.d x) => .ok (.d x) e
  | some t => .ok t (e.set i none)
  | none => .bad
def frzR (t : T) (e : Env) : R PyData := lift t.frz? e

def bind1 (i : Nat) (x : PyData) (e : Env) : Env := e.set i (some (.d x))
def bindN : List Nat → List PyData → Env → Option Env
  | [], [], e => some e
  | i :: is, x :: xs, e => bindN is xs (bind1 i x e)
  | _, _, _ => none
def bindT (t : Tg) (x : PyData) (e : Env) : Option Env :=
  match t, x with
  | .nm i, x => some (bind1 i x e)
  | .tp is, .tuple xs => bindN is xs e
  | .tl is, .list xs => bindN is xs e
  | _, _ => none
/-- a comprehension's own names: hidden within, back behind it -/
def hide : List Nat → Env → Env
  | [], e => e
  | i :: is, e => (hide is e).set i none
def plain (e : Env) (i : Nat) : Bool := match (e[i]?).join with
  | none => true
  | some (.d _) => true
  | _ => false
def back : List Nat → Env → Env → Env
  | [], _, e => e
  | i :: is, e0, e => (back is e0 e).set i (e0[i]?).join
def Tg.within (own : List Nat) : Tg → Bool
  | .nm i => own.contains i
  | .tp is => is.all own.contains
  | .tl is => is.all own.contains

/-- a comprehension's turns: what is made of each item -/
def turns (own : List Nat) (t : Tg) (cond : Env → R Bool) (body : Env → R (List PyData)) : List PyData → Env → List PyData → R (List PyData)
  | [], e, acc => .ok acc e
  | x :: xs, e, acc => match bindT t x (hide own e) with
    | none => .bad
    | some e1 => match cond e1 with
      | .ok true e2 => match body e2 with
        | .ok ys e3 => turns own t cond body xs e3 (acc ++ ys)
        | _ => .bad
      | .ok false e2 => turns own t cond body xs e2 acc
      | _ => .bad
/-- .. around it -/
def around (own : List Nat) (t : Tg) (e : Env) (f : Env → R (List PyData)) : R (List PyData) :=
  if own.all (plain e) = true ∧ t.within own = true then
    match f e with
    | .ok ys e' => if ys.length ≤ LINE then .ok ys (back own e e') else .bad
    | _ => .bad
  else .bad

/-- the arguments taken out of their slots -/
def fetch : List Opd → Env → Option (List T × Env)
  | [], e => some ([], e)
  | .w t :: r, e => (fetch r e).map fun p => (t :: p.1, p.2)
  | .r i :: r, e => match (e[i]?).join with
    | none => none
    | some (.d x) => (fetch r e).map fun p => (.d x :: p.1, p.2)
    | some t => (fetch r (e.set i none)).map fun p => (t :: p.1, p.2)
/-- .. and put back -/
def give : List Opd → List (Option T) → Env → Env
  | .r i :: r, o :: os, e => give r os (match (e[i]?).join with
    | none => e.set i o
    | some _ => e)
  | _ :: r, _ :: os, e => give r os e
  | _, _, e => e
def scal : PyData → Bool
  | .none => true
  | .bool _ => true
  | .int _ => true
  | .str z => strB z
  | _ => false
def callR (C : Orc) (f : Nat) (xs : List Opd) (e : Env) : R T :=
  match fetch xs e with
  | some p => match C f p.1 with
    | .ok t outs => .ok t (give xs outs p.2)
    | .exc c outs => .exc c (give xs outs p.2)
    | .bad => .bad
  | none => .bad

def rngI (a b : T) : Option (List PyData) :=
  match a, b with
  | .d (.int a), .d (.int b) => if -(2 ^ 62) ≤ a ∧ a < 2 ^ 62 ∧ -(2 ^ 62) ≤ b ∧ b < 2 ^ 62 ∧ (b - a).toNat ≤ LINE then some ((List.range (b - a).toNat).map fun (k : Nat) => .int (a + (k : Int))) else none
  | _, _ => none
def chars (z : Str) : List PyData := z.cps.toList.map fun c => .str ⟨#[c]⟩
/-- a dict's entries as pairs -/
def pairs? : List PyData → Option (List (Key × PyData))
  | [] => some []
  | .tuple [k, v] :: r => match key? (.d k), pairs? r with
    | some k, some r => some ((k, v) :: r)
    | _, _ => none
  | _ => none
def unpairs (kvs : List (Key × PyData)) : List PyData := kvs.map fun p => .tuple [match p.1 with | .inl i => .int i | .inr x => .str x, p.2]
def putAll (kvs : List (Key × PyData)) : List (Key × PyData) := kvs.foldl (fun a p => put a p.1 p.2) []
/-- how many unlike keys -/
def nKeys (ds : List PyData) : Option Nat := (pairs? (ds.map fun k => .tuple [k, .none])).map fun kvs => (putAll kvs).length

/-- values of several: data; operands; the tests of a comprehension -/
def evs : List Dn → Env → R (List PyData)
  | [], e => .ok [] e
  | D :: Ds, e => (D.v e).bind fun t e => (frzR t e).bind fun x e => (evs Ds e).bind fun xs e => .ok (x :: xs) e
def opds : List Dn → Env → R (List Opd)
  | [], e => .ok [] e
  | D :: Ds, e => (D.opd e).bind fun x e => (opds Ds e).bind fun xs e => .ok (x :: xs) e
def conds : List Dn → Env → R Bool
  | [], e => .ok true e
  | D :: _, e => D.b e
def gets (xs : List Opd) (e : Env) : Option (List T) :=
  match xs with
  | [] => some []
  | x :: r => match x.get e, gets r e with
    | some t, some ts => some (t :: ts)
    | _, _ => none
/-- a slice's part -/
def prt : List Dn → Env → R (Option Int)
  | [], e => .ok none e
  | D :: _, e => (D.v e).bind fun t e => match t with
    | .d (.int i) => .ok (some i) e
    | _ => .bad
def one (D : Dn) (e : Env) : R (List PyData) := (D.v e).bind fun t e => (frzR t e).bind fun x e => .ok [x] e
def row? : List PyData → Option (List (List PyData))
  | [] => some []
  | .list zs :: r => (row? r).map (zs :: ·)
  | _ => none
def op2 (A B : Dn) (f : T → T → Option T) (e : Env) : R T :=
  (A.opd e).bind fun x e => (B.opd e).bind fun y e => match x.get e, y.get e with
    | some t, some u => lift (f t u) e
    | _, _ => .bad
def bl? (o : Option Bool) : Option T := o.map fun k => .d (.bool k)

section
variable (C : Orc)
mutual
def den : Ex → Dn
  | .c x => .of fun e => if scal x = true then .ok (.d x) e else .bad
  | .v i => ⟨some i, rd i, fun e => lift ((e[i]?).join.bind truth) e⟩
  | .mv i => .of (mvo i)
  | .fz a => .of fun e => ((den a).v e).bind fun t e => (frzR t e).bind fun x e => .ok (.d x) e
  | .bin o a b => .of (op2 (den a) (den b) (bin o))
  | .neg a => .of fun e => ((den a).v e).bind fun t e => match t with
    | .d (.int i) => .ok (.d (.int (-i))) e
    | _ => .bad
  | .not a => ⟨none, fun e => ((den a).opd e).bind fun x e => lift (((x.get e).bind truth).map fun k => .d (.bool (!k))) e, fun e => ((den a).b e).bind fun k e => .ok (!k) e⟩
  | .and a b => ⟨none, fun e => ((den a).v e).bind fun t e => match t with
      | .d (.bool true) => (den b).v e
      | .d (.bool false) => .ok (.d (.bool false)) e
      | _ => .bad,
    fun e => ((den a).b e).bind fun k e => if k = true then (den b).b e else .ok false e⟩
  | .or a b => ⟨none, fun e => ((den a).v e).bind fun t e => match t with
      | .d (.bool true) => .ok (.d (.bool true)) e
      | .d (.bool false) => (den b).v e
      | _ => .bad,
    fun e => ((den a).b e).bind fun k e => if k = true then .ok true e else (den b).b e⟩
  | .cmp o a b => .of (op2 (den a) (den b) fun t u => bl? (cmp o t u))
  | .chn o o' a b c => .of fun e => ((den a).opd e).bind fun x e => ((den b).opd e).bind fun y e => match x.get e, y.get e with
    | some t, some u => match cmp o t u with
      | some true => ((den c).opd e).bind fun z e => match y.get e, z.get e with
        | some u, some w => lift (bl? (cmp o' u w)) e
        | _, _ => .bad
      | some false => .ok (.d (.bool false)) e
      | none => .bad
    | _, _ => .bad
  | .ite c a b => .of fun e => ((den c).b e).bind fun k e => if k = true then (den a).v e else (den b).v e
  | .lst es => .of fun e => (evs (dens es) e).bind fun xs e => if xs.length ≤ LINE then .ok (.l xs) e else .bad
  | .tup es => .of fun e => (evs (dens es) e).bind fun xs e => if xs.length ≤ LINE then .ok (.d (.tuple xs)) e else .bad
  | .dnew => .of fun e => .ok (.m []) e
  | .dct a => .of fun e => ((den a).opd e).bind fun x e => lift (((x.get e).bind T.list?).bind pairs? |>.map fun kvs => .m (putAll kvs)) e
  | .comp own t s cs a => .of fun e => (srcs s e).bind fun xs e => (around own t e fun e => turns own t (conds (dens cs)) (one (den a)) xs e []).bind fun ys e => .ok (.l ys) e
  | .compo own t s a => .of fun _ => .bad
  | .comp2 own own1 t s cs t1 s1 cs1 a => .of fun e => if (own1.all own.contains && t1.within own1) = false then .bad else (srcs s e).bind fun xs e => (around own t e fun e => turns own t (conds (dens cs))
      (fun e => (srcs s1 e).bind fun zs e => turns own1 t1 (conds (dens cs1)) (one (den a)) zs e []) xs e []).bind fun ys e => .ok (.l ys) e
  | .dcomp own t s k a => .of fun e => (srcs s e).bind fun xs e => (around own t e fun e => turns own t (fun e => .ok true e)
      (fun e => ((den k).v e).bind fun kt e => (frzR kt e).bind fun kx e => ((den a).v e).bind fun t e => (frzR t e).bind fun x e => .ok [.tuple [kx, x]] e) xs e []).bind fun ys e => lift ((pairs? ys).map fun kvs => .m (putAll kvs)) e
  | .uniq own t s a => .of fun _ => .bad
  | .ix a i => .of (op2 (den a) (den i) item)
  | .sl a lo hi => .of fun e => ((den a).opd e).bind fun x e => (prt (dens lo) e).bind fun lo e => (prt (dens hi) e).bind fun hi e => lift ((x.get e).bind fun t => slice t lo hi) e
  | .isi a ts => .of fun e => if ts.length ≤ 16 then ((den a).opd e).bind fun x e => lift ((x.get e).map fun t => .d (.bool (ts.any fun y => isTy y t))) e else .bad
  | .fn f es => .of fun e => (opds (dens es) e).bind fun xs e => lift ((gets xs e).bind (fn f)) e
  | .lrng1 a => .of fun e => ((den a).v e).bind fun t e => lift ((rngI (.d (.int 0)) t).map .l) e
  | .lrng2 a b => .of fun e => ((den a).v e).bind fun t e => ((den b).v e).bind fun u e => lift ((rngI t u).map .l) e
  | .lrev a => .of fun e => ((den a).opd e).bind fun x e => lift (((x.get e).bind T.list?).map fun xs => .l xs.reverse) e
  | .meth m a es => .of fun e => if (dens es).length ≠ m.n then .bad else ((den a).opd e).bind fun x e => if (x.get e).any m.takes = true then (opds (dens es) e).bind fun ys e => match x.get e, gets ys e with
      | some t, some ts => lift (meth m t ts) e
      | _, _ => .bad
    else .bad
  | .mu m i es => .of fun e => if (e[i]?).join.any T.own = true then (opds (dens es) e).bind fun ys e => match gets ys e, (e[i]?).join with
      | some ts, some t => match chg m t ts with
        | some (x, t') => .ok (.d x) (e.set i (some t'))
        | none => .bad
      | _, _ => .bad
    else .bad
  | .call f es ds => .of fun e => if ds.all scal = true then (opds (dens es) e).bind fun xs e => callR C f (xs ++ ds.map fun x => .w (.d x)) e else .bad
def dens : Exs → List Dn
  | .nil => []
  | .cons a es => den a :: dens es
def srcs : Src → Env → R (List PyData)
  | .seq a, e => ((den a).v e).bind fun t e => lift t.list? e
  | .tup a, e => ((den a).v e).bind fun t e => match t with
    | .d (.tuple xs) => .ok xs e
    | _ => .bad
  | .str a, e => ((den a).v e).bind fun t e => match t with
    | .d (.str z) => .ok (chars z) e
    | _ => .bad
  | .rng1 a, e => ((den a).v e).bind fun t e => lift (rngI (.d (.int 0)) t) e
  | .rng2 a b, e => ((den a).v e).bind fun t e => ((den b).v e).bind fun u e => lift (rngI t u) e
  | .rev a, e => ((den a).v e).bind fun t e => lift (t.list?.map List.reverse) e
end
end

/-! ### statements -/
/-- a statement's end -/
inductive SR where
  | nx (e : Env)
  | ret (t : T) (e : Env)
  | exc (c : Nat) (e : Env)
  | bad
def R.st {α : Type} (r : R α) (f : α → Env → SR) : SR :=
  match r with
  | .ok a e => f a e
  | .exc c e => .exc c e
  | .bad => .bad
@[simp] theorem R.st_ok {α : Type} (a : α) (e : Env) (f : α → Env → SR) : (R.ok a e).st f = f a e := rfl
@[simp] theorem R.st_exc {α : Type} (c : Nat) (e : Env) (f : α → Env → SR) : (R.exc c e : R α).st f = .exc c e := rfl
@[simp] theorem R.st_bad {α : Type} (f : α → Env → SR) : (R.bad : R α).st f = .bad := rfl
def SR.seq (r : SR) (f : Env → SR) : SR :=
  match r with
  | .nx e => f e
  | .ret t e => .ret t e
  | .exc c e => .exc c e
  | .bad => .bad
@[simp] theorem SR.seq_nx (e : Env) (f : Env → SR) : (SR.nx e).seq f = f e := rfl
@[simp] theorem SR.seq_ret (t : T) (e : Env) (f : Env → SR) : (SR.ret t e).seq f = .ret t e := rfl
@[simp] theorem SR.seq_exc (c : Nat) (e : Env) (f : Env → SR) : (SR.exc c e).seq f = .exc c e := rfl
@[simp] theorem SR.seq_bad (f : Env → SR) : SR.bad.seq f = .bad := rfl

/-- nothing is raised -/
def SR.calm : SR → SR
  | .exc _ _ => .bad
  | r => r
mutual
inductive St where
  | asg (i : Nat) (a : Ex)
  | unp (t : Tg) (a : Ex)
  | seti (i : Nat) (k a : Ex)
  | set2 (i j k : Nat) (a : Ex)
  | ex (a : Ex)
  | iff (c : Ex) (p q : Sts)
  | fr (t : Tg) (s : Src) (b : Sts)
  | wh (n : Nat) (c : Ex) (b : Sts)
  | ret (a : Ex)
  | rse (c : Nat) (a : Ex)
  | tr (b : Sts) (cs : Nat → Bool) (h : Sts)
  | trf (b : Sts) (cs : Nat → Bool) (h : Nat → Option PyData)
  | pass
inductive Sts where
  | nil
  | cons (s : St) (ss : Sts)
end
/-- a loop's turns -/
def loop (t : Tg) (body : Env → SR) : List PyData → Env → SR
  | [], e => .nx e
  | x :: xs, e => match bindT t x e with
    | none => .bad
    | some e1 => (body e1).seq fun e2 => loop t body xs e2
def whil (c : Env → R Bool) (body : Env → SR) : Nat → Env → SR
  | 0, _ => .bad
  | n + 1, e => (c e).st fun k e => if k = true then (body e).seq fun e => whil c body n e else .nx e
section
variable (C : Orc)
mutual
def exS : St → Env → SR
  | .asg i a, e => ((den C a).v e).st fun t e => .nx (e.set i (some t))
  | .unp t a, e => ((den C a).v e).st fun w e => (frzR w e).st fun x e => match bindT t x e with
    | some e => .nx e
    | none => .bad
  | .seti i k a, e => ((den C a).v e).st fun w e => (frzR w e).st fun x e => if (e[i]?).join.isSome = true then ((den C k).opd e).st fun y e => match (e[i]?).join, y.get e with
      | some t, some u => match setAt t u x with
        | some t' => .nx (e.set i (some t'))
        | none => .bad
      | _, _ => .bad
    else .bad
  | .set2 _ _ _ _, _ => .bad
  | .ex a, e => ((den C a).v e).st fun _ e => .nx e
  | .iff c p q, e => ((den C c).b e).st fun k e => if k = true then exSs p e else exSs q e
  | .fr t s b, e => (srcs C s e).st fun xs e => loop t (exSs b) xs e
  | .wh n c b, e => whil (den C c).b (exSs b) n e
  | .ret a, e => ((den C a).v e).st fun t e => .ret t e
  | .rse c a, e => ((den C a).v e).st fun _ e => .exc c e
  | .tr b cs h, e => match exSs b e with
    | .exc c e => if cs c = true then (exSs h e).calm else .exc c e
    | r => r
  | .trf b cs h, e => match exSs b e with
    | .exc c e => if cs c = true then (match h c with
      | some x => if scal x = true then .ret (.d x) e else .bad
      | none => .bad) else .exc c e
    | r => r
  | .pass, e => .nx e
def exSs : Sts → Env → SR
  | .nil, e => .nx e
  | .cons s ss, e => (exS s e).seq fun e => exSs ss e
end
end

/-! ### a program -/
/-- a def: how many names, which parameters are never stored to, its body -/
structure Def where
  n : Nat
  ps : List Bool
  body : Sts
abbrev Prog := List Def
def outs (ps : List Bool) (e : Env) : List (Option T) := (ps.zip e).map fun p => if p.1 = true then p.2 else none
def Def.run (D : Def) (C : Orc) (ts : List T) : CR :=
  if ts.length = D.ps.length then
    match exSs C D.body (ts.map some ++ List.replicate (D.n - ts.length) none) with
    | .nx e => .ok (.d .none) (outs D.ps e)
    | .ret t e => .ok t (outs D.ps e)
    | .exc c e => .exc c (outs D.ps e)
    | .bad => .bad
  else .bad
def run (P : Prog) : Nat → Orc
  | 0 => fun _ _ => .bad
  | k + 1 => fun f ts => match P[f]? with
    | some D => D.run (run P k) ts
    | none => .bad
end Mv
end
section
set_option Elab.async false
set_option linter.all false
/-! Mv over the hand layer's abstract heap: what a value of Mv is there, what may change. -/
namespace Mv
open PySem L2
open Classical

theorem LINE_eq : sizeLine = LINE := sizeLine_eq

/-! ### data in a heap that never changes -/
mutual
inductive Dq (G : Hp) : V → PyData → Prop
  | non : Dq G .non .none
  | bl (b : Bool) : Dq G (.bl b) (.bool b)
  | int (i : Int) : Dq G (.int i) (.int i)
  | str (x : Str) : Dq G (.str x) (.str x)
  | lst {a : Addr} {vs : List V} {xs : List PyData} : G a = some (.lst vs) → Dqs G vs xs → Dq G (.ref a) (.list xs)
  | tup {a : Addr} {vs : List V} {xs : List PyData} : G a = some (.tup vs) → Dqs G vs xs → Dq G (.ref a) (.tuple xs)
inductive Dqs (G : Hp) : List V → List PyData → Prop
  | nil : Dqs G [] []
  | cons {v : V} {vs : List V} {x : PyData} {xs : List PyData} : Dq G v x → Dqs G vs xs → Dqs G (v :: vs) (x :: xs)
end
abbrev Sub (G H : Hp) : Prop := ∀ a o, G a = some o → H a = some o
theorem Sub.refl (G : Hp) : Sub G G := fun _ _ h => h
theorem Sub.trans {G H I : Hp} (a : Sub G H) (b : Sub H I) : Sub G I := fun x o h => b x o (a x o h)
mutual
theorem Dq.mono {G G' : Hp} (s : Sub G G') : ∀ {x : PyData} {v : V}, Dq G v x → Dq G' v x
  | .none, _, .non => .non
  | .bool _, _, .bl b => .bl b
  | .int _, _, .int i => .int i
  | .str _, _, .str x => .str x
  | .list xs, _, .lst h hs => .lst (s _ _ h) (Dqs.mono s (xs := xs) hs)
  | .tuple xs, _, .tup h hs => .tup (s _ _ h) (Dqs.mono s (xs := xs) hs)
theorem Dqs.mono {G G' : Hp} (s : Sub G G') : ∀ {xs : List PyData} {vs : List V}, Dqs G vs xs → Dqs G' vs xs
  | [], _, .nil => .nil
  | x :: xs, _, .cons h hs => .cons (Dq.mono s (x := x) h) (Dqs.mono s (xs := xs) hs)
end
mutual
theorem Dq.dp {K : PySem.W.Frag} {G H : Hp} (s : Sub G H) : ∀ {x : PyData} {v : V}, Dq G v x → Dp K H v x
  | .none, _, .non => .non
  | .bool _, _, .bl b => .bl b
  | .int _, _, .int i => .int i
  | .str _, _, .str x => .str x
  | .list xs, _, .lst h hs => .lst (.of (s _ _ h)) (Dqs.dp s (xs := xs) hs)
  | .tuple xs, _, .tup h hs => .tup (.of (s _ _ h)) (Dqs.dp s (xs := xs) hs)
theorem Dqs.dp {K : PySem.W.Frag} {G H : Hp} (s : Sub G H) : ∀ {xs : List PyData} {vs : List V}, Dqs G vs xs → DpAll K H vs xs
  | [], _, .nil => .nil
  | x :: xs, _, .cons h hs => .cons (Dq.dp s (x := x) h) (Dqs.dp s (xs := xs) hs)
end
theorem Dqs.length {G : Hp} : ∀ {vs : List V} {xs : List PyData}, Dqs G vs xs → vs.length = xs.length
  | _, _, .nil => rfl
  | _, _, .cons _ h => congrArg (· + 1) h.length
theorem Dqs.append {G : Hp} : ∀ {vs ws : List V} {xs ys : List PyData}, Dqs G vs xs → Dqs G ws ys → Dqs G (vs ++ ws) (xs ++ ys)
  | _, _, _, _, .nil, h => h
  | _, _, _, _, .cons h hs, k => .cons h (hs.append k)
theorem Dqs.one {G : Hp} {v : V} {x : PyData} (h : Dq G v x) : Dqs G [v] [x] := .cons h .nil
theorem Dqs.take {G : Hp} : ∀ {vs : List V} {xs : List PyData} (n : Nat), Dqs G vs xs → Dqs G (vs.take n) (xs.take n)
  | _, _, 0, _ => .nil
  | _, _, _ + 1, .nil => .nil
  | _, _, n + 1, .cons h hs => .cons h (hs.take n)
theorem Dqs.drop {G : Hp} : ∀ {vs : List V} {xs : List PyData} (n : Nat), Dqs G vs xs → Dqs G (vs.drop n) (xs.drop n)
  | _, _, 0, h => h
  | _, _, _ + 1, .nil => .nil
  | _, _, n + 1, .cons _ hs => hs.drop n
theorem Dqs.get {G : Hp} : ∀ {vs : List V} {xs : List PyData} {i : Nat} {x : PyData}, Dqs G vs xs → xs[i]? = some x → ∃ v, vs[i]? = some v ∧ Dq G v x
  | _, _, _, _, .nil, e => by simp at e
  | _, _, 0, _, .cons h _, e => by simp at e; subst e; exact ⟨_, rfl, h⟩
  | _, _, i + 1, x, .cons _ hs, e => by
    obtain ⟨v, e1, e2⟩ := hs.get (i := i) (x := x) (by simpa using e)
    exact ⟨v, by simpa using e1, e2⟩
theorem Dqs.getV {G : Hp} {vs : List V} {xs : List PyData} {i : Nat} {v : V} (h : Dqs G vs xs) (e : vs[i]? = some v) : ∃ x, xs[i]? = some x ∧ Dq G v x := by
  obtain ⟨hi, _⟩ := List.getElem?_eq_some_iff.mp e
  have hx : i < xs.length := by rw [← h.length]; exact hi
  obtain ⟨v', e1, e2⟩ := h.get (List.getElem?_eq_getElem hx)
  rw [e] at e1; cases e1
  exact ⟨_, List.getElem?_eq_getElem hx, e2⟩
theorem Dqs.set {G : Hp} {v : V} {x : PyData} (h : Dq G v x) : ∀ {vs : List V} {xs : List PyData} (i : Nat), Dqs G vs xs → Dqs G (vs.set i v) (xs.set i x)
  | _, _, _, .nil => .nil
  | _, _, 0, .cons _ hs => .cons h hs
  | _, _, i + 1, .cons k hs => .cons k (Dqs.set h i hs)
theorem Dqs.dropLast {G : Hp} {vs : List V} {xs : List PyData} (h : Dqs G vs xs) : Dqs G vs.dropLast xs.dropLast := by
  rw [List.dropLast_eq_take, List.dropLast_eq_take, h.length]; exact h.take _
theorem Dqs.reverse {G : Hp} : ∀ {vs : List V} {xs : List PyData}, Dqs G vs xs → Dqs G vs.reverse xs.reverse
  | _, _, .nil => .nil
  | _, _, .cons h hs => by rw [List.reverse_cons, List.reverse_cons]; exact hs.reverse.append (.one h)
theorem Dqs.ints {G : Hp} : ∀ ns : List Int, Dqs G (ns.map V.int) (ns.map .int)
  | [] => .nil
  | n :: r => .cons (.int n) (Dqs.ints r)

theorem okDs_append : ∀ (xs ys : List PyData), okDs (xs ++ ys) = (okDs xs && okDs ys)
  | [], ys => by simp [okDs]
  | x :: xs, ys => by simp [okDs, okDs_append xs ys, Bool.and_assoc]
theorem okDs_mem : ∀ {xs : List PyData}, okDs xs = true ↔ ∀ x ∈ xs, okD x = true
  | [] => by simp [okDs]
  | x :: xs => by simp [okDs, okDs_mem (xs := xs)]
theorem okDs_sub {xs ys : List PyData} (h : okDs xs = true) (s : ∀ y ∈ ys, y ∈ xs) : okDs ys = true :=
  okDs_mem.mpr fun y hy => okDs_mem.mp h y (s y hy)
theorem okDs_at {xs : List PyData} {i : Nat} {x : PyData} (h : okDs xs = true) (e : xs[i]? = some x) : okD x = true :=
  okDs_mem.mp h x (List.mem_of_getElem? e)

/-! ### values -/
section
variable (K : PySem.W.Frag)
def RowOk (G H : Hp) (b : Addr) (xs : List PyData) : Prop := ∃ vs, H b = some (.lst vs) ∧ Dqs G vs xs ∧ xs.length ≤ LINE ∧ okDs xs = true
def EntOk (G : Hp) (p : Key × V) (q : Key × PyData) : Prop := p.1 = q.1 ∧ Dq G p.2 q.2 ∧ okD q.2 = true
def TOk (G H : Hp) (S : Addr → Prop) (v : V) : T → Prop
  | .d x => Dq G v x ∧ okD x = true
  | .l xs => ∃ a, v = .ref a ∧ S a ∧ RowOk G H a xs
  | .o ts => ∃ a as, v = .ref a ∧ S a ∧ (∀ b ∈ as, S b) ∧ (a :: as).Nodup ∧ H a = some (.lst (as.map V.ref)) ∧ Paired (RowOk G H) as ts ∧ ts.length ≤ LINE
  | .m kvs => ∃ a vs, v = .ref a ∧ S a ∧ H a = some (.dK vs) ∧ Paired (EntOk G) vs kvs ∧ kvs.length ≤ LINE
  | .s ns => ∃ a, v = .ref a ∧ SqL K G a (ns.map V.int) ∧ ns.length ≤ LINE
end
section
variable {K : PySem.W.Frag} {G G' H H' : Hp} {S S' : Addr → Prop} {v : V} {t : T}
theorem RowOk.keep {b : Addr} {xs : List PyData} (h : RowOk G H b xs) (g : Sub G G') (f : ∀ o, H b = some o → H' b = some o) : RowOk G' H' b xs := by
  obtain ⟨vs, e, d, z, k⟩ := h
  exact ⟨vs, f _ e, d.mono g, z, k⟩
theorem EntOk.mono {p : Key × V} {q : Key × PyData} (h : EntOk G p q) (g : Sub G G') : EntOk G' p q := ⟨h.1, h.2.1.mono g, h.2.2⟩
theorem Paired.mapM {α β : Type} {F F' : α → β → Prop} : ∀ {l : List α} {m : List β}, Paired F l m → (∀ a ∈ l, ∀ b, F a b → F' a b) → Paired F' l m
  | _, _, .nil, _ => .nil
  | _, _, .cons r t, f => .cons (f _ List.mem_cons_self _ r) (Paired.mapM t fun a ha => f a (List.mem_cons_of_mem _ ha))
theorem sqL_sub {a : Addr} {xs : List V} (g : Sub G G') (h : SqL K G a xs) : SqL K G' a xs := by
  rcases h with (h | ⟨o, h⟩) | h
  · exact .inl (.inl (g _ _ h))
  · exact .inl (.inr ⟨o, g _ _ h⟩)
  · exact .inr h
theorem TOk.keep (h : TOk K G H S v t) (g : Sub G G') (f : ∀ a o, S a → H a = some o → H' a = some o) : TOk K G' H' S v t := by
  cases t with
  | d x => exact ⟨h.1.mono g, h.2⟩
  | l xs =>
    obtain ⟨a, e, s, r⟩ := h
    exact ⟨a, e, s, r.keep g fun o => f a o s⟩
  | o ts =>
    obtain ⟨a, as, e, s, s', nd, ha, r, z⟩ := h
    exact ⟨a, as, e, s, s', nd, f a _ s ha, Paired.mapM r fun b hb xs q => q.keep g fun o => f b o (s' b hb), z⟩
  | m kvs =>
    obtain ⟨a, vs, e, s, ha, r, z⟩ := h
    exact ⟨a, vs, e, s, f a _ s ha, Paired.mapM r fun p _ q k => k.mono g, z⟩
  | s ns =>
    obtain ⟨a, e, s, z⟩ := h
    exact ⟨a, e, sqL_sub g s, z⟩
theorem TOk.wide (h : TOk K G H S v t) (s : ∀ a, S a → S' a) : TOk K G H S' v t := by
  cases t with
  | d x => exact h
  | l xs =>
    obtain ⟨a, e, q, r⟩ := h
    exact ⟨a, e, s a q, r⟩
  | o ts =>
    obtain ⟨a, as, e, q, q', nd, ha, r, z⟩ := h
    exact ⟨a, as, e, s a q, fun b hb => s b (q' b hb), nd, ha, r, z⟩
  | m kvs =>
    obtain ⟨a, vs, e, q, ha, r, z⟩ := h
    exact ⟨a, vs, e, s a q, ha, r, z⟩
  | s ns => exact h
/-- frozen: the objects at S join the others -/
noncomputable def join (G H : Hp) (S : Addr → Prop) : Hp := fun a => if S a then H a else G a
theorem join_sub (n : ∀ a, S a → G a = none) : Sub G (join G H S) := fun a o h => by
  unfold join
  by_cases s : S a
  · rw [n a s] at h; cases h
  · rw [if_neg s]; exact h
theorem join_in {a : Addr} (s : S a) : join G H S a = H a := if_pos s
theorem join_out {a : Addr} (s : ¬ S a) : join G H S a = G a := if_neg s
theorem rows_frz {n : ∀ a, S a → G a = none} : ∀ {as : List Addr} {ts : List (List PyData)}, (∀ b ∈ as, S b) → Paired (RowOk G H) as ts →
    Dqs (join G H S) (as.map V.ref) (ts.map .list) ∧ okDs (ts.map .list) = true
  | _, _, _, .nil => ⟨.nil, rfl⟩
  | a :: as, xs :: ts, s, .cons r t => by
    obtain ⟨vs, e, d, z, k⟩ := r
    obtain ⟨h1, h2⟩ := rows_frz (n := n) (fun b hb => s b (List.mem_cons_of_mem _ hb)) t
    refine ⟨.cons (.lst (vs := vs) ?_ (d.mono (join_sub n))) h1, ?_⟩
    · rw [join_in (s a List.mem_cons_self)]; exact e
    · simp [okDs, okD, z, k, h2]
theorem paired_len {α β : Type} {F : α → β → Prop} : ∀ {l : List α} {m : List β}, Paired F l m → l.length = m.length
  | _, _, .nil => rfl
  | _, _, .cons _ t => congrArg (· + 1) (paired_len t)
theorem TOk.frz {x : PyData} (h : TOk K G H S v t) (n : ∀ a, S a → G a = none) (e : t.frz? = some x) : Dq (join G H S) v x ∧ okD x = true := by
  cases t with
  | d y => cases e; exact ⟨h.1.mono (join_sub n), h.2⟩
  | l xs =>
    cases e
    obtain ⟨a, rfl, s, vs, ha, d, z, k⟩ := h
    exact ⟨.lst (by rw [join_in s]; exact ha) (d.mono (join_sub n)), by simp [okD, z, k]⟩
  | o ts =>
    cases e
    obtain ⟨a, as, rfl, s, s', nd, ha, r, z⟩ := h
    obtain ⟨h1, h2⟩ := rows_frz (n := n) s' r
    exact ⟨.lst (by rw [join_in s]; exact ha) h1, by simp [okD, z, h2]⟩
  | m kvs => cases e
  | s ns => cases e
/-- read as data where it stands -/
theorem rows_dp (g : Sub G H) : ∀ {as : List Addr} {ts : List (List PyData)}, Paired (RowOk G H) as ts → DpAll K H (as.map V.ref) (ts.map .list) ∧ okDs (ts.map .list) = true
  | _, _, .nil => ⟨.nil, rfl⟩
  | a :: as, xs :: ts, .cons r t => by
    obtain ⟨vs, e, d, z, k⟩ := r
    obtain ⟨h1, h2⟩ := rows_dp g t
    exact ⟨.cons (.lst (.of e) (d.dp g)) h1, by simp [okDs, okD, z, k, h2]⟩
theorem TOk.dp {x : PyData} (h : TOk K G H S v t) (g : Sub G H) (e : t.data? = some x) : Dp K H v x ∧ okD x = true := by
  cases t with
  | d y => cases e; exact ⟨h.1.dp g, h.2⟩
  | l xs =>
    cases e
    obtain ⟨a, rfl, s, vs, ha, d, z, k⟩ := h
    exact ⟨.lst (.of ha) (d.dp g), by simp [okD, z, k]⟩
  | o ts =>
    cases e
    obtain ⟨a, as, rfl, s, s', nd, ha, r, z⟩ := h
    obtain ⟨h1, h2⟩ := rows_dp (K := K) g r
    exact ⟨.lst (.of ha) h1, by simp [okD, z, h2]⟩
  | m kvs => cases e
  | s ns => cases e
/-- a list, as it is read -/
theorem TOk.row {xs : List PyData} (h : TOk K G H S v t) (g : Sub G H) (e : t.list? = some xs) : ∃ a vs, v = .ref a ∧ H a = some (.lst vs) ∧ Dqs G vs xs ∧ xs.length ≤ LINE ∧ okDs xs = true := by
  cases t with
  | d y =>
    cases y with
    | list ys =>
      cases e
      obtain ⟨h1, h2⟩ := h
      cases h1 with
      | lst ha d =>
        have k := h2
        simp [okD] at k
        exact ⟨_, _, rfl, g _ _ ha, d, k.1, k.2⟩
    | _ => cases e
  | l ys =>
    cases e
    obtain ⟨a, rfl, s, vs, ha, d, z, k⟩ := h
    exact ⟨a, vs, rfl, ha, d, z, k⟩
  | _ => cases e
end

/-! ### states -/
structure Wf (G H : Hp) (S : Addr → Prop) : Prop where
  sub : Sub G H
  own : ∀ a, S a → G a = none ∧ ∃ o, H a = some o
structure Slots (K : PySem.W.Frag) (G H : Hp) (S : Addr → Prop) (σ : L2.St) (e : Env) : Prop where
  len : e.length ≤ σ.length
  ex : ∃ O : Nat → Addr → Prop, (∀ i a, O i a → S a) ∧ (∀ i j a, O i a → O j a → i = j) ∧ ∀ i t, e[i]? = some (some t) → ∃ v, σ[i]? = some (some v) ∧ TOk K G H (O i) v t
structure Ext (G H : Hp) (S : Addr → Prop) (G' H' : Hp) (S' : Addr → Prop) : Prop where
  g : Sub G G'
  fr : ∀ a o, H a = some o → ¬ S a → H' a = some o
  gn : ∀ a o, G' a = some o → G a = some o ∨ S a ∨ H a = none
  sn : ∀ a, S' a → S a ∨ H a = none
theorem Ext.refl (G H : Hp) (S : Addr → Prop) : Ext G H S G H S := ⟨Sub.refl G, fun _ _ h _ => h, fun _ _ h => .inl h, fun _ h => .inl h⟩
theorem Ext.dom {G H G' H' : Hp} {S S' : Addr → Prop} (x : Ext G H S G' H' S') {a : Addr} (h : H' a = none) : S a ∨ H a = none := by
  by_cases s : S a
  · exact .inl s
  · cases e : H a with
    | none => exact .inr rfl
    | some o => rw [x.fr a o e s] at h; cases h
theorem Ext.trans {G H G1 H1 G2 H2 : Hp} {S S1 S2 : Addr → Prop} (x : Ext G H S G1 H1 S1) (y : Ext G1 H1 S1 G2 H2 S2) : Ext G H S G2 H2 S2 where
  g := x.g.trans y.g
  fr := fun a o e s => y.fr a o (x.fr a o e s) fun s1 => by
    rcases x.sn a s1 with h | h
    · exact s h
    · rw [e] at h; cases h
  gn := fun a o e => by
    rcases y.gn a o e with h | h | h
    · exact x.gn a o h
    · exact .inr (x.sn a h)
    · exact .inr (x.dom h)
  sn := fun a s2 => by
    rcases y.sn a s2 with h | h
    · exact x.sn a h
    · exact x.dom h
/-- what an evaluation leaves: P the new value's own, E the slots' -/
structure Out (K : PySem.W.Frag) (G H : Hp) (S : Addr → Prop) (σ : L2.St) (e : Env) (G' H' : Hp) (P E : Addr → Prop) : Prop where
  ext : Ext G H S G' H' fun a => P a ∨ E a
  wf : Wf G' H' fun a => P a ∨ E a
  dj : ∀ a, P a → E a → False
  sl : Slots K G' H' E σ e
abbrev No : Addr → Prop := fun _ => False
section
variable {K : PySem.W.Frag} {G H G1 H1 G2 H2 : Hp} {S S' P P1 P2 E E1 E2 : Addr → Prop} {σ σ' : L2.St} {e e1 e2 : Env}
theorem Wf.less (w : Wf G H S) (s : ∀ a, S' a → S a) : Wf G H S' := ⟨w.sub, fun a h => w.own a (s a h)⟩
theorem Out.wfE (o : Out K G H S σ e G1 H1 P E) : Wf G1 H1 E := o.wf.less fun _ h => .inr h
theorem Out.sub (o : Out K G H S σ e G1 H1 P E) : Sub G1 H1 := o.wf.sub
theorem Ext.less (x : Ext G H S G1 H1 S') (s : ∀ a, P a → S' a) : Ext G H S G1 H1 P := ⟨x.g, x.fr, x.gn, fun a h => x.sn a (s a h)⟩
/-- one evaluation behind another, whose value is kept meanwhile -/
theorem Out.trans (x : Out K G H S σ e1 G1 H1 P E) (y : Out K G1 H1 E σ' e2 G2 H2 P2 E2) : Out K G H S σ' e2 G2 H2 (fun a => P a ∨ P2 a) E2 := by
  have pe : ∀ a, P a → ¬ E a := fun a p q => x.dj a p q
  have ph : ∀ a, P a → ∃ o, H1 a = some o := fun a p => (x.wf.own a (.inl p)).2
  refine ⟨?_, ⟨y.wf.sub, ?_⟩, ?_, y.sl⟩
  · refine ⟨x.ext.g.trans y.ext.g, fun a o h s => y.ext.fr a o (x.ext.fr a o h s) fun q => ?_, fun a o h => ?_, fun a h => ?_⟩
    · rcases x.ext.sn a (.inr q) with z | z
      · exact s z
      · rw [h] at z; cases z
    · rcases y.ext.gn a o h with z | z | z
      · exact x.ext.gn a o z
      · exact .inr (x.ext.sn a (.inr z))
      · exact .inr (x.ext.dom z)
    · rcases h with (z | z) | z
      · exact x.ext.sn a (.inl z)
      · rcases y.ext.sn a (.inl z) with q | q
        · exact x.ext.sn a (.inr q)
        · exact x.ext.dom q
      · rcases y.ext.sn a (.inr z) with q | q
        · exact x.ext.sn a (.inr q)
        · exact x.ext.dom q
  · rintro a ((p | p) | q)
    · obtain ⟨o, h⟩ := ph a p
      refine ⟨?_, o, y.ext.fr a o h (pe a p)⟩
      cases g : G2 a with
      | none => rfl
      | some u =>
        rcases y.ext.gn a u g with z | z | z
        · rw [(x.wf.own a (.inl p)).1] at z; cases z
        · exact absurd z (pe a p)
        · rw [h] at z; cases z
    · exact y.wf.own a (.inl p)
    · exact y.wf.own a (.inr q)
  · rintro a (p | p) q
    · obtain ⟨o, h⟩ := ph a p
      rcases y.ext.sn a (.inr q) with z | z
      · exact pe a p z
      · rw [h] at z; cases z
    · exact y.dj a p q
/-- the value that was kept -/
theorem Out.kept (x : Out K G H S σ e1 G1 H1 P E) (y : Out K G1 H1 E σ' e2 G2 H2 P2 E2) {v : V} {t : T} (h : TOk K G1 H1 P v t) : TOk K G2 H2 P v t :=
  h.keep y.ext.g fun a o p q => y.ext.fr a o q fun z => x.dj a p z
theorem Out.apart (x : Out K G H S σ e1 G1 H1 P E) (y : Out K G1 H1 E σ' e2 G2 H2 P2 E2) : ∀ a, P a → P2 a → False := fun a p q => by
  rcases y.ext.sn a (.inl q) with z | z
  · exact x.dj a p z
  · obtain ⟨o, h⟩ := (x.wf.own a (.inl p)).2
    rw [h] at z; cases z
theorem Out.less (x : Out K G H S σ e G1 H1 P E) (s : ∀ a, P1 a → P a) : Out K G H S σ e G1 H1 P1 E :=
  ⟨x.ext.less fun a h => h.elim (fun z => .inl (s a z)) .inr, x.wf.less fun a h => h.elim (fun z => .inl (s a z)) .inr, fun a p q => x.dj a (s a p) q, x.sl⟩
theorem Out.start (w : Wf G H S) (sl : Slots K G H S σ e) : Out K G H S σ e G H No S :=
  ⟨(Ext.refl G H S).less fun _ h => h.elim False.elim id, w.less fun _ h => h.elim False.elim id, fun _ p _ => p, sl⟩
theorem Slots.get (h : Slots K G H S σ e) {i : Nat} {t : T} (q : e[i]? = some (some t)) : ∃ v, σ[i]? = some (some v) ∧ TOk K G H S v t := by
  obtain ⟨_, O, h1, _, h3⟩ := h
  obtain ⟨v, a, b⟩ := h3 i t q
  exact ⟨v, a, b.wide (h1 i)⟩
theorem Slots.at (h : Slots K G H S σ e) {i : Nat} {t : T} {v : V} (q : e[i]? = some (some t)) (hv : σ[i]? = some (some v)) : TOk K G H S v t := by
  obtain ⟨v', a, b⟩ := h.get q
  rw [hv] at a; cases a
  exact b
end
end Mv
end
section
set_option Elab.async false
set_option linter.all false
/-! Mv: the operations' readings, and that Mv's own operations come to them. -/
namespace Mv
open PySem L2
open Classical

/-! ### what an operation adds -/
structure Grow (G H G' H' : Hp) (P : Addr → Prop) : Prop where
  g : Sub G G'
  h : Sub H H'
  gn : ∀ a o, G' a = some o → G a = some o ∨ H a = none
  pn : ∀ a, P a → H a = none ∧ G' a = none ∧ ∃ o, H' a = some o
  sub : Sub G' H'
theorem Grow.refl {G H : Hp} (s : Sub G H) : Grow G H G H No := ⟨Sub.refl G, Sub.refl H, fun _ _ h => .inl h, fun _ h => h.elim, s⟩
theorem sub_upd {H : Hp} {p : Addr} {o : HO} (n : H p = none) : Sub H (upd H p o) := fun a u h => by rw [upd_ne (ne_of_none h n)]; exact h
theorem none_of_sub {G H : Hp} (s : Sub G H) {p : Addr} (n : H p = none) : G p = none := by
  cases e : G p with
  | none => rfl
  | some o => rw [s p o e] at n; cases n
theorem Grow.own {G H : Hp} (s : Sub G H) {p : Addr} {o : HO} (n : H p = none) : Grow G H G (upd H p o) (· = p) :=
  ⟨Sub.refl G, sub_upd n, fun _ _ h => .inl h, fun a e => by subst e; exact ⟨n, none_of_sub s n, o, upd_same⟩, s.trans (sub_upd n)⟩
theorem Grow.frz {G H : Hp} (s : Sub G H) {p : Addr} {o : HO} (n : H p = none) : Grow G H (upd G p o) (upd H p o) No := by
  refine ⟨sub_upd (none_of_sub s n), sub_upd n, fun a u h => ?_, fun _ h => h.elim, fun a u h => ?_⟩
  · by_cases e : a = p
    · subst e; exact .inr n
    · rw [upd_ne e] at h; exact .inl h
  · by_cases e : a = p
    · subst e; rw [upd_same] at h ⊢; exact h
    · rw [upd_ne e] at h ⊢; exact s a u h
section
variable {K : PySem.W.Frag} {G H G' H' G2 H2 : Hp} {S P P2 E : Addr → Prop} {σ : L2.St} {e : Env}
theorem Slots.keep (h : Slots K G H S σ e) (g : Sub G G') (f : ∀ a o, S a → H a = some o → H' a = some o) : Slots K G' H' S σ e := by
  obtain ⟨l, O, h1, h2, h3⟩ := h
  refine ⟨l, O, h1, h2, fun i t q => ?_⟩
  obtain ⟨v, a, b⟩ := h3 i t q
  exact ⟨v, a, b.keep g fun c o s => f c o (h1 i c s)⟩
theorem Slots.wide {S' : Addr → Prop} (h : Slots K G H S σ e) (s : ∀ a, S a → S' a) : Slots K G H S' σ e := by
  obtain ⟨l, O, h1, h2, h3⟩ := h
  exact ⟨l, O, fun i a q => s a (h1 i a q), h2, h3⟩
theorem Out.grow (x : Out K G H S σ e G2 H2 P2 E) (y : Grow G2 H2 G' H' P) : Out K G H S σ e G' H' P E := by
  have d : ∀ a, H2 a = none → S a ∨ H a = none := fun a h => x.ext.dom h
  refine ⟨⟨x.ext.g.trans y.g, fun a o h s => y.h a o (x.ext.fr a o h s), fun a o h => ?_, fun a h => ?_⟩, ⟨y.sub, fun a h => ?_⟩, fun a p q => ?_, x.sl.keep y.g fun a o _ h => y.h a o h⟩
  · rcases y.gn a o h with z | z
    · exact x.ext.gn a o z
    · exact .inr (d a z)
  · rcases h with z | z
    · exact d a (y.pn a z).1
    · exact x.ext.sn a (.inr z)
  · rcases h with z | z
    · exact (y.pn a z).2
    · obtain ⟨n, o, h⟩ := x.wf.own a (.inr z)
      refine ⟨?_, o, y.h a o h⟩
      cases q : G' a with
      | none => rfl
      | some u =>
        rcases y.gn a u q with w | w
        · rw [n] at w; cases w
        · rw [h] at w; cases w
  · obtain ⟨n, _⟩ := y.pn a p
    obtain ⟨_, o, h⟩ := x.wf.own a (.inr q)
    rw [n] at h; cases h
end
/-- what is wanted of an operation's value -/
def Res (K : PySem.W.Frag) (G H : Hp) (w : T) (Q : VK) : Prop := ∀ v G' H' P, Grow G H G' H' P → TOk K G' H' P v w → Q v H'
section
variable {K : PySem.W.Frag} {G H : Hp} {A B : Addr → Prop} {v u : V} {t t' w : T} {Q : VK} {x : PyData}
theorem Res.data (r : Res K G H (.d x) Q) (s : Sub G H) (d : Dq G v x) (k : okD x = true) : Q v H := r v G H No (.refl s) ⟨d, k⟩
theorem Res.list {xs : List PyData} {vs : List V} (r : Res K G H (.l xs) Q) (s : Sub G H) (d : Dqs G vs xs) (z : xs.length ≤ LINE) (k : okDs xs = true) : ∀ p, H p = none → Q (.ref p) (upd H p (.lst vs)) := fun p n =>
  r _ _ _ _ (.own s n) ⟨p, rfl, rfl, vs, upd_same, d, z, k⟩
theorem Res.tuple {xs : List PyData} {vs : List V} (r : Res K G H (.d (.tuple xs)) Q) (s : Sub G H) (d : Dqs G vs xs) (k : okD (.tuple xs) = true) : ∀ p, H p = none → Q (.ref p) (upd H p (.tup vs)) := fun p n =>
  r _ _ _ _ (.frz s n) ⟨.tup upd_same (d.mono (sub_upd (none_of_sub s n))), k⟩
theorem TOk.int {i : Int} (h : TOk K G H A v (.d (.int i))) : v = .int i := by cases h.1; rfl
theorem TOk.bl {b : Bool} (h : TOk K G H A v (.d (.bool b))) : v = .bl b := by cases h.1; rfl
theorem TOk.str {z : Str} (h : TOk K G H A v (.d (.str z))) : v = .str z ∧ PyData.strOk z = true ∧ z.length ≤ LINE := by
  obtain ⟨h1, h2⟩ := h
  cases h1
  simp [okD, strB] at h2
  exact ⟨rfl, h2.1, h2.2⟩
theorem TOk.tup {xs : List PyData} (h : TOk K G H A v (.d (.tuple xs))) (s : Sub G H) : ∃ a vs, v = .ref a ∧ G a = some (.tup vs) ∧ H a = some (.tup vs) ∧ Dqs G vs xs ∧ xs.length ≤ LINE ∧ okDs xs = true := by
  obtain ⟨h1, h2⟩ := h
  cases h1 with
  | tup a b =>
    simp [okD] at h2
    exact ⟨_, _, rfl, a, s _ _ a, b, h2.1, h2.2⟩
theorem ok_int (i : Int) : okD (.int i) = true := rfl
theorem ok_bool (i : Bool) : okD (.bool i) = true := rfl
theorem strOk_append {a b : Str} (h : PyData.strOk a = true) (k : PyData.strOk b = true) : PyData.strOk (a ++ b) = true := by
  unfold PyData.strOk at *
  show ((a.cps ++ b.cps).all _) = true
  rw [Array.all_append, h, k]; rfl
theorem len_append (a b : Str) : (a ++ b).length = a.length + b.length := by
  show (a.cps ++ b.cps).size = _
  rw [Array.size_append]; rfl

/-! ### operators -/
def rBin (K : PySem.W.Frag) : BOp → R2
  | .add => fun x y H Q => rI0 (fun i j => .int (i + j)) x y H Q ∨ (∃ i j, x = .str i ∧ y = .str j ∧ i.length + j.length ≤ sizeLine ∧ Q (.str (i ++ j)) H) ∨ rCat x y H Q ∨ rCatT K x y H Q
  | .sub => rI0 fun i j => .int (i - j)
  | .mul => rI CMul fun i j => .int (i * j)
  | .fdiv => rI CDiv fun i j => .int (i / j)
  | .mod => rI (fun _ j => 0 < j) fun i j => .int (i % j)
  | .pow => rI CPow fun i j => .int (i ^ j.toNat)
theorem binL_snd (s : Sub G H) (h : TOk K G H A v t) (k : TOk K G H B u t') (e : binL t t' = some w) (r : Res K G H w Q) : rCat v u H Q := by
  unfold binL at e
  split at e
  · rename_i xs ys e1 e2
    split at e
    · rename_i z
      cases e
      obtain ⟨a, vs, rfl, ha, d1, z1, k1⟩ := h.row s e1
      obtain ⟨b, ws, rfl, hb, d2, z2, k2⟩ := k.row s e2
      refine ⟨a, b, vs, ws, rfl, rfl, ha, hb, ?_, r.list s (d1.append d2) (by simpa using z) (by rw [okDs_append, k1, k2]; rfl)⟩
      rw [d1.length, d2.length, LINE_eq]; exact z
    · cases e
  · cases e
theorem bin_snd {o : BOp} (s : Sub G H) (h : TOk K G H A v t) (k : TOk K G H B u t') (e : bin o t t' = some w) (r : Res K G H w Q) : rBin K o v u H Q := by
  unfold bin at e
  split at e
  · cases e; cases h.int; cases k.int
    exact .inl ⟨_, _, rfl, rfl, r.data s (.int _) rfl⟩
  · obtain ⟨rfl, a1, a2⟩ := h.str
    obtain ⟨rfl, b1, b2⟩ := k.str
    split at e
    · rename_i z
      cases e
      exact .inr (.inl ⟨_, _, rfl, rfl, by rw [LINE_eq]; exact z, r.data s (.str _) (by simp [okD, strB, strOk_append a1 b1, len_append, z])⟩)
    · cases e
  · split at e
    · rename_i z
      cases e
      obtain ⟨a, vs, rfl, ga, ha, d1, z1, k1⟩ := h.tup s
      obtain ⟨b, ws, rfl, gb, hb, d2, z2, k2⟩ := k.tup s
      rename_i xs ys
      have kk : okD (.tuple (xs ++ ys)) = true := by simp [okD, okDs_append, k1, k2]; exact z.2
      refine .inr (.inr (.inr ⟨a, b, vs, ws, rfl, rfl, .of ha, .of hb, ?_, ?_, fun en => ?_, fun en => r.tuple s (d1.append d2) kk⟩))
      · intro q; subst q; have := d1.length; simp at this; exact z.1 (List.eq_nil_of_length_eq_zero this.symm)
      · rw [d1.length, d2.length, LINE_eq]; exact z.2
      · subst en
        have hl := d2.length; simp at hl
        have ey : ys = [] := List.eq_nil_of_length_eq_zero hl.symm
        subst ey
        rw [List.append_nil] at r kk
        exact r.data s (.tup ga d1) kk
    · cases e
  · exact .inr (.inr (.inl (binL_snd s h k e r)))
  · cases e; cases h.int; cases k.int
    exact ⟨_, _, rfl, rfl, r.data s (.int _) rfl⟩
  · cases h.int; cases k.int
    split at e
    · rename_i z
      cases e
      refine ⟨_, _, rfl, rfl, ?_, r.data s (.int _) rfl⟩
      rcases z with z | z
      · left; omega
      · right; omega
    · cases e
  · cases h.int; cases k.int
    split at e
    · rename_i z
      cases e
      exact ⟨_, _, rfl, rfl, z, r.data s (.int _) rfl⟩
    · cases e
  · cases h.int; cases k.int
    split at e
    · rename_i z
      cases e
      exact ⟨_, _, rfl, rfl, z, r.data s (.int _) rfl⟩
    · cases e
  · cases h.int; cases k.int
    split at e
    · rename_i z
      cases e
      exact ⟨_, _, rfl, rfl, z, r.data s (.int _) rfl⟩
    · cases e
  · cases e
end

/-! ### comparisons -/
section
variable {K : PySem.W.Frag} {G H : Hp} {A B : Addr → Prop} {v u : V} {t t' w : T} {Q : VK} {x : PyData}
mutual
theorem lay_ok : ∀ {x : PyData}, okD x = true → PyData.canLay0 x = true
  | .none, _ => by simp [PyData.canLay0]
  | .bool _, _ => by simp [PyData.canLay0]
  | .int _, _ => by simp [PyData.canLay0]
  | .str x, h => by simp [okD, strB] at h; simp [PyData.canLay0, h.1]
  | .list xs, h => by simp [okD] at h; simp [PyData.canLay0, lays_ok (xs := xs) h.2]
  | .tuple xs, h => by simp [okD] at h; simp [PyData.canLay0, lays_ok (xs := xs) h.2]
  | .dict _, h => by simp [okD] at h
theorem lays_ok : ∀ {xs : List PyData}, okDs xs = true → PyData.canLayAll0 xs = true
  | [], _ => by simp [PyData.canLayAll0]
  | x :: xs, h => by simp [okDs] at h; simp [PyData.canLayAll0, lay_ok (x := x) h.1, lays_ok (xs := xs) h.2]
end
theorem shaped_ok {x : PyData} (h : okD x = true) (d : x.depth ≤ 64) : SeqAt.shaped x = true := by
  unfold SeqAt.shaped; simp [lay_ok h, d]
theorem data_of_list {xs : List PyData} (e : t.list? = some xs) : t.data? = some (.list xs) := by
  cases t with
  | d y => cases y <;> simp [T.list?] at e <;> simp [T.data?, e]
  | l ys => simp [T.list?] at e; simp [T.data?, e]
  | _ => simp [T.list?] at e
def rDIn : R2 := fun x y H Q => ∃ a o, y = .ref a ∧ DGet H a x o ∧ Q (.bl o.isSome) H
def rDNotIn : R2 := fun x y H Q => ∃ a o, y = .ref a ∧ DGet H a x o ∧ Q (.bl (!o.isSome)) H
def rSIn : R2 := fun x y H Q => ∃ i j, x = .str i ∧ y = .str j ∧ Q (.bl (!(Builtin.Str.occurrences j i 0 j.length 1).isEmpty)) H
def rSNotIn : R2 := fun x y H Q => ∃ i j, x = .str i ∧ y = .str j ∧ Q (.bl (!(!(Builtin.Str.occurrences j i 0 j.length 1).isEmpty))) H
def rInT (K : PySem.W.Frag) : R2 := fun x y H Q => ∃ d ds, Dp K H x d ∧ Dp K H y (.tuple ds) ∧ SeqAt.shaped d = true ∧ SeqAt.shaped (.tuple ds) = true ∧ Q (.bl (ds.any fun z => PyData.eqv z d)) H
def rNotInT (K : PySem.W.Frag) : R2 := fun x y H Q => ∃ d ds, Dp K H x d ∧ Dp K H y (.tuple ds) ∧ SeqAt.shaped d = true ∧ SeqAt.shaped (.tuple ds) = true ∧ Q (.bl (!ds.any fun z => PyData.eqv z d)) H
def rCmp (K : PySem.W.Frag) : COp → R2
  | .eq => rEqD K
  | .ne => rNeD K
  | .lt => fun x y H Q => rI0 (fun i j => .bl (decide (i < j))) x y H Q ∨ ∃ i j, x = .str i ∧ y = .str j ∧ Q (.bl (decide (i.cps.toList < j.cps.toList))) H
  | .le => rI0 fun i j => .bl (decide (i ≤ j))
  | .gt => rI0 fun i j => .bl (decide (j < i))
  | .ge => rI0 fun i j => .bl (decide (j ≤ i))
  | .isin => fun x y H Q => rInD K x y H Q ∨ rDIn x y H Q ∨ rSIn x y H Q ∨ rInT K x y H Q
  | .notin => fun x y H Q => rNotInD K x y H Q ∨ rDNotIn x y H Q ∨ rSNotIn x y H Q ∨ rNotInT K x y H Q
  | .is => fun x y H Q => (y = .non ∧ Q (.bl (decide (x = .non))) H) ∨ rIsB x y H Q
  | .isnot => fun x y H Q => (y = .non ∧ Q (.bl (!decide (x = .non))) H) ∨ rNotB x y H Q
def EntO (G : Hp) : Option V → Option PyData → Prop
  | none, none => True
  | some v, some x => Dq G v x ∧ okD x = true
  | _, _ => False
theorem find_snd (k : Key) : ∀ {vs : List (Key × V)} {kvs : List (Key × PyData)}, Paired (EntOk G) vs kvs → EntO G (valV vs k) (find kvs k)
  | _, _, .nil => trivial
  | p :: vs, q :: kvs, .cons r tl => by
    obtain ⟨e, d, o⟩ := r
    have ih := find_snd k tl
    by_cases c : p.1 = k
    · rw [valV_pos c]
      have : find (q :: kvs) k = some q.2 := by unfold find; rw [List.find?_cons_of_pos (by simp [← e, c])]; rfl
      rw [this]; exact ⟨d, o⟩
    · rw [valV_neg c]
      have : find (q :: kvs) k = find kvs k := by unfold find; rw [List.find?_cons_of_neg (by simp [← e, c])]
      rw [this]; exact ih
theorem EntO.isSome {o : Option V} {p : Option PyData} (h : EntO G o p) : o.isSome = p.isSome := by
  cases o <;> cases p <;> first | rfl | exact h.elim
theorem key_snd {k : Key} (h : TOk K G H A v t) (e : key? t = some k) : v = kV k := by
  unfold key? at e
  split at e
  · cases e; exact h.int
  · cases e; exact h.str.1
  · cases e
theorem eqT_snd {b : Bool} (s : Sub G H) (h : TOk K G H A v t) (k : TOk K G H B u t') (e : eqT t t' = some b) :
    ∃ d c, Dp K H v d ∧ Dp K H u c ∧ SeqAt.shaped d = true ∧ SeqAt.shaped c = true ∧ b = PyData.eqv d c := by
  unfold eqT at e
  split at e
  · rename_i d c e1 e2
    split at e
    · rename_i z
      cases e
      obtain ⟨h1, h2⟩ := h.dp s e1
      obtain ⟨k1, k2⟩ := k.dp s e2
      exact ⟨d, c, h1, k1, shaped_ok h2 (by omega), shaped_ok k2 (by omega), rfl⟩
    · cases e
  · cases e
theorem isIn_snd {b : Bool} (s : Sub G H) (h : TOk K G H A v t) (k : TOk K G H B u t') (e : isIn t t' = some b) :
    (∃ d ds, Dp K H v d ∧ Dp K H u (.list ds) ∧ SeqAt.shaped d = true ∧ SeqAt.shaped (.list ds) = true ∧ b = ds.any fun z => PyData.eqv z d) ∨
    (∃ a o, u = .ref a ∧ DGet H a v o ∧ b = o.isSome) ∨ (∃ i j, v = .str i ∧ u = .str j ∧ b = !(Builtin.Str.occurrences j i 0 j.length 1).isEmpty) ∨
    (∃ d ds, Dp K H v d ∧ Dp K H u (.tuple ds) ∧ SeqAt.shaped d = true ∧ SeqAt.shaped (.tuple ds) = true ∧ b = ds.any fun z => PyData.eqv z d) := by
  unfold isIn at e
  split at e
  · rename_i kvs
    cases c : key? t with
    | none => rw [c] at e; cases e
    | some key =>
      rw [c] at e; cases e
      obtain ⟨a, vs, rfl, _, ha, r, _⟩ := k
      cases key_snd h c
      exact .inr (.inl ⟨a, _, rfl, .k ha, (find_snd key r).isSome.symm⟩)
  · split at e
    · cases e
      exact .inr (.inr (.inl ⟨_, _, h.str.1, k.str.1, rfl⟩))
    · cases e
  · rename_i ds
    split at e
    · rename_i d e1
      split at e
      · rename_i z
        cases e
        obtain ⟨h1, h2⟩ := h.dp s e1
        obtain ⟨k1, k2⟩ := k.dp s (show T.data? (.d (.tuple ds)) = some (.tuple ds) from rfl)
        exact .inr (.inr (.inr ⟨d, ds, h1, k1, shaped_ok h2 (by omega), shaped_ok k2 (by simp [PyData.depth]; omega), rfl⟩))
      · cases e
    · cases e
  · split at e
    · rename_i d ds e1 e2
      split at e
      · rename_i z
        cases e
        obtain ⟨h1, h2⟩ := h.dp s e1
        obtain ⟨k1, k2⟩ := k.dp s (data_of_list e2)
        exact .inl ⟨d, ds, h1, k1, shaped_ok h2 (by omega), shaped_ok k2 (by simp [PyData.depth]; omega), rfl⟩
      · cases e
    · cases e
theorem non_iff (h : TOk K G H A v t) : decide (v = .non) = t.non := by
  cases t with
  | d x => obtain ⟨h1, _⟩ := h; cases h1 <;> simp [T.non]
  | l xs => obtain ⟨a, rfl, _⟩ := h; simp [T.non]
  | o xs => obtain ⟨a, as, rfl, _⟩ := h; simp [T.non]
  | m xs => obtain ⟨a, vs, rfl, _⟩ := h; simp [T.non]
  | s xs => obtain ⟨a, rfl, _⟩ := h; simp [T.non]
theorem isT_snd {b : Bool} (h : TOk K G H A v t) (k : TOk K G H B u t') (e : isT t t' = some b) :
    (u = .non ∧ b = decide (v = .non)) ∨ ∃ c d : Bool, v = .bl c ∧ u = .bl d ∧ b = decide (c = d) := by
  unfold isT at e
  split at e
  · cases e
    refine .inl ⟨by cases k.1; rfl, ?_⟩
    rw [non_iff h]
  · split at e
    · cases e
      exact .inr ⟨_, _, h.bl, k.bl, rfl⟩
    · cases e
  · cases e
theorem cmp_snd {o : COp} {b : Bool} (s : Sub G H) (h : TOk K G H A v t) (k : TOk K G H B u t') (e : cmp o t t' = some b) (q : Q (.bl b) H) : rCmp K o v u H Q := by
  cases o <;> simp only [cmp] at e
  case eq =>
    obtain ⟨d, c, h1, h2, h3, h4, rfl⟩ := eqT_snd s h k e
    exact ⟨d, c, h1, h2, h3, h4, q⟩
  case ne =>
    cases z : eqT t t' with
    | none => rw [z] at e; cases e
    | some b' =>
      rw [z] at e; cases e
      obtain ⟨d, c, h1, h2, h3, h4, rfl⟩ := eqT_snd s h k z
      exact ⟨d, c, h1, h2, h3, h4, q⟩
  case lt =>
    split at e
    · cases e; cases h.int; cases k.int
      exact .inl ⟨_, _, rfl, rfl, q⟩
    · cases e
      exact .inr ⟨_, _, h.str.1, k.str.1, q⟩
    · cases e
  case isin =>
    rcases isIn_snd s h k e with ⟨d, ds, h1, h2, h3, h4, rfl⟩ | ⟨a, o, h1, h2, rfl⟩ | ⟨i, j, h1, h2, rfl⟩ | ⟨d, ds, h1, h2, h3, h4, rfl⟩
    · exact .inl ⟨d, ds, h1, h2, h3, h4, q⟩
    · exact .inr (.inl ⟨a, o, h1, h2, q⟩)
    · exact .inr (.inr (.inl ⟨i, j, h1, h2, q⟩))
    · exact .inr (.inr (.inr ⟨d, ds, h1, h2, h3, h4, q⟩))
  case notin =>
    cases c : isIn t t' with
    | none => rw [c] at e; cases e
    | some b' =>
      rw [c] at e; cases e
      rcases isIn_snd s h k c with ⟨d, ds, h1, h2, h3, h4, rfl⟩ | ⟨a, o, h1, h2, rfl⟩ | ⟨i, j, h1, h2, rfl⟩ | ⟨d, ds, h1, h2, h3, h4, rfl⟩
      · exact .inl ⟨d, ds, h1, h2, h3, h4, q⟩
      · exact .inr (.inl ⟨a, o, h1, h2, q⟩)
      · exact .inr (.inr (.inl ⟨i, j, h1, h2, q⟩))
      · exact .inr (.inr (.inr ⟨d, ds, h1, h2, h3, h4, q⟩))
  case is =>
    rcases isT_snd h k e with ⟨h1, rfl⟩ | ⟨c, d, h1, h2, rfl⟩
    · exact .inl ⟨h1, q⟩
    · exact .inr ⟨c, d, h1, h2, q⟩
  case isnot =>
    cases z : isT t t' with
    | none => rw [z] at e; cases e
    | some b' =>
      rw [z] at e; cases e
      rcases isT_snd h k z with ⟨h1, rfl⟩ | ⟨c, d, h1, h2, rfl⟩
      · exact .inl ⟨h1, q⟩
      · exact .inr ⟨c, d, h1, h2, q⟩
  all_goals
    split at e
    · cases e; cases h.int; cases k.int
      exact ⟨_, _, rfl, rfl, q⟩
    · cases e
theorem isEmpty_len {α β : Type} {l : List α} {m : List β} (h : l.length = m.length) : l.isEmpty = m.isEmpty := by
  cases l <;> cases m <;> first | rfl | cases h
theorem truth_snd {b : Bool} (s : Sub G H) (h : TOk K G H A v t) (e : truth t = some b) : TruV K v H b := by
  unfold truth at e
  split at e
  · cases e; cases h.1; rfl
  · cases e; cases h.bl; rfl
  · cases e; cases h.int; rfl
  · cases e; obtain ⟨rfl, _, z⟩ := h.str; exact ⟨by rw [LINE_eq]; exact z, rfl⟩
  · cases e
    rename_i xs
    obtain ⟨a, vs, rfl, ha, d, _⟩ := h.row s (show T.list? (.d (.list xs)) = some xs from rfl)
    exact .inl ⟨vs, .of ha, by rw [isEmpty_len d.length]⟩
  · cases e
    obtain ⟨a, vs, rfl, _, ha, d, _⟩ := h.tup s
    exact .inr (.inl ⟨vs, .of ha, by rw [isEmpty_len d.length]⟩)
  · cases e
    rename_i xs
    obtain ⟨a, vs, rfl, ha, d, _⟩ := h.row s (show T.list? (.l xs) = some xs from rfl)
    exact .inl ⟨vs, .of ha, by rw [isEmpty_len d.length]⟩
  · cases e
    obtain ⟨a, as, rfl, _, _, _, ha, r, _⟩ := h
    refine .inl ⟨as.map V.ref, .of ha, congrArg (!·) (isEmpty_len ?_)⟩
    rw [List.length_map]; exact (paired_len r).symm
  · cases e
    obtain ⟨a, vs, rfl, _, ha, r, _⟩ := h
    exact .inr (.inr ⟨vs, ha, by rw [isEmpty_len (paired_len r)]⟩)
  · cases e

/-! ### places and slices -/
def rItem (K : PySem.W.Frag) : R2 := fun x y H Q => rIx K x y H Q ∨ ∃ a v, x = .ref a ∧ DGet H a y (some v) ∧ Q v H
theorem atI_snd {vs : List V} {xs : List PyData} (d : Dqs G vs xs) {i : Int} (e : atI xs i = some x) : ∃ v, atI vs i = some v ∧ Dq G v x := by
  unfold atI at e ⊢
  rw [d.length]
  cases c : ixN xs.length i with
  | none => rw [c] at e; cases e
  | some j =>
    rw [c] at e
    obtain ⟨v, e1, e2⟩ := d.get (show xs[j]? = some x from e)
    exact ⟨v, e1, e2⟩
theorem atI_mem {α : Type} {xs : List α} {i : Int} {x : α} (e : atI xs i = some x) : x ∈ xs := by
  unfold atI at e
  cases c : ixN xs.length i with
  | none => rw [c] at e; cases e
  | some j => rw [c] at e; exact List.mem_of_getElem? (show xs[j]? = some x from e)
theorem one_ok {z : Str} (h : PyData.strOk z = true) {c : Nat} (m : c ∈ z.cps.toList) : okD (.str ⟨#[c]⟩) = true := by
  have : c < 0x110000 := by
    unfold PyData.strOk at h
    have := Array.all_eq_true_iff_forall_mem.mp h c (by simpa using m)
    simpa using this
  simp [okD, strB, PyData.strOk, Str.length, this, LINE]
theorem item_snd (s : Sub G H) (h : TOk K G H A v t) (k : TOk K G H B u t') (e : item t t' = some w) (r : Res K G H w Q) : rItem K v u H Q := by
  unfold item at e
  split at e
  · cases c : key? t' with
    | none => rw [c] at e; cases e
    | some key =>
      rw [c] at e
      rename_i kvs
      cases f : find kvs key with
      | none => simp [f] at e
      | some x =>
        simp [f] at e; subst e
        obtain ⟨a, vs, rfl, _, ha, rr, _⟩ := h
        cases key_snd k c
        have q := find_snd key rr
        rw [f] at q
        cases g : valV vs key with
        | none => rw [g] at q; exact q.elim
        | some v =>
          rw [g] at q
          refine .inr ⟨a, v, rfl, ?_, r.data s q.1 q.2⟩
          rw [← g]; exact .k ha
  · split at e
    · rename_i z _ i
      cases k.int
      obtain ⟨rfl, a1, a2⟩ := h.str
      cases c : atI z.cps.toList i with
      | none => rw [c] at e; cases e
      | some x =>
        rw [c] at e; cases e
        exact .inl (.inr (.inr ⟨z, i, x, rfl, rfl, by rw [LINE_eq]; exact a2, c, r.data s (.str _) (one_ok a1 (atI_mem c))⟩))
    · cases e
  · split at e
    · rename_i xs _ i
      cases k.int
      cases c : atI xs i with
      | none => rw [c] at e; cases e
      | some x =>
        rw [c] at e; cases e
        obtain ⟨a, vs, rfl, ha, d, _, o⟩ := h.row s (show T.list? (.d (.list xs)) = some xs from rfl)
        obtain ⟨v, e1, e2⟩ := atI_snd d c
        exact .inl (.inl ⟨a, vs, i, v, rfl, rfl, .of ha, e1, r.data s e2 (okDs_mem.mp o _ (atI_mem c))⟩)
    · cases e
  · split at e
    · rename_i xs _ i
      cases k.int
      cases c : atI xs i with
      | none => rw [c] at e; cases e
      | some x =>
        rw [c] at e; cases e
        obtain ⟨a, vs, rfl, _, ha, d, _, o⟩ := h.tup s
        obtain ⟨v, e1, e2⟩ := atI_snd d c
        exact .inl (.inr (.inl ⟨a, vs, i, v, rfl, rfl, .of ha, e1, r.data s e2 (okDs_mem.mp o _ (atI_mem c))⟩))
    · cases e
  · split at e
    · rename_i xs _ i
      cases k.int
      cases c : atI xs i with
      | none => rw [c] at e; cases e
      | some x =>
        rw [c] at e; cases e
        obtain ⟨a, vs, rfl, ha, d, _, o⟩ := h.row s (show T.list? (.l xs) = some xs from rfl)
        obtain ⟨v, e1, e2⟩ := atI_snd d c
        exact .inl (.inl ⟨a, vs, i, v, rfl, rfl, .of ha, e1, r.data s e2 (okDs_mem.mp o _ (atI_mem c))⟩)
    · cases e
  · cases e
def rSlice (K : PySem.W.Frag) : V → Option Int → Option Int → Hp → VK → Prop := fun x lo hi H Q => rSlL K x lo hi H Q ∨ rSlT K x lo hi H Q ∨ rSlS x lo hi H Q
theorem cut_snd {vs : List V} {xs : List PyData} (d : Dqs G vs xs) (lo hi : Option Int) : Dqs G (cutV vs lo hi) (cut xs lo hi) := by
  unfold cutV cut
  rw [d.length]
  exact (d.drop _).take _
theorem cut_mem {α : Type} {xs : List α} {lo hi : Option Int} {x : α} (m : x ∈ cut xs lo hi) : x ∈ xs := List.mem_of_mem_drop (List.mem_of_mem_take m)
theorem cut_len {α : Type} (xs : List α) (lo hi : Option Int) : (cut xs lo hi).length ≤ xs.length := by
  unfold cut; rw [List.length_take, List.length_drop]; omega
theorem slice_snd {lo hi : Option Int} (s : Sub G H) (h : TOk K G H A v t) (e : slice t lo hi = some w) (r : Res K G H w Q) : rSlice K v lo hi H Q := by
  unfold slice at e
  split at e
  · cases e
    rename_i z
    obtain ⟨rfl, a1, a2⟩ := h.str
    refine .inr (.inr ⟨z, rfl, by rw [LINE_eq]; exact a2, r.data s (.str _) ?_⟩)
    have l1 := cut_len z.cps.toList lo hi
    simp only [Array.length_toList] at l1
    have k2 : PyData.strOk ⟨(cut z.cps.toList lo hi).toArray⟩ = true := by
      unfold PyData.strOk at a1 ⊢
      simp only [Array.all_eq_true_iff_forall_mem] at a1 ⊢
      intro c m
      have m' : c ∈ cut z.cps.toList lo hi := by simpa using m
      exact a1 c (Array.mem_def.mpr (cut_mem m'))
    simp only [okD, strB, k2, Bool.true_and, decide_eq_true_eq]
    show (cut z.cps.toList lo hi).toArray.size ≤ LINE
    rw [List.size_toArray]
    exact Nat.le_trans l1 a2
  · cases e
    rename_i xs
    obtain ⟨a, vs, rfl, ha, d, z, o⟩ := h.row s (show T.list? (.d (.list xs)) = some xs from rfl)
    exact .inl ⟨a, vs, rfl, .of ha, r.list s (cut_snd d lo hi) (Nat.le_trans (cut_len _ _ _) z) (okDs_sub o fun _ m => cut_mem m)⟩
  · cases e
    rename_i xs
    obtain ⟨a, vs, rfl, ha, d, z, o⟩ := h.row s (show T.list? (.l xs) = some xs from rfl)
    exact .inl ⟨a, vs, rfl, .of ha, r.list s (cut_snd d lo hi) (Nat.le_trans (cut_len _ _ _) z) (okDs_sub o fun _ m => cut_mem m)⟩
  · split at e
    · cases e
    · rename_i xs z
      cases e
      obtain ⟨a, vs, rfl, _, ha, d, zz, o⟩ := h.tup s
      have k : okD (.tuple (cut xs lo hi)) = true := by
        simp only [okD, Bool.and_eq_true, decide_eq_true_eq]
        exact ⟨Nat.le_trans (cut_len _ _ _) zz, okDs_sub o fun _ m => cut_mem m⟩
      exact .inr (.inl ⟨a, vs, rfl, .of ha, by rw [d.length]; exact z, r.tuple s (cut_snd d lo hi) k⟩)
  · cases e
end
end Mv
end
section
set_option Elab.async false
set_option linter.all false
set_option maxHeartbeats 1000000
/-! Mv: built-in functions, methods, stores; how a state's slots change. -/
namespace Mv
open PySem L2
open Classical

/-! ### slots -/
section
variable {K : PySem.W.Frag} {G G' H H' G0 H0 : Hp} {S S0 S' P Pi E : Addr → Prop} {σ : L2.St} {e e' : Env} {i : Nat} {t t' : T} {v : V} {x : PyData}
theorem get_join {e : Env} {i : Nat} {t : T} (h : (e[i]?).join = some t) : e[i]? = some (some t) := by
  cases c : e[i]? with
  | none => rw [c] at h; cases h
  | some o => rw [c] at h; exact congrArg some h
theorem set_get {e : Env} {i j : Nat} {o : Option T} {t : T} (h : (e.set i o)[j]? = some (some t)) : (j = i ∧ o = some t) ∨ (j ≠ i ∧ e[j]? = some (some t)) := by
  by_cases c : j = i
  · subst c
    by_cases l : j < e.length
    · rw [List.getElem?_set_self l] at h; exact .inl ⟨rfl, Option.some.inj h⟩
    · rw [List.getElem?_eq_none (by rw [List.length_set]; omega)] at h; cases h
  · rw [List.getElem?_set_ne (Ne.symm c)] at h; exact .inr ⟨c, h⟩
/-- one slot's value, its own, the others' -/
theorem Slots.split (h : Slots K G H S σ e) (q : e[i]? = some (some t)) : ∃ v P S', σ[i]? = some (some v) ∧ TOk K G H P v t ∧ (∀ a, P a → S a) ∧ (∀ a, S' a → S a) ∧ (∀ a, P a → S' a → False) ∧ Slots K G H S' σ (e.set i none) := by
  obtain ⟨l, O, h1, h2, h3⟩ := h
  obtain ⟨v, a, b⟩ := h3 i t q
  refine ⟨v, O i, fun a => ∃ j, j ≠ i ∧ O j a, a, b, h1 i, fun a ⟨j, _, s⟩ => h1 j a s, fun a p ⟨j, n, s⟩ => n (h2 _ _ _ s p), ⟨by rw [List.length_set]; exact l, fun j a => j ≠ i ∧ O j a, fun j a z => ⟨j, z⟩, fun j k a z z' => h2 _ _ _ z.2 z'.2, fun j t z => ?_⟩⟩
  rcases set_get z with ⟨_, z⟩ | ⟨n, z⟩
  · cases z
  · obtain ⟨v, a, b⟩ := h3 j t z
    exact ⟨v, a, b.wide fun c s => ⟨n, s⟩⟩
/-- a value put into a slot -/
theorem Slots.put (h : Slots K G H S σ e) (hv : σ[i]? = some (some v)) (k : TOk K G H P v t) (s1 : ∀ a, P a → S' a) (s2 : ∀ a, S a → S' a) (d : ∀ a, P a → S a → False) : Slots K G H S' σ (e.set i (some t)) := by
  obtain ⟨l, O, h1, h2, h3⟩ := h
  refine ⟨by rw [List.length_set]; exact l, fun j a => if j = i then P a else O j a, fun j a z => ?_, fun j k a z z' => ?_, fun j t' z => ?_⟩
  · by_cases c : j = i
    · simp only [c, if_true] at z; exact s1 a z
    · simp only [c, if_false] at z; exact s2 a (h1 j a z)
  · by_cases c : j = i
    · by_cases c' : k = i
      · rw [c, c']
      · simp only [c, if_true] at z; simp only [c', if_false] at z'
        exact (d a z (h1 k a z')).elim
    · by_cases c' : k = i
      · simp only [c', if_true] at z'; simp only [c, if_false] at z
        exact (d a z' (h1 j a z)).elim
      · simp only [c, if_false] at z; simp only [c', if_false] at z'
        exact h2 _ _ _ z z'
  · rcases set_get z with ⟨c, z⟩ | ⟨c, z⟩
    · cases z; subst c
      exact ⟨v, hv, k.wide fun a p => by simp only [if_true]; exact p⟩
    · obtain ⟨v, a, b⟩ := h3 j t' z
      exact ⟨v, a, b.wide fun a p => by simp only [c, if_false]; exact p⟩
/-- .. as a store does it: the slot's own σ changes too -/
theorem Slots.store (h : Slots K G H S σ e) (k : TOk K G H P v t) (s1 : ∀ a, P a → S' a) (s2 : ∀ a, S a → S' a) (d : ∀ a, P a → S a → False) : Slots K G H S' (σ.set i (some v)) (e.set i (some t)) := by
  obtain ⟨l, O, h1, h2, h3⟩ := h
  refine ⟨by simpa using l, fun j a => if j = i then P a else O j a, fun j a z => ?_, fun j k a z z' => ?_, fun j t' z => ?_⟩
  · by_cases c : j = i
    · simp only [c, if_true] at z; exact s1 a z
    · simp only [c, if_false] at z; exact s2 a (h1 j a z)
  · by_cases c : j = i
    · by_cases c' : k = i
      · rw [c, c']
      · simp only [c, if_true] at z; simp only [c', if_false] at z'
        exact (d a z (h1 k a z')).elim
    · by_cases c' : k = i
      · simp only [c', if_true] at z'; simp only [c, if_false] at z
        exact (d a z' (h1 j a z)).elim
      · simp only [c, if_false] at z; simp only [c', if_false] at z'
        exact h2 _ _ _ z z'
  · have lj : j < e.length := by
      rw [← List.length_set]; exact (List.getElem?_eq_some_iff.mp z).1
    rcases set_get z with ⟨c, z⟩ | ⟨c, z⟩
    · cases z; subst c
      exact ⟨v, List.getElem?_set_self (by omega), k.wide fun a p => by simp only [if_true]; exact p⟩
    · obtain ⟨v', a, b⟩ := h3 j t' z
      exact ⟨v', by rw [List.getElem?_set_ne (Ne.symm c)]; exact a, b.wide fun a p => by simp only [c, if_false]; exact p⟩
/-- a slot forgotten, of σ too -/
theorem Slots.drop (h : Slots K G H S σ e) : Slots K G H S (σ.set i none) (e.set i none) := by
  obtain ⟨l, O, h1, h2, h3⟩ := h
  refine ⟨by simpa using l, O, h1, h2, fun j t z => ?_⟩
  rcases set_get z with ⟨_, z⟩ | ⟨n, z⟩
  · cases z
  · obtain ⟨v, a, b⟩ := h3 j t z
    exact ⟨v, by rw [List.getElem?_set_ne (Ne.symm n)]; exact a, b⟩
theorem Slots.less (h : Slots K G H S σ e) (l : e'.length ≤ e.length) (s : ∀ (i : Nat) (t : T), e'[i]? = some (some t) → e[i]? = some (some t)) : Slots K G H S σ e' := by
  obtain ⟨l0, O, h1, h2, h3⟩ := h
  exact ⟨Nat.le_trans l l0, O, h1, h2, fun i t q => h3 i t (s i t q)⟩
/-- what stands at Pi, a part of what is owned, is written -/
theorem Out.write {σ' : L2.St} (x : Out K G0 H0 S0 σ e G H P E) (p : ∀ a, Pi a → P a ∨ E a) (f : ∀ a o, ¬ Pi a → H a = some o → H' a = some o) (ex : ∀ a, Pi a → ∃ o, H' a = some o) (sl : Slots K G H' E σ' e') : Out K G0 H0 S0 σ' e' G H' P E := by
  refine ⟨⟨x.ext.g, fun a o h s => f a o (fun q => ?_) (x.ext.fr a o h s), x.ext.gn, x.ext.sn⟩, ⟨fun a o h => f a o (fun q => ?_) (x.wf.sub a o h), fun a h => ?_⟩, x.dj, sl⟩
  · rcases x.ext.sn a (p a q) with z | z
    · exact s z
    · rw [h] at z; cases z
  · rw [(x.wf.own a (p a q)).1] at h; cases h
  · obtain ⟨n, o, ho⟩ := x.wf.own a h
    refine ⟨n, ?_⟩
    by_cases q : Pi a
    · exact ex a q
    · exact ⟨o, f a o q ho⟩
/-- a part of what is owned is given up: it joins what never changes -/
theorem Out.freeze (x : Out K G0 H0 S0 σ e G H P E) (p : ∀ a, Pi a → P a ∨ E a) (p1 : ∀ a, S a → P a) (d1 : ∀ a, Pi a → S a → False) (p2 : ∀ a, S' a → E a) (d2 : ∀ a, Pi a → S' a → False) (sl : Slots K (join G H Pi) H S' σ e') :
    Out K G0 H0 S0 σ e' (join G H Pi) H S S' := by
  have own : ∀ a, Pi a → G a = none := fun a q => (x.wf.own a (p a q)).1
  refine ⟨⟨x.ext.g.trans (join_sub own), fun a o h s => x.ext.fr a o h s, fun a o h => ?_, fun a h => ?_⟩, ⟨fun a o h => ?_, fun a h => ?_⟩, fun a h k => x.dj a (p1 a h) (p2 a k), sl⟩
  · by_cases q : Pi a
    · exact .inr (x.ext.sn a (p a q))
    · rw [join_out q] at h; exact x.ext.gn a o h
  · exact x.ext.sn a (h.elim (fun z => .inl (p1 a z)) fun z => .inr (p2 a z))
  · by_cases q : Pi a
    · rw [join_in q] at h; exact h
    · rw [join_out q] at h; exact x.wf.sub a o h
  · obtain ⟨n, o, ho⟩ := x.wf.own a (h.elim (fun z => .inl (p1 a z)) fun z => .inr (p2 a z))
    refine ⟨?_, o, ho⟩
    rw [join_out fun q => h.elim (d1 a q) (d2 a q)]
    exact n
/-- a value's own given up -/
theorem Out.frzP (x : Out K G0 H0 S0 σ e G H P E) (h : TOk K G H P v t) {y : PyData} (q : t.frz? = some y) : ∃ G', Out K G0 H0 S0 σ e G' H No E ∧ TOk K G' H No v (.d y) ∧ Sub G G' := by
  have own : ∀ a, P a → G a = none := fun a p => (x.wf.own a (.inl p)).1
  refine ⟨join G H P, x.freeze (fun a p => .inl p) (fun _ h => h.elim) (fun _ _ h => h) (fun _ h => h) (fun a p s => x.dj a p s) (x.sl.keep (join_sub own) fun _ _ _ h => h), h.frz own q, join_sub own⟩
/-- a slot's value given up in its place -/
theorem Out.frzS (x : Out K G0 H0 S0 σ e G H P E) (q : e[i]? = some (some t)) {y : PyData} (z : t.frz? = some y) : ∃ v G' E', σ[i]? = some (some v) ∧ Out K G0 H0 S0 σ (e.set i (some (.d y))) G' H P E' ∧ TOk K G' H No v (.d y) ∧ Sub G G' := by
  obtain ⟨v, Pi, S', hv, k, s1, s2, d, sl⟩ := x.sl.split q
  have own : ∀ a, Pi a → G a = none := fun a p => (x.wf.own a (.inr (s1 a p))).1
  have k' := k.frz own z
  refine ⟨v, join G H Pi, S', hv, x.freeze (Pi := Pi) (fun a p => .inr (s1 a p)) (fun _ h => h) (fun a p s => x.dj a s (s1 a p)) s2 (fun a p s => d a p s) ?_, k', join_sub own⟩
  have sl' := sl.keep (join_sub (H := H) own) (H' := H) fun _ _ _ h => h
  have := sl'.put (P := No) (S' := S') (t := .d y) hv k' (fun _ h => h.elim) (fun _ h => h) (fun _ h _ => h)
  rw [List.set_set] at this
  exact this
end

/-! ### slots one by one -/
section
variable {K : PySem.W.Frag} {G G' H H' : Hp} {S A B E : Addr → Prop} {σ : L2.St} {e : Env} {t : T} {v : V} {o : Option T}
theorem Slots.nil : Slots K G H S [] [] := ⟨Nat.le_refl _, fun _ _ => False, fun _ _ h => h.elim, fun _ _ _ h => h.elim, fun i t h => by simp at h⟩
theorem Slots.cons (h : ∀ t, o = some t → TOk K G H A v t) (k : Slots K G H B σ e) (s1 : ∀ a, A a → S a) (s2 : ∀ a, B a → S a) (d : ∀ a, A a → B a → False) : Slots K G H S (some v :: σ) (o :: e) := by
  obtain ⟨l, O, h1, h2, h3⟩ := k
  refine ⟨Nat.succ_le_succ l, fun i a => match i with | 0 => A a | i + 1 => O i a, fun i a q => ?_, fun i j a p q => ?_, fun i t q => ?_⟩
  · cases i with
    | zero => exact s1 a q
    | succ i => exact s2 a (h1 i a q)
  · cases i with
    | zero => cases j with
      | zero => rfl
      | succ j => exact (d a p (h1 j a q)).elim
    | succ i => cases j with
      | zero => exact (d a q (h1 i a p)).elim
      | succ j => rw [h2 i j a p q]
  · cases i with
    | zero => exact ⟨v, rfl, h t (Option.some.inj (by simpa using q))⟩
    | succ i => exact h3 i t (by simpa using q)
theorem Slots.uncons (h : Slots K G H S (some v :: σ) (o :: e)) : ∃ A B, (∀ t, o = some t → TOk K G H A v t) ∧ Slots K G H B σ e ∧ (∀ a, A a → S a) ∧ (∀ a, B a → S a) ∧ (∀ a, A a → B a → False) := by
  obtain ⟨l, O, h1, h2, h3⟩ := h
  refine ⟨O 0, fun a => ∃ i, O (i + 1) a, fun t q => ?_, ⟨Nat.le_of_succ_le_succ l, fun i a => O (i + 1) a, fun i a q => ⟨i, q⟩, fun i j a p q => Nat.succ.inj (h2 _ _ a p q), fun i t q => ?_⟩, h1 0, fun a ⟨i, q⟩ => h1 _ a q, fun a p ⟨i, q⟩ => by cases h2 _ _ a p q⟩
  · obtain ⟨u, e1, e2⟩ := h3 0 t (by simp [q])
    simp at e1; subst e1; exact e2
  · obtain ⟨u, e1, e2⟩ := h3 (i + 1) t (by simpa using q)
    exact ⟨u, by simpa using e1, e2⟩
/-! ### a comprehension's own slots -/
theorem hide_get : ∀ {own : List Nat} {e : Env} {j : Nat} {t : T}, (hide own e)[j]? = some (some t) → j ∉ own ∧ e[j]? = some (some t)
  | [], _, _, _, h => ⟨by simp, h⟩
  | i :: is, e, j, t, h => by
    rcases set_get h with ⟨_, z⟩ | ⟨n, z⟩
    · cases z
    · obtain ⟨a, b⟩ := hide_get z
      exact ⟨by simp [n, a], b⟩
theorem hide_out : ∀ {own : List Nat} {e : Env} {j : Nat}, j ∉ own → (hide own e)[j]? = e[j]?
  | [], _, _, _ => rfl
  | i :: is, e, j, h => by
    simp only [List.mem_cons, not_or] at h
    show ((hide is e).set i none)[j]? = _
    rw [List.getElem?_set_ne (Ne.symm h.1)]
    exact hide_out h.2
theorem hide_len : ∀ (own : List Nat) (e : Env), (hide own e).length = e.length
  | [], _ => rfl
  | i :: is, e => by show ((hide is e).set i none).length = _; rw [List.length_set, hide_len is e]
theorem back_len : ∀ (own : List Nat) (e0 e : Env), (back own e0 e).length = e.length
  | [], _, _ => rfl
  | i :: is, e0, e => by show ((back is e0 e).set i _).length = _; rw [List.length_set, back_len is e0 e]
theorem back_get : ∀ {own : List Nat} {e0 e : Env} {j : Nat} {t : T}, (back own e0 e)[j]? = some (some t) → (j ∈ own ∧ e0[j]? = some (some t)) ∨ (j ∉ own ∧ e[j]? = some (some t))
  | [], _, _, _, _, h => .inr ⟨by simp, h⟩
  | i :: is, e0, e, j, t, h => by
    rcases set_get h with ⟨c, z⟩ | ⟨n, z⟩
    · subst c; exact .inl ⟨by simp, get_join z⟩
    · rcases back_get z with ⟨a, b⟩ | ⟨a, b⟩
      · exact .inl ⟨by simp [a], b⟩
      · exact .inr ⟨by simp [n, a], b⟩
theorem wipe_off : ∀ {own : List Nat} {σ : L2.St} {j : Nat}, j ∉ own → (wipe σ own)[j]? = σ[j]?
  | [], _, _, _ => rfl
  | i :: is, σ, j, h => by
    simp only [List.mem_cons, not_or] at h
    show ((wipe σ is).set i none)[j]? = _
    rw [List.getElem?_set_ne (Ne.symm h.1)]
    exact wipe_off h.2
theorem wipe_on : ∀ {own : List Nat} {σ : L2.St} {j : Nat}, j ∈ own → j < σ.length → (wipe σ own)[j]? = some none
  | i :: is, σ, j, h, l => by
    show ((wipe σ is).set i none)[j]? = _
    by_cases c : j = i
    · subst c; exact List.getElem?_set_self (by rw [wipe_length]; exact l)
    · rw [List.getElem?_set_ne (Ne.symm c)]
      rcases List.mem_cons.mp h with h | h
      · exact absurd h c
      · exact wipe_on h l
/-- the same outside the own slots, as long: the same when wiped -/
theorem wipe_eq {own : List Nat} {σ τ : L2.St} (l : σ.length = τ.length) (h : ∀ j, j ∉ own → σ[j]? = τ[j]?) : wipe σ own = wipe τ own := by
  apply List.ext_getElem?
  intro j
  by_cases c : j ∈ own
  · by_cases k : j < σ.length
    · rw [wipe_on c k, wipe_on c (l ▸ k)]
    · rw [List.getElem?_eq_none (by rw [wipe_length]; omega), List.getElem?_eq_none (by rw [wipe_length]; omega)]
  · rw [wipe_off c, wipe_off c, h j c]
theorem Slots.hid (own : List Nat) (h : Slots K G H S σ e) : Slots K G H S (wipe σ own) (hide own e) := by
  obtain ⟨l, O, h1, h2, h3⟩ := h
  refine ⟨by rw [hide_len, wipe_length]; exact l, O, h1, h2, fun i t q => ?_⟩
  obtain ⟨n, q⟩ := hide_get q
  obtain ⟨v, a, b⟩ := h3 i t q
  exact ⟨v, by rw [wipe_off n]; exact a, b⟩
theorem Slots.backs {own : List Nat} {e0 : Env} {G0 H0 : Hp} {E0 : Addr → Prop} (h : Slots K G H S (wipe σ own) (hide own e)) (h0 : Slots K G0 H0 E0 σ e0) (p : own.all (plain e0) = true) (g : Sub G0 G) : Slots K G H S σ (back own e0 e) := by
  obtain ⟨l, O, h1, h2, h3⟩ := h
  refine ⟨by rw [back_len]; rw [hide_len, wipe_length] at l; exact l, O, h1, h2, fun i t q => ?_⟩
  rcases back_get q with ⟨m, q⟩ | ⟨m, q⟩
  · have := List.all_eq_true.mp p i m
    unfold plain at this
    rw [show (e0[i]?).join = some t by rw [q]; rfl] at this
    cases t with
    | d x =>
      obtain ⟨v, a, b⟩ := h0.get q
      exact ⟨v, a, b.1.mono g, b.2⟩
    | _ => cases this
  · obtain ⟨v, a, b⟩ := h3 i t (by rw [hide_out m]; exact q)
    exact ⟨v, by rw [wipe_off m] at a; exact a, b⟩
end

/-! ### isinstance -/
section
variable {K : PySem.W.Frag} {G H : Hp} {A B : Addr → Prop} {v u : V} {t t' w : T} {Q : VK} {x : PyData}
def Ty.nm : Ty → String
  | .int => "int" | .bool => "bool" | .str => "str" | .list => "list" | .tuple => "tuple" | .dict => "dict"
/-- a value's own type -/
inductive Kd where | non | bool | int | str | list | tuple | dict
def Kd.nm : Kd → String
  | .non => "NoneType" | .bool => "bool" | .int => "int" | .str => "str" | .list => "list" | .tuple => "tuple" | .dict => "dict"
def Kd.is : Kd → Ty → Bool
  | .int, .int => true | .bool, .int => true | .bool, .bool => true | .str, .str => true | .list, .list => true | .tuple, .tuple => true | .dict, .dict => true
  | _, _ => false
theorem kit_all (k : Kd) (y : Ty) : kitB k.nm y.nm = some (k.is y) := by cases k <;> cases y <;> decide +kernel
theorem kitAny_all {K : PySem.W.Frag} (k : Kd) : ∀ ys : List Ty, PySem.W.kitAny K (.type k.nm) (ys.map fun y => Value.type y.nm) = some (ys.any k.is)
  | [] => kitAny_nil
  | y :: ys => kitAny_cons (b := k.is y) (kit_ty (kit_all k y)) (fun h => by rw [kitAny_all k ys]; simp [h]) (fun h => by simp [h])
theorem kd_snd (s : Sub G H) (h : TOk K G H A v t) : ∃ k : Kd, TyX K H v (.type k.nm) ∧ ∀ y, isTy y t = k.is y := by
  cases t with
  | d x =>
    obtain ⟨h1, h2⟩ := h
    cases h1 with
    | non => exact ⟨.non, .base .non, fun y => by cases y <;> rfl⟩
    | bl b => exact ⟨.bool, .base (.bl b), fun y => by cases y <;> rfl⟩
    | int i => exact ⟨.int, .base (.int i), fun y => by cases y <;> rfl⟩
    | str i => exact ⟨.str, .base (.str i), fun y => by cases y <;> rfl⟩
    | lst a d => exact ⟨.list, .base (.lst (s _ _ a)), fun y => by cases y <;> rfl⟩
    | tup a d => exact ⟨.tuple, .base (.tup (s _ _ a)), fun y => by cases y <;> rfl⟩
  | l xs =>
    obtain ⟨a, rfl, _, vs, ha, _⟩ := h
    exact ⟨.list, .base (.lst ha), fun y => by cases y <;> rfl⟩
  | o ts =>
    obtain ⟨a, as, rfl, _, _, _, ha, _⟩ := h
    exact ⟨.list, .base (.lst ha), fun y => by cases y <;> rfl⟩
  | m kvs =>
    obtain ⟨a, vs, rfl, _, ha, _⟩ := h
    exact ⟨.dict, .base (.dK ha), fun y => by cases y <;> rfl⟩
  | s ns =>
    obtain ⟨a, rfl, q, _⟩ := h
    rcases q with (q | ⟨o, q⟩) | ⟨o, its, n, q, c, _⟩
    · exact ⟨.list, .base (.lst (s _ _ q)), fun y => by cases y <;> rfl⟩
    · exact ⟨.list, .base (.frz (s _ _ q)), fun y => by cases y <;> rfl⟩
    · exact ⟨.list, .kList q c, fun y => by cases y <;> rfl⟩

/-! ### built-in functions -/
/-- sorted(xs) by what the items are -/
def rSortD (K : PySem.W.Frag) : List V → Hp → VK → Prop := fun vs H Q => ∃ (a : Addr) (ps : List (V × PyData)), vs = [.ref a] ∧ SqL K H a (ps.map (·.1)) ∧ (∀ p ∈ ps, Dp K H p.1 p.2) ∧
  PySem.W.AllAlike (ps.map (·.2)) ∧ PySem.W.Sortable (ps.map (·.2)) ∧ ps.length ≤ LINE ∧ (∀ p ∈ ps, p.2.depth ≤ 60) ∧ ∀ q, H q = none → Q (.ref q) (upd H q (.lst ((ps.mergeSort (PySem.W.dataLe false (·.2))).map (·.1))))
def rFn (K : PySem.W.Frag) : Fn → List V → Hp → VK → Prop
  | .len => fun xs H Q => ∃ x n, xs = [x] ∧ LenV K x H n ∧ Q (.int n) H
  | .list => fun xs H Q => ∃ p ys, xs = [.ref p] ∧ (SqL K H p ys ∨ SqT K H p ys) ∧ ∀ l, H l = none → Q (.ref l) (upd H l (.lst ys))
  | .tuple => fun xs H Q => ∃ p ys, xs = [.ref p] ∧ ((SqL K H p ys ∧ ∀ l, H l = none → Q (.ref l) (upd H l (.tup ys))) ∨ (SqT K H p ys ∧ Q (.ref p) H))
  | .sorted => rSortD K
  | .sum => rSum K
  | .abs => fun xs H Q => ∃ i, xs = [.int i] ∧ Q (.int (if i < 0 then -i else i)) H
  | .int => fun xs H Q => (∃ i, xs = [.int i] ∧ Q (.int i) H) ∨ ∃ k, xs = [.bl k] ∧ Q (.int (if k then 1 else 0)) H
  | .str => fun xs H Q => ∃ i, xs = [.int i] ∧ i.natAbs.log2 < 1920 ∧ Q (.str (toString i)) H
  | .min2 => fun xs H Q => ∃ i j, xs = [.int i, .int j] ∧ Q (.int (if j < i then j else i)) H
  | .max2 => fun xs H Q => ∃ i j, xs = [.int i, .int j] ∧ Q (.int (if j > i then j else i)) H
  | .max1 => rMax K
  | .min1 => rMin K
theorem ints_snd : ∀ {xs : List PyData} {ns : List Int} {vs : List V}, Dqs G vs xs → ints? xs = some ns → vs = ns.map V.int
  | _, ns, _, .nil, e => by cases e; rfl
  | _, ns, _, .cons (x := x) (xs := xs) h hs, e => by
    cases x <;> simp [ints?] at e
    obtain ⟨ns', e', rfl⟩ := e
    cases h
    rw [ints_snd hs e']; rfl
theorem strs_snd : ∀ {xs : List PyData} {zs : List Str} {vs : List V}, Dqs G vs xs → strs? xs = some zs → vs = zs.map V.str ∧ (okDs xs = true → ∀ z ∈ zs, PyData.strOk z = true)
  | _, zs, _, .nil, e => by cases e; exact ⟨rfl, fun _ _ h => by cases h⟩
  | _, zs, _, .cons (x := x) (xs := xs) h hs, e => by
    cases x <;> simp [strs?] at e
    obtain ⟨ns', e', rfl⟩ := e
    cases h
    obtain ⟨e1, e2⟩ := strs_snd hs e'
    refine ⟨by rw [e1]; rfl, fun o z m => ?_⟩
    simp [okDs, okD, strB] at o
    rcases List.mem_cons.mp m with rfl | m
    · exact o.1.1
    · exact e2 o.2 z m
theorem foldl_max (n : Int) : ∀ (r : List Int) (x : Int), n ∈ x :: r → (∀ y ∈ x :: r, y ≤ n) → r.foldl max x = n
  | [], x, h, _ => (List.mem_singleton.mp h).symm
  | y :: r, x, h, k => by
    rw [List.foldl_cons]
    have kx := k x (by simp)
    have ky := k y (by simp)
    refine foldl_max n r _ ?_ fun z hz => ?_
    · rcases List.mem_cons.mp h with e | h
      · rw [← e, show max n y = n by omega]; simp
      · rcases List.mem_cons.mp h with e | h
        · rw [← e, show max x n = n by omega]; simp
        · exact List.mem_cons_of_mem _ h
    · rcases List.mem_cons.mp hz with e | hz
      · omega
      · exact k z (by simp [hz])
theorem foldl_min (n : Int) : ∀ (r : List Int) (x : Int), n ∈ x :: r → (∀ y ∈ x :: r, n ≤ y) → r.foldl min x = n
  | [], x, h, _ => (List.mem_singleton.mp h).symm
  | y :: r, x, h, k => by
    rw [List.foldl_cons]
    have kx := k x (by simp)
    have ky := k y (by simp)
    refine foldl_min n r _ ?_ fun z hz => ?_
    · rcases List.mem_cons.mp h with e | h
      · rw [← e, show min n y = n by omega]; simp
      · rcases List.mem_cons.mp h with e | h
        · rw [← e, show min x n = n by omega]; simp
        · exact List.mem_cons_of_mem _ h
    · rcases List.mem_cons.mp hz with e | hz
      · omega
      · exact k z (by simp [hz])

/-! ### sorting -/
theorem ins_split {α : Type} {le : α → α → Bool} (a : α) : ∀ (l₁ l₂ : List α), (∀ b ∈ l₁, le a b = false) → (∀ b ∈ l₂.head?, le a b = true) → ins le a (l₁ ++ l₂) = l₁ ++ a :: l₂
  | [], [], _, _ => rfl
  | [], b :: r, _, h => by simp only [List.nil_append, ins]; rw [if_pos (h b rfl)]
  | b :: r, l₂, h, k => by
    simp only [List.cons_append, ins]
    rw [if_neg (by simp [h b (by simp)]), ins_split a r l₂ (fun c m => h c (by simp [m])) k]
theorem isort_eq {α : Type} {le : α → α → Bool} (tl : PySem.W.TotalLe le) : ∀ l : List α, l.mergeSort le = isort le l
  | [] => by simp [isort]
  | a :: r => by
    have tr : ∀ a b c : α, le a b = true → le b c = true → le a c = true := fun a b c h k => tl.trans a b c h k
    have tt : ∀ a b : α, (le a b || le b a) = true := fun a b => by simpa using tl.total a b
    obtain ⟨l₁, l₂, e1, e2, h⟩ := List.mergeSort_cons tr tt a r
    have sp : (l₁ ++ a :: l₂).Pairwise fun x y => le x y = true := by rw [← e1]; exact PySem.W.sort_pairwise tl _
    rw [e1, isort, ← isort_eq tl r, e2, ins_split a l₁ l₂ (fun b m => by simpa using h b m) fun b m => ?_]
    cases l₂ with
    | nil => cases m
    | cons c q =>
      cases m
      have := (List.pairwise_append.mp sp).2.1
      exact (List.pairwise_cons.mp this).1 b (by simp)
theorem ins_map {α β : Type} {le : β → β → Bool} (f : α → β) (a : α) : ∀ l : List α, (ins (fun x y => le (f x) (f y)) a l).map f = ins le (f a) (l.map f)
  | [] => rfl
  | b :: r => by
    simp only [ins, List.map_cons]
    split
    · rfl
    · rw [List.map_cons, ins_map f a r]
theorem isort_map {α β : Type} {le : β → β → Bool} (f : α → β) : ∀ l : List α, (isort (fun x y => le (f x) (f y)) l).map f = isort le (l.map f)
  | [] => rfl
  | a :: r => by simp only [isort, List.map_cons]; rw [ins_map, isort_map f r]
theorem ins_perm {α : Type} {le : α → α → Bool} (a : α) : ∀ l : List α, (ins le a l).Perm (a :: l)
  | [] => .refl _
  | b :: r => by
    simp only [ins]
    split
    · exact .refl _
    · exact ((ins_perm a r).cons b).trans (.swap a b r)
theorem isort_perm {α : Type} {le : α → α → Bool} : ∀ l : List α, (isort le l).Perm l
  | [] => .refl _
  | a :: r => (ins_perm a _).trans ((isort_perm r).cons a)
theorem total_data (f : V × PyData → PyData) : PySem.W.TotalLe (PySem.W.dataLe false f) := PySem.W.sortLe_total _ _ _
section
variable {K : PySem.W.Frag} {G H : Hp} {A B : Addr → Prop} {v u : V} {t t' w : T} {Q : VK} {x : PyData}
theorem zip_snd : ∀ {vs : List V} {xs : List PyData}, Dqs G vs xs → (vs.zip xs).map (·.1) = vs ∧ (vs.zip xs).map (·.2) = xs ∧ ∀ p ∈ vs.zip xs, Dq G p.1 p.2
  | _, _, .nil => ⟨rfl, rfl, fun _ h => by cases h⟩
  | _, _, .cons h hs => by
    obtain ⟨e1, e2, e3⟩ := zip_snd hs
    refine ⟨by simp [e1], by simp [e2], fun p m => ?_⟩
    rcases List.mem_cons.mp m with rfl | m
    · exact h
    · exact e3 p m
theorem unzip_snd : ∀ {ps : List (V × PyData)}, (∀ p ∈ ps, Dq G p.1 p.2) → Dqs G (ps.map (·.1)) (ps.map (·.2))
  | [], _ => .nil
  | p :: r, h => .cons (h p (by simp)) (unzip_snd fun q m => h q (by simp [m]))
theorem depth_mem : ∀ {xs : List PyData} {x : PyData}, x ∈ xs → x.depth ≤ PyData.depthAll xs
  | y :: r, x, h => by
    simp only [PyData.depthAll]
    rcases List.mem_cons.mp h with rfl | h
    · omega
    · have := depth_mem h; omega
theorem sorted_snd {xs ys : List PyData} {a : Addr} {vs : List V} (s : Sub G H) (ha : H a = some (.lst vs)) (d : Dqs G vs xs) (z : xs.length ≤ LINE) (o : okDs xs = true) (e : sorted xs = some ys) (r : Res K G H (.l ys) Q) : rSortD K [.ref a] H Q := by
  unfold sorted at e
  split at e
  · rename_i c
    cases e
    obtain ⟨c1, c2, c3⟩ := c
    obtain ⟨e1, e2, e3⟩ := zip_snd d
    have hl : (vs.zip xs).length = xs.length := by rw [← List.length_map (f := (·.2)), e2]
    refine ⟨a, vs.zip xs, rfl, by rw [e1]; exact .of ha, fun p m => (e3 p m).dp s, ?_, ?_, by rw [hl]; exact z, fun p m => ?_, ?_⟩
    · rw [e2]
      intro x hx y hy
      unfold alikeB at c1
      exact List.all_eq_true.mp (List.all_eq_true.mp c1 x hx) y hy
    · rw [e2]
      unfold sortB at c2
      rcases Bool.or_eq_true_iff.mp c2 with c2 | c2
      · left
        intro x hx
        have := List.all_eq_true.mp c2 x hx
        split at this
        · exact ⟨_, _, rfl⟩
        · cases this
      · right
        intro x hx
        have := List.all_eq_true.mp c2 x hx
        split at this
        · cases this
        · cases this
        · rename_i q1 q2; exact ⟨q1, q2⟩
    · have : p.2 ∈ xs := by rw [← e2]; exact List.mem_map_of_mem m
      exact Nat.le_trans (depth_mem this) c3
    · have q := isort_eq (total_data (·.2)) (vs.zip xs)
      have pm : (isort (PySem.W.dataLe false fun p : V × PyData => p.2) (vs.zip xs)).Perm (vs.zip xs) := isort_perm _
      rw [q]
      have e4 : (isort (PySem.W.dataLe false fun p : V × PyData => p.2) (vs.zip xs)).map (·.2) = isort leD xs := by
        conv => rhs; rw [← e2]
        exact isort_map (le := leD) (fun p : V × PyData => p.2) (vs.zip xs)
      have pm2 : (isort leD xs).Perm xs := isort_perm _
      refine r.list s ?_ (by rw [pm2.length_eq]; exact z) (okDs_sub o fun y m => pm2.mem_iff.mp m)
      rw [← e4]
      exact unzip_snd fun p m => e3 p (pm.mem_iff.mp m)
  · cases e
/-- the arguments of a call, one by one -/
def TsOk (K : PySem.W.Frag) (G H : Hp) (A : Addr → Prop) : List V → List T → Prop := Paired fun v t => TOk K G H A v t
theorem TsOk.one {us : List V} (h : TsOk K G H A us [t]) : ∃ u, us = [u] ∧ TOk K G H A u t := by
  cases h with
  | cons a b => cases b; exact ⟨_, rfl, a⟩
theorem TsOk.two {us : List V} (h : TsOk K G H A us [t, t']) : ∃ u u', us = [u, u'] ∧ TOk K G H A u t ∧ TOk K G H A u' t' := by
  cases h with
  | cons a b => obtain ⟨u, rfl, c⟩ := TsOk.one b; exact ⟨_, _, rfl, a, c⟩
theorem fn_snd {f : Fn} {us : List V} {ts : List T} (s : Sub G H) (h : TsOk K G H A us ts) (e : fn f ts = some w) (r : Res K G H w Q) : rFn K f us H Q := by
  unfold fn at e
  split at e
  all_goals first
    | (cases e; done)
    | obtain ⟨u, u', rfl, h1, h2⟩ := h.two
    | obtain ⟨u, rfl, k⟩ := h.one
  · cases e
    obtain ⟨rfl, _, z⟩ := k.str
    exact ⟨_, _, rfl, ⟨by rw [LINE_eq]; exact z, rfl⟩, r.data s (.int _) rfl⟩
  · cases e
    obtain ⟨a, vs, rfl, ha, d, _⟩ := k.row s (show T.list? (.d (.list _)) = some _ from rfl)
    refine ⟨_, _, rfl, .inl ⟨vs, .of ha, rfl⟩, ?_⟩
    rw [d.length]; exact r.data s (.int _) rfl
  · cases e
    obtain ⟨a, vs, rfl, _, ha, d, _⟩ := k.tup s
    refine ⟨_, _, rfl, .inr ⟨vs, .of ha, rfl⟩, ?_⟩
    rw [d.length]; exact r.data s (.int _) rfl
  · cases e
    obtain ⟨a, vs, rfl, ha, d, _⟩ := k.row s (show T.list? (.l _) = some _ from rfl)
    refine ⟨_, _, rfl, .inl ⟨vs, .of ha, rfl⟩, ?_⟩
    rw [d.length]; exact r.data s (.int _) rfl
  · cases e
    obtain ⟨a, as, rfl, _, _, _, ha, p, _⟩ := k
    refine ⟨_, _, rfl, .inl ⟨as.map V.ref, .of ha, rfl⟩, ?_⟩
    rw [List.length_map, paired_len p]; exact r.data s (.int _) rfl
  · cases e
    obtain ⟨a, rfl, q, _⟩ := k
    refine ⟨_, _, rfl, .inl ⟨_, sqL_sub s q, rfl⟩, ?_⟩
    rw [List.length_map]; exact r.data s (.int _) rfl
  · cases e
    obtain ⟨a, vs, rfl, ha, d, z, o⟩ := k.row s (show T.list? (.d (.list _)) = some _ from rfl)
    exact ⟨a, vs, rfl, .inl (.of ha), r.list s d z o⟩
  · cases e
    obtain ⟨a, vs, rfl, _, ha, d, z, o⟩ := k.tup s
    exact ⟨a, vs, rfl, .inr (.of ha), r.list s d z o⟩
  · cases e
    obtain ⟨a, vs, rfl, ha, d, z, o⟩ := k.row s (show T.list? (.l _) = some _ from rfl)
    exact ⟨a, vs, rfl, .inl (.of ha), r.list s d z o⟩
  · cases e
    obtain ⟨a, rfl, q, z⟩ := k
    refine ⟨a, _, rfl, .inl (sqL_sub s q), r.list s (.ints _) (by rw [List.length_map]; exact z) (okDs_mem.mpr fun y m => ?_)⟩
    obtain ⟨n, _, rfl⟩ := List.mem_map.mp m; rfl
  · cases e
    obtain ⟨a, vs, rfl, ha, d, z, o⟩ := k.row s (show T.list? (.d (.list _)) = some _ from rfl)
    exact ⟨a, vs, rfl, .inl ⟨.of ha, r.tuple s d (by simp [okD, z, o])⟩⟩
  · cases e
    obtain ⟨a, vs, rfl, ha, d, z, o⟩ := k.row s (show T.list? (.l _) = some _ from rfl)
    exact ⟨a, vs, rfl, .inl ⟨.of ha, r.tuple s d (by simp [okD, z, o])⟩⟩
  · cases e
    obtain ⟨a, vs, rfl, ga, ha, d, z, o⟩ := k.tup s
    exact ⟨a, vs, rfl, .inr ⟨.of ha, r.data s (.tup ga d) (by simp [okD, z, o])⟩⟩
  · rename_i t
    cases c : t.list? with
    | none => rw [c] at e; cases e
    | some xs =>
      rw [c] at e
      cases c2 : sorted xs with
      | none => simp [c2] at e
      | some ys =>
        simp [c2] at e; subst e
        obtain ⟨a, vs, rfl, ha, d, z, o⟩ := k.row s c
        exact sorted_snd s ha d z o c2 r
  · rename_i t
    cases c : t.list? with
    | none => rw [c] at e; cases e
    | some xs =>
      rw [c] at e
      cases c2 : ints? xs with
      | none => simp [c2] at e
      | some ns =>
        simp [c2] at e; subst e
        obtain ⟨a, vs, rfl, ha, d, z, o⟩ := k.row s c
        have := ints_snd d c2
        subst this
        exact ⟨a, ns, rfl, .of ha, r.data s (.int _) rfl⟩
  · cases e; cases k.int; exact ⟨_, rfl, r.data s (.int _) rfl⟩
  · cases e; cases k.int; exact .inl ⟨_, rfl, r.data s (.int _) rfl⟩
  · split at e
    · rename_i z
      cases e; cases k.int
      exact ⟨_, rfl, z.1, r.data s (.str _) z.2⟩
    · cases e
  · cases e; cases h1.int; cases h2.int; exact ⟨_, _, rfl, r.data s (.int _) rfl⟩
  · cases e; cases h1.int; cases h2.int; exact ⟨_, _, rfl, r.data s (.int _) rfl⟩
  · rename_i t
    cases c : t.list? with
    | none => rw [c] at e; cases e
    | some xs =>
      rw [c] at e
      cases c2 : ints? xs with
      | none => simp [c2] at e
      | some ns =>
        cases ns with
        | nil => simp [c2, maxI] at e
        | cons n ns =>
          simp [c2, maxI] at e; subst e
          obtain ⟨a, vs, rfl, ha, d, z, o⟩ := k.row s c
          have := ints_snd d c2
          subst this
          exact ⟨a, n :: ns, rfl, .of ha, by simp, fun m hm hk => by rw [← foldl_max m ns n hm hk]; exact r.data s (.int _) rfl⟩
  · rename_i t
    cases c : t.list? with
    | none => rw [c] at e; cases e
    | some xs =>
      rw [c] at e
      cases c2 : ints? xs with
      | none => simp [c2] at e
      | some ns =>
        cases ns with
        | nil => simp [c2, minI] at e
        | cons n ns =>
          simp [c2, minI] at e; subst e
          obtain ⟨a, vs, rfl, ha, d, z, o⟩ := k.row s c
          have := ints_snd d c2
          subst this
          exact ⟨a, n :: ns, rfl, .of ha, by simp, fun m hm hk => by rw [← foldl_min m ns n hm hk]; exact r.data s (.int _) rfl⟩
end

/-! ### methods -/
theorem index_snd {us : List V} {ts : List T} (s : Sub G H) (h : TOk K G H A v t) (ks : TsOk K G H B us ts) (e : meth .index t ts = some w) (r : Res K G H w Q) : rIndexD K v us H Q := by
  unfold meth at e
  split at e
  · rename_i y
    obtain ⟨u, rfl, k⟩ := ks.one
    split at e
    · rename_i ds d e1 e2
      split at e
      · rename_i z
        cases c : place ds d with
        | none => rw [c] at e; cases e
        | some j =>
          rw [c] at e; cases e
          obtain ⟨h1, h2⟩ := h.dp s (data_of_list e1)
          obtain ⟨k1, k2⟩ := k.dp s e2
          obtain ⟨a, vs, rfl, _⟩ := h.row s e1
          obtain ⟨lj, p1, p2⟩ := List.findIdx?_eq_some_iff_getElem.mp c
          refine ⟨a, u, d, ds, j, ds[j], rfl, rfl, h1, k1, shaped_ok h2 (by simp [PyData.depth]; omega), shaped_ok k2 (by omega), List.getElem?_eq_getElem lj, p1, fun m z' hm hz => ?_, r.data s (.int _) rfl⟩
          obtain ⟨lm, rfl⟩ := List.getElem?_eq_some_iff.mp hz
          simpa using p2 m hm
      · cases e
    · cases e
  all_goals first | (cases e; done) | contradiction
theorem get1_snd {us : List V} {ts : List T} (s : Sub G H) (h : TOk K G H A v t) (ks : TsOk K G H B us ts) (e : meth .get1 t ts = some w) (r : Res K G H w Q) : ∃ a u o, v = .ref a ∧ us = [u] ∧ DGet H a u o ∧ Q (o.getD .non) H := by
  unfold meth at e
  split at e
  all_goals first | contradiction | (cases e; done) | skip
  rename_i y _
  obtain ⟨u, rfl, k⟩ := ks.one
  split at e
  · rename_i kvs
    cases c : key? y with
    | none => rw [c] at e; cases e
    | some key =>
      rw [c] at e; cases e
      obtain ⟨a, vs, rfl, _, ha, rr, _⟩ := h
      cases key_snd k c
      refine ⟨a, _, _, rfl, rfl, .k ha, ?_⟩
      have q := find_snd key rr
      cases f : find kvs key <;> cases g : valV vs key <;> rw [f, g] at q
      · simp only [f] at r; exact r.data s .non rfl
      · exact q.elim
      · exact q.elim
      · simp only [f] at r; exact r.data s q.1 q.2
  · cases e
theorem get2_snd {us : List V} {ts : List T} (s : Sub G H) (h : TOk K G H A v t) (ks : TsOk K G H B us ts) (e : meth .get2 t ts = some w) (r : Res K G H w Q) : ∃ a u u' o, v = .ref a ∧ us = [u, u'] ∧ DGet H a u o ∧ Q (o.getD u') H := by
  unfold meth at e
  split at e
  all_goals first | contradiction | (cases e; done) | skip
  rename_i y z _
  obtain ⟨u, u', rfl, k, k'⟩ := ks.two
  split at e
  · rename_i kvs
    cases c : key? y with
    | none => rw [c] at e; cases e
    | some key =>
      rw [c] at e; cases e
      obtain ⟨a, vs, rfl, _, ha, rr, _⟩ := h
      cases key_snd k c
      refine ⟨a, _, _, _, rfl, rfl, .k ha, ?_⟩
      have q := find_snd key rr
      cases f : find kvs key <;> cases g : valV vs key <;> rw [f, g] at q
      · simp only [f] at r; exact r.data s k'.1 k'.2
      · exact q.elim
      · exact q.elim
      · simp only [f] at r; exact r.data s q.1 q.2
  · cases e
def rJoin (K : PySem.W.Frag) : V → List V → Hp → VK → Prop := fun x xs H Q => ∃ a p, ∃ ys : List Str, x = .str a ∧ xs = [.ref p] ∧ (SqL K H p (ys.map V.str) ∨ SqT K H p (ys.map V.str)) ∧
  (ys.map (·.length)).sum + ys.length * a.length ≤ 16777216 ∧ Q (.str (Txt.join a ys)) H
theorem joined (a : Str) (ys : List Str) : Txt.join a ys = Str.join a ys := TL.join_eq a ys
theorem join_ok {a : Str} (ha : PyData.strOk a = true) : ∀ {ys : List Str}, (∀ y ∈ ys, PyData.strOk y = true) → PyData.strOk (Str.join a ys) = true ∧ (Str.join a ys).length ≤ (ys.map Str.length).sum + ys.length * a.length
  | [], _ => ⟨by simp [Str.join, PyData.strOk, Str.empty], by simp [Str.join, Str.empty, Str.length]⟩
  | [x], h => ⟨h x (by simp), by simp [Str.join]⟩
  | x :: y :: r, h => by
    obtain ⟨h1, h2⟩ := join_ok ha (ys := y :: r) fun z m => h z (by simp [List.mem_cons.mp m])
    refine ⟨strOk_append (strOk_append (h x (by simp)) ha) h1, ?_⟩
    simp only [Str.join, len_append]
    simp only [List.map_cons, List.sum_cons, List.length_cons] at h2 ⊢
    have : (r.length + 1 + 1) * a.length = (r.length + 1) * a.length + a.length := by rw [Nat.add_mul (r.length + 1) 1, Nat.one_mul]
    omega
theorem join_snd {us : List V} {ts : List T} (s : Sub G H) (h : TOk K G H A v t) (ks : TsOk K G H B us ts) (e : meth .join t ts = some w) (r : Res K G H w Q) : rJoin K v us H Q := by
  unfold meth at e
  split at e
  all_goals first | contradiction | (cases e; done) | skip
  rename_i y _
  obtain ⟨u, rfl, k⟩ := ks.one
  split at e
  · rename_i z xs e1
    split at e
    · rename_i l
      cases e
      obtain ⟨rfl, z1, z2⟩ := h.str
      cases c : y.list? with
      | none => rw [c] at e1; cases e1
      | some ds =>
        rw [c] at e1
        obtain ⟨a, vs, rfl, ha, d, zz, o⟩ := k.row s c
        obtain ⟨rfl, o2⟩ := strs_snd d e1
        obtain ⟨j1, j2⟩ := join_ok z1 (o2 o)
        refine ⟨z, a, xs, rfl, rfl, .inl (.of ha), l, ?_⟩
        rw [joined]
        refine r.data s (.str _) ?_
        simp only [okD, strB, j1, Bool.true_and, decide_eq_true_eq]
        exact Nat.le_trans j2 l
    · cases e
  · cases e

/-! ### stores -/
def rMu : Mu → V → List V → Hp → VK → Prop
  | .append => rAppend
  | .extend => rExtend
  | .insert => fun x vs H Q => ∃ (l : Addr) (xs : List V) (i : Int) (y : V), x = .ref l ∧ vs = [.int i, y] ∧ H l = some (.lst xs) ∧ xs.length < sizeLine ∧ 0 ≤ i ∧ i < 2 ^ 63 ∧ Q .non (upd H l (.lst (xs.take i.toNat ++ [y] ++ xs.drop i.toNat)))
  | .pop => rPop
/-- a list within P is written -/
theorem row_upd {P : Addr → Prop} {l : Addr} {vs : List V} {xs : List PyData} (p : P l) (d : Dqs G vs xs) (z : xs.length ≤ LINE) (o : okDs xs = true) : TOk K G (upd H l (.lst vs)) P (.ref l) (.l xs) :=
  ⟨l, rfl, p, vs, upd_same, d, z, o⟩
theorem chg_snd {m : Mu} {P : Addr → Prop} {us : List V} {ts : List T} (s : Sub G H) (h : TOk K G H P v t) (ks : TsOk K G H B us ts) (e : chg m t ts = some (x, t')) :
    ∃ l vs' y, v = .ref l ∧ P l ∧ Dq G y x ∧ okD x = true ∧ TOk K G (upd H l (.lst vs')) P v t' ∧ ∀ Q : VK, Q y (upd H l (.lst vs')) → rMu m v us H Q := by
  unfold chg at e
  split at e
  · rename_i xs y
    obtain ⟨u, rfl, k⟩ := ks.one
    obtain ⟨l, rfl, p, vs, ha, d, z, o⟩ := h
    split at e
    · rename_i c
      cases e
      refine ⟨l, vs ++ [u], .non, rfl, p, .non, rfl, row_upd p (d.append (.one k.1)) (by simp; omega) (by simp [okDs_append, o, okDs, k.2]), fun Q q => ⟨l, vs, u, rfl, rfl, ha, ?_, q⟩⟩
      rw [d.length, LINE_eq]; exact c
    · cases e
  · rename_i xs ys
    obtain ⟨u, rfl, k⟩ := ks.one
    obtain ⟨b, ws, rfl, hb, d2, z2, o2⟩ := k.row s (show T.list? (.l ys) = some ys from rfl)
    obtain ⟨l, rfl, p, vs, ha, d, z, o⟩ := h
    split at e
    · rename_i c
      cases e
      refine ⟨l, vs ++ ws, .non, rfl, p, .non, rfl, row_upd p (d.append d2) (by simp; omega) (by simp [okDs_append, o, o2]), fun Q q => ⟨l, b, vs, ws, rfl, rfl, ha, hb, ?_, q⟩⟩
      rw [d.length, d2.length, LINE_eq]; exact c
    · cases e
  · rename_i xs ys
    obtain ⟨u, rfl, k⟩ := ks.one
    obtain ⟨b, ws, rfl, hb, d2, z2, o2⟩ := k.row s (show T.list? (.d (.list ys)) = some ys from rfl)
    obtain ⟨l, rfl, p, vs, ha, d, z, o⟩ := h
    split at e
    · rename_i c
      cases e
      refine ⟨l, vs ++ ws, .non, rfl, p, .non, rfl, row_upd p (d.append d2) (by simp; omega) (by simp [okDs_append, o, o2]), fun Q q => ⟨l, b, vs, ws, rfl, rfl, ha, hb, ?_, q⟩⟩
      rw [d.length, d2.length, LINE_eq]; exact c
    · cases e
  · rename_i xs i y
    obtain ⟨u, u', rfl, k, k'⟩ := ks.two
    obtain ⟨l, rfl, p, vs, ha, d, z, o⟩ := h
    split at e
    · rename_i c
      cases e; cases k.int
      have dd : Dqs G (vs.take i.toNat ++ [u'] ++ vs.drop i.toNat) (xs.take i.toNat ++ y :: xs.drop i.toNat) := by
        rw [List.append_assoc]
        exact (d.take _).append (.cons k'.1 (d.drop _))
      refine ⟨l, _, .non, rfl, p, .non, rfl, row_upd p dd ?_ ?_, fun Q q => ⟨l, vs, i, u', rfl, rfl, ha, ?_, c.2.1, ?_, q⟩⟩
      · have := c.1
        simp only [List.length_append, List.length_take, List.length_cons, List.length_drop]; omega
      · rw [okDs_append]
        simp only [okDs, k'.2, Bool.true_and]
        rw [okDs_sub o fun y m => List.mem_of_mem_take m, okDs_sub o fun y m => List.mem_of_mem_drop m]; rfl
      · rw [d.length, LINE_eq]; exact c.1
      · have := c.2.2; have := c.1; simp only [LINE] at *; omega
    · cases e
  · rename_i xs
    cases ks
    obtain ⟨l, rfl, p, vs, ha, d, z, o⟩ := h
    split at e
    · rename_i y c
      cases e
      rw [List.getLast?_eq_getElem?] at c
      obtain ⟨u, e1, e2⟩ := d.get c
      refine ⟨l, vs.dropLast, u, rfl, p, e2, okDs_at o c, row_upd p d.dropLast (by simp; omega) (okDs_sub o fun y m => List.dropLast_subset _ m), fun Q q => ⟨l, vs, u, rfl, rfl, ha, ?_, q⟩⟩
      rw [d.length]; exact e1
    · cases e
  · cases e
def rSetU : TSet := fun o i v H Q => rSetL o i v H Q ∨ ∃ a H4, o = .ref a ∧ DPut H a i v H4 ∧ Q H4
theorem put_snd {k : Key} {y : V} {z : PyData} (d : Dq G y z) (o : okD z = true) {vs : List (Key × V)} {kvs : List (Key × PyData)} (h : Paired (EntOk G) vs kvs) : Paired (EntOk G) (putK vs k y) (put kvs k z) := by
  have any : ∀ {vs : List (Key × V)} {kvs : List (Key × PyData)}, Paired (EntOk G) vs kvs → (vs.any fun p => decide (p.1 = k)) = (kvs.any fun p => decide (p.1 = k)) := by
    intro vs kvs h
    induction h with
    | nil => rfl
    | cons r _ ih => simp only [List.any_cons, r.1, ih]
  have repl : ∀ {vs : List (Key × V)} {kvs : List (Key × PyData)}, Paired (EntOk G) vs kvs → Paired (EntOk G) (vs.map fun p => if p.1 = k then (p.1, y) else p) (kvs.map fun p => if p.1 = k then (p.1, z) else p) := by
    intro vs kvs h
    induction h with
    | nil => exact .nil
    | @cons p q _ _ r _ ih =>
      refine .cons ?_ ih
      show EntOk G (if p.1 = k then (p.1, y) else p) (if q.1 = k then (q.1, z) else q)
      by_cases c : p.1 = k
      · rw [if_pos c, if_pos (r.1 ▸ c)]; exact ⟨r.1, d, o⟩
      · rw [if_neg c, if_neg (r.1 ▸ c)]; exact r
  have app : ∀ {vs : List (Key × V)} {kvs : List (Key × PyData)}, Paired (EntOk G) vs kvs → Paired (EntOk G) (vs ++ [(k, y)]) (kvs ++ [(k, z)]) := by
    intro vs kvs h
    induction h with
    | nil => exact .cons ⟨rfl, d, o⟩ .nil
    | cons r _ ih => exact .cons r ih
  unfold putK put
  rw [any h]
  split
  · exact repl h
  · exact app h
theorem put_len (kvs : List (Key × PyData)) (k : Key) (v : PyData) : (put kvs k v).length ≤ kvs.length + 1 := by
  unfold put; split <;> simp
theorem setAt_snd {P : Addr → Prop} {y : V} (s : Sub G H) (h : TOk K G H P v t) (k : TOk K G H B u w) (d : Dq G y x) (o : okD x = true) (e : setAt t w x = some t') :
    ∃ l u', v = .ref l ∧ P l ∧ TOk K G (upd H l u') P v t' ∧ ∀ Q : Hp → Prop, Q (upd H l u') → rSetU v u y H Q := by
  unfold setAt at e
  split at e
  · rename_i kvs
    split at e
    · rename_i c
      cases c2 : key? w with
      | none => rw [c2] at e; cases e
      | some key =>
        rw [c2] at e; cases e
        obtain ⟨a, vs, rfl, p, ha, rr, z⟩ := h
        cases key_snd k c2
        have hl := paired_len rr
        have pl := put_len kvs key x
        exact ⟨a, .dK (putK vs key y), rfl, p, ⟨a, _, rfl, p, upd_same, put_snd d o rr, by omega⟩, fun Q q => .inr ⟨a, _, rfl, .k ha (by rw [hl, LINE_eq]; exact c), q⟩⟩
    · cases e
  · rename_i xs
    split at e
    · rename_i i
      cases c : ixN xs.length i with
      | none => rw [c] at e; cases e
      | some j =>
        rw [c] at e; cases e
        cases k.int
        obtain ⟨l, rfl, p, vs, ha, dd, z, oo⟩ := h
        refine ⟨l, .lst (vs.set j y), rfl, p, row_upd p (dd.set d j) (by simpa using z) (okDs_mem.mpr fun q m => ?_), fun Q q => .inl ⟨l, vs, i, j, rfl, rfl, ha, by rw [dd.length]; exact c, q⟩⟩
        rcases List.mem_or_eq_of_mem_set m with m | m
        · exact okDs_mem.mp oo q m
        · rw [m]; exact o
    · cases e
  · cases e
end
end Mv
end
section
set_option Elab.async false
set_option linter.all false
set_option maxHeartbeats 1000000
/-! Mv: the readings of its expressions, and that what Mv says comes true there. -/
namespace Mv
open PySem L2
open Classical

/-- what surrounds a body: the written part, the callees, the classes of errors -/
structure Ctx where
  K : PySem.W.Frag
  C : Orc
  cl : Nat → Value

/-! ### a callee's promise -/
def CPost (c : Ctx) (G H : Hp) (S : Addr → Prop) (vs : List V) (r : CR) (Q : VK) (E : XK) : Prop :=
  match r with
  | .ok t outs => ∀ v G' H' P E', Out c.K G H S (vs.map some) outs G' H' P E' → TOk c.K G' H' P v t → Q v H'
  | .exc x outs => ∀ G' H' E', Out c.K G H S (vs.map some) outs G' H' No E' → E (c.cl x) none H'
  | .bad => False
def spOf (c : Ctx) (f : Nat) : Sp := fun vs H Q E => ∃ G S ts, Wf G H S ∧ vs.length = ts.length ∧ Slots c.K G H S (vs.map some) (ts.map some) ∧ CPost c G H S vs (c.C f ts) Q E

/-! ### readings -/
def vOf : PyData → V
  | .none => .non
  | .bool b => .bl b
  | .int i => .int i
  | .str x => .str x
  | _ => .non
structure Rd where
  e : TE
  t : TT
def tTru (K : PySem.W.Frag) (te : TE) : TT := fun σ H Q => te σ H fun x H' => ∃ k, TruV K x H' k ∧ Q k H'
def Rd.of (c : Ctx) (te : TE) : Rd := ⟨te, tTru c.K te⟩
def rA : List Rd → TA
  | [] => tNil
  | r :: rs => tCons r.e (rA rs)
def gNames : List Nat → TGs
  | [] => gNil
  | i :: is => gCons (gName i) (gNames is)
def rG (K : PySem.W.Frag) : Tg → TG
  | .nm i => gName i
  | .tp is => gTup K is.length (gNames is)
  | .tl is => gLst K is.length (gNames is)
abbrev WF : WX := fun _ _ _ _ => False
def rC : List Rd → TT
  | [] => tYes
  | r :: _ => r.t
def rTys (ts : List Ty) : TA :=
  match ts with
  | [t] => tCons (tC (.ty t.nm)) tNil
  | ts => tCons (tTup (ts.foldr (fun t r => tCons (tC (.ty t.nm)) r) tNil)) tNil
def rIsU (K : PySem.W.Frag) (ts : List Ty) : List V → Hp → VK → Prop :=
  match ts with
  | [_] => rIsi K
  | _ => rIsiT K
def rSt (K : PySem.W.Frag) (m : Mt) (a : TE) (bs : List Rd) : TE :=
  match m, bs with
  | .index, bs => tBM K "list" (rIndexD K) a (rA bs)
  | .join, bs => tBM K "str" (rJoin K) a (rA bs)
  | .get1, [b] => tDGet1 a b.e
  | .get2, [b, d] => tDGet2 a b.e d.e
  | _, _ => fun _ _ _ => False
def rPart : List Rd → TO
  | [] => tNoPart
  | r :: _ => tPart r.e
def rDct (K : PySem.W.Frag) : List V → Hp → VK → Prop := fun xs H Q => ∃ (a : Addr) (ps : List Addr) (kvs : List (Key × V)), xs = [.ref a] ∧ SqL K H a (ps.map V.ref) ∧ Paired (fun p kv => SqT K H p [kV kv.1, kv.2]) ps kvs ∧
  ∀ p, H p = none → Q (.ref p) (upd H p (.dK (mergeK [] kvs)))
section
variable (c : Ctx)
mutual
def rD : WX → Ex → Rd
  | _, .c x => .of c (tC (vOf x))
  | _, .v i => .of c (tVar i)
  | _, .mv i => .of c (tVar i)
  | W, .fz a => .of c (rD W a).e
  | W, .bin o a b => .of c (tOp (rBin c.K o) (rD W a).e (rD W b).e)
  | W, .neg a => .of c (tUn (rU fun i => .int (-i)) (rD W a).e)
  | W, .not a => ⟨tNotT c.K (rD W a).e, tNot (rD W a).t⟩
  | W, .and a b => ⟨tAndV (rD W a).e (rD W b).e, tAnd (rD W a).t (rD W b).t⟩
  | W, .or a b => ⟨tOrV (rD W a).e (rD W b).e, tOr (rD W a).t (rD W b).t⟩
  | W, .cmp o a b => ⟨tOp (rCmp c.K o) (rD W a).e (rD W b).e, tTest (tOp (rCmp c.K o) (rD W a).e (rD W b).e)⟩
  | W, .chn o o' a b d => ⟨tChain (rCmp c.K o) (rCmp c.K o') (rD W a).e (rD W b).e (rD W d).e, tTest (tChain (rCmp c.K o) (rCmp c.K o') (rD W a).e (rD W b).e (rD W d).e)⟩
  | W, .ite d a b => .of c (tIf (rD W d).t (rD W a).e (rD W b).e)
  | W, .lst es => .of c (tLst (rA (rDs W es)))
  | W, .tup es => .of c (tTup (rA (rDs W es)))
  | _, .dnew => .of c tDNewK
  | W, .dct a => .of c (tCB (rDct c.K) (tCons (rD W a).e tNil))
  | W, .comp own t s cs a => .of c (tLc (rS W s) (rG c.K t) (rC (rDs WF cs)) (rD WF a).e own)
  | _, .compo _ _ _ _ => .of c (fun _ _ _ => False)
  | W, .comp2 own own1 t s cs t1 s1 cs1 a => .of c (tLc2 (rS W s) (rG c.K t) (rC (rDs WF cs)) (rS WF s1) (rG c.K t1) (rC (rDs WF cs1)) (rD WF a).e own own1)
  | W, .dcomp own t s k a => .of c (tDc (rS W s) (rG c.K t) tYes (rD WF k).e (rD WF a).e own)
  | _, .uniq _ _ _ _ => .of c (fun _ _ _ => False)
  | W, .ix a i => .of c (tOp (rItem c.K) (rD W a).e (rD W i).e)
  | W, .sl a lo hi => .of c (tSl (rSlice c.K) (rD W a).e (rPart (rDs W lo)) (rPart (rDs W hi)))
  | W, .isi a ts => .of c (tCB (rIsU c.K ts) (tCons (rD W a).e (rTys ts)))
  | W, .fn f es => .of c (tCB (rFn c.K f) (rA (rDs W es)))
  | W, .lrng1 a => .of c (tLstRg (tRg1 (rD W a).e))
  | W, .lrng2 a b => .of c (tLstRg (tRg2 (rD W a).e (rD W b).e))
  | W, .lrev a => .of c (tRevL c.K (rD W a).e)
  | W, .meth m a es => .of c (rSt c.K m (rD W a).e (rDs W es))
  | W, .mu m i es => .of c (tBM c.K "list" (rMu m) (tVar i) (rA (rDs W es)))
  | W, .call f es ds => .of c (tCallSD (spOf c f) (ds.map vOf) (WE W) (rA (rDs W es)))
def rDs : WX → Exs → List Rd
  | _, .nil => []
  | W, .cons a es => rD W a :: rDs W es
def rS : WX → Src → TI
  | W, .seq a => iList c.K (rD W a).e
  | W, .tup a => iTup c.K (rD W a).e
  | W, .str a => iStr (rD W a).e
  | W, .rng1 a => iRng1 (tCons (rD W a).e tNil)
  | W, .rng2 a b => iRng2 (tCons (rD W a).e (tCons (rD W b).e tNil))
  | W, .rev a => iRev c.K (tCons (rD W a).e tNil)
end
end

/-! ### what an evaluation must bring -/
def Post {α β : Type} (c : Ctx) (W : WX) (σ : L2.St) (G H : Hp) (S : Addr → Prop) (Ok : Hp → Hp → (Addr → Prop) → β → α → Prop) (r : R α) (Q : β → Hp → Prop) : Prop :=
  match r with
  | .ok a e => ∀ b G' H' P E, Out c.K G H S σ e G' H' P E → Ok G' H' P b a → Q b H'
  | .exc x e => ∀ G' H' E, Out c.K G H S σ e G' H' No E → W (c.cl x) none σ H'
  | .bad => False
abbrev OkT (c : Ctx) (G H : Hp) (P : Addr → Prop) (v : V) (t : T) : Prop := TOk c.K G H P v t
abbrev OkB (_ _ : Hp) (_ : Addr → Prop) (b k : Bool) : Prop := b = k
abbrev OkDs (G _ : Hp) (_ : Addr → Prop) (vs : List V) (xs : List PyData) : Prop := Dqs G vs xs ∧ okDs xs = true
def OkO (c : Ctx) (σ : L2.St) (G H : Hp) (P : Addr → Prop) (v : V) (x : Opd) : Prop :=
  match x with
  | .r i => σ[i]? = some (some v)
  | .w t => TOk c.K G H P v t
inductive OkOs (c : Ctx) (σ : L2.St) (G H : Hp) : (Addr → Prop) → List V → List Opd → Prop
  | nil {P : Addr → Prop} : OkOs c σ G H P [] []
  | cons {P P1 P2 : Addr → Prop} {v : V} {vs : List V} {x : Opd} {xs : List Opd} : OkO c σ G H P1 v x → OkOs c σ G H P2 vs xs → (∀ a, P1 a → P2 a → False) → (∀ a, P1 a → P a) → (∀ a, P2 a → P a) → OkOs c σ G H P (v :: vs) (x :: xs)
section
variable {c : Ctx} {W : WX} {σ : L2.St} {G H G1 H1 G2 H2 : Hp} {S P P1 P2 E E1 E2 : Addr → Prop} {e e1 e2 : Env} {Q : VK} {t w : T} {v : V}
abbrev Tr : Addr → Prop := fun _ => True
theorem Post.go {α β α2 β2 : Type} {Ok : Hp → Hp → (Addr → Prop) → β → α → Prop} {Ok2 : Hp → Hp → (Addr → Prop) → β2 → α2 → Prop} {r : R α2} {f : α2 → Env → R α} {Q : β → Hp → Prop} {Q2 : β2 → Hp → Prop}
    (x : Out c.K G H S σ e1 G1 H1 P E) (h : Post c W σ G H S Ok (r.bind f) Q)
    (k : ∀ a e2 b G2 H2 P2 E2, Out c.K G1 H1 E σ e2 G2 H2 P2 E2 → Ok2 G2 H2 P2 b a → Post c W σ G H S Ok (f a e2) Q → Q2 b H2) : Post c W σ G1 H1 E Ok2 r Q2 := by
  cases r with
  | ok a e2 => exact fun b G2 H2 P2 E2 y o => k a e2 b G2 H2 P2 E2 y o h
  | exc z e2 => exact fun G2 H2 E2 y => h G2 H2 E2 ((x.trans y).less fun a p => .inr p)
  | bad => exact h
/-- an operation at the end -/
theorem Post.res (x : Out c.K G H S σ e G2 H2 P E) (h : Post c W σ G H S (OkT c) (.ok w e) Q) : Res c.K G2 H2 w Q := fun v G' H' P' g k => h v G' H' P' E (x.grow g) k
theorem Post.lift {o : Option T} (h : Post c W σ G H S (OkT c) (lift o e) Q) : ∃ w, o = some w ∧ Post c W σ G H S (OkT c) (.ok w e) Q := by
  cases o with
  | none => exact h.elim
  | some w => exact ⟨w, rfl, h⟩
theorem OkO.at {x : Opd} (o : OkO c σ G1 H1 P v x) (g : Sub G1 G2) (f : ∀ a o, P a → H1 a = some o → H2 a = some o) (sl : Slots c.K G2 H2 E σ e) (q : x.get e = some t) : TOk c.K G2 H2 Tr v t := by
  cases x with
  | r i => exact (sl.at (get_join q) o).wide fun _ _ => trivial
  | w t' => cases q; exact (o.keep g f).wide fun _ _ => trivial
/-- .. behind a further evaluation -/
theorem OkO.on {x : Opd} (o : OkO c σ G1 H1 P v x) (y : Out c.K G H S σ e1 G1 H1 P E) (z : Out c.K G1 H1 E σ e2 G2 H2 P2 E2) (q : x.get e2 = some t) : TOk c.K G2 H2 Tr v t :=
  o.at z.ext.g (fun a o p h => z.ext.fr a o h fun s => y.dj a p s) z.sl q
theorem OkO.now {x : Opd} (o : OkO c σ G1 H1 P v x) (y : Out c.K G H S σ e1 G1 H1 P E) (q : x.get e1 = some t) : TOk c.K G1 H1 Tr v t :=
  o.at (Sub.refl _) (fun _ _ _ h => h) y.sl q
end

/-- what is shown of an expression -/
structure Snd (c : Ctx) (a : Ex) : Prop where
  v : ∀ (W : WX) (σ : L2.St) (e : Env) (G H : Hp) (S : Addr → Prop) (Q : VK), Wf G H S → Slots c.K G H S σ e → Post c W σ G H S (OkT c) ((den c.C a).v e) Q → (rD c W a).e σ H Q
  o : ∀ (W : WX) (σ : L2.St) (e : Env) (G H : Hp) (S : Addr → Prop) (Q : VK), Wf G H S → Slots c.K G H S σ e → Post c W σ G H S (OkO c σ) ((den c.C a).opd e) Q → (rD c W a).e σ H Q
  t : ∀ (W : WX) (σ : L2.St) (e : Env) (G H : Hp) (S : Addr → Prop) (Q : Bool → Hp → Prop), Wf G H S → Slots c.K G H S σ e → Post c W σ G H S OkB ((den c.C a).b e) Q → (rD c W a).t σ H Q
def SndV (c : Ctx) (f : Env → R T) (te : WX → TE) : Prop :=
  ∀ (W : WX) (σ : L2.St) (e : Env) (G H : Hp) (S : Addr → Prop) (Q : VK), Wf G H S → Slots c.K G H S σ e → Post c W σ G H S (OkT c) (f e) Q → te W σ H Q
theorem snd_o {c : Ctx} {f : Env → R T} {te : WX → TE} (s : SndV c f te) (W : WX) (σ : L2.St) (e : Env) (G H : Hp) (S : Addr → Prop) (Q : VK) (w : Wf G H S) (sl : Slots c.K G H S σ e)
    (h : Post c W σ G H S (OkO c σ) ((f e).bind fun t e => .ok (.w t) e) Q) : te W σ H Q := by
  refine s W σ e G H S Q w sl (Post.go (.start w sl) h fun a e2 b G2 H2 P2 E2 y o k => ?_)
  exact k b G2 H2 P2 E2 y o
theorem snd_t {c : Ctx} {f : Env → R T} {te : WX → TE} (s : SndV c f te) (W : WX) (σ : L2.St) (e : Env) (G H : Hp) (S : Addr → Prop) (Q : Bool → Hp → Prop) (w : Wf G H S) (sl : Slots c.K G H S σ e)
    (h : Post c W σ G H S OkB ((f e).bind fun t e => lift (truth t) e) Q) : tTru c.K (te W) σ H Q := by
  refine s W σ e G H S _ w sl (Post.go (.start w sl) h fun a e2 b G2 H2 P2 E2 y o k => ?_)
  cases q : truth a with
  | none => rw [q] at k; exact k.elim
  | some u =>
    rw [q] at k
    exact ⟨u, truth_snd y.wf.sub o q, k u G2 H2 P2 E2 y rfl⟩
/-- an expression whose test is its truth -/
theorem snd_of {c : Ctx} {a : Ex} {f : Env → R T} {te : WX → TE} (e1 : den c.C a = .of f) (e2 : ∀ W, rD c W a = .of c (te W)) (s : SndV c f te) : Snd c a := by
  refine ⟨fun W σ e G H S Q w sl h => ?_, fun W σ e G H S Q w sl h => ?_, fun W σ e G H S Q w sl h => ?_⟩
  · rw [e2]; rw [e1] at h; exact s W σ e G H S Q w sl h
  · rw [e2]; rw [e1] at h; exact snd_o s W σ e G H S Q w sl h
  · rw [e2]; rw [e1] at h; exact snd_t s W σ e G H S Q w sl h
/-- a comparison: its value is a bool -/
theorem snd_cmp {c : Ctx} {a : Ex} {f : Env → R T} {te : WX → TE} (e1 : den c.C a = .of f) (e2 : ∀ W, rD c W a = ⟨te W, tTest (te W)⟩) (s : SndV c f te) (b : ∀ e t e', f e = .ok t e' → ∃ k, t = .d (.bool k)) : Snd c a := by
  refine ⟨fun W σ e G H S Q w sl h => ?_, fun W σ e G H S Q w sl h => ?_, fun W σ e G H S Q w sl h => ?_⟩
  · rw [e2]; rw [e1] at h; exact s W σ e G H S Q w sl h
  · rw [e2]; rw [e1] at h; exact snd_o s W σ e G H S Q w sl h
  · rw [e2]; rw [e1] at h
    have h' : Post c W σ G H S OkB ((f e).bind fun t e => lift (truth t) e) Q := h
    refine s W σ e G H S _ w sl ?_
    cases q : f e with
    | ok t e' =>
      rw [q] at h'
      obtain ⟨k, rfl⟩ := b _ _ _ q
      intro v G' H' P E y o
      cases o.bl
      exact ⟨k, rfl, h' k G' H' P E y rfl⟩
    | exc x e' => rw [q] at h'; exact h'
    | bad => rw [q] at h'; exact h'

section
variable {c : Ctx} {a b d : Ex}
theorem scal_snd {G H : Hp} {x : PyData} (h : scal x = true) : TOk c.K G H No (vOf x) (.d x) := by
  cases x with
  | none => exact ⟨.non, rfl⟩
  | bool b => exact ⟨.bl b, rfl⟩
  | int i => exact ⟨.int i, rfl⟩
  | str z => exact ⟨.str z, h⟩
  | _ => cases h
theorem snd_c (x : PyData) : Snd c (.c x) := by
  refine snd_of rfl (fun _ => rfl) fun W σ e G H S Q w sl h => ?_
  show Q (vOf x) H
  cases q : scal x with
  | false => simp only [q] at h; exact h.elim
  | true =>
    simp only [q, if_true] at h
    exact h _ G H No S (.start w sl) (scal_snd q)
theorem snd_bad {a : Ex} {te : WX → TE} (e1 : den c.C a = .of fun _ => .bad) (e2 : ∀ W, rD c W a = .of c (te W)) : Snd c a :=
  snd_of e1 e2 fun _ _ _ _ _ _ _ _ _ h => h.elim
theorem snd_v (i : Nat) : Snd c (.v i) := by
  refine ⟨fun W σ e G H S Q w sl h => ?_, fun W σ e G H S Q w sl h => ?_, fun W σ e G H S Q w sl h => ?_⟩
  · have h' : Post c W σ G H S (OkT c) (rd i e) Q := h
    show ∃ v, σ[i]? = some (some v) ∧ Q v H
    unfold rd at h'
    split at h'
    · rename_i t q
      split at h'
      · rename_i x z
        obtain ⟨v, G', E', hv, y, k, _⟩ := (Out.start w sl).frzS (get_join q) z
        exact ⟨v, hv, h' v G' H No E' y k⟩
      · exact h'.elim
    · exact h'.elim
  · have h' : Post c W σ G H S (OkO c σ) (match (e[i]?).join with | some _ => .ok (.r i) e | none => .bad) Q := h
    show ∃ v, σ[i]? = some (some v) ∧ Q v H
    split at h'
    · rename_i t q
      obtain ⟨v, hv, k⟩ := sl.get (get_join q)
      exact ⟨v, hv, h' v G H No S (.start w sl) hv⟩
    · exact h'.elim
  · have h' : Post c W σ G H S OkB (lift ((e[i]?).join.bind truth) e) Q := h
    show ∃ v, σ[i]? = some (some v) ∧ ∃ k, TruV c.K v H k ∧ Q k H
    cases q : (e[i]?).join with
    | none => rw [q] at h'; exact h'.elim
    | some t =>
      rw [q] at h'
      obtain ⟨v, hv, k⟩ := sl.get (get_join q)
      cases z : truth t with
      | none => simp only [Option.bind, z] at h'; exact h'.elim
      | some u =>
        simp only [Option.bind, z] at h'
        exact ⟨v, hv, u, truth_snd w.sub k z, h' u G H No S (.start w sl) rfl⟩

theorem snd_mv (i : Nat) : Snd c (.mv i) := by
  refine snd_of rfl (fun _ => rfl) fun W σ e G H S Q w sl h => ?_
  have h' : Post c W σ G H S (OkT c) (mvo i e) Q := h
  show ∃ v, σ[i]? = some (some v) ∧ Q v H
  unfold mvo at h'
  split at h'
  · rename_i x q
    obtain ⟨v, hv, k⟩ := sl.get (get_join q)
    exact ⟨v, hv, h' v G H No S (.start w sl) ⟨k.1, k.2⟩⟩
  · rename_i t _ q
    obtain ⟨v, P, S', hv, k, s1, s2, dj, sl'⟩ := sl.split (get_join q)
    have w' : Wf G H (fun a => P a ∨ S' a) := w.less fun a z => z.elim (s1 a) (s2 a)
    exact ⟨v, hv, h' v G H P S' ⟨(Ext.refl G H S).less fun a z => z.elim (s1 a) (s2 a), w', dj, sl'⟩ k⟩
  · exact h'.elim
theorem snd_fz (ha : Snd c a) : Snd c (.fz a) := by
  refine snd_of rfl (fun _ => rfl) fun W σ e G H S Q w sl h => ?_
  refine ha.v W σ e G H S Q w sl (Post.go (.start w sl) h fun t e2 v G2 H2 P2 E2 y o k => ?_)
  unfold frzR at k
  cases q : t.frz? with
  | none => rw [q] at k; exact k.elim
  | some x =>
    rw [q] at k
    obtain ⟨G', y', k', _⟩ := y.frzP o q
    exact k v G' H2 No E2 y' k'
theorem snd_op2 (ha : Snd c a) (hb : Snd c b) {f : T → T → Option T} {r : R2}
    (op : ∀ {G H : Hp} {v u : V} {t t' w : T} {Q : VK}, Sub G H → TOk c.K G H Tr v t → TOk c.K G H Tr u t' → f t t' = some w → Res c.K G H w Q → r v u H Q) :
    SndV c (op2 (den c.C a) (den c.C b) f) fun W => tOp r (rD c W a).e (rD c W b).e := by
  intro W σ e G H S Q w sl h
  refine ha.o W σ e G H S _ w sl (Post.go (.start w sl) h fun x e1 v G1 H1 P1 E1 y1 o1 k1 => ?_)
  refine hb.o W σ e1 G1 H1 E1 _ y1.wfE y1.sl (Post.go y1 k1 fun z e2 u G2 H2 P2 E2 y2 o2 k2 => ?_)
  split at k2
  · rename_i t t' q1 q2
    obtain ⟨w', q, k3⟩ := k2.lift
    exact op y2.sub (o1.on y1 y2 q1) (o2.now y2 q2) q (Post.res (y1.trans y2) k3)
  · exact k2.elim
theorem snd_bin (o : BOp) (ha : Snd c a) (hb : Snd c b) : Snd c (.bin o a b) :=
  snd_of rfl (fun _ => rfl) (snd_op2 ha hb fun s h k e r => bin_snd s h k e r)
theorem bl_snd {G H : Hp} {Q : VK} {o : Option Bool} {w : T} (s : Sub G H) (e : bl? o = some w) (r : Res c.K G H w Q) : ∃ k, o = some k ∧ Q (.bl k) H := by
  cases o with
  | none => cases e
  | some k => cases e; exact ⟨k, rfl, r.data s (.bl _) rfl⟩
theorem op2_bl {A B : Dn} {f : T → T → Option Bool} {e e' : Env} {t : T} (h : op2 A B (fun t u => bl? (f t u)) e = .ok t e') : ∃ k, t = .d (.bool k) := by
  unfold op2 at h
  cases q : A.opd e with
  | ok x e1 =>
    rw [q] at h
    cases q2 : B.opd e1 with
    | ok y e2 =>
      simp only [R.bind_ok, q2] at h
      split at h
      · rename_i t u _ _
        cases z : f t u with
        | none => simp [z, bl?] at h
        | some k => simp [z, bl?] at h; exact ⟨k, h.1.symm⟩
      · cases h
    | exc _ _ => simp [q2] at h
    | bad => simp [q2] at h
  | exc _ _ => rw [q] at h; cases h
  | bad => rw [q] at h; cases h
theorem snd_cmpE (o : COp) (ha : Snd c a) (hb : Snd c b) : Snd c (.cmp o a b) := by
  refine snd_cmp (f := op2 (den c.C a) (den c.C b) fun t u => bl? (cmp o t u)) rfl (fun _ => rfl) (snd_op2 ha hb fun s h k e r => ?_) fun e t e' h => op2_bl h
  obtain ⟨k', q, r'⟩ := bl_snd s e r
  exact cmp_snd s h k q r'
theorem snd_ix (ha : Snd c a) (hb : Snd c b) : Snd c (.ix a b) :=
  snd_of rfl (fun _ => rfl) (snd_op2 ha hb fun s h k e r => item_snd s h k e r)
theorem snd_neg (ha : Snd c a) : Snd c (.neg a) := by
  refine snd_of rfl (fun _ => rfl) fun W σ e G H S Q w sl h => ?_
  refine ha.v W σ e G H S _ w sl (Post.go (.start w sl) h fun t e2 v G2 H2 P2 E2 y o k => ?_)
  split at k
  · cases o.int
    exact ⟨_, rfl, k _ G2 H2 No E2 (y.less fun _ z => z.elim) ⟨.int _, rfl⟩⟩
  · exact k.elim
theorem snd_not (ha : Snd c a) : Snd c (.not a) := by
  have sv : SndV c (fun e => ((den c.C a).opd e).bind fun x e => lift (((x.get e).bind truth).map fun k => .d (.bool (!k))) e) fun W => tNotT c.K (rD c W a).e := by
    intro W σ e G H S Q w sl h
    refine ha.o W σ e G H S _ w sl (Post.go (.start w sl) h fun x e2 v G2 H2 P2 E2 y o k => ?_)
    cases q : x.get e2 with
    | none => rw [q] at k; exact k.elim
    | some t =>
      cases z : truth t with
      | none => simp only [q, Option.bind, z] at k; exact k.elim
      | some u =>
        simp only [q, Option.bind, z] at k
        exact ⟨u, truth_snd y.sub (o.now y q) z, k _ G2 H2 No E2 (y.less fun _ z => z.elim) ⟨.bl _, rfl⟩⟩
  refine ⟨fun W σ e G H S Q w sl h => sv W σ e G H S Q w sl h, fun W σ e G H S Q w sl h => snd_o sv W σ e G H S Q w sl h, fun W σ e G H S Q w sl h => ?_⟩
  refine ha.t W σ e G H S _ w sl (Post.go (.start w sl) h fun k e2 b G2 H2 P2 E2 y o z => ?_)
  cases o
  exact z _ G2 H2 P2 E2 y rfl
theorem Post.shift {α β : Type} {W : WX} {σ : L2.St} {G H G1 H1 : Hp} {S P E : Addr → Prop} {e1 : Env} {Ok : Hp → Hp → (Addr → Prop) → β → α → Prop} {r : R α} {Q : β → Hp → Prop}
    (wide : ∀ {G H : Hp} {P P' : Addr → Prop} {b : β} {a : α}, (∀ a, P a → P' a) → Ok G H P b a → Ok G H P' b a)
    (x : Out c.K G H S σ e1 G1 H1 P E) (h : Post c W σ G H S Ok r Q) : Post c W σ G1 H1 E Ok r Q := by
  cases r with
  | ok a e => exact fun b G2 H2 P2 E2 y o => h b G2 H2 (fun a => P a ∨ P2 a) E2 (x.trans y) (wide (fun _ => .inr) o)
  | exc z e => exact fun G2 H2 E2 y => h G2 H2 E2 ((x.trans y).less fun a p => .inr p)
  | bad => exact h
theorem wideT {G H : Hp} {P P' : Addr → Prop} {v : V} {t : T} (s : ∀ a, P a → P' a) (h : OkT c G H P v t) : OkT c G H P' v t := TOk.wide h s
theorem wideB {G H : Hp} {P P' : Addr → Prop} {v : Bool} {t : Bool} (s : ∀ a, P a → P' a) (h : OkB G H P v t) : OkB G H P' v t := h
theorem snd_and (ha : Snd c a) (hb : Snd c b) : Snd c (.and a b) := by
  have sv : SndV c (den c.C (.and a b)).v fun W => tAndV (rD c W a).e (rD c W b).e := by
    intro W σ e G H S Q w sl h
    refine ha.v W σ e G H S _ w sl (Post.go (.start w sl) h fun t e2 v G2 H2 P2 E2 y o k => ?_)
    split at k
    · cases o.bl
      exact ⟨true, rfl, by rw [if_pos rfl]; exact hb.v W σ e2 G2 H2 E2 Q y.wfE y.sl (k.shift wideT y)⟩
    · cases o.bl
      exact ⟨false, rfl, by rw [if_neg Bool.false_ne_true]; exact k _ G2 H2 No E2 (y.less fun _ z => z.elim) ⟨.bl _, rfl⟩⟩
    · exact k.elim
  refine ⟨sv, fun W σ e G H S Q w sl h => snd_o sv W σ e G H S Q w sl h, fun W σ e G H S Q w sl h => ?_⟩
  refine ha.t W σ e G H S _ w sl (Post.go (.start w sl) h fun k e2 b G2 H2 P2 E2 y o z => ?_)
  cases o
  cases k
  · rw [if_neg Bool.false_ne_true] at z ⊢; exact z _ G2 H2 P2 E2 y rfl
  · rw [if_pos rfl] at z ⊢; exact hb.t W σ e2 G2 H2 E2 Q y.wfE y.sl (z.shift wideB y)
theorem snd_or (ha : Snd c a) (hb : Snd c b) : Snd c (.or a b) := by
  have sv : SndV c (den c.C (.or a b)).v fun W => tOrV (rD c W a).e (rD c W b).e := by
    intro W σ e G H S Q w sl h
    refine ha.v W σ e G H S _ w sl (Post.go (.start w sl) h fun t e2 v G2 H2 P2 E2 y o k => ?_)
    split at k
    · cases o.bl
      exact ⟨true, rfl, by rw [if_pos rfl]; exact k _ G2 H2 No E2 (y.less fun _ z => z.elim) ⟨.bl _, rfl⟩⟩
    · cases o.bl
      exact ⟨false, rfl, by rw [if_neg Bool.false_ne_true]; exact hb.v W σ e2 G2 H2 E2 Q y.wfE y.sl (k.shift wideT y)⟩
    · exact k.elim
  refine ⟨sv, fun W σ e G H S Q w sl h => snd_o sv W σ e G H S Q w sl h, fun W σ e G H S Q w sl h => ?_⟩
  refine ha.t W σ e G H S _ w sl (Post.go (.start w sl) h fun k e2 b G2 H2 P2 E2 y o z => ?_)
  cases o
  cases k
  · rw [if_neg Bool.false_ne_true] at z ⊢; exact hb.t W σ e2 G2 H2 E2 Q y.wfE y.sl (z.shift wideB y)
  · rw [if_pos rfl] at z ⊢; exact z _ G2 H2 P2 E2 y rfl
theorem snd_ite (hd : Snd c d) (ha : Snd c a) (hb : Snd c b) : Snd c (.ite d a b) := by
  refine snd_of rfl (fun _ => rfl) fun W σ e G H S Q w sl h => ?_
  refine hd.t W σ e G H S _ w sl (Post.go (.start w sl) h fun k e2 b' G2 H2 P2 E2 y o z => ?_)
  cases o
  cases k
  · rw [if_neg Bool.false_ne_true] at z ⊢; exact hb.v W σ e2 G2 H2 E2 Q y.wfE y.sl (z.shift wideT y)
  · rw [if_pos rfl] at z ⊢; exact ha.v W σ e2 G2 H2 E2 Q y.wfE y.sl (z.shift wideT y)
end
end Mv
end
section
set_option Elab.async false
set_option linter.all false
set_option maxHeartbeats 1000000
/-! Mv: arguments, displays, calls, methods. -/
namespace Mv
open PySem L2
open Classical

def AllS (c : Ctx) : Exs → Prop
  | .nil => True
  | .cons a es => Snd c a ∧ AllS c es
section
variable {c : Ctx} {a b d : Ex}
theorem evs_snd : ∀ {es : Exs}, AllS c es → ∀ (W : WX) (σ : L2.St) (e : Env) (G H : Hp) (S : Addr → Prop) (Q : List V → Hp → Prop), Wf G H S → Slots c.K G H S σ e → Post c W σ G H S OkDs (evs (dens c.C es) e) Q → rA (rDs c W es) σ H Q
  | .nil, _, W, σ, e, G, H, S, Q, w, sl, h => h [] G H No S (.start w sl) ⟨.nil, rfl⟩
  | .cons a es, s, W, σ, e, G, H, S, Q, w, sl, h => by
    refine s.1.v W σ e G H S _ w sl (Post.go (.start w sl) h fun t e2 v G2 H2 P2 E2 y o k => ?_)
    unfold frzR at k
    cases q : t.frz? with
    | none => rw [q] at k; exact k.elim
    | some x =>
      rw [q] at k
      obtain ⟨G', y', k', _⟩ := y.frzP o q
      refine evs_snd s.2 W σ e2 G' H2 E2 _ y'.wfE y'.sl (Post.go y' k fun xs e3 vs G3 H3 P3 E3 y3 o3 k3 => ?_)
      exact k3 (v :: vs) G3 H3 _ E3 (y'.trans y3) ⟨.cons (k'.1.mono y3.ext.g) o3.1, by simp [okDs, k'.2, o3.2]⟩
theorem OkO.wide {σ : L2.St} {G H : Hp} {P P' : Addr → Prop} {v : V} {x : Opd} (h : OkO c σ G H P v x) (s : ∀ a, P a → P' a) : OkO c σ G H P' v x := by
  cases x with
  | r i => exact h
  | w t => exact TOk.wide h s
theorem OkO.keep {σ : L2.St} {G H G' H' : Hp} {P : Addr → Prop} {v : V} {x : Opd} (h : OkO c σ G H P v x) (g : Sub G G') (f : ∀ a o, P a → H a = some o → H' a = some o) : OkO c σ G' H' P v x := by
  cases x with
  | r i => exact h
  | w t => exact TOk.keep h g f
theorem opds_snd : ∀ {es : Exs}, AllS c es → ∀ (W : WX) (σ : L2.St) (e : Env) (G H : Hp) (S : Addr → Prop) (Q : List V → Hp → Prop), Wf G H S → Slots c.K G H S σ e → Post c W σ G H S (OkOs c σ) (opds (dens c.C es) e) Q → rA (rDs c W es) σ H Q
  | .nil, _, W, σ, e, G, H, S, Q, w, sl, h => h [] G H No S (.start w sl) .nil
  | .cons a es, s, W, σ, e, G, H, S, Q, w, sl, h => by
    refine s.1.o W σ e G H S _ w sl (Post.go (.start w sl) h fun x e2 v G2 H2 P2 E2 y o k => ?_)
    refine opds_snd s.2 W σ e2 G2 H2 E2 _ y.wfE y.sl (Post.go y k fun xs e3 vs G3 H3 P3 E3 y3 o3 k3 => ?_)
    exact k3 (v :: vs) G3 H3 _ E3 (y.trans y3) (.cons (o.keep y3.ext.g fun a o p h => y3.ext.fr a o h fun s => y.dj a p s) o3 (y.apart y3) (fun _ => .inl) (fun _ => .inr))
theorem gets_snd {σ : L2.St} {G H : Hp} {P E : Addr → Prop} {e : Env} {vs : List V} {xs : List Opd} (h : OkOs c σ G H P vs xs) (sl : Slots c.K G H E σ e) : ∀ {ts : List T}, gets xs e = some ts → TsOk c.K G H Tr vs ts := by
  induction h with
  | nil => intro ts q; cases q; exact .nil
  | @cons P P1 P2 v vs x xs o _ _ _ _ ih =>
    intro ts q
    simp only [gets] at q
    split at q
    · rename_i t ts' q1 q2
      cases q
      exact .cons (o.at (Sub.refl _) (fun _ _ _ h => h) sl q1) (ih q2)
    · cases q
theorem len_line {xs : List PyData} {vs : List V} {G : Hp} (d : Dqs G vs xs) (z : xs.length ≤ LINE) : vs.length ≤ sizeLine := by rw [d.length, LINE_eq]; exact z
theorem snd_lst {es : Exs} (s : AllS c es) : Snd c (.lst es) := by
  refine snd_of rfl (fun _ => rfl) fun W σ e G H S Q w sl h => ?_
  refine evs_snd s W σ e G H S _ w sl (Post.go (.start w sl) h fun xs e2 vs G2 H2 P2 E2 y o k => ?_)
  split at k
  · rename_i z
    exact ⟨len_line o.1 z, (Post.res y k).list y.sub o.1 z o.2⟩
  · exact k.elim
theorem snd_tup {es : Exs} (s : AllS c es) : Snd c (.tup es) := by
  refine snd_of rfl (fun _ => rfl) fun W σ e G H S Q w sl h => ?_
  refine evs_snd s W σ e G H S _ w sl (Post.go (.start w sl) h fun xs e2 vs G2 H2 P2 E2 y o k => ?_)
  split at k
  · rename_i z
    exact ⟨len_line o.1 z, (Post.res y k).tuple y.sub o.1 (by simp [okD, o.2]; exact z)⟩
  · exact k.elim
theorem snd_dnew : Snd c .dnew := by
  refine snd_of rfl (fun _ => rfl) fun W σ e G H S Q w sl h => ?_
  intro p n
  have r := Post.res (.start w sl) h
  exact r _ _ _ _ (.own w.sub n) ⟨p, [], rfl, rfl, upd_same, .nil, Nat.zero_le _⟩
theorem snd_fn {f : Fn} {es : Exs} (s : AllS c es) : Snd c (.fn f es) := by
  refine snd_of rfl (fun _ => rfl) fun W σ e G H S Q w sl h => ?_
  refine opds_snd s W σ e G H S _ w sl (Post.go (.start w sl) h fun xs e2 vs G2 H2 P2 E2 y o k => ?_)
  obtain ⟨w', q, k3⟩ := k.lift
  cases g : gets xs e2 with
  | none => rw [g] at q; cases q
  | some ts =>
    rw [g] at q
    exact fn_snd y.sub (gets_snd o y.sl g) q (Post.res y k3)
theorem tys_rd {σ : L2.St} {H : Hp} : ∀ (ts : List Ty) {Q : List V → Hp → Prop}, Q (ts.map fun t => V.ty t.nm) H → (ts.foldr (fun t r => tCons (tC (.ty t.nm)) r) tNil) σ H Q
  | [], _, h => h
  | t :: ts, Q, h => tys_rd ts (Q := fun xs H2 => Q (V.ty t.nm :: xs) H2) h
theorem tys_cls : ∀ ts : List Ty, Paired ClsV (ts.map fun t => V.ty t.nm) (ts.map fun t => Value.type t.nm)
  | [] => .nil
  | t :: ts => .cons (.ty _) (tys_cls ts)
theorem snd_isi (ha : Snd c a) (ts : List Ty) : Snd c (.isi a ts) := by
  refine snd_of rfl (fun _ => rfl) fun W σ e G H S Q w sl h0 => ?_
  have h1 : Post c W σ G H S (OkT c) (if ts.length ≤ 16 then ((den c.C a).opd e).bind fun x e => lift ((x.get e).map fun t => .d (.bool (ts.any fun y => isTy y t))) e else .bad) Q := h0
  split at h1
  case isFalse => exact h1.elim
  rename_i l16
  have hl : ts.length ≤ LINE := Nat.le_trans l16 (by decide)
  have h := h1
  refine ha.o W σ e G H S _ w sl (Post.go (.start w sl) h fun x e2 v G2 H2 P2 E2 y o k => ?_)
  obtain ⟨w', q, k3⟩ := k.lift
  cases g : x.get e2 with
  | none => rw [g] at q; cases q
  | some t =>
    rw [g] at q
    have q' : T.d (.bool (ts.any fun y => isTy y t)) = w' := Option.some.inj q
    subst q'
    have many : (tCons (tTup (ts.foldr (fun t r => tCons (tC (.ty t.nm)) r) tNil)) tNil) σ H2 fun xs H3 => rIsiT c.K (v :: xs) H3 Q := by
      refine tys_rd ts ⟨by rw [List.length_map, LINE_eq]; exact hl, fun p n => ?_⟩
      have gr : Grow G2 H2 G2 (upd H2 p (.tup (ts.map fun t => V.ty t.nm))) (· = p) := .own y.sub n
      have r := Post.res (y.grow gr) k3
      obtain ⟨kd, ty, is⟩ := kd_snd (K := c.K) gr.sub ((o.now y g).keep (Sub.refl _) fun a o _ h => gr.h a o h)
      have fin : (ts.any fun y => isTy y t) = ts.any kd.is := by congr; funext y; exact is y
      rw [fin] at r
      exact ⟨v, p, _, _, _, _, rfl, upd_same, tys_cls ts, ty, kitAny_all kd ts, r.data gr.sub (.bl _) rfl⟩
    show (rTys ts) σ H2 fun xs H3 => rIsU c.K ts (v :: xs) H3 Q
    match ts, hl, many, k3 with
    | [z], _, _, k3 =>
      obtain ⟨kd, ty, is⟩ := kd_snd (K := c.K) y.sub (o.now y g)
      have r := Post.res y k3
      refine ⟨v, .ty z.nm, _, _, kd.is z, rfl, .ty _, ty, kit_ty (kit_all kd z), ?_⟩
      have := r.data y.sub (.bl _) rfl
      simpa [is] using this
    | [], _, many, _ => exact many
    | z1 :: z2 :: zs, _, many, _ => exact many
/-! ### slices, ranges, reversed, dict(..) -/
theorem prt_snd {es : Exs} (s : AllS c es) (W : WX) (σ : L2.St) (e : Env) (G H : Hp) (S : Addr → Prop) (Q : Option Int → Hp → Prop) (w : Wf G H S) (sl : Slots c.K G H S σ e)
    (h : Post c W σ G H S (fun _ _ _ (o o' : Option Int) => o = o') (prt (dens c.C es) e) Q) : rPart (rDs c W es) σ H Q := by
  cases es with
  | nil => exact h none G H No S (.start w sl) rfl
  | cons a r =>
    refine s.1.v W σ e G H S _ w sl (Post.go (.start w sl) h fun t e2 v G2 H2 P2 E2 y o k => ?_)
    split at k
    · cases o.int
      exact ⟨_, rfl, k _ G2 H2 P2 E2 y rfl⟩
    · exact k.elim
theorem snd_sl {lo hi : Exs} (ha : Snd c a) (s1 : AllS c lo) (s2 : AllS c hi) : Snd c (.sl a lo hi) := by
  refine snd_of rfl (fun _ => rfl) fun W σ e G H S Q w sl h => ?_
  refine ha.o W σ e G H S _ w sl (Post.go (.start w sl) h fun x e1 v G1 H1 P1 E1 y1 o1 k1 => ?_)
  refine prt_snd s1 W σ e1 G1 H1 E1 _ y1.wfE y1.sl (Post.go y1 k1 fun l e2 l' G2 H2 P2 E2 y2 o2 k2 => ?_)
  refine prt_snd s2 W σ e2 G2 H2 E2 _ y2.wfE y2.sl (Post.go (y1.trans y2) k2 fun u e3 u' G3 H3 P3 E3 y3 o3 k3 => ?_)
  subst o2; subst o3
  obtain ⟨w', q, k4⟩ := k3.lift
  cases g : x.get e3 with
  | none => rw [g] at q; cases q
  | some t =>
    rw [g] at q
    exact slice_snd y3.sub (o1.on y1 ((y2.trans y3)) g) q (Post.res ((y1.trans y2).trans y3) k4)
theorem rng_snd {t t' : T} {xs : List PyData} {G H : Hp} {A B : Addr → Prop} {v u : V} (e : rngI t t' = some xs) (h : TOk c.K G H A v t) (k : TOk c.K G H B u t') :
    ∃ i j, t = .d (.int i) ∧ v = .int i ∧ u = .int j ∧ -(2 ^ 62) ≤ i ∧ i < 2 ^ 62 ∧ -(2 ^ 62) ≤ j ∧ j < 2 ^ 62 ∧ (j - i).toNat ≤ LINE ∧ xs = (List.range (j - i).toNat).map fun (k : Nat) => .int (i + (k : Int)) := by
  unfold rngI at e
  split at e
  · split at e
    · rename_i i j z
      cases e
      exact ⟨i, j, rfl, h.int, k.int, z.1, z.2.1, z.2.2.1, z.2.2.2.1, z.2.2.2.2, rfl⟩
    · cases e
  · cases e
theorem rgV_snd (G : Hp) (i j : Int) : Dqs G (rgV i j) ((List.range (j - i).toNat).map fun (k : Nat) => .int (i + (k : Int))) := by
  unfold rgV
  induction (List.range (j - i).toNat) with
  | nil => exact .nil
  | cons k r ih => exact .cons (.int _) ih
theorem rng_ok (i : Int) : ∀ r : List Nat, okDs (r.map fun (k : Nat) => .int (i + (k : Int))) = true
  | [] => rfl
  | k :: r => by simp [okDs, okD, rng_ok i r]
theorem snd_lrng1 (ha : Snd c a) : Snd c (.lrng1 a) := by
  refine snd_of rfl (fun _ => rfl) fun W σ e G H S Q w sl h => ?_
  refine ha.v W σ e G H S _ w sl (Post.go (.start w sl) h fun t e2 v G2 H2 P2 E2 y o k => ?_)
  obtain ⟨w', q, k4⟩ := k.lift
  cases z : rngI (.d (.int 0)) t with
  | none => rw [z] at q; cases q
  | some xs =>
    rw [z] at q
    have q' : T.l xs = w' := Option.some.inj q
    subst q'
    obtain ⟨i, j, e1, e2', rfl, b1, b2, b3, b4, b5, rfl⟩ := rng_snd z (show TOk c.K G2 H2 Tr (.int 0) (.d (.int 0)) from ⟨.int 0, rfl⟩) o
    cases e1
    refine ⟨j, rfl, ⟨b1, b2, b3, b4, b5⟩, (Post.res y k4).list y.sub (rgV_snd G2 0 j) (by simpa using b5) (rng_ok 0 _)⟩
theorem snd_lrng2 (ha : Snd c a) (hb : Snd c b) : Snd c (.lrng2 a b) := by
  refine snd_of rfl (fun _ => rfl) fun W σ e G H S Q w sl h => ?_
  refine ha.v W σ e G H S _ w sl (Post.go (.start w sl) h fun t e1 v G1 H1 P1 E1 y1 o1 k1 => ?_)
  refine hb.v W σ e1 G1 H1 E1 _ y1.wfE y1.sl (Post.go y1 k1 fun t' e2 u G2 H2 P2 E2 y2 o2 k2 => ?_)
  obtain ⟨w', q, k4⟩ := k2.lift
  cases z : rngI t t' with
  | none => rw [z] at q; cases q
  | some xs =>
    rw [z] at q
    have q' : T.l xs = w' := Option.some.inj q
    subst q'
    obtain ⟨i, j, e1, rfl, rfl, b1, b2, b3, b4, b5, rfl⟩ := rng_snd z (y1.kept y2 o1) o2
    exact ⟨i, j, rfl, rfl, ⟨b1, b2, b3, b4, b5⟩, (Post.res (y1.trans y2) k4).list y2.sub (rgV_snd G2 i j) (by simpa using b5) (rng_ok i _)⟩
theorem snd_lrev (ha : Snd c a) : Snd c (.lrev a) := by
  refine snd_of rfl (fun _ => rfl) fun W σ e G H S Q w sl h => ?_
  refine ha.o W σ e G H S _ w sl (Post.go (.start w sl) h fun x e2 v G2 H2 P2 E2 y o k => ?_)
  obtain ⟨w', q, k3⟩ := k.lift
  cases g : x.get e2 with
  | none => rw [g] at q; cases q
  | some t =>
    cases z : t.list? with
    | none => simp [g, z] at q
    | some xs =>
      simp only [g, Option.bind, z] at q
      have q' : T.l xs.reverse = w' := Option.some.inj q
      subst q'
      obtain ⟨l, vs, rfl, hl, d, zz, oo⟩ := (o.now y g).row y.sub z
      exact ⟨l, vs, rfl, .of hl, (Post.res y k3).list y.sub d.reverse (by simpa using zz) (okDs_sub oo fun y m => by simpa using m)⟩
end
end Mv
end
section
set_option Elab.async false
set_option linter.all false
set_option maxHeartbeats 1000000
/-! Mv: methods, calls, sources, comprehensions. -/
namespace Mv
open PySem L2
open Classical

section
variable {c : Ctx} {a b d : Ex}
theorem merge_snd {G : Hp} : ∀ {ms : List (Key × V)} {ns : List (Key × PyData)} {vs : List (Key × V)} {kvs : List (Key × PyData)}, Paired (EntOk G) ms ns → Paired (EntOk G) vs kvs → Paired (EntOk G) (mergeK vs ms) (ns.foldl (fun a p => put a p.1 p.2) kvs)
  | _, _, _, _, .nil, h => h
  | p :: ms, q :: ns, _, _, .cons r t, h => by
    show Paired (EntOk G) (mergeK (putK _ p.1 p.2) ms) (ns.foldl _ (put _ q.1 q.2))
    rw [r.1]
    exact merge_snd t (put_snd r.2.1 r.2.2 h)
theorem putAll_len : ∀ (ns kvs : List (Key × PyData)), (ns.foldl (fun a p => put a p.1 p.2) kvs).length ≤ kvs.length + ns.length
  | [], _ => Nat.le_refl _
  | q :: ns, kvs => by
    have h1 := putAll_len ns (put kvs q.1 q.2)
    have h2 := put_len kvs q.1 q.2
    simp only [List.foldl_cons, List.length_cons]
    omega
theorem pairs_snd {G H : Hp} {K : PySem.W.Frag} (s : Sub G H) : ∀ {xs : List PyData} {vs : List V} {kvs : List (Key × PyData)}, Dqs G vs xs → okDs xs = true → pairs? xs = some kvs →
    ∃ ps kv, vs = ps.map V.ref ∧ Paired (fun p kv => SqT K H p [kV kv.1, kv.2]) ps kv ∧ Paired (EntOk G) kv kvs ∧ kvs.length = xs.length
  | [], _, _, .nil, _, e => by cases e; exact ⟨[], [], rfl, .nil, .nil, rfl⟩
  | x :: xs, _, kvs, .cons h hs, o, e => by
    unfold pairs? at e
    split at e
    · rename_i heq; cases heq
    · rename_i k v r heq
      cases heq
      split at e
      · rename_i key r' q1 q2
        cases e
        simp only [okDs, okD, Bool.and_eq_true, Bool.and_true] at o
        cases h with
        | tup ha d =>
          cases d with
          | cons hk d => cases d with
            | cons hv d =>
              cases d
              obtain ⟨ps, kv, rfl, h1, h2, h3⟩ := pairs_snd s hs o.2 q2
              have ek := key_snd (K := K) (H := H) (A := Tr) (show TOk K G H Tr _ (.d k) from ⟨hk, o.1.2.1⟩) q1
              subst ek
              exact ⟨_ :: ps, (key, _) :: kv, rfl, .cons (.of (s _ _ ha)) h1, .cons ⟨rfl, hv, o.1.2.2⟩ h2, by simp [h3]⟩
      · cases e
    · cases e
theorem snd_dct (ha : Snd c a) : Snd c (.dct a) := by
  refine snd_of rfl (fun _ => rfl) fun W σ e G H S Q w sl h => ?_
  refine ha.o W σ e G H S _ w sl (Post.go (.start w sl) h fun x e2 v G2 H2 P2 E2 y o k => ?_)
  obtain ⟨w', q, k3⟩ := k.lift
  cases g : x.get e2 with
  | none => rw [g] at q; cases q
  | some t =>
    cases z : t.list? with
    | none => simp [g, z] at q
    | some xs =>
      cases z2 : pairs? xs with
      | none => simp [g, z, z2] at q
      | some kvs =>
        simp only [g, Option.bind, z, z2] at q
        have q' : T.m (putAll kvs) = w' := Option.some.inj q
        subst q'
        obtain ⟨l, vs, rfl, hl, dd, zz, oo⟩ := (o.now y g).row y.sub z
        obtain ⟨ps, kv, rfl, h1, h2, h3⟩ := pairs_snd (K := c.K) y.sub dd oo z2
        refine ⟨l, ps, kv, rfl, .of hl, h1, fun p n => ?_⟩
        have lp := putAll_len kvs []
        exact Post.res y k3 _ _ _ _ (.own y.sub n) ⟨p, _, rfl, rfl, upd_same, merge_snd h2 .nil, by simp only [List.length_nil] at lp; unfold putAll; omega⟩
theorem any_get {x : Option T} {p : T → Bool} (h : x.any p = true) : ∃ t, x = some t ∧ p t = true := by
  cases x with
  | none => cases h
  | some t => exact ⟨t, rfl, h⟩
theorem tyV_list {K : PySem.W.Frag} {G H : Hp} {A : Addr → Prop} {v : V} {t : T} {xs : List PyData} (s : Sub G H) (h : TOk K G H A v t) (e : t.list? = some xs) : tyV K "list" v H := by
  obtain ⟨a, vs, rfl, ha, _⟩ := h.row s e
  exact .inl ⟨rfl, vs, .of ha⟩
theorem isD_snd {K : PySem.W.Frag} {G H : Hp} {A : Addr → Prop} {v : V} {kvs : List (Key × PyData)} (h : TOk K G H A v (.m kvs)) : ∃ a, v = .ref a ∧ IsD H a := by
  obtain ⟨a, vs, rfl, _, ha, _⟩ := h
  exact ⟨a, rfl, .inl ⟨vs, .of ha⟩⟩
theorem dens_len (C : Orc) : ∀ es : Exs, (dens C es).length = 0 → es = .nil
  | .nil, _ => rfl
  | .cons _ _, h => by cases h
theorem snd_meth {m : Mt} {es : Exs} (ha : Snd c a) (s : AllS c es) : Snd c (.meth m a es) := by
  refine snd_of rfl (fun _ => rfl) fun W σ e G H S Q w sl h0 => ?_
  have h1 : Post c W σ G H S (OkT c) (if (dens c.C es).length ≠ m.n then .bad else ((den c.C a).opd e).bind fun x e => if (x.get e).any m.takes = true then (opds (dens c.C es) e).bind fun ys e => match x.get e, gets ys e with
      | some t, some ts => lift (meth m t ts) e
      | _, _ => .bad
    else .bad) Q := h0
  split at h1
  case isTrue => exact h1.elim
  rename_i ln
  have ln : (dens c.C es).length = m.n := Decidable.not_not.mp ln
  have hn : (m = .get1 → ∃ b, es = .cons b .nil) ∧ (m = .get2 → ∃ b d, es = .cons b (.cons d .nil)) := by
    refine ⟨fun q => ?_, fun q => ?_⟩
    · subst q
      cases es with
      | nil => cases ln
      | cons b r => cases dens_len c.C r (Nat.succ.inj ln); exact ⟨b, rfl⟩
    · subst q
      cases es with
      | nil => cases ln
      | cons b r => cases r with
        | nil => cases ln
        | cons d r => cases dens_len c.C r (Nat.succ.inj (Nat.succ.inj ln)); exact ⟨b, d, rfl⟩
  have h := h1
  have plain : ∀ (T : String) (r : V → List V → Hp → VK → Prop), (∀ {G H : Hp} {v : V} {t : Mv.T}, Sub G H → TOk c.K G H Tr v t → m.takes t = true → tyV c.K T v H) →
      (∀ {G H : Hp} {v : V} {us : List V} {t w : Mv.T} {ts : List Mv.T} {Q : VK}, Sub G H → TOk c.K G H Tr v t → TsOk c.K G H Tr us ts → meth m t ts = some w → Res c.K G H w Q → r v us H Q) →
      tBM c.K T r (rD c W a).e (rA (rDs c W es)) σ H Q := by
    intro T r ty op
    refine ha.o W σ e G H S _ w sl (Post.go (.start w sl) h fun x e1 v G1 H1 P1 E1 y1 o1 k1 => ?_)
    split at k1
    · rename_i tk
      obtain ⟨t0, g0, tk⟩ := any_get tk
      refine ⟨ty y1.sub (o1.now y1 g0) tk, opds_snd s W σ e1 G1 H1 E1 _ y1.wfE y1.sl (Post.go y1 k1 fun xs e2 vs G2 H2 P2 E2 y2 o2 k2 => ?_)⟩
      split at k2
      · rename_i t ts g1 g2
        obtain ⟨w', q, k3⟩ := k2.lift
        exact op y2.sub (o1.on y1 y2 g1) (gets_snd o2 y2.sl g2) q (Post.res (y1.trans y2) k3)
      · exact k2.elim
    · exact k1.elim
  cases m with
  | index =>
    refine plain "list" _ (fun s h tk => ?_) fun s h ks e r => index_snd s h ks e r
    unfold Mt.takes at tk
    split at tk
    all_goals first | (cases tk; done) | contradiction | exact tyV_list s h rfl
  | join =>
    refine plain "str" _ (fun s h tk => ?_) fun s h ks e r => join_snd s h ks e r
    unfold Mt.takes at tk
    split at tk
    all_goals first | (cases tk; done) | contradiction | skip
    obtain ⟨rfl, _⟩ := h.str
    rfl
  | get1 =>
    obtain ⟨b, rfl⟩ := hn.1 rfl
    show tDGet1 (rD c W a).e (rD c W b).e σ H Q
    refine ha.o W σ e G H S _ w sl (Post.go (.start w sl) h fun x e1 v G1 H1 P1 E1 y1 o1 k1 => ?_)
    split at k1
    · rename_i tk
      obtain ⟨t0, g0, tk⟩ := any_get tk
      unfold Mt.takes at tk
      split at tk
      all_goals first | (cases tk; done) | contradiction | skip
      obtain ⟨l, rfl, isd⟩ := isD_snd (o1.now y1 g0)
      have k1' : Post c W σ G H S (OkT c) (((den c.C b).opd e1).bind fun z e => match x.get e, gets [z] e with
        | some t, some ts => lift (meth .get1 t ts) e
        | _, _ => .bad) Q := by
        have : (opds (dens c.C (.cons b .nil)) e1) = ((den c.C b).opd e1).bind fun z e => .ok [z] e := rfl
        rw [this] at k1
        cases q : (den c.C b).opd e1 <;> rw [q] at k1 <;> exact k1
      refine ⟨l, rfl, isd, s.1.o W σ e1 G1 H1 E1 _ y1.wfE y1.sl (Post.go y1 k1' fun z e2 u G2 H2 P2 E2 y2 o2 k2 => ?_)⟩
      split at k2
      · rename_i t ts g1 g2
        obtain ⟨w', q, k3⟩ := k2.lift
        obtain ⟨l', u', o', q1, q2, q3, q4⟩ := get1_snd y2.sub (o1.on y1 y2 g1) (gets_snd (.cons o2 (.nil (P := No)) (fun _ _ h => h) (fun _ h => h) (fun _ h => h.elim)) y2.sl g2) q (Post.res (y1.trans y2) k3)
        cases q1; cases q2
        exact ⟨o', q3, q4⟩
      · exact k2.elim
    · exact k1.elim
  | get2 =>
    obtain ⟨b, d, rfl⟩ := hn.2 rfl
    show tDGet2 (rD c W a).e (rD c W b).e (rD c W d).e σ H Q
    refine ha.o W σ e G H S _ w sl (Post.go (.start w sl) h fun x e1 v G1 H1 P1 E1 y1 o1 k1 => ?_)
    split at k1
    · rename_i tk
      obtain ⟨t0, g0, tk⟩ := any_get tk
      unfold Mt.takes at tk
      split at tk
      all_goals first | (cases tk; done) | contradiction | skip
      obtain ⟨l, rfl, isd⟩ := isD_snd (o1.now y1 g0)
      have k1' : Post c W σ G H S (OkT c) (((den c.C b).opd e1).bind fun z e => ((den c.C d).opd e).bind fun z2 e => match x.get e, gets [z, z2] e with
        | some t, some ts => lift (meth .get2 t ts) e
        | _, _ => .bad) Q := by
        have : (opds (dens c.C (.cons b (.cons d .nil))) e1) = ((den c.C b).opd e1).bind fun z e => (((den c.C d).opd e).bind fun z2 e => .ok [z2] e).bind fun zs e => .ok (z :: zs) e := rfl
        rw [this] at k1
        cases q : (den c.C b).opd e1 with
        | ok z e3 =>
          rw [q] at k1
          simp only [R.bind_ok] at k1 ⊢
          cases q2 : (den c.C d).opd e3 <;> rw [q2] at k1 <;> exact k1
        | exc _ _ => rw [q] at k1; exact k1
        | bad => rw [q] at k1; exact k1
      refine ⟨l, rfl, isd, s.1.o W σ e1 G1 H1 E1 _ y1.wfE y1.sl (Post.go y1 k1' fun z e2 u G2 H2 P2 E2 y2 o2 k2 => ?_)⟩
      refine s.2.1.o W σ e2 G2 H2 E2 _ y2.wfE y2.sl (Post.go (y1.trans y2) k2 fun z2 e3 u2 G3 H3 P3 E3 y3 o3 k3 => ?_)
      split at k3
      · rename_i t ts g1 g2
        obtain ⟨w', q, k4⟩ := k3.lift
        have oo : OkOs c σ G3 H3 Tr [u, u2] [z, z2] := by
          refine .cons (P1 := P2) (P2 := P3) (o2.keep y3.ext.g fun a o p h => y3.ext.fr a o h fun s => y2.dj a p s) (.cons o3 (.nil (P := No)) (fun _ _ h => h) (fun _ h => h) (fun _ h => h.elim)) (y2.apart y3) (fun _ _ => trivial) (fun _ _ => trivial)
        obtain ⟨l', u', u3, o', q1, q2, q3, q4⟩ := get2_snd y3.sub (o1.on y1 (y2.trans y3) g1) (gets_snd oo y3.sl g2) q (Post.res ((y1.trans y2).trans y3) k4)
        cases q1; cases q2
        exact ⟨o', q3, q4⟩
      · exact k3.elim
    · exact k1.elim
theorem snd_mu {m : Mu} {i : Nat} {es : Exs} (s : AllS c es) : Snd c (.mu m i es) := by
  refine snd_of rfl (fun _ => rfl) fun W σ e G H S Q w sl h => ?_
  have h' : Post c W σ G H S (OkT c) (if (e[i]?).join.any T.own = true then (opds (dens c.C es) e).bind fun ys e => match gets ys e, (e[i]?).join with
      | some ts, some t => match chg m t ts with
        | some (x, t') => .ok (.d x) (e.set i (some t'))
        | none => .bad
      | _, _ => .bad
    else .bad) Q := h
  split at h'
  · rename_i tk
    obtain ⟨t0, g0, tk⟩ := any_get tk
    obtain ⟨v, hv, k0⟩ := sl.get (get_join g0)
    refine ⟨v, hv, ?_, ?_⟩
    · cases t0 with
      | l xs => exact tyV_list w.sub k0 rfl
      | _ => cases tk
    · refine opds_snd s W σ e G H S _ w sl (Post.go (.start w sl) h' fun xs e1 vs G1 H1 P1 E1 y1 o1 k1 => ?_)
      split at k1
      · rename_i ts t g1 g2
        split at k1
        · rename_i x t' q
          obtain ⟨v', Pi, S', hv', k, s1, s2, dj, sl'⟩ := y1.sl.split (get_join g2)
          rw [hv] at hv'; cases hv'
          obtain ⟨l, vs', u, rfl, pl, dq, ok, tk', fin⟩ := chg_snd y1.sub k (gets_snd o1 y1.sl g1) q
          refine fin Q ?_
          have fr : ∀ a o, ¬ a = l → H1 a = some o → (upd H1 l (.lst vs')) a = some o := fun a o n h => by rw [upd_ne n]; exact h
          have sl2 : Slots c.K G1 (upd H1 l (.lst vs')) E1 σ (e1.set i (some t')) := by
            have sl3 := sl'.keep (Sub.refl G1) (H' := upd H1 l (.lst vs')) fun a o sa h => fr a o (fun z => dj a (z ▸ pl) sa) h
            have := sl3.put (S' := E1) hv tk' s1 s2 dj
            rw [List.set_set] at this
            exact this
          have y2 := y1.write (Pi := (· = l)) (fun a z => .inr (s1 a (z ▸ pl))) fr (fun a z => ⟨.lst vs', by subst z; exact upd_same⟩) sl2
          exact k1 u G1 _ No E1 (y2.less fun _ z => z.elim) ⟨dq, ok⟩
        · exact k1.elim
      · exact k1.elim
  · exact h'.elim

/-! ### calls -/
theorem fetch_snd {σ : L2.St} {G H : Hp} {P : Addr → Prop} {vs : List V} {xs : List Opd} (h : OkOs c σ G H P vs xs) : ∀ {e e2 : Env} {E : Addr → Prop} {ts : List T}, Slots c.K G H E σ e → (∀ a, P a → E a → False) → fetch xs e = some (ts, e2) →
    ∃ A E2, Slots c.K G H A (vs.map some) (ts.map some) ∧ Slots c.K G H E2 σ e2 ∧ (∀ a, A a → P a ∨ E a) ∧ (∀ a, E2 a → E a) ∧ (∀ a, A a → E2 a → False) ∧ vs.length = ts.length := by
  induction h with
  | nil =>
    intro e e2 E ts sl dj q
    cases q
    exact ⟨No, E, .nil, sl, fun _ h => h.elim, fun _ h => h, fun _ h _ => h, rfl⟩
  | @cons P P1 P2 v vs x xs o _ d12 p1 p2 ih =>
    intro e e2 E ts sl dj q
    cases x with
    | w t =>
      simp only [fetch, Option.map_eq_some_iff] at q
      obtain ⟨⟨ts', e3⟩, q, q'⟩ := q
      cases q'
      obtain ⟨A, E2, h1, h2, h3, h4, h5, h6⟩ := ih sl (fun a p => dj a (p2 a p)) q
      refine ⟨fun a => P1 a ∨ A a, E2, .cons (A := P1) (fun t' z => by cases z; exact o) h1 (fun _ => .inl) (fun _ => .inr) (fun a p z => ?_), h2, fun a z => ?_, h4, fun a z w => ?_, by simp [h6]⟩
      · rcases h3 a z with q | q
        · exact d12 a p q
        · exact dj a (p1 a p) q
      · rcases z with z | z
        · exact .inl (p1 a z)
        · exact (h3 a z).imp (p2 a) id
      · rcases z with z | z
        · exact dj a (p1 a z) (h4 a w)
        · exact h5 a z w
    | r i =>
      simp only [fetch] at q
      split at q
      · cases q
      · rename_i x' g
        simp only [Option.map_eq_some_iff] at q
        obtain ⟨⟨ts', e3⟩, q, q'⟩ := q
        cases q'
        obtain ⟨A, E2, h1, h2, h3, h4, h5, h6⟩ := ih sl (fun a p => dj a (p2 a p)) q
        have k := sl.at (get_join g) o
        exact ⟨A, E2, .cons (A := No) (fun t' z => by cases z; exact k) h1 (fun _ z => z.elim) (fun _ z => z) (fun _ z _ => z), h2, fun a z => (h3 a z).imp (p2 a) id, h4, h5, by simp [h6]⟩
      · rename_i t _ g
        simp only [Option.map_eq_some_iff] at q
        obtain ⟨⟨ts', e3⟩, q, q'⟩ := q
        cases q'
        obtain ⟨v', Pi, S', hv, k, s1, s2, dd, sl'⟩ := sl.split (get_join g)
        have : v' = v := by have z : σ[i]? = some (some v) := o; rw [hv] at z; exact Option.some.inj (Option.some.inj z)
        subst this
        obtain ⟨A, E2, h1, h2, h3, h4, h5, h6⟩ := ih sl' (fun a p z => dj a (p2 a p) (s2 a z)) q
        refine ⟨fun a => Pi a ∨ A a, E2, .cons (A := Pi) (fun t' z => by cases z; exact k) h1 (fun _ => .inl) (fun _ => .inr) (fun a p z => ?_), h2, fun a z => ?_, fun a z => s2 a (h4 a z), fun a z w => ?_, by simp [h6]⟩
        · rcases h3 a z with q | q
          · exact dj a (p2 a q) (s1 a p)
          · exact dd a p q
        · rcases z with z | z
          · exact .inr (s1 a z)
          · exact (h3 a z).imp (p2 a) (s2 a)
        · rcases z with z | z
          · exact dd a z (h4 a w)
          · exact h5 a z w
theorem give_snd {σ : L2.St} {G H G' H' : Hp} {P : Addr → Prop} {vs : List V} {xs : List Opd} (h : OkOs c σ G H P vs xs) : ∀ {e : Env} {B E : Addr → Prop} {os : List (Option T)}, Slots c.K G' H' B (vs.map some) os → Slots c.K G' H' E σ e → (∀ a, B a → E a → False) →
    Slots c.K G' H' (fun a => B a ∨ E a) σ (give xs os e) := by
  induction h with
  | nil =>
    intro e B E os _ sl _
    cases os <;> exact sl.wide fun _ => .inr
  | @cons P P1 P2 v vs x xs o _ d12 p1 p2 ih =>
    intro e B E os h sl dj
    cases os with
    | nil => cases x <;> exact sl.wide fun _ => .inr
    | cons o' os =>
      obtain ⟨A, B', k1, k2, s1, s2, dd⟩ := Slots.uncons (σ := vs.map some) h
      cases x with
      | w t => exact (ih k2 sl fun a z => dj a (s2 a z)).wide fun a z => z.imp (s2 a) id
      | r i =>
        show Slots c.K G' H' _ σ (give xs os (match (e[i]?).join with | none => e.set i o' | some _ => e))
        split
        · cases o' with
          | none => exact (ih k2 (sl.less (by simp) fun j t z => (set_get z).elim (fun z => by cases z.2) (fun z => z.2)) fun a z => dj a (s2 a z)).wide fun a z => z.imp (s2 a) id
          | some t =>
            have sl2 : Slots c.K G' H' (fun a => A a ∨ E a) σ (e.set i (some t)) := sl.put o (k1 t rfl) (fun _ => .inl) (fun _ => .inr) fun a p q => dj a (s1 a p) q
            refine (ih k2 sl2 fun a z w => w.elim (fun w => dd a w z) (dj a (s2 a z))).wide fun a z => ?_
            rcases z with z | z | z
            · exact .inl (s2 a z)
            · exact .inl (s1 a z)
            · exact .inr z
        · exact (ih k2 sl fun a z => dj a (s2 a z)).wide fun a z => z.imp (s2 a) id
theorem ds_snd {σ : L2.St} {G H : Hp} {ds : List PyData} (hd : ds.all scal = true) {P : Addr → Prop} {vs : List V} {xs : List Opd} (h : OkOs c σ G H P vs xs) : OkOs c σ G H P (vs ++ ds.map vOf) (xs ++ ds.map fun x => .w (.d x)) := by
  induction h with
  | nil =>
    rename_i P
    induction ds with
    | nil => exact .nil
    | cons x r ih =>
      simp only [List.all_cons, Bool.and_eq_true] at hd
      exact .cons (P1 := No) (P2 := P) (show OkO c σ G H No (vOf x) (.w (.d x)) from scal_snd (c := c) (H := H) hd.1) (ih hd.2) (fun _ h _ => h) (fun _ h => h.elim) (fun _ h => h)
  | cons o _ d p1 p2 ih => exact .cons o ih d p1 p2
theorem snd_call {f : Nat} {es : Exs} {ds : List PyData} (s : AllS c es) : Snd c (.call f es ds) := by
  refine snd_of rfl (fun _ => rfl) fun W σ e G H S Q w sl h => ?_
  have h' : Post c W σ G H S (OkT c) (if ds.all scal = true then (opds (dens c.C es) e).bind fun xs e => callR c.C f (xs ++ ds.map fun x => .w (.d x)) e else .bad) Q := h
  split at h'
  · rename_i hd
    refine opds_snd s W σ e G H S _ w sl (Post.go (.start w sl) h' fun xs e1 vs G1 H1 P1 E1 y1 o1 k1 => ?_)
    have o2 := ds_snd hd o1
    unfold callR at k1
    cases q : fetch (xs ++ ds.map fun x => .w (.d x)) e1 with
    | none => rw [q] at k1; exact k1.elim
    | some p =>
      obtain ⟨ts, e2⟩ := p
      rw [q] at k1
      obtain ⟨A, E2, h1, h2, h3, h4, h5, h6⟩ := fetch_snd o2 y1.sl y1.dj q
      have both : ∀ a, E2 a ∨ A a → P1 a ∨ E1 a := fun a z => z.elim (fun z => .inr (h4 a z)) (h3 a)
      have x' : Out c.K G H S ((vs ++ ds.map vOf).map some) (ts.map some) G1 H1 E2 A := ⟨y1.ext.less both, y1.wf.less both, fun a p q => h5 a q p, h1⟩
      refine ⟨G1, A, ts, x'.wfE, h6, h1, ?_⟩
      have k1' : Post c W σ G H S (OkT c) (match c.C f ts with | .ok t outs => .ok t (give (xs ++ ds.map fun x => .w (.d x)) outs e2) | .exc x outs => .exc x (give (xs ++ ds.map fun x => .w (.d x)) outs e2) | .bad => .bad) Q := k1
      unfold CPost
      have fin : ∀ {outs : List (Option T)} {G' H' : Hp} {P' E' : Addr → Prop}, Out c.K G1 H1 A ((vs ++ ds.map vOf).map some) outs G' H' P' E' → Out c.K G H S σ (give (xs ++ ds.map fun x => .w (.d x)) outs e2) G' H' P' fun a => E' a ∨ E2 a := by
        intro outs G' H' P' E' z
        have t := x'.trans z
        have re : ∀ a, (P' a ∨ E' a ∨ E2 a) → ((E2 a ∨ P' a) ∨ E' a) := fun a z => by
          rcases z with z | z | z
          · exact .inl (.inr z)
          · exact .inr z
          · exact .inl (.inl z)
        have keep2 : Slots c.K G' H' E2 σ e2 := h2.keep z.ext.g fun a o s k => z.ext.fr a o k fun q => h5 a q s
        exact ⟨t.ext.less re, t.wf.less re, fun a p q => q.elim (z.dj a p) fun q => x'.apart z a q p, give_snd o2 z.sl keep2 fun a p q => t.dj a (.inl q) p⟩
      cases r : c.C f ts with
      | ok t outs =>
        rw [r] at k1'
        intro v G' H' P' E' z k
        exact k1' v G' H' P' _ (fin z) k
      | exc x outs =>
        rw [r] at k1'
        intro G' H' E' z
        exact k1' G' H' _ (fin z)
      | bad => rw [r] at k1'; exact k1'.elim
  · exact h'.elim
end
end Mv
end
section
set_option Elab.async false
set_option linter.all false
set_option maxHeartbeats 1000000
/-! Mv: what a loop walks, targets, comprehensions. -/
namespace Mv
open PySem L2
open Classical

/-- J walks the items xs, data of G -/
structure Wk (G : Hp) (J : It) (xs : List PyData) : Prop where
  go : ∀ i H, Sub G H → i < xs.length → J.go i H
  yl : ∀ i H x H', Sub G H → i < xs.length → J.yld i H x H' → H' = H ∧ ∃ d, xs[i]? = some d ∧ Dq G x d
  st : ∀ i H, Sub G H → xs.length ≤ i → J.stop i H
theorem Wk.mono {G G' : Hp} {J : It} {xs : List PyData} (h : Wk G J xs) (g : Sub G G') : Wk G' J xs :=
  ⟨fun i H s => h.go i H (g.trans s), fun i H x H' s l y => (h.yl i H x H' (g.trans s) l y).imp id fun ⟨d, a, b⟩ => ⟨d, a, b.mono g⟩, fun i H s => h.st i H (g.trans s)⟩
theorem wk_list {K : PySem.W.Frag} {G : Hp} {a : Addr} {vs : List V} {xs : List PyData} (h : G a = some (.lst vs)) (d : Dqs G vs xs) : Wk G (Itl K a) xs where
  go := fun i H s l => by
    obtain ⟨v, e, _⟩ := d.get (List.getElem?_eq_getElem l)
    exact ⟨vs, v, .of (s _ _ h), e⟩
  yl := fun i H x H' s _ ⟨e, y⟩ => by
    obtain ⟨z, e1, e2⟩ := d.getV (y vs (.of (s _ _ h)))
    exact ⟨e, z, e1, e2⟩
  st := fun i H s l => ⟨vs, .of (s _ _ h), by rw [d.length]; exact l⟩
theorem wk_tup {K : PySem.W.Frag} {G : Hp} {a : Addr} {vs : List V} {xs : List PyData} (h : G a = some (.tup vs)) (d : Dqs G vs xs) : Wk G (Itt K a) xs where
  go := fun i H s l => by
    obtain ⟨v, e, _⟩ := d.get (List.getElem?_eq_getElem l)
    exact ⟨vs, v, .of (s _ _ h), e⟩
  yl := fun i H x H' s _ ⟨e, y⟩ => by
    obtain ⟨z, e1, e2⟩ := d.getV (y vs (.of (s _ _ h)))
    exact ⟨e, z, e1, e2⟩
  st := fun i H s l => ⟨vs, .of (s _ _ h), by rw [d.length]; exact l⟩
theorem wk_str (G : Hp) (z : Str) : Wk G (Its z) (chars z) where
  go := fun i H _ l => show i < z.cps.size by simpa [chars] using l
  yl := fun i H x H' _ _ ⟨e, c, y, z'⟩ => by
    subst z'
    refine ⟨e, .str ⟨#[c]⟩, ?_, .str _⟩
    simp [chars, y]
  st := fun i H _ l => show z.cps.size ≤ i by simpa [chars] using l
theorem wk_rng (G : Hp) (i : Int) (n : Nat) : Wk G (Itr i n) ((List.range n).map fun (k : Nat) => .int (i + (k : Int))) where
  go := fun j H _ l => show j < n by simpa using l
  yl := fun j H x H' _ l ⟨e, y⟩ => by
    subst y
    have l' : j < n := by simpa using l
    exact ⟨e, .int (i + (j : Int)), by simp [List.getElem?_map, List.getElem?_range l'], .int _⟩
  st := fun j H _ l => show n ≤ j by simpa using l
theorem wk_rev {K : PySem.W.Frag} {G : Hp} {a : Addr} {vs : List V} {xs : List PyData} (h : G a = some (.lst vs)) (d : Dqs G vs xs) : Wk G (Itv K a vs.length) xs.reverse where
  go := fun i H s l => by
    have l' : i < vs.length := by rw [d.length]; simpa using l
    exact ⟨l', vs, vs[vs.length - 1 - i], .of (s _ _ h), List.getElem?_eq_getElem _⟩
  yl := fun i H x H' s l ⟨e, y⟩ => by
    obtain ⟨z, e1, e2⟩ := d.getV (y vs (.of (s _ _ h)))
    have l' : i < xs.length := by simpa using l
    exact ⟨e, z, by rw [List.getElem?_reverse l', ← d.length]; exact e1, e2⟩
  st := fun i H s l => show vs.length ≤ i by rw [d.length]; simpa using l

section
variable {c : Ctx} {a b d : Ex}
def SndR (c : Ctx) (s : Src) : Prop := ∀ (W : WX) (σ : L2.St) (e : Env) (G H : Hp) (S : Addr → Prop) (R : It → Hp → Prop), Wf G H S → Slots c.K G H S σ e →
  Post c W σ G H S (fun G _ _ (J : It) (xs : List PyData) => Wk G J xs ∧ okDs xs = true ∧ xs.length ≤ LINE) (srcs c.C s e) R → rS c W s σ H R
/-- a list taken to be walked: it never changes again -/
theorem list_frz {K : PySem.W.Frag} {G H G0 H0 : Hp} {S P E : Addr → Prop} {σ : L2.St} {e : Env} {v : V} {t : T} {xs : List PyData} (y : Out K G0 H0 S σ e G H P E) (o : TOk K G H P v t) (q : t.list? = some xs) :
    ∃ G' l vs, Out K G0 H0 S σ e G' H No E ∧ v = .ref l ∧ G' l = some (.lst vs) ∧ Dqs G' vs xs ∧ xs.length ≤ LINE ∧ okDs xs = true := by
  have z : t.frz? = some (.list xs) := by
    cases t with
    | d x => cases x <;> simp [T.list?] at q; subst q; rfl
    | l ys => simp [T.list?] at q; subst q; rfl
    | _ => simp [T.list?] at q
  obtain ⟨G', y', k, _⟩ := y.frzP o z
  obtain ⟨k1, k2⟩ := k
  simp only [okD, Bool.and_eq_true, decide_eq_true_eq] at k2
  cases k1 with
  | lst h d => exact ⟨G', _, _, y', rfl, h, d, k2.1, k2.2⟩
theorem snr_seq (ha : Snd c a) : SndR c (.seq a) := by
  intro W σ e G H S R w sl h
  refine ha.v W σ e G H S _ w sl (Post.go (.start w sl) h fun t e2 v G2 H2 P2 E2 y o k => ?_)
  cases q : t.list? with
  | none => rw [q] at k; exact k.elim
  | some xs =>
    rw [q] at k
    obtain ⟨G', l, vs, y', rfl, hl, d, z, oo⟩ := list_frz y o q
    exact ⟨l, rfl, ⟨vs, .of (y'.sub _ _ hl)⟩, k _ G' H2 No E2 y' ⟨wk_list hl d, oo, z⟩⟩
theorem snr_tup (ha : Snd c a) : SndR c (.tup a) := by
  intro W σ e G H S R w sl h
  refine ha.v W σ e G H S _ w sl (Post.go (.start w sl) h fun t e2 v G2 H2 P2 E2 y o k => ?_)
  split at k
  · obtain ⟨l, vs, rfl, gl, hl, d, z, oo⟩ := o.tup y.sub
    exact ⟨l, rfl, ⟨vs, .of hl⟩, k _ G2 H2 P2 E2 y ⟨wk_tup gl d, oo, z⟩⟩
  · exact k.elim
theorem chars_ok {z : Str} (h : PyData.strOk z = true) : okDs (chars z) = true := by
  refine okDs_mem.mpr fun y m => ?_
  obtain ⟨c, m', rfl⟩ := List.mem_map.mp m
  exact one_ok h m'
theorem snr_str (ha : Snd c a) : SndR c (.str a) := by
  intro W σ e G H S R w sl h
  refine ha.v W σ e G H S _ w sl (Post.go (.start w sl) h fun t e2 v G2 H2 P2 E2 y o k => ?_)
  split at k
  · rename_i z
    obtain ⟨rfl, z1, z2⟩ := o.str
    exact ⟨z, rfl, k _ G2 H2 P2 E2 y ⟨wk_str G2 z, chars_ok z1, by have z3 : z.cps.size ≤ LINE := z2; simpa [chars] using z3⟩⟩
  · exact k.elim
theorem snr_rng1 (ha : Snd c a) : SndR c (.rng1 a) := by
  intro W σ e G H S R w sl h
  refine ha.v W σ e G H S _ w sl (Post.go (.start w sl) h fun t e2 v G2 H2 P2 E2 y o k => ?_)
  cases q : rngI (.d (.int 0)) t with
  | none => rw [q] at k; exact k.elim
  | some xs =>
    rw [q] at k
    obtain ⟨i, j, e1, e2', rfl, b1, b2, b3, b4, b5, rfl⟩ := rng_snd q (show TOk c.K G2 H2 Tr (.int 0) (.d (.int 0)) from ⟨.int 0, rfl⟩) o
    cases e1
    refine ⟨j, rfl, b3, b4, ?_⟩
    have e0 : (j - 0).toNat = j.toNat := by omega
    rw [e0] at k b5
    exact k _ G2 H2 P2 E2 y ⟨wk_rng G2 0 j.toNat, rng_ok 0 _, by simpa using b5⟩
theorem snr_rng2 (ha : Snd c a) (hb : Snd c b) : SndR c (.rng2 a b) := by
  intro W σ e G H S R w sl h
  refine ha.v W σ e G H S _ w sl (Post.go (.start w sl) h fun t e1 v G1 H1 P1 E1 y1 o1 k1 => ?_)
  refine hb.v W σ e1 G1 H1 E1 _ y1.wfE y1.sl (Post.go y1 k1 fun t' e2 u G2 H2 P2 E2 y2 o2 k2 => ?_)
  cases q : rngI t t' with
  | none => rw [q] at k2; exact k2.elim
  | some xs =>
    rw [q] at k2
    obtain ⟨i, j, e1, rfl, rfl, b1, b2, b3, b4, b5, rfl⟩ := rng_snd q (y1.kept y2 o1) o2
    exact ⟨i, j, rfl, ⟨b1, b2, b3, b4⟩, k2 _ G2 H2 _ E2 (y1.trans y2) ⟨wk_rng G2 i _, rng_ok i _, by simpa using b5⟩⟩
theorem snr_rev (ha : Snd c a) : SndR c (.rev a) := by
  intro W σ e G H S R w sl h
  refine ha.v W σ e G H S _ w sl (Post.go (.start w sl) h fun t e2 v G2 H2 P2 E2 y o k => ?_)
  cases q : t.list? with
  | none => rw [q] at k; exact k.elim
  | some xs =>
    rw [q] at k
    obtain ⟨G', l, vs, y', rfl, hl, d, z, oo⟩ := list_frz y o q
    exact ⟨l, vs, rfl, .of (y'.sub _ _ hl), k _ G' H2 No E2 y' ⟨wk_rev hl d, okDs_sub oo fun y m => by simpa using m, by simpa using z⟩⟩
/-! ### targets -/
def Tg.on : Tg → List Nat
  | .nm i => [i]
  | .tp is => is
  | .tl is => is
/-- the slots but those at is are as they were -/
structure Keep (is : List Nat) (σ σ' : L2.St) : Prop where
  len : σ'.length = σ.length
  at_ : ∀ j, j ∉ is → σ'[j]? = σ[j]?
theorem Keep.refl (is : List Nat) (σ : L2.St) : Keep is σ σ := ⟨rfl, fun _ _ => rfl⟩
theorem Keep.trans {is js : List Nat} {σ σ1 σ2 : L2.St} (a : Keep is σ σ1) (b : Keep js σ1 σ2) : Keep (is ++ js) σ σ2 :=
  ⟨b.len.trans a.len, fun j n => (b.at_ j fun m => n (by simp [m])).trans (a.at_ j fun m => n (by simp [m]))⟩
theorem Keep.wide {is js : List Nat} {σ σ1 : L2.St} (a : Keep is σ σ1) (s : ∀ i ∈ is, i ∈ js) : Keep js σ σ1 := ⟨a.len, fun j n => a.at_ j fun m => n (s j m)⟩
theorem keep_set (σ : L2.St) (i : Nat) (o : Option V) : Keep [i] σ (σ.set i o) := ⟨by simp, fun j n => by rw [List.getElem?_set_ne]; intro q; exact n (by simp [q])⟩
theorem bind1_snd {K : PySem.W.Frag} {G H : Hp} {E : Addr → Prop} {σ : L2.St} {e : Env} {i : Nat} {x : PyData} {v : V} (sl : Slots K G H E σ e) (d : Dq G v x) (o : okD x = true) : Slots K G H E (σ.set i (some v)) (bind1 i x e) :=
  sl.store (P := No) (t := .d x) ⟨d, o⟩ (fun _ h => h.elim) (fun _ h => h) fun _ h _ => h
theorem bindN_snd {K : PySem.W.Frag} {G H : Hp} {E : Addr → Prop} {Q : L2.St → Hp → Prop} : ∀ {is : List Nat} {xs : List PyData} {vs : List V} {σ : L2.St} {e e' : Env}, Slots K G H E σ e → Dqs G vs xs → okDs xs = true → bindN is xs e = some e' →
    (∀ σ', Slots K G H E σ' e' → Keep is σ σ' → Q σ' H) → gNames is vs σ H Q
  | [], [], _, σ, e, e', sl, .nil, _, q, k => by cases q; exact ⟨rfl, k σ sl (.refl _ _)⟩
  | i :: is, x :: xs, _, σ, e, e', sl, .cons h hs, o, q, k => by
    simp only [okDs, Bool.and_eq_true] at o
    exact ⟨_, _, rfl, bindN_snd (bind1_snd (i := i) sl h o.1) hs o.2 q fun σ' s' kp => k σ' s' ((keep_set σ i _).trans kp)⟩
  | [], _ :: _, _, _, _, _, _, _, _, q, _ => by cases q
  | _ :: _, [], _, _, _, _, _, _, _, q, _ => by cases q
theorem bindN_len : ∀ {is : List Nat} {xs : List PyData} {e e' : Env}, bindN is xs e = some e' → xs.length = is.length
  | [], [], _, _, _ => rfl
  | i :: is, x :: xs, e, e', q => congrArg (· + 1) (bindN_len (e := bind1 i x e) q)
  | [], _ :: _, _, _, q => by cases q
  | _ :: _, [], _, _, q => by cases q
theorem bind_snd {K : PySem.W.Frag} {G H : Hp} {E : Addr → Prop} {Q : L2.St → Hp → Prop} {t : Tg} {x : PyData} {v : V} {σ : L2.St} {e e' : Env} (s : Sub G H) (sl : Slots K G H E σ e) (d : Dq G v x) (o : okD x = true) (q : bindT t x e = some e')
    (k : ∀ σ', Slots K G H E σ' e' → Keep t.on σ σ' → Q σ' H) : rG K t v σ H Q := by
  cases t with
  | nm i => cases q; exact k _ (bind1_snd sl d o) (keep_set σ i _)
  | tp is =>
    cases d with
    | tup h ds =>
      simp only [okD, Bool.and_eq_true] at o
      exact ⟨_, _, rfl, .of (s _ _ h), by rw [ds.length]; exact bindN_len q, bindN_snd sl ds o.2 q k⟩
    | _ => cases q
  | tl is =>
    cases d with
    | lst h ds =>
      simp only [okD, Bool.and_eq_true] at o
      exact ⟨_, _, rfl, .of (s _ _ h), by rw [ds.length]; exact bindN_len q, bindN_snd sl ds o.2 q k⟩
    | _ => cases q
theorem within_on {own : List Nat} {t : Tg} (h : t.within own = true) : ∀ i ∈ t.on, i ∈ own := by
  cases t with
  | nm i => intro j m; simp only [Tg.on, List.mem_singleton] at m; subst m; simpa [Tg.within] using h
  | tp is => intro j m; simpa using List.all_eq_true.mp h j m
  | tl is => intro j m; simpa using List.all_eq_true.mp h j m
end
end Mv
end
section
set_option Elab.async false
set_option linter.all false
set_option maxHeartbeats 2000000
/-! Mv: comprehensions. -/
namespace Mv
open PySem L2
open Classical

section
variable {c : Ctx} {a b d : Ex}
/-- the tests of a comprehension -/
theorem conds_snd : ∀ {es : Exs}, AllS c es → ∀ (W : WX) (σ : L2.St) (e : Env) (G H : Hp) (S : Addr → Prop) (Q : Bool → Hp → Prop), Wf G H S → Slots c.K G H S σ e → Post c W σ G H S OkB (conds (dens c.C es) e) Q → rC (rDs c W es) σ H Q
  | .nil, _, W, σ, e, G, H, S, Q, w, sl, h => h true G H No S (.start w sl) rfl
  | .cons a es, s, W, σ, e, G, H, S, Q, w, sl, h => s.1.t W σ e G H S Q w sl h
/-- one turn that went well -/
theorem turns_cons {own : List Nat} {t : Tg} {cond : Env → R Bool} {body : Env → R (List PyData)} {x : PyData} {xs : List PyData} {e : Env} {acc ys : List PyData} {ef : Env} (h : turns own t cond body (x :: xs) e acc = .ok ys ef) :
    ∃ e1 k e2, bindT t x (hide own e) = some e1 ∧ cond e1 = .ok k e2 ∧ (k = true → ∃ zs e3, body e2 = .ok zs e3 ∧ turns own t cond body xs e3 (acc ++ zs) = .ok ys ef) ∧ (k = false → turns own t cond body xs e2 acc = .ok ys ef) := by
  simp only [turns] at h
  cases q : bindT t x (hide own e) with
  | none => rw [q] at h; cases h
  | some e1 =>
    rw [q] at h
    cases q2 : cond e1 with
    | ok k e2 =>
      simp only [q2] at h
      cases k with
      | true =>
        simp only at h
        cases q3 : body e2 with
        | ok zs e3 => simp only [q3] at h; exact ⟨e1, true, e2, rfl, q2, (fun _ => ⟨zs, e3, q3, h⟩), fun z => Bool.noConfusion z⟩
        | exc _ _ => simp [q3] at h
        | bad => simp [q3] at h
      | false => exact ⟨e1, false, e2, rfl, q2, (fun z => Bool.noConfusion z), fun _ => h⟩
    | exc _ _ => simp [q2] at h
    | bad => simp [q2] at h
theorem turns_len {own : List Nat} {t : Tg} {cond : Env → R Bool} {body : Env → R (List PyData)} : ∀ {xs : List PyData} {e : Env} {acc ys : List PyData} {ef : Env}, turns own t cond body xs e acc = .ok ys ef → acc.length ≤ ys.length
  | [], e, acc, ys, ef, h => by cases h; exact Nat.le_refl _
  | x :: xs, e, acc, ys, ef, h => by
    obtain ⟨e1, k, e2, _, _, h1, h2⟩ := turns_cons h
    cases k with
    | true =>
      obtain ⟨zs, e3, _, h3⟩ := h1 rfl
      have := turns_len h3
      simp only [List.length_append] at this; omega
    | false => exact turns_len (h2 rfl)
theorem one_ok' {D : Dn} {e e3 : Env} {zs : List PyData} (h : one D e = .ok zs e3) : ∃ t x, D.v e = .ok t e3 ∧ t.frz? = some x ∧ zs = [x] := by
  unfold one at h
  cases q : D.v e with
  | ok t e' =>
    rw [q] at h
    cases q2 : t.frz? with
    | none => simp [frzR, q2] at h
    | some x => simp [frzR, q2] at h; exact ⟨t, x, by rw [h.2], q2, h.1.symm⟩
  | exc _ _ => rw [q] at h; cases h
  | bad => rw [q] at h; cases h
/-- the state between two turns of a comprehension whose list grows at D -/
structure Mid (c : Ctx) (σ : L2.St) (own : List Nat) (G0 H0 : Hp) (S : Addr → Prop) (D : Addr) (G H : Hp) (E : Addr → Prop) (e : Env) (acc : List PyData) : Prop where
  out : Out c.K G0 H0 S (wipe σ own) (hide own e) G H (· = D) E
  row : ∃ vs, H D = some (.lst vs) ∧ Dqs G vs acc
  ok : okDs acc = true
/-- a further evaluation in the block, from σ2 on -/
theorem Mid.to {σ σ2 σ' : L2.St} {own own' : List Nat} {G0 H0 G H G2 H2 : Hp} {S E E2 : Addr → Prop} {D : Addr} {e e2 : Env} {acc : List PyData} (m : Mid c σ own G0 H0 S D G H E e acc) (y : Out c.K G H E σ2 e2 G2 H2 No E2) (w : wipe σ2 own' = wipe σ' own') : Mid c σ' own' G0 H0 S D G2 H2 E2 e2 acc := by
  obtain ⟨vs, h, d⟩ := m.row
  have t := (m.out.trans y).less (P1 := (· = D)) fun a z => .inl z
  have sl := y.sl.hid own'
  rw [w] at sl
  exact ⟨⟨t.ext, t.wf, t.dj, sl⟩, ⟨vs, y.ext.fr D _ h fun z => m.out.dj D rfl z, d.mono y.ext.g⟩, m.ok⟩
theorem Mid.step {σ σ2 : L2.St} {own : List Nat} {G0 H0 G H G2 H2 : Hp} {S E E2 : Addr → Prop} {D : Addr} {e e2 : Env} {acc : List PyData} (m : Mid c σ own G0 H0 S D G H E e acc) (y : Out c.K G H E σ2 e2 G2 H2 No E2) (w : wipe σ2 own = wipe σ own) : Mid c σ own G0 H0 S D G2 H2 E2 e2 acc := m.to y w
theorem Mid.reown {σ σ2 : L2.St} {own own1 : List Nat} {G0 H0 G H : Hp} {S E : Addr → Prop} {D : Addr} {e : Env} {acc : List PyData} (m : Mid c σ2 own1 G0 H0 S D G H E e acc) (s : ∀ i ∈ own1, i ∈ own) (w : wipe σ2 own = wipe σ own) : Mid c σ own G0 H0 S D G H E e acc := by
  have w2 : wipe (wipe σ2 own1) own = wipe σ own := by
    rw [← w]
    exact wipe_eq (wipe_length _ _) fun j n => wipe_off fun q => n (s j q)
  have sl := m.out.sl.hid own
  rw [w2] at sl
  refine ⟨⟨m.out.ext, m.out.wf, m.out.dj, sl.less (by simp only [hide_len]; exact Nat.le_refl _) fun i t q => ?_⟩, m.row, m.ok⟩
  obtain ⟨n, q⟩ := hide_get q
  rw [hide_out n, hide_out fun z => n (s i z)]
  exact q
/-- .. and one more item -/
theorem Mid.push {σ : L2.St} {own : List Nat} {G0 H0 G H : Hp} {S E : Addr → Prop} {D : Addr} {e : Env} {acc : List PyData} (m : Mid c σ own G0 H0 S D G H E e acc) {v : V} {x : PyData} (h : Dq G v x) (o : okD x = true) :
    ∃ vs, H D = some (.lst vs) ∧ vs.length = acc.length ∧ Mid c σ own G0 H0 S D G (upd H D (.lst (vs ++ [v]))) E e (acc ++ [x]) := by
  obtain ⟨vs, hd, d⟩ := m.row
  refine ⟨vs, hd, d.length, ?_, ⟨_, upd_same, d.append (.one h)⟩, by simp [okDs_append, m.ok, okDs, o]⟩
  have fr : ∀ a o, ¬ a = D → H a = some o → (upd H D (.lst (vs ++ [v]))) a = some o := fun a o n h => by rw [upd_ne n]; exact h
  exact m.out.write (Pi := (· = D)) (fun a z => .inl z) fr (fun a z => ⟨.lst (vs ++ [v]), by subst z; exact upd_same⟩) (m.out.sl.keep (Sub.refl _) fun a o s h => fr a o (fun z => m.out.dj a z s) h)
/-- the end of it -/
theorem Mid.done {σ : L2.St} {own : List Nat} {G0 H0 G1 H1 G H : Hp} {S E E1 : Addr → Prop} {D : Addr} {e e1 : Env} {acc : List PyData} (m : Mid c σ own G0 H0 S D G H E e acc) (sl : Slots c.K G1 H1 E1 σ e1) (p : own.all (plain e1) = true) (g : Sub G1 G) (z : acc.length ≤ LINE) :
    Out c.K G0 H0 S σ (back own e1 e) G H (· = D) E ∧ TOk c.K G H (· = D) (.ref D) (.l acc) := by
  obtain ⟨vs, hd, d⟩ := m.row
  exact ⟨⟨m.out.ext, m.out.wf, m.out.dj, m.out.sl.backs sl p g⟩, D, rfl, rfl, vs, hd, d, z, m.ok⟩
theorem Mid.sub {σ : L2.St} {own : List Nat} {G0 H0 G H : Hp} {S E : Addr → Prop} {D : Addr} {e : Env} {acc : List PyData} (m : Mid c σ own G0 H0 S D G H E e acc) : Sub G H := m.out.wf.sub
theorem keep_wipe {own : List Nat} {σ σ' : L2.St} {is : List Nat} (k : Keep is (wipe σ own) σ') (s : ∀ i ∈ is, i ∈ own) : wipe σ' own = wipe σ own :=
  wipe_eq (k.len.trans (wipe_length _ _)) fun j n => (k.at_ j fun m => n (s j m)).trans (wipe_off n)
/-- a known outcome, without errors -/
theorem post_of {α β : Type} {W : WX} {σ : L2.St} {G H : Hp} {S : Addr → Prop} {Ok : Hp → Hp → (Addr → Prop) → β → α → Prop} {r : R α} {a : α} {e : Env} {Q : β → Hp → Prop} (h : r = .ok a e) (k : ∀ b G' H' P E, Out c.K G H S σ e G' H' P E → Ok G' H' P b a → Q b H') : Post c W σ G H S Ok r Q := by
  rw [h]; exact k
theorem around_ok {own : List Nat} {t : Tg} {e e' : Env} {f : Env → R (List PyData)} {ys : List PyData} (h : around own t e f = .ok ys e') : own.all (plain e) = true ∧ t.within own = true ∧ ∃ ef, f e = .ok ys ef ∧ ys.length ≤ LINE ∧ e' = back own e ef := by
  unfold around at h
  split at h
  · rename_i p
    split at h
    · rename_i zs ef q
      split at h
      · rename_i z
        cases h
        exact ⟨p.1, p.2, ef, q, z, rfl⟩
      · cases h
    · cases h
  · cases h
theorem around_exc {own : List Nat} {t : Tg} {e e' : Env} {f : Env → R (List PyData)} {x : Nat} (h : around own t e f = .exc x e') : False := by
  unfold around at h
  split at h
  · split at h
    · split at h <;> cases h
    · cases h
  · cases h
theorem snd_comp {own : List Nat} {t : Tg} {s : Src} {cs : Exs} (hs : SndR c s) (hc : AllS c cs) (ha : Snd c a) : Snd c (.comp own t s cs a) := by
  refine snd_of rfl (fun _ => rfl) fun W σ e G H S Q w sl h => ?_
  refine hs W σ e G H S _ w sl (Post.go (.start w sl) h fun xs e1 J G1 H1 P1 E1 y1 o1 k1 => ?_)
  obtain ⟨wk, oks, lxs⟩ := o1
  intro D nD
  cases q0 : around own t e1 fun e => turns own t (conds (dens c.C cs)) (one (den c.C a)) xs e [] with
  | exc _ _ => exact (around_exc q0).elim
  | bad => rw [q0] at k1; exact k1.elim
  | ok ys eb' =>
    rw [q0] at k1
    obtain ⟨pl1, pl2, ef, q, zl, rfl⟩ := around_ok q0
    simp only [R.bind_ok] at k1
    have y1' := y1.less (P1 := No) fun _ h => h.elim
    refine ⟨fun i m Hi => m = xs.length - i ∧ i ≤ xs.length ∧ ∃ ei acc Gi Ei, Mid c σ own G H S D Gi Hi Ei ei acc ∧ Sub G1 Gi ∧ turns own t (conds (dens c.C cs)) (one (den c.C a)) (xs.drop i) ei acc = .ok ys ef, ⟨xs.length, rfl, Nat.zero_le _, e1, [], G1, E1, ?_, Sub.refl _, by simpa using q⟩, ?_⟩
    · have gr : Grow G1 H1 G1 (upd H1 D (.lst [])) (· = D) := .own y1.sub nD
      have y2 := y1.grow gr
      exact ⟨⟨y2.ext, y2.wf, y2.dj, y2.sl.hid own⟩, ⟨[], upd_same, .nil⟩, rfl⟩
    · rintro i m Hi ⟨rfl, li, ei, acc, Gi, Ei, mid, g, run⟩
      by_cases c2 : i < xs.length
      · right
        refine ⟨wk.go i Hi (g.trans mid.sub) c2, fun H' => ∃ ei acc Gi Ei, Mid c σ own G H S D Gi H' Ei ei acc ∧ Sub G1 Gi ∧ turns own t (conds (dens c.C cs)) (one (den c.C a)) (xs.drop (i + 1)) ei acc = .ok ys ef, fun H' n => ⟨_, by omega, rfl, c2, n⟩, fun v H' yl => ?_⟩
        obtain ⟨rfl, x, ex, dx⟩ := wk.yl i Hi v H' (g.trans mid.sub) c2 yl
        have okx := okDs_at oks ex
        rw [List.drop_eq_getElem_cons c2] at run
        have ex' : xs[i] = x := by rw [List.getElem?_eq_getElem c2] at ex; exact Option.some.inj ex
        rw [ex'] at run
        obtain ⟨eb, k, e2, b1, b2, b3, b4⟩ := turns_cons run
        refine bind_snd mid.sub mid.out.sl (dx.mono g) okx b1 fun σ2 sl2 kp => ?_
        have wp := keep_wipe kp (within_on pl2)
        refine ⟨wp, conds_snd hc WF σ2 eb Gi H' Ei _ mid.out.wfE sl2 (post_of b2 fun b G3 H3 P3 E3 y3 o3 => ?_)⟩
        cases o3
        have y3' := y3.less (P1 := No) fun _ h => h.elim
        have m3 := mid.step y3' wp
        cases k with
        | false =>
          rw [if_neg Bool.false_ne_true]
          exact ⟨e2, acc, G3, E3, m3, g.trans y3.ext.g, b4 rfl⟩
        | true =>
          rw [if_pos rfl]
          obtain ⟨zs, e3, b5, b6⟩ := b3 rfl
          obtain ⟨t', x', b7, b8, rfl⟩ := one_ok' b5
          refine ha.v WF σ2 e2 G3 H3 E3 _ y3.wfE y3.sl (post_of b7 fun v' G4 H4 P4 E4 y4 o4 => ?_)
          obtain ⟨G5, y5, k5, g5⟩ := y4.frzP o4 b8
          have m5 := m3.step y5 wp
          obtain ⟨vs, hd, hl, m6⟩ := m5.push k5.1 k5.2
          refine ⟨vs, hd, ?_, e3, acc ++ [x'], G5, E4, m6, (g.trans y3.ext.g).trans y5.ext.g, b6⟩
          have := turns_len b6
          simp only [List.length_append, List.length_cons, List.length_nil] at this
          rw [hl, LINE_eq]; omega
      · left
        have ei' : i = xs.length := by omega
        subst ei'
        rw [List.drop_length] at run
        cases run
        obtain ⟨r1, r2⟩ := mid.done y1.sl pl1 g zl
        exact ⟨wk.st _ Hi (g.trans mid.sub) (Nat.le_refl _), k1 _ Gi Hi _ Ei r1 r2⟩


theorem turns_acc {own : List Nat} {t : Tg} {cond : Env → R Bool} {body : Env → R (List PyData)} (acc0 : List PyData) : ∀ {xs : List PyData} {e : Env} {acc ys : List PyData} {ef : Env}, turns own t cond body xs e acc = .ok ys ef → turns own t cond body xs e (acc0 ++ acc) = .ok (acc0 ++ ys) ef
  | [], e, acc, ys, ef, h => by cases h; rfl
  | x :: xs, e, acc, ys, ef, h => by
    obtain ⟨e1, k, e2, h1, h2, h3, h4⟩ := turns_cons h
    simp only [turns, h1, h2]
    cases k with
    | true =>
      obtain ⟨zs, e3, h5, h6⟩ := h3 rfl
      simp only [h5]
      rw [List.append_assoc]
      exact turns_acc acc0 h6
    | false => exact turns_acc acc0 (h4 rfl)
theorem turns_pre {own : List Nat} {t : Tg} {cond : Env → R Bool} {body : Env → R (List PyData)} : ∀ {xs : List PyData} {e : Env} {acc ys : List PyData} {ef : Env}, turns own t cond body xs e acc = .ok ys ef → ∃ zs, ys = acc ++ zs
  | [], e, acc, ys, ef, h => by cases h; exact ⟨[], (List.append_nil _).symm⟩
  | x :: xs, e, acc, ys, ef, h => by
    obtain ⟨e1, k, e2, _, _, h1, h2⟩ := turns_cons h
    cases k with
    | true =>
      obtain ⟨zs, e3, _, h3⟩ := h1 rfl
      obtain ⟨us, rfl⟩ := turns_pre h3
      exact ⟨zs ++ us, List.append_assoc _ _ _⟩
    | false => exact turns_pre (h2 rfl)
theorem bind_ok' {α β : Type} {r : R α} {f : α → Env → R β} {b : β} {e : Env} (h : r.bind f = .ok b e) : ∃ a e1, r = .ok a e1 ∧ f a e1 = .ok b e := by
  cases r with
  | ok a e1 => exact ⟨a, e1, rfl, h⟩
  | exc _ _ => cases h
  | bad => cases h
theorem snd_comp2 {own own1 : List Nat} {t t1 : Tg} {s s1 : Src} {cs cs1 : Exs} (hs : SndR c s) (hc : AllS c cs) (hs1 : SndR c s1) (hc1 : AllS c cs1) (ha : Snd c a) : Snd c (.comp2 own own1 t s cs t1 s1 cs1 a) := by
  refine snd_of rfl (fun _ => rfl) fun W σ e G H S Q w sl h => ?_
  have h0 : Post c W σ G H S (OkT c) (if (own1.all own.contains && t1.within own1) = false then .bad else (srcs c.C s e).bind fun xs e => (around own t e fun e => turns own t (conds (dens c.C cs))
      (fun e => (srcs c.C s1 e).bind fun zs e => turns own1 t1 (conds (dens c.C cs1)) (one (den c.C a)) zs e []) xs e []).bind fun ys e => .ok (.l ys) e) Q := h
  split at h0
  · exact h0.elim
  rename_i pw
  have pw' : own1.all own.contains = true ∧ t1.within own1 = true := by simpa using pw
  have sub1 : ∀ i ∈ own1, i ∈ own := fun i m => by simpa using List.all_eq_true.mp pw'.1 i m
  refine hs W σ e G H S _ w sl (Post.go (.start w sl) h0 fun xs e1 J G1 H1 P1 E1 y1 o1 k1 => ?_)
  obtain ⟨wk, oks, lxs⟩ := o1
  intro D nD
  generalize hb : (fun e => (srcs c.C s1 e).bind fun zs e => turns own1 t1 (conds (dens c.C cs1)) (one (den c.C a)) zs e []) = body at k1
  cases q0 : around own t e1 fun e => turns own t (conds (dens c.C cs)) body xs e [] with
  | exc _ _ => exact (around_exc q0).elim
  | bad => rw [q0] at k1; exact k1.elim
  | ok ys eb' =>
    rw [q0] at k1
    obtain ⟨pl1, pl2, ef, q, zl, rfl⟩ := around_ok q0
    simp only [R.bind_ok] at k1
    have y1' := y1.less (P1 := No) fun _ h => h.elim
    let Nx : Nat → Hp → Prop := fun i H' => ∃ ei acc Gi Ei, Mid c σ own G H S D Gi H' Ei ei acc ∧ Sub G1 Gi ∧ turns own t (conds (dens c.C cs)) body (xs.drop i) ei acc = .ok ys ef
    refine ⟨fun i m Hi => m = xs.length - i ∧ i ≤ xs.length ∧ Nx i Hi, ⟨xs.length, rfl, Nat.zero_le _, e1, [], G1, E1, ?_, Sub.refl _, by simpa using q⟩, ?_⟩
    · have gr : Grow G1 H1 G1 (upd H1 D (.lst [])) (· = D) := .own y1.sub nD
      have y2 := y1.grow gr
      exact ⟨⟨y2.ext, y2.wf, y2.dj, y2.sl.hid own⟩, ⟨[], upd_same, .nil⟩, rfl⟩
    · rintro i m Hi ⟨rfl, li, ei, acc, Gi, Ei, mid, g, run⟩
      by_cases c2 : i < xs.length
      · right
        refine ⟨wk.go i Hi (g.trans mid.sub) c2, Nx (i + 1), fun H' n => ⟨_, by omega, rfl, c2, n⟩, fun v H' yl => ?_⟩
        obtain ⟨rfl, x, ex, dx⟩ := wk.yl i Hi v H' (g.trans mid.sub) c2 yl
        have okx := okDs_at oks ex
        rw [List.drop_eq_getElem_cons c2] at run
        have ex' : xs[i] = x := by rw [List.getElem?_eq_getElem c2] at ex; exact Option.some.inj ex
        rw [ex'] at run
        obtain ⟨eb, k, e2, b1, b2, b3, b4⟩ := turns_cons run
        refine bind_snd mid.sub mid.out.sl (dx.mono g) okx b1 fun σ2 sl2 kp => ?_
        have wp := keep_wipe kp (within_on pl2)
        refine ⟨wp, conds_snd hc WF σ2 eb Gi H' Ei _ mid.out.wfE sl2 (post_of b2 fun b G3 H3 P3 E3 y3 o3 => ?_)⟩
        cases o3
        have y3' := y3.less (P1 := No) fun _ h => h.elim
        cases k with
        | false =>
          rw [if_neg Bool.false_ne_true]
          exact ⟨e2, acc, G3, E3, mid.step y3' wp, g.trans y3.ext.g, b4 rfl⟩
        | true =>
          rw [if_pos rfl]
          obtain ⟨zs, e3, b5, b6⟩ := b3 rfl
          rw [← hb] at b5
          obtain ⟨us, e4, b7, b8⟩ := bind_ok' b5
          refine hs1 WF σ2 e2 G3 H3 E3 _ y3.wfE y3.sl (post_of b7 fun J1 G4 H4 P4 E4 y4 o4 => ?_)
          obtain ⟨wk1, oks1, _⟩ := o4
          have y4' := (y3'.trans y4).less (P1 := No) fun _ h => h.elim
          have m4 : Mid c σ2 own1 G H S D G4 H4 E4 e4 acc := mid.to y4' rfl
          have b9 := turns_acc acc b8
          rw [List.append_nil] at b9
          refine ⟨fun j k Hj => k = us.length - j ∧ j ≤ us.length ∧ ∃ ej ac Gj Ej, Mid c σ2 own1 G H S D Gj Hj Ej ej ac ∧ Sub G4 Gj ∧ turns own1 t1 (conds (dens c.C cs1)) (one (den c.C a)) (us.drop j) ej ac = .ok (acc ++ zs) e3, ⟨us.length, rfl, Nat.zero_le _, e4, acc, G4, E4, m4, Sub.refl _, by simpa using b9⟩, ?_⟩
          rintro j k Hj ⟨rfl, lj, ej, ac, Gj, Ej, mj, gj, runj⟩
          by_cases c3 : j < us.length
          · right
            refine ⟨wk1.go j Hj (gj.trans mj.sub) c3, fun H' => ∃ ej ac Gj Ej, Mid c σ2 own1 G H S D Gj H' Ej ej ac ∧ Sub G4 Gj ∧ turns own1 t1 (conds (dens c.C cs1)) (one (den c.C a)) (us.drop (j + 1)) ej ac = .ok (acc ++ zs) e3, fun H' n => ⟨_, by omega, rfl, c3, n⟩, fun v2 H5 yl2 => ?_⟩
            obtain ⟨rfl, z, ez, dz⟩ := wk1.yl j Hj v2 H5 (gj.trans mj.sub) c3 yl2
            have okz := okDs_at oks1 ez
            rw [List.drop_eq_getElem_cons c3] at runj
            have ez' : us[j] = z := by rw [List.getElem?_eq_getElem c3] at ez; exact Option.some.inj ez
            rw [ez'] at runj
            obtain ⟨ec, k2, e5, d1, d2, d3, d4⟩ := turns_cons runj
            refine bind_snd mj.sub mj.out.sl (dz.mono gj) okz d1 fun σ3 sl3 kp3 => ?_
            have wp3 := keep_wipe kp3 (within_on pw'.2)
            refine ⟨wp3, conds_snd hc1 WF σ3 ec Gj H5 Ej _ mj.out.wfE sl3 (post_of d2 fun b G6 H6 P6 E6 y6 o6 => ?_)⟩
            cases o6
            have y6' := y6.less (P1 := No) fun _ h => h.elim
            have m6 := mj.step y6' wp3
            cases k2 with
            | false =>
              rw [if_neg Bool.false_ne_true]
              exact ⟨e5, ac, G6, E6, m6, gj.trans y6.ext.g, d4 rfl⟩
            | true =>
              rw [if_pos rfl]
              obtain ⟨zs2, e6, d5, d6⟩ := d3 rfl
              obtain ⟨t', x', d7, d8, rfl⟩ := one_ok' d5
              refine ha.v WF σ3 e5 G6 H6 E6 _ y6.wfE y6.sl (post_of d7 fun v' G7 H7 P7 E7 y7 o7 => ?_)
              obtain ⟨G8, y8, k8, g8⟩ := y7.frzP o7 d8
              have m8 := m6.step y8 wp3
              obtain ⟨vs, hd, hl, m9⟩ := m8.push k8.1 k8.2
              refine ⟨vs, hd, ?_, e6, ac ++ [x'], G8, _, m9, (gj.trans y6.ext.g).trans y8.ext.g, d6⟩
              have l1 := turns_len d6
              have l2 := turns_len b6
              simp only [List.length_append, List.length_cons, List.length_nil] at l1 l2
              rw [hl, LINE_eq]; omega
          · left
            have ej' : j = us.length := by omega
            subst ej'
            rw [List.drop_length] at runj
            cases runj
            exact ⟨wk1.st _ Hj (gj.trans mj.sub) (Nat.le_refl _), _, _, Gj, Ej, mj.reown sub1 wp, (g.trans y4'.ext.g).trans gj, b6⟩
      · left
        have ei' : i = xs.length := by omega
        subst ei'
        rw [List.drop_length] at run
        cases run
        obtain ⟨r1, r2⟩ := mid.done y1.sl pl1 g zl
        exact ⟨wk.st _ Hi (g.trans mid.sub) (Nat.le_refl _), k1 _ Gi Hi _ Ei r1 r2⟩

/-! ### dict comprehensions -/
theorem pairs_app : ∀ {xs ys : List PyData} {kvs : List (Key × PyData)}, pairs? (xs ++ ys) = some kvs → ∃ k1 k2, pairs? xs = some k1 ∧ pairs? ys = some k2 ∧ kvs = k1 ++ k2
  | [], ys, kvs, h => ⟨[], kvs, rfl, h, rfl⟩
  | x :: xs, ys, kvs, h => by
    rw [List.cons_append] at h
    unfold pairs? at h
    split at h
    · rename_i q; cases q
    · rename_i k v r q
      cases q
      split at h
      · rename_i key r' q1 q2
        cases h
        obtain ⟨k1, k2, h1, h2, rfl⟩ := pairs_app q2
        exact ⟨(key, v) :: k1, k2, by simp only [pairs?, q1, h1], h2, rfl⟩
      · cases h
    · cases h
theorem putAll_snoc (kvs : List (Key × PyData)) (p : Key × PyData) : putAll (kvs ++ [p]) = put (putAll kvs) p.1 p.2 := by
  unfold putAll; rw [List.foldl_append]; rfl
theorem pairs_len : ∀ {xs : List PyData} {kvs : List (Key × PyData)}, pairs? xs = some kvs → kvs.length = xs.length
  | [], _, h => by cases h; rfl
  | x :: xs, kvs, h => by
    unfold pairs? at h
    split at h
    · rename_i q; cases q
    · rename_i k v r q
      cases q
      split at h
      · rename_i key r' q1 q2
        cases h
        simp [pairs_len q2]
      · cases h
    · cases h
/-- the state between two turns of a dict comprehension: the pairs so far -/
structure MidD (c : Ctx) (σ : L2.St) (own : List Nat) (G0 H0 : Hp) (S : Addr → Prop) (D : Addr) (G H : Hp) (E : Addr → Prop) (e : Env) (kvs : List (Key × PyData)) : Prop where
  out : Out c.K G0 H0 S (wipe σ own) (hide own e) G H (· = D) E
  row : ∃ vs, H D = some (.dK vs) ∧ Paired (EntOk G) vs (putAll kvs)
theorem MidD.step {σ σ2 : L2.St} {own : List Nat} {G0 H0 G H G2 H2 : Hp} {S E E2 : Addr → Prop} {D : Addr} {e e2 : Env} {kvs : List (Key × PyData)} (m : MidD c σ own G0 H0 S D G H E e kvs) (y : Out c.K G H E σ2 e2 G2 H2 No E2) (w : wipe σ2 own = wipe σ own) : MidD c σ own G0 H0 S D G2 H2 E2 e2 kvs := by
  obtain ⟨vs, h, d⟩ := m.row
  have t := (m.out.trans y).less (P1 := (· = D)) fun a z => .inl z
  have sl := y.sl.hid own
  rw [w] at sl
  exact ⟨⟨t.ext, t.wf, t.dj, sl⟩, ⟨vs, y.ext.fr D _ h fun z => m.out.dj D rfl z, Paired.mapM d fun p _ q k => k.mono y.ext.g⟩⟩
theorem snd_dcomp {own : List Nat} {t : Tg} {s : Src} {k : Ex} (hs : SndR c s) (hk : Snd c k) (ha : Snd c a) : Snd c (.dcomp own t s k a) := by
  refine snd_of rfl (fun _ => rfl) fun W σ e G H S Q w sl h => ?_
  refine hs W σ e G H S _ w sl (Post.go (.start w sl) h fun xs e1 J G1 H1 P1 E1 y1 o1 k1 => ?_)
  obtain ⟨wk, oks, lxs⟩ := o1
  intro D nD
  generalize hb : (fun e => ((den c.C k).v e).bind fun kt e => (frzR kt e).bind fun kx e => ((den c.C a).v e).bind fun t e => (frzR t e).bind fun x e => R.ok [PyData.tuple [kx, x]] e) = body at k1
  cases q0 : around own t e1 fun e => turns own t (fun e => .ok true e) body xs e [] with
  | exc _ _ => exact (around_exc q0).elim
  | bad => rw [q0] at k1; exact k1.elim
  | ok ys eb' =>
    rw [q0] at k1
    obtain ⟨pl1, pl2, ef, q, zl, rfl⟩ := around_ok q0
    simp only [R.bind_ok] at k1
    cases pr : pairs? ys with
    | none => rw [pr] at k1; exact k1.elim
    | some all =>
    rw [pr] at k1
    refine ⟨fun i m Hi => m = xs.length - i ∧ i ≤ xs.length ∧ ∃ ei acc kvs Gi Ei, MidD c σ own G H S D Gi Hi Ei ei kvs ∧ pairs? acc = some kvs ∧ Sub G1 Gi ∧ turns own t (fun e => .ok true e) body (xs.drop i) ei acc = .ok ys ef, ⟨xs.length, rfl, Nat.zero_le _, e1, [], [], G1, E1, ?_, rfl, Sub.refl _, by simpa using q⟩, ?_⟩
    · have gr : Grow G1 H1 G1 (upd H1 D (.dK [])) (· = D) := .own y1.sub nD
      have y2 := y1.grow gr
      exact ⟨⟨y2.ext, y2.wf, y2.dj, y2.sl.hid own⟩, ⟨[], upd_same, .nil⟩⟩
    · rintro i m Hi ⟨rfl, li, ei, acc, kvs, Gi, Ei, mid, pa, g, run⟩
      by_cases c2 : i < xs.length
      · right
        refine ⟨wk.go i Hi (g.trans mid.out.wf.sub) c2, fun H' => ∃ ei acc kvs Gi Ei, MidD c σ own G H S D Gi H' Ei ei kvs ∧ pairs? acc = some kvs ∧ Sub G1 Gi ∧ turns own t (fun e => .ok true e) body (xs.drop (i + 1)) ei acc = .ok ys ef, fun H' n => ⟨_, by omega, rfl, c2, n⟩, fun v H' yl => ?_⟩
        obtain ⟨rfl, x, ex, dx⟩ := wk.yl i Hi v H' (g.trans mid.out.wf.sub) c2 yl
        have okx := okDs_at oks ex
        rw [List.drop_eq_getElem_cons c2] at run
        have ex' : xs[i] = x := by rw [List.getElem?_eq_getElem c2] at ex; exact Option.some.inj ex
        rw [ex'] at run
        obtain ⟨eb, k', e2, b1, b2, b3, b4⟩ := turns_cons run
        cases b2
        refine bind_snd mid.out.wf.sub mid.out.sl (dx.mono g) okx b1 fun σ2 sl2 kp => ?_
        have wp := keep_wipe kp (within_on pl2)
        refine ⟨wp, ?_⟩
        unfold tYes
        dsimp only
        rw [if_pos rfl]
        obtain ⟨zs, e3, b5, b6⟩ := b3 rfl
        rw [← hb] at b5
        obtain ⟨kt, e4, f1, b5⟩ := bind_ok' b5
        obtain ⟨kx, e4', f2, b5⟩ := bind_ok' b5
        obtain ⟨t', e5, f3, b5⟩ := bind_ok' b5
        obtain ⟨x', e5', f4, b5⟩ := bind_ok' b5
        cases b5
        have f2' : kt.frz? = some kx ∧ e4 = e4' := by
          unfold frzR at f2; cases z : kt.frz? with
          | none => rw [z] at f2; cases f2
          | some u => rw [z] at f2; cases f2; exact ⟨rfl, rfl⟩
        have f4' : t'.frz? = some x' ∧ e5 = e3 := by
          unfold frzR at f4; cases z : t'.frz? with
          | none => rw [z] at f4; cases f4
          | some u => rw [z] at f4; cases f4; exact ⟨rfl, rfl⟩
        obtain ⟨w2, rfl⟩ := f2'
        obtain ⟨w4, rfl⟩ := f4'
        refine hk.v WF σ2 eb Gi H' Ei _ mid.out.wfE sl2 (post_of f1 fun vk G3 H3 P3 E3 y3 o3 => ?_)
        obtain ⟨G4, y4, kk, g4⟩ := y3.frzP o3 w2
        have m4 := mid.step y4 wp
        refine ha.v WF σ2 e4 G4 H3 E3 _ y4.wfE y4.sl (post_of f3 fun v' G5 H5 P5 E5 y5 o5 => ?_)
        obtain ⟨G6, y6, k6, g6⟩ := y5.frzP o5 w4
        have m6 := m4.step y6 wp
        obtain ⟨us, hus⟩ := turns_pre b6
        obtain ⟨k12, _, pz, _, _⟩ := pairs_app (by rw [← hus]; exact pr : pairs? ((acc ++ [.tuple [kx, x']]) ++ us) = some all)
        obtain ⟨p1, p2, q1, q2, rfl⟩ := pairs_app pz
        rw [pa] at q1; cases q1
        have q3 : ∃ key, key? (.d kx) = some key ∧ p2 = [(key, x')] := by
          simp only [pairs?] at q2
          cases z : key? (.d kx) with
          | none => rw [z] at q2; cases q2
          | some key => rw [z] at q2; cases q2; exact ⟨key, rfl, rfl⟩
        obtain ⟨key, q4, rfl⟩ := q3
        cases key_snd kk q4
        obtain ⟨vs, hd, dd⟩ := m6.row
        have lv : vs.length = (putAll kvs).length := paired_len dd
        have l1 := putAll_len kvs []
        have l2 := pairs_len pa
        have l3 := turns_len b6
        simp only [List.length_append, List.length_cons, List.length_nil] at l1 l3
        have l4 : (putAll kvs).length ≤ 0 + kvs.length := l1
        refine ⟨vs, key, rfl, hd, by rw [lv, LINE_eq]; omega, e5, acc ++ [.tuple [kx, x']], kvs ++ [(key, x')], G6, E5, ⟨?_, ⟨_, upd_same, ?_⟩⟩, pz, (g.trans y4.ext.g).trans y6.ext.g, b6⟩
        · have fr : ∀ a o, ¬ a = D → H5 a = some o → (upd H5 D (.dK (putK vs key v'))) a = some o := fun a o n h => by rw [upd_ne n]; exact h
          exact m6.out.write (Pi := (· = D)) (fun a z => .inl z) fr (fun a z => ⟨.dK (putK vs key v'), by subst z; exact upd_same⟩) (m6.out.sl.keep (Sub.refl _) fun a o s h => fr a o (fun z => m6.out.dj a z s) h)
        · rw [putAll_snoc]; exact put_snd k6.1 k6.2 dd
      · left
        have ei' : i = xs.length := by omega
        subst ei'
        rw [List.drop_length] at run
        cases run
        rw [pr] at pa; cases pa
        obtain ⟨vs, hd, d⟩ := mid.row
        refine ⟨wk.st _ Hi (g.trans mid.out.wf.sub) (Nat.le_refl _), k1 _ Gi Hi (· = D) Ei ⟨mid.out.ext, mid.out.wf, mid.out.dj, mid.out.sl.backs y1.sl pl1 g⟩ ⟨D, vs, rfl, rfl, hd, d, ?_⟩⟩
        have l1 := putAll_len all []
        have l2 := pairs_len pr
        simp only [List.length_nil] at l1
        unfold putAll; omega

/-! ### a chain of comparisons -/
theorem snd_chn (o o' : COp) (ha : Snd c a) (hb : Snd c b) (hd : Snd c d) : Snd c (.chn o o' a b d) := by
  refine snd_cmp (te := fun W => tChain (rCmp c.K o) (rCmp c.K o') (rD c W a).e (rD c W b).e (rD c W d).e) rfl (fun _ => rfl) (fun W σ e G H S Q w sl h => ?_) fun e t e' h => ?_
  · refine ha.o W σ e G H S _ w sl (Post.go (.start w sl) h fun x e1 v G1 H1 P1 E1 y1 o1 k1 => ?_)
    refine hb.o W σ e1 G1 H1 E1 _ y1.wfE y1.sl (Post.go y1 k1 fun z e2 u G2 H2 P2 E2 y2 o2 k2 => ?_)
    split at k2
    · rename_i t t' q1 q2
      have ht := o1.on y1 y2 q1
      have hu := o2.now y2 q2
      cases q : cmp o t t' with
      | none => rw [q] at k2; exact k2.elim
      | some k =>
        rw [q] at k2
        cases k with
        | false =>
          refine cmp_snd y2.sub ht hu q ⟨false, rfl, ?_⟩
          rw [if_neg Bool.false_ne_true]
          exact k2 _ G2 H2 No E2 ((y1.trans y2).less fun _ z => z.elim) ⟨.bl _, rfl⟩
        | true =>
          refine cmp_snd y2.sub ht hu q ⟨true, rfl, ?_⟩
          rw [if_pos rfl]
          refine hd.o W σ e2 G2 H2 E2 _ y2.wfE y2.sl (Post.go (y1.trans y2) k2 fun r e3 v3 G3 H3 P3 E3 y3 o3 k3 => ?_)
          split at k3
          · rename_i t2 t3 q3 q4
            obtain ⟨w', q5, k4⟩ := k3.lift
            obtain ⟨k', q6, r'⟩ := bl_snd y3.sub q5 (Post.res ((y1.trans y2).trans y3) k4)
            exact cmp_snd y3.sub (o2.on y2 y3 q3) (o3.now y3 q4) q6 r'
          · exact k3.elim
    · exact k2.elim
  · obtain ⟨x, e1, _, h⟩ := bind_ok' h
    obtain ⟨y, e2, _, h⟩ := bind_ok' h
    split at h
    · split at h
      · obtain ⟨z, e3, _, h⟩ := bind_ok' h
        split at h
        · rename_i u w _ _
          cases q : cmp o' u w with
          | none => simp [q, bl?] at h
          | some k => simp [q, bl?] at h; exact ⟨k, h.1.symm⟩
        · cases h
      · cases h; exact ⟨false, rfl⟩
      · cases h
    · cases h
end
end Mv
end
section
set_option Elab.async false
set_option linter.all false
set_option maxHeartbeats 2000000
/-! Mv: every expression; statements; a def. -/
namespace Mv
open PySem L2
open Classical

mutual
theorem snd_ex {c : Ctx} : ∀ a : Ex, Snd c a
  | .c x => snd_c x
  | .v i => snd_v i
  | .mv i => snd_mv i
  | .fz a => snd_fz (snd_ex a)
  | .bin o a b => snd_bin o (snd_ex a) (snd_ex b)
  | .neg a => snd_neg (snd_ex a)
  | .not a => snd_not (snd_ex a)
  | .and a b => snd_and (snd_ex a) (snd_ex b)
  | .or a b => snd_or (snd_ex a) (snd_ex b)
  | .cmp o a b => snd_cmpE o (snd_ex a) (snd_ex b)
  | .chn o o' a b d => snd_chn o o' (snd_ex a) (snd_ex b) (snd_ex d)
  | .ite d a b => snd_ite (snd_ex d) (snd_ex a) (snd_ex b)
  | .lst es => snd_lst (snd_exs es)
  | .tup es => snd_tup (snd_exs es)
  | .dnew => snd_dnew
  | .dct a => snd_dct (snd_ex a)
  | .comp _ _ s cs a => snd_comp (snd_src s) (snd_exs cs) (snd_ex a)
  | .compo _ _ _ _ => snd_bad (te := fun _ _ _ _ => False) rfl fun _ => rfl
  | .comp2 _ _ _ s cs _ s1 cs1 a => snd_comp2 (snd_src s) (snd_exs cs) (snd_src s1) (snd_exs cs1) (snd_ex a)
  | .dcomp _ _ s k a => snd_dcomp (snd_src s) (snd_ex k) (snd_ex a)
  | .uniq _ _ _ _ => snd_bad (te := fun _ _ _ _ => False) rfl fun _ => rfl
  | .ix a b => snd_ix (snd_ex a) (snd_ex b)
  | .sl a lo hi => snd_sl (snd_ex a) (snd_exs lo) (snd_exs hi)
  | .isi a ts => snd_isi (snd_ex a) ts
  | .fn _ es => snd_fn (snd_exs es)
  | .lrng1 a => snd_lrng1 (snd_ex a)
  | .lrng2 a b => snd_lrng2 (snd_ex a) (snd_ex b)
  | .lrev a => snd_lrev (snd_ex a)
  | .meth _ a es => snd_meth (snd_ex a) (snd_exs es)
  | .mu _ _ es => snd_mu (snd_exs es)
  | .call _ es _ => snd_call (snd_exs es)
theorem snd_exs {c : Ctx} : ∀ es : Exs, AllS c es
  | .nil => trivial
  | .cons a es => ⟨snd_ex a, snd_exs es⟩
theorem snd_src {c : Ctx} : ∀ s : Src, SndR c s
  | .seq a => snr_seq (snd_ex a)
  | .tup a => snr_tup (snd_ex a)
  | .str a => snr_str (snd_ex a)
  | .rng1 a => snr_rng1 (snd_ex a)
  | .rng2 a b => snr_rng2 (snd_ex a) (snd_ex b)
  | .rev a => snr_rev (snd_ex a)
end
end Mv
end
section
set_option Elab.async false
set_option linter.all false
set_option maxHeartbeats 2000000
/-! Mv: statements; a def. -/
namespace Mv
open PySem L2
open Classical

/-! ### readings of statements -/
def wTr (c : Ctx) (cs : Nat → Bool) (h : L2.St → Hp → Prop) (W : WX) : WX := fun cls d σ H =>
  ∃ x, cls = c.cl x ∧ d = none ∧ (cs x = true → ∀ a, H a = none → h σ H) ∧ (cs x = false → W cls d σ H)
def wTrf (c : Ctx) (cs : Nat → Bool) (h : Nat → Option PyData) (rt : VK) (W : WX) : WX := fun cls d σ H =>
  ∃ x, cls = c.cl x ∧ d = none ∧ (cs x = true → ∀ a, H a = none → ∃ y, h x = some y ∧ scal y = true ∧ ∀ H1, (∀ b o, H b = some o → H1 b = some o) → rt (vOf y) H1) ∧ (cs x = false → W cls d σ H)
section
variable (c : Ctx)
mutual
def rX : WX → St → TS
  | W, .asg i a => tAsg (rD c W a).e (gName i)
  | W, .unp t a => tAsg (rD c W a).e (rG c.K t)
  | W, .seti i k a => tAsg (rD c W a).e (gSub (tVar i) (rD c W k).e rSetU)
  | W, .set2 i j k a => tAsg (rD c W a).e (gSub (tOp (rItem c.K) (tVar i) (tVar j)) (tVar k) rSetU)
  | W, .ex a => tDrop (rD c W a).e
  | W, .iff a p q => tIfS (rD c W a).t (rXs W p) (rXs W q)
  | W, .fr t s b => tFor (rS c W s) (rG c.K t) (rXs W b)
  | W, .wh _ a b => tWhile (rD c W a).t (rXs W b)
  | W, .ret a => tRet (rD c W a).e
  | W, .rse x a => fun _ σ H => tCons (rD c W a).e tNil σ H fun vs H1 => vs.length ≤ sizeLine ∧ W (c.cl x) none σ H1
  | W, .tr b cs h => fun D σ H => rXs (wTr c cs (rXs WF h D) W) b D σ H
  | W, .trf b cs h => fun D σ H => rXs (wTrf c cs h D.rt W) b D σ H
  | _, .pass => tNext
def rXs : WX → Sts → TS
  | _, .nil => tNext
  | W, .cons s ss => tSeq (rX W s) (rXs W ss)
end
end
mutual
def St.on : St → List Nat
  | .asg i _ => [i]
  | .unp t _ => t.on
  | .iff _ p q => p.on ++ q.on
  | .fr t _ b => t.on ++ b.on
  | .wh _ _ b => b.on
  | .tr b _ h => b.on ++ h.on
  | .trf b _ _ => b.on
  | _ => []
def Sts.on : Sts → List Nat
  | .nil => []
  | .cons s ss => s.on ++ ss.on
end

/-! ### what a statement must bring -/
def PostS (c : Ctx) (W : WX) (G H : Hp) (S : Addr → Prop) (ks : List Nat) (σ : L2.St) (r : SR) (D : Ends) : Prop :=
  match r with
  | .nx e => ∀ σ' G' H' E, Keep ks σ σ' → Out c.K G H S σ' e G' H' No E → D.nx σ' H'
  | .ret t e => ∀ σ' v G' H' P E, Keep ks σ σ' → Out c.K G H S σ' e G' H' P E → TOk c.K G' H' P v t → D.rt v H'
  | .exc x e => ∀ σ' G' H' E, Keep ks σ σ' → Out c.K G H S σ' e G' H' No E → W (c.cl x) none σ' H'
  | .bad => False
theorem Keep.tr {ks : List Nat} {σ σ1 σ2 : L2.St} (a : Keep ks σ σ1) (b : Keep ks σ1 σ2) : Keep ks σ σ2 := ⟨b.len.trans a.len, fun j n => (b.at_ j n).trans (a.at_ j n)⟩
section
variable {c : Ctx} {W W' : WX} {G H G1 H1 G2 H2 : Hp} {S P P1 E E1 : Addr → Prop} {σ σ1 : L2.St} {e e1 e2 : Env} {ks : List Nat} {r : SR} {D D' : Ends} {t : T} {v : V} {i : Nat}
theorem PostS.shift (x : Out c.K G H S σ1 e1 G1 H1 P E) (kp : Keep ks σ σ1) (h : PostS c W G H S ks σ r D) : PostS c W G1 H1 E ks σ1 r D := by
  cases r with
  | nx e => exact fun σ' G' H' E' k y => h σ' G' H' E' (kp.tr k) ((x.trans y).less fun a p => .inr p)
  | ret t e => exact fun σ' v G' H' P' E' k y o => h σ' v G' H' P' E' (kp.tr k) ((x.trans y).less fun a p => .inr p) o
  | exc z e => exact fun σ' G' H' E' k y => h σ' G' H' E' (kp.tr k) ((x.trans y).less fun a p => .inr p)
  | bad => exact h
theorem PostS.seq {f : Env → SR} {N : L2.St → Hp → Prop} (h : PostS c W G H S ks σ (r.seq f) D) (k : ∀ e1 σ' G' H' E, Keep ks σ σ' → Out c.K G H S σ' e1 G' H' No E → PostS c W G H S ks σ (f e1) D → N σ' H') (hr : D'.rt = D.rt) (hn : D'.nx = N) : PostS c W G H S ks σ r D' := by
  subst hn
  cases r with
  | nx e => exact fun σ' G' H' E kp y => k e σ' G' H' E kp y h
  | ret t e => exact fun σ' v G' H' P' E' k y o => hr ▸ h σ' v G' H' P' E' k y o
  | exc z e => exact h
  | bad => exact h
theorem Post.st {α β : Type} {Ok2 : Hp → Hp → (Addr → Prop) → β → α → Prop} {r : R α} {f : α → Env → SR} {Q2 : β → Hp → Prop} (x : Out c.K G H S σ e1 G1 H1 P E) (h : PostS c W G H S ks σ (r.st f) D)
    (k : ∀ a e2 b G2 H2 P2 E2, Out c.K G1 H1 E σ e2 G2 H2 P2 E2 → Ok2 G2 H2 P2 b a → PostS c W G H S ks σ (f a e2) D → Q2 b H2) : Post c W σ G1 H1 E Ok2 r Q2 := by
  cases r with
  | ok a e2 => exact fun b G2 H2 P2 E2 y o => k a e2 b G2 H2 P2 E2 y o h
  | exc z e2 => exact fun G2 H2 E2 y => h σ G2 H2 E2 ⟨rfl, fun _ _ => rfl⟩ ((x.trans y).less fun a p => .inr p)
  | bad => exact h
theorem Out.store (x : Out c.K G H S σ e1 G1 H1 P E) (h : TOk c.K G1 H1 P v t) (i : Nat) : Out c.K G H S (σ.set i (some v)) (e1.set i (some t)) G1 H1 No fun a => P a ∨ E a :=
  ⟨x.ext.less fun a z => z.elim (fun z => z.elim) id, x.wf.less fun a z => z.elim (fun z => z.elim) id, fun _ z _ => z, x.sl.store h (fun _ => .inl) (fun _ => .inr) x.dj⟩
theorem keep_on (σ : L2.St) (i : Nat) (o : Option V) (m : i ∈ ks) : Keep ks σ (σ.set i o) := (keep_set σ i o).wide fun j z => by simp only [List.mem_singleton] at z; exact z ▸ m
theorem Keep.rfl' : Keep ks σ σ := ⟨rfl, fun _ _ => rfl⟩
/-- o[i] = y -/
theorem Out.setAt {u : V} {y : V} {x : PyData} {t t' w : T} {B : Addr → Prop} (o : Out c.K G H S σ e1 G1 H1 No E) (hv : σ[i]? = some (some v)) (q : e1[i]? = some (some t)) (k : TOk c.K G1 H1 B u w) (d : Dq G1 y x) (ok : okD x = true) (z : setAt t w x = some t')
    {Q : Hp → Prop} (fin : ∀ H2, Out c.K G H S σ (e1.set i (some t')) G1 H2 No E → Q H2) : rSetU v u y H1 Q := by
  obtain ⟨v', Pi, S', hv', kt, s1, s2, dj, sl'⟩ := o.sl.split q
  rw [hv] at hv'; cases hv'
  obtain ⟨l, u', rfl, pl, tk, f⟩ := setAt_snd o.sub kt k d ok z
  refine f Q (fin _ ?_)
  have fr : ∀ a o, ¬ a = l → H1 a = some o → (upd H1 l u') a = some o := fun a o n h => by rw [upd_ne n]; exact h
  have sl2 : Slots c.K G1 (upd H1 l u') E σ (e1.set i (some t')) := by
    have sl3 := sl'.keep (Sub.refl G1) (H' := upd H1 l u') fun a o sa h => fr a o (fun z => dj a (z ▸ pl) sa) h
    have := sl3.put (S' := E) hv tk s1 s2 dj
    rw [List.set_set] at this
    exact this
  exact o.write (Pi := (· = l)) (fun a z => .inr (s1 a (z ▸ pl))) fr (fun a z => ⟨u', by subst z; exact upd_same⟩) sl2
end
/-- what is shown of statements -/
def SndS (c : Ctx) (ks : List Nat) (f : Env → SR) (r : WX → TS) : Prop :=
  ∀ (W : WX) (σ : L2.St) (e : Env) (G H : Hp) (S : Addr → Prop) (D : Ends), Wf G H S → Slots c.K G H S σ e → PostS c W G H S ks σ (f e) D → r W D σ H
section
variable {c : Ctx} {ks : List Nat}
theorem sst_asg {i : Nat} {a : Ex} (m : i ∈ ks) : SndS c ks (exS c.C (.asg i a)) fun W => rX c W (.asg i a) := by
  intro W σ e G H S D w sl h
  simp only [exS] at h
  simp only [rX, tAsg, gName]
  refine (snd_ex a).v W σ e G H S _ w sl (Post.st (.start w sl) h fun t e2 v G2 H2 P2 E2 y o k => ?_)
  exact k _ G2 H2 _ (keep_on σ i _ m) (y.store o i)
theorem sst_unp {t : Tg} {a : Ex} (m : ∀ i ∈ t.on, i ∈ ks) : SndS c ks (exS c.C (.unp t a)) fun W => rX c W (.unp t a) := by
  intro W σ e G H S D w sl h
  simp only [exS] at h
  simp only [rX, tAsg]
  refine (snd_ex a).v W σ e G H S _ w sl (Post.st (.start w sl) h fun u e2 v G2 H2 P2 E2 y o k => ?_)
  unfold frzR at k
  cases q : u.frz? with
  | none => rw [q] at k; exact k.elim
  | some x =>
    rw [q] at k
    obtain ⟨G', y', k', _⟩ := y.frzP o q
    simp only [lift_some, R.st_ok] at k
    cases b : bindT t x e2 with
    | none => rw [b] at k; exact k.elim
    | some e3 =>
      rw [b] at k
      refine bind_snd y'.sub y'.sl k'.1 k'.2 b fun σ' sl' kp => ?_
      exact k σ' G' H2 E2 (kp.wide m) ⟨y'.ext, y'.wf, y'.dj, sl'⟩
theorem sst_seti {i : Nat} {a k : Ex} : SndS c ks (exS c.C (.seti i k a)) fun W => rX c W (.seti i k a) := by
  intro W σ e G H S D w sl h
  simp only [exS] at h
  simp only [rX, tAsg, gSub]
  refine (snd_ex a).v W σ e G H S _ w sl (Post.st (.start w sl) h fun u e2 v G2 H2 P2 E2 y o k1 => ?_)
  unfold frzR at k1
  cases q : u.frz? with
  | none => rw [q] at k1; exact k1.elim
  | some x =>
    rw [q] at k1
    obtain ⟨G', y', k', _⟩ := y.frzP o q
    simp only [lift_some, R.st_ok] at k1
    split at k1
    · rename_i is
      cases g : (e2[i]?).join with
      | none => rw [g] at is; cases is
      | some t0 =>
        obtain ⟨v0, hv, k0⟩ := y'.sl.get (get_join g)
        refine ⟨v0, hv, ?_⟩
        refine (snd_ex k).o W σ e2 G' H2 E2 _ y'.wfE y'.sl (Post.st y' k1 fun z e3 u3 G3 H3 P3 E3 y3 o3 k3 => ?_)
        split at k3
        · rename_i t u g1 g2
          split at k3
          · rename_i t' s
            have x3 := (y'.trans y3).less (P1 := No) fun _ z => z.elim
            exact x3.setAt hv (get_join g1) (o3.now y3 g2) (k'.1.mono y3.ext.g) k'.2 s fun H4 x4 => k3 σ G3 H4 E3 .rfl' x4
          · exact k3.elim
        · exact k3.elim
    · exact k1.elim
theorem sst_ex {a : Ex} : SndS c ks (exS c.C (.ex a)) fun W => rX c W (.ex a) := by
  intro W σ e G H S D w sl h
  simp only [exS] at h
  simp only [rX, tDrop]
  refine (snd_ex a).v W σ e G H S _ w sl (Post.st (.start w sl) h fun t e2 v G2 H2 P2 E2 y o k => ?_)
  exact k _ G2 H2 _ .rfl' (y.less fun _ z => z.elim)
theorem sst_ret {a : Ex} : SndS c ks (exS c.C (.ret a)) fun W => rX c W (.ret a) := by
  intro W σ e G H S D w sl h
  simp only [exS] at h
  simp only [rX, tRet]
  refine (snd_ex a).v W σ e G H S _ w sl (Post.st (.start w sl) h fun t e2 v G2 H2 P2 E2 y o k => ?_)
  exact k _ v G2 H2 _ _ .rfl' y o
theorem sst_rse {x : Nat} {a : Ex} : SndS c ks (exS c.C (.rse x a)) fun W => rX c W (.rse x a) := by
  intro W σ e G H S D w sl h
  simp only [exS] at h
  simp only [rX]
  refine (snd_ex a).v W σ e G H S _ w sl (Post.st (.start w sl) h fun t e2 v G2 H2 P2 E2 y o k => ?_)
  exact ⟨by rw [sizeLine_eq]; simp only [List.length_singleton]; omega, k _ G2 H2 _ .rfl' (y.less fun _ z => z.elim)⟩
theorem sst_iff {a : Ex} {p q : Sts} (hp : SndS c ks (exSs c.C p) fun W => rXs c W p) (hq : SndS c ks (exSs c.C q) fun W => rXs c W q) : SndS c ks (exS c.C (.iff a p q)) fun W => rX c W (.iff a p q) := by
  intro W σ e G H S D w sl h
  simp only [exS] at h
  simp only [rX, tIfS]
  refine (snd_ex a).t W σ e G H S _ w sl (Post.st (.start w sl) h fun t e2 v G2 H2 P2 E2 y o k => ?_)
  cases o
  have y' := y.less (P1 := No) fun _ z => z.elim
  cases t with
  | true => exact hp W σ e2 G2 H2 E2 D y.wfE y.sl (PostS.shift y' .rfl' k)
  | false => exact hq W σ e2 G2 H2 E2 D y.wfE y.sl (PostS.shift y' .rfl' k)
theorem sst_fr {t : Tg} {s : Src} {b : Sts} (m : ∀ i ∈ t.on, i ∈ ks) (hb : SndS c ks (exSs c.C b) fun W => rXs c W b) : SndS c ks (exS c.C (.fr t s b)) fun W => rX c W (.fr t s b) := by
  intro W σ e G H S D w sl h
  simp only [exS] at h
  simp only [rX, tFor]
  refine snd_src s W σ e G H S _ w sl (Post.st (.start w sl) h fun xs e1 J G1 H1 P1 E1 y1 o1 k1 => ?_)
  obtain ⟨wk, oks, lxs⟩ := o1
  have y1' := y1.less (P1 := No) fun _ z => z.elim
  refine ⟨fun i m σi Hi => m = xs.length - i ∧ i ≤ xs.length ∧ ∃ ei Gi Ei, Wf Gi Hi Ei ∧ Slots c.K Gi Hi Ei σi ei ∧ Sub G1 Gi ∧ PostS c W Gi Hi Ei ks σi (loop t (exSs c.C b) (xs.drop i) ei) D,
    ⟨xs.length, rfl, Nat.zero_le _, e1, G1, E1, y1.wfE, y1.sl, Sub.refl _, PostS.shift y1' .rfl' (by simpa using k1)⟩, ?_⟩
  rintro i m' σi Hi ⟨rfl, li, ei, Gi, Ei, wi, si, g, run⟩
  by_cases c2 : i < xs.length
  · right
    refine ⟨wk.go i Hi (g.trans wi.sub) c2, fun σ' H' => ∃ ei Gi Ei, Wf Gi H' Ei ∧ Slots c.K Gi H' Ei σ' ei ∧ Sub G1 Gi ∧ PostS c W Gi H' Ei ks σ' (loop t (exSs c.C b) (xs.drop (i + 1)) ei) D,
      fun σ' H' n => ⟨_, by omega, rfl, c2, n⟩, fun v H' yl => ?_⟩
    obtain ⟨rfl, z, ez, dz⟩ := wk.yl i Hi v H' (g.trans wi.sub) c2 yl
    have okz := okDs_at oks ez
    rw [List.drop_eq_getElem_cons c2] at run
    have ez' : xs[i] = z := by rw [List.getElem?_eq_getElem c2] at ez; exact Option.some.inj ez
    rw [ez'] at run
    simp only [loop] at run
    cases q : bindT t z ei with
    | none => rw [q] at run; exact run.elim
    | some e2 =>
      rw [q] at run
      refine bind_snd wi.sub si (dz.mono g) okz q fun σ2 sl2 kp2 => ?_
      have run2 := PostS.shift (.start wi sl2) (kp2.wide m) run
      refine hb W σ2 e2 Gi H' Ei _ wi sl2 (PostS.seq run2 (fun e3 σ3 G3 H3 E3 kp4 x3 k3 => ?_) rfl rfl)
      exact ⟨e3, G3, E3, x3.wfE, x3.sl, g.trans x3.ext.g, PostS.shift x3 kp4 k3⟩
  · left
    have : i = xs.length := by omega
    subst this
    rw [List.drop_length] at run
    exact ⟨wk.st _ Hi (g.trans wi.sub) (Nat.le_refl _), run σi Gi Hi Ei .rfl' (.start wi si)⟩
theorem sst_wh {n : Nat} {a : Ex} {b : Sts} (hb : SndS c ks (exSs c.C b) fun W => rXs c W b) : SndS c ks (exS c.C (.wh n a b)) fun W => rX c W (.wh n a b) := by
  intro W σ e G H S D w sl h
  simp only [exS] at h
  simp only [rX, tWhile]
  refine ⟨fun m σi Hi => ∃ ei Gi Ei, Wf Gi Hi Ei ∧ Slots c.K Gi Hi Ei σi ei ∧ PostS c W Gi Hi Ei ks σi (whil (den c.C a).b (exSs c.C b) m ei) D, ⟨n, e, G, S, w, sl, h⟩, ?_⟩
  rintro m σi Hi ⟨ei, Gi, Ei, wi, si, run⟩
  cases m with
  | zero => exact run.elim
  | succ m =>
    simp only [whil] at run
    refine (snd_ex a).t W σi ei Gi Hi Ei _ wi si (Post.st (.start wi si) run fun t e2 v G2 H2 P2 E2 y o k => ?_)
    cases o
    have y' := y.less (P1 := No) fun _ z => z.elim
    cases t with
    | false =>
      rw [if_neg Bool.false_ne_true]
      simp only [Bool.false_eq_true, if_false] at k
      exact k σi G2 H2 E2 .rfl' y'
    | true =>
      rw [if_pos rfl]
      simp only [if_true] at k
      have run2 := PostS.shift y' .rfl' k
      refine ⟨fun σ' H' => ∃ ei Gi Ei, Wf Gi H' Ei ∧ Slots c.K Gi H' Ei σ' ei ∧ PostS c W Gi H' Ei ks σ' (whil (den c.C a).b (exSs c.C b) m ei) D, fun σ' H' n => ⟨m, Nat.lt_succ_self m, n⟩, ?_⟩
      refine hb W σi e2 G2 H2 E2 _ y.wfE y.sl (PostS.seq run2 (fun e3 σ3 G3 H3 E3 kp4 x3 k3 => ?_) rfl rfl)
      exact ⟨e3, G3, E3, x3.wfE, x3.sl, PostS.shift x3 kp4 k3⟩
theorem sst_tr {b h : Sts} {cs : Nat → Bool} (hb : SndS c ks (exSs c.C b) fun W => rXs c W b) (hh : SndS c ks (exSs c.C h) fun W => rXs c W h) : SndS c ks (exS c.C (.tr b cs h)) fun W => rX c W (.tr b cs h) := by
  intro W σ e G H S D w sl k
  simp only [exS] at k
  simp only [rX]
  refine hb _ σ e G H S D w sl ?_
  cases q : exSs c.C b e with
  | nx e => rw [q] at k; exact k
  | ret t e => rw [q] at k; exact k
  | bad => rw [q] at k; exact k
  | exc x e2 =>
    rw [q] at k
    intro σ' G' H' E' kp y
    refine ⟨x, rfl, rfl, fun m a _ => ?_, fun m => ?_⟩
    · simp only [m, if_true] at k
      refine hh WF σ' e2 G' H' E' D y.wfE y.sl ?_
      have k2 := PostS.shift y kp k
      cases q2 : exSs c.C h e2 with
      | nx e => rw [q2] at k2; exact k2
      | ret t e => rw [q2] at k2; exact k2
      | exc x e => rw [q2] at k2; exact k2.elim
      | bad => rw [q2] at k2; exact k2
    · simp only [m, Bool.false_eq_true, if_false] at k
      exact k σ' G' H' E' kp y
theorem Out.up {K : PySem.W.Frag} {G H G1 H1 H2 : Hp} {S P E : Addr → Prop} {σ : L2.St} {e : Env} (x : Out K G H S σ e G1 H1 P E) (up : ∀ a o, H1 a = some o → H2 a = some o) : Out K G H S σ e G1 H2 P E :=
  ⟨⟨x.ext.g, fun a o h n => up a o (x.ext.fr a o h n), x.ext.gn, x.ext.sn⟩, ⟨fun a o h => up a o (x.wf.sub a o h), fun a s => by
    obtain ⟨h1, o, h2⟩ := x.wf.own a s
    exact ⟨h1, o, up a o h2⟩⟩, x.dj, x.sl.keep (Sub.refl _) fun a o _ h => up a o h⟩
theorem sst_trf {b : Sts} {cs : Nat → Bool} {h : Nat → Option PyData} (hb : SndS c ks (exSs c.C b) fun W => rXs c W b) : SndS c ks (exS c.C (.trf b cs h)) fun W => rX c W (.trf b cs h) := by
  intro W σ e G H S D w sl k
  simp only [exS] at k
  simp only [rX]
  refine hb _ σ e G H S D w sl ?_
  cases q : exSs c.C b e with
  | nx e => rw [q] at k; exact k
  | ret t e => rw [q] at k; exact k
  | bad => rw [q] at k; exact k
  | exc x e2 =>
    rw [q] at k
    intro σ' G' H' E' kp y
    refine ⟨x, rfl, rfl, fun m a _ => ?_, fun m => ?_⟩
    · simp only [m, if_true] at k
      cases z : h x with
      | none => rw [z] at k; exact k.elim
      | some d =>
        rw [z] at k
        by_cases sc : scal d = true
        · simp only [sc, if_true] at k
          exact ⟨d, rfl, sc, fun H1 up => k σ' _ G' H1 No E' kp (y.up up) (scal_snd sc)⟩
        · simp only [sc, if_false] at k
          exact k.elim
    · simp only [m, Bool.false_eq_true, if_false] at k
      exact k σ' G' H' E' kp y
theorem sst_pass : SndS c ks (exS c.C .pass) fun W => rX c W .pass := by
  intro W σ e G H S D w sl k
  exact k σ G H S .rfl' (.start w sl)
end
mutual
theorem snd_st {c : Ctx} {ks : List Nat} : ∀ s : St, (∀ i ∈ s.on, i ∈ ks) → SndS c ks (exS c.C s) fun W => rX c W s
  | .asg i a, m => sst_asg (m i (by simp [St.on]))
  | .unp t a, m => sst_unp m
  | .seti i k a, _ => sst_seti
  | .set2 i j k a, _ => fun W σ e G H S D w sl h => h.elim
  | .ex a, _ => sst_ex
  | .iff a p q, m => sst_iff (snd_sts p fun i h => m i (by simp [St.on, h])) (snd_sts q fun i h => m i (by simp [St.on, h]))
  | .fr t s b, m => sst_fr (fun i h => m i (by simp [St.on, h])) (snd_sts b fun i h => m i (by simp [St.on, h]))
  | .wh n a b, m => sst_wh (snd_sts b m)
  | .ret a, _ => sst_ret
  | .rse x a, _ => sst_rse
  | .tr b cs h, m => sst_tr (snd_sts b fun i z => m i (by simp [St.on, z])) (snd_sts h fun i z => m i (by simp [St.on, z]))
  | .trf b cs h, m => sst_trf (snd_sts b m)
  | .pass, _ => sst_pass
theorem snd_sts {c : Ctx} {ks : List Nat} : ∀ s : Sts, (∀ i ∈ s.on, i ∈ ks) → SndS c ks (exSs c.C s) fun W => rXs c W s
  | .nil, _ => fun W σ e G H S D w sl k => k σ G H S .rfl' (.start w sl)
  | .cons s ss, m => fun W σ e G H S D w sl k =>
    snd_st s (fun i z => m i (by simp [Sts.on, z])) W σ e G H S _ w sl (PostS.seq k (fun e1 σ1 G1 H1 E1 kp x k1 =>
      snd_sts ss (fun i z => m i (by simp [Sts.on, z])) W σ1 e1 G1 H1 E1 D x.wfE x.sl (PostS.shift x kp k1)) rfl rfl)
end
end Mv
end
section
set_option Elab.async false
set_option linter.all false
set_option maxHeartbeats 2000000
/-! Mv: a def keeps what its run says. -/
namespace Mv
open PySem L2
open Classical

section
variable {c : Ctx} {G H G' H' : Hp} {S P E : Addr → Prop} {σ : L2.St} {e : Env}
theorem outs_get {ps : List Bool} {e : Env} {i : Nat} {t : T} (h : (outs ps e)[i]? = some (some t)) : ps[i]? = some true ∧ e[i]? = some (some t) := by
  unfold outs at h
  rw [List.getElem?_map] at h
  cases q : (ps.zip e)[i]? with
  | none => rw [q] at h; cases h
  | some p =>
    rw [q] at h
    rw [List.getElem?_zip_eq_some] at q
    obtain ⟨q1, q2⟩ := q
    have h' : (if p.1 = true then p.2 else none) = some t := Option.some.inj h
    split at h'
    · rename_i z
      rw [q1, q2, h', z]
      exact ⟨rfl, rfl⟩
    · cases h'
/-- the parameters' slots at the end -/
theorem outs_snd {ks : List Nat} {vs : List V} {r : List (Option V)} {ps : List Bool} {σ' : L2.St} (kp : Keep ks (vs.map some ++ r) σ') (hl : ps.length = vs.length) (hs : ∀ j, ps[j]? = some true → j ∉ ks) (x : Out c.K G H S σ' e G' H' P E) :
    Out c.K G H S (vs.map some) (outs ps e) G' H' P E := by
  refine ⟨x.ext, x.wf, x.dj, ?_⟩
  obtain ⟨l, O, h1, h2, h3⟩ := x.sl
  refine ⟨?_, O, h1, h2, fun i t q => ?_⟩
  · unfold outs
    simp only [List.length_map, List.length_zip]
    omega
  · obtain ⟨q1, q2⟩ := outs_get q
    obtain ⟨v, a, b⟩ := h3 i t q2
    refine ⟨v, ?_, b⟩
    rw [kp.at_ i (hs i q1)] at a
    have il : i < ps.length := (List.getElem?_eq_some_iff.mp q1).1
    rw [List.getElem?_append_left (by simpa [← hl] using il)] at a
    exact a
end
/-- a def's body, at its slots: what is shown of it -/
theorem body_snd {c : Ctx} {D : Def} {N : List Str} {vs : List V} {ts : List T} {G H : Hp} {S : Addr → Prop} {Q : VK} {E : XK} (hN : D.n = N.length) (hst : ∀ j, D.ps[j]? = some true → j ∉ D.body.on)
    (w : Wf G H S) (hl : vs.length = ts.length) (sl : Slots c.K G H S (vs.map some) (ts.map some)) (h : CPost c G H S vs (D.run c.C ts) Q E) :
    vs.length = D.ps.length ∧ rXs c (fun cls d _ H => E cls d H) D.body { nx := fun _ H' => Q .non H', rt := Q } (L2.start N vs) H := by
  unfold Def.run at h
  split at h
  · rename_i ln
    refine ⟨hl.trans ln, ?_⟩
    have sl2 : Slots c.K G H S (L2.start N vs) (ts.map some ++ List.replicate (D.n - ts.length) none) := by
      obtain ⟨l, O, h1, h2, h3⟩ := sl
      refine ⟨by simp [L2.start, hN, hl], O, h1, h2, fun i t q => ?_⟩
      have il : i < (ts.map some).length := by
        by_cases z : i < (ts.map some).length
        · exact z
        · rw [List.getElem?_append_right (by omega)] at q
          have := List.mem_of_getElem? q
          simp [List.mem_replicate] at this
      rw [List.getElem?_append_left il] at q
      obtain ⟨v, a, b⟩ := h3 i t q
      refine ⟨v, ?_, b⟩
      show (vs.map some ++ _)[i]? = _
      rw [List.getElem?_append_left (by simpa [hl] using il)]
      exact a
    refine snd_sts (ks := D.body.on) D.body (fun _ h => h) _ _ _ G H S _ w sl2 ?_
    cases q : exSs c.C D.body (ts.map some ++ List.replicate (D.n - ts.length) none) with
    | nx e =>
      rw [q] at h
      intro σ' G' H' E' kp x
      exact h .non G' H' No E' (outs_snd kp (by omega) hst x) ⟨.non, rfl⟩
    | ret t e =>
      rw [q] at h
      intro σ' v G' H' P' E' kp x o
      exact h v G' H' P' E' (outs_snd kp (by omega) hst x) o
    | exc z e =>
      rw [q] at h
      intro σ' G' H' E' kp x
      exact h G' H' E' (outs_snd kp (by omega) hst x)
    | bad => rw [q] at h; exact h.elim
  · exact h.elim
/-- one def, as the program has it -/
structure FnI where
  name : Str
  ps : List Str
  N : List Str
/-- a def keeps its promise at level k + 1 where its body, at level k, comes to its reading -/
theorem def_snd {P : Program} {w : World} {K : PySem.W.Frag} {mg : Str → Option Value} {base : Heap} {x qual : Str} {params : Arguments} {body : List Stmt} {scope : Scope} {dvs : List V} {kws : List (Str × V)} {fa : Addr} {fd : FuncData}
    {N ps : List Str} {k m f : Nat} {p : Prog} {cl : Nat → Value} {D : Def} (F : FunD K x qual params body scope dvs kws fa fd) (S : FnScope N ps scope) (hD : p[f]? = some D) (hN : D.n = N.length) (hps : D.ps.length = ps.length) (hst : ∀ j, D.ps[j]? = some true → j ∉ D.body.on)
    (hb : ∀ (cdv : Value) (A : Around) (outer : List PySem.Env) (s : Shared) (H : Hp) (E : XK), Room m (A.deeper (PyProof.Rows.envOfC qual scope s.heap.objs.size fa cdv)) →
      PSs (cxOf (L2N.CX P w) P w K mg base N qual scope fa cdv A outer s H E) body (rXs ⟨K, run p k, cl⟩ (fun cls d _ H => E cls d H) D.body)) :
    FnOk P w K mg base (L2N.CX P w) (m + 1) fa fd ps (spOf ⟨K, run p (k + 1), cl⟩ f) := by
  have run_eq : ∀ ts, (run p (k + 1)) f ts = D.run (run p k) ts := fun ts => by simp only [run, hD]
  refine F.ok S (fun vs H Q E h => ?_) fun cdv A outer s H vs Q E hr h => ⟨_, hb cdv A outer s H E hr, ?_⟩
  · obtain ⟨G, S, ts, w, hl, sl, h⟩ := h
    have h' : CPost ⟨K, run p k, cl⟩ G H S vs (D.run (run p k) ts) Q E := by rw [← run_eq]; exact h
    exact (body_snd (c := ⟨K, run p k, cl⟩) hN hst w hl sl h').1.trans hps
  · obtain ⟨G, S, ts, w, hl, sl, h⟩ := h
    have h' : CPost ⟨K, run p k, cl⟩ G H S vs (D.run (run p k) ts) Q E := by rw [← run_eq]; exact h
    exact (body_snd (c := ⟨K, run p k, cl⟩) hN hst w hl sl h').2
/-- at level 0 nothing is promised -/
theorem def_zero {P : Program} {w : World} {K : PySem.W.Frag} {mg : Str → Option Value} {base : Heap} {fa : Addr} {fd : FuncData} {ps : List Str} {f m : Nat} {p : Prog} {cl : Nat → Value} : FnOk P w K mg base (L2N.CX P w) m fa fd ps (spOf ⟨K, run p 0, cl⟩ f) :=
  ⟨fun vs H Q E ⟨_, _, _, _, _, _, h⟩ => h.elim, fun A outer s H args us vs Q E _ _ _ _ ⟨_, _, _, _, _, _, h⟩ => h.elim⟩
end Mv
end
section
set_option Elab.async false
set_option linter.all false
set_option maxHeartbeats 2000000
/-! Mv: the rules of its operations. -/
namespace Mv
open PySem PySem.Spec PyProof.Rows L2
open Classical

def BOp.op : BOp → Operator
  | .add => .Add
  | .sub => .Sub
  | .mul => .Mult
  | .fdiv => .FloorDiv
  | .mod => .Mod
  | .pow => .Pow
def COp.op : COp → CmpOp
  | .eq => .Eq
  | .ne => .NotEq
  | .lt => .Lt
  | .le => .LtE
  | .gt => .Gt
  | .ge => .GtE
  | .isin => .In
  | .notin => .NotIn
  | .is => .Is
  | .isnot => .IsNot
section
variable {X : Cx}
theorem opBin (o : BOp) : OpR X (binaryOp o.op) (rBin X.K o) := by
  cases o with
  | add => exact op_add.or (op_add_str.or (op_cat.or op_catT))
  | sub => exact op_sub
  | mul => exact op_mul
  | fdiv => exact op_fdiv
  | mod => exact op_mod
  | pow => exact op_pow
theorem op_dIn (hu : X.A.units + 1 < cLine) : OpR X (compareOp .In) rDIn := by
  intro pins s σ H x y v u Q I rx ry h
  obtain ⟨a, o, ey, g, q⟩ := h
  subst ey
  obtain rfl : u = Value.ref a := ry
  exact d_in hu I g rx fun s3 I3 => ⟨.bl o.isSome, H, I3, rfl, q⟩
theorem op_dNotIn (hu : X.A.units + 1 < cLine) : OpR X (compareOp .NotIn) rDNotIn := by
  intro pins s σ H x y v u Q I rx ry h
  obtain ⟨a, o, ey, g, q⟩ := h
  subst ey
  obtain rfl : u = Value.ref a := ry
  exact d_notIn hu I g rx fun s3 I3 => ⟨.bl (!o.isSome), H, I3, rfl, q⟩
theorem op_inT (hu : X.A.units + 65 < cLine) : OpR X (compareOp .In) (rInT X.K) := by
  intro pins s σ H x y v u Q I rx ry h
  obtain ⟨d, ds, hd, he, sd, se, q⟩ := h
  obtain ⟨as, r1⟩ := Dp.reads I d x v hd rx
  obtain ⟨bs, r2⟩ := Dp.reads I (.tuple ds) y u he ry
  exact SeqAt.in_tuple_reads r2 r1 (SeqAt.canLay_of_shaped se) (SeqAt.canLay_of_shaped sd) (room_in_shaped sd hu) ⟨.bl _, H, I, rfl, q⟩
theorem op_notInT (hu : X.A.units + 65 < cLine) : OpR X (compareOp .NotIn) (rNotInT X.K) := by
  intro pins s σ H x y v u Q I rx ry h
  obtain ⟨d, ds, hd, he, sd, se, q⟩ := h
  obtain ⟨as, r1⟩ := Dp.reads I d x v hd rx
  obtain ⟨bs, r2⟩ := Dp.reads I (.tuple ds) y u he ry
  exact SeqAt.notIn_tuple_reads r2 r1 (SeqAt.canLay_of_shaped se) (SeqAt.canLay_of_shaped sd) (room_in_shaped sd hu) ⟨.bl _, H, I, rfl, q⟩
theorem opCmp (hu : X.A.units + 65 < cLine) (o : COp) : OpR X (compareOp o.op) (rCmp X.K o) := by
  have h64 : X.A.units + 64 < cLine := by omega
  have h1 : X.A.units + 1 < cLine := by omega
  cases o with
  | eq => exact op_eqD h64
  | ne => exact op_neD h64
  | lt => exact op_lt.or op_lt_str
  | le => exact op_le
  | gt => exact op_gt
  | ge => exact op_ge
  | isin => exact (op_inD hu).or ((op_dIn h1).or (op_in_str.or (op_inT hu)))
  | notin => exact (op_notInD hu).or ((op_dNotIn h1).or (op_notin_str.or (op_notInT hu)))
  | is => exact op_isN.or op_isBl
  | isnot => exact op_notN.or op_notBl
theorem ix_dict (hu : X.A.units + 1 < cLine) : IxR X (fun x y H Q => ∃ a v, x = .ref a ∧ DGet H a y (some v) ∧ Q v H) := by
  intro value slice pins s σ H x y v u Q I rx ry h hs
  obtain ⟨a, w, ex, g, q⟩ := h
  subst ex
  obtain rfl : v = Value.ref a := rx
  exact tail_any (dict_typeIs I g) PySem.F.slot_dict_getitem.lookup (d_getItem hu I g ry fun w' s3 I3 rw' => ⟨w, H, I3, rw', q⟩) hs
theorem opItem (hu : X.A.units + 65 < cLine) : IxR X (rItem X.K) := ix_seq.or (ix_dict (by omega))
theorem opSlice : SlR X (rSlice X.K) := sl_list.or (sl_tup.or sl_str)
theorem opSet (hu : X.A.units + 65 < cLine) : PSet X rSetU := by
  intro pins s σ H o i v ov iv u Q I ro ri rv h
  rcases h with h | h
  · exact set_list pins s σ H o i v ov iv u Q I ro ri rv h
  · exact set_dict (by omega) pins s σ H o i v ov iv u Q I ro ri rv h
theorem eachV : ∀ {ps : List (V × PyData)} {its : List Value}, Vals (ps.map (·.1)) its → PySem.W.EachIs (fun (u : Value) (p : V × PyData) => RelV p.1 u) its ps
  | [], _, h => by cases h; exact .nil
  | p :: ps, _, h => by
    cases h with
    | cons r rs => exact .cons r (eachV rs)
theorem vals_each : ∀ {ps : List (V × PyData)} {its : List Value}, PySem.W.EachIs (fun (u : Value) (p : V × PyData) => RelV p.1 u) its ps → Vals (ps.map (·.1)) its
  | _, _, .nil => .nil
  | _, _, .cons r rs => .cons r (vals_each rs)
theorem each_reads {pins : List (Addr × Obj)} {σ : L2.St} {H : Hp} {s : Shared} (I : Inv X pins σ H s) : ∀ {ps : List (V × PyData)} {its : List Value}, (∀ p ∈ ps, Dp X.K H p.1 p.2) → Vals (ps.map (·.1)) its →
    PySem.W.EachIs (fun (u : Value) (p : V × PyData) => ∃ as, Reads s.heap u p.2 as) its ps
  | [], _, _, h => by cases h; exact .nil
  | p :: ps, _, d, h => by
    cases h with
    | cons r rs => exact .cons (Dp.reads I p.2 p.1 _ (d p List.mem_cons_self) r) (each_reads I (fun q m => d q (List.mem_cons_of_mem _ m)) rs)
theorem cr_sortD (hu : X.A.units + 65 < cLine) : CallR X (.builtin "sorted") (rSortD X.K) := by
  intro pins s σ H vs us Q I r h
  obtain ⟨a, ps, rfl, hs, hd, al, so, z, dep, q⟩ := h
  obtain ⟨its, rv, hl, _⟩ := I.list hs
  rw [Vals.ref1 r]
  refine PySem.W.sorted_data (enc := fun p : V × PyData => p.2) (bs := ps) hl.isList (eachV rv) (each_reads I hd rv) al so (by rw [LINE_eq]; exact z) (fun b m => by have := dep b m; omega) fun out ho eo => ?_
  obtain ⟨ep, he'⟩ := PyProof.Rows.sortedAll_at s.heap its out.toArray
  have hlen : ((ps.mergeSort (PySem.W.dataLe false (·.2))).map (·.1)).length ≤ sizeLine := by
    rw [List.length_map, (List.mergeSort_perm ps _).length_eq, LINE_eq]; exact z
  exact ⟨.ref _, upd H (s.heap.objs.size + 1) (.lst ((ps.mergeSort (PySem.W.dataLe false (·.2))).map (·.1))), I.laid (t' := s.toks) (fun _ _ => PyProof.Rows.sortedAll_old) (Nat.le_succ _) ⟨hlen, out, ep, vals_each eo, he'⟩, rfl, q _ (I.hok.fresh (Nat.le_succ _))⟩
/-- a built-in that is a function; a type -/
def Fn.val : Fn → Value
  | .len => .builtin "len"
  | .list => .type "list"
  | .tuple => .type "tuple"
  | .sorted => .builtin "sorted"
  | .sum => .builtin "sum"
  | .abs => .builtin "abs"
  | .int => .type "int"
  | .str => .type "str"
  | .min2 => .builtin "min"
  | .max2 => .builtin "max"
  | .min1 => .builtin "min"
  | .max1 => .builtin "max"
def Fn.nm : Fn → Str
  | .len => "len"
  | .list => "list"
  | .tuple => "tuple"
  | .sorted => "sorted"
  | .sum => "sum"
  | .abs => "abs"
  | .int => "int"
  | .str => "str"
  | .min2 => "min"
  | .max2 => "max"
  | .min1 => "min"
  | .max1 => "max"
theorem fn_boot (f : Fn) : bootBuiltins f.nm = some f.val := by cases f <;> decide +kernel
theorem opFn (hc : X.calm = true) (hu : X.A.units + 65 < cLine) (f : Fn) : CallR X f.val (rFn X.K f) := by
  cases f with
  | len => exact call_len
  | list => exact call_list_of
  | tuple => exact call_tuple_of
  | sorted => exact cr_sortD hu
  | sum => exact cr_sum hc
  | abs => exact call_abs
  | int => exact call_int1
  | str => exact call_str_int
  | min2 => exact call_min2 hc
  | max2 => exact call_max2 hc
  | min1 => exact cr_min hc
  | max1 => exact cr_max hc
end
end Mv
end
section
set_option Elab.async false
set_option linter.all false
set_option maxRecDepth 100000
set_option maxHeartbeats 4000000
/-! Mv: a comprehension while an exception is handled; a def called with that exception. -/
namespace Mv
open PySem PySem.Spec PyProof.Rows L2
open Classical

/-! ### the block of a comprehension, the handled exception pinned in it -/
abbrev blkP (X : Cx) (p : Addr × Obj) (s : Shared) (H : Hp) (scope : Scope) (cenv : PySem.Env) (fp : List Addr) : Cx := { X.blk s H scope cenv fp with pn := [p] }
theorem blk_pin {X : Cx} {pins : List (Addr × Obj)} {σ σ4 : L2.St} {H : Hp} {s s4 : Shared} {scope : Scope} {ce : PySem.Env} {fp : List Addr} {p : Addr × Obj} (I : Inv X pins σ H s) (hp : p ∈ X.pn) (B : Inv (X.blk s H scope ce fp) [] σ4 H s4)
    (kp : ∀ b o, s.heap.get? b = some o → s4.heap.get? b = some o) (cl : ce.locals = s.heap.objs.size) : Inv (blkP X p s H scope ce fp) [] σ4 H s4 := by
  have P := I.pin p (List.mem_append_left _ hp)
  have o := B.ok
  refine ⟨⟨o.mod, o.kind, o.glob, o.blt, o.above, o.inj, o.has, o.cab, o.hd, o.frames, o.stk, o.exf, o.bs, o.bsz, o.noex, o.exfs, o.funs, o.frf⟩, B.os, B.bare, B.base, B.loc, B.cell, B.free, B.freeC, fun q hq => ?_, B.hok, B.len⟩
  have e : q = p := by simpa using (show q ∈ [p] ++ ([] : List (Addr × Obj)) from hq)
  subst e
  have lt := Heap.lt_size P.1
  refine ⟨kp _ _ P.1, P.2.1, ?_, fun hm => ?_, P.2.2.2.2⟩
  · show q.1 ≠ ce.locals
    rw [cl]; exact Nat.ne_of_lt lt
  · rcases List.mem_cons.mp (I.stkSub q.1 hm) with z | z
    · exact P.2.2.1 z
    · exact P.2.2.2.1 z
section
variable {X : Cx} {p : Addr × Obj}
theorem hot_blk {s : Shared} {H : Hp} {scope : Scope} {ce : PySem.Env} {fp : List Addr} (h1 : L2H.Hot1 X.A p) : L2H.HotC (blkP X p s H scope ce fp) := ⟨p, h1, List.mem_singleton_self p⟩
theorem lc_hot {pins : List (Addr × Obj)} {s : Shared} {σ : L2.St} {H : Hp} {Q : VK} {elt tg iter : Expr} {ifs : List Expr} {scope : Scope} {own : List (Str × Nat)} {pos pos' : Pos} {wi : TI} {g : TG} {tt : TT} {te : TE} {use : Option (Value → Sem Unit)} {Qf : Value → Shared → Prop}
    (hp : p ∈ X.pn) (h1 : L2H.Hot1 X.A p) (hN : X.N.Nodup) (I : Inv X pins σ H s) (hi : L2H.PIH X tg iter wi) (ok : BlkOk X.N X.env.scope scope own)
    (hg : ∀ s H C cl fp, PG (blkP X p s H scope (compEnvC scope cl C X.env) fp) tg g) (ht : ∀ s H C cl fp, PTs (blkP X p s H scope (compEnvC scope cl C X.env) fp) ifs tt) (he : ∀ s H C cl fp, PE (blkP X p s H scope (compEnvC scope cl C X.env) fp) elt te)
    (hs : ∀ x, foldedSetIterable iter X.env x = pure x) (h : tLc wi g tt te (own.map (·.2)) σ H Q)
    (hR : ∀ D C s' m H', Inv X pins σ H' s' → Q (.ref D) H' → s'.heap.Ns C m → FpOk X pins H' C → compPost (model X.prog X.w) X.A X.xe use Qf (.ref D) C (.ok .next) s') :
    wpAny (model X.prog X.w) X.A (comprehension (.ListComp elt [⟨tg, iter, ifs, 0⟩] scope pos) scope X.env pos' (newList []) false (eval iter X.env) use) Qf X.xe s := by
  have cells : ∀ y ∈ scope.names, y.2 = .free → ∃ c, X.env.cells.lookup y.1 = some c := fun y hy e => (ok.free y hy e).elim (fun k => I.ok.has _ (.inl k)) fun k => I.ok.has _ (.inr k)
  refine wpAny_comprehension_free (use := use) rfl hs (closure_ok cells) ok.kind (fun y hy e => by rw [ok.uniq y hy, e]) (thn (hi.run pins s σ H _ I h) fun xv sa ha => thn ha fun itv sb hb => ?_)
  obtain ⟨it, fp, tn, J, Hb, ei, Ib, T, tb, fb, q⟩ := hb
  subst ei
  refine wpAny_newObj_type (newEnv_comp ?_) (by show 0 ≤ sizeLine; decide)
  -- D: the list that is made
  generalize hD : sb.heap.objs.size = D
  obtain ⟨W, ⟨m0, w0⟩, turn⟩ := q D (Ib.hok.fresh (Nat.le_of_eq hD))
  generalize hc : ({ sb with heap := sb.heap.push { cls := .type "list", data := .seq ([] : List Value).toArray } } : Shared) = sc
  have hch : sc.heap = sb.heap.push { cls := .type "list", data := .seq ([] : List Value).toArray } := by rw [← hc]
  have Ic : Inv X pins σ (upd Hb D (.lst [])) sc := by
    rw [← hc]
    refine Ib.laid (t' := sb.toks) (fun b o e => Heap.get?_push_of_some _ e) (Nat.le_of_eq hD) ⟨Nat.zero_le _, [], 0, .nil, ?_⟩
    rw [← hD]; exact Heap.get?_push_size _ rfl
  have fc : ∀ b ∈ fp, FpOk X pins (upd Hb D (.lst [])) b ∧ b < sc.heap.objs.size := fun b hb => by
    obtain ⟨o, e, _⟩ := T.obj _ _ tb b hb
    have lt := Heap.lt_size e
    refine ⟨⟨?_, (fb b hb).2⟩, by rw [hch, Heap.size_push]; exact Nat.lt_succ_of_lt lt⟩
    rw [upd_ne (by rw [← hD]; exact Nat.ne_of_lt lt)]
    exact (fb b hb).1
  have tc : tn 0 sc.heap := T.keep _ _ _ tb fun b _ o e => by rw [hch]; exact Heap.get?_push_of_some _ e
  generalize hcl : cellsFrom (sc.heap.objs.size + 1) scope.names (cloFrom X.env.cells scope.names []) = cl
  have Bd := block_start Ic ok hN fc
  rw [hcl] at Bd
  have kp : ∀ b o, sc.heap.get? b = some o → (pushCells (sc.heap.push { cls := .type "dict", data := .dict #[] }) scope.names).get? b = some o := fun b o e => pushCells_keeps _ _ _ _ (Heap.get?_push_of_some _ e)
  have Bp := blk_pin Ic hp Bd kp rfl
  have pg := hg sc (upd Hb D (.lst [])) sc.heap.objs.size cl fp
  have pt := ht sc (upd Hb D (.lst [])) sc.heap.objs.size cl fp
  have pe := he sc (upd Hb D (.lst [])) sc.heap.objs.size cl fp
  have hot := hot_blk (X := X) (p := p) (s := sc) (H := upd Hb D (.lst [])) (scope := scope) (ce := compEnvC scope cl sc.heap.objs.size X.env) (fp := fp) h1
  show codeAny _ _ (.compStart (.ListComp elt [⟨tg, iter, ifs, 0⟩] scope pos) 0 (.ref it) (.ref D) (compEnvC scope cl sc.heap.objs.size X.env)) (compPost (model X.prog X.w) X.A X.xe use Qf (.ref D) sc.heap.objs.size) { sc with heap := pushCells (sc.heap.push { cls := .type "dict", data := .dict #[] }) scope.names }
  have cL : (compEnvC scope cl sc.heap.objs.size X.env).locals = sc.heap.objs.size := rfl
  generalize compEnvC scope cl sc.heap.objs.size X.env = ce at Bp pg pt pe hot cL ⊢
  generalize upd Hb D (.lst []) = Hc at Ic Bp pg pt pe hot w0 fc
  have td : tn 0 ({ sc with heap := pushCells (sc.heap.push { cls := .type "dict", data := .dict #[] }) scope.names } : Shared).heap := T.keep _ _ _ tc fun b _ o e => kp b o e
  generalize ({ sc with heap := pushCells (sc.heap.push { cls := .type "dict", data := .dict #[] }) scope.names } : Shared) = sd at Bp td ⊢
  have fpOk : ∀ {σ' : L2.St} {H' : Hp} {s' : Shared}, Inv (blkP X p sc Hc scope ce fp) [] σ' H' s' → (∀ b ∈ fp, H' b = none) → ∀ b ∈ fp, FpOk (blkP X p sc Hc scope ce fp) [] H' b := fun {σ' H' s'} V hn b hb =>
    ⟨hn b hb, (V.ok.exf b hb).1, V.ok.exfs b hb, .inl hb, fun x c e => (V.ok.exf b hb).2 x c e, fun q hq => (fc b hb).1.2.2.2.2.2 q (List.mem_append_left _ (by
      have e : q = p := by simpa using (show q ∈ [p] ++ ([] : List (Addr × Obj)) from hq)
      rw [e]; exact hp))⟩
  have loop : codeAny (model X.prog X.w) X.A (.compLoop (.ListComp elt [⟨tg, iter, ifs, 0⟩] scope pos) 0 (.ref it) (.ref D) ce) (compPost (model X.prog X.w) X.A X.xe use Qf (.ref D) sc.heap.objs.size) sd := by
    refine compLoop_any (fun n s' => ∃ i H', Inv (blkP X p sc Hc scope ce fp) [] (wipe σ (own.map (·.2))) H' s' ∧ tn i s'.heap ∧ (∀ b ∈ fp, H' b = none) ∧ W i n H') ?_ m0 ⟨0, Hc, Bp, td, fun b hb => (fc b hb).1.1, w0⟩
    rintro n s5 ⟨i, H5, V, t5, n5, w5⟩
    rcases turn i n H5 w5 with ⟨stop, qq⟩ | ⟨go, Nx, less, step⟩
    · refine thnF (T.done (blkP X p sc Hc scope ce fp) rfl rfl rfl hot i [] s5 _ H5 (fun _ _ => False) V (fpOk V n5) t5 stop) fun r s6 ⟨hr, V6⟩ => ?_
      subst hr
      have J : Inv X pins σ H5 s6 := Ic.call' (ch := fp) V6.os V6.base V6.hok V6.bare fun b hb => ⟨(fc b hb).1.2.2.2.1, (fc b hb).1.2.1, (fc b hb).1.2.2.2.2.1, (fc b hb).1.2.2.2.2.2⟩
      have zf : H5 ce.locals = none := V6.free
      obtain ⟨m, hn, _⟩ := V6.loc
      have hn : s6.heap.Ns ce.locals m := hn
      rw [cL] at hn zf
      exact hR D sc.heap.objs.size s6 m H5 J qq hn (Ic.fpOk (Nat.le_refl _) zf)
    · refine thnF (T.item (blkP X p sc Hc scope ce fp) rfl rfl rfl hot i [] s5 _ H5 (fun _ _ => False) V (fpOk V n5) t5 go) fun r s6 ⟨u, hr, h6⟩ => ?_
      subst hr
      refine thnF h6 fun _ s7 ⟨x, H7, V7, r7, y7, t7, n7⟩ => ?_
      have V7p := V7.pinned (fpOk V7 n7) (T.obj _ _ t7)
      refine thnF (pg.run _ s7 _ H7 x u _ V7p r7 (step x H7 y7)) fun _ s8 ⟨σ8, H8, V8, w8, q8⟩ => ?_
      refine thnF (pt.run _ s8 σ8 H8 _ V8 q8) fun b s9 ⟨H9, V9, q9⟩ => ?_
      -- a turn ends
      have turnEnd : ∀ {s' : Shared} {H' : Hp}, Inv (blkP X p sc Hc scope ce fp) ([] ++ pinsAt fp s7.heap) σ8 H' s' → Nx H' → ∃ m, m < n ∧ ∃ i H', Inv (blkP X p sc Hc scope ce fp) [] (wipe σ (own.map (·.2))) H' s' ∧ tn i s'.heap ∧ (∀ b ∈ fp, H' b = none) ∧ W i m H' := fun {s' H'} V' nx => by
        obtain ⟨m', lt, w'⟩ := less H' nx
        have held : ∀ b ∈ fp, ∀ o, s7.heap.get? b = some o → s'.heap.get? b = some o ∧ H' b = none := fun b hb o e =>
          have z := V'.pin (b, o) (List.mem_append_right _ (List.mem_append_right _ (mem_pinsAt hb e)))
          ⟨z.1, z.2.1⟩
        have ll : (wipe σ (own.map (·.2))).length = σ8.length := by rw [← w8, wipe_length]
        refine ⟨m', lt, i + 1, H', (V'.unpinned (pins := [])).weak ll (fun j v e => ?_), T.keep _ _ _ t7 fun b hb o e => (held b hb o e).1, fun b hb => ?_, w'⟩
        · rw [← w8] at e; exact (wipe_some e).1
        · obtain ⟨o, e, _⟩ := T.obj _ _ t7 b hb
          exact (held b hb o e).2
      cases b with
      | false =>
        simp only [Bool.false_eq_true, if_false] at q9 ⊢
        exact turnEnd V9 q9
      | true =>
        simp only [if_true] at q9 ⊢
        refine thnF (pe.run _ s9 σ8 H9 _ V9 q9) fun z s10 ⟨yv, H10, V10, r10, acc, hD10, hz10, nx⟩ => ?_
        exact app_ok (X := blkP X p sc Hc scope ce fp) V10 hD10 hz10 r10 fun s11 V11 => turnEnd V11 nx
  exact codeAny_compStart_list loop (T.self X.A 0 _ _ _ td loop)
/-- name = [..], while p is handled -/
theorem ps_setLcP {i : Nat} {y : Str} {py : Pos} {elt tg iter : Expr} {ifs : List Expr} {scope : Scope} {own : List (Str × Nat)} {pos spos : Pos} {wi : TI} {g : TG} {tt : TT} {te : TE} (hp : p ∈ X.pn) (h1 : L2H.Hot1 X.A p) (hN : X.N.Nodup) (hy : X.N[i]? = some y) (hyl : X.env.scope.names.lookup y = some .local)
    (hsw : swapsWith (.ListComp elt [⟨tg, iter, ifs, 0⟩] scope pos) (some (.Name y py)) spos.line X.env = pure true) (hi : L2H.PIH X tg iter wi) (ok : BlkOk X.N X.env.scope scope own)
    (hg : ∀ s H C cl fp, PG (blkP X p s H scope (compEnvC scope cl C X.env) fp) tg g) (ht : ∀ s H C cl fp, PTs (blkP X p s H scope (compEnvC scope cl C X.env) fp) ifs tt) (he : ∀ s H C cl fp, PE (blkP X p s H scope (compEnvC scope cl C X.env) fp) elt te)
    (hs : ∀ x, foldedSetIterable iter X.env x = pure x := by intro _; rfl) : PS X (.Assign [.Name y py] (.ListComp elt [⟨tg, iter, ifs, 0⟩] scope pos) spos) (tAsg (tLc wi g tt te (own.map (·.2))) (gName i)) := by
  refine ⟨fun pins s σ H D I h => ?_⟩
  rw [exec_Assign_Name_used _ _ _ _ hsw]
  refine wpAny_bind (wpAny_standAt (wpAny_bind (wpAny_bind (thn (lc_hot (Qf := fun _ s' => SP X pins D .next s') (use := some (assign (.Name y py) X.env)) (pos' := firstIterPos [⟨tg, iter, ifs, 0⟩] pos) hp h1 hN I hi ok hg ht he hs (show tLc wi g tt te (own.map (·.2)) σ H (fun x H1 => gName i x σ H1 D.nx) from h) fun L C s' m H' J q hn f => ?_) fun _ s' hq => wpAny_pure (wpAny_pure hq)))))
  show wpAny _ _ (assign (.Name y py) X.env (.ref L)) _ _ _
  refine wpAny_assign_Name (store_ok2 (v := V.ref L) J hN hy (.inl hyl) rfl (fun s2 J2 ⟨a, sb, ha⟩ => ?_) (.inr hyl))
  obtain ⟨f0, f1, f2, f3, f4, f5⟩ := f
  have ne : C ≠ a := ha.elim (fun z => by rw [z]; exact f1) fun z e => f4 y a z e.symm
  exact ⟨m, hn.sameBut sb ne, fun h3 sb3 => ⟨_, H', J2.turned (t' := s2.toks) (fun b o hb e => (sb3.2 b hb).trans e) f0 f1 f3 f4 f5, q⟩⟩
end
/-! ### errors whose context is known -/
theorem takesN {X : Cx} : L2N.Takes X (fun _ _ _ _ => False) := fun _ _ x => by
  obtain ⟨_, _, _, _, _, _, _, _, _, _, _, _, _, _, _, _, q⟩ := x
  exact q.elim
theorem pmkN {X : Cx} {C : Addr} {bs : List Value} {B newId initId : String} {x : Str} {p pos : Pos} {e : Expr} {es : List Expr} {t : TA} (F : ExcBaseFacts B newId initId bs) (q : PySem.W.excIn X.K C bs newId = true) (gC : X.mg x = some (.ref C)) (kC : PySem.W.keepIn X.K (.ref C) = true) (r : Raises X (.ref C)) (hg : Gl X x) (ha : PA X (e :: es) t)
    (hdb : (x == ("__debug__" : Str)) = false := by decide) (he : starEach (e :: es) X.env = (false, eval e X.env) :: starEach es X.env := by rfl) (hpl : (backTo pos (starEach es X.env)).any (·.1) = false := by rfl) :
    L2N.PMk X (.Call (.Name x p) (e :: es) [] pos) (fun σ H Q => t σ H fun vs H1 => vs.length ≤ sizeLine ∧ Q (.ref C) none H1) := by
  intro pins s σ H Q I h
  refine wpAny_Call_Name_kw (ld_glob I hg gC (PySem.W.callWith_K (h₀ := X.base) I.ok.mod.kin kC (thn (ha.run pos pins s σ H _ I h) fun us s1 ⟨vs, H1, J, rv, lz, q1⟩ => ⟨J.kIn, ?_⟩) he hpl) hdb)
  obtain ⟨b1, N, b2, b3, b4, b5, b6, b7, b8, b9, c1, c2, c3, c4, c5, c6, c7, hC, hN, hI, U⟩ := exc_obj J.kIn q
  show wpAny _ _ (call (.ref C) us) _ _ _
  exact wpAny_call_exc_subT F U hC hN hI (fun h' e hm => L2N.mk_of J hm r q1 (J.hok.gone hm.new)) (by rw [← rv.length]; exact lz)

/-! ### a def that is called with the handled exception -/
structure FnP (P : Program) (w : World) (K : PySem.W.Frag) (mg : Str → Option Value) (base : Heap) (CX : CXT) (k : Nat) (f : Addr) (fd : FuncData) (ps : List Str) (p : Addr × Obj) (sp : Sp) : Prop where
  len : ∀ vs H Q E, sp vs H Q E → vs.length = ps.length
  run : ∀ (A : Around) (outer : List PySem.Env) (s : Shared) (H : Hp) (args : Args) (us : List Value) (vs : List V) (Q : VK) (E : XK), L2H.RoomH k A → L2H.Hot1 A p → L2H.PinOk outer H s p → Env0 P w K mg base A outer s H → BindsTo s fd args (ps.zip us) → Vals vs us → sp vs H Q E →
    codeAny (model P w) A (.call (.ref f) args) (L2.CR CX outer P w H s Q E) s
theorem fn_ofP {CX : CXT} {P : Program} {w : World} {K : PySem.W.Frag} {mg : Str → Option Value} {base : Heap} {k : Nat} {f : Addr} {name qual : Str} {params : Arguments} {body : List Stmt} {scope : Scope} {dvs : List V} {kws : List (Str × V)} {fd : FuncData} {N ps : List Str} {sp : Sp} {p : Addr × Obj}
    (F : FunD K name qual params body scope dvs kws f fd) (S : FnScope N ps scope) (len : ∀ vs H Q E, sp vs H Q E → vs.length = ps.length)
    (hb : ∀ (cdv : Value) (A : Around) (outer : List PySem.Env) (s : Shared) (H : Hp) (vs : List V) (Q : VK) (E : XK), L2H.Hot1 A p → L2H.RoomH k (A.deeper (envOfC qual scope s.heap.objs.size f cdv)) → sp vs H Q E →
      ∃ t, PSs (L2H.cxH CX P w K mg base N qual scope f cdv A outer s H E p) body t ∧ t { nx := fun _ H' => Q .non H', rt := Q } (L2.start N vs) H) : FnP P w K mg base CX (k + 1) f fd ps p sp := by
  obtain ⟨oc, od, dV, kV, doc, pm, an, cdv, ct, osl, rfl, lk, hcd, _, _⟩ := F.ex
  refine ⟨len, fun A outer s H args us vs Q E room hot pin e0 bnd rv hsp => ?_⟩
  have ll := len _ _ _ _ hsp
  have kin : K.In s.heap := e0.mod.kin.keeps fun b o e => (e0.bs b o e).1
  have lim : s.heap.NoLimit := e0.mod.nolimit.keeps fun b o e => (e0.bs b o e).1
  have kinds : ∀ y ∈ ps.zip us, scope.names.lookup y.1 = some .local ∨ (scope.names.lookup y.1 = some .cell ∧ ((cellsFrom (s.heap.objs.size + 1) scope.names []).lookup y.1).isSome = true) := fun ⟨n, v⟩ hy =>
    (S.par n (List.of_mem_zip hy).1).imp id fun q => ⟨q, PySem.W.cellsFrom_some _ _ _ (.inl q)⟩
  refine codeAny_call_function room.depth (kin _ _ lk) rfl S.co S.gen rfl (PySem.W.codeRec_of kin hcd) (bnd _ _ _ _ (wpAny_newFunctionEnv_cells S.kind kinds fun env he s1 x => ?_))
  subst he
  refine ⟨lim.keeps x.toInCall.keep, codeAny_func ?_⟩
  obtain ⟨t, ht, hq⟩ := hb cdv A outer s H vs Q E hot (room.deeper _) hsp
  have J : Inv (L2H.cxH CX P w K mg base N qual scope f cdv A outer s H E p) [] (L2.start N vs) H s1 := L2H.inv_startH S pin e0 ll rv x
  refine wpAny_mono (ht.run [] s1 (L2.start N vs) H _ J hq) (fun fl s' hs => ?_) fun e s' hs => hs
  cases fl with
  | ret u =>
    obtain ⟨v, σ', H', J', r', q⟩ := hs
    exact ⟨v, H', J'.os, J'.bare, J'.base, J'.hok, r', q⟩
  | next =>
    obtain ⟨σ', H', J', q⟩ := hs
    exact ⟨V.non, H', J'.os, J'.bare, J'.base, J'.hok, rfl, q⟩
  | brk => obtain ⟨_, _, _, q⟩ := hs; exact False.elim q
  | cont => obtain ⟨_, _, _, q⟩ := hs; exact False.elim q
theorem pe_callP {X : Cx} {CX : CXT} {k : Nat} {f : Addr} {fd : FuncData} {ps : List Str} {sp : Sp} {x : Str} {q pos : Pos} {e : Expr} {es : List Expr} {t : TA} {p : Addr × Obj} {E : XK} (F : FnP X.prog X.w X.K X.mg X.base CX k f fd ps p sp) (room : L2H.RoomH k X.A) (hp : p ∈ X.pn) (hot : L2H.Hot1 X.A p) (hg : Gl X x) (hm : X.mg x = some (.ref f)) (hk : PySem.W.keepIn X.K (.ref f) = true) (bnd : Binds X.K fd ps [])
    (hx : ∀ σ, PassesAt CX X σ E) (ha : PA X (e :: es) t) (hdb : (x == ("__debug__" : Str)) = false := by decide) (he : starEach (e :: es) X.env = (false, eval e X.env) :: starEach es X.env := by rfl) (hpl : (backTo pos (starEach es X.env)).any (·.1) = false := by rfl) :
    PE X (.Call (.Name x q) (e :: es) [] pos) (fun σ H Q => t σ H fun vs H1 => sp vs H1 Q E) := by
  refine ⟨fun pins s σ H Q I h => wpAny_Call_Name_kw (ld_glob I hg hm (PySem.W.callWith_K (h₀ := X.base) I.ok.mod.kin hk (thn (ha.run pos pins s σ H _ I h) fun us s1 ⟨vs, H1, J, rv, q⟩ => ⟨J.kIn, ?_⟩) he hpl) hdb)⟩
  have ll : us.length = ps.length := by rw [← rv.length]; exact F.len _ _ _ _ q
  have b := bnd s1 us J.kIn (by rw [List.append_nil]; exact ll)
  rw [List.append_nil] at b
  have P1 := J.pin p (List.mem_append_left _ hp)
  have pin : L2H.PinOk X.stack H1 s1 p := ⟨P1.1, P1.2.1, fun hm => (List.mem_cons.mp (J.stkSub p.1 hm)).elim P1.2.2.1 P1.2.2.2.1, P1.2.2.2.2⟩
  refine wpAny_call (codeAny_mono (F.run X.A X.stack s1 H1 ⟨us, []⟩ us vs Q E room hot pin J.env0 b rv q) fun r s' hq => ?_)
  cases r with
  | error e => exact hx σ pins H1 s1 e s' J hq
  | ok fl =>
    cases fl with
    | ret u => exact J.after hq
    | next => exact False.elim hq
    | brk => exact False.elim hq
    | cont => exact False.elim hq
theorem call_isP {X : Cx} {a D : Addr} {oe : Obj} (C : ExcC X.K D) (hz : Zc (.ref D) none oe) (hf : ∃ vs, oe.data = .fields vs) (hp : (a, oe) ∈ X.pn) : CallR X (.builtin "isinstance") (rIsE X.K D a) := by
  intro pins s σ H xs us Q I r ⟨c, cv, b, ex, hcv, e, q⟩
  subst ex
  cases r with
  | cons rx rr =>
    cases rr with
    | cons rt rr =>
      cases rr
      cases rx
      have ec := hcv _ rt
      subst ec
      have got := (I.pin (a, oe) (List.mem_append_left _ hp)).1
      obtain ⟨vs, hv⟩ := hf
      have J : PySem.W.InstAt s.heap a oe D none := by
        obtain ⟨oc, od, oda, osl⟩ := oe
        obtain ⟨z1, z2⟩ := hz
        dsimp only at z1 z2 hv
        subst z1 z2 hv
        exact ⟨got, rfl, rfl, trivial⟩
      exact PySem.W.kia_one (PySem.W.handS_kitx_exc C.hg C.hk C.hs C.hd C.ha C.hn C.ht C.hm) I.kIn J e (fun z => nomatch z) fun tk => ⟨.bl b, H, I.kept (t' := tk) fun _ _ z => z, rfl, q⟩
end Mv
end
section
set_option Elab.async false
set_option linter.all false
set_option maxRecDepth 100000
set_option maxHeartbeats 2000000
/-! Mv: list(reversed(xs)), xs a list. -/
namespace RT
open PySem PySem.Spec PySem.Calls PyProof.Rows
section
variable {prog : Program} {w : World} {A : Around} {E : Value → Shared → Prop} {s : Shared}
theorem wpAny_extend_rev {R : Result → Shared → Prop} {it l : Addr} {items : Array Value} (hh : A.handled = none) (hit : s.heap.IsRevIter it l ((items.size : Int) - 1)) (hl : s.heap.IsList l items) (hne : l ≠ it) (hn : items.size ≤ sizeLine)
    (S : Addr) (res : Value) (c₀ : Nat) (hS : s.heap.get? S = some { cls := .type "list", data := .seq #[] c₀ }) (hSi : S ≠ it) (hSl : S ≠ l)
    (hR : ∀ h' tk acc' c', (∀ b o, b ≠ S → b ≠ it → s.heap.get? b = some o → h'.get? b = some o) → h'.get? S = some { cls := .type "list", dict := none, data := .seq acc' c', slots := #[] } →
      ItemsOf (fun i v => items[items.size - 1 - i]? = some v) acc' items.size → R (.ok (.ret res)) { s with heap := h', toks := tk }) :
    wpAny (model prog w) A.in1 (Builtin.List.listExtendWith (.ref S) (.ref it) res)
      (fun fin s' => match fin with | .done f => R (.ok f) s' | .again c' => c'.quiet = true ∧ codeAny (model prog w) A c' R s') (fun e s' => R (.error e) s') s := by
  have W := (Walks.listRev (prog := prog) (w := w) (A := A.in1) hh it l hne items).toS
  have hSf : S ∉ [it, l] := by simp only [List.mem_cons, List.not_mem_nil, or_false, not_or]; exact ⟨hSi, hSl⟩
  have hT : s.TypeIs (.ref it) "list_reverseiterator" := hit.typeIs
  have h1 : Builtin.List.listSameRef (.ref S) (.ref it) = false := by simp [Builtin.List.listSameRef, hSi]
  unfold Builtin.List.listExtendWith
  refine wpAny_bind (wpAny_typeOf hT ?_)
  rw [if_neg (by rw [h1]; decide)]
  refine wpAny_bind (wpAny_pyIter_revIter hit ?_)
  refine wpAny_bind (wpAny_holding ?_)
  unfold Builtin.List.listLengthHint
  refine wpAny_bind (wpAny_specialOf hT nolen_lri ?_)
  show wpAny _ A.in1 (specialOf (Value.ref it) (Str.ofString "__length_hint__") >>= _) _ _ _
  refine wpAny_bind (wpAny_specialOf hT hint_lri ?_)
  generalize hid : ("list_reverseiterator.__length_hint__" : String) = id0
  wp_delta
  rw [show splitId id0 = some ("list_reverseiterator", "__length_hint__") from by subst hid; decide +kernel]
  subst hid
  refine wpAny_bind (wpAny_isInstance (b := true) hT (by rw [isSubtype_type]; kernel_rfl) ?_)
  refine wpAny_pure ?_
  rw [if_neg (by decide)]
  have e0 : ((items.size : Nat) : Int) - 1 - ((0 : Nat) : Int) = (items.size : Int) - 1 := by omega
  refine wpAny_pure ⟨plainId_quiet F.plain_extend_loop _, codeAny_extend_loopS W hn S hSf res items.size 0 _ #[] c₀ rfl (Nat.zero_le _) ⟨Nat.zero_le _, by rw [e0]; exact hit, hl⟩ hS (ItemsOf.nil _) fun s' acc' c' hm hS' hacc => ?_⟩
  rw [Moved.eq_with hm]
  refine hR s'.heap s'.toks acc' c' (fun b o hb hb2 e => hm.heap b o (fun hmem => ?_) e) hS' hacc
  rcases List.mem_cons.mp hmem with e' | hmem
  · exact hb e'
  · exact hb2 (List.mem_singleton.mp hmem)
theorem call_list_rev {it l : Addr} {items : Array Value} {Q : Value → Shared → Prop} (hh : A.handled = none) (hit : s.heap.IsRevIter it l ((items.size : Int) - 1)) (hl : s.heap.IsList l items) (hne : l ≠ it) (hn : items.size ≤ sizeLine)
    (hQ : ∀ h' tk acc' c', (∀ b o, b ≠ it → s.heap.get? b = some o → h'.get? b = some o) →
      h'.get? s.heap.objs.size = some { cls := .type "list", dict := none, data := .seq acc' c', slots := #[] } → ItemsOf (fun i v => items[items.size - 1 - i]? = some v) acc' items.size → Q (.ref s.heap.objs.size) { s with heap := h', toks := tk }) :
    wpAny (model prog w) A (call (.type "list") [.ref it]) Q E s := by
  obtain ⟨oi, hoi, _⟩ := id hit
  obtain ⟨ol, hol, _⟩ := id hl
  have hSi : s.heap.objs.size ≠ it := Nat.ne_of_gt (Heap.lt_size hoi)
  have hSl : s.heap.objs.size ≠ l := Nat.ne_of_gt (Heap.lt_size hol)
  refine callType_codes (Q₁ := fun obj s₁ => obj = .ref s.heap.objs.size ∧ s₁ = { s with heap := s.heap.push { cls := .type "list", data := .seq #[] } }) F.called_list (F.typeCall_list_1 _) F.entry_list_init
    (code_list_new _ ⟨rfl, rfl⟩) fun obj s₁ h₁ => ?_
  obtain ⟨rfl, rfl⟩ := h₁
  have hS : (s.heap.push { cls := .type "list", data := .seq #[] }).get? s.heap.objs.size = some { cls := .type "list", data := .seq #[] } := Heap.get?_push_size _ rfl
  refine ⟨⟨_, hS, rfl⟩, F.args_list_init_2 _ _, ?_⟩
  show wpAny _ _ (do let old ← Builtin.List.listItems (.ref s.heap.objs.size); Builtin.List.listUpdate (.ref s.heap.objs.size) (fun _ => #[]); letGo old.toList.reverse; Builtin.List.listExtendWith (.ref s.heap.objs.size) (.ref it) .none) _ _ _
  refine wpAny_bind ?_
  unfold Builtin.List.listItems
  refine wpAny_bind (wpAny_seqItems hS rfl (wpAny_pure ?_))
  show wpAny _ _ (updateSeq s.heap.objs.size (fun _ => #[]) >>= fun _ => letGo (#[] : Array Value).toList.reverse >>= fun _ => Builtin.List.listExtendWith (.ref s.heap.objs.size) (.ref it) .none) _ _ _
  refine wpAny_bind (wpAny_updateSeq hS rfl ?_)
  have hS₂ := Heap.get?_update_self (Obj.mapSeq (fun _ => (#[] : Array Value))) hS rfl
  have oth : ∀ b o, b ≠ s.heap.objs.size → s.heap.get? b = some o → ((s.heap.push { cls := .type "list", data := .seq #[] }).update s.heap.objs.size (Obj.mapSeq (fun _ => (#[] : Array Value)))).get? b = some o :=
    fun b o hb e => (Heap.get?_update_other _ _ (Ne.symm hb)).trans (Heap.get?_push_of_some _ e)
  refine wpAny_bind (wpAny_letGo ?_)
  refine wpAny_extend_rev (prog := prog) (w := w) (A := A.in1) (s := { s with heap := (s.heap.push { cls := .type "list", data := .seq #[] }).update s.heap.objs.size (Obj.mapSeq (fun _ => (#[] : Array Value))) }) hh (hit.at fun o e => oth it o (Ne.symm hSi) e) ?_ hne hn s.heap.objs.size .none _ hS₂ hSi hSl fun h' tk acc' c' hk hS' hacc => ?_
  · obtain ⟨o, ho, r⟩ := hl
    exact ⟨o, oth l o (Ne.symm hSl) ho, r⟩
  · exact ⟨rfl, hQ h' tk acc' c' (fun b o hb e => hk b o (Nat.ne_of_lt (Heap.lt_size e)) hb (oth b o (Nat.ne_of_lt (Heap.lt_size e)) e)) hS' hacc⟩
end
end RT
namespace L2
open PySem PySem.Spec PyProof.Rows RT
section
variable {X : Cx}
theorem pe_listRev {e : Expr} {te : TE} {p p2 pos pos2 : Pos} (hc : X.calm = true) (hg : Gl X "list") (hm : X.mg "list" = none) (hg2 : Gl X "reversed") (hm2 : X.mg "reversed" = none) (he : PE X e te)
    (hs : starEach [e] X.env = (false, eval e X.env) :: starEach [] X.env := by rfl)
    (hs2 : starEach [.Call (.Name "reversed" p2) [e] [] pos2] X.env = (false, eval (.Call (.Name "reversed" p2) [e] [] pos2) X.env) :: starEach [] X.env := by rfl) :
    PE X (.Call (.Name "list" p) [.Call (.Name "reversed" p2) [e] [] pos2] [] pos) (tRevL X.K te) := by
  refine ⟨fun pins s σ H Q I h => ?_⟩
  refine Call_ (ld_blt I hg hm boot_list (PyProof.Rows.callWith_type1 (args_cons (Call_ (ld_blt I hg2 hm2 PyProof.Rows.boot_reversed (PyProof.Rows.callWith_type1 (args_cons (thn (he.run pins s σ H _ I h) fun u s1 ⟨v, H1, I1, r1, q1⟩ => args_nil ?_) hs) hs rfl))) hs2) hs2 rfl))
  obtain ⟨a, xs, ev, hq, q⟩ := q1
  subst ev
  obtain rfl : u = Value.ref a := r1
  obtain ⟨its, rv, p', hz⟩ := I1.list hq
  refine call_reversed_list p'.isList (args_nil ?_)
  have k0 : ∀ b o, s1.heap.get? b = some o → (s1.heap.push (revObj a ((its.toArray.size : Int) - 1))).get? b = some o := fun b o e => Heap.get?_push_of_some _ e
  have I2 : Inv X pins σ H1 { s1 with heap := s1.heap.push (revObj a ((its.toArray.size : Int) - 1)) } := I1.kept (t' := s1.toks) k0
  obtain ⟨f0, f1, f2, f3, f4, f5⟩ := I1.fpOk (H' := H1) (b := s1.heap.objs.size) (Nat.le_refl _) (I1.hok.fresh (Nat.le_refl _))
  have hl := p'.isList
  obtain ⟨ol, hol, _⟩ := id hl
  have hne : a ≠ s1.heap.objs.size := Nat.ne_of_lt (Heap.lt_size hol)
  have hn : its.toArray.size ≤ sizeLine := by rw [List.size_toArray, ← rv.length]; exact hz
  refine call_list_rev (s := { s1 with heap := s1.heap.push (revObj a ((its.toArray.size : Int) - 1)) }) (I1.ok.hd hc) ⟨_, Heap.get?_push_size _ rfl, rfl, rfl⟩ (hl.push _) hne hn fun h' tk acc c' hk hD hi => ?_
  have I3 : Inv X pins σ H1 { s1 with heap := h', toks := tk } := I2.turned (t' := tk) (fun b o hb e => hk b o hb e) f0 f1 f3 f4 f5
  have fresh : H1 (s1.heap.push (revObj a ((its.toArray.size : Int) - 1))).objs.size = none := I2.hok.fresh (Nat.le_refl _)
  refine ⟨.ref _, upd H1 _ (.lst xs.reverse), I3.take (h' := h') (t' := tk) (fun b ob _ e => e) (I2.fpOk (H' := H1) (Nat.le_refl _) fresh) ?_, rfl, q _ fresh⟩
  refine ⟨by rw [List.length_reverse]; exact hz, acc.toList, c', vals_rev rv hi, ?_⟩
  rw [Array.toArray_toList]; exact hD
end
end L2
end
section
set_option Elab.async false
set_option linter.all false
set_option maxRecDepth 100000
set_option maxHeartbeats 2000000
/-! Mv: from a written text to its reading, rule by rule. -/
namespace L2
open PySem PySem.Spec PyProof.Rows
section
variable {X : Cx}
theorem ps_setDc {i : Nat} {y : Str} {py : Pos} {kx vx tg iter : Expr} {ifs : List Expr} {scope : Scope} {own : List (Str × Nat)} {pos spos : Pos} {wi : TI} {g : TG} {tt : TT} {tk tv : TE} (hc : X.calm = true) (hN : X.N.Nodup) (hy : X.N[i]? = some y) (hyl : X.env.scope.names.lookup y = some .local)
    (hsw : swapsWith (.DictComp kx vx [⟨tg, iter, ifs, 0⟩] scope pos) (some (.Name y py)) spos.line X.env = pure true) (hi : PI X tg iter wi) (ok : BlkOk X.N X.env.scope scope own)
    (hg : ∀ (s : Shared) (H : Hp) (C : Addr) (cl : List (Str × Addr)) (fp : List Addr), PG (X.blk s H scope (compEnvC scope cl C X.env) fp) tg g) (ht : ∀ (s : Shared) (H : Hp) (C : Addr) (cl : List (Str × Addr)) (fp : List Addr), PTs (X.blk s H scope (compEnvC scope cl C X.env) fp) ifs tt)
    (hk : ∀ (s : Shared) (H : Hp) (C : Addr) (cl : List (Str × Addr)) (fp : List Addr), PE (X.blk s H scope (compEnvC scope cl C X.env) fp) kx tk)
    (he : ∀ (s : Shared) (H : Hp) (C : Addr) (cl : List (Str × Addr)) (fp : List Addr), PE (X.blk s H scope (compEnvC scope cl C X.env) fp) vx tv) (hs : ∀ x, foldedSetIterable iter X.env x = pure x := by intro _; rfl) :
    PS X (.Assign [.Name y py] (.DictComp kx vx [⟨tg, iter, ifs, 0⟩] scope pos) spos) (tAsg (tDc wi g tt tk tv (own.map (·.2))) (gName i)) := by
  refine ⟨fun pins s σ H D I h => ?_⟩
  rw [exec_Assign_Name_used _ _ _ _ hsw]
  refine wpAny_bind (wpAny_standAt (wpAny_bind ?_))
  show wpAny _ X.A (do let _ ← comprehension (.DictComp kx vx [⟨tg, iter, ifs, 0⟩] scope pos) scope X.env (firstIterPos [⟨tg, iter, ifs, 0⟩] pos) newDict false (eval iter X.env) (some (assign (.Name y py) X.env))) _ _ s
  have h : tDc wi g tt tk tv (own.map (·.2)) σ H (fun x H1 => gName i x σ H1 D.nx) := h
  refine wpAny_bind (thn (dc_core (Qf := fun _ s' => SP X pins D .next s') hc hN I hi ok hg ht hk he hs h fun L C s' m H' I' q hn f => ?_) fun _ s' hq => wpAny_pure (wpAny_pure hq))
  show wpAny _ _ (assign (.Name y py) X.env (.ref L)) _ _ _
  refine wpAny_assign_Name (store_ok2 (v := V.ref L) I' hN hy (.inl hyl) rfl (fun s2 I2 ⟨a, sb, ha⟩ => ?_) (.inr hyl))
  obtain ⟨f0, f1, f2, f3, f4, f5⟩ := f
  have haC : C ≠ a := by
    rcases ha with z | z
    · rw [z]; exact f1
    · exact fun e => f4 y a z e.symm
  refine ⟨m, hn.sameBut sb haC, fun h3 sb3 => ?_⟩
  exact ⟨_, H', I2.turned (t' := s2.toks) (fun b o hb e => (sb3.2 b hb).trans e) f0 f1 f3 f4 f5, q⟩
end
end L2
namespace Mv
open PySem PySem.Spec PyProof.Rows L2
open Classical

/-- what the module's names stand for: the built-ins that stay, constants, calls (a def's number, its name, the defaults that fill up), classes of errors -/
structure Pg where
  blt : List Str
  cons : List (Str × PyData)
  cals : List (Nat × Str × List PyData)
  clss : List (Str × Nat)
  /-- which class is under which, but for the first one, which all are under -/
  ul : List (Nat × Nat)
  /-- the defs that are called with a handled exception: the answer by its class -/
  hots : List (Str × (Nat → Option Str))
def Pg.un (T : Pg) (x y : Nat) : Bool := T.ul.contains (x, y) || (y == 0 || x == y)
def Cal (P : Program) (w : World) (K : PySem.W.Frag) (mg : Str → Option Value) (base : Heap) (A : Around) (c : Ctx) (q : Nat × Str × List PyData) : Prop :=
  ∃ (k : Nat) (a : Addr) (fd : FuncData) (ps : List Str) (ds : List Value), FnOk P w K mg base (L2N.CX P w) k a fd ps (spOf c q.1) ∧ Room k A ∧ mg q.2.1 = some (.ref a) ∧ PySem.W.keepIn K (.ref a) = true ∧ Binds K fd ps ds ∧ Vals (q.2.2.map vOf) ds
def Own (K : PySem.W.Frag) (mg : Str → Option Value) (c : Ctx) (p : Str × Nat) : Prop :=
  ∃ C : Addr, mg p.1 = some (.ref C) ∧ c.cl p.2 = .ref C ∧ PySem.W.excIn K C [.type "ValueError", .type "Exception", .type "BaseException", .type "object"] "ValueError.__new__" = true ∧ PySem.W.keepIn K (.ref C) = true ∧ PySem.W.subIn K (.ref C) (.type "BaseException") = some true ∧ PySem.W.typeIn K (.ref C) = some (.type "type")
/-- a def that is called with the handled exception at a, and answers z -/
def spP (a : Addr) (z : Str) : Sp := fun vs H Q _ => vs = [.ref a] ∧ ∀ H', (∀ b o, H b = some o → H' b = some o) → Q (.str z) H'
def HCal (P : Program) (w : World) (K : PySem.W.Frag) (mg : Str → Option Value) (base : Heap) (A : Around) (c : Ctx) (q : Str × (Nat → Option Str)) : Prop :=
  ∃ (k : Nat) (a : Addr) (fd : FuncData) (ps : List Str), Room k A ∧ mg q.1 = some (.ref a) ∧ PySem.W.keepIn K (.ref a) = true ∧ Binds K fd ps [] ∧
    ∀ (x : Nat) (z : Str) (p : Addr × Obj), q.2 x = some z → Zc (c.cl x) none p.2 → (∃ vs, p.2.data = .fields vs) → FnP P w K mg base (L2N.CX P w) k a fd ps p (spP p.1 z)
structure En (T : Pg) (X : Cx) (c : Ctx) (W : WX) : Prop where
  K : X.K = c.K
  nd : X.N.Nodup
  calm : X.calm = true
  un : X.A.units + 65 < cLine
  blt : ∀ x ∈ T.blt, X.mg x = none
  cons : ∀ p ∈ T.cons, ∃ u, X.mg p.1 = some u ∧ RelV (vOf p.2) u
  cals : ∀ q ∈ T.cals, Cal X.prog X.w X.K X.mg X.base X.A c q
  clss : ∀ p ∈ T.clss, Own X.K X.mg c p
  ec : ∀ x, ∃ D : Addr, c.cl x = .ref D ∧ ExcC X.K D ∧ PySem.W.kitOne X.K (.ref D) (.type "ValueError") = some true
  ux : ∀ p ∈ T.clss, ∀ x, PySem.W.exmOne X.K (c.cl x) (c.cl p.2) = some (T.un x p.2) ∧ PySem.W.kitOne X.K (c.cl x) (c.cl p.2) = some (T.un x p.2)
  hots : ∀ q ∈ T.hots, HCal X.prog X.w X.K X.mg X.base X.A c q
  tk : L2N.Takes X W
  po : PassesOwn (model X.prog X.w) X.A X.env X.xe
section
variable {T : Pg} {X : Cx} {c : Ctx} {W : WX}
theorem En.b {s : Shared} {H : Hp} {scope : Scope} {cenv : PySem.Env} {fp : List Addr} (g : En T X c W) : En T (X.blk s H scope cenv fp) c WF := ⟨g.K, g.nd, g.calm, g.un, g.blt, g.cons, g.cals, g.clss, g.ec, g.ux, g.hots, takesN, PassesOwn.never⟩
theorem En.tr {pn : List (Addr × Obj)} {xe : Value → Shared → Prop} {W' : WX} (g : En T X c W) (tk : L2N.Takes (X.tr pn xe) W') (po : PassesOwn (model X.prog X.w) X.A X.env xe) : En T (X.tr pn xe) c W' := ⟨g.K, g.nd, g.calm, g.un, g.blt, g.cons, g.cals, g.clss, g.ec, g.ux, g.hots, tk, po⟩

/-! ### judgements -/
structure DE (X : Cx) (c : Ctx) (W : WX) (e : Expr) (a : Ex) : Prop where
  p : PE X e (rD c W a).e
structure DT (X : Cx) (c : Ctx) (W : WX) (e : Expr) (a : Ex) : Prop where
  p : PT X e (rD c W a).t
structure DW (X : Cx) (c : Ctx) (W : WX) (e : Expr) (a : Ex) : Prop where
  p : PW X e (rD c W a).t
structure DA (X : Cx) (c : Ctx) (W : WX) (es : List Expr) (as : Exs) : Prop where
  p : PA X es (rA (rDs c W as))
structure DI (X : Cx) (c : Ctx) (W : WX) (tg iter : Expr) (s : Src) : Prop where
  p : PI X tg iter (rS c W s)
structure DG (X : Cx) (c : Ctx) (e : Expr) (t : Tg) : Prop where
  p : PG X e (rG c.K t)
structure DS (X : Cx) (c : Ctx) (W : WX) (st : Stmt) (a : Mv.St) : Prop where
  p : PS X st (rX c W a)
structure DB (X : Cx) (c : Ctx) (W : WX) (st : List Stmt) (a : Sts) : Prop where
  p : PSs X st (rXs c W a)

variable {pos p2 p3 : Pos} {e e1 e2 e3 : Expr} {es : List Expr} {a b d : Ex} {as bs : Exs} {i j n : Nat} {x : Str}
/-! ### expressions -/
theorem d_int {i : Int} : DE X c W (.Constant (.int i) n pos) (.c (.int i)) := ⟨pe_int⟩
theorem d_bl {i : Bool} : DE X c W (.Constant (.bool i) n pos) (.c (.bool i)) := ⟨pe_bl⟩
theorem d_non : DE X c W (.Constant .none n pos) (.c .none) := ⟨pe_non⟩
theorem d_str {x y : Str} (h : x = y) : DE X c W (.Constant (.str x) n pos) (.c (.str y)) := by subst h; exact ⟨pe_str⟩
theorem d_v (i : Nat) (hN : X.N[i]? = some x := by rfl) (hv : Vis X.env.scope x := by first | exact Or.inl rfl | exact Or.inr (Or.inl rfl) | exact Or.inr (Or.inr rfl)) (hd : (x == ("__debug__" : Str)) = false := by decide)
    (hcd : (x == ("__classdict__" : Str)) = false := by decide) : DE X c W (.Name x pos) (.v i) := ⟨pe_var hN hv hd hcd⟩
theorem d_mv (i : Nat) (hN : X.N[i]? = some x := by rfl) (hv : Vis X.env.scope x := by first | exact Or.inl rfl | exact Or.inr (Or.inl rfl) | exact Or.inr (Or.inr rfl)) (hd : (x == ("__debug__" : Str)) = false := by decide)
    (hcd : (x == ("__classdict__" : Str)) = false := by decide) : DE X c W (.Name x pos) (.mv i) := ⟨pe_var hN hv hd hcd⟩
theorem d_con (g : En T X c W) (k : Nat) {y : PyData} (m : T.cons[k]? = some (x, y) := by rfl) (hg : Gl X x := by rfl) (hd : (x == ("__debug__" : Str)) = false := by decide) : DE X c W (.Name x pos) (.c y) := by
  obtain ⟨u, h1, h2⟩ := g.cons _ (List.mem_of_getElem? m)
  exact ⟨pe_glob hg h1 h2 hd⟩
theorem d_fz (h : DE X c W e a) : DE X c W e (.fz a) := ⟨h.p⟩
theorem d_bin (g : En T X c W) (o : BOp) (ha : DE X c W e1 a) (hb : DE X c W e2 b) : DE X c W (.BinOp e1 o.op e2 pos) (.bin o a b) := by
  refine ⟨?_⟩
  show PE X _ (tOp (rBin c.K o) (rD c W a).e (rD c W b).e)
  rw [← g.K]
  exact pe_op (opBin o) ha.p hb.p
theorem d_neg (ha : DE X c W e1 a) : DE X c W (.UnaryOp .USub e1 pos) (.neg a) := by
  refine ⟨?_⟩
  show PE X _ (tUn (rU fun i => .int (-i)) (rD c W a).e)
  exact pe_un un_neg ha.p
theorem d_not (g : En T X c W) (ha : DE X c W e1 a) : DE X c W (.UnaryOp .Not e1 pos) (.not a) := by
  refine ⟨?_⟩
  show PE X _ (tNotT c.K (rD c W a).e)
  rw [← g.K]
  exact pe_notT ha.p
theorem d_and (ha : DE X c W e1 a) (hb : DE X c W (.BoolOp .And (e2 :: es) pos) b) : DE X c W (.BoolOp .And (e1 :: e2 :: es) pos) (.and a b) := ⟨pe_and ha.p hb.p⟩
theorem d_or (ha : DE X c W e1 a) (hb : DE X c W (.BoolOp .Or (e2 :: es) pos) b) : DE X c W (.BoolOp .Or (e1 :: e2 :: es) pos) (.or a b) := ⟨pe_or ha.p hb.p⟩
theorem d_one {op : BoolOp} (ha : DE X c W e1 a) : DE X c W (.BoolOp op [e1] pos) a := ⟨pe_one ha.p⟩
theorem d_cmp (g : En T X c W) (o : COp) (ha : DE X c W e1 a) (hb : DE X c W e2 b) (hm : behindInMarks o.op e2 = false := by with_unfolding_all rfl) : DE X c W (.Compare e1 [o.op] [e2] pos) (.cmp o a b) := by
  refine ⟨?_⟩
  show PE X _ (tOp (rCmp c.K o) (rD c W a).e (rD c W b).e)
  rw [← g.K]
  exact pe_cmpR (opCmp g.un o) ha.p hb.p hm
theorem t_cmp (g : En T X c W) (o : COp) (ha : DE X c W e1 a) (hb : DE X c W e2 b) (hm : behindInMarks o.op e2 = false := by with_unfolding_all rfl) : DT X c W (.Compare e1 [o.op] [e2] pos) (.cmp o a b) := by
  refine ⟨?_⟩
  show PT X _ (tTest (tOp (rCmp c.K o) (rD c W a).e (rD c W b).e))
  rw [← g.K]
  exact pt_cmpR (opCmp g.un o) ha.p hb.p hm
theorem d_chn (g : En T X c W) (o o' : COp) (ha : DE X c W e1 a) (hb : DE X c W e2 b) (hd : DE X c W e3 d) (hm : lastMarks [o.op, o'.op] [e2, e3] = false := by with_unfolding_all rfl) : DE X c W (.Compare e1 [o.op, o'.op] [e2, e3] pos) (.chn o o' a b d) := by
  refine ⟨?_⟩
  show PE X _ (tChain (rCmp c.K o) (rCmp c.K o') (rD c W a).e (rD c W b).e (rD c W d).e)
  rw [← g.K]
  exact pe_chain (opCmp g.un o) (opCmp g.un o') ha.p hb.p hd.p hm
theorem t_chn (g : En T X c W) (o o' : COp) (ha : DE X c W e1 a) (hb : DE X c W e2 b) (hd : DE X c W e3 d) (hm : lastMarks [o.op, o'.op] [e2, e3] = false := by with_unfolding_all rfl) : DT X c W (.Compare e1 [o.op, o'.op] [e2, e3] pos) (.chn o o' a b d) := by
  refine ⟨?_⟩
  show PT X _ (tTest (tChain (rCmp c.K o) (rCmp c.K o') (rD c W a).e (rD c W b).e (rD c W d).e))
  rw [← g.K]
  exact pt_chain (opCmp g.un o) (opCmp g.un o') ha.p hb.p hd.p hm
theorem d_ite (hc : DT X c W e1 d) (ha : DE X c W e2 a) (hb : DE X c W e3 b) : DE X c W (.IfExp e1 e2 e3 pos) (.ite d a b) := ⟨pe_ifExp hc.p ha.p hb.p⟩
theorem d_nil : DA X c W [] .nil := ⟨pa_nil⟩
theorem d_cons (ha : DE X c W e a) (h : DA X c W es as) (hs : starEach (e :: es) X.env = (false, eval e X.env) :: starEach es X.env := by rfl) : DA X c W (e :: es) (.cons a as) := ⟨pa_cons ha.p h.p hs⟩
theorem d_lst (h : DA X c W es as) : DE X c W (.List es pos) (.lst as) := ⟨pe_lst h.p⟩
theorem d_tup (h : DA X c W es as) : DE X c W (.Tuple es n pos) (.tup as) := ⟨pe_tup h.p⟩
theorem d_dnew : DE X c W (.Dict [] [] pos) .dnew := ⟨pe_dnewK⟩
theorem d_ix (g : En T X c W) (ha : DE X c W e1 a) (hb : DE X c W e2 b) (hs : PlainIx e2 := by intro _ _; rfl) : DE X c W (.Subscript e1 e2 pos) (.ix a b) := by
  refine ⟨?_⟩
  show PE X _ (tOp (rItem c.K) (rD c W a).e (rD c W b).e)
  rw [← g.K]
  exact pe_ix (opItem g.un) ha.p hb.p hs
structure DP (X : Cx) (c : Ctx) (W : WX) (e : Option Expr) (as : Exs) : Prop where
  p : PO X e (rPart (rDs c W as))
theorem d_pn : DP X c W none .nil := ⟨po_none⟩
theorem d_ps (h : DE X c W e a) : DP X c W (some e) (.cons a .nil) := ⟨po_some h.p⟩
theorem d_sl (g : En T X c W) {lo hi : Option Expr} (ha : DE X c W e1 a) (h1 : DP X c W lo as) (h2 : DP X c W hi bs) : DE X c W (.Subscript e1 (.Slice lo hi none p2) pos) (.sl a as bs) := by
  refine ⟨?_⟩
  show PE X _ (tSl (rSlice c.K) (rD c W a).e (rPart (rDs c W as)) (rPart (rDs c W bs)))
  rw [← g.K]
  exact pe_slice opSlice ha.p h1.p h2.p
def Fn.bt : Fn → Option String
  | .len => some "len"
  | .sorted => some "sorted"
  | .sum => some "sum"
  | .abs => some "abs"
  | .min2 => some "min"
  | .max2 => some "max"
  | .min1 => some "min"
  | .max1 => some "max"
  | _ => none
theorem d_fn (g : En T X c W) (f : Fn) (k : Nat) (ha : DA X c W (e :: es) as) (m : T.blt[k]? = some f.nm := by rfl) (hg : Gl X f.nm := by rfl) (he : starEach (e :: es) X.env = (false, eval e X.env) :: starEach es X.env := by rfl)
    (hpl : (backTo pos (starEach es X.env)).any (·.1) = false := by rfl) : DE X c W (.Call (.Name f.nm p2) (e :: es) [] pos) (.fn f as) := by
  refine ⟨?_⟩
  show PE X _ (tCB (rFn c.K f) (rA (rDs c W as)))
  rw [← g.K]
  have hm := g.blt _ (List.mem_of_getElem? m)
  have hc := opFn g.calm g.un f
  have hb := fn_boot f
  cases f with
  | list => exact pe_callTy hc hg hm hb ha.p (by decide) (by decide) he hpl
  | tuple => exact pe_callTy hc hg hm hb ha.p (by decide) (by decide) he hpl
  | int => exact pe_callTy hc hg hm hb ha.p (by decide) (by decide) he hpl
  | str => exact pe_callTy hc hg hm hb ha.p (by decide) (by decide) he hpl
  | len => exact pe_callB hc hg hm hb ha.p (by decide) (by decide) he hpl
  | sorted => exact pe_callB hc hg hm hb ha.p (by decide) (by decide) he hpl
  | sum => exact pe_callB hc hg hm hb ha.p (by decide) (by decide) he hpl
  | abs => exact pe_callB hc hg hm hb ha.p (by decide) (by decide) he hpl
  | min2 => exact pe_callB hc hg hm hb ha.p (by decide) (by decide) he hpl
  | max2 => exact pe_callB hc hg hm hb ha.p (by decide) (by decide) he hpl
  | min1 => exact pe_callB hc hg hm hb ha.p (by decide) (by decide) he hpl
  | max1 => exact pe_callB hc hg hm hb ha.p (by decide) (by decide) he hpl
/-- a built-in type as a value -/
def Ty.nmS : Ty → Str
  | .int => "int"
  | .bool => "bool"
  | .str => "str"
  | .list => "list"
  | .tuple => "tuple"
  | .dict => "dict"
theorem ty_boot (t : Ty) : bootBuiltins t.nmS = some (.type t.nm) := by cases t <;> decide +kernel
theorem ty_pe (g : En T X c W) (t : Ty) (k : Nat) (m : T.blt[k]? = some t.nmS := by rfl) (hg : Gl X t.nmS := by rfl) : PE X (.Name t.nmS pos) (tC (.ty t.nm)) :=
  pe_bltn hg (g.blt _ (List.mem_of_getElem? m)) (ty_boot t) rfl (by cases t <;> decide) (by cases t <;> decide)
theorem d_isi1 (g : En T X c W) (t : Ty) (k kt : Nat) (ha : DE X c W e a) (mt : T.blt[kt]? = some t.nmS := by rfl) (hgt : Gl X t.nmS := by rfl) (m : T.blt[k]? = some ("isinstance" : Str) := by rfl) (hg : Gl X ("isinstance" : Str) := by rfl)
    (he : starEach [e, .Name t.nmS p3] X.env = (false, eval e X.env) :: starEach [.Name t.nmS p3] X.env := by rfl) (hpl : (backTo pos (starEach [.Name t.nmS p3] X.env)).any (·.1) = false := by rfl) :
    DE X c W (.Call (.Name "isinstance" p2) [e, .Name t.nmS p3] [] pos) (.isi a [t]) := by
  refine ⟨?_⟩
  show PE X _ (tCB (rIsi c.K) (tCons (rD c W a).e (tCons (tC (.ty t.nm)) tNil)))
  rw [← g.K]
  exact pe_callB call_isi hg (g.blt _ (List.mem_of_getElem? m)) PyProof.Rows.boot_isinstance (pa_cons ha.p (pa_cons (ty_pe g t kt mt hgt) pa_nil rfl) he) (by decide) (by decide) he hpl
theorem d_isi2 (g : En T X c W) (t t' : Ty) (k kt kt' : Nat) {q q' : Pos} {n : Nat} (ha : DE X c W e a) (mt : T.blt[kt]? = some t.nmS := by rfl) (hgt : Gl X t.nmS := by rfl) (mt' : T.blt[kt']? = some t'.nmS := by rfl) (hgt' : Gl X t'.nmS := by rfl) (m : T.blt[k]? = some ("isinstance" : Str) := by rfl) (hg : Gl X ("isinstance" : Str) := by rfl)
    (he : starEach [e, .Tuple [.Name t.nmS q, .Name t'.nmS q'] n p3] X.env = (false, eval e X.env) :: starEach [.Tuple [.Name t.nmS q, .Name t'.nmS q'] n p3] X.env := by rfl) (hpl : (backTo pos (starEach [.Tuple [.Name t.nmS q, .Name t'.nmS q'] n p3] X.env)).any (·.1) = false := by rfl) :
    DE X c W (.Call (.Name "isinstance" p2) [e, .Tuple [.Name t.nmS q, .Name t'.nmS q'] n p3] [] pos) (.isi a [t, t']) := by
  refine ⟨?_⟩
  show PE X _ (tCB (rIsiT c.K) (tCons (rD c W a).e (tCons (tTup (tCons (tC (.ty t.nm)) (tCons (tC (.ty t'.nm)) tNil))) tNil)))
  rw [← g.K]
  exact pe_callB call_isiT hg (g.blt _ (List.mem_of_getElem? m)) PyProof.Rows.boot_isinstance (pa_cons ha.p (pa_cons (pe_tup (pa_cons (ty_pe g t kt mt hgt) (pa_cons (ty_pe g t' kt' mt' hgt') pa_nil rfl) rfl)) pa_nil rfl) he) (by decide) (by decide) he hpl

/-! ### sources, targets, comprehensions -/
theorem i_seq {tg : Expr} (g : En T X c W) (ha : DE X c W e a) : DI X c W tg e (.seq a) := by
  refine ⟨?_⟩
  show PI X tg e (iList c.K (rD c W a).e)
  rw [← g.K]
  exact pi_list ha.p
theorem i_tup {tg : Expr} (g : En T X c W) (ha : DE X c W e a) : DI X c W tg e (.tup a) := by
  refine ⟨?_⟩
  show PI X tg e (iTup c.K (rD c W a).e)
  rw [← g.K]
  exact pi_tup ha.p
theorem i_str {tg : Expr} (ha : DE X c W e a) : DI X c W tg e (.str a) := ⟨pi_str ha.p⟩
theorem i_rng1 {tg : Expr} (g : En T X c W) (k : Nat) (ha : DE X c W e a) (m : T.blt[k]? = some ("range" : Str) := by rfl) (hg : Gl X "range" := by rfl) (hs : starEach [e] X.env = [(false, eval e X.env)] := by rfl) : DI X c W tg (.Call (.Name "range" p2) [e] [] pos) (.rng1 a) :=
  ⟨pi_range1 hg (g.blt _ (List.mem_of_getElem? m)) (pa_cons ha.p pa_nil hs) hs⟩
theorem i_rng2 {tg : Expr} (g : En T X c W) (k : Nat) (ha : DE X c W e1 a) (hb : DE X c W e2 b) (m : T.blt[k]? = some ("range" : Str) := by rfl) (hg : Gl X "range" := by rfl) (hs : starEach [e1, e2] X.env = [(false, eval e1 X.env), (false, eval e2 X.env)] := by rfl)
    (hs2 : starEach [e2] X.env = [(false, eval e2 X.env)] := by rfl) (hs1 : starEach [e1, e2] X.env = (false, eval e1 X.env) :: starEach [e2] X.env := by rfl) : DI X c W tg (.Call (.Name "range" p2) [e1, e2] [] pos) (.rng2 a b) :=
  ⟨pi_range2 hg (g.blt _ (List.mem_of_getElem? m)) (pa_cons ha.p (pa_cons hb.p pa_nil hs2) hs1) hs hs2⟩
theorem i_rev {tg : Expr} (g : En T X c W) (k : Nat) (ha : DE X c W e a) (m : T.blt[k]? = some ("reversed" : Str) := by rfl) (hg : Gl X "reversed" := by rfl) (hs : starEach [e] X.env = [(false, eval e X.env)] := by rfl) : DI X c W tg (.Call (.Name "reversed" p2) [e] [] pos) (.rev a) := by
  refine ⟨?_⟩
  show PI X tg _ (iRev c.K (tCons (rD c W a).e tNil))
  rw [← g.K]
  exact pi_reversed hg (g.blt _ (List.mem_of_getElem? m)) (pa_cons ha.p pa_nil hs) hs
structure DGs (X : Cx) (es : List Expr) (is : List Nat) : Prop where
  p : PGs X es (gNames is)
theorem g_nil : DGs X [] [] := ⟨pgs_nil⟩
theorem g_cons {is : List Nat} (i : Nat) (hN : X.N.Nodup) (h : DGs X es is) (hi : X.N[i]? = some x := by rfl) (hx : Loc X.env.scope x := by first | exact Or.inl rfl | exact Or.inr rfl) (hf : X.fn x = true ∨ X.env.scope.names.lookup x = some .local := by first | exact .inl rfl | exact .inr rfl)
    (hs : (assignEach (.Name x pos :: es) X.env).map (·.2) = assign (.Name x pos) X.env :: (assignEach es X.env).map (·.2) := by rfl) : DGs X (.Name x pos :: es) (i :: is) := ⟨pgs_cons (pg_name hN hi hx hf) h.p hs⟩
theorem g_nm (i : Nat) (hN : X.N.Nodup) (hi : X.N[i]? = some x := by rfl) (hx : Loc X.env.scope x := by first | exact Or.inl rfl | exact Or.inr rfl) (hf : X.fn x = true ∨ X.env.scope.names.lookup x = some .local := by first | exact .inl rfl | exact .inr rfl) : DG X c (.Name x pos) (.nm i) := ⟨pg_name hN hi hx hf⟩
theorem g_tp {is : List Nat} (g : En T X c W) (h : DGs X es is) (hn : (assignEach es X.env).length = is.length := by rfl) (hst : (assignEach es X.env).findIdx? (·.1) = none := by rfl) : DG X c (.Tuple es n pos) (.tp is) := by
  refine ⟨?_⟩
  show PG X _ (gTup c.K is.length (gNames is))
  rw [← g.K]
  exact pg_tup g.calm h.p hn hst
theorem g_tl {is : List Nat} (g : En T X c W) (h : DGs X es is) (hn : (assignEach es X.env).length = is.length := by rfl) (hst : (assignEach es X.env).findIdx? (·.1) = none := by rfl) : DG X c (.Tuple es n pos) (.tl is) := by
  refine ⟨?_⟩
  show PG X _ (gLst c.K is.length (gNames is))
  rw [← g.K]
  exact pg_lst g.calm h.p hn hst
structure DC (X : Cx) (c : Ctx) (ifs : List Expr) (as : Exs) : Prop where
  p : PTs X ifs (rC (rDs c WF as))
theorem c_nil : DC X c [] .nil := ⟨pts_nil⟩
theorem c_one (h : DT X c WF e a) : DC X c [e] (.cons a .nil) := ⟨pts_one h.p⟩
theorem own_eq {own : List (Str × Nat)} {is : List Nat} (h : own.map (·.2) = is) : own.map (·.2) = is := h
section
variable {elt tg iter : Expr} {ifs : List Expr} {scope : Scope} {t : Tg} {s : Src} {is : List Nat}
theorem d_comp (own : List (Str × Nat)) (g : En T X c W) (hi : DI X c W tg iter s) (hg : ∀ (s : Shared) (H : Hp) (C : Addr) (cl : List (Str × Addr)) (fp : List Addr), DG (X.blk s H scope (compEnvC scope cl C X.env) fp) c tg t)
    (ht : ∀ (s : Shared) (H : Hp) (C : Addr) (cl : List (Str × Addr)) (fp : List Addr), DC (X.blk s H scope (compEnvC scope cl C X.env) fp) c ifs as)
    (he : ∀ (s : Shared) (H : Hp) (C : Addr) (cl : List (Str × Addr)) (fp : List Addr), DE (X.blk s H scope (compEnvC scope cl C X.env) fp) c WF elt a)
    (ok : BlkOk X.N X.env.scope scope own := by exact blkOk_by (by kernel_rfl)) (ho : own.map (·.2) = is := by rfl) (hs : ∀ x, foldedSetIterable iter X.env x = pure x := by intro _; rfl) : DE X c W (.ListComp elt [⟨tg, iter, ifs, 0⟩] scope pos) (.comp is t s as a) := by
  subst ho
  exact ⟨pe_lc g.calm g.nd hi.p ok (fun s H C cl fp => (hg s H C cl fp).p) (fun s H C cl fp => (ht s H C cl fp).p) (fun s H C cl fp => (he s H C cl fp).p) hs⟩
theorem s_comp {y : Str} {py spos : Pos} (own : List (Str × Nat)) (i : Nat) (g : En T X c W) (hi : DI X c W tg iter s) (hg : ∀ (s : Shared) (H : Hp) (C : Addr) (cl : List (Str × Addr)) (fp : List Addr), DG (X.blk s H scope (compEnvC scope cl C X.env) fp) c tg t)
    (ht : ∀ (s : Shared) (H : Hp) (C : Addr) (cl : List (Str × Addr)) (fp : List Addr), DC (X.blk s H scope (compEnvC scope cl C X.env) fp) c ifs as)
    (he : ∀ (s : Shared) (H : Hp) (C : Addr) (cl : List (Str × Addr)) (fp : List Addr), DE (X.blk s H scope (compEnvC scope cl C X.env) fp) c WF elt a)
    (hy : X.N[i]? = some y := by rfl) (hyl : X.env.scope.names.lookup y = some .local := by rfl) (hsw : swapsWith (.ListComp elt [⟨tg, iter, ifs, 0⟩] scope pos) (some (.Name y py)) spos.line X.env = pure true := by rfl)
    (ok : BlkOk X.N X.env.scope scope own := by exact blkOk_by (by kernel_rfl)) (ho : own.map (·.2) = is := by rfl) (hs : ∀ x, foldedSetIterable iter X.env x = pure x := by intro _; rfl) : DS X c W (.Assign [.Name y py] (.ListComp elt [⟨tg, iter, ifs, 0⟩] scope pos) spos) (.asg i (.comp is t s as a)) := by
  subst ho
  exact ⟨ps_setLc g.calm g.nd hy hyl hsw hi.p ok (fun s H C cl fp => (hg s H C cl fp).p) (fun s H C cl fp => (ht s H C cl fp).p) (fun s H C cl fp => (he s H C cl fp).p) hs⟩
theorem d_dcomp {kx : Expr} {ak : Ex} (own : List (Str × Nat)) (g : En T X c W) (hi : DI X c W tg iter s) (hg : ∀ (s : Shared) (H : Hp) (C : Addr) (cl : List (Str × Addr)) (fp : List Addr), DG (X.blk s H scope (compEnvC scope cl C X.env) fp) c tg t)
    (hk : ∀ (s : Shared) (H : Hp) (C : Addr) (cl : List (Str × Addr)) (fp : List Addr), DE (X.blk s H scope (compEnvC scope cl C X.env) fp) c WF kx ak)
    (he : ∀ (s : Shared) (H : Hp) (C : Addr) (cl : List (Str × Addr)) (fp : List Addr), DE (X.blk s H scope (compEnvC scope cl C X.env) fp) c WF elt a)
    (ok : BlkOk X.N X.env.scope scope own := by exact blkOk_by (by kernel_rfl)) (ho : own.map (·.2) = is := by rfl) (hs : ∀ x, foldedSetIterable iter X.env x = pure x := by intro _; rfl) : DE X c W (.DictComp kx elt [⟨tg, iter, [], 0⟩] scope pos) (.dcomp is t s ak a) := by
  subst ho
  exact ⟨pe_dc g.calm g.nd hi.p ok (fun s H C cl fp => (hg s H C cl fp).p) (fun s H C cl fp => pts_nil) (fun s H C cl fp => (hk s H C cl fp).p) (fun s H C cl fp => (he s H C cl fp).p) hs⟩
theorem s_dcomp {kx : Expr} {ak : Ex} {y : Str} {py spos : Pos} (own : List (Str × Nat)) (i : Nat) (g : En T X c W) (hi : DI X c W tg iter s) (hg : ∀ (s : Shared) (H : Hp) (C : Addr) (cl : List (Str × Addr)) (fp : List Addr), DG (X.blk s H scope (compEnvC scope cl C X.env) fp) c tg t)
    (hk : ∀ (s : Shared) (H : Hp) (C : Addr) (cl : List (Str × Addr)) (fp : List Addr), DE (X.blk s H scope (compEnvC scope cl C X.env) fp) c WF kx ak)
    (he : ∀ (s : Shared) (H : Hp) (C : Addr) (cl : List (Str × Addr)) (fp : List Addr), DE (X.blk s H scope (compEnvC scope cl C X.env) fp) c WF elt a)
    (hy : X.N[i]? = some y := by rfl) (hyl : X.env.scope.names.lookup y = some .local := by rfl) (hsw : swapsWith (.DictComp kx elt [⟨tg, iter, [], 0⟩] scope pos) (some (.Name y py)) spos.line X.env = pure true := by rfl)
    (ok : BlkOk X.N X.env.scope scope own := by exact blkOk_by (by kernel_rfl)) (ho : own.map (·.2) = is := by rfl) (hs : ∀ x, foldedSetIterable iter X.env x = pure x := by intro _; rfl) : DS X c W (.Assign [.Name y py] (.DictComp kx elt [⟨tg, iter, [], 0⟩] scope pos) spos) (.asg i (.dcomp is t s ak a)) := by
  subst ho
  exact ⟨ps_setDc g.calm g.nd hy hyl hsw hi.p ok (fun s H C cl fp => (hg s H C cl fp).p) (fun s H C cl fp => pts_nil) (fun s H C cl fp => (hk s H C cl fp).p) (fun s H C cl fp => (he s H C cl fp).p) hs⟩
end
section
variable {elt tg iter tg1 iter1 : Expr} {ifs ifs1 : List Expr} {scope : Scope} {t t1 : Tg} {s s1 : Src} {is is1 : List Nat} {as1 : Exs}
theorem d_comp2 (own : List (Str × Nat)) (g : En T X c W) (hi : DI X c W tg iter s) (hg : ∀ (s : Shared) (H : Hp) (C : Addr) (cl : List (Str × Addr)) (fp : List Addr), DG (X.blk s H scope (compEnvC scope cl C X.env) fp) c tg t)
    (ht : ∀ (s : Shared) (H : Hp) (C : Addr) (cl : List (Str × Addr)) (fp : List Addr), DC (X.blk s H scope (compEnvC scope cl C X.env) fp) c ifs as)
    (hi1 : ∀ (s : Shared) (H : Hp) (C : Addr) (cl : List (Str × Addr)) (fp : List Addr), DI (X.blk s H scope (compEnvC scope cl C X.env) fp) c WF tg1 iter1 s1)
    (hg1 : ∀ (s : Shared) (H : Hp) (C : Addr) (cl : List (Str × Addr)) (fp : List Addr), DG (X.blk s H scope (compEnvC scope cl C X.env) fp) c tg1 t1)
    (ht1 : ∀ (s : Shared) (H : Hp) (C : Addr) (cl : List (Str × Addr)) (fp : List Addr), DC (X.blk s H scope (compEnvC scope cl C X.env) fp) c ifs1 as1)
    (he : ∀ (s : Shared) (H : Hp) (C : Addr) (cl : List (Str × Addr)) (fp : List Addr), DE (X.blk s H scope (compEnvC scope cl C X.env) fp) c WF elt a)
    (ok : BlkOk X.N X.env.scope scope own := by exact blkOk_by (by kernel_rfl)) (ho : own.map (·.2) = is := by rfl) (hv : ∀ i ∈ is1, i ∈ is := by decide)
    (hs : ∀ x, foldedSetIterable iter X.env x = pure x := by intro _; rfl) (hs1 : ∀ env x, foldedSetIterable iter1 env x = pure x := by intro _ _; rfl) : DE X c W (.ListComp elt [⟨tg, iter, ifs, 0⟩, ⟨tg1, iter1, ifs1, 0⟩] scope pos) (.comp2 is is1 t s as t1 s1 as1 a) := by
  subst ho
  exact ⟨pe_lc2 g.calm g.nd hi.p ok hv (fun s H C cl fp => (hg s H C cl fp).p) (fun s H C cl fp => (ht s H C cl fp).p) (fun s H C cl fp => (hi1 s H C cl fp).p) (fun s H C cl fp => (hg1 s H C cl fp).p) (fun s H C cl fp => (ht1 s H C cl fp).p) (fun s H C cl fp => (he s H C cl fp).p) hs hs1⟩
theorem s_comp2 {y : Str} {py spos : Pos} (own : List (Str × Nat)) (i : Nat) (g : En T X c W) (hi : DI X c W tg iter s) (hg : ∀ (s : Shared) (H : Hp) (C : Addr) (cl : List (Str × Addr)) (fp : List Addr), DG (X.blk s H scope (compEnvC scope cl C X.env) fp) c tg t)
    (ht : ∀ (s : Shared) (H : Hp) (C : Addr) (cl : List (Str × Addr)) (fp : List Addr), DC (X.blk s H scope (compEnvC scope cl C X.env) fp) c ifs as)
    (hi1 : ∀ (s : Shared) (H : Hp) (C : Addr) (cl : List (Str × Addr)) (fp : List Addr), DI (X.blk s H scope (compEnvC scope cl C X.env) fp) c WF tg1 iter1 s1)
    (hg1 : ∀ (s : Shared) (H : Hp) (C : Addr) (cl : List (Str × Addr)) (fp : List Addr), DG (X.blk s H scope (compEnvC scope cl C X.env) fp) c tg1 t1)
    (ht1 : ∀ (s : Shared) (H : Hp) (C : Addr) (cl : List (Str × Addr)) (fp : List Addr), DC (X.blk s H scope (compEnvC scope cl C X.env) fp) c ifs1 as1)
    (he : ∀ (s : Shared) (H : Hp) (C : Addr) (cl : List (Str × Addr)) (fp : List Addr), DE (X.blk s H scope (compEnvC scope cl C X.env) fp) c WF elt a)
    (hy : X.N[i]? = some y := by rfl) (hyl : X.env.scope.names.lookup y = some .local := by rfl) (hsw : swapsWith (.ListComp elt [⟨tg, iter, ifs, 0⟩, ⟨tg1, iter1, ifs1, 0⟩] scope pos) (some (.Name y py)) spos.line X.env = pure true := by rfl)
    (ok : BlkOk X.N X.env.scope scope own := by exact blkOk_by (by kernel_rfl)) (ho : own.map (·.2) = is := by rfl) (hv : ∀ i ∈ is1, i ∈ is := by decide)
    (hs : ∀ x, foldedSetIterable iter X.env x = pure x := by intro _; rfl) (hs1 : ∀ env x, foldedSetIterable iter1 env x = pure x := by intro _ _; rfl) : DS X c W (.Assign [.Name y py] (.ListComp elt [⟨tg, iter, ifs, 0⟩, ⟨tg1, iter1, ifs1, 0⟩] scope pos) spos) (.asg i (.comp2 is is1 t s as t1 s1 as1 a)) := by
  subst ho
  exact ⟨ps_setLc2 g.calm g.nd hy hyl hsw hi.p ok hv (fun s H C cl fp => (hg s H C cl fp).p) (fun s H C cl fp => (ht s H C cl fp).p) (fun s H C cl fp => (hi1 s H C cl fp).p) (fun s H C cl fp => (hg1 s H C cl fp).p) (fun s H C cl fp => (ht1 s H C cl fp).p) (fun s H C cl fp => (he s H C cl fp).p) hs hs1⟩
end
/-! ### calls, methods -/
theorem d_call (g : En T X c W) (k : Nat) {f : Nat} {ds : List PyData} (ha : DA X c W (e :: es) as) (m : T.cals[k]? = some (f, x, ds) := by rfl) (hg : Gl X x := by rfl) (hdb : (x == ("__debug__" : Str)) = false := by decide) (he : starEach (e :: es) X.env = (false, eval e X.env) :: starEach es X.env := by rfl)
    (hpl : (backTo pos (starEach es X.env)).any (·.1) = false := by rfl) : DE X c W (.Call (.Name x p2) (e :: es) [] pos) (.call f as ds) := by
  obtain ⟨k', fa, fd, ps, dv, F, hr, hm, hk, hb, hd⟩ := g.cals _ (List.mem_of_getElem? m)
  exact ⟨pe_callSD F hr hg hm hk hb hd (L2N.passAt g.tk) ha.p hdb he hpl⟩
theorem d_dct (g : En T X c W) (k : Nat) (ha : DE X c W e a) (m : T.blt[k]? = some ("dict" : Str) := by rfl) (hg : Gl X "dict" := by rfl) (he : starEach [e] X.env = (false, eval e X.env) :: starEach [] X.env := by rfl) : DE X c W (.Call (.Name "dict" p2) [e] [] pos) (.dct a) := by
  refine ⟨?_⟩
  show PE X _ (tCB (rDct c.K) (tCons (rD c W a).e tNil))
  rw [← g.K]
  exact pe_callTy (call_dictP g.calm) hg (g.blt _ (List.mem_of_getElem? m)) boot_dict (pa_cons ha.p pa_nil he) (by decide) (by decide) he rfl
theorem d_lrng1 (g : En T X c W) (k k2 : Nat) {q : Pos} (ha : DE X c W e a) (m : T.blt[k]? = some ("list" : Str) := by rfl) (hg : Gl X "list" := by rfl) (m2 : T.blt[k2]? = some ("range" : Str) := by rfl) (hg2 : Gl X "range" := by rfl) (he : starEach [e] X.env = (false, eval e X.env) :: starEach [] X.env := by rfl) :
    DE X c W (.Call (.Name "list" p2) [.Call (.Name "range" p3) [e] [] q] [] pos) (.lrng1 a) := ⟨pe_listRg g.calm hg (g.blt _ (List.mem_of_getElem? m)) (prg_1 hg2 (g.blt _ (List.mem_of_getElem? m2)) ha.p he) rfl⟩
theorem d_lrng2 (g : En T X c W) (k k2 : Nat) {q : Pos} (ha : DE X c W e1 a) (hb : DE X c W e2 b) (m : T.blt[k]? = some ("list" : Str) := by rfl) (hg : Gl X "list" := by rfl) (m2 : T.blt[k2]? = some ("range" : Str) := by rfl) (hg2 : Gl X "range" := by rfl) (he : starEach [e1, e2] X.env = (false, eval e1 X.env) :: starEach [e2] X.env := by rfl) (he2 : starEach [e2] X.env = (false, eval e2 X.env) :: starEach [] X.env := by rfl)
    (hp : (backTo q (starEach [e2] X.env)).any (·.1) = false := by rfl) : DE X c W (.Call (.Name "list" p2) [.Call (.Name "range" p3) [e1, e2] [] q] [] pos) (.lrng2 a b) := ⟨pe_listRg g.calm hg (g.blt _ (List.mem_of_getElem? m)) (prg_2 hg2 (g.blt _ (List.mem_of_getElem? m2)) ha.p hb.p he he2 hp) rfl⟩
theorem d_lrev (g : En T X c W) (k k2 : Nat) {q : Pos} (ha : DE X c W e a) (m : T.blt[k]? = some ("list" : Str) := by rfl) (hg : Gl X "list" := by rfl) (m2 : T.blt[k2]? = some ("reversed" : Str) := by rfl) (hg2 : Gl X "reversed" := by rfl) (he : starEach [e] X.env = (false, eval e X.env) :: starEach [] X.env := by rfl) :
    DE X c W (.Call (.Name "list" p2) [.Call (.Name "reversed" p3) [e] [] q] [] pos) (.lrev a) := by
  refine ⟨?_⟩
  show PE X _ (tRevL c.K (rD c W a).e)
  rw [← g.K]
  exact pe_listRev g.calm hg (g.blt _ (List.mem_of_getElem? m)) hg2 (g.blt _ (List.mem_of_getElem? m2)) ha.p he rfl
theorem d_index (g : En T X c W) {apos : Pos} (ho : DE X c W e1 a) (ha : DA X c W (e :: es) as)
    (hbase : attributeBase e1 "index" X.env (eval e1 X.env) = eval e1 X.env := by rfl)
    (hfew : ((backTo pos (starEach (e :: es) X.env)).all (fun x => !x.1) && (backToKw pos (keywordEach [] X.env)).all (fun x => x.1.isSome) && decide ((e :: es).length + ([] : List Keyword).length + (if ([] : List Keyword).isEmpty then 0 else 1) < 30)) = true := by rfl)
    (hline : (apos.endLine == pos.line) = true := by rfl) (hs : starEach (e :: es) X.env = (false, eval e X.env) :: starEach es X.env := by rfl) (hplain : (backTo pos (starEach es X.env)).any (·.1) = false := by rfl) :
    DE X c W (.Call (.Attribute e1 "index" apos) (e :: es) [] pos) (.meth .index a as) := by
  refine ⟨?_⟩
  show PE X _ (tBM c.K "list" (rIndexD c.K) (rD c W a).e (rA (rDs c W as)))
  rw [← g.K]
  exact pe_bm PySem.F.plainAttrs_list PySem.F.slot_list_index PySem.F.type_list_index (mt_indexD g.un) ho.p ha.p hbase hfew hline hs hplain
theorem d_join (g : En T X c W) {apos : Pos} (ho : DE X c W e1 a) (ha : DA X c W (e :: es) as)
    (hbase : attributeBase e1 "join" X.env (eval e1 X.env) = eval e1 X.env := by rfl)
    (hfew : ((backTo pos (starEach (e :: es) X.env)).all (fun x => !x.1) && (backToKw pos (keywordEach [] X.env)).all (fun x => x.1.isSome) && decide ((e :: es).length + ([] : List Keyword).length + (if ([] : List Keyword).isEmpty then 0 else 1) < 30)) = true := by rfl)
    (hline : (apos.endLine == pos.line) = true := by rfl) (hs : starEach (e :: es) X.env = (false, eval e X.env) :: starEach es X.env := by rfl) (hplain : (backTo pos (starEach es X.env)).any (·.1) = false := by rfl) :
    DE X c W (.Call (.Attribute e1 "join" apos) (e :: es) [] pos) (.meth .join a as) := by
  refine ⟨?_⟩
  show PE X _ (tBM c.K "str" (rJoin c.K) (rD c W a).e (rA (rDs c W as)))
  rw [← g.K]
  exact pe_bm PySem.F.plainAttrs_str PySem.F.slot_str_join PySem.F.type_str_join mt_join ho.p ha.p hbase hfew hline hs hplain
theorem d_get1 (g : En T X c W) {apos : Pos} (ho : DE X c W e1 a) (ha : DE X c W e b) (m : M1 X e1 "get" apos e pos := by exact ⟨rfl, rfl, rfl, rfl⟩) : DE X c W (.Call (.Attribute e1 "get" apos) [e] [] pos) (.meth .get1 a (.cons b .nil)) :=
  ⟨pe_dget1 (by have := g.un; omega) ho.p ha.p m⟩
theorem d_get2 (g : En T X c W) {apos : Pos} (ho : DE X c W e1 a) (ha : DE X c W e2 b) (hd : DE X c W e3 d) (m : M2 X e1 "get" apos e2 e3 pos := by exact ⟨rfl, rfl, rfl, rfl⟩) : DE X c W (.Call (.Attribute e1 "get" apos) [e2, e3] [] pos) (.meth .get2 a (.cons b (.cons d .nil))) :=
  ⟨pe_dget2 (by have := g.un; omega) ho.p ha.p hd.p m⟩
theorem m_append (g : En T X c W) {apos : Pos} (ho : DE X c W e1 (.v i)) (ha : DA X c W (e :: es) as)
    (hbase : attributeBase e1 "append" X.env (eval e1 X.env) = eval e1 X.env := by rfl)
    (hfew : ((backTo pos (starEach (e :: es) X.env)).all (fun x => !x.1) && (backToKw pos (keywordEach [] X.env)).all (fun x => x.1.isSome) && decide ((e :: es).length + ([] : List Keyword).length + (if ([] : List Keyword).isEmpty then 0 else 1) < 30)) = true := by rfl)
    (hline : (apos.endLine == pos.line) = true := by rfl) (hs : starEach (e :: es) X.env = (false, eval e X.env) :: starEach es X.env := by rfl) (hplain : (backTo pos (starEach es X.env)).any (·.1) = false := by rfl) :
    DE X c W (.Call (.Attribute e1 "append" apos) (e :: es) [] pos) (.mu .append i as) := by
  refine ⟨?_⟩
  show PE X _ (tBM c.K "list" rAppend (tVar i) (rA (rDs c W as)))
  rw [← g.K]
  exact pe_bm PySem.F.plainAttrs_list PySem.F.slot_list_append PySem.F.type_list_append mt_append ho.p ha.p hbase hfew hline hs hplain
theorem m_extend (g : En T X c W) {apos : Pos} (ho : DE X c W e1 (.v i)) (ha : DA X c W (e :: es) as)
    (hbase : attributeBase e1 "extend" X.env (eval e1 X.env) = eval e1 X.env := by rfl)
    (hfew : ((backTo pos (starEach (e :: es) X.env)).all (fun x => !x.1) && (backToKw pos (keywordEach [] X.env)).all (fun x => x.1.isSome) && decide ((e :: es).length + ([] : List Keyword).length + (if ([] : List Keyword).isEmpty then 0 else 1) < 30)) = true := by rfl)
    (hline : (apos.endLine == pos.line) = true := by rfl) (hs : starEach (e :: es) X.env = (false, eval e X.env) :: starEach es X.env := by rfl) (hplain : (backTo pos (starEach es X.env)).any (·.1) = false := by rfl) :
    DE X c W (.Call (.Attribute e1 "extend" apos) (e :: es) [] pos) (.mu .extend i as) := by
  refine ⟨?_⟩
  show PE X _ (tBM c.K "list" rExtend (tVar i) (rA (rDs c W as)))
  rw [← g.K]
  exact pe_bm PySem.F.plainAttrs_list PySem.F.slot_list_extend PySem.F.type_list_extend mt_extend ho.p ha.p hbase hfew hline hs hplain
theorem m_insert (g : En T X c W) {apos : Pos} (ho : DE X c W e1 (.v i)) (ha : DA X c W (e :: es) as)
    (hbase : attributeBase e1 "insert" X.env (eval e1 X.env) = eval e1 X.env := by rfl)
    (hfew : ((backTo pos (starEach (e :: es) X.env)).all (fun x => !x.1) && (backToKw pos (keywordEach [] X.env)).all (fun x => x.1.isSome) && decide ((e :: es).length + ([] : List Keyword).length + (if ([] : List Keyword).isEmpty then 0 else 1) < 30)) = true := by rfl)
    (hline : (apos.endLine == pos.line) = true := by rfl) (hs : starEach (e :: es) X.env = (false, eval e X.env) :: starEach es X.env := by rfl) (hplain : (backTo pos (starEach es X.env)).any (·.1) = false := by rfl) :
    DE X c W (.Call (.Attribute e1 "insert" apos) (e :: es) [] pos) (.mu .insert i as) := by
  refine ⟨?_⟩
  show PE X _ (tBM c.K "list" (rMu .insert) (tVar i) (rA (rDs c W as)))
  rw [← g.K]
  exact pe_bm PySem.F.plainAttrs_list PySem.F.slot_list_insert PySem.F.type_list_insert mt_insert ho.p ha.p hbase hfew hline hs hplain
/-! ### tests -/
theorem t_of (g : En T X c W) (h : DE X c W e a) (hr : rD c W a = .of c (rD c W a).e := by rfl) (he : ∀ whole, isTrue e X.env whole = (do let v ← whole; standAt e.pos; holding [v] (truthy v)) := by intro _; rfl) : DT X c W e a := by
  refine ⟨?_⟩
  rw [hr]
  show PT X e (tTru c.K (rD c W a).e)
  rw [← g.K]
  exact pt_truth h.p he
theorem t_not (h : DT X c W e a) : DT X c W (.UnaryOp .Not e pos) (.not a) := ⟨pt_not h.p⟩
theorem w_and1 (h : DT X c W e a) : DW X c W (.BoolOp .And [e] pos) a := ⟨pw_and1 h.p⟩
theorem w_or1 (h : DT X c W e a) : DW X c W (.BoolOp .Or [e] pos) a := ⟨pw_or1 h.p⟩
theorem w_and (ha : DT X c W e1 a) (hb : DW X c W (.BoolOp .And (e2 :: es) pos) b) : DW X c W (.BoolOp .And (e1 :: e2 :: es) pos) (.and a b) := ⟨pw_and ha.p hb.p⟩
theorem w_or (ha : DT X c W e1 a) (hb : DW X c W (.BoolOp .Or (e2 :: es) pos) b) : DW X c W (.BoolOp .Or (e1 :: e2 :: es) pos) (.or a b) := ⟨pw_or ha.p hb.p⟩
theorem t_w (h : DW X c W e a) : DT X c W e a := ⟨h.p.pt⟩
/-! ### statements -/
variable {st : Stmt} {sts body orelse : List Stmt} {s : Mv.St} {ss ss' : Sts} {t : Tg} {tg iter : Expr} {sr : Src}
theorem b_nil : DB X c W [] .nil := ⟨pss_nil⟩
theorem b_cons (h : DS X c W st s) (hs : DB X c W sts ss) : DB X c W (st :: sts) (.cons s ss) := ⟨pss_cons h.p hs.p⟩
theorem s_set (g : En T X c W) (i : Nat) (h : DE X c W e a) (hi : X.N[i]? = some x := by rfl) (hx : Loc X.env.scope x := by first | exact Or.inl rfl | exact Or.inr rfl) (hs : swapsWith e (some (.Name x p2)) pos.line X.env = pure false := by rfl)
    (hf : X.fn x = true ∨ X.env.scope.names.lookup x = some .local := by first | exact .inl rfl | exact .inr rfl) : DS X c W (.Assign [.Name x p2] e pos) (.asg i a) := ⟨ps_set g.nd hi hx h.p hs hf⟩
theorem s_unp (h : DE X c W e a) (hg : DG X c tg t) (hs : swapsWithSole [tg] e pos.line X.env = pure false := by rfl) (hw : swappedStores [tg] e X.env = pure none := by rfl) (h1 : (assignEach [tg] X.env).map (·.2) = [assign tg X.env] := by rfl) : DS X c W (.Assign [tg] e pos) (.unp t a) := ⟨ps_asg h.p hg.p hs hw h1⟩
theorem s_seti (g : En T X c W) {o ix : Expr} {b : Ex} {i : Nat} (h : DE X c W e a) (ho : DE X c W o (.v i)) (hi : DE X c W ix b) (hs : swapsWithSole [.Subscript o ix p2] e pos.line X.env = pure false := by rfl) (hw : swappedStores [.Subscript o ix p2] e X.env = pure none := by rfl) (h1 : (assignEach [.Subscript o ix p2] X.env).map (·.2) = [assign (.Subscript o ix p2) X.env] := by rfl)
    (ha : ∀ v, assign (.Subscript o ix p2) X.env v = (do
      let ov ← holding [v] (eval o X.env)
      let iv ← holding [v, ov] (eval ix X.env)
      standAt p2
      holding [v, ov, iv] (setItem ov iv v)
      release [v, ov, iv] []) := by intro _; rfl) : DS X c W (.Assign [.Subscript o ix p2] e pos) (.seti i b a) := ⟨ps_asg h.p (pg_sub ho.p hi.p (opSet g.un) ha) hs hw h1⟩
theorem s_ex (h : DE X c W e a) (hs : swapsWith e none pos.line X.env = pure false := by rfl) : DS X c W (.Expr e pos) (.ex a) := ⟨ps_expr h.p hs⟩
theorem s_if (h : DT X c W e a) (hb : DB X c W body ss) (hc : DB X c W orelse ss') : DS X c W (.If e body orelse pos) (.iff a ss ss') := ⟨ps_if h.p hb.p hc.p⟩
theorem s_for (g : En T X c W) (hi : DI X c W tg iter sr) (hg : DG X c tg t) (hb : DB X c W body ss) (hs : ∀ x, foldedSetIterable iter X.env x = pure x := by intro _; rfl) : DS X c W (.For tg iter body [] pos) (.fr t sr ss) := ⟨ps_for g.po g.calm hi.p hg.p hb.p hs⟩
theorem s_wh (g : En T X c W) (h : DT X c W e a) (hb : DB X c W body ss) : DS X c W (.While e body [] pos) (.wh n a ss) := ⟨ps_while g.po h.p hb.p⟩
theorem s_ret (h : DE X c W e a) : DS X c W (.Return (some e) pos) (.ret a) := ⟨ps_ret h.p⟩
theorem s_retN : DS X c W (.Return none pos) (.ret (.c .none)) := ⟨ps_retN⟩
theorem s_pass : DS X c W (.Pass pos) .pass := ⟨ps_pass⟩
theorem s_rse (g : En T X c W) (k : Nat) {i : Nat} {x : Str} (ha : DE X c W e a) (m : T.clss[k]? = some (x, i) := by rfl) (hg : Gl X x := by rfl) (hdb : (x == ("__debug__" : Str)) = false := by decide) (he : starEach [e] X.env = (false, eval e X.env) :: starEach [] X.env := by rfl) :
    DS X c W (.Raise (some (.Call (.Name x p2) [e] [] pos)) none p3) (.rse i a) := by
  obtain ⟨C, h1, h2, h3, h4, h5, h6⟩ := g.clss _ (List.mem_of_getElem? m)
  refine ⟨?_⟩
  have := L2N.ps_raise (pos := p3) g.calm g.tk (pmkN (pos := pos) (p := p2) F.excBase_ValueError h3 h1 h4 (raises_own h5 h6) hg (pa_cons ha.p pa_nil he) hdb he rfl)
  show PS X _ (fun _ σ H => tCons (rD c W a).e tNil σ H fun vs H1 => vs.length ≤ sizeLine ∧ W (c.cl i) none σ H1)
  rw [h2]
  exact this
theorem PSs.ex {X : Cx} {b : List Stmt} {ι : Type} {p : ι → Prop} {t : ι → TS} (h : ∀ i, p i → PSs X b (t i)) : PSs X b (fun D σ H => ∃ i, p i ∧ t i D σ H) := ⟨fun pins s σ H D I ⟨i, q, w⟩ => (h i q).run pins s σ H D I w⟩
theorem PS.imp {X : Cx} {b : Stmt} {t t' : TS} (h : PS X b t) (i : ∀ D σ H, t' D σ H → t D σ H) : PS X b t' := ⟨fun pins s σ H D I w => h.run pins s σ H D I (i D σ H w)⟩
theorem s_tr (g : En T X c W) (k : Nat) {cs : Nat → Bool} {j : Nat} {y : Str} {b₀ : Stmt} {suite : List Stmt} {np pos' : Pos}
    (hb : ∀ (W' : WX) (pn : List (Addr × Obj)) (xe : Value → Shared → Prop), En T (X.tr pn xe) c W' → DB (X.tr pn xe) c W' body ss)
    (hsu : ∀ (a : Addr) (pn : List (Addr × Obj)), DB (X.suite a pn) c WF (b₀ :: suite) ss') (m : T.clss[k]? = some (y, j) := by rfl) (hcs : ∀ x, cs x = T.un x j := by intro _; rfl) (hg : Gl X y := by rfl) (hdb : (y == ("__debug__" : Str)) = false := by decide)
    (hs : X.stack = X.env :: X.outer := by rfl) (hf : X.env.frame = some X.env.locals := by rfl) :
    DS X c W (.Try body [.ExceptHandler (some (.Name y np)) none (b₀ :: suite) pos'] [] [] pos) (.tr ss cs ss') := by
  have mm := List.mem_of_getElem? m
  obtain ⟨C, h1, h2, h3, h4, h5, h6⟩ := g.clss _ mm
  have hc : Names X y (.ref C) := ⟨hg, hdb, .inl h1⟩
  have hx : ∀ x, PySem.W.exmOne X.K (c.cl x) (.ref C) = some (cs x) := fun x => by rw [← h2, hcs]; exact (g.ux _ mm x).1
  refine ⟨PS.imp (L2N.ps_try_many (l := [(.ref C, fun _ _ _ => rXs c WF ss')]) (tb := fun W' D σ H => ∃ W'', (∀ cls d σ H, W'' cls d σ H → W' cls d σ H) ∧ rXs c W'' ss D σ H) hs hf g.tk (fun W' pn xe tk po => PSs.ex fun W'' im => (hb W'' pn xe (g.tr (tk.imp im) po)).p) (.cons hc (fun a oe cls d pn _ _ => (hsu a _).p) .nil)) fun D σ H h => ?_⟩
  refine ⟨wTr c cs (rXs c WF ss' D) W, fun cls d σ H ⟨x, e1, e2, e3, e4⟩ => ?_, h⟩
  subst e1
  exact ⟨cs x, hx x, e3, e4⟩
end
/-! ### a handler that looks at its exception -/
/-- a value that is known, while slot i holds the exception at a -/
def tK (i : Nat) (a : Addr) (v : V) : TE := fun σ H Q => σ[i]? = some (some (.ref a)) ∧ Q v H
def tHot (i : Nat) (a : Addr) (v : V) : TS := fun D σ H => σ[i]? = some (some (.ref a)) ∧ ∀ H1, (∀ b o, H b = some o → H1 b = some o) → D.rt v H1
theorem PE.imp {X : Cx} {e : Expr} {t t' : TE} (h : PE X e t) (i : ∀ σ H Q, t' σ H Q → t σ H Q) : PE X e t' := ⟨fun pins s σ H Q I w => h.run pins s σ H Q I (i σ H Q w)⟩
section
variable {T : Pg} {X : Cx} {c : Mv.Ctx} {W : WX} {pos p2 p3 q : Pos} {e1 e2 e : Expr} {es : List Expr} {body : List Stmt} {ss : Sts} {i x : Nat} {a : Addr} {oe : Obj} {pn : List (Addr × Obj)} {n C : Str}
/-- isinstance(problem, C), C an own class -/
theorem k_isi (g : En T X c W) (k : Nat) {j : Nat} (kt : Nat) (hz : Zc (c.cl x) none oe) (hf : ∃ vs, oe.data = .fields vs) (m : T.clss[k]? = some (C, j) := by rfl) (mt : T.blt[kt]? = some ("isinstance" : Str) := by rfl) (hg : Gl X C := by rfl) (hgi : Gl X "isinstance" := by rfl) (hN : X.N[i]? = some n := by rfl)
    (hv : Vis X.env.scope n := by first | exact Or.inl rfl | exact Or.inr (Or.inl rfl)) (hd : (n == ("__debug__" : Str)) = false := by decide) (hcd : (n == ("__classdict__" : Str)) = false := by decide) (hdC : (C == ("__debug__" : Str)) = false := by decide) :
    PE (X.suite a ((a, oe) :: pn)) (.Call (.Name "isinstance" p2) [.Name n p3, .Name C pos] [] q) (tK i a (.bl (T.un x j))) := by
  have mm := List.mem_of_getElem? m
  obtain ⟨Ca, h1, h2, h3, h4, h5, h6⟩ := g.clss _ mm
  obtain ⟨D, e1, ec, _⟩ := g.ec x
  have ux := (g.ux _ mm x).2
  rw [e1] at hz ux
  rw [h2] at ux
  refine PE.imp (pe_callB (X := X.suite a ((a, oe) :: pn)) (call_isE (pn := pn) ec hz hf) hgi (g.blt _ (List.mem_of_getElem? mt)) PyProof.Rows.boot_isinstance (pa_cons (pe_var (i := i) hN hv hd hcd) (pa_cons (pe_glob (v := .ref Ca) hg h1 rfl hdC) pa_nil rfl) rfl) (by decide) (by decide) rfl rfl) fun σ H Q ⟨h, q⟩ => ?_
  exact ⟨.ref a, h, .ref Ca, .ref Ca, T.un x j, rfl, fun u r => r, ux, q⟩
/-- isinstance(problem, ValueError) -/
theorem k_isV (g : En T X c W) (kv kt : Nat) (hz : Zc (c.cl x) none oe) (hf : ∃ vs, oe.data = .fields vs) (mv : T.blt[kv]? = some ("ValueError" : Str) := by rfl) (mt : T.blt[kt]? = some ("isinstance" : Str) := by rfl) (hg : Gl X "ValueError" := by rfl) (hgi : Gl X "isinstance" := by rfl) (hN : X.N[i]? = some n := by rfl)
    (hv : Vis X.env.scope n := by first | exact Or.inl rfl | exact Or.inr (Or.inl rfl)) (hd : (n == ("__debug__" : Str)) = false := by decide) (hcd : (n == ("__classdict__" : Str)) = false := by decide) :
    PE (X.suite a ((a, oe) :: pn)) (.Call (.Name "isinstance" p2) [.Name n p3, .Name "ValueError" pos] [] q) (tK i a (.bl true)) := by
  obtain ⟨D, e1, ec, kv1⟩ := g.ec x
  rw [e1] at hz
  refine PE.imp (pe_callB (X := X.suite a ((a, oe) :: pn)) (call_isE (pn := pn) ec hz hf) hgi (g.blt _ (List.mem_of_getElem? mt)) PyProof.Rows.boot_isinstance (pa_cons (pe_var (i := i) hN hv hd hcd) (pa_cons (pe_bltn (v := .ty "ValueError") hg (g.blt _ (List.mem_of_getElem? mv)) (by decide +kernel) rfl) pa_nil rfl) rfl) (by decide) (by decide) rfl rfl) fun σ H Q ⟨h, q⟩ => ?_
  exact ⟨.ref a, h, .ty "ValueError", .type "ValueError", true, rfl, fun u r => r, kv1, q⟩
theorem k_one {Y : Cx} {op : BoolOp} {v : V} (h : PE Y e (tK i a v)) : PE Y (.BoolOp op [e] pos) (tK i a v) := pe_one h
theorem k_and {Y : Cx} {b1 b2 : Bool} (h1 : PE Y e1 (tK i a (.bl b1))) (h2 : PE Y (.BoolOp .And (e2 :: es) pos) (tK i a (.bl b2))) : PE Y (.BoolOp .And (e1 :: e2 :: es) pos) (tK i a (.bl (b1 && b2))) := by
  refine PE.imp (pe_and h1 h2) fun σ H Q ⟨h, q⟩ => ⟨h, b1, rfl, ?_⟩
  cases b1 with
  | true => rw [if_pos rfl]; exact ⟨h, q⟩
  | false => rw [if_neg Bool.false_ne_true]; exact q
theorem k_ret {Y : Cx} {v : V} (h : PE Y e (tK i a v)) : PSs Y [.Return (some e) pos] (tHot i a v) := pss_one (PS.imp (ps_ret h) fun D σ H ⟨h1, q⟩ => ⟨h1, q H fun _ _ z => z⟩)
/-- return f(problem), f a def of T.hots -/
theorem k_call (g : En T X c W) (k : Nat) {h : Nat → Option Str} {f z : Str} (hz : Zc (c.cl x) none oe) (hf : ∃ vs, oe.data = .fields vs) (hn : PXN.CtxN oe) (e0 : h x = some z) (m : T.hots[k]? = some (f, h) := by rfl) (hg : Gl X f := by rfl) (hN : X.N[i]? = some n := by rfl)
    (hv : Vis X.env.scope n := by first | exact Or.inl rfl | exact Or.inr (Or.inl rfl)) (hd : (n == ("__debug__" : Str)) = false := by decide) (hcd : (n == ("__classdict__" : Str)) = false := by decide) (hdf : (f == ("__debug__" : Str)) = false := by decide) :
    PSs (X.suite a ((a, oe) :: pn)) [.Return (some (.Call (.Name f p2) [.Name n p3] [] q)) pos] (tHot i a (.str z)) := by
  obtain ⟨k', fa, fd, ps, hr, hm, hk, hb, F⟩ := g.hots _ (List.mem_of_getElem? m)
  obtain ⟨vs, hd2⟩ := id hf
  have hot : L2H.Hot1 (X.suite a ((a, oe) :: pn)).A (a, oe) := ⟨rfl, vs, hd2, hn vs hd2⟩
  have pass : ∀ σ, PassesAt (L2N.CX (X.suite a ((a, oe) :: pn)).prog (X.suite a ((a, oe) :: pn)).w) (X.suite a ((a, oe) :: pn)) σ (fun _ _ _ => False) := fun _ _ _ _ _ _ _ c => by
    obtain ⟨_, _, _, _, _, _, _, _, _, _, _, _, q⟩ := c
    exact q.elim
  refine pss_one (PS.imp (ps_ret (pe_callP (X := X.suite a ((a, oe) :: pn)) (F x z (a, oe) e0 hz hf) ⟨hr.dp, hr.un⟩ List.mem_cons_self hot hg hm hk hb pass (pa_cons (pe_var (i := i) hN hv hd hcd) pa_nil rfl) hdf rfl rfl)) fun D σ H ⟨h1, q⟩ => ?_)
  exact ⟨.ref a, h1, rfl, fun H' up => q H' up⟩
theorem hot_cast {Y : Cx} {b : List Stmt} {v : V} {z : PyData} (h : PSs Y b (tHot i a v)) (e : v = vOf z) : PSs Y b (tHot i a (vOf z)) := e ▸ h
theorem s_trf (g : En T X c W) (k : Nat) {cs : Nat → Bool} {h : Nat → Option PyData} {j : Nat} {y : Str} {b₀ : Stmt} {suite : List Stmt} {np pos' : Pos} (i : Nat)
    (hb : ∀ (W' : WX) (pn : List (Addr × Obj)) (xe : Value → Shared → Prop), En T (X.tr pn xe) c W' → DB (X.tr pn xe) c W' body ss)
    (hsu : ∀ (x : Nat) (z : PyData), h x = some z → ∀ (a : Addr) (oe : Obj) (pn : List (Addr × Obj)), Zc (c.cl x) none oe → (∃ vs, oe.data = .fields vs) → PXN.CtxN oe → PSs (X.suite a ((a, oe) :: pn)) (b₀ :: suite) (tHot i a (vOf z)))
    (m : T.clss[k]? = some (y, j) := by rfl) (hcs : ∀ x, cs x = T.un x j := by intro _; rfl) (hg : Gl X y := by rfl) (hdb : (y == ("__debug__" : Str)) = false := by decide) (hi : X.N[i]? = some n := by rfl) (hln : X.env.kindOf n = some .local := by rfl)
    (hs : X.stack = X.env :: X.outer := by rfl) (hf : X.env.frame = some X.env.locals := by rfl) :
    DS X c W (.Try body [.ExceptHandler (some (.Name y np)) (some n) (b₀ :: suite) pos'] [] [] pos) (.trf ss cs h) := by
  have mm := List.mem_of_getElem? m
  obtain ⟨C, h1, h2, h3, h4, h5, h6⟩ := g.clss _ mm
  have hc : Names X y (.ref C) := ⟨hg, hdb, .inl h1⟩
  have hx : ∀ x, PySem.W.exmOne X.K (c.cl x) (.ref C) = some (cs x) := fun x => by rw [← h2, hcs]; exact (g.ux _ mm x).1
  let ts : Addr → Value → Option Addr → TS := fun a cls d D σ H => ∃ x z, cls = c.cl x ∧ d = none ∧ h x = some z ∧ (i < σ.length → σ[i]? = some (some (.ref a))) ∧ ∀ H1, (∀ b o, H b = some o → H1 b = some o) → D.rt (vOf z) H1
  have su : ∀ (a : Addr) (oe : Obj) (cls : Value) (d : Option Addr) (pn : List (Addr × Obj)), L2N.Zn cls d oe → (∃ vs, oe.data = .fields vs) → PSs (X.suite a ((a, oe) :: pn)) (b₀ :: suite) (ts a cls d) := by
    intro a oe cls d pn hz hfl
    refine ⟨fun pins s σ H D I ⟨x, z, e1, e2, e3, e4, e5⟩ => ?_⟩
    subst e1 e2
    refine (hsu x z e3 a oe pn hz.zc hfl hz.2.2).run pins s σ H D I ⟨e4 ?_, e5⟩
    have l : σ.length = X.N.length := I.len
    rw [l]
    exact (List.getElem?_eq_some_iff.mp hi).1
  refine ⟨PS.imp (L2N.ps_try_as (tb := fun W' D σ H => ∃ W'', (∀ cls d σ H, W'' cls d σ H → W' cls d σ H) ∧ rXs c W'' ss D σ H) (ts := ts) hs hf g.nd hi hln hc g.tk (fun W' pn xe tk po => PSs.ex fun W'' im => (hb W'' pn xe (g.tr (tk.imp im) po)).p) su) fun D σ H hh => ?_⟩
  refine ⟨wTrf c cs h D.rt W, fun cls d σ H ⟨x, e1, e2, e3, e4⟩ => ?_, hh⟩
  subst e1
  refine ⟨cs x, hx x, fun t a na => ?_, e4⟩
  obtain ⟨z, z1, z2, z3⟩ := e3 t a na
  exact ⟨x, z, rfl, e2, z1, fun l => by rw [List.getElem?_set_self (by simpa using l)], z3⟩
end
end Mv
end
section
set_option Elab.async false
set_option linter.all false
set_option maxHeartbeats 2000000
/-! Mv: the body of a def that is called with the handled exception. -/
namespace Mv
open PySem PySem.Spec PyProof.Rows L2
open Classical

/-- the context of such a body: p is handled, its class is x -/
structure EnP (T : Pg) (Y : Cx) (c : Ctx) (p : Addr × Obj) (x : Nat) : Prop where
  K : Y.K = c.K
  nd : Y.N.Nodup
  un : Y.A.units + 65 < cLine
  blt : ∀ x ∈ T.blt, Y.mg x = none
  clss : ∀ p ∈ T.clss, Own Y.K Y.mg c p
  ec : ∀ x, ∃ D : Addr, c.cl x = .ref D ∧ ExcC Y.K D ∧ PySem.W.kitOne Y.K (.ref D) (.type "ValueError") = some true
  ux : ∀ p ∈ T.clss, ∀ x, PySem.W.exmOne Y.K (c.cl x) (c.cl p.2) = some (T.un x p.2) ∧ PySem.W.kitOne Y.K (c.cl x) (c.cl p.2) = some (T.un x p.2)
  hp : p ∈ Y.pn
  hot : L2H.Hot1 Y.A p
  z : Zc (c.cl x) none p.2
  fl : ∃ vs, p.2.data = .fields vs
section
variable {T : Pg} {Y : Cx} {c : Ctx} {p : Addr × Obj} {x i j : Nat} {pos p2 p3 q : Pos} {e e1 e2 e3 : Expr} {es : List Expr} {a b d : Ex} {as bs : Exs} {n C : Str} {W : WX}
/-! ### expressions that do not look at the exception -/
theorem h_ix (hK : Y.K = c.K) (un : Y.A.units + 65 < cLine) (ha : DE Y c W e1 a) (hb : DE Y c W e2 b) (hs : PlainIx e2 := by intro _ _; rfl) : DE Y c W (.Subscript e1 e2 pos) (.ix a b) := by
  refine ⟨?_⟩
  show PE Y _ (tOp (rItem c.K) (rD c W a).e (rD c W b).e)
  rw [← hK]
  exact pe_ix (opItem un) ha.p hb.p hs
theorem h_tof (hK : Y.K = c.K) (h : DE Y c W e a) (hr : rD c W a = .of c (rD c W a).e := by rfl) (he : ∀ whole, isTrue e Y.env whole = (do let v ← whole; standAt e.pos; holding [v] (truthy v)) := by intro _; rfl) : DT Y c W e a := by
  refine ⟨?_⟩
  rw [hr]
  show PT Y e (tTru c.K (rD c W a).e)
  rw [← hK]
  exact pt_truth h.p he
theorem h_eq (g : EnP T Y c p x) (ha : DE Y c W e1 a) (hb : DE Y c W e2 b) (hm : behindInMarks COp.eq.op e2 = false := by with_unfolding_all rfl) : DT Y c W (.Compare e1 [COp.eq.op] [e2] pos) (.cmp .eq a b) := by
  refine ⟨?_⟩
  show PT Y _ (tTest (tOp (rCmp c.K .eq) (rD c W a).e (rD c W b).e))
  rw [← g.K]
  exact pt_cmpR (opCmp g.un .eq) ha.p hb.p hm
theorem h_len (g : EnP T Y c p x) (k : Nat) (ha : DE Y c W e a) (m : T.blt[k]? = some ("len" : Str) := by rfl) (hg : Gl Y "len" := by rfl) (he : starEach [e] Y.env = (false, eval e Y.env) :: starEach [] Y.env := by rfl) : DE Y c W (.Call (.Name "len" p2) [e] [] pos) (.fn .len (.cons a .nil)) := by
  refine ⟨?_⟩
  show PE Y _ (tCB (rFn c.K .len) (rA (rDs c W (.cons a .nil))))
  rw [← g.K]
  exact pe_callB call_len hg (g.blt _ (List.mem_of_getElem? m)) (fn_boot .len) (pa_cons ha.p pa_nil he) (by decide) (by decide) he rfl
/-! ### the exception looked at -/
def tG (a : Addr) (te : TE) : TE := fun σ H Q => σ[0]? = some (some (.ref a)) ∧ te σ H Q
def tGA (a : Addr) (t : TA) : TA := fun σ H Q => σ[0]? = some (some (.ref a)) ∧ t σ H Q
def tGs (a : Addr) (t : TS) : TS := fun D σ H => σ[0]? = some (some (.ref a)) ∧ t D σ H
theorem PA.imp {X : Cx} {es : List Expr} {t t' : TA} (h : PA X es t) (i : ∀ σ H Q, t' σ H Q → t σ H Q) : PA X es t' := ⟨fun bpos pins s σ H Q I w => h.run bpos pins s σ H Q I (i σ H Q w)⟩
theorem h_isi (g : EnP T Y c p x) (k : Nat) {j : Nat} (kt : Nat) (m : T.clss[k]? = some (C, j) := by rfl) (mt : T.blt[kt]? = some ("isinstance" : Str) := by rfl) (hg : Gl Y C := by rfl) (hgi : Gl Y "isinstance" := by rfl) (hN : Y.N[0]? = some n := by rfl)
    (hv : Vis Y.env.scope n := by first | exact Or.inl rfl | exact Or.inr (Or.inl rfl)) (hd : (n == ("__debug__" : Str)) = false := by decide) (hcd : (n == ("__classdict__" : Str)) = false := by decide) (hdC : (C == ("__debug__" : Str)) = false := by decide) :
    PE Y (.Call (.Name "isinstance" p2) [.Name n p3, .Name C pos] [] q) (tK 0 p.1 (.bl (T.un x j))) := by
  have mm := List.mem_of_getElem? m
  obtain ⟨Ca, h1, h2, h3, h4, h5, h6⟩ := g.clss _ mm
  obtain ⟨D, e1, ec, _⟩ := g.ec x
  have ux := (g.ux _ mm x).2
  have hz := g.z
  rw [e1] at hz ux
  rw [h2] at ux
  refine PE.imp (pe_callB (call_isP ec hz g.fl g.hp) hgi (g.blt _ (List.mem_of_getElem? mt)) PyProof.Rows.boot_isinstance (pa_cons (pe_var (i := 0) hN hv hd hcd) (pa_cons (pe_glob (v := .ref Ca) hg h1 rfl hdC) pa_nil rfl) rfl) (by decide) (by decide) rfl rfl) fun σ H Q ⟨h, q⟩ => ?_
  exact ⟨.ref p.1, h, .ref Ca, .ref Ca, T.un x j, rfl, fun u r => r, ux, q⟩
theorem h_isV (g : EnP T Y c p x) (kv kt : Nat) (mv : T.blt[kv]? = some ("ValueError" : Str) := by rfl) (mt : T.blt[kt]? = some ("isinstance" : Str) := by rfl) (hg : Gl Y "ValueError" := by rfl) (hgi : Gl Y "isinstance" := by rfl) (hN : Y.N[0]? = some n := by rfl)
    (hv : Vis Y.env.scope n := by first | exact Or.inl rfl | exact Or.inr (Or.inl rfl)) (hd : (n == ("__debug__" : Str)) = false := by decide) (hcd : (n == ("__classdict__" : Str)) = false := by decide) :
    PE Y (.Call (.Name "isinstance" p2) [.Name n p3, .Name "ValueError" pos] [] q) (tK 0 p.1 (.bl true)) := by
  obtain ⟨D, e1, ec, kv1⟩ := g.ec x
  have hz := g.z
  rw [e1] at hz
  refine PE.imp (pe_callB (call_isP ec hz g.fl g.hp) hgi (g.blt _ (List.mem_of_getElem? mt)) PyProof.Rows.boot_isinstance (pa_cons (pe_var (i := 0) hN hv hd hcd) (pa_cons (pe_bltn (v := .ty "ValueError") hg (g.blt _ (List.mem_of_getElem? mv)) (by decide +kernel) rfl) pa_nil rfl) rfl) (by decide) (by decide) rfl rfl) fun σ H Q ⟨h, q⟩ => ?_
  exact ⟨.ref p.1, h, .ty "ValueError", .type "ValueError", true, rfl, fun u r => r, kv1, q⟩
/-- a row of such answers -/
structure HA (Y : Cx) (c : Ctx) (a : Addr) (es : List Expr) (as : Exs) : Prop where
  p : PA Y es (tGA a (rA (rDs c WF as)))
theorem ha_nil {a : Addr} : HA Y c a [] .nil := ⟨PA.imp pa_nil fun σ H Q h => h.2⟩
theorem ha_cons {a : Addr} {k : Bool} (h1 : PE Y e (tK 0 a (.bl k))) (h2 : HA Y c a es as) (hs : starEach (e :: es) Y.env = (false, eval e Y.env) :: starEach es Y.env := by rfl) : HA Y c a (e :: es) (.cons (.c (.bool k)) as) :=
  ⟨PA.imp (pa_cons h1 h2.p hs) fun σ H Q h => ⟨h.1, h.1, h.2⟩⟩
/-- a statement of the body -/
structure HS (Y : Cx) (c : Ctx) (a : Addr) (st : Stmt) (s : Mv.St) : Prop where
  p : PS Y st (tGs a (rX c WF s))
inductive HB (Y : Cx) (c : Ctx) (a : Addr) : List Stmt → Sts → Prop
  | nil : HB Y c a [] .nil
  | cons {st : Stmt} {s : Mv.St} {sts : List Stmt} {ss : Sts} : HS Y c a st s → HB Y c a sts ss → HB Y c a (st :: sts) (.cons s ss)
/-- kinds = [..] -/
theorem hs_kinds {y : Str} (g : EnP T Y c p x) (i : Nat) (h : HA Y c p.1 es as) (hi : Y.N[i]? = some y := by rfl) (hx : Loc Y.env.scope y := by first | exact Or.inl rfl | exact Or.inr rfl) (hs : swapsWith (.List es pos) (some (.Name y p2)) p3.line Y.env = pure false := by rfl)
    (hf : Y.fn y = true ∨ Y.env.scope.names.lookup y = some .local := by first | exact .inl rfl | exact .inr rfl) : HS Y c p.1 (.Assign [.Name y p2] (.List es pos) p3) (.asg i (.lst as)) :=
  ⟨PS.imp (ps_set g.nd hi hx (pe_lst h.p) hs hf) fun D σ H h => ⟨h.1, h.2⟩⟩
/-- kinds = kinds + [..] -/
theorem hs_more {y z : Str} {pv : Pos} (g : EnP T Y c p x) (i j : Nat) (h : HA Y c p.1 es as) (hj : Y.N[j]? = some z := by rfl) (hi : Y.N[i]? = some y := by rfl)
    (hv : Vis Y.env.scope z := by first | exact Or.inl rfl | exact Or.inr (Or.inl rfl) | exact Or.inr (Or.inr rfl)) (hd : (z == ("__debug__" : Str)) = false := by decide) (hcd : (z == ("__classdict__" : Str)) = false := by decide)
    (hx : Loc Y.env.scope y := by first | exact Or.inl rfl | exact Or.inr rfl) (hs : swapsWith (.BinOp (.Name z pv) BOp.add.op (.List es pos) q) (some (.Name y p2)) p3.line Y.env = pure false := by rfl)
    (hf : Y.fn y = true ∨ Y.env.scope.names.lookup y = some .local := by first | exact .inl rfl | exact .inr rfl) : HS Y c p.1 (.Assign [.Name y p2] (.BinOp (.Name z pv) BOp.add.op (.List es pos) q) p3) (.asg i (.bin .add (.v j) (.lst as))) := by
  refine ⟨PS.imp (ps_set g.nd hi hx (pe_op (opBin .add) (pe_var (i := j) hj hv hd hcd) (pe_lst h.p)) hs hf) fun D σ H h => ?_⟩
  obtain ⟨h0, v, hv, r⟩ := h
  refine ⟨v, hv, h0, ?_⟩
  have r : tLst (rA (rDs c WF as)) σ H (fun y H2 => rBin c.K .add v y H2 fun x H1 => gName i x σ H1 D.nx) := r
  rw [g.K]
  exact r
/-- found = [.. for k in range(..) if ..] -/
theorem hs_comp {y : Str} {py spos : Pos} {elt tg iter : Expr} {ifs : List Expr} {scope : Scope} {t : Tg} {s : Src} {is : List Nat} (own : List (Str × Nat)) (g : EnP T Y c p x) (i : Nat) (hi : L2H.PIH Y tg iter (rS c WF s)) (hg : ∀ s H C cl fp, DG (blkP Y p s H scope (compEnvC scope cl C Y.env) fp) c tg t)
    (ht : ∀ s H C cl fp, DC (blkP Y p s H scope (compEnvC scope cl C Y.env) fp) c ifs as) (he : ∀ s H C cl fp, DE (blkP Y p s H scope (compEnvC scope cl C Y.env) fp) c WF elt a)
    (hy : Y.N[i]? = some y := by rfl) (hyl : Y.env.scope.names.lookup y = some .local := by rfl) (hsw : swapsWith (.ListComp elt [⟨tg, iter, ifs, 0⟩] scope pos) (some (.Name y py)) spos.line Y.env = pure true := by rfl)
    (ok : BlkOk Y.N Y.env.scope scope own := by exact blkOk_by (by kernel_rfl)) (ho : own.map (·.2) = is := by rfl) (hs : ∀ x, foldedSetIterable iter Y.env x = pure x := by intro _; rfl) : HS Y c p.1 (.Assign [.Name y py] (.ListComp elt [⟨tg, iter, ifs, 0⟩] scope pos) spos) (.asg i (.comp is t s as a)) := by
  subst ho
  exact ⟨PS.imp (ps_setLcP g.hp g.hot g.nd hy hyl hsw hi ok (fun s H C cl fp => (hg s H C cl fp).p) (fun s H C cl fp => (ht s H C cl fp).p) (fun s H C cl fp => (he s H C cl fp).p) hs) fun D σ H h => h.2⟩
theorem h_rng {tg : Expr} (g : EnP T Y c p x) (k : Nat) (ha : DE Y c WF e a) (m : T.blt[k]? = some ("range" : Str) := by rfl) (hg : Gl Y "range" := by rfl) (hs : starEach [e] Y.env = [(false, eval e Y.env)] := by rfl) : L2H.PIH Y tg (.Call (.Name "range" p2) [e] [] pos) (rS c WF (.rng1 a)) :=
  L2H.pi_range1H hg (g.blt _ (List.mem_of_getElem? m)) (pa_cons ha.p pa_nil hs) hs
/-- return a if len(l) == n and isinstance(..) else b -/
theorem hs_ret {l : Nat} {n : Int} {o : Expr} (g : EnP T Y c p x) (h1 : DT Y c WF e1 (.cmp .eq (.fn .len (.cons (.v l) .nil)) (.c (.int n)))) (h2 : PE Y e2 (tK 0 p.1 (.bl true))) (ha : DE Y c WF e a) (hb : DE Y c WF o b)
    (ht : ∀ whole, isTrue e2 Y.env whole = (do let v ← whole; standAt e2.pos; holding [v] (truthy v)) := by intro _; rfl) : HS Y c p.1 (.Return (some (.IfExp (.BoolOp .And [e1, e2] pos) e o p2)) p3) (.ret (.ite (.and (.cmp .eq (.fn .len (.cons (.v l) .nil)) (.c (.int n))) (.c (.bool true))) a b)) := by
  have pt := pt_truth h2 ht
  refine ⟨PS.imp (ps_ret (pe_ifExp (pw_and h1.p (pw_and1 pt)).pt ha.p hb.p)) fun D σ H h => ?_⟩
  obtain ⟨h0, r⟩ := h
  obtain ⟨v, hv, y, m, ey, lv, r⟩ := r
  refine ⟨v, hv, y, m, ey, lv, ?_⟩
  obtain ⟨d, u, a1, a2, a3, a4, k, ek, r⟩ := r
  refine ⟨d, u, a1, a2, a3, a4, k, ek, ?_⟩
  cases k with
  | true =>
    rw [if_pos rfl] at r ⊢
    obtain ⟨kk, tr, r⟩ := r
    refine ⟨h0, kk, ?_, r⟩
    rw [g.K]
    exact tr
  | false =>
    rw [if_neg Bool.false_ne_true] at r ⊢
    exact r
end
/-- the whole body -/
theorem hb_run {Y : Cx} {c : Ctx} {a : Addr} {ks : List Nat} (h0 : 0 ∉ ks) : ∀ {sts : List Stmt} {ss : Sts}, HB Y c a sts ss → (∀ i ∈ ss.on, i ∈ ks) → ∃ t, PSs Y sts t ∧ ∀ (σ : L2.St) (e : Env) (G H : Hp) (S : Addr → Prop) (D : Ends), Wf G H S → Slots c.K G H S σ e → σ[0]? = some (some (.ref a)) → PostS c WF G H S ks σ (exSs c.C ss e) D → t D σ H
  | _, _, .nil, _ => ⟨tNext, pss_nil, fun σ e G H S D w sl _ k => k σ G H S .rfl' (.start w sl)⟩
  | _, _, .cons (s := s) (ss := ss) hs hb, m => by
    obtain ⟨t, p1, p2⟩ := hb_run h0 hb fun i z => m i (by simp [Sts.on, z])
    refine ⟨tSeq (tGs a (rX c WF s)) t, pss_cons hs.p p1, fun σ e G H S D w sl hz k => ⟨hz, ?_⟩⟩
    exact snd_st s (fun i z => m i (by simp [Sts.on, z])) WF σ e G H S _ w sl (PostS.seq k (fun e1 σ1 G1 H1 E1 kp x k1 => p2 σ1 e1 G1 H1 E1 D x.wfE x.sl (by rw [kp.at_ 0 h0]; exact hz) (PostS.shift x kp k1)) rfl rfl)
def retD (r : SR) : Option PyData := match r with
  | .ret (.d x) _ => some x
  | _ => none
theorem retD_eq {r : SR} {x : PyData} (h : retD r = some x) : ∃ e, r = .ret (.d x) e := by
  cases r with
  | ret t e =>
    cases t with
    | d y => cases h; exact ⟨e, rfl⟩
    | _ => cases h
  | nx e => cases h
  | exc _ _ => cases h
  | bad => cases h
/-- .. as a def's body: it answers z, whatever stands around -/
theorem hb_spec {Y : Cx} {c : Ctx} {a : Addr} {sts : List Stmt} {ss : Sts} {N : List Str} {z : Str} (h : HB Y c a sts ss) (h0 : 0 ∉ ss.on) (hN : N.length = 4) (hr : retD (exSs c.C ss [none, none, none, none]) = some (.str z)) :
    ∃ t, PSs Y sts t ∧ ∀ (H : Hp) (Q : VK), (∀ H', (∀ b o, H b = some o → H' b = some o) → Q (.str z) H') → t { nx := fun _ H' => Q .non H', rt := Q } (L2.start N [.ref a]) H := by
  obtain ⟨t, p1, p2⟩ := hb_run (ks := ss.on) h0 h fun _ z => z
  refine ⟨t, p1, fun H Q hq => p2 (L2.start N [.ref a]) [none, none, none, none] H H No _ ⟨Sub.refl H, fun _ z => z.elim⟩ ⟨?_, fun _ _ => False, fun _ _ z => z.elim, fun _ _ _ z => z.elim, fun i t q => ?_⟩ rfl ?_⟩
  · simp [L2.start, hN]
  · match i, q with
    | 0, q => simp at q
    | 1, q => simp at q
    | 2, q => simp at q
    | 3, q => simp at q
    | i + 4, q => simp at q
  · obtain ⟨e, e1⟩ := retD_eq hr
    rw [e1]
    intro σ' v G' H' P E kp o tk
    have ev : v = .str z := tk.str.1
    subst ev
    exact hq H' fun b o' hb => o.ext.fr b o' hb fun q => q
end Mv
end
section
set_option Elab.async false
set_option linter.all false
set_option maxRecDepth 100000
set_option maxHeartbeats 2000000
/-! Mv: a whole program. -/
namespace Mv
open PySem PySem.Spec PyProof.Rows L2
open Classical

structure DefI where
  d : He.DefD
  N : List Str
  ps : List Str
def AllD {α : Type} (φ : Nat → α → Prop) : Nat → List α → Prop
  | _, [] => True
  | i, a :: r => φ i a ∧ AllD φ (i + 1) r
theorem AllD.get {α : Type} {φ : Nat → α → Prop} : ∀ {l : List α} {n i : Nat} {a : α}, AllD φ n l → l[i]? = some a → φ (n + i) a
  | [], _, _, _, _, e => by simp at e
  | b :: r, n, 0, a, h, e => by simp at e; subst e; exact h.1
  | b :: r, n, i + 1, a, h, e => by
    have := AllD.get (i := i) (a := a) h.2 (by simpa using e)
    rw [Nat.add_assoc, Nat.add_comm 1 i] at this
    exact this
/-- how the calls of a def bind -/
def BindI (T : Pg) (i : Nat) (di : DefI) : Prop := ∀ (K : PySem.W.Frag) (f : Addr) (fd : FuncData), FunD K di.d.name di.d.qual di.d.params di.d.body di.d.scope (di.d.dvs K) (di.d.kws K) f fd → ∀ q ∈ T.cals, q.1 = i → ∃ ds, Binds K fd di.ps ds ∧ Vals (q.2.2.map vOf) ds
/-- a def's body comes to its reading -/
structure BodyI (T : Pg) (p : Prog) (i : Nat) (di : DefI) (D : Def) : Prop where
  hD : p[i]? = some D
  n : D.n = di.N.length
  l : D.ps.length = di.ps.length
  st : ∀ j, D.ps[j]? = some true → j ∉ D.body.on
  sc : FnScope di.N di.ps di.d.scope
  bi : BindI T i di
  b : ∀ {P : Program} {w : World} {K : PySem.W.Frag} {mg : Str → Option Value} {base : Heap} {c : Mv.Ctx} {W : WX} {fa : Addr} {cdv : Value} {A : Around} {outer : List PySem.Env} {s : Shared} {H : Hp} {E : XK},
    En T (cxOf (L2N.CX P w) P w K mg base di.N di.d.qual di.d.scope fa cdv A outer s H E) c W → DB (cxOf (L2N.CX P w) P w K mg base di.N di.d.qual di.d.scope fa cdv A outer s H E) c W di.d.body D.body
def BodyOk (T : Pg) (p : Prog) (i : Nat) (di : DefI) : Prop := ∃ D, BodyI T p i di D
/-- a def that is called with the handled exception alone -/
structure HotI (T : Pg) (di : DefI) (h : Nat → Option Str) : Prop where
  one : di.ps.length = 1
  sc : FnScope di.N di.ps di.d.scope
  bi : ∀ (K : PySem.W.Frag) (f : Addr) (fd : FuncData), FunD K di.d.name di.d.qual di.d.params di.d.body di.d.scope (di.d.dvs K) (di.d.kws K) f fd → Binds K fd di.ps []
  b : ∀ {P : Program} {w : World} {K : PySem.W.Frag} {mg : Str → Option Value} {base : Heap} {c : Mv.Ctx} {fa : Addr} {cdv : Value} {A : Around} {outer : List PySem.Env} {s : Shared} {H0 : Hp} {E : XK} {p : Addr × Obj} {x : Nat} {z : Str}, h x = some z →
    EnP T (L2H.cxH (L2N.CX P w) P w K mg base di.N di.d.qual di.d.scope fa cdv A outer s H0 E p) c p x →
    ∃ t, PSs (L2H.cxH (L2N.CX P w) P w K mg base di.N di.d.qual di.d.scope fa cdv A outer s H0 E p) di.d.body t ∧ ∀ (H : Hp) (Q : VK), (∀ H', (∀ b o, H b = some o → H' b = some o) → Q (.str z) H') → t { nx := fun _ H' => Q .non H', rt := Q } (L2.start di.N [.ref p.1]) H
/-- what the written part says -/
structure Fx (T : Pg) (tab all : List DefI) (K : PySem.W.Frag) (mg : Str → Option Value) (cl : Nat → Value) : Prop where
  blt : ∀ x ∈ T.blt, mg x = none
  cons : ∀ p ∈ T.cons, ∃ u, mg p.1 = some u ∧ RelV (vOf p.2) u
  clss : ∀ p ∈ T.clss, Own K mg ⟨K, fun _ _ => .bad, cl⟩ p
  ec : ∀ x, ∃ D : Addr, cl x = .ref D ∧ ExcC K D ∧ PySem.W.kitOne K (.ref D) (.type "ValueError") = some true
  ux : ∀ p ∈ T.clss, ∀ x, PySem.W.exmOne K (cl x) (cl p.2) = some (T.un x p.2) ∧ PySem.W.kitOne K (cl x) (cl p.2) = some (T.un x p.2)
  fn : ∀ (di : DefI), di ∈ all → (∃ fd, FunD K di.d.name di.d.qual di.d.params di.d.body di.d.scope (di.d.dvs K) (di.d.kws K) (He.ga K di.d.name) fd) ∧ mg di.d.name = some (.ref (He.ga K di.d.name))
  cal : ∀ q ∈ T.cals, ∃ di : DefI, tab[q.1]? = some di ∧ di.d.name = q.2.1
section
variable {T : Pg} {tab all : List DefI} {K : PySem.W.Frag} {mg : Str → Option Value} {cl : Nat → Value} {p : Prog} {P : Program} {w : World} {base : Heap}
theorem hot_fn (X : Fx T tab all K mg cl) (hhot : ∀ q ∈ T.hots, ∃ di ∈ all, HotI T di q.2 ∧ di.d.name = q.1) {k : Nat} {A : Around} {c : Mv.Ctx} (hc : c.cl = cl) (hK : c.K = K) (hr : Room (k + 1) A) : ∀ q ∈ T.hots, HCal P w K mg base A c q := by
  intro q hq
  obtain ⟨di, hd, I, nm⟩ := hhot q hq
  obtain ⟨⟨fd, F⟩, m⟩ := X.fn di hd
  refine ⟨k + 1, _, fd, di.ps, hr, by rw [← nm]; exact m, F.kp, I.bi K _ fd F, fun x z p e hz hf => fn_ofP F I.sc (fun vs H Q E hs => by rw [hs.1, I.one]; rfl) fun cdv A outer s H vs Q E hot room hsp => ?_⟩
  obtain ⟨ev, hq⟩ := hsp
  subst ev
  obtain ⟨t, p1, p2⟩ := I.b (P := P) (w := w) (K := K) (mg := mg) (base := base) (c := c) (fa := He.ga K di.d.name) (cdv := cdv) (A := A) (outer := outer) (s := s) (H0 := H) (E := E) (p := p) e
    ⟨hK.symm, I.sc.nd, by have := room.un; show (A.deeper _).units + 65 < _; omega, X.blt, fun q hq => by have := X.clss q hq; rw [← hc] at this; exact this, by rw [hc]; exact X.ec, by rw [hc]; exact X.ux, List.mem_singleton_self p, ⟨hot.1, hot.2⟩, hz, hf⟩
  exact ⟨t, p1, p2 H Q hq⟩
theorem all_fn (X : Fx T tab all K mg cl) (hall : AllD (BodyOk T p) 0 tab) (hsub : ∀ di ∈ tab, di ∈ all) (hhot : ∀ q ∈ T.hots, ∃ di ∈ all, HotI T di q.2 ∧ di.d.name = q.1) : ∀ (k i : Nat) (di : DefI) (fd : FuncData), tab[i]? = some di → FunD K di.d.name di.d.qual di.d.params di.d.body di.d.scope (di.d.dvs K) (di.d.kws K) (He.ga K di.d.name) fd →
    FnOk P w K mg base (L2N.CX P w) (k + 1) (He.ga K di.d.name) fd di.ps (spOf ⟨K, run p k, cl⟩ i) := by
  intro k
  induction k with
  | zero => intro i di fd _ _; exact def_zero
  | succ k ih =>
    intro i di fd hi F
    obtain ⟨D, B⟩ := hall.get hi
    rw [Nat.zero_add] at B
    refine def_snd F B.sc B.hD B.n B.l B.st fun cdv A outer s H E hr => (B.b (P := P) (w := w) (base := base) (c := ⟨K, run p k, cl⟩) (W := fun cls d _ H => E cls d H) (E := E) ⟨rfl, B.sc.nd, rfl, ?_, X.blt, X.cons, ?_, fun q hq => X.clss q hq, X.ec, X.ux, hot_fn X hhot rfl rfl hr, L2N.takes_of rfl rfl rfl rfl, passes_of rfl⟩).p
    · have := hr.un
      show (A.deeper _).units + 65 < _
      omega
    · intro q hq
      obtain ⟨dj, h1, h2⟩ := X.cal q hq
      obtain ⟨⟨fj, Fj⟩, m⟩ := X.fn _ (hsub _ (List.mem_of_getElem? h1))
      obtain ⟨Dj, Bj⟩ := hall.get h1
      rw [Nat.zero_add] at Bj
      obtain ⟨ds, b1, b2⟩ := Bj.bi K _ fj Fj q hq rfl
      refine ⟨k + 1, _, fj, dj.ps, ds, ih _ _ _ h1 Fj, hr, ?_, Fj.kp, b1, b2⟩
      rw [← h2]; exact m
/-- what the law's def must come to -/
def LawRuns (p : Prog) (k i n : Nat) : Prop := ∀ ns : List Int, ns.length ≤ n → (∀ z ∈ ns, Builtin.Int.intBits z ≤ 1048576) → ∃ outs, run p k i [.s ns] = .ok (.d (.bool true)) outs
theorem law_sp {k i n : Nat} (h : LawRuns p k i n) (hn : n ≤ LINE) {H : Hp} {a : Addr} {ns : List Int} (hl : ns.length ≤ n) (hb : ∀ z ∈ ns, Builtin.Int.intBits z ≤ 1048576) (q : SqL K H a (ns.map V.int)) : spOf ⟨K, run p k, cl⟩ i [.ref a] H (fun v _ => v = .bl true) fun _ _ _ => False := by
  obtain ⟨outs, r⟩ := h ns hl hb
  refine ⟨H, No, [.s ns], ⟨Sub.refl H, fun _ z => z.elim⟩, rfl, ?_, ?_⟩
  · refine Slots.cons (A := No) (B := No) (fun t e => ?_) .nil (fun _ z => z) (fun _ z => z) (fun _ z _ => z)
    cases e
    exact ⟨a, rfl, q, by omega⟩
  · show CPost _ H H No [.ref a] (run p k i [.s ns]) _ _
    rw [r]
    intro v G' H' P' E' _ o
    exact o.bl
end
/-! ### small checks -/
def stB (D : Def) : Bool := (List.range D.ps.length).all fun j => !((D.ps[j]?.getD false) && D.body.on.contains j)
theorem st_of {D : Def} (h : stB D = true) : ∀ j, D.ps[j]? = some true → j ∉ D.body.on := by
  intro j e m
  have lt : j < D.ps.length := (List.getElem?_eq_some_iff.mp e).1
  have := List.all_eq_true.mp h j (List.mem_range.mpr lt)
  rw [e] at this
  simp [m] at this
/-- no defaults -/
theorem bind0 {T : Pg} {i : Nat} {di : DefI} (h1 : di.d.dfl = []) (h2 : di.d.kwd = []) (h3 : (T.cals.all fun q => !(q.1 == i) || q.2.2.isEmpty) = true)
    (h : ∀ (kV doc pm : Value) (an : Option Addr) (cdv ct : Value) (us : List Value), us.length = di.ps.length → bindArgs (PySem.W.fnOf di.d.name di.d.qual di.d.params di.d.body di.d.scope .none kV doc pm an cdv ct) ⟨us, []⟩ = pure (di.ps.zip us)) : BindI T i di := by
  intro K f fd F q hq e
  have := List.all_eq_true.mp h3 q hq
  rw [e] at this
  have e2 : q.2.2 = [] := by simpa using this
  have F' : FunD K di.d.name di.d.qual di.d.params di.d.body di.d.scope [] [] f fd := by
    have d1 : di.d.dvs K = [] := by simp [He.DefD.dvs, h1]
    have d2 : di.d.kws K = [] := by simp [He.DefD.kws, h2]
    rw [d1, d2] at F
    exact F
  refine ⟨[], FunD.bindsN F' h, ?_⟩
  rw [e2]
  exact .nil
theorem hot_bind {di : DefI} (h1 : di.d.dfl = []) (h2 : di.d.kwd = [])
    (h : ∀ (kV doc pm : Value) (an : Option Addr) (cdv ct : Value) (us : List Value), us.length = di.ps.length → bindArgs (PySem.W.fnOf di.d.name di.d.qual di.d.params di.d.body di.d.scope .none kV doc pm an cdv ct) ⟨us, []⟩ = pure (di.ps.zip us)) (K : PySem.W.Frag) (f : Addr) (fd : FuncData)
    (F : FunD K di.d.name di.d.qual di.d.params di.d.body di.d.scope (di.d.dvs K) (di.d.kws K) f fd) : Binds K fd di.ps [] := by
  have F' : FunD K di.d.name di.d.qual di.d.params di.d.body di.d.scope [] [] f fd := by
    have d1 : di.d.dvs K = [] := by simp [He.DefD.dvs, h1]
    have d2 : di.d.kws K = [] := by simp [He.DefD.kws, h2]
    rw [d1, d2] at F
    exact F
  exact FunD.bindsN F' h
/-! ### facts from the head -/
def conFa : Str × PyData → He.Fa
  | (x, .int i) => .int x i
  | (x, .str z) => .str x z
  | (x, _) => .keep x
def nmAt (ns : List Str) (x : Nat) : Str := ns.getD x (ns.getD 0 "")
def clN (K : PySem.W.Frag) (ns : List Str) (x : Nat) : Value := .ref (He.ga K (nmAt ns x))
def Pg.ns (T : Pg) : List Str := T.clss.map (·.1)
def faOf (T : Pg) (tab : List DefI) : List He.Fa := T.blt.map .free ++ T.cons.map conFa ++ T.clss.map (fun p => .glo p.1) ++ T.clss.map (fun p => .exc p.1) ++ tab.map fun d => .glo d.d.name
def excCB (K : PySem.W.Frag) (D : Addr) : Bool :=
  decide (PySem.W.findIn K (.ref D) "__getattribute__" = some (some (.builtin "BaseException.__getattribute__"))) && (decide (PySem.W.findIn K (.ref D) "__getattr__" = some none) && (PySem.W.hasDictIn K D && (decide (PySem.W.findIn K (.ref D) "__class__" = some (some (.builtin "object.__class__"))) &&
    (decide (PySem.W.specialIn K (.builtin "object.__class__") "__get__" = some (some (.builtin "getset_descriptor.__get__"))) && (decide (PySem.W.takesIn K (.builtin "object.__class__") = some true) && (decide (PySem.W.mroIn K D (.type "object") = some true) && decide (PySem.W.kitOne K (.ref D) (.type "ValueError") = some true)))))))
def exB (T : Pg) (K : PySem.W.Frag) : Bool := (List.range T.clss.length).all fun x => excCB K (He.ga K (nmAt T.ns x)) && (List.range T.clss.length).all fun y =>
  decide (PySem.W.exmOne K (clN K T.ns x) (clN K T.ns y) = some (T.un x y)) && decide (PySem.W.kitOne K (clN K T.ns x) (clN K T.ns y) = some (T.un x y))
/-- what is looked at of the texts alone -/
structure PgOk (T : Pg) (tab all : List DefI) : Prop where
  at_ : (all.all fun d => decide (d.d.at_ = (d.d.name, none))) = true
  cons : (T.cons.all fun p => match p.2 with | .int _ => true | .str _ => true | _ => false) = true
  clss : ∀ p ∈ T.clss, p.2 < T.clss.length ∧ nmAt T.ns p.2 = p.1
  ul : (T.ul.all fun p => p.1 != 0 && decide (p.1 < T.clss.length)) = true
  pos : 0 < T.clss.length
  cal : (T.cals.all fun q => (tab[q.1]?).any fun d => decide (d.d.name = q.2.1)) = true
theorem PgOk.out {T : Pg} {tab all : List DefI} (O : PgOk T tab all) (x y : Nat) (h1 : T.clss.length ≤ x) (h2 : y < T.clss.length) : T.un x y = T.un 0 y := by
  have no : ∀ x, (x = 0 ∨ T.clss.length ≤ x) → T.ul.contains (x, y) = false := by
    intro x hx
    rw [Bool.eq_false_iff]
    intro hc
    have := List.all_eq_true.mp O.ul _ (by simpa using hc)
    simp only [Bool.and_eq_true, bne_iff_ne, decide_eq_true_eq] at this
    omega
  unfold Pg.un
  rw [no x (.inr h1), no 0 (.inl rfl)]
  cases y with
  | zero => rfl
  | succ y =>
    have : (x == y + 1) = false := by simp; omega
    rw [this]
    simp
theorem nmAt_out {ns : List Str} {x : Nat} (h : ns.length ≤ x) : nmAt ns x = nmAt ns 0 := by
  unfold nmAt
  rw [List.getD_eq_getElem?_getD, List.getElem?_eq_none h]
  simp only [List.getD_eq_getElem?_getD, Option.getD_none]
  cases ns[0]? <;> rfl
theorem fx_of {T : Pg} {tab all : List DefI} {K : PySem.W.Frag} {mg : Str → Option Value} {h : Heap} {w : World} (O : PgOk T tab all) (X : K.In h) (G : h.Ns mainGlobals mg) (c : He.SaysD (faOf T all) (all.map (·.d)) K) (e : exB T K = true) : Fx T tab all K mg (clN K T.ns) := by
  have el : T.ns.length = T.clss.length := by simp [Pg.ns]
  have e1 : ∀ x, x < T.clss.length → excCB K (He.ga K (nmAt T.ns x)) = true ∧ ∀ y, y < T.clss.length → PySem.W.exmOne K (clN K T.ns x) (clN K T.ns y) = some (T.un x y) ∧ PySem.W.kitOne K (clN K T.ns x) (clN K T.ns y) = some (T.un x y) := by
    intro x hx
    unfold exB at e
    have := List.all_eq_true.mp e x (List.mem_range.mpr hx)
    simp only [Bool.and_eq_true] at this
    refine ⟨this.1, fun y hy => ?_⟩
    have := List.all_eq_true.mp this.2 y (List.mem_range.mpr hy)
    simpa using this
  have sub : ∀ x, x < T.clss.length → PySem.W.subIn K (.ref (He.ga K (nmAt T.ns x))) (.type "BaseException") = some true := by
    intro x hx
    have hm : nmAt T.ns x ∈ T.ns := by
      unfold nmAt
      rw [List.getD_eq_getElem?_getD, List.getElem?_eq_getElem (by rw [el]; exact hx)]
      exact List.getElem_mem _
    obtain ⟨p, hp, e2⟩ := List.mem_map.mp hm
    have := He.exc_ok (c.facts (f := .exc p.1) (by unfold faOf; simp only [List.mem_append]; exact .inl (.inr (List.mem_map.mpr ⟨p, hp, rfl⟩))))
    rw [e2] at this
    exact this.2.2.1
  refine ⟨fun x hx => ?_, fun p hp => ?_, fun p hp => ?_, fun x => ?_, fun p hp x => ?_, fun di hm => ?_, fun q hq => ?_⟩
  · exact He.free_ok X G (c.facts (by unfold faOf; simp only [List.mem_append]; exact .inl (.inl (.inl (.inl (List.mem_map.mpr ⟨x, hx, rfl⟩))))))
  · have hf := c.facts (f := conFa p) (by unfold faOf; simp only [List.mem_append]; exact .inl (.inl (.inl (.inr (List.mem_map.mpr ⟨p, hp, rfl⟩)))))
    obtain ⟨x, y⟩ := p
    have oc : (∃ i, y = .int i) ∨ ∃ z, y = .str z := by
      have := List.all_eq_true.mp O.cons _ hp
      cases y <;> first | exact .inl ⟨_, rfl⟩ | exact .inr ⟨_, rfl⟩ | cases this
    rcases oc with ⟨i, q⟩ | ⟨z, q⟩
    · have q' : y = .int i := q
      subst q'
      obtain ⟨t, m⟩ := He.int_ok X G hf
      exact ⟨_, m, t, rfl⟩
    · have q' : y = .str z := q
      subst q'
      obtain ⟨t, m⟩ := He.str_ok X G hf
      exact ⟨_, m, t, rfl⟩
  · have h1 := He.glo_ok X G (c.facts (f := .glo p.1) (by unfold faOf; simp only [List.mem_append]; exact .inl (.inl (.inr (List.mem_map.mpr ⟨p, hp, rfl⟩)))))
    obtain ⟨h2, h3, h4, h5⟩ := He.exc_ok (c.facts (f := .exc p.1) (by unfold faOf; simp only [List.mem_append]; exact .inl (.inr (List.mem_map.mpr ⟨p, hp, rfl⟩))))
    refine ⟨He.ga K p.1, h1, ?_, h2, h3, h4, h5⟩
    show clN K T.ns p.2 = _
    unfold clN
    rw [(O.clss p hp).2]
  · have key : ∀ x, x < T.clss.length → ∃ D : Addr, clN K T.ns x = .ref D ∧ ExcC K D ∧ PySem.W.kitOne K (.ref D) (.type "ValueError") = some true := by
      intro x hx
      have := (e1 x hx).1
      unfold excCB at this
      simp only [Bool.and_eq_true, decide_eq_true_eq] at this
      obtain ⟨a1, a2, a3, a4, a5, a6, a7, a8⟩ := this
      exact ⟨_, rfl, ⟨a1, a2, sub x hx, a3, a4, a5, a6, a7⟩, a8⟩
    by_cases hx : x < T.clss.length
    · exact key x hx
    · have := key 0 O.pos
      have eq : clN K T.ns x = clN K T.ns 0 := by unfold clN; rw [nmAt_out (by omega)]
      rw [eq]; exact this
  · have hy := (O.clss p hp).1
    by_cases hx : x < T.clss.length
    · exact (e1 x hx).2 _ hy
    · have := (e1 0 O.pos).2 _ hy
      have eq : clN K T.ns x = clN K T.ns 0 := by unfold clN; rw [nmAt_out (by omega)]
      rw [eq, O.out x _ (by omega) hy]; exact this
  · obtain ⟨fd, F⟩ := c.defs (d := di.d) (List.mem_map.mpr ⟨di, hm, rfl⟩)
    refine ⟨⟨fd, ?_⟩, He.glo_ok X G (c.facts (f := .glo di.d.name) (by unfold faOf; simp only [List.mem_append]; exact .inr (List.mem_map.mpr ⟨di, hm, rfl⟩)))⟩
    have := of_decide_eq_true (List.all_eq_true.mp O.at_ di hm)
    rw [this] at F
    exact F
  · have := List.all_eq_true.mp O.cal q hq
    cases z : tab[q.1]? with
    | none => rw [z] at this; cases this
    | some d => rw [z] at this; exact ⟨d, rfl, of_decide_eq_true this⟩

/-- the end: where the law's run comes to True -/
theorem law_end {l : PySem.W.OpenLaw} {T : Pg} {tab all : List DefI} {p : Prog} {K : PySem.W.Frag} {w : World} {mg : Str → Option Value} {h : Heap} {fa : Addr} {i n k : Nat} {di : DefI} {x : Str} (O : PgOk T tab all) (hall : AllD (BodyOk T p) 0 tab) (hsub : ∀ di ∈ tab, di ∈ all) (hhot : ∀ q ∈ T.hots, ∃ di ∈ all, HotI T di q.2 ∧ di.d.name = q.1) (hrun : LawRuns p k i n) (hn : n ≤ LINE) (hi : tab[i]? = some di) (hps : di.ps = [x]) (h1 : di.d.dfl = []) (h2 : di.d.kwd = [])
    (hbd : ∀ (kV doc pm : Value) (an : Option Addr) (cdv ct : Value) (us : List Value), us.length = di.ps.length → bindArgs (PySem.W.fnOf di.d.name di.d.qual di.d.params di.d.body di.d.scope .none kV doc pm an cdv ct) ⟨us, []⟩ = pure (di.ps.zip us))
    (X : K.In h) (G : h.Ns mainGlobals mg) (c : He.SaysD (faOf T all) (all.map (·.d)) K) (e : exB T K = true) (hm : mg di.d.name = some (.ref fa)) : LamX.LawAtS l w K (L2N.CX l.prog w) (k + 1) n x mg fa h := by
  have Fx := fx_of (tab := tab) (w := w) O X G c e
  obtain ⟨⟨fd, F⟩, m⟩ := Fx.fn di (hsub _ (List.mem_of_getElem? hi))
  rw [hm] at m
  have ea : fa = He.ga K di.d.name := by cases m; rfl
  subst ea
  have F' : FunD K di.d.name di.d.qual di.d.params di.d.body di.d.scope [] [] (He.ga K di.d.name) fd := by
    have d1 : di.d.dvs K = [] := by simp [He.DefD.dvs, h1]
    have d2 : di.d.kws K = [] := by simp [He.DefD.kws, h2]
    rw [d1, d2] at F
    exact F
  refine ⟨fd, [], spOf ⟨K, run p k, clN K T.ns⟩ i, (fun _ z => nomatch z), (fun _ z => nomatch z), (fun _ z => nomatch z), fun s u => ?_, fun H a ns hl hb _ q => law_sp hrun hn hl hb q, fun base _ _ _ => ?_⟩
  · have := FunD.bindsA F' hbd s [u] (by rw [hps]; rfl)
    rw [hps] at this
    exact this
  · rw [← hps]
    exact all_fn Fx hall hsub hhot k i di fd hi F
theorem cx_none (P : Program) (w : World) (H : Hp) (s : Shared) (e : Value) (s' : Shared) : L2N.CX P w [] H s (fun _ _ _ => False) e s' → False := fun z => by
  obtain ⟨_, _, _, _, _, _, _, _, _, _, _, _, q⟩ := z
  exact q
end Mv
end
section
set_option Elab.async false
set_option linter.all false
set_option maxHeartbeats 4000000
set_option maxRecDepth 10000
/-! Mv: running its programs in plain Lean: steps, loops. -/
namespace Mv
open PySem L2

section
variable {C : Orc} {e e1 e2 : Env} {s : Mv.St} {ss p q : Sts} {a b c : Ex} {i j : Nat} {t u : T} {r : SR} {x : PyData} {k : Bool}
theorem st_nx (h : exS C s e = .nx e1) (h2 : exSs C ss e1 = r) : exSs C (.cons s ss) e = r := by rw [← h2]; show (exS C s e).seq _ = _; rw [h]; rfl
theorem st_ret (h : exS C s e = .ret t e1) : exSs C (.cons s ss) e = .ret t e1 := by show (exS C s e).seq _ = _; rw [h]; rfl
theorem st_exc (h : exS C s e = .exc i e1) : exSs C (.cons s ss) e = .exc i e1 := by show (exS C s e).seq _ = _; rw [h]; rfl
theorem st_nil : exSs C .nil e = .nx e := rfl
theorem st_end (h : e = e1) : exSs C .nil e = .nx e1 := by subst h; rfl
theorem x_asg (h : (den C a).v e = .ok t e1) : exS C (.asg i a) e = .nx (e1.set i (some t)) := by simp only [exS, h, R.st_ok]
theorem x_ex (h : (den C a).v e = .ok t e1) : exS C (.ex a) e = .nx e1 := by simp only [exS, h, R.st_ok]
theorem x_ret (h : (den C a).v e = .ok t e1) : exS C (.ret a) e = .ret t e1 := by simp only [exS, h, R.st_ok]
theorem x_exc (h : (den C a).v e = .exc i e1) : exS C (.ret a) e = .exc i e1 := by simp only [exS, h, R.st_exc]
theorem x_rse (h : (den C a).v e = .ok t e1) : exS C (.rse i a) e = .exc i e1 := by simp only [exS, h, R.st_ok]
theorem x_if (h : (den C a).b e = .ok k e1) (h2 : (if k = true then exSs C p e1 else exSs C q e1) = r) : exS C (.iff a p q) e = r := by simp only [exS, h, R.st_ok]; exact h2
theorem x_ift (h : (den C a).b e = .ok true e1) (h2 : exSs C p e1 = r) : exS C (.iff a p q) e = r := by simp only [exS, h, R.st_ok]; exact h2
theorem x_iff (h : (den C a).b e = .ok false e1) (h2 : exSs C q e1 = r) : exS C (.iff a p q) e = r := by simp only [exS, h, R.st_ok]; exact h2
theorem x_fr {tg : Tg} {s : Src} {xs : List PyData} (h : srcs C s e = .ok xs e1) (h2 : loop tg (exSs C p) xs e1 = r) : exS C (.fr tg s p) e = r := by simp only [exS, h, R.st_ok]; exact h2
theorem x_wh {n : Nat} (h : whil (den C a).b (exSs C p) n e = r) : exS C (.wh n a p) e = r := by simp only [exS]; exact h
theorem x_seti {w : T} {y : Opd} {t' : T} (h : (den C a).v e = .ok w e1) (hz : w.frz? = some x) (hs : ((e1[i]?).join).isSome = true) (hk : (den C b).opd e1 = .ok y e2) (h1 : (e2[i]?).join = some t) (h2 : y.get e2 = some u) (h3 : setAt t u x = some t') :
    exS C (.seti i b a) e = .nx (e2.set i (some t')) := by simp only [exS, h, R.st_ok, frzR, hz, lift_some, hs, if_true, hk, h1, h2, h3]
theorem x_unp {w : T} {tg : Tg} (h : (den C a).v e = .ok w e1) (hz : w.frz? = some x) (hb : bindT tg x e1 = some e2) : exS C (.unp tg a) e = .nx e2 := by simp only [exS, h, R.st_ok, frzR, hz, lift_some, hb]
end
theorem le1 : 1 ≤ LINE := by decide
theorem le2 : 2 ≤ LINE := by decide
/-! ### expressions, one lemma each -/
section
variable {C : Orc} {e e1 e2 e3 : Env} {a b c : Ex} {i j : Nat} {t u w : T} {x y z : Opd} {d : PyData} {k : Bool} {es : Exs} {o : BOp} {q q' : COp}
theorem v_c (h : scal d = true) (he : e = e1) : (den C (.c d)).v e = .ok (.d d) e1 := by subst he; simp only [den, Dn.of, h, if_true]
theorem v_v (h : (e[i]?).join = some t) (z : t.frz? = some d) (he : e.set i (some (.d d)) = e1) : (den C (.v i)).v e = .ok (.d d) e1 := by subst he; simp only [den, rd, h, z]
theorem v_mvd (h : (e[i]?).join = some (.d d)) (he : e = e1) : (den C (.mv i)).v e = .ok (.d d) e1 := by subst he; simp only [den, Dn.of, mvo, h]
theorem v_mvl {xs : List PyData} (h : (e[i]?).join = some (.l xs)) (he : e.set i none = e1) : (den C (.mv i)).v e = .ok (.l xs) e1 := by subst he; simp only [den, Dn.of, mvo, h]
theorem v_mvm {xs : List (Key × PyData)} (h : (e[i]?).join = some (.m xs)) (he : e.set i none = e1) : (den C (.mv i)).v e = .ok (.m xs) e1 := by subst he; simp only [den, Dn.of, mvo, h]
theorem o_v (h : (e[i]?).join = some t) (he : e = e1) : (den C (.v i)).opd e = .ok (.r i) e1 := by subst he; simp only [den, Dn.opd, h]
theorem o_of (hx : (den C a).x = none) (h : (den C a).v e = .ok t e1) : (den C a).opd e = .ok (.w t) e1 := by simp only [Dn.opd, hx, h, R.bind_ok]
theorem op2_ok {A B : Dn} {f : T → T → Option T} (ha : A.opd e = .ok x e1) (hb : B.opd e1 = .ok y e2) (hx : x.get e2 = some t) (hy : y.get e2 = some u) (hf : f t u = some w) : op2 A B f e = .ok w e2 := by simp only [op2, ha, hb, R.bind_ok, hx, hy, hf, lift_some]
theorem v_bin (ha : (den C a).opd e = .ok x e1) (hb : (den C b).opd e1 = .ok y e2) (hx : x.get e2 = some t) (hy : y.get e2 = some u) (hf : bin o t u = some w) : (den C (.bin o a b)).v e = .ok w e2 := by simp only [den, Dn.of]; exact op2_ok ha hb hx hy hf
theorem v_cmp (ha : (den C a).opd e = .ok x e1) (hb : (den C b).opd e1 = .ok y e2) (hx : x.get e2 = some t) (hy : y.get e2 = some u) (hf : cmp q t u = some k) : (den C (.cmp q a b)).v e = .ok (.d (.bool k)) e2 := by simp only [den, Dn.of]; exact op2_ok ha hb hx hy (by rw [hf]; rfl)
theorem v_ix (ha : (den C a).opd e = .ok x e1) (hb : (den C b).opd e1 = .ok y e2) (hx : x.get e2 = some t) (hy : y.get e2 = some u) (hf : item t u = some w) : (den C (.ix a b)).v e = .ok w e2 := by simp only [den, Dn.of]; exact op2_ok ha hb hx hy hf
theorem v_neg {n : Int} (ha : (den C a).v e = .ok (.d (.int n)) e1) : (den C (.neg a)).v e = .ok (.d (.int (-n))) e1 := by simp only [den, Dn.of, ha, R.bind_ok]
theorem v_not (ha : (den C a).opd e = .ok x e1) (hx : x.get e1 = some t) (hk : truth t = some k) : (den C (.not a)).v e = .ok (.d (.bool (!k))) e1 := by simp only [den, ha, R.bind_ok, hx, Option.bind, hk, Option.map, lift_some]
theorem v_and1 (ha : (den C a).v e = .ok (.d (.bool true)) e1) (hb : (den C b).v e1 = .ok t e2) : (den C (.and a b)).v e = .ok t e2 := by simp only [den, ha, R.bind_ok, hb]
theorem v_and0 (ha : (den C a).v e = .ok (.d (.bool false)) e1) : (den C (.and a b)).v e = .ok (.d (.bool false)) e1 := by simp only [den, ha, R.bind_ok]
theorem v_or1 (ha : (den C a).v e = .ok (.d (.bool true)) e1) : (den C (.or a b)).v e = .ok (.d (.bool true)) e1 := by simp only [den, ha, R.bind_ok]
theorem v_or0 (ha : (den C a).v e = .ok (.d (.bool false)) e1) (hb : (den C b).v e1 = .ok t e2) : (den C (.or a b)).v e = .ok t e2 := by simp only [den, ha, R.bind_ok, hb]
theorem v_itet (hc : (den C c).b e = .ok true e1) (ha : (den C a).v e1 = .ok t e2) : (den C (.ite c a b)).v e = .ok t e2 := by simp only [den, Dn.of, hc, R.bind_ok, if_true, ha]
theorem v_itef (hc : (den C c).b e = .ok false e1) (ha : (den C b).v e1 = .ok t e2) : (den C (.ite c a b)).v e = .ok t e2 := by simp only [den, Dn.of, hc, R.bind_ok, Bool.false_eq_true, if_false, ha]
theorem v_lst {xs : List PyData} (h : evs (dens C es) e = .ok xs e1) (hl : xs.length ≤ LINE) : (den C (.lst es)).v e = .ok (.l xs) e1 := by simp only [den, Dn.of, h, R.bind_ok, hl, if_true]
theorem v_tup {xs : List PyData} (h : evs (dens C es) e = .ok xs e1) (hl : xs.length ≤ LINE) : (den C (.tup es)).v e = .ok (.d (.tuple xs)) e1 := by simp only [den, Dn.of, h, R.bind_ok, hl, if_true]
theorem v_dnew (he : e = e1) : (den C .dnew).v e = .ok (.m []) e1 := by subst he; rfl
theorem v_sl {lo hi : Exs} {l h : Option Int} (ha : (den C a).opd e = .ok x e1) (h1 : prt (dens C lo) e1 = .ok l e2) (h2 : prt (dens C hi) e2 = .ok h e3) (hx : x.get e3 = some t) (hs : slice t l h = some w) : (den C (.sl a lo hi)).v e = .ok w e3 := by simp only [den, Dn.of, ha, h1, h2, R.bind_ok, hx, Option.bind, hs, lift_some]
theorem p_nil (he : e = e1) : prt (dens C .nil) e = .ok none e1 := by subst he; rfl
theorem p_cons {n : Int} (h : (den C a).v e = .ok (.d (.int n)) e1) : prt (dens C (.cons a .nil)) e = .ok (some n) e1 := by simp only [dens, prt, h, R.bind_ok]
theorem v_isi {ts : List Ty} (hl : ts.length ≤ 16) (ha : (den C a).opd e = .ok x e1) (hx : x.get e1 = some t) : (den C (.isi a ts)).v e = .ok (.d (.bool (ts.any fun y => isTy y t))) e1 := by simp only [den, Dn.of, hl, if_true, ha, R.bind_ok, hx, Option.map, lift_some]
theorem v_fn {f : Fn} {xs : List Opd} {ts : List T} (h : opds (dens C es) e = .ok xs e1) (hg : gets xs e1 = some ts) (hf : fn f ts = some w) : (den C (.fn f es)).v e = .ok w e1 := by simp only [den, Dn.of, h, R.bind_ok, hg, Option.bind, hf, lift_some]
theorem os_nil (he : e = e1) : opds (dens C .nil) e = .ok [] e1 := by subst he; rfl
theorem os_cons {xs : List Opd} (h : (den C a).opd e = .ok x e1) (h2 : opds (dens C es) e1 = .ok xs e2) : opds (dens C (.cons a es)) e = .ok (x :: xs) e2 := by simp only [dens, opds, h, h2, R.bind_ok]
theorem l_nil (he : e = e1) : evs (dens C .nil) e = .ok [] e1 := by subst he; rfl
theorem l_cons {xs : List PyData} (h : (den C a).v e = .ok t e1) (hz : t.frz? = some d) (h2 : evs (dens C es) e1 = .ok xs e2) : evs (dens C (.cons a es)) e = .ok (d :: xs) e2 := by simp only [dens, evs, h, R.bind_ok, frzR, hz, lift_some, h2]
theorem gets_nil : gets [] e = some [] := rfl
theorem gets_cons {xs : List Opd} {ts : List T} (h : x.get e = some t) (h2 : gets xs e = some ts) : gets (x :: xs) e = some (t :: ts) := by simp only [gets, h, h2]
theorem v_call {f : Nat} {ds : List PyData} {xs : List Opd} {ts : List T} {outs : List (Option T)} (h : opds (dens C es) e = .ok xs e1) (hd : ds.all scal = true) (hf : fetch (xs ++ ds.map fun x => .w (.d x)) e1 = some (ts, e2)) (hc : C f ts = .ok t outs) (he : give (xs ++ ds.map fun x => .w (.d x)) outs e2 = e3) :
    (den C (.call f es ds)).v e = .ok t e3 := by subst he; simp only [den, Dn.of, hd, if_true, h, R.bind_ok, callR, hf, hc]
theorem v_callx {f : Nat} {ds : List PyData} {xs : List Opd} {ts : List T} {outs : List (Option T)} (h : opds (dens C es) e = .ok xs e1) (hd : ds.all scal = true) (hf : fetch (xs ++ ds.map fun x => .w (.d x)) e1 = some (ts, e2)) (hc : C f ts = .exc i outs) (he : give (xs ++ ds.map fun x => .w (.d x)) outs e2 = e3) :
    (den C (.call f es ds)).v e = .exc i e3 := by subst he; simp only [den, Dn.of, hd, if_true, h, R.bind_ok, callR, hf, hc]
theorem v_mu {m : Mu} {xs : List Opd} {ts : List T} {t' : T} (hi : ((e[i]?).join).any T.own = true) (h : opds (dens C es) e = .ok xs e1) (hg : gets xs e1 = some ts) (h1 : (e1[i]?).join = some t) (hc : chg m t ts = some (d, t')) (he : e1.set i (some t') = e2) : (den C (.mu m i es)).v e = .ok (.d d) e2 := by
  subst he
  simp only [den, Dn.of, hi, if_true, h, R.bind_ok, hg, h1, hc]
theorem v_lrng1 {n : Int} {xs : List PyData} (ha : (den C a).v e = .ok (.d (.int n)) e1) (h : rngI (.d (.int 0)) (.d (.int n)) = some xs) : (den C (.lrng1 a)).v e = .ok (.l xs) e1 := by simp only [den, Dn.of, ha, R.bind_ok, h, Option.map, lift_some]
theorem v_lrev {xs : List PyData} (ha : (den C a).opd e = .ok x e1) (hx : x.get e1 = some t) (h : t.list? = some xs) : (den C (.lrev a)).v e = .ok (.l xs.reverse) e1 := by simp only [den, Dn.of, ha, R.bind_ok, hx, Option.bind, h, Option.map, lift_some]
theorem v_meth {m : Mt} {ys : List Opd} {ts : List T} (hn : (dens C es).length = m.n) (ha : (den C a).opd e = .ok x e1) (hm : ((x.get e1).any m.takes) = true) (h : opds (dens C es) e1 = .ok ys e2) (hx : x.get e2 = some t) (hg : gets ys e2 = some ts) (hf : meth m t ts = some w) : (den C (.meth m a es)).v e = .ok w e2 := by
  simp only [den, Dn.of, hn, ne_eq, not_true_eq_false, if_false, ha, R.bind_ok, hm, if_true, h, hx, hg, hf, lift_some]
theorem v_chn1 (ha : (den C a).opd e = .ok x e1) (hb : (den C b).opd e1 = .ok y e2) (hx : x.get e2 = some t) (hy : y.get e2 = some u) (hf : cmp q t u = some true) (hc : (den C c).opd e2 = .ok z e3) (hy2 : y.get e3 = some w) {w' : T} (hz : z.get e3 = some w') (hf2 : cmp q' w w' = some k) : (den C (.chn q q' a b c)).v e = .ok (.d (.bool k)) e3 := by
  simp only [den, Dn.of, ha, hb, R.bind_ok, hx, hy, hf, hc, hy2, hz, hf2, bl?, Option.map, lift_some]
theorem v_chn0 (ha : (den C a).opd e = .ok x e1) (hb : (den C b).opd e1 = .ok y e2) (hx : x.get e2 = some t) (hy : y.get e2 = some u) (hf : cmp q t u = some false) : (den C (.chn q q' a b c)).v e = .ok (.d (.bool false)) e2 := by
  simp only [den, Dn.of, ha, hb, R.bind_ok, hx, hy, hf]
/-! tests -/
theorem b_of (hd : (den C a).b = fun e => ((den C a).v e).bind fun t e => lift (truth t) e) (h : (den C a).v e = .ok t e1) (hk : truth t = some k) : (den C a).b e = .ok k e1 := by rw [hd]; simp only [h, R.bind_ok, hk, lift_some]
theorem b_cmp (ha : (den C a).opd e = .ok x e1) (hb : (den C b).opd e1 = .ok y e2) (hx : x.get e2 = some t) (hy : y.get e2 = some u) (hf : cmp q t u = some k) : (den C (.cmp q a b)).b e = .ok k e2 := b_of rfl (v_cmp ha hb hx hy hf) rfl
theorem b_v (h : (e[i]?).join = some t) (hk : truth t = some k) (he : e = e1) : (den C (.v i)).b e = .ok k e1 := by subst he; simp only [den, h, Option.bind, hk, lift_some]
theorem b_not1 (h : (den C a).b e = .ok true e1) : (den C (.not a)).b e = .ok false e1 := by simp only [den, h, R.bind_ok, Bool.not_true]
theorem b_not0 (h : (den C a).b e = .ok false e1) : (den C (.not a)).b e = .ok true e1 := by simp only [den, h, R.bind_ok, Bool.not_false]
theorem b_and1 (ha : (den C a).b e = .ok true e1) (hb : (den C b).b e1 = .ok k e2) : (den C (.and a b)).b e = .ok k e2 := by simp only [den, ha, R.bind_ok, if_true, hb]
theorem b_and0 (ha : (den C a).b e = .ok false e1) : (den C (.and a b)).b e = .ok false e1 := by simp only [den, ha, R.bind_ok, Bool.false_eq_true, if_false]
theorem b_or1 (ha : (den C a).b e = .ok true e1) : (den C (.or a b)).b e = .ok true e1 := by simp only [den, ha, R.bind_ok, if_true]
theorem b_or0 (ha : (den C a).b e = .ok false e1) (hb : (den C b).b e1 = .ok k e2) : (den C (.or a b)).b e = .ok k e2 := by simp only [den, ha, R.bind_ok, Bool.false_eq_true, if_false, hb]
/-! sources -/
theorem s_seq {xs : List PyData} (h : (den C a).v e = .ok t e1) (hx : t.list? = some xs) : srcs C (.seq a) e = .ok xs e1 := by simp only [srcs, h, R.bind_ok, hx, lift_some]
theorem s_tup {xs : List PyData} (h : (den C a).v e = .ok (.d (.tuple xs)) e1) : srcs C (.tup a) e = .ok xs e1 := by simp only [srcs, h, R.bind_ok]
theorem s_str {z : Str} (h : (den C a).v e = .ok (.d (.str z)) e1) : srcs C (.str a) e = .ok (chars z) e1 := by simp only [srcs, h, R.bind_ok]
theorem s_rng1 {n : Int} {xs : List PyData} (ha : (den C a).v e = .ok (.d (.int n)) e1) (h : rngI (.d (.int 0)) (.d (.int n)) = some xs) : srcs C (.rng1 a) e = .ok xs e1 := by simp only [srcs, ha, R.bind_ok, h, lift_some]
theorem s_rng2 {m n : Int} {xs : List PyData} (ha : (den C a).v e = .ok (.d (.int m)) e1) (hb : (den C b).v e1 = .ok (.d (.int n)) e2) (h : rngI (.d (.int m)) (.d (.int n)) = some xs) : srcs C (.rng2 a b) e = .ok xs e2 := by simp only [srcs, ha, hb, R.bind_ok, h, lift_some]
theorem s_rev {xs : List PyData} (h : (den C a).v e = .ok t e1) (hx : t.list? = some xs) : srcs C (.rev a) e = .ok xs.reverse e1 := by simp only [srcs, h, R.bind_ok, hx, Option.map, lift_some]
end
/-! ### operations -/
section
variable {i j : Int} {x y : PyData} {xs ys : List PyData} {n : Nat}
theorem bin_mod (h : 0 < j) : bin .mod (.d (.int i)) (.d (.int j)) = some (.d (.int (i % j))) := by simp only [bin, h, if_true]
theorem bin_fdiv (h : 0 < j) (h2 : j < 1073741824) : bin .fdiv (.d (.int i)) (.d (.int j)) = some (.d (.int (i / j))) := by simp only [bin, h, h2, and_self, if_true]
theorem bin_mulr (h : j.natAbs < 2 ^ 64) : bin .mul (.d (.int i)) (.d (.int j)) = some (.d (.int (i * j))) := by simp only [bin, h, or_true, if_true]
theorem bin_pow18 : bin .pow (.d (.int 10)) (.d (.int 18)) = some (.d (.int 1000000000000000000)) := rfl
theorem cmp_gt1 (h : j < i) : cmp .gt (.d (.int i)) (.d (.int j)) = some true := by simp only [cmp, h, decide_true]
theorem cmp_gt0 (h : ¬ j < i) : cmp .gt (.d (.int i)) (.d (.int j)) = some false := by simp only [cmp, h, decide_false]
theorem cmp_lt1 (h : i < j) : cmp .lt (.d (.int i)) (.d (.int j)) = some true := by simp only [cmp, h, decide_true]
theorem cmp_lt0 (h : ¬ i < j) : cmp .lt (.d (.int i)) (.d (.int j)) = some false := by simp only [cmp, h, decide_false]
theorem cmp_le1 (h : i ≤ j) : cmp .le (.d (.int i)) (.d (.int j)) = some true := by simp only [cmp, h, decide_true]
theorem cmp_le0 (h : ¬ i ≤ j) : cmp .le (.d (.int i)) (.d (.int j)) = some false := by simp only [cmp, h, decide_false]
theorem cmp_ge1 (h : j ≤ i) : cmp .ge (.d (.int i)) (.d (.int j)) = some true := by simp only [cmp, h, decide_true]
theorem cmp_ge0 (h : ¬ j ≤ i) : cmp .ge (.d (.int i)) (.d (.int j)) = some false := by simp only [cmp, h, decide_false]
theorem eqv_int : PyData.eqv (.int i) (.int j) = decide (i = j) := by
  simp only [PyData.eqv]
  by_cases h : i = j <;> simp [h]
theorem cmp_eqi : cmp .eq (.d (.int i)) (.d (.int j)) = some (decide (i = j)) := by simp [cmp, eqT, T.data?, PyData.depth, eqv_int]
theorem cmp_eq1 (h : i = j) : cmp .eq (.d (.int i)) (.d (.int j)) = some true := by rw [cmp_eqi]; simp [h]
theorem cmp_eq0 (h : ¬ i = j) : cmp .eq (.d (.int i)) (.d (.int j)) = some false := by rw [cmp_eqi]; simp [h]
theorem cmp_nei : cmp .ne (.d (.int i)) (.d (.int j)) = some (!decide (i = j)) := by simp [cmp, eqT, T.data?, PyData.depth, eqv_int]
theorem item_l (h : xs[n]? = some x) : item (.l xs) (.d (.int n)) = some (.d x) := by
  have hl := (List.getElem?_eq_some_iff.mp h).1
  simp only [item, atI, ixN, Int.natCast_nonneg, if_true]
  rw [if_pos (by omega)]
  simp [h]
theorem item_d (h : xs[n]? = some x) : item (.d (.list xs)) (.d (.int n)) = some (.d x) := by
  have hl := (List.getElem?_eq_some_iff.mp h).1
  simp only [item, atI, ixN, Int.natCast_nonneg, if_true]
  rw [if_pos (by omega)]
  simp [h]
theorem item_s {z : Str} {c : Nat} (h : z.cps.toList[n]? = some c) : item (.d (.str z)) (.d (.int n)) = some (.d (.str ⟨#[c]⟩)) := by
  have hl := (List.getElem?_eq_some_iff.mp h).1
  simp only [item, atI, ixN, Int.natCast_nonneg, if_true]
  rw [if_pos (by omega)]
  simp only [Int.toNat_natCast, Option.bind, h, Option.map]
theorem rngI_ok (h : n ≤ LINE) : rngI (.d (.int 0)) (.d (.int (n : Nat))) = some ((List.range n).map fun (k : Nat) => .int (k : Int)) := by
  have hL : LINE = 16777216 := rfl
  have h0 : -(2 ^ 62 : Int) ≤ 0 := by decide
  have h1 : (0 : Int) < 2 ^ 62 := by decide
  have h2 : -(2 ^ 62 : Int) ≤ (n : Int) := by omega
  have h3 : (n : Int) < 2 ^ 62 := by omega
  have h4 : ((n : Int) - 0).toNat ≤ LINE := by omega
  simp only [rngI]
  rw [if_pos ⟨h0, h1, h2, h3, h4⟩]
  simp
end
/-- a loop that always goes on -/
theorem loop_rel {σ : Type} {tg : Tg} {body : Env → SR} (R : σ → Env → Prop) (step : σ → PyData → σ) : ∀ (xs : List PyData) (s : σ) (e : Env),
    (∀ s x e, x ∈ xs → R s e → ∃ e1 e2, bindT tg x e = some e1 ∧ body e1 = .nx e2 ∧ R (step s x) e2) → R s e → ∃ e', loop tg body xs e = .nx e' ∧ R (xs.foldl step s) e'
  | [], s, e, _, h => ⟨e, rfl, h⟩
  | x :: xs, s, e, hs, h => by
    obtain ⟨e1, e2, h1, h2, h3⟩ := hs s x e List.mem_cons_self h
    obtain ⟨e', h4, h5⟩ := loop_rel R step xs (step s x) e2 (fun s y e m => hs s y e (List.mem_cons_of_mem _ m)) h3
    exact ⟨e', by simp only [loop, h1, h2, SR.seq_nx]; exact h4, h5⟩
/-- .. by what was walked so far -/
theorem loop_inv {α : Type} {tg : Tg} {body : Env → SR} (f : α → PyData) (I : List α → Env → Prop) (xs : List α) (e : Env)
    (h : ∀ pre x post e, xs = pre ++ x :: post → I pre e → ∃ e1 e2, bindT tg (f x) e = some e1 ∧ body e1 = .nx e2 ∧ I (pre ++ [x]) e2) (h0 : I [] e) : ∃ e', loop tg body (xs.map f) e = .nx e' ∧ I xs e' := by
  have key : ∀ (post pre : List α) (e : Env), xs = pre ++ post → I pre e → ∃ e', loop tg body (post.map f) e = .nx e' ∧ I xs e' := by
    intro post
    induction post with
    | nil => intro pre e hx hi; rw [List.append_nil] at hx; subst hx; exact ⟨e, rfl, hi⟩
    | cons x post ih =>
      intro pre e hx hi
      obtain ⟨e1, e2, h1, h2, h3⟩ := h pre x post e hx hi
      obtain ⟨e', h4, h5⟩ := ih (pre ++ [x]) e2 (by rw [hx, List.append_assoc]; rfl) h3
      exact ⟨e', by simp only [List.map_cons, loop, h1, h2, SR.seq_nx]; exact h4, h5⟩
  exact key xs [] e rfl h0
/-- a loop that may end early: by an answer, by an error -/
inductive Turn (σ : Type) where
  | go (s : σ)
  | ret (t : T)
  | exc (c : Nat)
def Turn.is {σ : Type} (R : σ → Env → Prop) (F : Env → Prop) : Turn σ → SR → Prop
  | .go s, r => ∃ e, r = .nx e ∧ R s e
  | .ret t, r => ∃ e, r = .ret t e ∧ F e
  | .exc c, r => ∃ e, r = .exc c e ∧ F e
def turnsF {σ α : Type} (step : σ → α → Turn σ) : List α → σ → Turn σ
  | [], s => .go s
  | x :: xs, s => match step s x with
    | .go s => turnsF step xs s
    | .ret t => .ret t
    | .exc c => .exc c
theorem loop_turn {σ α : Type} {tg : Tg} {body : Env → SR} (R : σ → Env → Prop) (F : Env → Prop) (f : α → PyData) (step : σ → α → Turn σ) : ∀ (xs : List α) (s : σ) (e : Env),
    (∀ s x e, x ∈ xs → R s e → ∃ e1, bindT tg (f x) e = some e1 ∧ (step s x).is R F (body e1)) → R s e → (turnsF step xs s).is R F (loop tg body (xs.map f) e)
  | [], s, e, _, h => ⟨e, rfl, h⟩
  | x :: xs, s, e, hs, h => by
    obtain ⟨e1, h1, h2⟩ := hs s x e List.mem_cons_self h
    simp only [List.map_cons, loop, h1, turnsF]
    cases q : step s x with
    | go s' =>
      rw [q] at h2
      obtain ⟨e2, h3, h4⟩ := h2
      rw [h3]
      exact loop_turn R F f step xs s' e2 (fun s y e m => hs s y e (List.mem_cons_of_mem _ m)) h4
    | ret t =>
      rw [q] at h2
      obtain ⟨e2, h3, h4⟩ := h2
      rw [h3]
      exact ⟨e2, rfl, h4⟩
    | exc c =>
      rw [q] at h2
      obtain ⟨e2, h3, h4⟩ := h2
      rw [h3]
      exact ⟨e2, rfl, h4⟩
/-! ### comprehensions -/
theorem hide_at : ∀ (own : List Nat) (e : Env) (j : Nat), (hide own e)[j]? = if j ∈ own ∧ j < e.length then some none else e[j]?
  | [], e, j => by simp [hide]
  | i :: is, e, j => by
    have hl : ∀ (is : List Nat), (hide is e).length = e.length := by
      intro is; induction is with
      | nil => rfl
      | cons a r ih => simp only [hide, List.length_set]; exact ih
    simp only [hide, List.getElem?_set, hl, hide_at is e j]
    by_cases h : i = j
    · subst h
      by_cases h2 : i < e.length
      · simp [h2]
      · simp only [h2, and_false, if_false, if_true]
        first | done | exact (List.getElem?_eq_none (by omega)).symm
    · have : (j ∈ i :: is) ↔ j ∈ is := by simp [Ne.symm h]
      simp only [h, if_false, this]
theorem back_at : ∀ (own : List Nat) (e0 e : Env) (j : Nat), e0.length = e.length → (back own e0 e)[j]? = if j ∈ own then e0[j]? else e[j]?
  | [], e0, e, j, _ => by simp [back]
  | i :: is, e0, e, j, hlen => by
    have hl : ∀ (is : List Nat), (back is e0 e).length = e.length := by
      intro is; induction is with
      | nil => rfl
      | cons a r ih => simp only [back, List.length_set]; exact ih
    simp only [back, List.getElem?_set, hl, back_at is e0 e j hlen]
    by_cases h : i = j
    · subst h
      by_cases h2 : i < e.length
      · have h3 : i < e0.length := by omega
        simp only [h2, if_true, List.mem_cons, true_or, List.getElem?_eq_getElem h3, Option.join_some]
      · simp only [h2, if_false, if_true, List.mem_cons, true_or]
        exact (List.getElem?_eq_none (by omega)).symm
    · have : (j ∈ i :: is) ↔ j ∈ is := by simp [Ne.symm h]
      simp only [h, if_false, this]
theorem back_same {own : List Nat} {e0 e : Env} (h : hide own e = hide own e0) : back own e0 e = e0 := by
  have hl : ∀ (is : List Nat) (e : Env), (hide is e).length = e.length := by
    intro is e; induction is with
    | nil => rfl
    | cons a r ih => simp only [hide, List.length_set]; exact ih
  have len : e0.length = e.length := by rw [← hl own e0, ← h, hl]
  apply List.ext_getElem?
  intro j
  rw [back_at own e0 e j len]
  by_cases m : j ∈ own
  · rw [if_pos m]
  · rw [if_neg m]
    have := congrArg (fun l => l[j]?) h
    simp only [hide_at, m, false_and, if_false] at this
    exact this
theorem turns_inv {α : Type} {own : List Nat} {t : Tg} {cond : Env → R Bool} {body : Env → R (List PyData)} (f : α → PyData) (p : α → Bool) (g : α → PyData) (I : Env → Prop) : ∀ (xs : List α) (e : Env) (acc : List PyData),
    (∀ x ∈ xs, ∀ e, I e → ∃ e1, bindT t (f x) (hide own e) = some e1 ∧ ∃ e2, cond e1 = .ok (p x) e2 ∧ (p x = true → ∃ e3, body e2 = .ok [g x] e3 ∧ I e3) ∧ (p x = false → I e2)) → I e →
    ∃ e', turns own t cond body (xs.map f) e acc = .ok (acc ++ (xs.filter p).map g) e' ∧ I e'
  | [], e, acc, _, h => ⟨e, by simp [turns], h⟩
  | x :: xs, e, acc, hs, h => by
    obtain ⟨e1, h1, e2, h2, h3, h4⟩ := hs x List.mem_cons_self e h
    simp only [List.map_cons, turns, h1, h2]
    cases q : p x with
    | true =>
      obtain ⟨e3, h5, h6⟩ := h3 q
      obtain ⟨e', h7, h8⟩ := turns_inv f p g I xs e3 (acc ++ [g x]) (fun y m => hs y (List.mem_cons_of_mem _ m)) h6
      refine ⟨e', ?_, h8⟩
      simp only [h5]
      rw [h7, List.filter_cons_of_pos q]
      simp
    | false =>
      obtain ⟨e', h7, h8⟩ := turns_inv f p g I xs e2 acc (fun y m => hs y (List.mem_cons_of_mem _ m)) (h4 q)
      refine ⟨e', ?_, h8⟩
      simp only []
      rw [h7, List.filter_cons_of_neg (by simp [q])]
/-- a comprehension that leaves the other slots as they are -/
theorem v_comp {α : Type} {C : Orc} {own : List Nat} {t : Tg} {s : Src} {cs : Exs} {a : Ex} {e e1 : Env} (xs : List α) (f : α → PyData) (p : α → Bool) (g : α → PyData) (hs : srcs C s e = .ok (xs.map f) e1) (hp : own.all (plain e1) = true) (hw : t.within own = true) (hl : xs.length ≤ LINE)
    (h : ∀ x ∈ xs, ∃ eb, bindT t (f x) (hide own e1) = some eb ∧ ∃ e2, conds (dens C cs) eb = .ok (p x) e2 ∧ (p x = true → ∃ v e3, (den C a).v e2 = .ok v e3 ∧ v.frz? = some (g x) ∧ hide own e3 = hide own e1) ∧ (p x = false → hide own e2 = hide own e1)) :
    (den C (.comp own t s cs a)).v e = .ok (.l ((xs.filter p).map g)) e1 := by
  obtain ⟨e', h1, h2⟩ := turns_inv (own := own) (t := t) (cond := conds (dens C cs)) (body := one (den C a)) f p g (fun e => hide own e = hide own e1) xs e1 [] (fun x m e he => by
    obtain ⟨eb, b1, e2, b2, b3, b4⟩ := h x m
    rw [he]
    refine ⟨eb, b1, e2, b2, fun q => ?_, b4⟩
    obtain ⟨v, e3, c1, c2, c3⟩ := b3 q
    exact ⟨e3, by simp only [one, c1, R.bind_ok, frzR, c2, lift_some], c3⟩) rfl
  have len : (([] : List PyData) ++ (xs.filter p).map g).length ≤ LINE := by
    simp only [List.nil_append, List.length_map]
    exact Nat.le_trans (List.length_filter_le _ _) hl
  simp only [den, Dn.of, hs, R.bind_ok, around]
  rw [if_pos ⟨hp, hw⟩, h1]
  rw [List.nil_append] at len ⊢
  simp only [len, if_true, R.bind_ok, back_same h2]
theorem cn_nil {C : Orc} {e : Env} : conds (dens C .nil) e = .ok true e := rfl
theorem cn_cons {C : Orc} {a : Ex} {es : Exs} {e e1 : Env} {k : Bool} (h : (den C a).b e = .ok k e1) : conds (dens C (.cons a es)) e = .ok k e1 := by simp only [dens, conds, h]
/-- a dict comprehension -/
theorem v_dcomp {α : Type} {C : Orc} {own : List Nat} {t : Tg} {s : Src} {k a : Ex} {e e1 : Env} (xs : List α) (f : α → PyData) (gk g : α → PyData) {kvs : List (Key × PyData)} (hs : srcs C s e = .ok (xs.map f) e1) (hp : own.all (plain e1) = true) (hw : t.within own = true) (hl : xs.length ≤ LINE)
    (h : ∀ x ∈ xs, ∃ eb, bindT t (f x) (hide own e1) = some eb ∧ ∃ vk e2, (den C k).v eb = .ok vk e2 ∧ vk.frz? = some (gk x) ∧ ∃ v e3, (den C a).v e2 = .ok v e3 ∧ v.frz? = some (g x) ∧ hide own e3 = hide own e1) (hk : pairs? (xs.map fun x => .tuple [gk x, g x]) = some kvs) :
    (den C (.dcomp own t s k a)).v e = .ok (.m (putAll kvs)) e1 := by
  obtain ⟨e', h1, h2⟩ := turns_inv (own := own) (t := t) (cond := fun e => .ok true e) (body := fun e => ((den C k).v e).bind fun kt e => (frzR kt e).bind fun kx e => ((den C a).v e).bind fun t e => (frzR t e).bind fun x e => .ok [.tuple [kx, x]] e) f (fun _ => true) (fun x => .tuple [gk x, g x]) (fun e => hide own e = hide own e1) xs e1 [] (fun x m e he => by
    obtain ⟨eb, b1, vk, e2, b2, b3, v, e3, b4, b5, b6⟩ := h x m
    rw [he]
    exact ⟨eb, b1, eb, rfl, fun _ => ⟨e3, by simp only [b2, R.bind_ok, frzR, b3, lift_some, b4, b5], b6⟩, fun q => by cases q⟩) rfl
  have ft : xs.filter (fun _ => true) = xs := List.filter_eq_self.mpr fun _ _ => rfl
  rw [ft, List.nil_append] at h1
  have len : (xs.map fun x => PyData.tuple [gk x, g x]).length ≤ LINE := by simpa using hl
  simp only [den, Dn.of, hs, R.bind_ok, around]
  rw [if_pos ⟨hp, hw⟩, h1]
  simp only [len, if_true, R.bind_ok, back_same h2, hk, Option.map, lift_some]
/-- how a run ends -/
theorem run_of {P : Prog} {k f : Nat} {D : Def} {ts : List T} (hD : P[f]? = some D) : run P (k + 1) f ts = D.run (run P k) ts := by simp only [run, hD]
theorem def_ret {D : Def} {C : Orc} {ts : List T} {t : T} {e : Env} (hl : ts.length = D.ps.length) (h : exSs C D.body (ts.map some ++ List.replicate (D.n - ts.length) none) = .ret t e) : D.run C ts = .ok t (outs D.ps e) := by
  unfold Def.run; rw [if_pos hl, h]
theorem def_nx {D : Def} {C : Orc} {ts : List T} {e : Env} (hl : ts.length = D.ps.length) (h : exSs C D.body (ts.map some ++ List.replicate (D.n - ts.length) none) = .nx e) : D.run C ts = .ok (.d .none) (outs D.ps e) := by
  unfold Def.run; rw [if_pos hl, h]
theorem def_exc {D : Def} {C : Orc} {ts : List T} {x : Nat} {e : Env} (hl : ts.length = D.ps.length) (h : exSs C D.body (ts.map some ++ List.replicate (D.n - ts.length) none) = .exc x e) : D.run C ts = .exc x (outs D.ps e) := by
  unfold Def.run; rw [if_pos hl, h]
theorem run_ret {D : Def} {C : Orc} {ts : List T} {t : T} {e : Env} {o : List (Option T)} (hl : ts.length = D.ps.length) (h : exSs C D.body (ts.map some ++ List.replicate (D.n - ts.length) none) = .ret t e) (ho : outs D.ps e = o) : D.run C ts = .ok t o := by rw [def_ret hl h, ho]
theorem run_nx {D : Def} {C : Orc} {ts : List T} {e : Env} {o : List (Option T)} (hl : ts.length = D.ps.length) (h : exSs C D.body (ts.map some ++ List.replicate (D.n - ts.length) none) = .nx e) (ho : outs D.ps e = o) : D.run C ts = .ok (.d .none) o := by rw [def_nx hl h, ho]
theorem run_exc {D : Def} {C : Orc} {ts : List T} {x : Nat} {e : Env} {o : List (Option T)} (hl : ts.length = D.ps.length) (h : exSs C D.body (ts.map some ++ List.replicate (D.n - ts.length) none) = .exc x e) (ho : outs D.ps e = o) : D.run C ts = .exc x o := by rw [def_exc hl h, ho]
end Mv
end
section
set_option Elab.async false
set_option linter.all false
set_option maxHeartbeats 4000000
set_option maxRecDepth 10000
/-! Mv: operations on data with a Lean type. -/
namespace Mv
open PySem L2 PySem.W

section
variable {α : Type} [DecidableEq α] [Datum α] {t u : T} {x y : α} {xs ys : List α}
theorem cmp_eqD (h : t.data? = some (Datum.toD x)) (k : u.data? = some (Datum.toD y)) (hd : Datum.depth α ≤ 60) : cmp .eq t u = some (decide (x = y)) := by
  have a := Datum.depth_le x
  have b := Datum.depth_le y
  simp only [cmp, eqT, h, k]
  rw [if_pos ⟨by omega, by omega⟩, Datum.eqv]
theorem cmp_neD (h : t.data? = some (Datum.toD x)) (k : u.data? = some (Datum.toD y)) (hd : Datum.depth α ≤ 60) : cmp .ne t u = some (!decide (x = y)) := by
  have := cmp_eqD h k hd
  simp only [cmp] at this ⊢
  rw [this]; rfl
theorem isIn_D (h : t.data? = some (Datum.toD x)) (k : u.list? = some (ys.map Datum.toD)) (hd : Datum.depth α ≤ 60) : isIn t u = some (decide (x ∈ ys)) := by
  have a := Datum.depth_le x
  have b := depthAll_map ys
  have hu : u = .l (ys.map Datum.toD) ∨ u = .d (.list (ys.map Datum.toD)) := by
    cases u with
    | d z =>
      cases z with
      | list zs => simp [T.list?] at k; subst k; exact .inr rfl
      | _ => simp [T.list?] at k
    | l zs => simp [T.list?] at k; subst k; exact .inl rfl
    | _ => simp [T.list?] at k
  rcases hu with rfl | rfl <;> simp only [isIn, h, T.list?] <;> rw [if_pos ⟨by omega, by omega⟩, any_datum]
theorem cmp_inD (h : t.data? = some (Datum.toD x)) (k : u.list? = some (ys.map Datum.toD)) (hd : Datum.depth α ≤ 60) : cmp .isin t u = some (decide (x ∈ ys)) := by
  simp only [cmp]; exact isIn_D h k hd
theorem cmp_notinD (h : t.data? = some (Datum.toD x)) (k : u.list? = some (ys.map Datum.toD)) (hd : Datum.depth α ≤ 60) : cmp .notin t u = some (!decide (x ∈ ys)) := by
  simp only [cmp]; rw [isIn_D h k hd]; rfl
end
section
variable {α : Type} [DecidableEq α] [DatumOrd α]
/-- the order by which lists are sorted -/
def leO (x y : α) : Bool := !DatumOrd.lt y x
theorem leD_toD (x y : α) : leD (Datum.toD x) (Datum.toD y) = leO x y := by
  unfold leD leO
  rw [dataLe_eq]
  simp only [cond_false, id_eq]
  rw [DatumOrd.lt_eq]
theorem sorted_toD (xs : List α) (hs : sortB (xs.map Datum.toD) = true) (hd : Datum.depth α ≤ 60) : sorted (xs.map Datum.toD) = some ((isort leO xs).map Datum.toD) := by
  have ha : alikeB (xs.map (Datum.toD (α := α))) = true := by
    unfold alikeB
    refine List.all_eq_true.mpr fun x hx => List.all_eq_true.mpr fun y hy => ?_
    obtain ⟨a, _, rfl⟩ := List.mem_map.mp hx
    obtain ⟨b, _, rfl⟩ := List.mem_map.mp hy
    exact DatumOrd.alike a b
  have b := depthAll_map xs
  unfold sorted
  rw [if_pos ⟨ha, hs, by omega⟩, ← isort_map]
  congr 2
  congr 1
  funext x y
  rw [leD_toD]
end
theorem sortB_str (xs : List Str) : sortB (xs.map Datum.toD) = true := by
  unfold sortB
  rw [Bool.or_eq_true]
  right
  refine List.all_eq_true.mpr fun x hx => ?_
  obtain ⟨a, _, rfl⟩ := List.mem_map.mp hx
  rfl
theorem sortB_int (xs : List Int) : sortB (xs.map Datum.toD) = true := by
  unfold sortB
  rw [Bool.or_eq_true]
  right
  refine List.all_eq_true.mpr fun x hx => ?_
  obtain ⟨a, _, rfl⟩ := List.mem_map.mp hx
  rfl
theorem sortB_pair {α β : Type} [DecidableEq α] [Datum α] [DecidableEq β] [Datum β] (xs : List (α × β)) : sortB (xs.map Datum.toD) = true := by
  unfold sortB
  rw [Bool.or_eq_true]
  left
  refine List.all_eq_true.mpr fun x hx => ?_
  obtain ⟨a, _, rfl⟩ := List.mem_map.mp hx
  rfl
theorem fn_sortedS {t : T} {xs : List Str} (h : t.list? = some (xs.map Datum.toD)) : fn .sorted [t] = some (.l ((isort leO xs).map Datum.toD)) := by
  have hd : Datum.depth Str ≤ 60 := by decide
  simp only [fn, h, Option.bind, sorted_toD xs (sortB_str xs) hd, Option.map]
/-! ### sorting -/
section
variable {α : Type} {le : α → α → Bool}
theorem ins_mem {a x : α} : ∀ {l : List α}, x ∈ ins le a l ↔ x = a ∨ x ∈ l := by
  intro l
  have := (ins_perm (le := le) a l).mem_iff (a := x)
  rw [this]; simp
theorem isort_mem {x : α} {l : List α} : x ∈ isort le l ↔ x ∈ l := (isort_perm (le := le) l).mem_iff
theorem isort_len (l : List α) : (isort le l).length = l.length := (isort_perm (le := le) l).length_eq
theorem isort_nodup {l : List α} : (isort le l).Nodup ↔ l.Nodup := (isort_perm (le := le) l).nodup_iff
end
/-- a strict order -/
structure Ord (α : Type) (le : α → α → Bool) : Prop where
  tot : ∀ x y, le x y = true ∨ le y x = true
  tr : ∀ x y z, le x y = true → le y z = true → le x z = true
  anti : ∀ x y, le x y = true → le y x = true → x = y
section
variable {α : Type} {le : α → α → Bool} (O : Ord α le)
include O
theorem Ord.refl (x : α) : le x x = true := (O.tot x x).elim id id
theorem ins_sorted {a : α} : ∀ {l : List α}, l.Pairwise (fun x y => le x y = true) → (ins le a l).Pairwise fun x y => le x y = true
  | [], _ => by simp [ins]
  | b :: r, h => by
    unfold ins
    rw [List.pairwise_cons] at h
    split
    · rename_i c
      refine List.pairwise_cons.mpr ⟨fun y hy => ?_, List.pairwise_cons.mpr h⟩
      rcases List.mem_cons.mp hy with rfl | hy
      · exact c
      · exact O.tr _ _ _ c (h.1 y hy)
    · rename_i c
      refine List.pairwise_cons.mpr ⟨fun y hy => ?_, ins_sorted h.2⟩
      rcases ins_mem.mp hy with rfl | hy
      · exact (O.tot b y).resolve_right c
      · exact h.1 y hy
theorem isort_sorted : ∀ (l : List α), (isort le l).Pairwise fun x y => le x y = true
  | [] => List.Pairwise.nil
  | a :: r => ins_sorted O (isort_sorted r)
/-- two sorted lists of the same items are one -/
theorem sorted_ext : ∀ {l m : List α}, l.Pairwise (fun x y => le x y = true) → m.Pairwise (fun x y => le x y = true) → l.Perm m → l = m
  | [], m, _, _, p => by have := p.length_eq; cases m with | nil => rfl | cons _ _ => simp at this
  | a :: l, [], _, _, p => by have := p.length_eq; simp at this
  | a :: l, b :: m, hl, hm, p => by
    rw [List.pairwise_cons] at hl hm
    have ab : a = b := by
      have h1 : b ∈ a :: l := p.mem_iff.mpr List.mem_cons_self
      have h2 : a ∈ b :: m := p.mem_iff.mp List.mem_cons_self
      rcases List.mem_cons.mp h1 with e | h1
      · exact e.symm
      · rcases List.mem_cons.mp h2 with e | h2
        · exact e
        · exact O.anti _ _ (hl.1 b h1) (hm.1 a h2)
    subst ab
    rw [sorted_ext hl.2 hm.2 p.cons_inv]
theorem isort_of_sorted {l : List α} (h : l.Pairwise fun x y => le x y = true) : isort le l = l := sorted_ext O (isort_sorted O l) h (isort_perm l)
end
theorem ord_str : Ord Str leO := by
  have key : ∀ a b : Str, leO a b = decide (a.cps.toList ≤ b.cps.toList) := by
    intro a b
    show (!decide (b.cps.toList < a.cps.toList)) = _
    rw [← decide_not]
    exact decide_eq_decide.mpr List.not_lt
  refine ⟨fun a b => ?_, fun a b c h1 h2 => ?_, fun a b h1 h2 => ?_⟩
  · rw [key, key, decide_eq_true_eq, decide_eq_true_eq]; exact List.le_total ..
  · rw [key, decide_eq_true_eq] at *; exact List.le_trans h1 h2
  · rw [key, decide_eq_true_eq] at *
    have := List.le_antisymm h1 h2
    cases a; cases b
    simp at this
    rw [this]
end Mv
namespace Mv
open PySem L2 PySem.W
/-! ### a dict of the names' rows -/
/-- a dict with the keys ns, each with its row -/
def kvsOf (ns : List Str) (g : Str → List Str) : List (Key × PyData) := ns.map fun n => (.inr n, Datum.toD (g n))
theorem find_kvs {ns : List Str} {g : Str → List Str} {n : Str} (h : n ∈ ns) : find (kvsOf ns g) (.inr n) = some (Datum.toD (g n)) := by
  unfold find kvsOf
  induction ns with
  | nil => cases h
  | cons a r ih =>
    simp only [List.map_cons, List.find?_cons]
    by_cases c : a = n
    · subst c; simp
    · have : decide ((Sum.inr a : Key) = Sum.inr n) = false := by simp [c]
      rw [this]
      exact ih ((List.mem_cons.mp h).resolve_left (Ne.symm c))
theorem put_kvs {ns : List Str} {g : Str → List Str} {n : Str} {v : List Str} (h : n ∈ ns) : put (kvsOf ns g) (.inr n) (Datum.toD v) = kvsOf ns fun m => if m = n then v else g m := by
  unfold put kvsOf
  have : ((ns.map fun n => ((.inr n : Key), (Datum.toD (g n) : PyData))).any fun p => decide (p.1 = .inr n)) = true := by
    rw [List.any_map, List.any_eq_true]
    exact ⟨n, h, by simp⟩
  rw [if_pos this, List.map_map]
  apply List.map_congr_left
  intro m _
  by_cases c : m = n
  · subst c; simp
  · have : ¬ ((Sum.inr m : Key) = Sum.inr n) := by simp [c]
    simp [c]
theorem put_new {kvs : List (Key × PyData)} {k : Key} {v : PyData} (h : ∀ p ∈ kvs, p.1 ≠ k) : put kvs k v = kvs ++ [(k, v)] := by
  unfold put
  have : (kvs.any fun p => decide (p.1 = k)) = false := by
    rw [Bool.eq_false_iff]
    intro c
    obtain ⟨p, m, e⟩ := List.any_eq_true.mp c
    exact h p m (of_decide_eq_true e)
  rw [this]; simp
theorem putAll_kvs {ns : List Str} {g : Str → List Str} (nd : ns.Nodup) : putAll (kvsOf ns g) = kvsOf ns g := by
  have key : ∀ (post pre : List Str), (pre ++ post).Nodup → (kvsOf post g).foldl (fun a p => put a p.1 p.2) (kvsOf pre g) = kvsOf (pre ++ post) g := by
    intro post
    induction post with
    | nil => intro pre _; simp [kvsOf]
    | cons n r ih =>
      intro pre nd
      have hn : n ∉ pre := by
        rw [List.nodup_append] at nd
        intro m
        exact nd.2.2 n m n (by simp) rfl
      have h1 : put (kvsOf pre g) (.inr n) (Datum.toD (g n)) = kvsOf (pre ++ [n]) g := by
        rw [put_new fun p m => by
          obtain ⟨a, ma, rfl⟩ := List.mem_map.mp m
          intro e
          have e2 : a = n := by simpa using e
          exact hn (e2 ▸ ma)]
        simp [kvsOf]
      show (kvsOf r g).foldl _ (put (kvsOf pre g) (.inr n) (Datum.toD (g n))) = _
      rw [h1, ih (pre ++ [n]) (by rw [List.append_assoc]; exact nd), List.append_assoc]
      rfl
  exact key ns [] nd
theorem pairs_kvs {ns : List Str} {g : Str → List Str} : pairs? (ns.map fun n => .tuple [Datum.toD n, Datum.toD (g n)]) = some (kvsOf ns g) := by
  induction ns with
  | nil => rfl
  | cons n r ih =>
    simp only [List.map_cons, pairs?]
    have : key? (.d (Datum.toD n)) = some (.inr n) := rfl
    rw [this, ih]
    rfl
/-! ### what is known behind calls -/
section
variable {α : Type} [DecidableEq α] (le : α → α → Bool)
def both (g : α → List α) (a b : α) : List α := isort le (g a ++ (g b).filter fun x => decide (x ∉ g a))
def kstep (g : α → List α) (c : α × α) : α → List α := fun n => if n = c.1 ∨ n = c.2 then both le g c.1 c.2 else g n
def kn (cs : List (α × α)) : α → List α := cs.foldl (kstep le) fun n => [n]
end
end Mv
end
section
set_option Elab.async false
set_option linter.all false
set_option maxHeartbeats 4000000
set_option maxRecDepth 100000
/-! Mv: the law's comparison of answers. -/
namespace Mv
open PySem L2 PySem.W
local macro_rules | `(tactic| rfl') => `(tactic| repeat' (first
  | with_reducible apply v_c | with_reducible apply v_v | with_reducible apply v_mvd | with_reducible apply v_mvl | with_reducible apply o_v
  | with_reducible apply v_bin | with_reducible apply v_cmp | with_reducible apply v_ix | with_reducible apply v_fn | with_reducible apply v_lst | with_reducible apply v_tup | with_reducible apply v_dnew | with_reducible apply v_sl | with_reducible apply p_nil | with_reducible apply p_cons
  | with_reducible apply v_isi | with_reducible apply v_mu | with_reducible apply v_lrev | with_reducible apply v_neg
  | with_reducible apply os_nil | with_reducible apply os_cons | with_reducible apply l_nil | with_reducible apply l_cons
  | with_reducible apply o_of | with_reducible apply b_v | with_reducible apply b_cmp | with_reducible apply b_of
  | with_reducible apply s_seq | with_reducible apply s_tup | with_reducible apply s_str | with_reducible apply s_rng1
  | with_reducible exact bin_pow18 | with_reducible apply bin_mod | with_reducible apply bin_fdiv | with_reducible apply bin_mulr
  | with_reducible apply cmp_gt1 | with_reducible apply cmp_gt0 | with_reducible apply cmp_lt1 | with_reducible apply cmp_lt0 | with_reducible apply cmp_le1 | with_reducible apply cmp_le0 | with_reducible apply cmp_ge1 | with_reducible apply cmp_ge0 | with_reducible apply cmp_eq1 | with_reducible apply cmp_eq0
  | (refine (?_ : _ = _); assumption) | (refine (?_ : scal _ = true); decide +kernel) | rfl | (show (_ : Prop); omega) | (simp [cmp, bin, item, fn, truth, *]; done)))
def gSame (i : Nat) : Def := ⟨3, [true, true],
  (.cons (.iff (.cmp .is (.v 1) (.c .none))
    (.cons (.ret (.cmp .is (.v 0) (.c .none)))
    .nil)
    .nil)
    (.cons (.iff (.isi (.v 1) [.tuple, .list])
    (.cons (.iff (.or (.cmp .ne (.isi (.v 1) [.tuple]) (.isi (.v 0) [.tuple])) (.cmp .ne (.isi (.v 1) [.list]) (.isi (.v 0) [.list])))
    (.cons (.ret (.c (.bool false)))
    .nil)
    .nil)
    (.cons (.iff (.cmp .ne (.fn .len (.cons (.v 0) .nil)) (.fn .len (.cons (.v 1) .nil)))
    (.cons (.ret (.c (.bool false)))
    .nil)
    .nil)
    (.cons (.fr (.nm 2) (.rng1 (.fn .len (.cons (.v 1) .nil)))
    (.cons (.iff (.not (.call i (.cons (.ix (.v 0) (.v 2)) (.cons (.ix (.v 1) (.v 2)) .nil)) []))
    (.cons (.ret (.c (.bool false)))
    .nil)
    .nil)
    .nil))
    (.cons (.ret (.c (.bool true)))
    .nil))))
    .nil)
    (.cons (.iff (.isi (.v 1) [.bool])
    (.cons (.ret (.and (.isi (.v 0) [.bool]) (.cmp .eq (.v 0) (.v 1))))
    .nil)
    .nil)
    (.cons (.iff (.isi (.v 1) [.int])
    (.cons (.ret (.and (.isi (.v 0) [.int]) (.and (.not (.isi (.v 0) [.bool])) (.cmp .eq (.v 0) (.v 1)))))
    .nil)
    .nil)
    (.cons (.ret (.and (.isi (.v 0) [.str]) (.cmp .eq (.v 0) (.v 1))))
    .nil)))))⟩
theorem v_isiK {C : Orc} {e e1 : Env} {a : Ex} {x : Opd} {t : T} {ts : List Ty} {k : Bool} (hl : ts.length ≤ 16) (ha : (den C a).opd e = .ok x e1) (hx : x.get e1 = some t) (hk : (ts.any fun y => isTy y t) = k) : (den C (.isi a ts)).v e = .ok (.d (.bool k)) e1 := by rw [← hk]; exact v_isi hl ha hx
theorem v_notK {C : Orc} {e e1 : Env} {a : Ex} {x : Opd} {t : T} {k : Bool} (ha : (den C a).opd e = .ok x e1) (hx : x.get e1 = some t) (hk : truth t = some (!k)) : (den C (.not a)).v e = .ok (.d (.bool k)) e1 := by
  have := v_not ha hx hk
  rw [Bool.not_not] at this
  exact this
/-- data that it takes -/
def okS : PyData → Bool
  | .none => true
  | .bool _ => true
  | .int _ => true
  | .str _ => true
  | .list xs => okSs xs && decide (xs.length ≤ 100000)
  | .tuple xs => okSs xs && decide (xs.length ≤ 100000)
  | .dict _ => false
where okSs : List PyData → Bool
  | [] => true
  | x :: xs => okS x && okSs xs
/-- a value that is this data -/
def Is (t : T) (d : PyData) : Prop := t = .d d ∨ ∃ xs, d = .list xs ∧ t = .l xs
def SameOk (C : Orc) (i n : Nat) : Prop := ∀ (d : PyData) (t u : T), okS d = true → d.depth < n → Is t d → Is u d → C i [t, u] = .ok (.d (.bool true)) [some t, some u]
theorem okSs_at {xs : List PyData} {n : Nat} {x : PyData} (h : okS.okSs xs = true) (e : xs[n]? = some x) : okS x = true := by
  induction xs generalizing n with
  | nil => simp at e
  | cons a r ih =>
    simp only [okS.okSs, Bool.and_eq_true] at h
    cases n with
    | zero => simp at e; exact e ▸ h.1
    | succ n => exact ih h.2 (by simpa using e)
theorem depthAll_at {xs : List PyData} {n : Nat} {x : PyData} (e : xs[n]? = some x) : x.depth ≤ PyData.depthAll xs := by
  induction xs generalizing n with
  | nil => simp at e
  | cons a r ih =>
    rw [PyData.depthAll]
    cases n with
    | zero => simp at e; subst e; exact Nat.le_max_left _ _
    | succ n => exact Nat.le_trans (ih (by simpa using e)) (Nat.le_max_right _ _)
theorem eqv_self : ∀ {d : PyData}, okS d = true → d.depth = 0 → (∀ xs, d ≠ .list xs) → (∀ xs, d ≠ .tuple xs) → PyData.eqv d d = true := by
  intro d h _ h1 h2
  cases d with
  | none => rfl
  | bool b => simp [PyData.eqv]
  | int i => simp [PyData.eqv]
  | str z => simp [PyData.eqv]
  | list xs => exact absurd rfl (h1 xs)
  | tuple xs => exact absurd rfl (h2 xs)
  | dict _ => cases h
/-- the items one by one -/
theorem same_loop {C : Orc} {i n : Nat} (h : SameOk C i n) {xs : List PyData} (ok : okS.okSs xs = true) (dp : PyData.depthAll xs < n) {t u : T}
    (ht : ∀ (k : Nat) (x : PyData), xs[k]? = some x → item t (.d (.int (k : Int))) = some (.d x)) (hu : ∀ (k : Nat) (x : PyData), xs[k]? = some x → item u (.d (.int (k : Int))) = some (.d x)) :
    ∃ e', loop (.nm 2) (exSs C (.cons (.iff (.not (.call i (.cons (.ix (.v 0) (.v 2)) (.cons (.ix (.v 1) (.v 2)) .nil)) []))
    (.cons (.ret (.c (.bool false)))
    .nil)
    .nil)
    .nil)) ((List.range xs.length).map fun (k : Nat) => .int (k : Int)) [some t, some u, none] = .nx e' ∧ ∃ j, e' = [some t, some u, j] := by
  refine loop_inv (fun (k : Nat) => .int (k : Int)) (fun _ e => ∃ j, e = [some t, some u, j]) (List.range xs.length) _ (fun pre k post e hx he => ?_) ⟨none, rfl⟩
  obtain ⟨j, rfl⟩ := he
  have hk : k < xs.length := by
    have : k ∈ List.range xs.length := by rw [hx]; simp
    exact List.mem_range.mp this
  have ek : xs[k]? = some xs[k] := List.getElem?_eq_getElem hk
  have c := h xs[k] (.d xs[k]) (.d xs[k]) (okSs_at ok ek) (Nat.lt_of_le_of_lt (depthAll_at ek) dp) (.inl rfl) (.inl rfl)
  refine ⟨_, [some t, some u, some (.d (.int k))], rfl, ?_, _, rfl⟩
  exact st_nx (x_iff (b_not1 (b_of rfl (v_call (os_cons (o_of rfl (v_ix (o_v rfl rfl) (o_v rfl rfl) rfl rfl (ht k _ ek))) (os_cons (o_of rfl (v_ix (o_v rfl rfl) (o_v rfl rfl) rfl rfl (hu k _ ek))) (os_nil rfl))) rfl rfl c rfl) rfl)) st_nil) (st_end rfl)
theorem item_tup {xs : List PyData} {n : Nat} {x : PyData} (h : xs[n]? = some x) : item (.d (.tuple xs)) (.d (.int n)) = some (.d x) := by
  have hl := (List.getElem?_eq_some_iff.mp h).1
  simp only [item, atI, ixN, Int.natCast_nonneg, if_true]
  rw [if_pos (by omega)]
  simp [h]
theorem same_run {C : Orc} {i n : Nat} (h : SameOk C i n) {d : PyData} {t u : T} (ok : okS d = true) (dp : d.depth < n + 1) (ht : Is t d) (hu : Is u d) : (gSame i).run C [t, u] = .ok (.d (.bool true)) [some t, some u] := by
  have hL : LINE = 16777216 := rfl
  have seq : ∀ (xs : List PyData) (t u : T), okS.okSs xs = true → xs.length ≤ 100000 → PyData.depthAll xs < n → (∀ (k : Nat) (x : PyData), xs[k]? = some x → item t (.d (.int (k : Int))) = some (.d x)) → (∀ (k : Nat) (x : PyData), xs[k]? = some x → item u (.d (.int (k : Int))) = some (.d x)) →
      fn .len [t] = some (.d (.int xs.length)) → fn .len [u] = some (.d (.int xs.length)) → isT u (.d .none) = some false → (isTy .tuple u || (isTy .list u || false)) = true → isTy .tuple u = isTy .tuple t → isTy .list u = isTy .list t →
      (gSame i).run C [t, u] = .ok (.d (.bool true)) [some t, some u] := by
    intro xs t u o1 o2 o3 i1 i2 l1 l2 n1 n2 n3 n4
    obtain ⟨e', lp, j, rfl⟩ := same_loop h o1 o3 i1 i2
    have rg := rngI_ok (n := xs.length) (by omega)
    have c1 : cmp .is u (.d .none) = some false := by simp only [cmp]; exact n1
    have c2 : cmp .ne (.d (.bool ((isTy .tuple u) || false))) (.d (.bool ((isTy .tuple t) || false))) = some false := by rw [n3, cmp_neD (α := Bool) rfl rfl (by decide)]; simp
    have c3 : cmp .ne (.d (.bool ((isTy .list u) || false))) (.d (.bool ((isTy .list t) || false))) = some false := by rw [n4, cmp_neD (α := Bool) rfl rfl (by decide)]; simp
    have c4 : cmp .ne (.d (.int xs.length)) (.d (.int xs.length)) = some false := by rw [cmp_nei]; simp
    apply run_ret rfl
    · unfold gSame
      refine' st_nx (x_iff (b_cmp (o_v ?_ ?_) (o_of ?_ (v_c ?_ ?_)) ?_ ?_ c1) st_nil) (st_ret (x_ift (b_of rfl (v_isi ?_ (o_v ?_ ?_) ?_) ?_)
        (st_nx (x_iff (b_or0 (b_cmp (o_of ?_ (v_isi ?_ (o_v ?_ ?_) ?_)) (o_of ?_ (v_isi ?_ (o_v ?_ ?_) ?_)) ?_ ?_ c2) (b_cmp (o_of ?_ (v_isi ?_ (o_v ?_ ?_) ?_)) (o_of ?_ (v_isi ?_ (o_v ?_ ?_) ?_)) ?_ ?_ c3)) st_nil)
        (st_nx (x_iff (b_cmp (o_of ?_ (v_fn (os_cons (o_v ?_ ?_) (os_nil ?_)) (gets_cons ?_ gets_nil) l1)) (o_of ?_ (v_fn (os_cons (o_v ?_ ?_) (os_nil ?_)) (gets_cons ?_ gets_nil) l2)) ?_ ?_ c4) st_nil)
        (st_nx (x_fr (s_rng1 (v_fn (os_cons (o_v ?_ ?_) (os_nil ?_)) (gets_cons ?_ gets_nil) l2) rg) lp) (st_ret (x_ret (v_c ?_ ?_))))))))
      all_goals first | rfl | (show some _ = some true; exact congrArg some n2) | (show _ ≤ 16; decide) | skip
    · rfl
  cases d with
  | list xs =>
    simp only [okS, Bool.and_eq_true, decide_eq_true_eq] at ok
    rw [PyData.depth] at dp
    have k1 : ∀ (k : Nat) (x : PyData), xs[k]? = some x → item (.l xs) (.d (.int (k : Int))) = some (.d x) := fun k x e => item_l e
    have k2 : ∀ (k : Nat) (x : PyData), xs[k]? = some x → item (.d (.list xs)) (.d (.int (k : Int))) = some (.d x) := fun k x e => item_d e
    rcases ht with rfl | ⟨ys, e, rfl⟩ <;> rcases hu with rfl | ⟨zs, e2, rfl⟩
    · exact seq xs _ _ ok.1 ok.2 (by omega) k2 k2 rfl rfl rfl rfl rfl rfl
    · cases e2; exact seq xs _ _ ok.1 ok.2 (by omega) k2 k1 rfl rfl rfl rfl rfl rfl
    · cases e; exact seq xs _ _ ok.1 ok.2 (by omega) k1 k2 rfl rfl rfl rfl rfl rfl
    · cases e; cases e2; exact seq xs _ _ ok.1 ok.2 (by omega) k1 k1 rfl rfl rfl rfl rfl rfl
  | tuple xs =>
    simp only [okS, Bool.and_eq_true, decide_eq_true_eq] at ok
    rw [PyData.depth] at dp
    have k2 : ∀ (k : Nat) (x : PyData), xs[k]? = some x → item (.d (.tuple xs)) (.d (.int (k : Int))) = some (.d x) := fun k x e => item_tup e
    rcases ht with rfl | ⟨ys, e, _⟩
    · rcases hu with rfl | ⟨zs, e2, _⟩
      · exact seq xs _ _ ok.1 ok.2 (by omega) k2 k2 rfl rfl rfl rfl rfl rfl
      · cases e2
    · cases e
  | dict _ => cases ok
  | none =>
    rcases ht with rfl | ⟨_, e, _⟩
    · rcases hu with rfl | ⟨_, e, _⟩
      · apply run_ret rfl
        · unfold gSame
          refine' st_ret (x_ift (b_cmp (o_v ?_ ?_) (o_of ?_ (v_c ?_ ?_)) ?_ ?_ ?_) (st_ret (x_ret (v_cmp (o_v ?_ ?_) (o_of ?_ (v_c ?_ ?_)) ?_ ?_ ?_))))
          all_goals first | rfl | (show _ ≤ 16; decide) | skip
        · rfl
      · cases e
    · cases e
  | bool b =>
    rcases ht with rfl | ⟨_, e, _⟩
    · rcases hu with rfl | ⟨_, e, _⟩
      · have c : cmp .eq (.d (.bool b)) (.d (.bool b)) = some true := by rw [cmp_eqD (α := Bool) rfl rfl (by decide)]; simp
        apply run_ret rfl
        · unfold gSame
          refine' st_nx (x_iff (b_cmp (o_v ?_ ?_) (o_of ?_ (v_c ?_ ?_)) ?_ ?_ ?_) st_nil) (st_nx (x_iff (b_of ?_ (v_isi ?_ (o_v ?_ ?_) ?_) ?_) st_nil)
            (st_ret (x_ift (b_of ?_ (v_isi ?_ (o_v ?_ ?_) ?_) ?_) (st_ret (x_ret (v_and1 (v_isiK ?_ (o_v ?_ ?_) ?_ ?_) (v_cmp (o_v ?_ ?_) (o_v ?_ ?_) ?_ ?_ c)))))))
          all_goals first | rfl | (show _ ≤ 16; decide) | skip
        · rfl
      · cases e
    · cases e
  | int z =>
    rcases ht with rfl | ⟨_, e, _⟩
    · rcases hu with rfl | ⟨_, e, _⟩
      · apply run_ret rfl
        · unfold gSame
          refine' st_nx (x_iff (b_cmp (o_v ?_ ?_) (o_of ?_ (v_c ?_ ?_)) ?_ ?_ ?_) st_nil) (st_nx (x_iff (b_of ?_ (v_isi ?_ (o_v ?_ ?_) ?_) ?_) st_nil)
            (st_nx (x_iff (b_of ?_ (v_isi ?_ (o_v ?_ ?_) ?_) ?_) st_nil)
            (st_ret (x_ift (b_of ?_ (v_isi ?_ (o_v ?_ ?_) ?_) ?_) (st_ret (x_ret (v_and1 (v_isiK ?_ (o_v ?_ ?_) ?_ ?_) (v_and1 (v_notK (o_of ?_ (v_isi ?_ (o_v ?_ ?_) ?_)) ?_ ?_) (v_cmp (o_v ?_ ?_) (o_v ?_ ?_) ?_ ?_ (cmp_eq1 ?_))))))))))
          all_goals first | rfl | (show _ ≤ 16; decide) | skip
        · rfl
      · cases e
    · cases e
  | str z =>
    rcases ht with rfl | ⟨_, e, _⟩
    · rcases hu with rfl | ⟨_, e, _⟩
      · have c : cmp .eq (.d (.str z)) (.d (.str z)) = some true := by rw [cmp_eqD (α := Str) (x := z) (y := z) rfl rfl (by decide)]; simp
        apply run_ret rfl
        · unfold gSame
          refine' st_nx (x_iff (b_cmp (o_v ?_ ?_) (o_of ?_ (v_c ?_ ?_)) ?_ ?_ ?_) st_nil) (st_nx (x_iff (b_of ?_ (v_isi ?_ (o_v ?_ ?_) ?_) ?_) st_nil)
            (st_nx (x_iff (b_of ?_ (v_isi ?_ (o_v ?_ ?_) ?_) ?_) st_nil)
            (st_nx (x_iff (b_of ?_ (v_isi ?_ (o_v ?_ ?_) ?_) ?_) st_nil) (st_ret (x_ret (v_and1 (v_isiK ?_ (o_v ?_ ?_) ?_ ?_) (v_cmp (o_v ?_ ?_) (o_v ?_ ?_) ?_ ?_ c)))))))
          all_goals first | rfl | (show _ ≤ 16; decide) | skip
        · rfl
      · cases e
    · cases e
end Mv
end
section
set_option Elab.async false
set_option linter.all false
set_option maxHeartbeats 4000000
set_option maxRecDepth 10000
/-! Sh: the programs of Mv as typed functions; how a run is followed. -/
namespace Mv.Sh
open PySem L2 PySem.W

/-! ### what a typed function comes to -/
inductive Rs (α : Type) where
  | ok (a : α)
  | exc (c : Nat)
  | bad
def Rs.bd {α β : Type} (m : Rs α) (f : α → Rs β) : Rs β :=
  match m with
  | .ok a => f a
  | .exc c => .exc c
  | .bad => .bad
section
variable {α β γ : Type}
@[simp] theorem Rs.bd_ok (a : α) (f : α → Rs β) : (Rs.ok a).bd f = f a := rfl
@[simp] theorem Rs.bd_exc (c : Nat) (f : α → Rs β) : (Rs.exc c : Rs α).bd f = .exc c := rfl
@[simp] theorem Rs.bd_bad (f : α → Rs β) : (Rs.bad : Rs α).bd f = .bad := rfl
theorem Rs.bd_assoc (m : Rs α) (f : α → Rs β) (g : β → Rs γ) : (m.bd f).bd g = m.bd fun a => (f a).bd g := by cases m <;> rfl
@[simp] theorem Rs.bd_id (m : Rs α) : (m.bd fun a => .ok a) = m := by cases m <;> rfl
end
/-- a block's end: it goes on, or an answer -/
inductive O (σ ρ : Type) where
  | nx (s : σ)
  | rt (r : ρ)
/-- behind a block that may answer -/
def Rs.obd {σ ρ τ : Type} (m : Rs (O σ ρ)) (w : ρ → τ) (k : σ → Rs τ) : Rs τ :=
  match m with
  | .ok (.nx s) => k s
  | .ok (.rt r) => .ok (w r)
  | .exc c => .exc c
  | .bad => .bad
@[simp] theorem Rs.obd_nx {σ ρ τ : Type} (s : σ) (w : ρ → τ) (k : σ → Rs τ) : (Rs.ok (O.nx s) : Rs (O σ ρ)).obd w k = k s := rfl
@[simp] theorem Rs.obd_rt {σ ρ τ : Type} (r : ρ) (w : ρ → τ) (k : σ → Rs τ) : (Rs.ok (O.rt r) : Rs (O σ ρ)).obd w k = .ok (w r) := rfl
@[simp] theorem Rs.obd_exc {σ ρ τ : Type} (c : Nat) (w : ρ → τ) (k : σ → Rs τ) : (Rs.exc c : Rs (O σ ρ)).obd w k = .exc c := rfl
@[simp] theorem Rs.obd_bad {σ ρ τ : Type} (w : ρ → τ) (k : σ → Rs τ) : (Rs.bad : Rs (O σ ρ)).obd w k = .bad := rfl

/-! ### data with a type -/
class Dt (α : Type) where
  D : α → PyData
open Dt (D)
instance : Dt Int := ⟨.int⟩
instance : Dt Bool := ⟨.bool⟩
instance : Dt Str := ⟨.str⟩
instance : Dt Unit := ⟨fun _ => .none⟩
instance : Dt PyData := ⟨fun x => x⟩
section
variable {α β γ δ : Type} [Dt α] [Dt β] [Dt γ] [Dt δ]
instance : Dt (List α) := ⟨fun xs => .list (xs.map D)⟩
instance : Dt (Tup α) := ⟨fun t => .tuple (t.items.map D)⟩
instance : Dt (α × β) := ⟨fun p => .tuple [D p.1, D p.2]⟩
instance : Dt (T3 α β γ) := ⟨fun p => .tuple [D p.a, D p.b, D p.c]⟩
instance : Dt (T4 α β γ δ) := ⟨fun p => .tuple [D p.a, D p.b, D p.c, D p.d]⟩
instance : Dt (Option α) := ⟨fun | none => .none | some a => D a⟩
abbrev Ds (xs : List α) : List PyData := xs.map D
end
/-! ### what is known of a slot -/
inductive Sl where
  | any
  | no
  | f (x : PyData)
  | d (x : PyData)
  | l (xs : List PyData)
  | m (kvs : List (Key × PyData))
  | s (ns : List Int)
def Has : Sl → Option T → Prop
  | .any, _ => True
  | .no, t => t = none ∨ ∃ x, t = some (.d x)
  | .f x, t => t = some (.d x)
  | .d x, t => t = some (.d x) ∨ ∃ xs, x = .list xs ∧ t = some (.l xs)
  | .l xs, t => t = some (.l xs)
  | .m kvs, t => t = some (.m kvs)
  | .s ns, t => t = some (.s ns)
def Ok : List Sl → Env → Prop
  | [], [] => True
  | v :: S, t :: e => Has v t ∧ Ok S e
  | _, _ => False
/-- the data within -/
def dat : Sl → Option PyData
  | .f x => some x
  | .d x => some x
  | .l xs => some (.list xs)
  | _ => none
def lst : Sl → Option (List PyData)
  | .f (.list xs) => some xs
  | .d (.list xs) => some xs
  | .l xs => some xs
  | _ => none
def isL : PyData → Bool
  | .list _ => true
  | _ => false
/-- there is something within -/
def full : Sl → Bool
  | .any => false
  | .no => false
  | _ => true
/-- data that cannot be an owned list -/
def fixd : Sl → Option PyData
  | .f x => some x
  | .d x => if isL x = true then none else some x
  | _ => none

def Wk1 (v w : Sl) : Prop := ∀ t, Has v t → Has w t
def Wk (S S' : List Sl) : Prop := ∀ e, Ok S e → Ok S' e
section
variable {v w : Sl} {S S' S'' : List Sl} {x : PyData} {xs : List PyData}
theorem Wk1.r : Wk1 v v := fun _ h => h
theorem Wk1.a : Wk1 v .any := fun _ _ => trivial
theorem Wk1.fd : Wk1 (.f x) (.d x) := fun _ h => .inl h
theorem Wk1.ld : Wk1 (.l xs) (.d (.list xs)) := fun _ h => .inr ⟨xs, rfl, h⟩
theorem Wk1.fn : Wk1 (.f x) .no := fun _ h => .inr ⟨x, h⟩
theorem Wk1.dn (hx : isL x = false) : Wk1 (.d x) .no := fun t h => by
  rcases h with h | ⟨ys, e, _⟩
  · exact .inr ⟨x, h⟩
  · subst e; cases hx
theorem Wk1.df (hx : isL x = false) : Wk1 (.d x) (.f x) := fun t h => by
  rcases h with h | ⟨ys, e, _⟩
  · exact h
  · subst e; cases hx
theorem Wk.r : Wk S S := fun _ h => h
theorem Wk.n : Wk [] [] := fun _ h => h
theorem Wk.c (h : Wk1 v w) (k : Wk S S') : Wk (v :: S) (w :: S') := fun e he => by
  cases e with
  | nil => exact he
  | cons t e => exact ⟨h _ he.1, k _ he.2⟩
theorem Wk.t (h : Wk S S') (k : Wk S' S'') : Wk S S'' := fun e he => k e (h e he)
theorem Ok.at_ {i : Nat} : ∀ {S : List Sl} {e : Env} {i : Nat} {v : Sl}, Ok S e → S[i]? = some v → ∃ t, e[i]? = some t ∧ Has v t
  | [], _, _, _, _, h => by simp at h
  | w :: S, [], _, _, h, _ => by cases h
  | w :: S, t :: e, 0, v, h, k => by
    simp at k; subst k
    exact ⟨t, rfl, h.1⟩
  | w :: S, t :: e, i + 1, v, h, k => by
    have := Ok.at_ (i := i) (v := v) h.2 (by simpa using k)
    simpa using this
theorem Ok.set : ∀ {S : List Sl} {e : Env} {i : Nat} {v : Sl} {t : Option T}, Ok S e → Has v t → Ok (S.set i v) (e.set i t)
  | [], [], _, _, _, _, _ => trivial
  | [], _ :: _, _, _, _, h, _ => by cases h
  | w :: S, [], _, _, _, h, _ => by cases h
  | w :: S, t :: e, 0, v, t', h, k => ⟨k, h.2⟩
  | w :: S, t :: e, i + 1, v, t', h, k => ⟨h.1, Ok.set h.2 k⟩
theorem Ok.len : ∀ {S : List Sl} {e : Env}, Ok S e → S.length = e.length
  | [], [], _ => rfl
  | [], _ :: _, h => by cases h
  | _ :: _, [], h => by cases h
  | _ :: _, _ :: _, h => by simp only [List.length_cons, Ok.len h.2]
theorem Ok.put {e : Env} {i : Nat} {t : Option T} (h : Ok S e) (k : Has (S[i]?.getD .any) t) : Ok S (e.set i t) := by
  by_cases hi : i < S.length
  · have := h.set (i := i) k
    rw [List.getElem?_eq_getElem hi, Option.getD_some, List.set_getElem_self] at this
    exact this
  · rw [List.set_eq_of_length_le (by have := h.len; omega)]
    exact h
theorem Has.full {t : Option T} (h : Has v t) (hf : Sh.full v = true) : ∃ u, t = some u := by
  cases v <;> simp [Sh.full] at hf
  · exact ⟨_, h⟩
  · rcases h with h | ⟨_, _, h⟩ <;> exact ⟨_, h⟩
  · exact ⟨_, h⟩
  · exact ⟨_, h⟩
  · exact ⟨_, h⟩
theorem Has.dat {t : T} (h : Has v (some t)) (hd : Sh.dat v = some x) : t.frz? = some x ∧ t.data? = some x := by
  cases v <;> simp [Sh.dat] at hd <;> subst hd
  · cases h; exact ⟨rfl, rfl⟩
  · rcases h with h | ⟨_, e, h⟩
    · cases h; exact ⟨rfl, rfl⟩
    · subst e; cases h; exact ⟨rfl, rfl⟩
  · cases h; exact ⟨rfl, rfl⟩
theorem Has.lst {t : T} (h : Has v (some t)) (hd : Sh.lst v = some xs) : t = .d (.list xs) ∨ t = .l xs := by
  cases v with
  | f x => cases x <;> simp [Sh.lst] at hd; subst hd; cases h; exact .inl rfl
  | d x =>
    cases x <;> simp [Sh.lst] at hd; subst hd
    rcases h with h | ⟨_, e, h⟩
    · cases h; exact .inl rfl
    · cases e; cases h; exact .inr rfl
  | l ys => simp [Sh.lst] at hd; subst hd; cases h; exact .inr rfl
  | _ => simp [Sh.lst] at hd
theorem Has.fix {t : T} (h : Has v (some t)) (hd : Sh.fixd v = some x) : t = .d x := by
  cases v with
  | f y => simp [Sh.fixd] at hd; subst hd; cases h; rfl
  | d y =>
    simp only [Sh.fixd] at hd
    by_cases c : isL y = true
    · simp [c] at hd
    · simp [c] at hd
      subst hd
      rcases h with h | ⟨_, e, _⟩
      · cases h; rfl
      · subst e; exact absurd rfl c
  | _ => simp [Sh.fixd] at hd
theorem Has.list? {t : T} (h : Has v (some t)) (hd : Sh.lst v = some xs) : t.list? = some xs := by
  rcases h.lst hd with e | e <;> subst e <;> rfl
/-- .. as data that is not owned, it is this very data -/
theorem Has.d_of {t : T} (h : t.frz? = some x) (hl : ∀ ts, t ≠ .o ts) : Has (.d x) (some t) := by
  cases t with
  | d y => cases h; exact .inl rfl
  | l ys => cases h; exact .inr ⟨ys, rfl, rfl⟩
  | o ts => exact absurd rfl (hl ts)
  | m _ => cases h
  | s _ => cases h
end

/-! ### following a run -/
/-- an end as it is wanted; X: what is known of the slots where an error leaves -/
def Sat {τ : Type} (m : Rs τ) (P : τ → SR → Prop) (X : List Sl) (r : SR) : Prop :=
  match m with
  | .ok x => P x r
  | .exc c => ∃ e, r = .exc c e ∧ Ok X e
  | .bad => True
def SS {τ : Type} (C : Orc) (ss : Sts) (S X : List Sl) (m : Rs τ) (P : τ → SR → Prop) : Prop := ∀ e, Ok S e → Sat m P X (exSs C ss e)
def Gn {α δ τ : Type} (rel : δ → α → Prop) (r : Env → R α) (S X : List Sl) (m : Rs τ) (Q : δ → List Sl → Rs τ → Prop) : Prop :=
  ∀ (P : τ → SR → Prop) (k : α → Env → SR), (∀ d S' m', Q d S' m' → ∀ a e', rel d a → Ok S' e' → Sat m' P X (k a e')) → ∀ e, Ok S e → Sat m P X ((r e).st k)
/-- an operand -/
inductive Od where
  | r (i : Nat)
  | w (v : Sl)
def OdHas : Od → Opd → Prop
  | .r i, x => x = .r i
  | .w v, x => ∃ t, x = .w t ∧ Has v (some t)
def look (x : Od) (S : List Sl) : Sl :=
  match x with
  | .r i => (S[i]?).getD .any
  | .w v => v
abbrev SE {τ : Type} (C : Orc) (a : Ex) (S X : List Sl) (m : Rs τ) (Q : Sl → List Sl → Rs τ → Prop) : Prop := Gn (fun v t => Has v (some t)) (den C a).v S X m Q
abbrev SO {τ : Type} (C : Orc) (a : Ex) (S X : List Sl) (m : Rs τ) (Q : Od → List Sl → Rs τ → Prop) : Prop := Gn OdHas (den C a).opd S X m Q
abbrev SB {τ : Type} (C : Orc) (a : Ex) (S X : List Sl) (m : Rs τ) (Q : Bool → List Sl → Rs τ → Prop) : Prop := Gn (fun b c => c = b) (den C a).b S X m Q
abbrev SC {τ : Type} (C : Orc) (s : Src) (S X : List Sl) (m : Rs τ) (Q : List PyData → List Sl → Rs τ → Prop) : Prop := Gn (fun b c => c = b) (srcs C s) S X m Q
abbrev SL {τ : Type} (C : Orc) (es : Exs) (S X : List Sl) (m : Rs τ) (Q : List PyData → List Sl → Rs τ → Prop) : Prop := Gn (fun b c => c = b) (evs (dens C es)) S X m Q
def OdsHas : List Od → List Opd → Prop
  | [], [] => True
  | x :: xs, y :: ys => OdHas x y ∧ OdsHas xs ys
  | _, _ => False
abbrev SA {τ : Type} (C : Orc) (es : Exs) (S X : List Sl) (m : Rs τ) (Q : List Od → List Sl → Rs τ → Prop) : Prop := Gn OdsHas (opds (dens C es)) S X m Q

theorem R.bind_st {α β : Type} (r : R α) (g : α → Env → R β) (k : β → Env → SR) : (r.bind g).st k = r.st fun a e => (g a e).st k := by cases r <;> rfl
section
variable {α β δ δ' τ : Type} {rel : δ → α → Prop} {rel' : δ' → β → Prop} {r : Env → R α} {g : α → Env → R β} {S X : List Sl} {m : Rs τ}
theorem Gn.bind {Q : δ' → List Sl → Rs τ → Prop} (h : Gn rel r S X m fun d S1 m1 => ∀ a, rel d a → Gn rel' (g a) S1 X m1 Q) : Gn rel' (fun e => (r e).bind g) S X m Q := by
  intro P k hk e he
  rw [R.bind_st]
  exact h P _ (fun d S' m' q a e' ra he' => q a ra P k hk e' he') e he
theorem Gn.pure {Q : δ → List Sl → Rs τ → Prop} {d : δ} {a : α} (ra : rel d a) (q : Q d S m) : Gn rel (fun e => .ok a e) S X m Q := fun P k hk e he => hk d S m q a e ra he
theorem Gn.ofb {Q : δ → List Sl → Rs τ → Prop} (h : ∀ e, Ok S e → Gn rel (fun _ => r e) S X m Q) : Gn rel r S X m Q := fun P k hk e he => h e he P k hk e he
theorem Gn.bad {Q : δ → List Sl → Rs τ → Prop} : Gn rel r S X (.bad : Rs τ) Q := fun _ _ _ _ _ => trivial
theorem Gn.wk {S' : List Sl} {Q : δ → List Sl → Rs τ → Prop} (w : Wk S S') (h : Gn rel r S' X m Q) : Gn rel r S X m Q := fun P k hk e he => h P k hk e (w e he)
end
theorem SS.wk {τ : Type} {C : Orc} {ss : Sts} {S S' X : List Sl} {m : Rs τ} {P : τ → SR → Prop} (w : Wk S S') (h : SS C ss S' X m P) : SS C ss S X m P := fun e he => h e (w e he)
theorem SS.bad {τ : Type} {C : Orc} {ss : Sts} {S X : List Sl} {P : τ → SR → Prop} : SS C ss S X (.bad : Rs τ) P := fun _ _ => trivial
theorem Od.get {x : Od} {y : Opd} {S : List Sl} {e : Env} (h : OdHas x y) (hf : full (look x S) = true) (he : Ok S e) : ∃ t, y.get e = some t ∧ Has (look x S) (some t) := by
  cases x with
  | r i =>
    cases h
    show ∃ t, (e[i]?).join = some t ∧ _
    simp only [look] at hf ⊢
    cases q : S[i]? with
    | none => rw [q] at hf; cases hf
    | some v =>
      rw [q] at hf
      obtain ⟨t, h1, h2⟩ := he.at_ (i := 0) q
      obtain ⟨u, rfl⟩ := h2.full hf
      exact ⟨u, by rw [h1]; rfl, h2⟩
  | w v =>
    obtain ⟨t, rfl, ht⟩ := h
    exact ⟨t, rfl, ht⟩

/-! ### expressions -/
section
variable {τ : Type} {C : Orc} {S X : List Sl} {m : Rs τ} {a b c : Ex} {i : Nat} {v w : Sl} {x y : PyData} {xs ys : List PyData} {Q : Sl → List Sl → Rs τ → Prop} {q q' : COp} {o : BOp}
theorem se_c (h : scal x = true) (k : Q (.f x) S m) : SE C (.c x) S X m Q := by
  intro P kk hk e he
  simp only [den, Dn.of, h, if_true, R.st_ok]
  exact hk _ _ _ k _ _ rfl he
/-- a name's value, given up in its place -/
theorem se_v (h : S[i]? = some v) (hd : dat v = some x) (k : Q (.f x) S m) (hx : ∀ zs, v ≠ .l zs := by intro _; nofun) : SE C (.v i) S X m Q := by
  intro P kk hk e he
  obtain ⟨t, h1, h2⟩ := he.at_ (i := 0) h
  obtain ⟨u, rfl⟩ := h2.full (by cases v <;> simp [dat] at hd <;> rfl)
  simp only [den, rd, h1, Option.join_some, (h2.dat hd).1, R.st_ok]
  refine hk _ _ _ k _ _ rfl (he.put ?_)
  rw [h, Option.getD_some]
  cases v <;> simp [dat] at hd
  · subst hd; rfl
  · subst hd; exact .inl rfl
  · exact absurd rfl (hx _)
theorem se_vl (h : S[i]? = some (.l xs)) (k : Q (.f (.list xs)) (S.set i (.f (.list xs))) m) : SE C (.v i) S X m Q := by
  intro P kk hk e he
  obtain ⟨t, h1, h2⟩ := he.at_ (i := 0) h
  cases h2
  simp only [den, rd, h1, Option.join_some, T.frz?, R.st_ok]
  exact hk _ _ _ k _ _ rfl (he.set rfl)
theorem se_mv (h : S[i]? = some v) (hd : fixd v = some x) (k : Q (.f x) S m) : SE C (.mv i) S X m Q := by
  intro P kk hk e he
  obtain ⟨t, h1, h2⟩ := he.at_ (i := 0) h
  obtain ⟨u, rfl⟩ := h2.full (by cases v <;> simp [fixd] at hd <;> rfl)
  have := h2.fix hd
  subst this
  simp only [den, Dn.of, mvo, h1, Option.join_some, R.st_ok]
  exact hk _ _ _ k _ _ rfl he
theorem se_mvl (h : S[i]? = some (.l xs)) (k : Q (.l xs) (S.set i .no) m) : SE C (.mv i) S X m Q := by
  intro P kk hk e he
  obtain ⟨t, h1, h2⟩ := he.at_ (i := 0) h
  cases h2
  simp only [den, Dn.of, mvo, h1, Option.join_some, R.st_ok]
  exact hk _ _ _ k _ _ rfl (he.set (.inl rfl))
theorem se_mvm {kvs : List (Key × PyData)} (h : S[i]? = some (.m kvs)) (k : Q (.m kvs) (S.set i .no) m) : SE C (.mv i) S X m Q := by
  intro P kk hk e he
  obtain ⟨t, h1, h2⟩ := he.at_ (i := 0) h
  cases h2
  simp only [den, Dn.of, mvo, h1, Option.join_some, R.st_ok]
  exact hk _ _ _ k _ _ rfl (he.set (.inl rfl))
theorem se_mvd (h : S[i]? = some (.d x)) (k : Q (.d x) (S.set i .any) m) : SE C (.mv i) S X m Q := by
  intro P kk hk e he
  obtain ⟨t, h1, h2⟩ := he.at_ (i := 0) h
  obtain ⟨u, rfl⟩ := h2.full rfl
  rcases h2 with h2 | ⟨zs, e2, h2⟩
  · cases h2
    simp only [den, Dn.of, mvo, h1, Option.join_some, R.st_ok]
    refine hk _ _ _ k _ _ (.inl rfl) ?_
    have h5 := he.set (i := i) (v := .any) (t := some (.d x)) trivial
    have hl := (List.getElem?_eq_some_iff.mp h1).1
    have h4 := (List.getElem?_eq_some_iff.mp h1).2
    have h3 : e.set i (some (T.d x)) = e := by rw [← h4]; exact List.set_getElem_self hl
    rw [h3] at h5
    exact h5
  · subst e2; cases h2
    simp only [den, Dn.of, mvo, h1, Option.join_some, R.st_ok]
    exact hk _ _ _ k _ _ (.inr ⟨zs, rfl, rfl⟩) (he.set trivial)
theorem se_fz (h : SE C a S X m fun v S1 m1 => ∃ x, dat v = some x ∧ Q (.f x) S1 m1) : SE C (.fz a) S X m Q := by
  intro P kk hk e he
  have : (den C (.fz a)).v = fun e => ((den C a).v e).bind fun t e => (frzR t e).bind fun x e => .ok (.d x) e := rfl
  rw [this, R.bind_st]
  refine h P _ (fun v S' m' ⟨x, hx, q⟩ t e' ht he' => ?_) e he
  simp only [frzR, (ht.dat hx).1, lift_some, R.bind_ok, R.st_ok]
  exact hk _ _ _ q _ _ rfl he'
/-! operands -/
variable {Qo : Od → List Sl → Rs τ → Prop}
theorem so_v (h : S[i]? = some v) (hf : full v = true) (k : Qo (.r i) S m) : SO C (.v i) S X m Qo := by
  intro P kk hk e he
  obtain ⟨t, h1, h2⟩ := he.at_ (i := 0) h
  obtain ⟨u, rfl⟩ := h2.full hf
  simp only [den, Dn.opd, h1, Option.join_some, R.st_ok]
  exact hk _ _ _ k _ _ rfl he
theorem so_e (hx : (den C a).x = none) (h : SE C a S X m fun v S1 m1 => Qo (.w v) S1 m1) : SO C a S X m Qo := by
  intro P kk hk e he
  have : (den C a).opd e = ((den C a).v e).bind fun t e => .ok (.w t) e := by simp only [Dn.opd, hx]
  rw [this, R.bind_st]
  exact h P _ (fun v S' m' q t e' ht he' => hk _ _ _ q _ _ ⟨t, rfl, ht⟩ he') e he
/-! two operands -/
/-- a step on two values -/
def A2 (f : T → T → Option T) (v w : Sl) (S X : List Sl) (m : Rs τ) (Q : Sl → List Sl → Rs τ → Prop) : Prop :=
  full v = true ∧ full w = true ∧ ∀ (P : τ → SR → Prop) (k : T → Env → SR), (∀ d S' m', Q d S' m' → ∀ a e', Has d (some a) → Ok S' e' → Sat m' P X (k a e')) → ∀ t u, Has v (some t) → Has w (some u) → ∀ e, Ok S e → Sat m P X ((lift (f t u) e).st k)
theorem A2.p {f : T → T → Option T} {u : Sl} (hv : full v = true) (hw : full w = true) (h : ∀ t t', Has v (some t) → Has w (some t') → ∃ r, f t t' = some r ∧ Has u (some r)) (k : Q u S m) : A2 f v w S X m Q := by
  refine ⟨hv, hw, fun P kk hk t u ht hu e he => ?_⟩
  obtain ⟨r, h1, h2⟩ := h t u ht hu
  rw [h1, lift_some, R.st_ok]
  exact hk _ _ _ k _ _ h2 he
theorem A2.mo {β : Type} {f : T → T → Option T} {mo : Rs β} {F : β → Sl} {g : β → Rs τ} (hv : full v = true) (hw : full w = true) (h : ∀ t t', Has v (some t) → Has w (some t') → mo = .bad ∨ ∃ y, mo = .ok y ∧ ∃ r, f t t' = some r ∧ Has (F y) (some r)) (k : ∀ y, Q (F y) S (g y)) : A2 f v w S X (mo.bd g) Q := by
  refine ⟨hv, hw, fun P kk hk t u ht hu e he => ?_⟩
  rcases h t u ht hu with h | ⟨y, h0, r, h1, h2⟩
  · rw [h]; trivial
  · rw [h0, Rs.bd_ok, h1, lift_some, R.st_ok]
    exact hk _ _ _ (k y) _ _ h2 he
theorem op2_gn {A B : Dn} {f : T → T → Option T} (h : Gn OdHas A.opd S X m fun x S1 m1 => Gn OdHas B.opd S1 X m1 fun y S2 m2 => A2 f (look x S2) (look y S2) S2 X m2 Q) : Gn (fun v t => Has v (some t)) (op2 A B f) S X m Q := by
  refine Gn.bind (rel := OdHas) ?_
  intro P k hk e he
  refine h P k (fun d S' m' q a e' ra he' => hk d S' m' (fun a ra => ?_) a e' ra he') e he
  refine Gn.bind (rel := OdHas) ?_
  intro P k hk e he
  refine q P k (fun d2 S2 m2 q2 a2 e2 ra2 he2 => hk d2 S2 m2 (fun b rb => ?_) a2 e2 ra2 he2) e he
  intro P k hk e he
  obtain ⟨hv, hw, q3⟩ := q2
  obtain ⟨t, g1, k1⟩ := Od.get ra hv he
  obtain ⟨u, g2, k2⟩ := Od.get rb hw he
  simp only [g1, g2]
  exact q3 P k hk t u k1 k2 e he
theorem se_bin (h : SO C a S X m fun x S1 m1 => SO C b S1 X m1 fun y S2 m2 => A2 (bin o) (look x S2) (look y S2) S2 X m2 Q) : SE C (.bin o a b) S X m Q := op2_gn h
theorem se_cmp (h : SO C a S X m fun x S1 m1 => SO C b S1 X m1 fun y S2 m2 => A2 (fun t u => bl? (cmp q t u)) (look x S2) (look y S2) S2 X m2 Q) : SE C (.cmp q a b) S X m Q := op2_gn h
theorem se_ix (h : SO C a S X m fun x S1 m1 => SO C b S1 X m1 fun y S2 m2 => A2 item (look x S2) (look y S2) S2 X m2 Q) : SE C (.ix a b) S X m Q := op2_gn h
theorem se_neg (h : SE C a S X m fun v S1 m1 => ∃ n : Int, dat v = some (.int n) ∧ Q (.f (.int (-n))) S1 m1) : SE C (.neg a) S X m Q := by
  intro P kk hk e he
  show Sat m P X ((((den C a).v e).bind fun t e => _).st kk)
  rw [R.bind_st]
  refine h P _ (fun v S' m' ⟨n, hx, q⟩ t e' ht he' => ?_) e he
  have : t = .d (.int n) := by
    have h1 := (ht.dat hx).1
    cases t <;> simp [T.frz?] at h1
    rw [h1]
  subst this
  exact hk _ _ _ q _ _ rfl he'
end
end Mv.Sh
end
section
set_option Elab.async false
set_option linter.all false
set_option maxHeartbeats 4000000
set_option maxRecDepth 10000
/-! Sh: more expressions, tests, statements. -/
namespace Mv.Sh
open PySem L2 PySem.W
open Dt (D)

section
variable {τ : Type} {C : Orc} {S S' X : List Sl} {m : Rs τ} {a b c : Ex} {i : Nat} {v w : Sl} {x y : PyData} {xs ys : List PyData} {Q : Sl → List Sl → Rs τ → Prop} {q q' : COp} {o : BOp} {es : Exs}
  {Qb : Bool → List Sl → Rs τ → Prop} {Qa : List Od → List Sl → Rs τ → Prop} {Ql : List PyData → List Sl → Rs τ → Prop} {Qo : Od → List Sl → Rs τ → Prop}
/-! tests -/
def Tr (v : Sl) (k : Bool) : Prop := ∀ t, Has v (some t) → truth t = some k
theorem tr_d (h : fixd v = some x) {k : Bool} (ht : truth (.d x) = some k) : Tr v k := fun t ht' => by rw [ht'.fix h]; exact ht
theorem tr_l (h : lst v = some xs) : Tr v (!xs.isEmpty) := fun t ht' => by rcases ht'.lst h with e | e <;> subst e <;> rfl
theorem tr_m {kvs : List (Key × PyData)} : Tr (.m kvs) (!kvs.isEmpty) := fun t ht => by cases ht; rfl
theorem sb_of (hd : (den C a).b = fun e => ((den C a).v e).bind fun t e => lift (truth t) e) (h : SE C a S X m fun v S1 m1 => ∃ k, Tr v k ∧ Qb k S1 m1) : SB C a S X m Qb := by
  show Gn _ (den C a).b S X m Qb
  rw [hd]
  refine Gn.bind (rel := fun v t => Has v (some t)) ?_
  intro P k hk e he
  refine h P k (fun v S' m' ⟨kk, ht, q⟩ t e' hh he' => hk v S' m' (fun t rt => ?_) t e' hh he') e he
  intro P k hk e he
  simp only [ht t rt, lift_some, R.st_ok]
  exact hk _ _ _ q _ _ rfl he
theorem sb_v {k : Bool} (h : S[i]? = some v) (hf : full v = true) (ht : Tr v k) (q : Qb k S m) : SB C (.v i) S X m Qb := by
  intro P kk hk e he
  obtain ⟨t, h1, h2⟩ := he.at_ (i := 0) h
  obtain ⟨u, rfl⟩ := h2.full hf
  simp only [den, h1, Option.join_some, Option.bind, ht u h2, lift_some, R.st_ok]
  exact hk _ _ _ q _ _ rfl he
theorem sb_not (h : SB C a S X m fun k S1 m1 => Qb (!k) S1 m1) : SB C (.not a) S X m Qb := by
  refine Gn.bind (rel := fun b c => c = b) ?_
  intro P k hk e he
  refine h P k (fun v S' m' q t e' hh he' => hk v S' m' (fun t rt => ?_) t e' hh he') e he
  subst rt
  exact Gn.pure rfl q
theorem se_not (h : SO C a S X m fun x S1 m1 => ∃ k, full (look x S1) = true ∧ Tr (look x S1) k ∧ Q (.f (.bool (!k))) S1 m1) : SE C (.not a) S X m Q := by
  refine Gn.bind (rel := OdHas) ?_
  intro P k hk e he
  refine h P k (fun v S' m' ⟨kk, hf, ht, q⟩ t e' hh he' => hk v S' m' (fun t rt => ?_) t e' hh he') e he
  intro P k hk e he
  obtain ⟨u, g1, k1⟩ := Od.get rt hf he
  simp only [g1, Option.bind, ht u k1, Option.map, lift_some, R.st_ok]
  exact hk _ _ _ q _ _ rfl he
/-- a part of a run, its end told by a typed value -/
def Sub {α δ β : Type} (rel : δ → α → Prop) (r : Env → R α) (S X : List Sl) (m : Rs β) (F : β → δ) (S' : List Sl) (wk : δ → δ → Prop) : Prop :=
  Gn rel r S X m fun d S1 m1 => ∃ y, m1 = .ok y ∧ wk d (F y) ∧ Wk S1 S'
abbrev SubE {β : Type} (C : Orc) (a : Ex) (S X : List Sl) (m : Rs β) (F : β → Sl) (S' : List Sl) : Prop := SE C a S X m fun v S1 m1 => ∃ y, m1 = .ok y ∧ Wk1 v (F y) ∧ Wk S1 S'
abbrev SubB (C : Orc) (a : Ex) (S X : List Sl) (m : Rs Bool) (S' : List Sl) : Prop := SB C a S X m fun k S1 m1 => m1 = .ok k ∧ Wk S1 S'
theorem sub_b {S' : List Sl} {k : Bool} (h : Wk S S') : (Rs.ok k : Rs Bool) = .ok k ∧ Wk S S' := ⟨rfl, h⟩
theorem SubB.run {mb : Rs Bool} (h : SubB C a S X mb S') {e : Env} (he : Ok S e) : mb = .bad ∨ (∃ k e', mb = .ok k ∧ (den C a).b e = .ok k e' ∧ Ok S' e') ∨ ∃ c e', mb = .exc c ∧ (den C a).b e = .exc c e' ∧ Ok X e' := by
  have := h (fun k r => ∃ e', r = .ret (.d (.bool k)) e' ∧ Ok S' e') (fun k e => .ret (.d (.bool k)) e) (fun d S1 m1 ⟨q1, q2⟩ k e' hk he' => by subst hk; rw [q1]; exact ⟨e', rfl, q2 e' he'⟩) e he
  cases mb with
  | bad => exact .inl rfl
  | ok k =>
    obtain ⟨e', h1, h2⟩ := this
    cases r : (den C a).b e with
    | ok k' e2 => rw [r] at h1; simp only [R.st_ok] at h1; cases h1; exact .inr (.inl ⟨k, e', rfl, rfl, h2⟩)
    | exc c e2 => rw [r] at h1; cases h1
    | bad => rw [r] at h1; cases h1
  | exc c =>
    obtain ⟨e', h1, h2⟩ := this
    cases r : (den C a).b e with
    | ok k' e2 => rw [r] at h1; cases h1
    | exc c' e2 => rw [r] at h1; simp only [R.st_exc] at h1; cases h1; exact .inr (.inr ⟨c, e', rfl, rfl, h2⟩)
    | bad => rw [r] at h1; cases h1
theorem SubE.run {β : Type} {mb : Rs β} {F : β → Sl} (h : SubE C a S X mb F S') {e : Env} (he : Ok S e) : mb = .bad ∨ (∃ y t e', mb = .ok y ∧ (den C a).v e = .ok t e' ∧ Has (F y) (some t) ∧ Ok S' e') ∨ ∃ c e', mb = .exc c ∧ (den C a).v e = .exc c e' ∧ Ok X e' := by
  have := h (fun y r => ∃ t e', r = .ret t e' ∧ Has (F y) (some t) ∧ Ok S' e') (fun t e => .ret t e) (fun d S1 m1 ⟨y, q1, q3, q2⟩ t e' hk he' => by rw [q1]; exact ⟨t, e', rfl, q3 _ hk, q2 e' he'⟩) e he
  cases mb with
  | bad => exact .inl rfl
  | ok y =>
    obtain ⟨t, e', h1, h3, h2⟩ := this
    cases r : (den C a).v e with
    | ok k' e2 => rw [r] at h1; simp only [R.st_ok] at h1; cases h1; exact .inr (.inl ⟨y, t, e', rfl, rfl, h3, h2⟩)
    | exc c e2 => rw [r] at h1; cases h1
    | bad => rw [r] at h1; cases h1
  | exc c =>
    obtain ⟨e', h1, h2⟩ := this
    cases r : (den C a).v e with
    | ok k' e2 => rw [r] at h1; cases h1
    | exc c' e2 => rw [r] at h1; simp only [R.st_exc] at h1; cases h1; exact .inr (.inr ⟨c, e', rfl, rfl, h2⟩)
    | bad => rw [r] at h1; cases h1
/-- a truth that takes nothing of what is computed -/
abbrev PurB (C : Orc) (a : Ex) (S X : List Sl) (k : Bool) : Prop := SubB C a S X (.ok k) S
theorem sb_andp (h : SB C a S X m fun k S1 m1 => ∃ k2, PurB C b S1 X k2 ∧ Qb (k && k2) S1 m1) : SB C (.and a b) S X m Qb := by
  refine Gn.bind (rel := fun b c => c = b) ?_
  intro P k hk e he
  refine h P k (fun v S' m' ⟨k2, q1, q⟩ t e' hh he' => hk v S' m' (fun t rt => ?_) t e' hh he') e he
  subst rt
  intro P k hk e he
  cases t with
  | true =>
    rcases SubB.run q1 he with h1 | ⟨k', e', h1, h2, h3⟩ | ⟨_, _, h1, _⟩
    · cases h1
    · cases h1
      simp only [if_true, h2, R.st_ok]
      exact hk _ _ _ q _ _ rfl h3
    · cases h1
  | false =>
    simp only [Bool.false_eq_true, if_false, R.st_ok]
    exact hk _ _ _ q _ _ rfl he
theorem sb_orp (h : SB C a S X m fun k S1 m1 => ∃ k2, PurB C b S1 X k2 ∧ Qb (k || k2) S1 m1) : SB C (.or a b) S X m Qb := by
  refine Gn.bind (rel := fun b c => c = b) ?_
  intro P k hk e he
  refine h P k (fun v S' m' ⟨k2, q1, q⟩ t e' hh he' => hk v S' m' (fun t rt => ?_) t e' hh he') e he
  subst rt
  intro P k hk e he
  cases t with
  | false =>
    rcases SubB.run q1 he with h1 | ⟨k', e', h1, h2, h3⟩ | ⟨_, _, h1, _⟩
    · cases h1
    · cases h1
      simp only [Bool.false_eq_true, if_false, h2, R.st_ok]
      exact hk _ _ _ q _ _ rfl h3
    · cases h1
  | true =>
    simp only [if_true, R.st_ok]
    exact hk _ _ _ q _ _ rfl he
/-- the second part is worked out only where the first leaves it open -/
theorem sb_andm (h : SB C a S X m fun k S1 m1 => ∃ (mb : Rs Bool) (S' : List Sl) (g : Bool → Rs τ), m1 = (if k = true then mb else .ok false).bd g ∧ SubB C b S1 X mb S' ∧ Wk S1 S' ∧ ∀ k, Qb k S' (g k)) : SB C (.and a b) S X m Qb := by
  refine Gn.bind (rel := fun b c => c = b) ?_
  intro P k hk e he
  refine h P k (fun v S1 m' ⟨mb, S', g, q0, q1, q2, q⟩ t e' hh he' => hk v S1 m' (fun t rt => ?_) t e' hh he') e he
  subst rt q0
  intro P k hk e he
  cases t with
  | true =>
    simp only [if_true]
    rcases q1.run he with h1 | ⟨k', e', h1, h2, h3⟩ | ⟨c, e', h1, h2, h3⟩
    · rw [h1]; trivial
    · rw [h1, h2, R.st_ok, Rs.bd_ok]
      exact hk _ _ _ (q k') _ _ rfl h3
    · rw [h1, h2, R.st_exc]; exact ⟨e', rfl, h3⟩
  | false =>
    simp only [Bool.false_eq_true, if_false, R.st_ok, Rs.bd_ok]
    exact hk _ _ _ (q false) _ _ rfl (q2 e he)
theorem sb_orm (h : SB C a S X m fun k S1 m1 => ∃ (mb : Rs Bool) (S' : List Sl) (g : Bool → Rs τ), m1 = (if k = true then .ok true else mb).bd g ∧ SubB C b S1 X mb S' ∧ Wk S1 S' ∧ ∀ k, Qb k S' (g k)) : SB C (.or a b) S X m Qb := by
  refine Gn.bind (rel := fun b c => c = b) ?_
  intro P k hk e he
  refine h P k (fun v S1 m' ⟨mb, S', g, q0, q1, q2, q⟩ t e' hh he' => hk v S1 m' (fun t rt => ?_) t e' hh he') e he
  subst rt q0
  intro P k hk e he
  cases t with
  | false =>
    simp only [Bool.false_eq_true, if_false]
    rcases q1.run he with h1 | ⟨k', e', h1, h2, h3⟩ | ⟨c, e', h1, h2, h3⟩
    · rw [h1]; trivial
    · rw [h1, h2, R.st_ok, Rs.bd_ok]
      exact hk _ _ _ (q k') _ _ rfl h3
    · rw [h1, h2, R.st_exc]; exact ⟨e', rfl, h3⟩
  | true =>
    simp only [if_true, R.st_ok, Rs.bd_ok]
    exact hk _ _ _ (q true) _ _ rfl (q2 e he)
/-- .. a part that changes slots -/
theorem SubS.run {σ : Type} {N : σ → List Sl} {mb : Rs (Bool × σ)} (h : SB C a S X mb fun k S2 m2 => ∃ s, m2 = .ok (k, s) ∧ Wk S2 (N s)) {e : Env} (he : Ok S e) : mb = .bad ∨ (∃ k s e', mb = .ok (k, s) ∧ (den C a).b e = .ok k e' ∧ Ok (N s) e') ∨ ∃ c e', mb = .exc c ∧ (den C a).b e = .exc c e' ∧ Ok X e' := by
  have := h (fun k r => ∃ e', r = .ret (.d (.bool k.1)) e' ∧ Ok (N k.2) e') (fun k e => .ret (.d (.bool k)) e) (fun d S1 m1 ⟨s, q1, q2⟩ k e' hk he' => by subst hk; rw [q1]; exact ⟨e', rfl, q2 e' he'⟩) e he
  cases mb with
  | bad => exact .inl rfl
  | ok k =>
    obtain ⟨e', h1, h2⟩ := this
    cases r : (den C a).b e with
    | ok k' e2 => rw [r] at h1; simp only [R.st_ok] at h1; cases h1; exact .inr (.inl ⟨k.1, k.2, e', rfl, rfl, h2⟩)
    | exc c e2 => rw [r] at h1; cases h1
    | bad => rw [r] at h1; cases h1
  | exc c =>
    obtain ⟨e', h1, h2⟩ := this
    cases r : (den C a).b e with
    | ok k' e2 => rw [r] at h1; cases h1
    | exc c' e2 => rw [r] at h1; simp only [R.st_exc] at h1; cases h1; exact .inr (.inr ⟨c, e', rfl, rfl, h2⟩)
    | bad => rw [r] at h1; cases h1
theorem sb_andS {σ : Type} (h : SB C a S X m fun k S1 m1 => ∃ (N : σ → List Sl) (mb : Rs (Bool × σ)) (s0 : σ) (g : Bool × σ → Rs τ), m1 = (if k = true then mb else .ok (false, s0)).bd g ∧ (SB C b S1 X mb fun k S2 m2 => ∃ s, m2 = .ok (k, s) ∧ Wk S2 (N s)) ∧ Wk S1 (N s0) ∧ ∀ r : Bool × σ, Qb r.1 (N r.2) (g r)) : SB C (.and a b) S X m Qb := by
  refine Gn.bind (rel := fun b c => c = b) ?_
  intro P k hk e he
  refine h P k (fun v S1 m' ⟨N, mb, s0, g, q0, q1, q2, q⟩ t e' hh he' => hk v S1 m' (fun t rt => ?_) t e' hh he') e he
  subst rt q0
  intro P k hk e he
  cases t with
  | true =>
    simp only [if_true]
    rcases SubS.run q1 he with h1 | ⟨k', s, e', h1, h2, h3⟩ | ⟨c, e', h1, h2, h3⟩
    · rw [h1]; trivial
    · rw [h1, h2, R.st_ok, Rs.bd_ok]
      exact hk _ _ _ (q (k', s)) _ _ rfl h3
    · rw [h1, h2, R.st_exc]; exact ⟨e', rfl, h3⟩
  | false =>
    simp only [Bool.false_eq_true, if_false, R.st_ok, Rs.bd_ok]
    exact hk _ _ _ (q (false, s0)) _ _ rfl (q2 e he)
theorem sb_orS {σ : Type} (h : SB C a S X m fun k S1 m1 => ∃ (N : σ → List Sl) (mb : Rs (Bool × σ)) (s0 : σ) (g : Bool × σ → Rs τ), m1 = (if k = true then .ok (true, s0) else mb).bd g ∧ (SB C b S1 X mb fun k S2 m2 => ∃ s, m2 = .ok (k, s) ∧ Wk S2 (N s)) ∧ Wk S1 (N s0) ∧ ∀ r : Bool × σ, Qb r.1 (N r.2) (g r)) : SB C (.or a b) S X m Qb := by
  refine Gn.bind (rel := fun b c => c = b) ?_
  intro P k hk e he
  refine h P k (fun v S1 m' ⟨N, mb, s0, g, q0, q1, q2, q⟩ t e' hh he' => hk v S1 m' (fun t rt => ?_) t e' hh he') e he
  subst rt q0
  intro P k hk e he
  cases t with
  | false =>
    simp only [Bool.false_eq_true, if_false]
    rcases SubS.run q1 he with h1 | ⟨k', s, e', h1, h2, h3⟩ | ⟨c, e', h1, h2, h3⟩
    · rw [h1]; trivial
    · rw [h1, h2, R.st_ok, Rs.bd_ok]
      exact hk _ _ _ (q (k', s)) _ _ rfl h3
    · rw [h1, h2, R.st_exc]; exact ⟨e', rfl, h3⟩
  | true =>
    simp only [if_true, R.st_ok, Rs.bd_ok]
    exact hk _ _ _ (q (true, s0)) _ _ rfl (q2 e he)
/-! and, or as values: of truths -/
theorem Has.bool {t : T} {k : Bool} (h : Has v (some t)) (hd : Sh.dat v = some (PyData.bool k)) : t = .d (.bool k) := by
  have h1 := (h.dat hd).1
  cases t <;> simp [T.frz?] at h1
  rw [h1]
abbrev PurE (C : Orc) (a : Ex) (S X : List Sl) (k : Bool) : Prop := SubE C a S X (.ok ()) (fun _ => .f (.bool k)) S
theorem se_andp (h : SE C a S X m fun v S1 m1 => ∃ k k2, dat v = some (.bool k) ∧ PurE C b S1 X k2 ∧ Q (.f (.bool (k && k2))) S1 m1) : SE C (.and a b) S X m Q := by
  refine Gn.bind (rel := fun v t => Has v (some t)) ?_
  intro P k hk e he
  refine h P k (fun v S' m' ⟨k, k2, hd, q1, q⟩ t e' hh he' => hk v S' m' (fun t rt => ?_) t e' hh he') e he
  have := rt.bool hd
  subst this
  intro P kk hk e he
  cases k with
  | true =>
    rcases SubE.run q1 he with h1 | ⟨y, t, e', h1, h2, h3, h4⟩ | ⟨_, _, h1, _⟩
    · cases h1
    · simp only [h2, R.st_ok]
      exact hk _ _ _ q _ _ h3 h4
    · cases h1
  | false =>
    simp only [R.st_ok]
    exact hk _ _ _ q _ _ rfl he
theorem se_orp (h : SE C a S X m fun v S1 m1 => ∃ k k2, dat v = some (.bool k) ∧ PurE C b S1 X k2 ∧ Q (.f (.bool (k || k2))) S1 m1) : SE C (.or a b) S X m Q := by
  refine Gn.bind (rel := fun v t => Has v (some t)) ?_
  intro P k hk e he
  refine h P k (fun v S' m' ⟨k, k2, hd, q1, q⟩ t e' hh he' => hk v S' m' (fun t rt => ?_) t e' hh he') e he
  have := rt.bool hd
  subst this
  intro P kk hk e he
  cases k with
  | false =>
    rcases SubE.run q1 he with h1 | ⟨y, t, e', h1, h2, h3, h4⟩ | ⟨_, _, h1, _⟩
    · cases h1
    · simp only [h2, R.st_ok]
      exact hk _ _ _ q _ _ h3 h4
    · cases h1
  | true =>
    simp only [R.st_ok]
    exact hk _ _ _ q _ _ rfl he
theorem se_andm (h : SE C a S X m fun v S1 m1 => ∃ (k : Bool) (mb : Rs Bool) (S' : List Sl) (g : Bool → Rs τ), dat v = some (.bool k) ∧ m1 = (if k = true then mb else .ok false).bd g ∧ SubE C b S1 X mb (fun k => .f (.bool k)) S' ∧ Wk S1 S' ∧ ∀ k, Q (.f (.bool k)) S' (g k)) : SE C (.and a b) S X m Q := by
  refine Gn.bind (rel := fun v t => Has v (some t)) ?_
  intro P k hk e he
  refine h P k (fun v S1 m' ⟨k, mb, S', g, hd, q0, q1, q2, q⟩ t e' hh he' => hk v S1 m' (fun t rt => ?_) t e' hh he') e he
  have := rt.bool hd
  subst this q0
  intro P kk hk e he
  cases k with
  | true =>
    simp only [if_true]
    rcases q1.run he with h1 | ⟨y, t, e', h1, h2, h3, h4⟩ | ⟨c, e', h1, h2, h3⟩
    · rw [h1]; trivial
    · rw [h1, Rs.bd_ok]
      simp only [h2, R.st_ok]
      exact hk _ _ _ (q y) _ _ h3 h4
    · rw [h1]
      simp only [h2, R.st_exc]; exact ⟨e', rfl, h3⟩
  | false =>
    simp only [Bool.false_eq_true, if_false, R.st_ok, Rs.bd_ok]
    exact hk _ _ _ (q false) _ _ rfl (q2 e he)
theorem se_orm (h : SE C a S X m fun v S1 m1 => ∃ (k : Bool) (mb : Rs Bool) (S' : List Sl) (g : Bool → Rs τ), dat v = some (.bool k) ∧ m1 = (if k = true then .ok true else mb).bd g ∧ SubE C b S1 X mb (fun k => .f (.bool k)) S' ∧ Wk S1 S' ∧ ∀ k, Q (.f (.bool k)) S' (g k)) : SE C (.or a b) S X m Q := by
  refine Gn.bind (rel := fun v t => Has v (some t)) ?_
  intro P k hk e he
  refine h P k (fun v S1 m' ⟨k, mb, S', g, hd, q0, q1, q2, q⟩ t e' hh he' => hk v S1 m' (fun t rt => ?_) t e' hh he') e he
  have := rt.bool hd
  subst this q0
  intro P kk hk e he
  cases k with
  | false =>
    simp only [Bool.false_eq_true, if_false]
    rcases q1.run he with h1 | ⟨y, t, e', h1, h2, h3, h4⟩ | ⟨c, e', h1, h2, h3⟩
    · rw [h1]; trivial
    · rw [h1, Rs.bd_ok]
      simp only [h2, R.st_ok]
      exact hk _ _ _ (q y) _ _ h3 h4
    · rw [h1]
      simp only [h2, R.st_exc]; exact ⟨e', rfl, h3⟩
  | true =>
    simp only [if_true, R.st_ok, Rs.bd_ok]
    exact hk _ _ _ (q true) _ _ rfl (q2 e he)
/-! a if c else b -/
theorem se_ite {β : Type} (F : β → Sl) (h : SB C c S X m fun k S1 m1 => ∃ (mt mf : Rs β) (S' : List Sl) (g : β → Rs τ), m1 = (if k = true then mt else mf).bd g ∧ SubE C a S1 X mt F S' ∧ SubE C b S1 X mf F S' ∧ ∀ y, Q (F y) S' (g y)) : SE C (.ite c a b) S X m Q := by
  refine Gn.bind (rel := fun b c => c = b) ?_
  intro P k hk e he
  refine h P k (fun v S1 m' ⟨mt, mf, S', g, q0, q1, q2, q⟩ t e' hh he' => hk v S1 m' (fun t rt => ?_) t e' hh he') e he
  subst rt q0
  intro P k hk e he
  cases t with
  | true =>
    simp only [if_true]
    rcases q1.run he with h1 | ⟨y, t, e', h1, h2, h3, h4⟩ | ⟨c, e', h1, h2, h3⟩
    · rw [h1]; trivial
    · rw [h1, h2, R.st_ok, Rs.bd_ok]
      exact hk _ _ _ (q y) _ _ h3 h4
    · rw [h1, h2, R.st_exc]; exact ⟨e', rfl, h3⟩
  | false =>
    simp only [Bool.false_eq_true, if_false]
    rcases q2.run he with h1 | ⟨y, t, e', h1, h2, h3, h4⟩ | ⟨c, e', h1, h2, h3⟩
    · rw [h1]; trivial
    · rw [h1, h2, R.st_ok, Rs.bd_ok]
      exact hk _ _ _ (q y) _ _ h3 h4
    · rw [h1, h2, R.st_exc]; exact ⟨e', rfl, h3⟩
theorem se_itep {β : Type} (F : β → Sl) (h : SB C c S X m fun k S1 m1 => ∃ y z : β, SubE C a S1 X (.ok y) F S1 ∧ SubE C b S1 X (.ok z) F S1 ∧ Q (F (if k = true then y else z)) S1 m1) : SE C (.ite c a b) S X m Q := by
  refine Gn.bind (rel := fun b c => c = b) ?_
  intro P k hk e he
  refine h P k (fun v S1 m' ⟨y, z, q1, q2, q⟩ t e' hh he' => hk v S1 m' (fun t rt => ?_) t e' hh he') e he
  subst rt
  intro P k hk e he
  cases t with
  | true =>
    simp only [if_true]
    rcases q1.run he with h1 | ⟨y, t, e', h1, h2, h3, h4⟩ | ⟨c, e', h1, h2, h3⟩
    · cases h1
    · cases h1; rw [h2, R.st_ok]
      exact hk _ _ _ q _ _ h3 h4
    · cases h1
  | false =>
    simp only [Bool.false_eq_true, if_false]
    rcases q2.run he with h1 | ⟨y, t, e', h1, h2, h3, h4⟩ | ⟨c, e', h1, h2, h3⟩
    · cases h1
    · cases h1; rw [h2, R.st_ok]
      exact hk _ _ _ q _ _ h3 h4
    · cases h1
theorem SubES.run {β σ : Type} {mb : Rs (β × σ)} {F : β → Sl} {N : σ → List Sl} (h : SE C a S X mb fun v S1 m1 => ∃ y s, m1 = .ok (y, s) ∧ Wk1 v (F y) ∧ Wk S1 (N s)) {e : Env} (he : Ok S e) : mb = .bad ∨ (∃ y s t e', mb = .ok (y, s) ∧ (den C a).v e = .ok t e' ∧ Has (F y) (some t) ∧ Ok (N s) e') ∨ ∃ c e', mb = .exc c ∧ (den C a).v e = .exc c e' ∧ Ok X e' := by
  have := h (fun y r => ∃ t e', r = .ret t e' ∧ Has (F y.1) (some t) ∧ Ok (N y.2) e') (fun t e => .ret t e) (fun d S1 m1 ⟨y, s, q1, q3, q2⟩ t e' hk he' => by rw [q1]; exact ⟨t, e', rfl, q3 _ hk, q2 e' he'⟩) e he
  cases mb with
  | bad => exact .inl rfl
  | ok y =>
    obtain ⟨t, e', h1, h3, h2⟩ := this
    cases r : (den C a).v e with
    | ok k' e2 => rw [r] at h1; simp only [R.st_ok] at h1; cases h1; exact .inr (.inl ⟨y.1, y.2, t, e', rfl, rfl, h3, h2⟩)
    | exc c e2 => rw [r] at h1; cases h1
    | bad => rw [r] at h1; cases h1
  | exc c =>
    obtain ⟨e', h1, h2⟩ := this
    cases r : (den C a).v e with
    | ok k' e2 => rw [r] at h1; cases h1
    | exc c' e2 => rw [r] at h1; simp only [R.st_exc] at h1; cases h1; exact .inr (.inr ⟨c, e', rfl, rfl, h2⟩)
    | bad => rw [r] at h1; cases h1
theorem se_iteS {β σ : Type} (F : β → Sl) (h : SB C c S X m fun k S1 m1 => ∃ (N : σ → List Sl) (mt mf : Rs (β × σ)) (g : β × σ → Rs τ), m1 = (if k = true then mt else mf).bd g ∧ (SE C a S1 X mt fun v S1 m1 => ∃ y s, m1 = .ok (y, s) ∧ Wk1 v (F y) ∧ Wk S1 (N s)) ∧ (SE C b S1 X mf fun v S1 m1 => ∃ y s, m1 = .ok (y, s) ∧ Wk1 v (F y) ∧ Wk S1 (N s)) ∧ ∀ r : β × σ, Q (F r.1) (N r.2) (g r)) : SE C (.ite c a b) S X m Q := by
  refine Gn.bind (rel := fun b c => c = b) ?_
  intro P k hk e he
  refine h P k (fun v S1 m' ⟨N, mt, mf, g, q0, q1, q2, q⟩ t e' hh he' => hk v S1 m' (fun t rt => ?_) t e' hh he') e he
  subst rt q0
  intro P k hk e he
  cases t with
  | true =>
    simp only [if_true]
    rcases SubES.run q1 he with h1 | ⟨y, s, t, e', h1, h2, h3, h4⟩ | ⟨c, e', h1, h2, h3⟩
    · rw [h1]; trivial
    · rw [h1, h2, R.st_ok, Rs.bd_ok]
      exact hk _ _ _ (q (y, s)) _ _ h3 h4
    · rw [h1, h2, R.st_exc]; exact ⟨e', rfl, h3⟩
  | false =>
    simp only [Bool.false_eq_true, if_false]
    rcases SubES.run q2 he with h1 | ⟨y, s, t, e', h1, h2, h3, h4⟩ | ⟨c, e', h1, h2, h3⟩
    · rw [h1]; trivial
    · rw [h1, h2, R.st_ok, Rs.bd_ok]
      exact hk _ _ _ (q (y, s)) _ _ h3 h4
    · rw [h1, h2, R.st_exc]; exact ⟨e', rfl, h3⟩
/-! comparisons as tests -/
theorem Gn.mono {α δ : Type} {rel : δ → α → Prop} {r : Env → R α} {Q Q' : δ → List Sl → Rs τ → Prop} (h : Gn rel r S X m Q) (k : ∀ d S' m', Q d S' m' → Q' d S' m') : Gn rel r S X m Q' :=
  fun P kk hk e he => h P kk (fun d S' m' q => hk d S' m' (k d S' m' q)) e he
theorem sb_cmp (h : SO C a S X m fun x S1 m1 => SO C b S1 X m1 fun y S2 m2 => A2 (fun t u => bl? (cmp q t u)) (look x S2) (look y S2) S2 X m2 fun v S3 m3 => ∃ k, dat v = some (PyData.bool k) ∧ Qb k S3 m3) : SB C (.cmp q a b) S X m Qb :=
  sb_of rfl (Gn.mono (se_cmp h) fun v S' m' ⟨k, hd, q⟩ => ⟨k, fun u hu => by rw [hu.bool hd]; rfl, q⟩)
/-- a run that takes nothing of what is computed -/
theorem Gn.run {α δ : Type} {rel : δ → α → Prop} {r : Env → R α} {Q : δ → List Sl → Rs Unit → Prop} (h : Gn rel r S X (.ok ()) Q) (hQ : ∀ d S' m', Q d S' m' → m' = .ok ()) {e : Env} (he : Ok S e) : ∃ d S' a e', Q d S' (.ok ()) ∧ rel d a ∧ Ok S' e' ∧ r e = .ok a e' := by
  classical
  have := h (fun _ r => ∃ e', r = .nx e') (fun a e' => if (∃ d S', Q d S' (.ok ()) ∧ rel d a ∧ Ok S' e') then .nx e' else .bad) (fun d S' m' q a e' ra he' => by
    have := hQ _ _ _ q
    subst this
    show ∃ e'', _
    rw [if_pos ⟨d, S', q, ra, he'⟩]
    exact ⟨_, rfl⟩) e he
  obtain ⟨e', h1⟩ := this
  cases q : r e with
  | ok a e2 =>
    rw [q] at h1
    simp only [R.st_ok] at h1
    by_cases c : ∃ d S', Q d S' (.ok ()) ∧ rel d a ∧ Ok S' e2
    · obtain ⟨d, S', q1, q2, q3⟩ := c
      exact ⟨d, S', a, e2, q1, q2, q3, rfl⟩
    · rw [if_neg c] at h1; cases h1
  | exc c e2 => rw [q] at h1; cases h1
  | bad => rw [q] at h1; cases h1
/-! chains -/
theorem se_chn (h : SO C a S X m fun x S1 m1 => SO C b S1 X m1 fun y S2 m2 => ∃ k1 k2 : Bool, full (look x S2) = true ∧ full (look y S2) = true ∧ (∀ t t', Has (look x S2) (some t) → Has (look y S2) (some t') → cmp q t t' = some k1) ∧
    (SO C c S2 X (.ok () : Rs Unit) fun z S3 m3 => m3 = .ok () ∧ S3 = S2 ∧ full (look z S3) = true ∧ ∀ t t', Has (look y S3) (some t) → Has (look z S3) (some t') → cmp q' t t' = some k2) ∧ Q (.f (.bool (k1 && k2))) S2 m2) : SE C (.chn q q' a b c) S X m Q := by
  refine Gn.bind (rel := OdHas) (Gn.mono h fun d S1 m1 q1 oa ra => Gn.bind (rel := OdHas) (Gn.mono q1 fun d2 S2 m2 q2 ob rb => ?_))
  intro P k hk e he
  obtain ⟨k1, k2, f1, f2, c1, c2, q3⟩ := q2
  obtain ⟨t, g1, h1⟩ := Od.get ra f1 he
  obtain ⟨u, g2, h2⟩ := Od.get rb f2 he
  simp only [g1, g2, c1 t u h1 h2]
  cases k1 with
  | false => exact hk _ _ _ q3 _ _ rfl he
  | true =>
    obtain ⟨z, S3, oz, e3, ⟨_, s3, f3, c3⟩, rz, he3, hr⟩ := Gn.run c2 (fun _ _ _ q => q.1) he
    subst s3
    obtain ⟨w, g3, h3⟩ := Od.get rz f3 he3
    obtain ⟨u', g4, h4⟩ := Od.get rb f2 he3
    simp only [hr, R.bind_ok, g3, g4, c3 u' w h4 h3, bl?, Option.map, lift_some, R.st_ok]
    exact hk _ _ _ q3 _ _ rfl he3
/-! lists, tuples -/
theorem sl_nil (k : Ql [] S m) : SL C .nil S X m Ql := Gn.pure rfl k
theorem sl_cons (h : SE C a S X m fun v S1 m1 => ∃ x, dat v = some x ∧ SL C es S1 X m1 fun xs S2 m2 => Ql (x :: xs) S2 m2) : SL C (.cons a es) S X m Ql := by
  refine Gn.bind (rel := fun v t => Has v (some t)) (Gn.mono h fun v S1 m1 ⟨x, hx, q⟩ t ht => ?_)
  have : (fun e => (frzR t e).bind fun x e => (evs (dens C es) e).bind fun xs e => R.ok (x :: xs) e) = fun e => (evs (dens C es) e).bind fun xs e => R.ok (x :: xs) e := by
    funext e
    simp only [frzR, (ht.dat hx).1, lift_some, R.bind_ok]
  show Gn _ (fun e => (frzR t e).bind fun x e => (evs (dens C es) e).bind fun xs e => R.ok (x :: xs) e) _ _ _ _
  rw [this]
  exact Gn.bind (rel := fun b c => c = b) (Gn.mono q fun xs S2 m2 q2 ys e => Gn.pure (by rw [e]) q2)
theorem se_lst (h : SL C es S X m fun xs S1 m1 => xs.length ≤ LINE ∧ Q (.l xs) S1 m1) : SE C (.lst es) S X m Q := by
  refine Gn.bind (rel := fun b c => c = b) (Gn.mono h fun xs S1 m1 ⟨hl, q⟩ ys e => ?_)
  subst e
  have : (fun e => if ys.length ≤ LINE then R.ok (T.l ys) e else .bad) = fun e => R.ok (T.l ys) e := by funext e; rw [if_pos hl]
  rw [this]
  exact Gn.pure (d := Sl.l ys) rfl q
theorem se_tup (h : SL C es S X m fun xs S1 m1 => xs.length ≤ LINE ∧ Q (.f (.tuple xs)) S1 m1) : SE C (.tup es) S X m Q := by
  refine Gn.bind (rel := fun b c => c = b) (Gn.mono h fun xs S1 m1 ⟨hl, q⟩ ys e => ?_)
  subst e
  have : (fun e => if ys.length ≤ LINE then R.ok (T.d (.tuple ys)) e else .bad) = fun e => R.ok (T.d (.tuple ys)) e := by funext e; rw [if_pos hl]
  rw [this]
  exact Gn.pure (d := Sl.f (.tuple ys)) rfl q
theorem se_dnew (q : Q (.m []) S m) : SE C .dnew S X m Q := Gn.pure (show Has (.m []) (some (T.m [])) from rfl) q
/-! built-in functions -/
theorem sa_nil (k : Qa [] S m) : SA C .nil S X m Qa := Gn.pure (d := ([] : List Od)) trivial k
theorem sa_cons (h : SO C a S X m fun x S1 m1 => SA C es S1 X m1 fun xs S2 m2 => Qa (x :: xs) S2 m2) : SA C (.cons a es) S X m Qa := by
  refine Gn.bind (rel := OdHas) (Gn.mono h fun x S1 m1 q ox rx => Gn.bind (rel := OdsHas) (Gn.mono q fun xs S2 m2 q2 oxs rxs => Gn.pure (d := x :: xs) (show OdsHas (x :: xs) (ox :: oxs) from ⟨rx, rxs⟩) q2))
def HasL : List Sl → List T → Prop
  | [], [] => True
  | v :: vs, t :: ts => Has v (some t) ∧ HasL vs ts
  | _, _ => False
def fullL (vs : List Sl) : Bool := vs.all full
theorem gets_of : ∀ {xs : List Od} {ys : List Opd} {S : List Sl} {e : Env}, OdsHas xs ys → fullL (xs.map (look · S)) = true → Ok S e → ∃ ts, gets ys e = some ts ∧ HasL (xs.map (look · S)) ts
  | [], [], _, _, _, _, _ => ⟨[], rfl, trivial⟩
  | [], _ :: _, _, _, h, _, _ => by cases h
  | _ :: _, [], _, _, h, _, _ => by cases h
  | x :: xs, y :: ys, S, e, h, hf, he => by
    simp only [List.map_cons, fullL, List.all_cons, Bool.and_eq_true] at hf
    obtain ⟨t, g, k⟩ := Od.get h.1 hf.1 he
    obtain ⟨ts, g2, k2⟩ := gets_of h.2 hf.2 he
    exact ⟨t :: ts, by simp only [gets, g, g2], k, k2⟩
/-- a step on values -/
def AN (f : List T → Option T) (vs : List Sl) (S X : List Sl) (m : Rs τ) (Q : Sl → List Sl → Rs τ → Prop) : Prop :=
  fullL vs = true ∧ ∀ (P : τ → SR → Prop) (k : T → Env → SR), (∀ d S' m', Q d S' m' → ∀ a e', Has d (some a) → Ok S' e' → Sat m' P X (k a e')) → ∀ ts, HasL vs ts → ∀ e, Ok S e → Sat m P X ((lift (f ts) e).st k)
theorem AN.p {f : List T → Option T} {vs : List Sl} {u : Sl} (hv : fullL vs = true) (h : ∀ ts, HasL vs ts → ∃ r, f ts = some r ∧ Has u (some r)) (k : Q u S m) : AN f vs S X m Q := by
  refine ⟨hv, fun P kk hk ts ht e he => ?_⟩
  obtain ⟨r, h1, h2⟩ := h ts ht
  rw [h1, lift_some, R.st_ok]
  exact hk _ _ _ k _ _ h2 he
theorem AN.mo {β : Type} {f : List T → Option T} {vs : List Sl} {mo : Rs β} {F : β → Sl} {g : β → Rs τ} (hv : fullL vs = true) (h : ∀ ts, HasL vs ts → mo = .bad ∨ ∃ y, mo = .ok y ∧ ∃ r, f ts = some r ∧ Has (F y) (some r)) (k : ∀ y, Q (F y) S (g y)) : AN f vs S X (mo.bd g) Q := by
  refine ⟨hv, fun P kk hk ts ht e he => ?_⟩
  rcases h ts ht with h | ⟨y, h0, r, h1, h2⟩
  · rw [h]; trivial
  · rw [h0, Rs.bd_ok, h1, lift_some, R.st_ok]
    exact hk _ _ _ (k y) _ _ h2 he
theorem se_fn {f : Fn} (h : SA C es S X m fun xs S1 m1 => AN (fn f) (xs.map (look · S1)) S1 X m1 Q) : SE C (.fn f es) S X m Q := by
  refine Gn.bind (rel := OdsHas) (Gn.mono h fun xs S1 m1 ⟨hf, q⟩ oxs rxs => ?_)
  intro P k hk e he
  obtain ⟨ts, g, kt⟩ := gets_of rxs hf he
  simp only [g, Option.bind]
  exact q P k hk ts kt e he
theorem se_isi {ts : List Ty} (hl : ts.length ≤ 16) (h : SO C a S X m fun x S1 m1 => ∃ k : Bool, full (look x S1) = true ∧ (∀ t, Has (look x S1) (some t) → (ts.any fun y => isTy y t) = k) ∧ Q (.f (.bool k)) S1 m1) : SE C (.isi a ts) S X m Q := by
  have e0 : (den C (.isi a ts)).v = fun e => ((den C a).opd e).bind fun x e => lift ((x.get e).map fun t => .d (.bool (ts.any fun y => isTy y t))) e := by funext e; simp only [den, Dn.of, hl, if_true]
  show Gn _ (den C (.isi a ts)).v _ _ _ _
  rw [e0]
  refine Gn.bind (rel := OdHas) (Gn.mono h fun x S1 m1 ⟨k, hf, hk1, q⟩ ox rx => ?_)
  intro P kk hk e he
  obtain ⟨t, g, kt⟩ := Od.get rx hf he
  simp only [g, Option.map, lift_some, R.st_ok, hk1 t kt]
  exact hk _ _ _ q _ _ rfl he
/-! slices -/
variable {lo hi : Exs} {Qp : Option Int → List Sl → Rs τ → Prop}
abbrev SP1 {τ : Type} (C : Orc) (es : Exs) (S X : List Sl) (m : Rs τ) (Q : Option Int → List Sl → Rs τ → Prop) : Prop := Gn (fun b c => c = b) (prt (dens C es)) S X m Q
theorem sp_nil (k : Qp none S m) : SP1 C .nil S X m Qp := Gn.pure rfl k
theorem Has.int {t : T} {n : Int} (h : Has v (some t)) (hd : Sh.dat v = some (PyData.int n)) : t = .d (.int n) := by
  have h1 := (h.dat hd).1
  cases t <;> simp [T.frz?] at h1
  rw [h1]
theorem sp_cons (h : SE C a S X m fun v S1 m1 => ∃ n : Int, dat v = some (.int n) ∧ Qp (some n) S1 m1) : SP1 C (.cons a .nil) S X m Qp := by
  refine Gn.bind (rel := fun v t => Has v (some t)) (Gn.mono h fun v S1 m1 ⟨n, hd, q⟩ t ht => ?_)
  have := ht.int hd
  subst this
  exact Gn.pure rfl q
theorem se_sl (h : SO C a S X m fun x S1 m1 => SP1 C lo S1 X m1 fun l S2 m2 => SP1 C hi S2 X m2 fun r S3 m3 => full (look x S3) = true ∧ (∃ u, (∀ t, Has (look x S3) (some t) → ∃ z, slice t l r = some z ∧ Has u (some z)) ∧ Q u S3 m3)) : SE C (.sl a lo hi) S X m Q := by
  refine Gn.bind (rel := OdHas) (Gn.mono h fun x S1 m1 q1 ox rx => Gn.bind (rel := fun b c => c = b) (Gn.mono q1 fun l S2 m2 q2 l' e => Gn.bind (rel := fun b c => c = b) (Gn.mono q2 fun r S3 m3 ⟨hf, u, hu, q⟩ r' e2 => ?_)))
  subst e e2
  intro P kk hk e he
  obtain ⟨t, g, kt⟩ := Od.get rx hf he
  obtain ⟨z, h1, h2⟩ := hu t kt
  simp only [g, Option.bind, h1, lift_some, R.st_ok]
  exact hk _ _ _ q _ _ h2 he
end
end Mv.Sh
end
section
set_option Elab.async false
set_option linter.all false
set_option maxHeartbeats 4000000
set_option maxRecDepth 10000
/-! Sh: methods, calls, loops, comprehensions, statements, defs. -/
namespace Mv.Sh
open PySem L2 PySem.W
open Dt (D)

section
variable {τ : Type} {C : Orc} {S S' X : List Sl} {m : Rs τ} {a b c : Ex} {i : Nat} {v w : Sl} {x y : PyData} {xs ys : List PyData} {Q : Sl → List Sl → Rs τ → Prop} {q q' : COp} {o : BOp} {es : Exs}
  {Qb : Bool → List Sl → Rs τ → Prop} {Qa : List Od → List Sl → Rs τ → Prop} {Ql : List PyData → List Sl → Rs τ → Prop} {Qo : Od → List Sl → Rs τ → Prop} {s : Src}
/-! ### sources -/
theorem sc_seq (h : SE C a S X m fun v S1 m1 => ∃ xs, lst v = some xs ∧ Ql xs S1 m1) : SC C (.seq a) S X m Ql := by
  refine Gn.bind (rel := fun v t => Has v (some t)) (Gn.mono h fun v S1 m1 ⟨xs, hx, q⟩ t ht => ?_)
  have : (fun e => lift t.list? e : Env → R (List PyData)) = fun e => .ok xs e := by funext e; rw [ht.list? hx]; rfl
  show Gn _ (fun e => lift t.list? e) _ _ _ _
  rw [this]
  exact Gn.pure rfl q
theorem sc_rev (h : SE C a S X m fun v S1 m1 => ∃ xs, lst v = some xs ∧ Ql xs.reverse S1 m1) : SC C (.rev a) S X m Ql := by
  refine Gn.bind (rel := fun v t => Has v (some t)) (Gn.mono h fun v S1 m1 ⟨xs, hx, q⟩ t ht => ?_)
  have : (fun e => lift (t.list?.map List.reverse) e : Env → R (List PyData)) = fun e => .ok xs.reverse e := by funext e; rw [ht.list? hx]; rfl
  show Gn _ (fun e => lift (t.list?.map List.reverse) e) _ _ _ _
  rw [this]
  exact Gn.pure rfl q
theorem sc_tup (h : SE C a S X m fun v S1 m1 => ∃ xs, dat v = some (.tuple xs) ∧ Ql xs S1 m1) : SC C (.tup a) S X m Ql := by
  refine Gn.bind (rel := fun v t => Has v (some t)) (Gn.mono h fun v S1 m1 ⟨xs, hx, q⟩ t ht => ?_)
  have h1 := (ht.dat hx).1
  have : t = .d (.tuple xs) := by
    cases t <;> simp [T.frz?] at h1
    rw [h1]
  subst this
  exact Gn.pure rfl q
theorem sc_str (h : SE C a S X m fun v S1 m1 => ∃ z, dat v = some (.str z) ∧ Ql (chars z) S1 m1) : SC C (.str a) S X m Ql := by
  refine Gn.bind (rel := fun v t => Has v (some t)) (Gn.mono h fun v S1 m1 ⟨z, hx, q⟩ t ht => ?_)
  have h1 := (ht.dat hx).1
  have : t = .d (.str z) := by
    cases t <;> simp [T.frz?] at h1
    rw [h1]
  subst this
  exact Gn.pure rfl q
/-- whole numbers from a on, ahead of b -/
@[irreducible] def rng (a b : Int) : Rs (List Int) :=
  if -(2 ^ 62) ≤ a ∧ a < 2 ^ 62 ∧ -(2 ^ 62) ≤ b ∧ b < 2 ^ 62 ∧ (b - a).toNat ≤ LINE then .ok ((List.range (b - a).toNat).map fun (k : Nat) => a + (k : Int)) else .bad
theorem rng_i {a b : Int} : rng a b = .bad ∨ ∃ ns, rng a b = .ok ns ∧ rngI (.d (.int a)) (.d (.int b)) = some (ns.map D) := by
  unfold rng rngI
  split
  · rename_i h
    refine .inr ⟨_, rfl, ?_⟩
    simp only [h, and_self, if_true, List.map_map]
    rfl
  · exact .inl rfl
theorem rng_st {a b : Int} {g : List Int → Rs τ} {β : Type} {k : List PyData → Env → SR} {P : τ → SR → Prop} {e : Env} (h : ∀ ns, Sat (g ns) P X (k (ns.map D) e)) : Sat ((rng a b).bd g) P X ((lift (rngI (.d (.int a)) (.d (.int b))) e).st k) := by
  rcases rng_i (a := a) (b := b) with h1 | ⟨ns, h1, h2⟩
  · rw [h1]; trivial
  · rw [h1, h2]; exact h ns
theorem sc_rng1 (h : SE C a S X m fun v S1 m1 => ∃ (n : Int) (g : List Int → Rs τ), dat v = some (.int n) ∧ m1 = (rng 0 n).bd g ∧ ∀ ns, Ql (ns.map D) S1 (g ns)) : SC C (.rng1 a) S X m Ql := by
  refine Gn.bind (rel := fun v t => Has v (some t)) (Gn.mono h fun v S1 m1 ⟨n, g, hx, e1, q⟩ t ht => ?_)
  subst e1
  rw [ht.int hx]
  intro P kk hk e he
  exact rng_st (β := Unit) fun ns => hk _ _ _ (q ns) _ _ rfl he
theorem sc_rng2 (h : SE C a S X m fun v S1 m1 => ∃ lo : Int, dat v = some (.int lo) ∧ SE C b S1 X m1 fun v S1 m1 => ∃ (n : Int) (g : List Int → Rs τ), dat v = some (.int n) ∧ m1 = (rng lo n).bd g ∧ ∀ ns, Ql (ns.map D) S1 (g ns)) : SC C (.rng2 a b) S X m Ql := by
  refine Gn.bind (rel := fun v t => Has v (some t)) (Gn.mono h fun v S1 m1 ⟨lo, hx, q1⟩ t ht => Gn.bind (rel := fun v t => Has v (some t)) (Gn.mono q1 fun v2 S2 m2 ⟨n, g, hx2, e2, q⟩ t2 ht2 => ?_))
  subst e2
  rw [ht.int hx, ht2.int hx2]
  intro P kk hk e he
  exact rng_st (β := Unit) fun ns => hk _ _ _ (q ns) _ _ rfl he
theorem se_lrng1 (h : SE C a S X m fun v S1 m1 => ∃ (n : Int) (g : List Int → Rs τ), dat v = some (.int n) ∧ m1 = (rng 0 n).bd g ∧ ∀ ns : List Int, Q (.l (ns.map D)) S1 (g ns)) : SE C (.lrng1 a) S X m Q := by
  refine Gn.bind (rel := fun v t => Has v (some t)) (Gn.mono h fun v S1 m1 ⟨n, g, hx, e1, q⟩ t ht => ?_)
  subst e1
  rw [ht.int hx]
  intro P kk hk e he
  rcases rng_i (a := 0) (b := n) with h1 | ⟨ns, h1, h2⟩
  · rw [h1]; trivial
  · rw [h1, h2]; exact hk _ _ _ (q ns) _ _ rfl he
theorem se_lrng2 (h : SE C a S X m fun v S1 m1 => ∃ lo : Int, dat v = some (.int lo) ∧ SE C b S1 X m1 fun v S1 m1 => ∃ (n : Int) (g : List Int → Rs τ), dat v = some (.int n) ∧ m1 = (rng lo n).bd g ∧ ∀ ns : List Int, Q (.l (ns.map D)) S1 (g ns)) : SE C (.lrng2 a b) S X m Q := by
  refine Gn.bind (rel := fun v t => Has v (some t)) (Gn.mono h fun v S1 m1 ⟨lo, hx, q1⟩ t ht => Gn.bind (rel := fun v t => Has v (some t)) (Gn.mono q1 fun v2 S2 m2 ⟨n, g, hx2, e2, q⟩ t2 ht2 => ?_))
  subst e2
  rw [ht.int hx, ht2.int hx2]
  intro P kk hk e he
  rcases rng_i (a := lo) (b := n) with h1 | ⟨ns, h1, h2⟩
  · rw [h1]; trivial
  · rw [h1, h2]; exact hk _ _ _ (q ns) _ _ rfl he
theorem se_lrev (h : SO C a S X m fun x S1 m1 => ∃ xs, full (look x S1) = true ∧ lst (look x S1) = some xs ∧ Q (.l xs.reverse) S1 m1) : SE C (.lrev a) S X m Q := by
  refine Gn.bind (rel := OdHas) (Gn.mono h fun x S1 m1 ⟨xs, hf, hl, q⟩ ox rx => ?_)
  intro P kk hk e he
  obtain ⟨t, g, kt⟩ := Od.get rx hf he
  simp only [g, Option.bind, kt.list? hl, Option.map, lift_some, R.st_ok]
  exact hk _ _ _ q _ _ rfl he
/-! ### methods -/
def takesS (mt : Mt) (v : Sl) : Prop := ∀ t, Has v (some t) → mt.takes t = true
theorem se_meth {mt : Mt} (hn : (dens C es).length = mt.n) (h : SO C a S X m fun x S1 m1 => full (look x S1) = true ∧ takesS mt (look x S1) ∧ SA C es S1 X m1 fun ys S2 m2 => AN (fun ts => match ts with | t :: r => meth mt t r | [] => none) (look x S2 :: ys.map (look · S2)) S2 X m2 Q) : SE C (.meth mt a es) S X m Q := by
  have e0 : (den C (.meth mt a es)).v = fun e => ((den C a).opd e).bind fun x e => if (x.get e).any mt.takes = true then (opds (dens C es) e).bind fun ys e => match x.get e, gets ys e with
      | some t, some ts => lift (meth mt t ts) e
      | _, _ => .bad
    else .bad := by funext e; simp only [den, Dn.of, hn, ne_eq, not_true_eq_false, if_false] <;> rfl
  show Gn _ (den C (.meth mt a es)).v _ _ _ _
  rw [e0]
  refine Gn.bind (rel := OdHas) (Gn.mono h fun x S1 m1 ⟨hf, hm, q1⟩ ox rx => ?_)
  intro P kk hk e he
  obtain ⟨t, g, kt⟩ := Od.get rx hf he
  simp only [g, Option.any, hm t kt, if_true]
  refine Gn.bind (rel := OdsHas) (Gn.mono q1 fun ys S2 m2 ⟨hfl, q2⟩ oys rys => ?_) P kk hk e he
  intro P kk hk e he
  simp only [fullL, List.all_cons, Bool.and_eq_true] at hfl
  obtain ⟨t2, g2, kt2⟩ := Od.get rx hfl.1 he
  obtain ⟨ts, g3, kts⟩ := gets_of rys hfl.2 he
  simp only [g2, g3]
  exact q2 P kk hk (t2 :: ts) ⟨kt2, kts⟩ e he
/-- a step on an owned list -/
theorem se_mu {mu : Mu} (h1 : S[i]? = some (.l xs)) (h : SA C es S X m fun ys S1 m1 => ∃ xs', S1[i]? = some (.l xs') ∧ fullL (ys.map (look · S1)) = true ∧ ∃ (β : Type) (mo : Rs β) (g : β → Rs τ) (ret : β → PyData) (F : β → List PyData), m1 = mo.bd g ∧
    (∀ ts, HasL (ys.map (look · S1)) ts → mo = .bad ∨ ∃ y, mo = .ok y ∧ chg mu (.l xs') ts = some (ret y, .l (F y))) ∧ ∀ y, Q (.f (ret y)) (S1.set i (.l (F y))) (g y)) : SE C (.mu mu i es) S X m Q := by
  intro P kk hk e he
  obtain ⟨t, g1, k1⟩ := he.at_ (i := 0) h1
  cases k1
  have e0 : (den C (.mu mu i es)).v e = (opds (dens C es) e).bind fun ys e => match gets ys e, (e[i]?).join with
      | some ts, some t => match chg mu t ts with
        | some (x, t') => .ok (.d x) (e.set i (some t'))
        | none => .bad
      | _, _ => .bad := by simp only [den, Dn.of, g1, Option.join_some, Option.any, T.own, if_true] <;> rfl
  rw [e0]
  refine Gn.bind (rel := OdsHas) (rel' := fun v t => Has v (some t)) (Gn.mono h fun ys S1 m1 ⟨xs', h2, hfl, β, mo, g, ret, F, em, hs, q⟩ oys rys => ?_) P kk hk e he
  subst em
  intro P kk hk e he
  obtain ⟨ts, g2, kts⟩ := gets_of rys hfl he
  obtain ⟨t2, g3, k3⟩ := he.at_ (i := 0) h2
  cases k3
  simp only [g2, g3, Option.join_some]
  rcases hs ts kts with hb | ⟨y, hy, hc⟩
  · rw [hb]; trivial
  · rw [hy, Rs.bd_ok]
    simp only [hc, R.st_ok]
    exact hk _ _ _ (q y) _ _ rfl (he.set rfl)
/-! ### calls -/
/-- what a call comes to: F the value, the arguments behind it; Xo the arguments where it raises -/
def CSat {α : Type} (mo : Rs α) (F : α → Sl × List Sl) (Xo : List Sl) (r : CR) : Prop :=
  match mo with
  | .ok x => ∃ t os, r = .ok t os ∧ Has (F x).1 (some t) ∧ Ok (F x).2 os
  | .exc c => ∃ os, r = .exc c os ∧ Ok Xo os
  | .bad => True
def idx : List Od → List Nat
  | [] => []
  | .r i :: r => i :: idx r
  | .w _ :: r => idx r
/-- the slots behind a call -/
def giveS : List Od → List Sl → List Sl → List Sl
  | .r i :: r, o :: os, S => giveS r os (match (S[i]?).getD .any with
    | .f _ => S
    | _ => S.set i o)
  | .w _ :: r, _ :: os, S => giveS r os S
  | _, _, S => S
inductive GvOk (S : List Sl) : List Od → List Sl → Prop
  | n : GvOk S [] []
  | w {v o r os} (h : full v = true) (k : GvOk S r os) : GvOk S (.w v :: r) (o :: os)
  | f {i x o r os} (h : S[i]? = some (.f x)) (k : GvOk S r os) : GvOk S (.r i :: r) (o :: os)
  | d {i x o r os} (h : S[i]? = some (.d x)) (hw : Wk1 (.f x) o) (hi : i ∉ idx r) (k : GvOk S r os) : GvOk S (.r i :: r) (o :: os)
  | l {i x o r os} (h : S[i]? = some (.l x)) (hi : i ∉ idx r) (k : GvOk S r os) : GvOk S (.r i :: r) (o :: os)
  | m {i x o r os} (h : S[i]? = some (.m x)) (hi : i ∉ idx r) (k : GvOk S r os) : GvOk S (.r i :: r) (o :: os)
  | s {i x o r os} (h : S[i]? = some (.s x)) (hi : i ∉ idx r) (k : GvOk S r os) : GvOk S (.r i :: r) (o :: os)
theorem GvOk.cong {S S2 : List Sl} : ∀ {ods : List Od} {os : List Sl}, GvOk S ods os → (∀ i ∈ idx ods, S2[i]? = S[i]?) → GvOk S2 ods os := by
  intro ods os h
  induction h with
  | n => intro _; exact .n
  | w h k ih => intro hs; exact .w h (ih hs)
  | f h k ih => intro hs; exact .f (by rw [hs _ (by simp [idx])]; exact h) (ih fun i hi => hs i (by simp [idx, hi]))
  | d h hw hn k ih => intro hs; exact .d (by rw [hs _ (by simp [idx])]; exact h) hw hn (ih fun i hi => hs i (by simp [idx, hi]))
  | l h hn k ih => intro hs; exact .l (by rw [hs _ (by simp [idx])]; exact h) hn (ih fun i hi => hs i (by simp [idx, hi]))
  | m h hn k ih => intro hs; exact .m (by rw [hs _ (by simp [idx])]; exact h) hn (ih fun i hi => hs i (by simp [idx, hi]))
  | s h hn k ih => intro hs; exact .s (by rw [hs _ (by simp [idx])]; exact h) hn (ih fun i hi => hs i (by simp [idx, hi]))
theorem giveS_set {i : Nat} {o : Sl} : ∀ {ods : List Od} {os S : List Sl}, i ∉ idx ods → giveS ods os (S.set i o) = (giveS ods os S).set i o
  | [], _, _, _ => rfl
  | .w _ :: r, [], _, _ => rfl
  | .r _ :: r, [], _, _ => rfl
  | .w _ :: r, o' :: os, S, h => by
    have h' : i ∉ idx r := h
    show giveS r os _ = (giveS r os S).set i o
    exact giveS_set h'
  | .r j :: r, o' :: os, S, h => by
    simp only [idx, List.mem_cons, not_or] at h
    show giveS r os _ = (giveS r os _).set i o
    have e : (S.set i o)[j]? = S[j]? := List.getElem?_set_ne h.1
    rw [e, ← giveS_set h.2]
    congr 1
    cases hh : (S[j]?).getD .any <;> first | rfl | exact (List.set_comm _ _ h.1)
theorem give_set {i : Nat} {o : Option T} : ∀ {xs : List Opd} {os : List (Option T)} {e : Env}, (∀ x ∈ xs, x ≠ .r i) → give xs os (e.set i o) = (give xs os e).set i o
  | [], _, _, _ => by simp [give]
  | .w _ :: r, [], _, _ => by simp [give]
  | .r _ :: r, [], _, _ => by simp [give]
  | .w _ :: r, o' :: os, e, h => by
    simp only [give]
    exact give_set fun x hx => h x (List.mem_cons_of_mem _ hx)
  | .r j :: r, o' :: os, e, h => by
    have hj : i ≠ j := fun e => h (.r j) List.mem_cons_self (by rw [e])
    simp only [give]
    have e1 : (e.set i o)[j]? = e[j]? := List.getElem?_set_ne hj
    rw [e1, ← give_set fun x hx => h x (List.mem_cons_of_mem _ hx)]
    congr 1
    cases (e[j]?).join with
    | none => exact List.set_comm _ _ hj
    | some _ => rfl
theorem idx_mem {i : Nat} : ∀ {xs : List Od} {ys : List Opd}, OdsHas xs ys → i ∉ idx xs → ∀ y ∈ ys, y ≠ .r i
  | [], [], _, _, y, hy, _ => by cases hy
  | [], _ :: _, h, _, _, _, _ => by cases h
  | _ :: _, [], h, _, _, _, _ => by cases h
  | .r j :: xs, z :: ys, h, hi, y, hy, e => by
    simp only [idx, List.mem_cons, not_or] at hi
    rcases List.mem_cons.mp hy with q | q
    · have h1 : z = .r j := h.1
      rw [q, h1] at e
      cases e
      exact hi.1 rfl
    · exact idx_mem h.2 hi.2 y q e
  | .w v :: xs, z :: ys, h, hi, y, hy, e => by
    rcases List.mem_cons.mp hy with q | q
    · obtain ⟨t, ht, _⟩ := h.1
      rw [q, ht] at e; cases e
    · exact idx_mem (i := i) h.2 hi y q e
theorem fetch_of {outsd : List Sl} : ∀ {ods : List Od} {xs : List Opd} {S S0 : List Sl} {e : Env} {os : List Sl}, OdsHas ods xs → GvOk S ods os → Ok S e → ∃ (ts : List T) (e1 : Env), fetch xs e = some (ts, e1) ∧ HasL (ods.map (look · S)) ts ∧ (∀ j : Nat, (e[j]?).join = none → (e1[j]?).join = none) ∧ (∀ (j : Nat) (x : PyData), e[j]? = some (some (T.d x)) → e1[j]? = some (some (T.d x))) ∧
    ∀ outs, Ok os outs → Ok (giveS ods os S) (give xs outs e1)
  | [], [], S, _, e, [], _, _, he => ⟨[], e, rfl, trivial, fun _ h => h, fun _ _ h => h, fun outs h => by cases outs <;> simpa [give, giveS] using he⟩
  | [], [], S, _, e, _ :: _, _, hg, _ => by cases hg
  | [], _ :: _, _, _, _, _, h, _, _ => by cases h
  | _ :: _, [], _, _, _, _, h, _, _ => by cases h
  | .w v :: r, y :: ys, S, S0, e, [], h, hg, he => by cases hg
  | .r i :: r, y :: ys, S, S0, e, [], h, hg, he => by cases hg
  | .w v :: r, y :: ys, S, S0, e, o :: os, h, hg, he => by
    cases hg with
    | w hf k =>
      obtain ⟨t, rfl, ht⟩ := h.1
      obtain ⟨ts, e1, f1, f2, f3, f3', f4⟩ := fetch_of (S0 := S0) (outsd := outsd) h.2 k he
      refine ⟨t :: ts, e1, by simp only [fetch, f1, Option.map], ⟨ht, f2⟩, f3, f3', fun outs ho => ?_⟩
      cases outs with
      | nil => cases ho
      | cons u outs => exact f4 outs ho.2
  | .r i :: r, y :: ys, S, S0, e, o :: os, h, hg, he => by
    have hy : y = .r i := h.1
    subst hy
    -- taken out
    have taken : ∀ (v : Sl) (t : T), S[i]? = some v → Has v (some t) → (∀ x, v ≠ .f x) → (∀ x, t ≠ .d x) → e[i]? = some (some t) → i ∉ idx r → GvOk S r os →
        ∃ (ts : List T) (e1 : Env), fetch (.r i :: ys) e = some (ts, e1) ∧ HasL ((Od.r i :: r).map (look · S)) ts ∧ (∀ j : Nat, (e[j]?).join = none → (e1[j]?).join = none) ∧ (∀ (j : Nat) (x : PyData), e[j]? = some (some (T.d x)) → e1[j]? = some (some (T.d x))) ∧ ∀ outs, Ok (o :: os) outs → Ok (giveS (.r i :: r) (o :: os) S) (give (.r i :: ys) outs e1) := by
      intro v t hv ht hnf hnd hi hni hk
      have hil : i < e.length := (List.getElem?_eq_some_iff.mp hi).1
      have hlen := he.len
      have k2 : GvOk (S.set i .any) r os := hk.cong fun j hj => List.getElem?_set_ne (fun (q : i = j) => hni (by rw [q]; exact hj))
      obtain ⟨ts, e1, f1, f2, f3, f3', f4⟩ := fetch_of (S0 := S0) (outsd := outsd) h.2 k2 (he.set (i := i) (v := .any) (t := none) trivial)
      have hfe : fetch (.r i :: ys) e = some (t :: ts, e1) := by
        simp only [fetch, hi, Option.join_some]
        cases t with
        | d x => exact absurd rfl (hnd x)
        | _ => simp only [f1, Option.map]
      refine ⟨t :: ts, e1, hfe, ⟨?_, ?_⟩, fun j hj => ?_, fun j x hj => ?_, fun outs ho => ?_⟩
      · show Has ((S[i]?).getD .any) _
        rw [hv]; exact ht
      · have : r.map (look · (S.set i .any)) = r.map (look · S) := by
          apply List.map_congr_left
          intro z hz
          cases z with
          | w _ => rfl
          | r j =>
            have hj : j ≠ i := by
              intro q
              subst q
              have : ∀ {r : List Od}, Od.r j ∈ r → j ∈ idx r := by
                intro r
                induction r with
                | nil => intro h; cases h
                | cons z r ih =>
                  intro h
                  rcases List.mem_cons.mp h with q | q
                  · subst q; simp [idx]
                  · cases z <;> simp [idx, ih q]
              exact hni (this hz)
            simp only [look, List.getElem?_set_ne (Ne.symm hj)]
        rw [this] at f2
        exact f2
      · by_cases q : j = i
        · subst q
          apply f3
          rw [List.getElem?_set_self hil]; rfl
        · apply f3
          rw [List.getElem?_set_ne (Ne.symm q)]; exact hj
      · have q : j ≠ i := by
          intro q
          subst q
          rw [hi] at hj; cases hj
          exact hnd x rfl
        apply f3'
        rw [List.getElem?_set_ne (Ne.symm q)]; exact hj
      · cases outs with
        | nil => cases ho
        | cons u outs =>
          have e1i : (e1[i]?).join = none := f3 i (by rw [List.getElem?_set_self hil]; rfl)
          have gg : give (.r i :: ys) (u :: outs) e1 = give ys outs (e1.set i u) := by simp only [give, e1i]
          have gs : giveS (.r i :: r) (o :: os) S = giveS r os (S.set i o) := by
            simp only [giveS, hv, Option.getD_some]
            first | done | (cases v <;> first | rfl | exact absurd rfl (hnf _))
          rw [gg, gs, give_set (idx_mem h.2 hni)]
          have := (f4 outs ho.2).set (i := i) ho.1
          rw [← giveS_set hni, List.set_set] at this
          exact this
    -- data that stays
    have stays : ∀ (v : Sl) (x : PyData), S[i]? = some v → Has v (some (.d x)) → e[i]? = some (some (.d x)) → ((∃ z, v = .f z) ∨ ((∀ z, v ≠ .f z) ∧ Wk1 (.f x) o ∧ i ∉ idx r)) → GvOk S r os →
        ∃ (ts : List T) (e1 : Env), fetch (.r i :: ys) e = some (ts, e1) ∧ HasL ((Od.r i :: r).map (look · S)) ts ∧ (∀ j : Nat, (e[j]?).join = none → (e1[j]?).join = none) ∧ (∀ (j : Nat) (x : PyData), e[j]? = some (some (T.d x)) → e1[j]? = some (some (T.d x))) ∧ ∀ outs, Ok (o :: os) outs → Ok (giveS (.r i :: r) (o :: os) S) (give (.r i :: ys) outs e1) := by
      intro v x hv ht hi hor hk
      obtain ⟨ts, e1, f1, f2, f3, f3', f4⟩ := fetch_of (S0 := S0) (outsd := outsd) h.2 hk he
      have e1i := f3' i x hi
      refine ⟨.d x :: ts, e1, by simp only [fetch, hi, Option.join_some, f1, Option.map], ⟨by show Has ((S[i]?).getD .any) _; rw [hv]; exact ht, f2⟩, f3, f3', fun outs ho => ?_⟩
      cases outs with
      | nil => cases ho
      | cons u outs =>
        have gg : give (.r i :: ys) (u :: outs) e1 = give ys outs e1 := by simp only [give, e1i, Option.join_some]
        rw [gg]
        rcases hor with ⟨z, rfl⟩ | ⟨hnf, hw, hni⟩
        · have gs : giveS (.r i :: r) (o :: os) S = giveS r os S := by simp only [giveS, hv, Option.getD_some]
          rw [gs]; exact f4 outs ho.2
        · have gs : giveS (.r i :: r) (o :: os) S = giveS r os (S.set i o) := by
            simp only [giveS, hv, Option.getD_some]
            first | done | (cases v <;> first | rfl | exact absurd rfl (hnf _))
          rw [gs, giveS_set hni]
          have := (f4 outs ho.2).set (i := i) (v := o) (t := some (.d x)) (hw _ rfl)
          rw [← give_set (idx_mem h.2 hni)] at this
          have hs : e1.set i (some (.d x)) = e1 := by
            have hl := (List.getElem?_eq_some_iff.mp e1i).1
            have h4 := (List.getElem?_eq_some_iff.mp e1i).2
            rw [← h4]; exact List.set_getElem_self hl
          rw [hs] at this
          exact this
    cases hg with
    | f hs k =>
      obtain ⟨t, h1, h2⟩ := he.at_ (i := 0) hs
      cases h2
      exact stays _ _ hs rfl h1 (.inl ⟨_, rfl⟩) k
    | d hs hw hni k =>
      obtain ⟨t, h1, h2⟩ := he.at_ (i := 0) hs
      rcases h2 with h2 | ⟨zs, e2, h2⟩
      · subst h2
        exact stays _ _ hs (.inl rfl) h1 (.inr ⟨(by intro z; nofun), hw, hni⟩) k
      · subst e2 h2
        exact taken _ _ hs (.inr ⟨zs, rfl, rfl⟩) (by intro z; nofun) (by intro z; nofun) h1 hni k
    | l hs hni k =>
      obtain ⟨t, h1, h2⟩ := he.at_ (i := 0) hs
      cases h2
      exact taken _ _ hs rfl (by intro z; nofun) (by intro z; nofun) h1 hni k
    | m hs hni k =>
      obtain ⟨t, h1, h2⟩ := he.at_ (i := 0) hs
      cases h2
      exact taken _ _ hs rfl (by intro z; nofun) (by intro z; nofun) h1 hni k
    | s hs hni k =>
      obtain ⟨t, h1, h2⟩ := he.at_ (i := 0) hs
      cases h2
      exact taken _ _ hs rfl (by intro z; nofun) (by intro z; nofun) h1 hni k
theorem ods_const : ∀ ds : List PyData, OdsHas (ds.map fun x => Od.w (.f x)) (ds.map fun x => .w (.d x))
  | [] => trivial
  | d :: ds => ⟨⟨_, rfl, rfl⟩, ods_const ds⟩
/-- a call of a def whose promise stands -/
theorem se_call {β : Type} {f : Nat} {ds : List PyData} (hd : ds.all scal = true)
    (h : SA C es S X m fun ods S1 m1 => ∃ (mo : Rs β) (F : β → Sl × List Sl) (Xo : List Sl) (g : β → Rs τ) (SX : List Sl) (S2 : β → List Sl), m1 = mo.bd g ∧ (∀ ts, HasL ((ods ++ ds.map fun x => Od.w (.f x)).map (look · S1)) ts → CSat mo F Xo (C f ts)) ∧ GvOk S1 (ods ++ ds.map fun x => Od.w (.f x)) Xo ∧ giveS (ods ++ ds.map fun x => Od.w (.f x)) Xo S1 = SX ∧ Wk SX X ∧
      ∀ y, GvOk S1 (ods ++ ds.map fun x => Od.w (.f x)) (F y).2 ∧ giveS (ods ++ ds.map fun x => Od.w (.f x)) (F y).2 S1 = S2 y ∧ Q (F y).1 (S2 y) (g y)) : SE C (.call f es ds) S X m Q := by
  have e0 : (den C (.call f es ds)).v = fun e => (opds (dens C es) e).bind fun xs e => callR C f (xs ++ ds.map fun x => .w (.d x)) e := by funext e; simp only [den, Dn.of, hd, if_true]
  show Gn _ (den C (.call f es ds)).v _ _ _ _
  rw [e0]
  refine Gn.bind (rel := OdsHas) (Gn.mono h fun ods S1 m1 ⟨mo, F, Xo, g, SX, S2, em, hc, hgx, hsx, hwx, q⟩ oxs rxs => ?_)
  subst em
  intro P kk hk e he
  have rr : OdsHas (ods ++ ds.map fun x => Od.w (.f x)) (oxs ++ ds.map fun x => .w (.d x)) := by
    have : ∀ {a : List Od} {b : List Opd}, OdsHas a b → OdsHas (a ++ ds.map fun x => Od.w (.f x)) (b ++ ds.map fun x => .w (.d x)) := by
      intro a
      induction a with
      | nil =>
        intro b hb
        cases b with
        | nil => exact ods_const ds
        | cons _ _ => cases hb
      | cons z a ih =>
        intro b hb
        cases b with
        | nil => cases hb
        | cons y b => exact ⟨hb.1, ih hb.2⟩
    exact this rxs
  unfold callR
  cases hmo : mo with
  | bad => trivial
  | exc c =>
    obtain ⟨ts, e1, f1, f2, _, _, f4⟩ := fetch_of (S0 := []) (outsd := []) rr hgx he
    have := hc ts f2
    rw [hmo] at this
    obtain ⟨os, h1, h2⟩ := this
    simp only [f1, h1, R.st_exc]
    exact ⟨_, rfl, hwx _ (hsx ▸ f4 os h2)⟩
  | ok y =>
    obtain ⟨ts, e1, f1, f2, _, _, f4⟩ := fetch_of (S0 := []) (outsd := []) rr (q y).1 he
    have := hc ts f2
    rw [hmo] at this
    obtain ⟨t, os, h1, h2, h3⟩ := this
    rw [Rs.bd_ok]
    simp only [f1, h1, R.st_ok]
    exact hk _ _ _ (q y).2.2 _ _ h2 ((q y).2.1 ▸ f4 os h3)
end
end Mv.Sh
end
section
set_option Elab.async false
set_option linter.all false
set_option maxHeartbeats 4000000
set_option maxRecDepth 10000
/-! Sh: comprehensions, loops, statements, defs. -/
namespace Mv.Sh
open PySem L2 PySem.W
open Dt (D)

/-! ### slots, one by one -/
theorem Ok.iff : ∀ {S : List Sl} {e : Env}, Ok S e ↔ S.length = e.length ∧ ∀ (i : Nat) v t, S[i]? = some v → e[i]? = some t → Has v t
  | [], [] => by simp [Ok]
  | [], _ :: _ => by simp [Ok]
  | _ :: _, [] => by simp [Ok]
  | v :: S, t :: e => by
    constructor
    · intro h
      refine ⟨by simp [h.2.len], fun i w u h1 h2 => ?_⟩
      obtain ⟨u', h3, h4⟩ := Ok.at_ (i := 0) h h1
      rw [h2] at h3; cases h3; exact h4
    · intro ⟨h1, h2⟩
      refine ⟨h2 0 v t rfl rfl, Ok.iff.mpr ⟨by simpa using h1, fun i w u h3 h4 => h2 (i + 1) w u (by simpa using h3) (by simpa using h4)⟩⟩
def hideS : List Nat → List Sl → List Sl
  | [], S => S
  | i :: is, S => (hideS is S).set i .no
def anyS : List Nat → List Sl → List Sl
  | [], S => S
  | i :: is, S => (anyS is S).set i .any
theorem hide_len : ∀ (is : List Nat) (e : Env), (hide is e).length = e.length
  | [], _ => rfl
  | i :: is, e => by simp only [hide, List.length_set]; exact hide_len is e
theorem back_len : ∀ (is : List Nat) (e0 e : Env), (back is e0 e).length = e.length
  | [], _, _ => rfl
  | i :: is, e0, e => by simp only [back, List.length_set]; exact back_len is e0 e
theorem hideS_len : ∀ (is : List Nat) (S : List Sl), (hideS is S).length = S.length
  | [], _ => rfl
  | i :: is, S => by simp only [hideS, List.length_set]; exact hideS_len is S
theorem anyS_len : ∀ (is : List Nat) (S : List Sl), (anyS is S).length = S.length
  | [], _ => rfl
  | i :: is, S => by simp only [anyS, List.length_set]; exact anyS_len is S
theorem hide_get : ∀ (own : List Nat) (e : Env) (j : Nat), (hide own e)[j]? = if j ∈ own ∧ j < e.length then some none else e[j]?
  | [], e, j => by simp [hide]
  | i :: is, e, j => by
    simp only [hide, List.getElem?_set, hide_len, hide_get is e j]
    by_cases h : i = j
    · subst h
      by_cases h2 : i < e.length
      · simp [h2]
      · simp only [h2, and_false, if_false, if_true]
        first | done | exact (List.getElem?_eq_none (by omega)).symm
    · have : (j ∈ i :: is) ↔ j ∈ is := by simp [Ne.symm h]
      simp only [h, if_false, this]
theorem hideS_get : ∀ (own : List Nat) (e : List Sl) (j : Nat), (hideS own e)[j]? = if j ∈ own ∧ j < e.length then some .no else e[j]?
  | [], e, j => by simp [hideS]
  | i :: is, e, j => by
    simp only [hideS, List.getElem?_set, hideS_len, hideS_get is e j]
    by_cases h : i = j
    · subst h
      by_cases h2 : i < e.length
      · simp [h2]
      · simp only [h2, and_false, if_false, if_true]
        first | done | exact (List.getElem?_eq_none (by omega)).symm
    · have : (j ∈ i :: is) ↔ j ∈ is := by simp [Ne.symm h]
      simp only [h, if_false, this]
theorem anyS_get : ∀ (own : List Nat) (e : List Sl) (j : Nat), (anyS own e)[j]? = if j ∈ own ∧ j < e.length then some .any else e[j]?
  | [], e, j => by simp [anyS]
  | i :: is, e, j => by
    simp only [anyS, List.getElem?_set, anyS_len, anyS_get is e j]
    by_cases h : i = j
    · subst h
      by_cases h2 : i < e.length
      · simp [h2]
      · simp only [h2, and_false, if_false, if_true]
        first | done | exact (List.getElem?_eq_none (by omega)).symm
    · have : (j ∈ i :: is) ↔ j ∈ is := by simp [Ne.symm h]
      simp only [h, if_false, this]
theorem back_get : ∀ (own : List Nat) (e0 e : Env) (j : Nat), e0.length = e.length → (back own e0 e)[j]? = if j ∈ own then e0[j]? else e[j]?
  | [], e0, e, j, _ => by simp [back]
  | i :: is, e0, e, j, hlen => by
    simp only [back, List.getElem?_set, back_len, back_get is e0 e j hlen]
    by_cases h : i = j
    · subst h
      by_cases h2 : i < e.length
      · have h3 : i < e0.length := by omega
        simp only [h2, if_true, List.mem_cons, true_or, List.getElem?_eq_getElem h3, Option.join_some]
      · simp only [h2, if_false, if_true, List.mem_cons, true_or]
        exact (List.getElem?_eq_none (by omega)).symm
    · have : (j ∈ i :: is) ↔ j ∈ is := by simp [Ne.symm h]
      simp only [h, if_false, this]
theorem Ok.hide_any {own : List Nat} {S : List Sl} {e : Env} (h : Ok (anyS own S) e) : Ok (hideS own S) (hide own e) := by
  rw [Ok.iff] at h ⊢
  obtain ⟨h1, h2⟩ := h
  rw [anyS_len] at h1
  refine ⟨by rw [hideS_len, hide_len]; exact h1, fun i v t q1 q2 => ?_⟩
  rw [hideS_get] at q1
  rw [hide_get] at q2
  by_cases c : i ∈ own ∧ i < e.length
  · rw [if_pos c] at q2
    rw [if_pos ⟨c.1, by omega⟩] at q1
    cases q1; cases q2; exact .inl rfl
  · rw [if_neg c] at q2
    have c' : ¬ (i ∈ own ∧ i < S.length) := by rw [h1]; exact c
    rw [if_neg c'] at q1
    exact h2 i v t (by rw [anyS_get, if_neg c']; exact q1) q2
theorem Ok.any {own : List Nat} {S : List Sl} {e : Env} (h : Ok S e) : Ok (anyS own S) e := by
  rw [Ok.iff] at h ⊢
  refine ⟨by rw [anyS_len]; exact h.1, fun i v t q1 q2 => ?_⟩
  rw [anyS_get] at q1
  by_cases c : i ∈ own ∧ i < S.length
  · rw [if_pos c] at q1; cases q1; trivial
  · rw [if_neg c] at q1; exact h.2 i v t q1 q2
theorem Ok.back {own : List Nat} {S : List Sl} {e0 e : Env} (h0 : Ok S e0) (h : Ok (anyS own S) e) : Ok S (back own e0 e) := by
  have l0 := h0.len
  have l1 := h.len
  rw [anyS_len] at l1
  rw [Ok.iff] at h h0 ⊢
  refine ⟨by rw [back_len]; exact l1, fun i v t q1 q2 => ?_⟩
  rw [back_get _ _ _ _ (by omega)] at q2
  by_cases c : i ∈ own
  · rw [if_pos c] at q2
    exact h0.2 i v t q1 q2
  · rw [if_neg c] at q2
    exact h.2 i v t (by rw [anyS_get, if_neg (fun z => c z.1)]; exact q1) q2
/-- the state changed meanwhile: the own names' slots are as they were -/
theorem Ok.back2 {own : List Nat} {S S' : List Sl} {e0 e : Env} (h0 : Ok S e0) (h : Ok (anyS own S') e) (hl : S'.length = S.length) (hs : ∀ i ∈ own, S'[i]? = S[i]?) : Ok S' (Mv.back own e0 e) := by
  have l0 := h0.len
  have l1 := h.len
  rw [anyS_len] at l1
  rw [Ok.iff] at h h0 ⊢
  refine ⟨by rw [back_len]; exact l1, fun i v t q1 q2 => ?_⟩
  rw [back_get _ _ _ _ (by omega)] at q2
  by_cases c : i ∈ own
  · rw [if_pos c] at q2
    exact h0.2 i v t (by rw [← hs i c]; exact q1) q2
  · rw [if_neg c] at q2
    exact h.2 i v t (by rw [anyS_get, if_neg (fun z => c z.1)]; exact q1) q2
/-- none, or data that is not owned -/
def plainV : Sl → Bool
  | .no => true
  | .f _ => true
  | .d x => !isL x
  | _ => false
def plainS (own : List Nat) (S : List Sl) : Bool := own.all fun i => match S[i]? with
  | some v => plainV v
  | none => true
theorem plain_of {own : List Nat} {S : List Sl} {e : Env} (h : plainS own S = true) (he : Ok S e) : own.all (Mv.plain e) = true := by
  unfold plainS at h
  rw [List.all_eq_true] at h ⊢
  intro i hi
  have := h i hi
  unfold Mv.plain
  cases q : S[i]? with
  | none =>
    have : e[i]? = none := by
      rw [List.getElem?_eq_none_iff] at q ⊢
      rw [← he.len]; exact q
    rw [this]; rfl
  | some v =>
    rw [q] at this
    obtain ⟨t, h1, h2⟩ := he.at_ (i := 0) q
    rw [h1, Option.join_some]
    cases v <;> simp [plainV] at this
    · rcases h2 with h2 | ⟨x, h2⟩ <;> subst h2 <;> rfl
    · cases h2; rfl
    · rcases h2 with h2 | ⟨xs, e2, h2⟩
      · subst h2; rfl
      · subst e2; cases this
/-! ### what a loop stores -/
def bindSN : List Nat → List PyData → List Sl → Option (List Sl)
  | [], [], S => some S
  | i :: is, x :: xs, S => bindSN is xs (S.set i (.f x))
  | _, _, _ => none
def bindS (t : Tg) (x : PyData) (S : List Sl) : Option (List Sl) :=
  match t, x with
  | .nm i, x => some (S.set i (.f x))
  | .tp is, .tuple xs => bindSN is xs S
  | .tl is, .list xs => bindSN is xs S
  | _, _ => none
theorem bindSN_of : ∀ {is : List Nat} {xs : List PyData} {S S' : List Sl} {e : Env}, bindSN is xs S = some S' → Ok S e → ∃ e', bindN is xs e = some e' ∧ Ok S' e'
  | [], [], S, S', e, h, he => by cases h; exact ⟨e, rfl, he⟩
  | i :: is, x :: xs, S, S', e, h, he => bindSN_of (is := is) (xs := xs) h (he.set (i := i) (v := .f x) (t := some (.d x)) rfl)
  | [], _ :: _, _, _, _, h, _ => by cases h
  | _ :: _, [], _, _, _, h, _ => by cases h
theorem bindS_of {t : Tg} {x : PyData} {S S' : List Sl} {e : Env} (h : bindS t x S = some S') (he : Ok S e) : ∃ e', bindT t x e = some e' ∧ Ok S' e' := by
  cases t with
  | nm i => cases h; exact ⟨_, rfl, he.set rfl⟩
  | tp is =>
    cases x <;> simp only [bindS] at h <;> first | exact bindSN_of h he | cases h
  | tl is =>
    cases x <;> simp only [bindS] at h <;> first | exact bindSN_of h he | cases h

/-! ### comprehensions -/
def compR {α β : Type} (c : α → Rs Bool) (b : α → Rs β) : List α → Rs (List β)
  | [] => .ok []
  | x :: xs => match c x with
    | .ok true => match b x with
      | .ok y => match compR c b xs with
        | .ok ys => .ok (y :: ys)
        | _ => .bad
      | _ => .bad
    | .ok false => compR c b xs
    | _ => .bad
def grd {β : Type} (m : Rs (List β)) : Rs (List β) :=
  match m with
  | .ok ys => if ys.length ≤ LINE then .ok ys else .bad
  | _ => .bad
/-- [b x for x in xs if c x] -/
@[irreducible] def compM {α β : Type} (xs : List α) (c : α → Rs Bool) (b : α → Rs β) : Rs (List β) := grd (compR c b xs)
/-- .. with a state -/
def compT {α β σ : Type} (c : σ → α → Rs (Bool × σ)) (b : σ → α → Rs (β × σ)) : List α → σ → Rs (List β × σ)
  | [], s => .ok ([], s)
  | x :: xs, s => match c s x with
    | .ok (true, s1) => match b s1 x with
      | .ok (y, s2) => match compT c b xs s2 with
        | .ok (ys, s3) => .ok (y :: ys, s3)
        | _ => .bad
      | _ => .bad
    | .ok (false, s1) => compT c b xs s1
    | _ => .bad
@[irreducible] def compS {α β σ : Type} (xs : List α) (s : σ) (c : σ → α → Rs (Bool × σ)) (b : σ → α → Rs (β × σ)) : Rs (List β × σ) :=
  match compT c b xs s with
  | .ok (ys, s) => if ys.length ≤ LINE then .ok (ys, s) else .bad
  | _ => .bad
/-- [b x z for x in xs if c x for z in src x if c2 x z] -/
def comp2R {α γ β : Type} (c : α → Rs Bool) (src : α → Rs (List γ)) (c2 : α → γ → Rs Bool) (b : α → γ → Rs β) : List α → Rs (List β)
  | [] => .ok []
  | x :: xs => match c x with
    | .ok true => match src x with
      | .ok zs => match compR (c2 x) (b x) zs with
        | .ok ys => match comp2R c src c2 b xs with
          | .ok ws => .ok (ys ++ ws)
          | _ => .bad
        | _ => .bad
      | _ => .bad
    | .ok false => comp2R c src c2 b xs
    | _ => .bad
@[irreducible] def comp2M {α γ β : Type} (xs : List α) (c : α → Rs Bool) (src : α → Rs (List γ)) (c2 : α → γ → Rs Bool) (b : α → γ → Rs β) : Rs (List β) := grd (comp2R c src c2 b xs)
/-- a run's end, told: nothing known, or the value, or an error -/
theorem Gn.ends {α δ τ' : Type} {rel : δ → α → Prop} {r : Env → R α} {S X : List Sl} {m : Rs τ'} {Q : δ → List Sl → Rs τ' → Prop} (h : Gn rel r S X m Q) (hQ : ∀ d S' m', Q d S' m' → ∃ y, m' = .ok y) {e : Env} (he : Ok S e) :
    m = .bad ∨ (∃ y d S' a e', m = .ok y ∧ Q d S' (.ok y) ∧ rel d a ∧ Ok S' e' ∧ r e = .ok a e') ∨ ∃ c e', m = .exc c ∧ r e = .exc c e' ∧ Ok X e' := by
  classical
  have := h (fun y r => ∃ e', r = .ret (.d .none) e' ∧ ∃ d S' a, Q d S' (.ok y) ∧ rel d a ∧ Ok S' e' ∧ True) (fun a e' => .ret (.d .none) e') (fun d S' m' q a e' ra he' => by
    obtain ⟨y, rfl⟩ := hQ _ _ _ q
    exact ⟨e', rfl, d, S', a, q, ra, he', trivial⟩) e he
  cases m with
  | bad => exact .inl rfl
  | exc c =>
    obtain ⟨e', h1, h2⟩ := this
    cases q : r e with
    | ok a e2 => rw [q] at h1; cases h1
    | exc c' e2 => rw [q] at h1; cases h1; exact .inr (.inr ⟨c, e', rfl, rfl, h2⟩)
    | bad => rw [q] at h1; cases h1
  | ok y =>
    cases q : r e with
    | exc c' e2 => rw [q] at this; obtain ⟨e', h1, _⟩ := this; cases h1
    | bad => rw [q] at this; obtain ⟨e', h1, _⟩ := this; cases h1
    | ok a0 e2 =>
      -- the same, with the end marked
      have h3 := h (fun y r => ∃ e', r = .nx e') (fun a e' => if (∃ d S' , Q d S' (.ok y) ∧ rel d a ∧ Ok S' e') then .nx e' else .nx e') (fun d S' m' q a e' ra he' => by
        obtain ⟨y, rfl⟩ := hQ _ _ _ q
        exact ⟨e', by split <;> rfl⟩) e he
      have h4 := h (fun y' r => y' = y → ∃ e', r = .nx e') (fun a e' => if (∃ d S' , Q d S' (.ok y) ∧ rel d a ∧ Ok S' e') then .nx e' else .bad) (fun d S' m' q a e' ra he' => by
        obtain ⟨y', rfl⟩ := hQ _ _ _ q
        intro ey
        subst ey
        rw [if_pos ⟨d, S', q, ra, he'⟩]
        exact ⟨e', rfl⟩) e he
      obtain ⟨e', h5⟩ := h4 rfl
      rw [q] at h5
      simp only [R.st_ok] at h5
      by_cases c : ∃ d S', Q d S' (.ok y) ∧ rel d a0 ∧ Ok S' e2
      · obtain ⟨d, S', q1, q2, q3⟩ := c
        exact .inr (.inl ⟨y, d, S', a0, e2, rfl, q1, q2, q3, rfl⟩)
      · rw [if_neg c] at h5; cases h5
section
variable {τ : Type} {C : Orc} {S S' X : List Sl} {m : Rs τ} {a k : Ex} {i : Nat} {v w : Sl} {Q : Sl → List Sl → Rs τ → Prop} {s s1 : Src} {own own1 : List Nat} {t t1 : Tg} {cs cs1 : Exs}
/-- a clause's test -/
abbrev SN {τ : Type} (C : Orc) (cs : Exs) (S X : List Sl) (m : Rs τ) (Q : Bool → List Sl → Rs τ → Prop) : Prop := Gn (fun b c => c = b) (conds (dens C cs)) S X m Q
theorem sn_nil {Qb : Bool → List Sl → Rs τ → Prop} (k : Qb true S m) : SN C .nil S X m Qb := Gn.pure rfl k
theorem sn_one {es : Exs} {Qb : Bool → List Sl → Rs τ → Prop} (h : SB C a S X m Qb) : SN C (.cons a es) S X m Qb := h
/-- the turns, with a state -/
theorem turns_of {α β σ : Type} {fx : α → PyData} {fy : β → PyData} {cond : Env → R Bool} {body : Env → R (List PyData)} {c : σ → α → Rs (Bool × σ)} {b : σ → α → Rs (β × σ)} {N : σ → List Sl} (Z : σ → α → List Sl)
    (hz : ∀ s x, bindS t (fx x) (hideS own (N s)) = some (Z s x)) (hc : ∀ s x, Gn (fun b c => c = b) cond (Z s x) X (c s x) fun k S1 m1 => ∃ s', m1 = .ok (k, s') ∧ Wk S1 (Z s' x) ∧ (k = false → Wk S1 (anyS own (N s'))))
    (hb : ∀ s x, Gn (fun ys zs => zs = ys) body (Z s x) X (b s x) fun zs S1 m1 => ∃ y s', m1 = .ok (y, s') ∧ zs = [fy y] ∧ Wk S1 (anyS own (N s'))) :
    ∀ (xs : List α) (s : σ) (e : Env) (acc : List PyData), Ok (anyS own (N s)) e → (∃ y, compT c b xs s = .ok y) → ∃ ys s' e', compT c b xs s = .ok (ys, s') ∧ turns own t cond body (xs.map fx) e acc = .ok (acc ++ ys.map fy) e' ∧ Ok (anyS own (N s')) e'
  | [], s, e, acc, he, _ => ⟨[], s, e, rfl, by simp [turns], he⟩
  | x :: xs, s, e, acc, he, ⟨y, hy⟩ => by
    obtain ⟨e1, b1, he1⟩ := bindS_of (hz s x) he.hide_any
    have hcx := (hc s x).ends (fun d S' m' ⟨s', h, _⟩ => ⟨_, h⟩) he1
    unfold compT at hy ⊢
    rcases hcx with h | ⟨_, k, S1, a, e2, h1, ⟨s', h2, h3, h4⟩, h5, h6, h7⟩ | ⟨_, _, h, _⟩
    · rw [h] at hy; cases hy
    · cases h2
      subst h5
      rw [h1] at hy ⊢
      cases a with
      | false =>
        obtain ⟨ys, s2, e', q1, q2, q3⟩ := turns_of Z hz hc hb xs s' e2 acc (h4 rfl _ h6) ⟨y, hy⟩
        refine ⟨ys, s2, e', q1, ?_, q3⟩
        simp only [List.map_cons, turns, b1, h7]
        exact q2
      | true =>
        have hbx := (hb s' x).ends (fun d S' m' ⟨y, s', h, _⟩ => ⟨_, h⟩) (h3 _ h6)
        simp only at hy ⊢
        rcases hbx with g | ⟨_, zs, S2, zs', e3, g1, ⟨y1, s2, g2, g3, g4⟩, g5, g6, g7⟩ | ⟨_, _, g, _⟩
        · rw [g] at hy; cases hy
        · cases g2
          subst g5 g3
          rw [g1] at hy ⊢
          simp only at hy ⊢
          cases hr : compT c b xs s2 with
          | ok p =>
            obtain ⟨ys, s3, e', q1, q2, q3⟩ := turns_of Z hz hc hb xs s2 e3 (acc ++ [fy y1]) (g4 _ g6) ⟨_, hr⟩
            rw [hr] at q1
            cases q1
            refine ⟨y1 :: ys, s3, e', rfl, ?_, q3⟩
            simp only [List.map_cons, turns, b1, h7, g7]
            rw [q2]
            simp
          | exc c => rw [hr] at hy; cases hy
          | bad => rw [hr] at hy; cases hy
        · rw [g] at hy; cases hy
    · rw [h] at hy; cases hy
theorem compT_cases {α β σ : Type} (c : σ → α → Rs (Bool × σ)) (b : σ → α → Rs (β × σ)) (xs : List α) (s : σ) : (∃ y, compT c b xs s = .ok y) ∨ compS xs s c b = .bad := by
  unfold compS
  cases h : compT c b xs s with
  | ok y => exact .inl ⟨y, rfl⟩
  | exc c => exact .inr rfl
  | bad => exact .inr rfl
theorem one_gn {β : Type} {e : Ex} {mb : Rs τ} {Ql : List PyData → List Sl → Rs τ → Prop} (h : SE C e S X mb fun v S1 m1 => ∃ x, dat v = some x ∧ Ql [x] S1 m1) : Gn (fun b c => c = b) (one (den C e)) S X mb Ql := by
  refine Gn.bind (rel := fun v t => Has v (some t)) (Gn.mono h fun v S1 m1 ⟨x, hx, q⟩ t ht => ?_)
  intro P kk hk e he
  simp only [frzR, (ht.dat hx).1, lift_some, R.bind_ok, R.st_ok]
  exact hk _ _ _ q _ _ rfl he
/-- a comprehension whose turns change slots -/
theorem se_compS {α β σ : Type} [Dt α] [Dt β] (hw : t.within own = true)
    (h : SC C s S X m fun xd S1 m1 => ∃ (xs : List α) (s0 : σ) (N : σ → List Sl) (Z : σ → α → List Sl) (c : σ → α → Rs (Bool × σ)) (b : σ → α → Rs (β × σ)) (g : List β × σ → Rs τ), xd = xs.map D ∧ m1 = (compS xs s0 c b).bd g ∧ Wk S1 (N s0) ∧ plainS own (N s0) = true ∧ (∀ s x, bindS t (D x) (hideS own (N s)) = some (Z s x)) ∧ (∀ s, (N s).length = (N s0).length ∧ (own.map fun i => (N s)[i]?) = own.map fun i => (N s0)[i]?) ∧
      (∀ s x, SN C cs (Z s x) X (c s x) fun k S1 m1 => ∃ s', m1 = .ok (k, s') ∧ Wk S1 (Z s' x) ∧ (k = false → Wk S1 (anyS own (N s')))) ∧
      (∀ s x, SE C a (Z s x) X (b s x) fun v S1 m1 => ∃ y s', dat v = some (D y) ∧ m1 = .ok (y, s') ∧ Wk S1 (anyS own (N s'))) ∧ ∀ r : List β × σ, Q (.l (r.1.map D)) (N r.2) (g r)) : SE C (.comp own t s cs a) S X m Q := by
  refine Gn.bind (rel := fun b c => c = b) (Gn.mono h fun xd S1 m1 ⟨xs, s0, N, Z, c, b, g, ex, em, hwk, hp, hz, hN, hc, hb, q⟩ xd' e => ?_)
  subst e em ex
  intro P kk hk e he
  have he0 := hwk e he
  rcases compT_cases c b xs s0 with hy | hbad
  · obtain ⟨ys, s', e', q1, q2, q3⟩ := turns_of (own := own) (t := t) (fx := D) (fy := D) (cond := conds (dens C cs)) (body := one (den C a)) (c := c) (b := b) (N := N) (X := X) Z hz hc (fun s x => one_gn (β := β) (Gn.mono (hb s x) fun v S1 m1 ⟨y, s', h1, h2, h3⟩ => ⟨_, h1, y, s', h2, rfl, h3⟩)) xs s0 e [] he0.any hy
    unfold compS
    rw [q1]
    simp only [around, plain_of hp he0, hw, and_self, if_true]
    rw [q2, List.nil_append]
    simp only [List.length_map]
    by_cases hl : ys.length ≤ LINE
    · simp only [hl, if_true, R.bind_ok, R.st_ok, Rs.bd_ok]
      exact hk _ _ _ (q (ys, s')) _ _ rfl (he0.back2 q3 (hN s').1 (List.map_inj_left.mp (hN s').2))
    · simp only [hl, if_false]; trivial
  · rw [hbad]; trivial
theorem compT_unit {α β : Type} (c : α → Rs Bool) (b : α → Rs β) : ∀ xs : List α, compT (fun (_ : Unit) x => (c x).bd fun k => .ok (k, ())) (fun _ x => (b x).bd fun y => .ok (y, ())) xs () = (match compR c b xs with | .ok ys => .ok (ys, ()) | _ => .bad)
  | [] => rfl
  | x :: xs => by
    unfold compT compR
    cases c x with
    | ok k =>
      cases k with
      | true =>
        simp only [Rs.bd_ok]
        cases b x with
        | ok y =>
          simp only [Rs.bd_ok]
          rw [compT_unit c b xs]
          cases compR c b xs <;> rfl
        | _ => rfl
      | false =>
        simp only [Rs.bd_ok]
        rw [compT_unit c b xs]
    | _ => rfl
theorem compS_unit {α β : Type} (xs : List α) (c : α → Rs Bool) (b : α → Rs β) (g : List β → Rs τ) : (compM xs c b).bd g = (compS xs () (fun _ x => (c x).bd fun k => .ok (k, ())) (fun _ x => (b x).bd fun y => .ok (y, ()))).bd fun p => g p.1 := by
  unfold compM compS grd
  rw [compT_unit]
  cases compR c b xs with
  | ok ys =>
    simp only
    split <;> rfl
  | _ => rfl
theorem Gn.bd {α δ β τ' : Type} {rel : δ → α → Prop} {r : Env → R α} {S X : List Sl} {mb : Rs β} {Q' : δ → List Sl → Rs β → Prop} {f : β → Rs τ'} (h : Gn rel r S X mb Q') (hQ : ∀ d S' m', Q' d S' m' → ∃ y, m' = .ok y) : Gn rel r S X (mb.bd f) fun d S1 m1 => ∃ y, m1 = f y ∧ Q' d S1 (.ok y) := by
  intro P k hk e he
  rcases h.ends hQ he with h1 | ⟨y, d, S', a, e', h1, h2, h3, h4, h5⟩ | ⟨c, e', h1, h2, h3⟩
  · rw [h1]; trivial
  · rw [h1, h5, Rs.bd_ok, R.st_ok]
    exact hk _ _ _ ⟨y, rfl, h2⟩ _ _ h3 h4
  · rw [h1, h2]; exact ⟨e', rfl, h3⟩
/-- [a for x in xs if c] -/
theorem se_comp {α β : Type} [Dt α] [Dt β] (hw : t.within own = true)
    (h : SC C s S X m fun xd S1 m1 => ∃ (xs : List α) (S0 : List Sl) (Z : α → List Sl) (c : α → Rs Bool) (b : α → Rs β) (g : List β → Rs τ), xd = xs.map D ∧ m1 = (compM xs c b).bd g ∧ Wk S1 S0 ∧ plainS own S0 = true ∧ (∀ x, bindS t (D x) (hideS own S0) = some (Z x)) ∧
      (∀ x, SN C cs (Z x) X (c x) fun k S1 m1 => m1 = .ok k ∧ Wk S1 (Z x) ∧ Wk S1 (anyS own S0)) ∧
      (∀ x, SE C a (Z x) X (b x) fun v S1 m1 => ∃ y, dat v = some (D y) ∧ m1 = .ok y ∧ Wk S1 (anyS own S0)) ∧ ∀ ys : List β, Q (.l (ys.map D)) S0 (g ys)) : SE C (.comp own t s cs a) S X m Q := by
  refine se_compS (α := α) (β := β) (σ := Unit) hw (Gn.mono h fun xd S1 m1 ⟨xs, S0, Z, c, b, g, h1, h2, h3, h4, h5, h6, h7, h8⟩ =>
    ⟨xs, (), fun _ => S0, fun _ x => Z x, fun _ x => (c x).bd fun k => .ok (k, ()), fun _ x => (b x).bd fun y => .ok (y, ()), fun p => g p.1, h1, by rw [h2, compS_unit], h3, h4, fun _ => h5, fun _ => ⟨rfl, rfl⟩, fun _ x => ?_, fun _ x => ?_, fun r => h8 r.1⟩)
  · exact Gn.mono (Gn.bd (h6 x) fun d S' m' q => ⟨_, q.1⟩) fun k S1 m1 ⟨y, e1, e2, e3, e4⟩ => ⟨(), by cases e2; exact e1, e3, fun _ => e4⟩
  · exact Gn.mono (Gn.bd (h7 x) fun d S' m' ⟨y, _, q, _⟩ => ⟨_, q⟩) fun v S1 m1 ⟨y, e1, y', e2, e3, e4⟩ => ⟨y', (), e2, by cases e3; exact e1, e4⟩
end
end Mv.Sh
end
section
set_option Elab.async false
set_option linter.all false
set_option maxHeartbeats 4000000
set_option maxRecDepth 10000
/-! Sh: statements, loops, defs. -/
namespace Mv.Sh
open PySem L2 PySem.W
open Dt (D)

theorem R.st_seq {α : Type} (r : R α) (f : α → Env → SR) (g : Env → SR) : (r.st f).seq g = r.st fun a e => (f a e).seq g := by cases r <;> rfl
section
variable {τ : Type} {C : Orc} {S S' X : List Sl} {m : Rs τ} {a b c : Ex} {i j : Nat} {v w : Sl} {P : τ → SR → Prop} {s : Src} {t : Tg} {ss p q : Sts} {x : PyData}
theorem gn_st {α δ : Type} {rel : δ → α → Prop} {r : Env → R α} {k : α → Env → SR} {Q : δ → List Sl → Rs τ → Prop} (h : Gn rel r S X m Q) (hk : ∀ d S' m', Q d S' m' → ∀ a e', rel d a → Ok S' e' → Sat m' P X (k a e')) : ∀ e, Ok S e → Sat m P X ((r e).st k) := h P k hk
/-! ### statements -/
theorem ss_asg (h : SE C a S X m fun v S1 m1 => SS C ss (S1.set i v) X m1 P) : SS C (.cons (.asg i a) ss) S X m P := by
  intro e he
  show Sat m P X ((exS C (.asg i a) e).seq _)
  simp only [exS, R.st_seq, SR.seq_nx]
  exact gn_st h (fun v S1 m1 q t e' ht he' => q _ (he'.set ht)) e he
theorem ss_asgd (h : SE C a S X m fun v S1 m1 => ∃ x, dat v = some x ∧ SS C ss (S1.set i (.d x)) X m1 P) : SS C (.cons (.asg i a) ss) S X m P := by
  refine ss_asg (Gn.mono h fun v S1 m1 ⟨x, hx, q⟩ e he => ?_)
  refine q e ?_
  rw [Ok.iff] at he ⊢
  refine ⟨by simpa using he.1, fun j u t h1 h2 => ?_⟩
  rw [List.getElem?_set] at h1
  by_cases hj : i = j
  · subst hj
    by_cases hl : i < S1.length
    · simp only [hl, if_true] at h1
      cases h1
      have := he.2 i v t (by rw [List.getElem?_set_self hl]) h2
      cases v <;> simp [dat] at hx
      · subst hx; exact .inl this
      · subst hx; exact this
      · subst hx; exact .inr ⟨_, rfl, this⟩
    · simp [hl] at h1
  · simp only [hj, if_false] at h1
    exact he.2 j u t (by rw [List.getElem?_set_ne hj]; exact h1) h2
theorem ss_unp (h : SE C a S X m fun v S1 m1 => ∃ x S2, dat v = some x ∧ bindS t x S1 = some S2 ∧ SS C ss S2 X m1 P) : SS C (.cons (.unp t a) ss) S X m P := by
  intro e he
  show Sat m P X ((exS C (.unp t a) e).seq _)
  simp only [exS, R.st_seq]
  refine gn_st h (fun v S1 m1 ⟨x, S2, hx, hb, q⟩ u e' hu he' => ?_) e he
  obtain ⟨e2, b1, b2⟩ := bindS_of hb he'
  simp only [frzR, (hu.dat hx).1, lift_some, R.st_ok, b1, SR.seq_nx]
  exact q e2 b2
theorem ss_ex (h : SE C a S X m fun v S1 m1 => SS C ss S1 X m1 P) : SS C (.cons (.ex a) ss) S X m P := by
  intro e he
  show Sat m P X ((exS C (.ex a) e).seq _)
  simp only [exS, R.st_seq, SR.seq_nx]
  exact gn_st h (fun v S1 m1 q t e' ht he' => q _ he') e he
theorem ss_pass (h : SS C ss S X m P) : SS C (.cons .pass ss) S X m P := fun e he => h e he
theorem ss_seti (h : SE C a S X m fun v S1 m1 => ∃ x dv, dat v = some x ∧ S1[i]? = some dv ∧ full dv = true ∧ SO C b S1 X m1 fun y S2 m2 => ∃ sl, S2[i]? = some sl ∧ full sl = true ∧ full (look y S2) = true ∧ ∃ (β : Type) (mo : Rs β) (g : β → Rs τ) (F : β → Sl), m2 = mo.bd g ∧
    (∀ t u, Has sl (some t) → Has (look y S2) (some u) → mo = .bad ∨ ∃ z, mo = .ok z ∧ ∃ t', setAt t u x = some t' ∧ Has (F z) (some t')) ∧ ∀ z, SS C ss (S2.set i (F z)) X (g z) P) : SS C (.cons (.seti i b a) ss) S X m P := by
  intro e he
  show Sat m P X ((exS C (.seti i b a) e).seq _)
  simp only [exS, R.st_seq]
  refine gn_st h (fun v S1 m1 ⟨x, dv, hx, hi, hf, q⟩ u e' hu he' => ?_) e he
  obtain ⟨t0, g0, k0⟩ := he'.at_ (i := 0) hi
  obtain ⟨u0, rfl⟩ := k0.full hf
  simp only [frzR, (hu.dat hx).1, lift_some, R.st_ok, g0, Option.join_some, Option.isSome_some, if_true, R.st_seq]
  refine gn_st q (fun y S2 m2 ⟨sl, h1, h2, h3, β, mo, g, F, em, hs, q2⟩ oy e2 ry he2 => ?_) e' he'
  subst em
  obtain ⟨t1, g1, k1⟩ := he2.at_ (i := 0) h1
  obtain ⟨u1, rfl⟩ := k1.full h2
  obtain ⟨u2, g2, k2⟩ := Od.get ry h3 he2
  simp only [g1, Option.join_some, g2]
  rcases hs _ _ k1 k2 with hb | ⟨z, hz, t', e4, h4⟩
  · rw [hb]; trivial
  · rw [hz, Rs.bd_ok, e4]
    exact q2 z _ (he2.set h4)
/-! branches -/
def apS : Sts → Sts → Sts
  | .nil, q => q
  | .cons s p, q => .cons s (apS p q)
theorem apS_ex : ∀ (p q : Sts) (e : Env), exSs C (apS p q) e = (exSs C p e).seq fun e => exSs C q e
  | .nil, q, e => rfl
  | .cons s p, q, e => by
    show (exS C s e).seq (fun e => exSs C (apS p q) e) = ((exS C s e).seq fun e => exSs C p e).seq fun e => exSs C q e
    cases exS C s e with
    | nx e' => exact apS_ex p q e'
    | _ => rfl
/-- each branch goes on with what follows -/
theorem ss_if (h : SB C c S X m fun k S1 m1 => ∃ mt mf : Rs τ, m1 = (if k = true then mt else mf) ∧ SS C (apS p ss) S1 X mt P ∧ SS C (apS q ss) S1 X mf P) : SS C (.cons (.iff c p q) ss) S X m P := by
  intro e he
  show Sat m P X ((exS C (.iff c p q) e).seq _)
  simp only [exS, R.st_seq]
  refine gn_st h (fun k S1 m1 ⟨mt, mf, em, h1, h2⟩ k' e' hk he' => ?_) e he
  subst hk em
  cases k' with
  | true =>
    simp only [if_true]
    rw [← apS_ex]; exact h1 e' he'
  | false =>
    simp only [Bool.false_eq_true, if_false]
    rw [← apS_ex]; exact h2 e' he'
/-- going on with what is known by a state -/
def NxP {σ : Type} (N : σ → List Sl) : σ → SR → Prop := fun s r => ∃ e, r = .nx e ∧ Ok (N s) e
def isRet (r : SR) : Prop := ∃ t e, r = .ret t e
/-- .. or an answer, as what is around wants it -/
def OP {σ ρ : Type} (N : σ → List Sl) (w : ρ → τ) (P : τ → SR → Prop) : O σ ρ → SR → Prop := fun o r => match o with
  | .nx s => NxP N s r
  | .rt x => isRet r ∧ P (w x) r
theorem sat_nx {σ : Type} {N : σ → List Sl} {ms : Rs σ} {g : σ → Rs τ} {r : SR} (h : Sat ms (NxP N) X r) (k : ∀ s, SS C ss (N s) X (g s) P) : Sat (ms.bd g) P X (r.seq fun e => exSs C ss e) := by
  cases ms with
  | ok s =>
    obtain ⟨e, rfl, he⟩ := h
    exact k s e he
  | exc c =>
    obtain ⟨e, rfl, he⟩ := h
    exact ⟨e, rfl, he⟩
  | bad => trivial
theorem sat_op {σ ρ : Type} {N : σ → List Sl} {w : ρ → τ} {ms : Rs (O σ ρ)} {g : σ → Rs τ} {r : SR} (h : Sat ms (OP N w P) X r) (k : ∀ s, SS C ss (N s) X (g s) P) : Sat (ms.obd w g) P X (r.seq fun e => exSs C ss e) := by
  cases ms with
  | ok o =>
    cases o with
    | nx s =>
      obtain ⟨e, rfl, he⟩ := h
      exact k s e he
    | rt x =>
      obtain ⟨⟨t, e, rfl⟩, hp⟩ := h
      exact hp
  | exc c =>
    obtain ⟨e, rfl, he⟩ := h
    exact ⟨e, rfl, he⟩
  | bad => trivial
/-- the branches join -/
theorem ss_ifj {σ : Type} (h : SB C c S X m fun k S1 m1 => ∃ (N : σ → List Sl) (mt mf : Rs σ) (g : σ → Rs τ), m1 = (if k = true then mt else mf).bd g ∧ SS C p S1 X mt (NxP N) ∧ SS C q S1 X mf (NxP N) ∧ ∀ s, SS C ss (N s) X (g s) P) : SS C (.cons (.iff c p q) ss) S X m P := by
  intro e he
  show Sat m P X ((exS C (.iff c p q) e).seq _)
  simp only [exS, R.st_seq]
  refine gn_st h (fun k' S1 m1 ⟨N, mt, mf, g, em, h1, h2, k⟩ k'' e' hk he' => ?_) e he
  subst hk em
  cases k'' with
  | true =>
    simp only [if_true]
    exact sat_nx (h1 e' he') k
  | false =>
    simp only [Bool.false_eq_true, if_false]
    exact sat_nx (h2 e' he') k
theorem ss_ifo {σ ρ : Type} (w : ρ → τ) (h : SB C c S X m fun k S1 m1 => ∃ (N : σ → List Sl) (mt mf : Rs (O σ ρ)) (g : σ → Rs τ), m1 = (if k = true then mt else mf).obd w g ∧ SS C p S1 X mt (OP N w P) ∧ SS C q S1 X mf (OP N w P) ∧ ∀ s, SS C ss (N s) X (g s) P) : SS C (.cons (.iff c p q) ss) S X m P := by
  intro e he
  show Sat m P X ((exS C (.iff c p q) e).seq _)
  simp only [exS, R.st_seq]
  refine gn_st h (fun k' S1 m1 ⟨N, mt, mf, g, em, h1, h2, k⟩ k'' e' hk he' => ?_) e he
  subst hk em
  cases k'' with
  | true =>
    simp only [if_true]
    exact sat_op (h1 e' he') k
  | false =>
    simp only [Bool.false_eq_true, if_false]
    exact sat_op (h2 e' he') k
theorem ss_nil {x : τ} (h : ∀ e, Ok S e → P x (.nx e)) : SS C .nil S X (.ok x) P := fun e he => h e he
theorem ss_end {σ : Type} {N : σ → List Sl} {s : σ} (h : Wk S (N s)) : SS C .nil S X (.ok s) (NxP N) := fun e he => ⟨e, rfl, h e he⟩
theorem ss_endo {σ ρ : Type} {N : σ → List Sl} {w : ρ → τ} {s : σ} (h : Wk S (N s)) : SS C .nil S X (.ok (.nx s) : Rs (O σ ρ)) (OP N w P) := fun e he => ⟨e, rfl, h e he⟩
theorem ss_rse {k : Nat} (h : SE C a S X m fun v S1 m1 => m1 = .exc k ∧ Wk S1 X) : SS C (.cons (.rse k a) ss) S X m P := by
  intro e he
  show Sat m P X ((exS C (.rse k a) e).seq _)
  simp only [exS, R.st_seq]
  refine gn_st h (fun v S1 m1 ⟨em, hw⟩ t e' ht he' => ?_) e he
  subst em
  exact ⟨e', rfl, hw e' he'⟩
/-- a def's answer: F the value, and the slots; None where it ends without -/
def RetP {α : Type} (F : α → Sl × List Sl) : α → SR → Prop := fun x r => (∃ t e, r = .ret t e ∧ Has (F x).1 (some t) ∧ Ok (F x).2 e) ∨ ∃ e, r = .nx e ∧ Has (F x).1 (some (.d .none)) ∧ Ok (F x).2 e
theorem ss_ret {α : Type} {F : α → Sl × List Sl} {m : Rs α} (h : SE C a S X m fun v S1 m1 => ∃ x, m1 = .ok x ∧ Wk1 v (F x).1 ∧ Wk S1 (F x).2) : SS C (.cons (.ret a) ss) S X m (RetP F) := by
  intro e he
  show Sat m _ X ((exS C (.ret a) e).seq _)
  simp only [exS, R.st_seq]
  refine gn_st h (fun v S1 m1 ⟨x, em, h1, h2⟩ t e' ht he' => ?_) e he
  subst em
  exact .inl ⟨t, e', rfl, h1 _ ht, h2 _ he'⟩
/-- an answer within a loop: what is around wants it so -/
def Ans {α τ : Type} (F : α → Sl × List Sl) (w : α → τ) (P : τ → SR → Prop) : Prop := ∀ x t e, Has (F x).1 (some t) → Ok (F x).2 e → P (w x) (.ret t e)
theorem Ans.top {α : Type} {F : α → Sl × List Sl} : Ans F (fun x => x) (RetP F) := fun x t e h k => .inl ⟨t, e, rfl, h, k⟩
theorem Ans.up {α σ ρ : Type} {F : α → Sl × List Sl} {u : α → ρ} {w : ρ → τ} {N : σ → List Sl} (h : Ans F (fun x => w (u x)) P) : Ans F (fun x => (O.rt (u x) : O σ ρ)) (OP N w P) := fun x t e h1 h2 => ⟨⟨t, e, rfl⟩, h x t e h1 h2⟩
theorem ss_reto {α : Type} {F : α → Sl × List Sl} {w : α → τ} (ha : Ans F w P) (h : SE C a S X m fun v S1 m1 => ∃ x, m1 = .ok (w x) ∧ Wk1 v (F x).1 ∧ Wk S1 (F x).2) : SS C (.cons (.ret a) ss) S X m P := by
  intro e he
  show Sat m _ X ((exS C (.ret a) e).seq _)
  simp only [exS, R.st_seq]
  refine gn_st h (fun v S1 m1 ⟨x, em, h1, h2⟩ t e' ht he' => ?_) e he
  subst em
  exact ha x t e' (h1 _ ht) (h2 _ he')
theorem ss_fin {α : Type} {F : α → Sl × List Sl} {x : α} (h1 : Has (F x).1 (some (.d .none))) (h2 : Wk S (F x).2) : SS C .nil S X (.ok x) (RetP F) := fun e he => .inr ⟨e, rfl, h1, h2 e he⟩
theorem SS.at {C : Orc} {ss : Sts} {X : List Sl} {m : Rs τ} {P : τ → SR → Prop} (S' : List Sl) (h : SS C ss S' X m P) : SS C ss S' X m P := h
/-! ### loops -/
def foldM {α σ : Type} (f : σ → α → Rs σ) : List α → σ → Rs σ
  | [], s => .ok s
  | x :: xs, s => (f s x).bd fun s => foldM f xs s
def forM' {α σ ρ : Type} (f : σ → α → Rs (O σ ρ)) : List α → σ → Rs (O σ ρ)
  | [], s => .ok (.nx s)
  | x :: xs, s => match f s x with
    | .ok (.nx s) => forM' f xs s
    | r => r
def whM {σ : Type} (c : σ → Rs Bool) (f : σ → Rs σ) : Nat → σ → Rs σ
  | 0, _ => .bad
  | n + 1, s => (c s).bd fun k => if k = true then (f s).bd fun s => whM c f n s else .ok s
def whO {σ ρ : Type} (c : σ → Rs Bool) (f : σ → Rs (O σ ρ)) : Nat → σ → Rs (O σ ρ)
  | 0, _ => .bad
  | n + 1, s => (c s).bd fun k => if k = true then (match f s with
    | .ok (.nx s) => whO c f n s
    | r => r) else .ok (.nx s)
theorem loop_fold {α σ : Type} {fx : α → PyData} {body : Env → SR} {f : σ → α → Rs σ} {N : σ → List Sl} (hb : ∀ s x, ∃ Z, bindS t (fx x) (N s) = some Z ∧ ∀ e, Ok Z e → Sat (f s x) (NxP N) X (body e)) :
    ∀ (xs : List α) (s : σ) (e : Env), Ok (N s) e → Sat (foldM f xs s) (NxP N) X (loop t body (xs.map fx) e)
  | [], s, e, he => ⟨e, rfl, he⟩
  | x :: xs, s, e, he => by
    obtain ⟨Z, hz, hs⟩ := hb s x
    obtain ⟨e1, b1, b2⟩ := bindS_of hz he
    have := hs e1 b2
    simp only [List.map_cons, loop, b1, foldM]
    cases q : f s x with
    | ok s' =>
      rw [q] at this
      obtain ⟨e2, h2, h3⟩ := this
      rw [h2]
      exact loop_fold hb xs s' e2 h3
    | exc c =>
      rw [q] at this
      obtain ⟨e2, h2, h3⟩ := this
      rw [h2]
      exact ⟨e2, rfl, h3⟩
    | bad => trivial
theorem loop_for {α σ ρ : Type} {fx : α → PyData} {body : Env → SR} {f : σ → α → Rs (O σ ρ)} {N : σ → List Sl} {w : ρ → τ} (hb : ∀ s x, ∃ Z, bindS t (fx x) (N s) = some Z ∧ ∀ e, Ok Z e → Sat (f s x) (OP N w P) X (body e)) :
    ∀ (xs : List α) (s : σ) (e : Env), Ok (N s) e → Sat (forM' f xs s) (OP N w P) X (loop t body (xs.map fx) e)
  | [], s, e, he => ⟨e, rfl, he⟩
  | x :: xs, s, e, he => by
    obtain ⟨Z, hz, hs⟩ := hb s x
    obtain ⟨e1, b1, b2⟩ := bindS_of hz he
    have := hs e1 b2
    simp only [List.map_cons, loop, b1, forM']
    cases q : f s x with
    | ok o =>
      rw [q] at this
      cases o with
      | nx s' =>
        obtain ⟨e2, h2, h3⟩ := this
        rw [h2]
        exact loop_for hb xs s' e2 h3
      | rt r =>
        obtain ⟨⟨t', e2, h2⟩, h3⟩ := this
        rw [h2] at h3 ⊢
        exact ⟨⟨t', e2, rfl⟩, h3⟩
    | exc c =>
      rw [q] at this
      obtain ⟨e2, h2, h3⟩ := this
      rw [h2]
      exact ⟨e2, rfl, h3⟩
    | bad => trivial
theorem ss_fold {α σ : Type} [Dt α]
    (h : SC C s S X m fun xd S1 m1 => ∃ (xs : List α) (s0 : σ) (N : σ → List Sl) (f : σ → α → Rs σ) (g : σ → Rs τ), xd = xs.map D ∧ m1 = (foldM f xs s0).bd g ∧ Wk S1 (N s0) ∧ (∀ s x, ∃ Z, bindS t (D x) (N s) = some Z ∧ SS C p Z X (f s x) (NxP N)) ∧ ∀ s, SS C ss (N s) X (g s) P) : SS C (.cons (.fr t s p) ss) S X m P := by
  intro e he
  show Sat m P X ((exS C (.fr t s p) e).seq _)
  simp only [exS, R.st_seq]
  refine gn_st h (fun xd S1 m1 ⟨xs, s0, N, f, g, ex, em, hw, hb, k⟩ xd' e' hx he' => ?_) e he
  subst hx em ex
  exact sat_nx (loop_fold (fun s x => hb s x) xs s0 e' (hw e' he')) k
theorem ss_for {α σ ρ : Type} [Dt α] (w : ρ → τ)
    (h : SC C s S X m fun xd S1 m1 => ∃ (xs : List α) (s0 : σ) (N : σ → List Sl) (f : σ → α → Rs (O σ ρ)) (g : σ → Rs τ), xd = xs.map D ∧ m1 = (forM' f xs s0).obd w g ∧ Wk S1 (N s0) ∧ (∀ s x, ∃ Z, bindS t (D x) (N s) = some Z ∧ SS C p Z X (f s x) (OP N w P)) ∧ ∀ s, SS C ss (N s) X (g s) P) : SS C (.cons (.fr t s p) ss) S X m P := by
  intro e he
  show Sat m P X ((exS C (.fr t s p) e).seq _)
  simp only [exS, R.st_seq]
  refine gn_st h (fun xd S1 m1 ⟨xs, s0, N, f, g, ex, em, hw, hb, k⟩ xd' e' hx he' => ?_) e he
  subst hx em ex
  exact sat_op (loop_for (fun s x => hb s x) xs s0 e' (hw e' he')) k
theorem whil_of {σ : Type} {cd : Env → R Bool} {body : Env → SR} {c : σ → Rs Bool} {f : σ → Rs σ} {N : σ → List Sl} (hc : ∀ s, Gn (fun b c => c = b) cd (N s) X (c s) fun k S1 m1 => m1 = .ok k ∧ Wk S1 (N s)) (hb : ∀ s e, Ok (N s) e → Sat (f s) (NxP N) X (body e)) :
    ∀ (n : Nat) (s : σ) (e : Env), Ok (N s) e → Sat (whM c f n s) (NxP N) X (whil cd body n e)
  | 0, _, _, _ => trivial
  | n + 1, s, e, he => by
    unfold whM whil
    rcases (hc s).ends (fun d S' m' q => ⟨_, q.1⟩) he with h1 | ⟨y, d, S', a, e', h1, ⟨h2, h2'⟩, h3, h4, h5⟩ | ⟨cc, e', h1, h2, h3⟩
    · rw [h1]; trivial
    · cases h2
      subst h3
      rw [h1, h5, R.st_ok, Rs.bd_ok]
      cases a with
      | false => exact ⟨e', rfl, h2' _ h4⟩
      | true =>
        simp only [if_true]
        have := hb s e' (h2' _ h4)
        cases q : f s with
        | ok s' =>
          rw [q] at this
          obtain ⟨e2, g1, g2⟩ := this
          rw [g1]
          exact whil_of hc hb n s' e2 g2
        | exc c =>
          rw [q] at this
          obtain ⟨e2, g1, g2⟩ := this
          rw [g1]; exact ⟨e2, rfl, g2⟩
        | bad => trivial
    · rw [h1, h2]; exact ⟨e', rfl, h3⟩
theorem whil_ofo {σ ρ : Type} {cd : Env → R Bool} {body : Env → SR} {c : σ → Rs Bool} {f : σ → Rs (O σ ρ)} {N : σ → List Sl} {w : ρ → τ} (hc : ∀ s, Gn (fun b c => c = b) cd (N s) X (c s) fun k S1 m1 => m1 = .ok k ∧ Wk S1 (N s)) (hb : ∀ s e, Ok (N s) e → Sat (f s) (OP N w P) X (body e)) :
    ∀ (n : Nat) (s : σ) (e : Env), Ok (N s) e → Sat (whO c f n s) (OP N w P) X (whil cd body n e)
  | 0, _, _, _ => trivial
  | n + 1, s, e, he => by
    unfold whO whil
    rcases (hc s).ends (fun d S' m' q => ⟨_, q.1⟩) he with h1 | ⟨y, d, S', a, e', h1, ⟨h2, h2'⟩, h3, h4, h5⟩ | ⟨cc, e', h1, h2, h3⟩
    · rw [h1]; trivial
    · cases h2
      subst h3
      rw [h1, h5, R.st_ok, Rs.bd_ok]
      cases a with
      | false => exact ⟨e', rfl, h2' _ h4⟩
      | true =>
        simp only [if_true]
        have := hb s e' (h2' _ h4)
        cases q : f s with
        | ok o =>
          rw [q] at this
          cases o with
          | nx s' =>
            obtain ⟨e2, g1, g2⟩ := this
            rw [g1]
            exact whil_ofo hc hb n s' e2 g2
          | rt r =>
            obtain ⟨⟨t', e2, g1⟩, g2⟩ := this
            rw [g1] at g2 ⊢
            exact ⟨⟨t', e2, rfl⟩, g2⟩
        | exc c =>
          rw [q] at this
          obtain ⟨e2, g1, g2⟩ := this
          rw [g1]; exact ⟨e2, rfl, g2⟩
        | bad => trivial
    · rw [h1, h2]; exact ⟨e', rfl, h3⟩
theorem ss_wh {σ : Type} {n : Nat} {s0 : σ} {cm : σ → Rs Bool} {f : σ → Rs σ} {g : σ → Rs τ} (N : σ → List Sl) (hw : Wk S (N s0)) (hc : ∀ s, SB C c (N s) X (cm s) fun k S1 m1 => m1 = .ok k ∧ Wk S1 (N s)) (hb : ∀ s, SS C p (N s) X (f s) (NxP N))
    (k : ∀ s, SS C ss (N s) X (g s) P) : SS C (.cons (.wh n c p) ss) S X ((whM cm f n s0).bd g) P := by
  intro e he
  show Sat _ P X ((exS C (.wh n c p) e).seq _)
  simp only [exS]
  exact sat_nx (whil_of hc (fun s e he => hb s e he) n s0 e (hw e he)) k
theorem ss_who {σ ρ : Type} {n : Nat} {s0 : σ} {cm : σ → Rs Bool} {f : σ → Rs (O σ ρ)} {g : σ → Rs τ} (N : σ → List Sl) (w : ρ → τ) (hw : Wk S (N s0)) (hc : ∀ s, SB C c (N s) X (cm s) fun k S1 m1 => m1 = .ok k ∧ Wk S1 (N s)) (hb : ∀ s, SS C p (N s) X (f s) (OP N w P))
    (k : ∀ s, SS C ss (N s) X (g s) P) : SS C (.cons (.wh n c p) ss) S X ((whO cm f n s0).obd w g) P := by
  intro e he
  show Sat _ P X ((exS C (.wh n c p) e).seq _)
  simp only [exS]
  exact sat_op (whil_ofo hc (fun s e he => hb s e he) n s0 e (hw e he)) k
/-! ### errors caught -/
def Rs.calm {α : Type} (m : Rs α) : Rs α :=
  match m with
  | .exc _ => .bad
  | r => r
def Rs.tr {α : Type} (m : Rs α) (cs : Nat → Bool) (h : Rs α) : Rs α :=
  match m with
  | .exc c => if cs c = true then h.calm else .exc c
  | r => r
/-- an answer by the error's class -/
def Rs.trf {α : Type} (m : Rs α) (cs : Nat → Bool) (h : Nat → Option α) : Rs α :=
  match m with
  | .exc c => if cs c = true then (match h c with
    | some x => .ok x
    | none => .bad) else .exc c
  | r => r
theorem Sat.calm {m : Rs τ} {r : SR} (h : Sat m P X r) (hp : ∀ x c e, ¬ P x (.exc c e)) : Sat m.calm P X r.calm := by
  cases m with
  | ok x =>
    show P x r.calm
    have : P x r := h
    cases r with
    | exc c e => exact absurd this (hp x c e)
    | _ => exact this
  | exc c => trivial
  | bad => trivial
theorem ss_tr {σ ρ : Type} {cs : Nat → Bool} {mb mh : Rs (O σ ρ)} {g : σ → Rs τ} (N : σ → List Sl) (w : ρ → τ) (hb : SS C p S X mb (OP N w P)) (hh : SS C q X X mh (OP N w P)) (k : ∀ s, SS C ss (N s) X (g s) P) : SS C (.cons (.tr p cs q) ss) S X ((mb.tr cs mh).obd w g) P := by
  intro e he
  show Sat _ P X ((exS C (.tr p cs q) e).seq _)
  refine sat_op ?_ k
  simp only [exS]
  have := hb e he
  cases q1 : mb with
  | ok o =>
    rw [q1] at this
    cases o with
    | nx s =>
      obtain ⟨e', h1, h2⟩ := this
      rw [h1]; exact ⟨e', rfl, h2⟩
    | rt x =>
      obtain ⟨⟨t, e', h1⟩, h2⟩ := this
      rw [h1] at h2 ⊢; exact ⟨⟨t, e', rfl⟩, h2⟩
  | exc c =>
    rw [q1] at this
    obtain ⟨e', h1, h2⟩ := this
    rw [h1]
    simp only [Rs.tr]
    by_cases hc : cs c = true
    · simp only [hc, if_true]
      refine Sat.calm (hh e' h2) fun x c' e2 h3 => ?_
      cases x with
      | nx s => obtain ⟨_, h4, _⟩ := h3; cases h4
      | rt r => obtain ⟨⟨_, _, h4⟩, _⟩ := h3; cases h4
    · simp only [hc, if_false]
      exact ⟨e', rfl, h2⟩
  | bad => trivial
theorem ss_trf {α σ : Type} {F : α → Sl × List Sl} {cs : Nat → Bool} {mb : Rs (O σ α)} {hf : Nat → Option PyData} {ht : Nat → Option (O σ α)} {g : σ → Rs τ} (N : σ → List Sl) (w : α → τ) (ha : Ans F w P) (hb : SS C p S X mb (OP N w P))
    (hh : ∀ c o, ht c = some o → ∃ x d, o = .rt x ∧ hf c = some d ∧ scal d = true ∧ Has (F x).1 (some (.d d)) ∧ Wk X (F x).2) (k : ∀ s, SS C ss (N s) X (g s) P) : SS C (.cons (.trf p cs hf) ss) S X ((mb.trf cs ht).obd w g) P := by
  intro e he
  show Sat _ P X ((exS C (.trf p cs hf) e).seq _)
  refine sat_op ?_ k
  simp only [exS]
  have := hb e he
  cases q1 : mb with
  | ok o =>
    rw [q1] at this
    cases o with
    | nx s =>
      obtain ⟨e', h1, h2⟩ := this
      rw [h1]; exact ⟨e', rfl, h2⟩
    | rt x =>
      obtain ⟨⟨t, e', h1⟩, h2⟩ := this
      rw [h1] at h2 ⊢; exact ⟨⟨t, e', rfl⟩, h2⟩
  | exc c =>
    rw [q1] at this
    obtain ⟨e', h1, h2⟩ := this
    rw [h1]
    simp only [Rs.trf]
    by_cases hc : cs c = true
    · simp only [hc, if_true]
      cases h3 : ht c with
      | none => trivial
      | some o =>
        obtain ⟨x, d, rfl, h4, h5, h6, h7⟩ := hh c o h3
        simp only [h4, h5, if_true]
        exact ⟨⟨_, _, rfl⟩, ha x _ _ h6 (h7 _ h2)⟩
    · simp only [hc, if_false]
      exact ⟨e', rfl, h2⟩
  | bad => trivial
end
/-! ### defs -/
def cutS (ps : List Bool) (Z : List Sl) : List Sl := (ps.zip Z).map fun p => if p.1 = true then p.2 else .any
theorem cut_of : ∀ {ps : List Bool} {Z : List Sl} {e : Env}, Ok Z e → Ok (cutS ps Z) (outs ps e)
  | [], _, _, _ => by simp [cutS, outs, Ok]
  | b :: ps, [], [], _ => by simp [cutS, outs, Ok]
  | b :: ps, [], _ :: _, h => by cases h
  | b :: ps, _ :: _, [], h => by cases h
  | b :: ps, v :: Z, t :: e, h => by
    have ih := cut_of (ps := ps) h.2
    refine ⟨?_, ih⟩
    cases b with
    | true => exact h.1
    | false => trivial
theorem ok_start : ∀ {A : List Sl} {ts : List T} (n : Nat), HasL A ts → Ok (A ++ List.replicate n .no) (ts.map some ++ List.replicate n none)
  | [], [], 0, _ => trivial
  | [], [], n + 1, _ => by
    have := ok_start (A := []) (ts := []) n trivial
    exact ⟨.inl rfl, this⟩
  | [], _ :: _, _, h => by cases h
  | _ :: _, [], _, h => by cases h
  | _ :: _, _ :: _, n, h => ⟨h.1, ok_start n h.2⟩
theorem HasL.len : ∀ {A : List Sl} {ts : List T}, HasL A ts → A.length = ts.length
  | [], [], _ => rfl
  | [], _ :: _, h => by cases h
  | _ :: _, [], h => by cases h
  | _ :: _, _ :: _, h => by simp only [List.length_cons, HasL.len h.2]
/-- a def's promise, from its body -/
theorem fn_of {α : Type} {C : Orc} {Df : Def} {m : Rs α} {F : α → Sl × List Sl} {X A : List Sl} (hA : A.length = Df.ps.length) (h : SS C Df.body (A ++ List.replicate (Df.n - A.length) .no) X m (RetP F)) {ts : List T} (ht : HasL A ts) :
    CSat m (fun x => ((F x).1, cutS Df.ps (F x).2)) (cutS Df.ps X) (Df.run C ts) := by
  have hl := ht.len
  have := h _ (ok_start _ ht)
  rw [hl] at this
  unfold Def.run
  rw [if_pos (by omega)]
  cases q : m with
  | ok x =>
    rw [q] at this
    rcases this with ⟨t, e, h1, h2, h3⟩ | ⟨e, h1, h2, h3⟩
    · rw [h1]; exact ⟨t, _, rfl, h2, cut_of h3⟩
    · rw [h1]; exact ⟨_, _, rfl, h2, cut_of h3⟩
  | exc c =>
    rw [q] at this
    obtain ⟨e, h1, h2⟩ := this
    rw [h1]; exact ⟨_, rfl, cut_of h2⟩
  | bad => trivial
end Mv.Sh
end
section
set_option Elab.async false
set_option linter.all false
set_option maxHeartbeats 4000000
set_option maxRecDepth 10000
/-! Sh: operations on typed values. -/
namespace Mv.Sh
open PySem L2 PySem.W
open Dt (D)

/-! ### types whose values are told apart, and sorted -/
class LDt (α : Type) [DecidableEq α] [Dt α] where
  n : Nat
  plain : ∀ a : α, (D a).plain = true
  eqv : ∀ a b : α, PyData.eqv (D a) (D b) = decide (a = b)
  dep : ∀ a : α, (D a).depth ≤ n
/-- as the kit's class -/
@[reducible] def LDt.dm (α : Type) [DecidableEq α] [Dt α] [LDt α] : Datum α := ⟨D, LDt.plain, LDt.eqv, LDt.n α, LDt.dep⟩
instance : LDt Int := ⟨0, Datum.plain (α := Int), Datum.eqv (α := Int), Datum.depth_le (α := Int)⟩
instance : LDt Bool := ⟨0, Datum.plain (α := Bool), Datum.eqv (α := Bool), Datum.depth_le (α := Bool)⟩
instance : LDt Str := ⟨0, Datum.plain (α := Str), Datum.eqv (α := Str), Datum.depth_le (α := Str)⟩
instance : LDt Unit := ⟨0, Datum.plain (α := Unit), Datum.eqv (α := Unit), Datum.depth_le (α := Unit)⟩
section
variable {α β γ δ : Type} [DecidableEq α] [Dt α] [LDt α] [DecidableEq β] [Dt β] [LDt β] [DecidableEq γ] [Dt γ] [LDt γ] [DecidableEq δ] [Dt δ] [LDt δ]
instance : LDt (List α) := letI := LDt.dm α; ⟨LDt.n α + 1, Datum.plain (α := List α), Datum.eqv (α := List α), Datum.depth_le (α := List α)⟩
instance : LDt (Tup α) := letI := LDt.dm α; ⟨LDt.n α + 1, Datum.plain (α := Tup α), Datum.eqv (α := Tup α), Datum.depth_le (α := Tup α)⟩
instance : LDt (α × β) := letI := LDt.dm α; letI := LDt.dm β; ⟨max (LDt.n α) (LDt.n β) + 1, Datum.plain (α := α × β), Datum.eqv (α := α × β), Datum.depth_le (α := α × β)⟩
instance : LDt (T3 α β γ) := letI := LDt.dm α; letI := LDt.dm β; letI := LDt.dm γ; ⟨max (max (LDt.n α) (LDt.n β)) (LDt.n γ) + 1, Datum.plain (α := T3 α β γ), Datum.eqv (α := T3 α β γ), Datum.depth_le (α := T3 α β γ)⟩
end
/-- never None -/
class NN (α : Type) [Dt α] : Prop where
  nn : ∀ a : α, D a ≠ .none
instance : NN Int := ⟨fun _ h => nomatch h⟩
instance : NN Bool := ⟨fun _ h => nomatch h⟩
instance : NN Str := ⟨fun _ h => nomatch h⟩
instance {α : Type} [Dt α] : NN (List α) := ⟨fun _ h => nomatch h⟩
instance {α β : Type} [Dt α] [Dt β] : NN (α × β) := ⟨fun _ h => nomatch h⟩
instance {α β γ : Type} [Dt α] [Dt β] [Dt γ] : NN (T3 α β γ) := ⟨fun _ h => nomatch h⟩
instance {α : Type} [Dt α] : NN (Tup α) := ⟨fun _ h => nomatch h⟩
theorem eqv_nn : ∀ x : PyData, x ≠ .none → PyData.eqv .none x = false
  | .none, h => absurd rfl h
  | .bool _, _ | .int _, _ | .str _, _ | .list _, _ | .tuple _, _ | .dict _, _ => by simp only [PyData.eqv]
theorem eqv_nn' : ∀ x : PyData, x ≠ .none → PyData.eqv x .none = false
  | .none, h => absurd rfl h
  | .bool _, _ | .int _, _ | .str _, _ | .list _, _ | .tuple _, _ | .dict _, _ => by simp only [PyData.eqv]
instance {α : Type} [DecidableEq α] [Dt α] [LDt α] [NN α] : LDt (Option α) := ⟨LDt.n α, fun a => by cases a with | none => rfl | some a => exact LDt.plain a, fun a b => by
    cases a with
    | none =>
      cases b with
      | none => show PyData.eqv .none .none = _; simp only [PyData.eqv]; rfl
      | some b => exact (eqv_nn _ (NN.nn b)).trans (by simp)
    | some a =>
      cases b with
      | none => exact (eqv_nn' _ (NN.nn a)).trans (by simp)
      | some b => exact (LDt.eqv a b).trans (by simp),
  fun a => by cases a with | none => exact Nat.zero_le _ | some a => exact LDt.dep a⟩
def isT1 : PyData → Bool
  | .tuple (_ :: _) => true
  | _ => false
def nonT : PyData → Bool
  | .none => false
  | .tuple _ => false
  | _ => true
class ODt (α : Type) [DecidableEq α] [Dt α] [LDt α] where
  lt : α → α → Bool
  alike : ∀ a b : α, PySem.W.alike (D a) (D b) = true
  notNone : ∀ a : α, D a ≠ .none
  lt_eq : ∀ a b : α, dataLt (D a) (D b) = lt a b
  srt : (∀ a : α, isT1 (D a) = true) ∨ (∀ a : α, nonT (D a) = true)
@[reducible] def ODt.dm (α : Type) [DecidableEq α] [Dt α] [LDt α] [ODt α] : DatumOrd α := { LDt.dm α with lt := ODt.lt, alike := ODt.alike, notNone := ODt.notNone, lt_eq := ODt.lt_eq }
instance : ODt Int := ⟨DatumOrd.lt, DatumOrd.alike (α := Int), DatumOrd.notNone (α := Int), DatumOrd.lt_eq (α := Int), .inr fun _ => rfl⟩
instance : ODt Str := ⟨DatumOrd.lt, DatumOrd.alike (α := Str), DatumOrd.notNone (α := Str), DatumOrd.lt_eq (α := Str), .inr fun _ => rfl⟩
section
variable {α β γ δ : Type} [DecidableEq α] [Dt α] [LDt α] [ODt α] [DecidableEq β] [Dt β] [LDt β] [ODt β] [DecidableEq γ] [Dt γ] [LDt γ] [ODt γ]
instance : ODt (List α) := letI := ODt.dm α; ⟨DatumOrd.lt, DatumOrd.alike (α := List α), DatumOrd.notNone (α := List α), DatumOrd.lt_eq (α := List α), .inr fun _ => rfl⟩
instance : ODt (α × β) := letI := ODt.dm α; letI := ODt.dm β; ⟨DatumOrd.lt, DatumOrd.alike (α := α × β), DatumOrd.notNone (α := α × β), DatumOrd.lt_eq (α := α × β), .inl fun _ => rfl⟩
instance : ODt (T3 α β γ) := letI := ODt.dm α; letI := ODt.dm β; letI := ODt.dm γ; ⟨DatumOrd.lt, DatumOrd.alike (α := T3 α β γ), DatumOrd.notNone (α := T3 α β γ), DatumOrd.lt_eq (α := T3 α β γ), .inl fun _ => rfl⟩
/-- the order by which lists are sorted -/
def leT (x y : α) : Bool := !ODt.lt y x
theorem leD_D (x y : α) : leD (D x) (D y) = leT x y := by
  unfold leD leT
  rw [dataLe_eq]
  simp only [cond_false, id_eq]
  rw [ODt.lt_eq]
theorem ins_mapD (le : α → α → Bool) (h : ∀ x y, leD (D x) (D y) = le x y) (a : α) : ∀ xs : List α, ins leD (D a) (xs.map D) = (ins le a xs).map D
  | [] => rfl
  | b :: r => by
    simp only [List.map_cons, ins, h]
    split
    · rfl
    · rw [ins_mapD le h a r]; rfl
theorem isort_mapD (le : α → α → Bool) (h : ∀ x y, leD (D x) (D y) = le x y) : ∀ xs : List α, isort leD (xs.map D) = (isort le xs).map D
  | [] => rfl
  | a :: r => by
    simp only [List.map_cons, isort]
    rw [isort_mapD le h r, ins_mapD le h]
theorem depthAll_D : ∀ xs : List α, PyData.depthAll (xs.map D) ≤ LDt.n α
  | [] => Nat.zero_le _
  | x :: xs => by
    rw [List.map_cons, PyData.depthAll]
    exact Nat.max_le.mpr ⟨LDt.dep x, depthAll_D xs⟩
theorem sorted_D (xs : List α) (hd : LDt.n α ≤ 60) : sorted (xs.map D) = some ((isort leT xs).map D) := by
  have ha : alikeB (xs.map (D (α := α))) = true := by
    unfold alikeB
    refine List.all_eq_true.mpr fun x hx => List.all_eq_true.mpr fun y hy => ?_
    obtain ⟨a, _, rfl⟩ := List.mem_map.mp hx
    obtain ⟨b, _, rfl⟩ := List.mem_map.mp hy
    exact ODt.alike a b
  have hs : sortB (xs.map (D (α := α))) = true := by
    unfold sortB
    rw [Bool.or_eq_true]
    rcases ODt.srt (α := α) with h | h
    · left
      refine List.all_eq_true.mpr fun x hx => ?_
      obtain ⟨a, _, rfl⟩ := List.mem_map.mp hx
      have := h a
      revert this
      generalize D a = z
      intro hz
      unfold isT1 at hz
      split at hz
      · rfl
      · cases hz
    · right
      refine List.all_eq_true.mpr fun x hx => ?_
      obtain ⟨a, _, rfl⟩ := List.mem_map.mp hx
      have := h a
      revert this
      generalize D a = z
      intro hz
      unfold nonT at hz
      cases z <;> first | rfl | cases hz
  have b := depthAll_D xs
  unfold sorted
  rw [if_pos ⟨ha, hs, by omega⟩, isort_mapD leT leD_D]
end
theorem depthAll_L {α : Type} [DecidableEq α] [Dt α] [LDt α] : ∀ xs : List α, PyData.depthAll (xs.map D) ≤ LDt.n α
  | [] => Nat.zero_le _
  | x :: xs => by
    rw [List.map_cons, PyData.depthAll]
    exact Nat.max_le.mpr ⟨LDt.dep x, depthAll_L xs⟩
theorem any_D {α : Type} [DecidableEq α] [Dt α] [LDt α] (x : α) : ∀ ys : List α, ((ys.map D).any fun z => PyData.eqv z (D x)) = decide (x ∈ ys)
  | [] => rfl
  | y :: ys => by
    rw [List.map_cons, List.any_cons, LDt.eqv, any_D x ys]
    by_cases h : y = x
    · subst h; simp
    · have : ¬ x = y := fun e => h e.symm
      simp [h, this]

/-! ### typed dicts -/
/-- a key's type -/
class Ky (κ : Type) [DecidableEq κ] [Dt κ] where
  K : κ → Key
  inj : ∀ a b, K a = K b → a = b
  key : ∀ a, key? (.d (D a)) = some (K a)
instance : Ky Int := ⟨.inl, fun _ _ h => Sum.inl.inj h, fun _ => rfl⟩
instance : Ky Str := ⟨.inr, fun _ _ h => Sum.inr.inj h, fun _ => rfl⟩
section
variable {κ ν : Type} [DecidableEq κ] [Dt κ] [Ky κ] [Dt ν]
def Ms (d : List (κ × ν)) : List (Key × PyData) := d.map fun p => (Ky.K p.1, D p.2)
def dfind (d : List (κ × ν)) (k : κ) : Option ν := (d.find? fun p => decide (p.1 = k)).map (·.2)
def dhas (d : List (κ × ν)) (k : κ) : Bool := d.any fun p => decide (p.1 = k)
def dput (d : List (κ × ν)) (k : κ) (v : ν) : List (κ × ν) := if dhas d k = true then d.map (fun p => if p.1 = k then (p.1, v) else p) else d ++ [(k, v)]
def dOf (l : List (κ × ν)) : List (κ × ν) := l.foldl (fun a p => dput a p.1 p.2) []
def dget (d : List (κ × ν)) (k : κ) : Rs ν := match dfind d k with
  | some v => .ok v
  | none => .bad
@[irreducible] def dset (d : List (κ × ν)) (k : κ) (v : ν) : Rs (List (κ × ν)) := if d.length < LINE then .ok (dput d k v) else .bad
theorem K_eq (a b : κ) : decide (Ky.K a = Ky.K b) = decide (a = b) := decide_eq_decide.mpr ⟨Ky.inj a b, fun h => by rw [h]⟩
theorem find_Ms (d : List (κ × ν)) (k : κ) : find (Ms d) (Ky.K k) = (dfind d k).map D := by
  unfold find Ms dfind
  induction d with
  | nil => rfl
  | cons p d ih =>
    simp only [List.map_cons, List.find?_cons, K_eq]
    cases decide (p.1 = k) with
    | true => rfl
    | false => exact ih
theorem has_Ms (d : List (κ × ν)) (k : κ) : ((Ms d).any fun p => decide (p.1 = Ky.K k)) = dhas d k := by
  unfold Ms dhas
  rw [List.any_map]
  congr 1
  funext p
  exact K_eq _ _
theorem put_Ms (d : List (κ × ν)) (k : κ) (v : ν) : put (Ms d) (Ky.K k) (D v) = Ms (dput d k v) := by
  unfold put dput
  rw [has_Ms]
  by_cases h : dhas d k = true
  · rw [if_pos h, if_pos h]
    unfold Ms
    rw [List.map_map, List.map_map]
    apply List.map_congr_left
    intro p _
    by_cases c : p.1 = k
    · simp [c]
    · have : ¬ Ky.K p.1 = Ky.K k := fun e => c (Ky.inj _ _ e)
      simp [c, this]
  · rw [if_neg h, if_neg h]
    simp [Ms]
theorem putAll_Ms (l : List (κ × ν)) : putAll (Ms l) = Ms (dOf l) := by
  have key : ∀ (l d : List (κ × ν)), (Ms l).foldl (fun a p => put a p.1 p.2) (Ms d) = Ms (l.foldl (fun a p => dput a p.1 p.2) d) := by
    intro l
    induction l with
    | nil => intro d; rfl
    | cons p l ih =>
      intro d
      show (Ms l).foldl _ (put (Ms d) (Ky.K p.1) (D p.2)) = _
      rw [put_Ms, ih]; rfl
  exact key l []
theorem pairs_Ms : ∀ l : List (κ × ν), pairs? (l.map D) = some (Ms l)
  | [] => rfl
  | p :: l => by
    show pairs? (.tuple [D p.1, D p.2] :: l.map D) = _
    simp only [pairs?, Ky.key, pairs_Ms l]
    rfl
end
/-! ### typed operations -/
def mem {α : Type} [DecidableEq α] (x : α) (ys : List α) : Bool := decide (x ∈ ys)
@[irreducible] def cat {α : Type} (xs ys : List α) : Rs (List α) := if xs.length + ys.length ≤ LINE then .ok (xs ++ ys) else .bad
@[irreducible] def app {α : Type} (xs : List α) (y : α) : Rs (List α) := if xs.length < LINE then .ok (xs ++ [y]) else .bad
@[irreducible] def insr {α : Type} (xs : List α) (i : Int) (y : α) : Rs (List α) := if xs.length < LINE ∧ 0 ≤ i ∧ i ≤ xs.length then .ok (xs.take i.toNat ++ y :: xs.drop i.toNat) else .bad
def ixL {α : Type} (xs : List α) (i : Int) : Rs α := match atI xs i with
  | some x => .ok x
  | none => .bad
def setL {α : Type} (xs : List α) (i : Int) (y : α) : Rs (List α) := match ixN xs.length i with
  | some j => .ok (xs.set j y)
  | none => .bad
def ixS (z : Str) (i : Int) : Rs Str := match atI z.cps.toList i with
  | some c => .ok ⟨#[c]⟩
  | none => .bad
@[irreducible] def scat (a b : Str) : Rs Str := if a.length + b.length ≤ LINE then .ok (a ++ b) else .bad
@[irreducible] def mulI (i j : Int) : Rs Int := if i.natAbs < 2 ^ 64 ∨ j.natAbs < 2 ^ 64 then .ok (i * j) else .bad
@[irreducible] def fdivI (i j : Int) : Rs Int := if 0 < j ∧ j < 1073741824 then .ok (i / j) else .bad
@[irreducible] def modI (i j : Int) : Rs Int := if 0 < j then .ok (i % j) else .bad
@[irreducible] def powI (i j : Int) : Rs Int := if 0 ≤ j ∧ j ≤ 1000000 ∧ i.natAbs < 2 ^ 64 then .ok (i ^ j.toNat) else .bad
def absI (i : Int) : Int := if i < 0 then -i else i
def minI2 (i j : Int) : Int := if j < i then j else i
def maxI2 (i j : Int) : Int := if j > i then j else i
def maxL (xs : List Int) : Rs Int := match maxI xs with
  | some x => .ok x
  | none => .bad
def minL (xs : List Int) : Rs Int := match minI xs with
  | some x => .ok x
  | none => .bad
@[irreducible] def strI (i : Int) : Rs Str := if i.natAbs.log2 < 1920 ∧ strB (toString i : String) = true then .ok (toString i : String) else .bad
@[irreducible] def joinS (z : Str) (xs : List Str) : Rs Str := if (xs.map Str.length).sum + xs.length * z.length ≤ LINE then .ok (Str.join z xs) else .bad
def idxL {α : Type} [DecidableEq α] (xs : List α) (x : α) : Rs Int := match xs.findIdx? fun z => decide (z = x) with
  | some j => .ok (j : Nat)
  | none => .bad
@[irreducible] def eqX (x y : PyData) : Rs Bool := if x.depth ≤ 60 ∧ y.depth ≤ 60 then .ok (PyData.eqv x y) else .bad
def sLt (a b : Str) : Bool := decide (a.cps.toList < b.cps.toList)
def sIn (a b : Str) : Bool := !(Builtin.Str.occurrences b a 0 b.length 1).isEmpty
def strsOf (z : Str) : List Str := z.cps.toList.map fun c => ⟨#[c]⟩
def cutS' (z : Str) (lo hi : Option Int) : Str := ⟨(cut z.cps.toList lo hi).toArray⟩
theorem chars_D (z : Str) : chars z = (strsOf z).map D := by unfold chars strsOf; rw [List.map_map]; rfl
theorem atI_map {α β : Type} (f : α → β) (xs : List α) (i : Int) : atI (xs.map f) i = (atI xs i).map f := by
  unfold atI
  rw [List.length_map]
  cases ixN xs.length i with
  | none => rfl
  | some j => simp
theorem cut_map {α β : Type} (f : α → β) (xs : List α) (lo hi : Option Int) : cut (xs.map f) lo hi = (cut xs lo hi).map f := by
  unfold cut
  rw [List.length_map, List.map_take, List.map_drop]
section
variable {τ : Type} {C : Orc} {S X : List Sl} {m : Rs τ} {v w : Sl} {Q : Sl → List Sl → Rs τ → Prop} {i j : Int}
theorem dat_full {x : PyData} (h : dat v = some x) : full v = true := by cases v <;> first | rfl | cases h
theorem lst_full {x : List PyData} (h : lst v = some x) : full v = true := by cases v <;> first | rfl | cases h
theorem lst_dat {x : List PyData} (h : lst v = some x) : dat v = some (.list x) := by
  cases v with
  | f y => cases y <;> simp [lst] at h; subst h; rfl
  | d y => cases y <;> simp [lst] at h; subst h; rfl
  | l y => simp [lst] at h; subst h; rfl
  | _ => cases h
/-! whole numbers -/
theorem a_addI (h1 : dat v = some (.int i)) (h2 : dat w = some (.int j)) (k : Q (.f (.int (i + j))) S m) : A2 (bin .add) v w S X m Q := .p (dat_full h1) (dat_full h2) (fun t t' a b => by rw [a.int h1, b.int h2]; exact ⟨_, rfl, rfl⟩) k
theorem a_subI (h1 : dat v = some (.int i)) (h2 : dat w = some (.int j)) (k : Q (.f (.int (i - j))) S m) : A2 (bin .sub) v w S X m Q := .p (dat_full h1) (dat_full h2) (fun t t' a b => by rw [a.int h1, b.int h2]; exact ⟨_, rfl, rfl⟩) k
theorem a_mulI {g : Int → Rs τ} (h1 : dat v = some (.int i)) (h2 : dat w = some (.int j)) (k : ∀ y, Q (.f (.int y)) S (g y)) : A2 (bin .mul) v w S X ((mulI i j).bd g) Q := .mo (F := fun y => .f (.int y)) (dat_full h1) (dat_full h2) (fun t t' a b => by
  rw [a.int h1, b.int h2]; unfold mulI
  by_cases c : i.natAbs < 2 ^ 64 ∨ j.natAbs < 2 ^ 64
  · rw [if_pos c]; exact .inr ⟨_, rfl, _, by simp only [bin, c, if_true] <;> rfl, rfl⟩
  · rw [if_neg c]; exact .inl rfl) k
theorem a_fdivI {g : Int → Rs τ} (h1 : dat v = some (.int i)) (h2 : dat w = some (.int j)) (k : ∀ y, Q (.f (.int y)) S (g y)) : A2 (bin .fdiv) v w S X ((fdivI i j).bd g) Q := .mo (F := fun y => .f (.int y)) (dat_full h1) (dat_full h2) (fun t t' a b => by
  rw [a.int h1, b.int h2]; unfold fdivI
  by_cases c : 0 < j ∧ j < 1073741824
  · rw [if_pos c]; exact .inr ⟨_, rfl, _, by simp only [bin, c, and_self, if_true] <;> rfl, rfl⟩
  · rw [if_neg c]; exact .inl rfl) k
theorem a_modI {g : Int → Rs τ} (h1 : dat v = some (.int i)) (h2 : dat w = some (.int j)) (k : ∀ y, Q (.f (.int y)) S (g y)) : A2 (bin .mod) v w S X ((modI i j).bd g) Q := .mo (F := fun y => .f (.int y)) (dat_full h1) (dat_full h2) (fun t t' a b => by
  rw [a.int h1, b.int h2]; unfold modI
  by_cases c : 0 < j
  · rw [if_pos c]; exact .inr ⟨_, rfl, _, by simp only [bin, c, if_true] <;> rfl, rfl⟩
  · rw [if_neg c]; exact .inl rfl) k
theorem a_powI {g : Int → Rs τ} (h1 : dat v = some (.int i)) (h2 : dat w = some (.int j)) (k : ∀ y, Q (.f (.int y)) S (g y)) : A2 (bin .pow) v w S X ((powI i j).bd g) Q := .mo (F := fun y => .f (.int y)) (dat_full h1) (dat_full h2) (fun t t' a b => by
  rw [a.int h1, b.int h2]; unfold powI
  by_cases c : 0 ≤ j ∧ j ≤ 1000000 ∧ i.natAbs < 2 ^ 64
  · rw [if_pos c]; exact .inr ⟨_, rfl, _, by simp only [bin, c, and_self, if_true] <;> rfl, rfl⟩
  · rw [if_neg c]; exact .inl rfl) k
theorem Has.fixD {t : T} {x : PyData} (h : Has v (some t)) (hd : Sh.dat v = some x) (hx : isL x = false) : t = .d x := by
  cases v <;> simp [Sh.dat] at hd <;> subst hd
  · cases h; rfl
  · rcases h with h | ⟨_, e, _⟩
    · cases h; rfl
    · subst e; cases hx
  · cases hx
theorem a_addS {a b : Str} {g : Str → Rs τ} (h1 : dat v = some (.str a)) (h2 : dat w = some (.str b)) (k : ∀ y, Q (.f (.str y)) S (g y)) : A2 (bin .add) v w S X ((scat a b).bd g) Q := .mo (F := fun y => .f (.str y)) (dat_full h1) (dat_full h2) (fun t t' p q => by
  rw [p.fixD h1 rfl, q.fixD h2 rfl]; unfold scat
  by_cases c : a.length + b.length ≤ LINE
  · rw [if_pos c]; exact .inr ⟨_, rfl, _, by simp only [bin, c, if_true] <;> rfl, rfl⟩
  · rw [if_neg c]; exact .inl rfl) k
theorem a_cat {α : Type} [Dt α] {xs ys : List α} {g : List α → Rs τ} (h1 : lst v = some (xs.map D)) (h2 : lst w = some (ys.map D)) (k : ∀ zs : List α, Q (.l (zs.map D)) S (g zs)) : A2 (bin .add) v w S X ((cat xs ys).bd g) Q := .mo (F := fun zs : List α => .l (zs.map D)) (lst_full h1) (lst_full h2) (fun t t' p q => by
  have e : bin .add t t' = binL t t' := by rcases p.lst h1 with e | e <;> rcases q.lst h2 with f | f <;> subst e f <;> rfl
  rw [e]; unfold cat binL
  rw [p.list? h1, q.list? h2]
  simp only [List.length_map]
  by_cases c : xs.length + ys.length ≤ LINE
  · rw [if_pos c]; exact .inr ⟨_, rfl, _, by simp only [c, if_true] <;> rfl, by simp [Has]⟩
  · rw [if_neg c]; exact .inl rfl) k
/-! comparisons -/
theorem a_eq {α : Type} [DecidableEq α] [Dt α] [LDt α] {x y : α} (h1 : dat v = some (D x)) (h2 : dat w = some (D y)) (k : Q (.f (.bool (decide (x = y)))) S m) (hd : LDt.n α ≤ 60 := by decide) : A2 (fun t u => bl? (cmp .eq t u)) v w S X m Q := .p (dat_full h1) (dat_full h2) (fun t t' a b => by
  have d1 := LDt.dep x; have d2 := LDt.dep y
  refine ⟨.d (.bool (decide (x = y))), ?_, rfl⟩
  simp only [cmp, eqT, (a.dat h1).2, (b.dat h2).2]
  rw [if_pos ⟨by omega, by omega⟩, LDt.eqv]; rfl) k
theorem a_ne {α : Type} [DecidableEq α] [Dt α] [LDt α] {x y : α} (h1 : dat v = some (D x)) (h2 : dat w = some (D y)) (k : Q (.f (.bool (!decide (x = y)))) S m) (hd : LDt.n α ≤ 60 := by decide) : A2 (fun t u => bl? (cmp .ne t u)) v w S X m Q := .p (dat_full h1) (dat_full h2) (fun t t' a b => by
  have d1 := LDt.dep x; have d2 := LDt.dep y
  refine ⟨.d (.bool (!decide (x = y))), ?_, rfl⟩
  simp only [cmp, eqT, (a.dat h1).2, (b.dat h2).2]
  rw [if_pos ⟨by omega, by omega⟩, LDt.eqv]; rfl) k
theorem a_eqX {x y : PyData} {g : Bool → Rs τ} (h1 : dat v = some x) (h2 : dat w = some y) (k : ∀ b, Q (.f (.bool b)) S (g b)) : A2 (fun t u => bl? (cmp .eq t u)) v w S X ((eqX x y).bd g) Q := .mo (F := fun b => .f (.bool b)) (dat_full h1) (dat_full h2) (fun t t' a b => by
  unfold eqX
  by_cases c : x.depth ≤ 60 ∧ y.depth ≤ 60
  · rw [if_pos c]; exact .inr ⟨_, rfl, _, by simp only [cmp, eqT, (a.dat h1).2, (b.dat h2).2, c, and_self, if_true] <;> rfl, rfl⟩
  · rw [if_neg c]; exact .inl rfl) k
theorem a_neX {x y : PyData} {g : Bool → Rs τ} (h1 : dat v = some x) (h2 : dat w = some y) (k : ∀ b, Q (.f (.bool (!b))) S (g b)) : A2 (fun t u => bl? (cmp .ne t u)) v w S X ((eqX x y).bd g) Q := .mo (F := fun b => .f (.bool (!b))) (dat_full h1) (dat_full h2) (fun t t' a b => by
  unfold eqX
  by_cases c : x.depth ≤ 60 ∧ y.depth ≤ 60
  · rw [if_pos c]; exact .inr ⟨_, rfl, _, by simp only [cmp, eqT, (a.dat h1).2, (b.dat h2).2, c, and_self, if_true] <;> rfl, rfl⟩
  · rw [if_neg c]; exact .inl rfl) k
theorem a_ltI (h1 : dat v = some (.int i)) (h2 : dat w = some (.int j)) (k : Q (.f (.bool (decide (i < j)))) S m) : A2 (fun t u => bl? (cmp .lt t u)) v w S X m Q := .p (dat_full h1) (dat_full h2) (fun t t' a b => by rw [a.int h1, b.int h2]; exact ⟨_, rfl, rfl⟩) k
theorem a_leI (h1 : dat v = some (.int i)) (h2 : dat w = some (.int j)) (k : Q (.f (.bool (decide (i ≤ j)))) S m) : A2 (fun t u => bl? (cmp .le t u)) v w S X m Q := .p (dat_full h1) (dat_full h2) (fun t t' a b => by rw [a.int h1, b.int h2]; exact ⟨_, rfl, rfl⟩) k
theorem a_gtI (h1 : dat v = some (.int i)) (h2 : dat w = some (.int j)) (k : Q (.f (.bool (decide (j < i)))) S m) : A2 (fun t u => bl? (cmp .gt t u)) v w S X m Q := .p (dat_full h1) (dat_full h2) (fun t t' a b => by rw [a.int h1, b.int h2]; exact ⟨_, rfl, rfl⟩) k
theorem a_geI (h1 : dat v = some (.int i)) (h2 : dat w = some (.int j)) (k : Q (.f (.bool (decide (j ≤ i)))) S m) : A2 (fun t u => bl? (cmp .ge t u)) v w S X m Q := .p (dat_full h1) (dat_full h2) (fun t t' a b => by rw [a.int h1, b.int h2]; exact ⟨_, rfl, rfl⟩) k
theorem a_ltS {a b : Str} (h1 : dat v = some (.str a)) (h2 : dat w = some (.str b)) (k : Q (.f (.bool (sLt a b))) S m) : A2 (fun t u => bl? (cmp .lt t u)) v w S X m Q := .p (dat_full h1) (dat_full h2) (fun t t' p q => by rw [p.fixD h1 rfl, q.fixD h2 rfl]; exact ⟨_, rfl, rfl⟩) k
theorem isIn_l {α : Type} [DecidableEq α] [Dt α] [LDt α] {x : α} {ys : List α} {t u : T} (h1 : t.data? = some (D x)) (h2 : u = .d (.list (ys.map D)) ∨ u = .l (ys.map D)) (hd : LDt.n α ≤ 60) : isIn t u = some (decide (x ∈ ys)) := by
  have a := LDt.dep x
  have b := depthAll_L ys
  rcases h2 with rfl | rfl <;> simp only [isIn, h1, T.list?] <;> rw [if_pos ⟨by omega, by omega⟩, any_D]
theorem a_in {α : Type} [DecidableEq α] [Dt α] [LDt α] {x : α} {ys : List α} (h1 : dat v = some (D x)) (h2 : lst w = some (ys.map D)) (k : Q (.f (.bool (mem x ys))) S m) (hd : LDt.n α ≤ 60 := by decide) : A2 (fun t u => bl? (cmp .isin t u)) v w S X m Q := .p (dat_full h1) (lst_full h2) (fun t t' a b => by
  refine ⟨.d (.bool (mem x ys)), ?_, rfl⟩
  simp only [cmp]; rw [isIn_l (a.dat h1).2 (b.lst h2) hd]; rfl) k
theorem a_nin {α : Type} [DecidableEq α] [Dt α] [LDt α] {x : α} {ys : List α} (h1 : dat v = some (D x)) (h2 : lst w = some (ys.map D)) (k : Q (.f (.bool (!mem x ys))) S m) (hd : LDt.n α ≤ 60 := by decide) : A2 (fun t u => bl? (cmp .notin t u)) v w S X m Q := .p (dat_full h1) (lst_full h2) (fun t t' a b => by
  refine ⟨.d (.bool (!mem x ys)), ?_, rfl⟩
  simp only [cmp]; rw [isIn_l (a.dat h1).2 (b.lst h2) hd]; rfl) k
theorem a_inS {a b : Str} (h1 : dat v = some (.str a)) (h2 : dat w = some (.str b)) (k : Q (.f (.bool (sIn a b))) S m) : A2 (fun t u => bl? (cmp .isin t u)) v w S X m Q := .p (dat_full h1) (dat_full h2) (fun t t' p q => by rw [p.fixD h1 rfl, q.fixD h2 rfl]; exact ⟨_, rfl, rfl⟩) k
theorem a_ninS {a b : Str} (h1 : dat v = some (.str a)) (h2 : dat w = some (.str b)) (k : Q (.f (.bool (!sIn a b))) S m) : A2 (fun t u => bl? (cmp .notin t u)) v w S X m Q := .p (dat_full h1) (dat_full h2) (fun t t' p q => by rw [p.fixD h1 rfl, q.fixD h2 rfl]; exact ⟨_, rfl, rfl⟩) k
section
variable {κ ν : Type} [DecidableEq κ] [Dt κ] [Ky κ] [Dt ν] {d : List (κ × ν)} {kx : κ}
theorem key_of {t : T} (h : Has v (some t)) (h1 : dat v = some (D kx)) : key? t = some (Ky.K kx) := by
  have e := Ky.key kx
  cases v <;> simp [dat] at h1
  · subst h1; cases h; exact e
  · subst h1
    rcases h with h | ⟨xs, e2, h⟩
    · cases h; exact e
    · rw [e2] at e; cases e
  · rw [← h1] at e; cases e
theorem find_has (d : List (κ × ν)) (k : κ) : (dfind d k).isSome = dhas d k := by
  unfold dfind dhas
  induction d with
  | nil => rfl
  | cons p d ih =>
    simp only [List.find?_cons, List.any_cons]
    cases decide (p.1 = k) with
    | true => rfl
    | false => exact ih
theorem a_inD (h1 : dat v = some (D kx)) (k : Q (.f (.bool (dhas d kx))) S m) : A2 (fun t u => bl? (cmp .isin t u)) v (.m (Ms d)) S X m Q := .p (dat_full h1) rfl (fun t t' a b => by
  cases b
  refine ⟨.d (.bool (dhas d kx)), ?_, rfl⟩
  simp only [cmp, isIn, key_of a h1, Option.map, find_Ms, Option.isSome_map]
  have := find_has d kx
  cases q : dfind d kx <;> simp [q] at this <;> simp [bl?, ← this]) k
theorem a_ninD (h1 : dat v = some (D kx)) (k : Q (.f (.bool (!dhas d kx))) S m) : A2 (fun t u => bl? (cmp .notin t u)) v (.m (Ms d)) S X m Q := .p (dat_full h1) rfl (fun t t' a b => by
  cases b
  refine ⟨.d (.bool (!dhas d kx)), ?_, rfl⟩
  simp only [cmp, isIn, key_of a h1, Option.map, find_Ms, Option.isSome_map]
  have := find_has d kx
  cases q : dfind d kx <;> simp [q] at this <;> simp [bl?, ← this]) k
theorem a_ixD {g : ν → Rs τ} (h1 : dat w = some (D kx)) (k : ∀ y, Q (.f (D y)) S (g y)) : A2 item (.m (Ms d)) w S X ((dget d kx).bd g) Q := .mo (F := fun y => .f (D y)) rfl (dat_full h1) (fun t t' a b => by
  cases a
  unfold dget
  cases q : dfind d kx with
  | none => exact .inl rfl
  | some y => exact .inr ⟨y, rfl, .d (D y), by simp only [item, key_of b h1, Option.bind, find_Ms, q, Option.map], rfl⟩) k
end
theorem a_isN (h2 : dat w = some .none) {x : PyData} (h1 : dat v = some x) {k : Bool} (hk : T.non (.d x) = k) (q : Q (.f (.bool k)) S m) : A2 (fun t u => bl? (cmp .is t u)) v w S X m Q := .p (dat_full h1) (dat_full h2) (fun t t' a b => by
  rw [b.fixD h2 rfl]
  refine ⟨.d (.bool k), ?_, rfl⟩
  have : t.non = k := by
    by_cases c : isL x = true
    · cases x <;> first | cases c | skip
      rename_i xs
      have hl : lst v = some xs := by cases v <;> simp [dat] at h1 <;> subst h1 <;> rfl
      rw [← hk]
      rcases a.lst hl with e | e <;> subst e <;> rfl
    · rw [a.fixD h1 (by simpa using c)]; exact hk
  simp only [cmp, isT, this]; rfl) q
theorem a_isnN (h2 : dat w = some .none) {x : PyData} (h1 : dat v = some x) {k : Bool} (hk : T.non (.d x) = k) (q : Q (.f (.bool (!k))) S m) : A2 (fun t u => bl? (cmp .isnot t u)) v w S X m Q := .p (dat_full h1) (dat_full h2) (fun t t' a b => by
  rw [b.fixD h2 rfl]
  refine ⟨.d (.bool (!k)), ?_, rfl⟩
  have : t.non = k := by
    by_cases c : isL x = true
    · cases x <;> first | cases c | skip
      rename_i xs
      have hl : lst v = some xs := by cases v <;> simp [dat] at h1 <;> subst h1 <;> rfl
      rw [← hk]
      rcases a.lst hl with e | e <;> subst e <;> rfl
    · rw [a.fixD h1 (by simpa using c)]; exact hk
  simp only [cmp, isT, this]; rfl) q
theorem non_opt {α : Type} [Dt α] [NN α] (o : Option α) : T.non (.d (D o)) = o.isNone := by
  cases o with
  | none => rfl
  | some a =>
    show T.non (.d (D a)) = false
    have := NN.nn a
    cases h : D a <;> first | exact absurd h this | rfl
theorem a_isB {a b : Bool} (h1 : dat v = some (.bool a)) (h2 : dat w = some (.bool b)) (k : Q (.f (.bool (decide (a = b)))) S m) : A2 (fun t u => bl? (cmp .is t u)) v w S X m Q := .p (dat_full h1) (dat_full h2) (fun t t' p q => by rw [p.bool h1, q.bool h2]; exact ⟨_, rfl, rfl⟩) k
theorem a_isnB {a b : Bool} (h1 : dat v = some (.bool a)) (h2 : dat w = some (.bool b)) (k : Q (.f (.bool (!decide (a = b)))) S m) : A2 (fun t u => bl? (cmp .isnot t u)) v w S X m Q := .p (dat_full h1) (dat_full h2) (fun t t' p q => by rw [p.bool h1, q.bool h2]; exact ⟨_, rfl, rfl⟩) k
theorem a_inT {α : Type} [DecidableEq α] [Dt α] [LDt α] {x : α} {ys : List α} (h1 : dat v = some (D x)) (h2 : dat w = some (.tuple (ys.map D))) (k : Q (.f (.bool (mem x ys))) S m) (hd : LDt.n α ≤ 60 := by decide) : A2 (fun t u => bl? (cmp .isin t u)) v w S X m Q := .p (dat_full h1) (dat_full h2) (fun t t' a b => by
  refine ⟨.d (.bool (mem x ys)), ?_, rfl⟩
  have d1 := LDt.dep x
  have d2 := depthAll_L ys
  rw [b.fixD h2 rfl]
  simp only [cmp, isIn, (a.dat h1).2]
  rw [if_pos ⟨by omega, by omega⟩, any_D]; rfl) k
theorem a_ninT {α : Type} [DecidableEq α] [Dt α] [LDt α] {x : α} {ys : List α} (h1 : dat v = some (D x)) (h2 : dat w = some (.tuple (ys.map D))) (k : Q (.f (.bool (!mem x ys))) S m) (hd : LDt.n α ≤ 60 := by decide) : A2 (fun t u => bl? (cmp .notin t u)) v w S X m Q := .p (dat_full h1) (dat_full h2) (fun t t' a b => by
  refine ⟨.d (.bool (!mem x ys)), ?_, rfl⟩
  have d1 := LDt.dep x
  have d2 := depthAll_L ys
  rw [b.fixD h2 rfl]
  simp only [cmp, isIn, (a.dat h1).2]
  rw [if_pos ⟨by omega, by omega⟩, any_D]; rfl) k
/-! items -/
theorem a_ixL {α : Type} [Dt α] {xs : List α} {g : α → Rs τ} (h1 : lst v = some (xs.map D)) (h2 : dat w = some (.int i)) (k : ∀ y, Q (.f (D y)) S (g y)) : A2 item v w S X ((ixL xs i).bd g) Q := .mo (F := fun y => .f (D y)) (lst_full h1) (dat_full h2) (fun t t' a b => by
  rw [b.int h2]
  have e : item t (.d (.int i)) = (atI (xs.map D) i).map .d := by rcases a.lst h1 with e | e <;> subst e <;> rfl
  rw [e, atI_map]; unfold ixL
  cases atI xs i with
  | none => exact .inl rfl
  | some y => exact .inr ⟨y, rfl, _, rfl, rfl⟩) k
theorem a_ixT {xs : List PyData} {y : PyData} (h1 : dat v = some (.tuple xs)) (h2 : dat w = some (.int i)) (h3 : atI xs i = some y) (k : Q (.f y) S m) : A2 item v w S X m Q := .p (dat_full h1) (dat_full h2) (fun t t' a b => by
  rw [a.fixD h1 rfl, b.int h2]
  exact ⟨.d y, by simp only [item, h3, Option.map], rfl⟩) k
theorem a_ixS {z : Str} {g : Str → Rs τ} (h1 : dat v = some (.str z)) (h2 : dat w = some (.int i)) (k : ∀ y, Q (.f (.str y)) S (g y)) : A2 item v w S X ((ixS z i).bd g) Q := .mo (F := fun y => .f (.str y)) (dat_full h1) (dat_full h2) (fun t t' a b => by
  rw [a.fixD h1 rfl, b.int h2]; unfold ixS
  simp only [item]
  cases atI z.cps.toList i with
  | none => exact .inl rfl
  | some y => exact .inr ⟨_, rfl, _, rfl, rfl⟩) k
/-! built-in functions -/
theorem hasL1 {ts : List T} (h : HasL [v] ts) : ∃ t, ts = [t] ∧ Has v (some t) := by
  cases ts with
  | nil => cases h
  | cons t r =>
    cases r with
    | nil => exact ⟨t, rfl, h.1⟩
    | cons _ _ => exact absurd h.2 id
theorem hasL2 {ts : List T} (h : HasL [v, w] ts) : ∃ t u, ts = [t, u] ∧ Has v (some t) ∧ Has w (some u) := by
  cases ts with
  | nil => cases h
  | cons t r =>
    obtain ⟨u, rfl, hu⟩ := hasL1 h.2
    exact ⟨t, u, rfl, h.1, hu⟩
theorem full1 (h : full v = true) : fullL [v] = true := by simp [fullL, h]
theorem full2 (h : full v = true) (h2 : full w = true) : fullL [v, w] = true := by simp [fullL, h, h2]
theorem n_len {α : Type} [Dt α] {xs : List α} (h1 : lst v = some (xs.map D)) (k : Q (.f (.int (xs.length : Nat))) S m) : AN (fn .len) [v] S X m Q := .p (full1 (lst_full h1)) (fun ts h => by
  obtain ⟨t, rfl, ht⟩ := hasL1 h
  rcases ht.lst h1 with e | e <;> subst e <;> exact ⟨_, rfl, by simp [Has]⟩) k
theorem n_lenS {z : Str} (h1 : dat v = some (.str z)) (k : Q (.f (.int (z.length : Nat))) S m) : AN (fn .len) [v] S X m Q := .p (full1 (dat_full h1)) (fun ts h => by
  obtain ⟨t, rfl, ht⟩ := hasL1 h
  rw [ht.fixD h1 rfl]; exact ⟨_, rfl, rfl⟩) k
theorem n_lenT {xs : List PyData} {n : Int} (h1 : dat v = some (.tuple xs)) (hn : (xs.length : Int) = n) (k : Q (.f (.int n)) S m) : AN (fn .len) [v] S X m Q := .p (full1 (dat_full h1)) (fun ts h => by
  obtain ⟨t, rfl, ht⟩ := hasL1 h
  rw [ht.fixD h1 rfl, ← hn]; exact ⟨_, rfl, rfl⟩) k
theorem n_list {xs : List PyData} (h1 : lst v = some xs) (k : Q (.l xs) S m) : AN (fn .list) [v] S X m Q := .p (full1 (lst_full h1)) (fun ts h => by
  obtain ⟨t, rfl, ht⟩ := hasL1 h
  rcases ht.lst h1 with e | e <;> subst e <;> exact ⟨_, rfl, rfl⟩) k
theorem n_listS {ns : List Int} (k : Q (.l (ns.map D)) S m) : AN (fn .list) [.s ns] S X m Q := .p rfl (fun ts h => by
  obtain ⟨t, rfl, ht⟩ := hasL1 h
  cases ht; exact ⟨_, rfl, rfl⟩) k
theorem n_tuple {α : Type} [Dt α] {xs : List α} (h1 : lst v = some (xs.map D)) (k : Q (.f (D (Tup.mk xs))) S m) : AN (fn .tuple) [v] S X m Q := .p (full1 (lst_full h1)) (fun ts h => by
  obtain ⟨t, rfl, ht⟩ := hasL1 h
  rcases ht.lst h1 with e | e <;> subst e <;> exact ⟨_, rfl, rfl⟩) k
theorem n_sorted {α : Type} [DecidableEq α] [Dt α] [LDt α] [ODt α] {xs : List α} (h1 : lst v = some (xs.map D)) (k : Q (.l ((isort leT xs).map D)) S m) (hd : LDt.n α ≤ 60 := by decide) : AN (fn .sorted) [v] S X m Q := .p (full1 (lst_full h1)) (fun ts h => by
  obtain ⟨t, rfl, ht⟩ := hasL1 h
  refine ⟨.l ((isort leT xs).map D), ?_, rfl⟩
  simp only [fn, ht.list? h1, Option.bind, sorted_D xs hd, Option.map]) k
theorem ints_D : ∀ xs : List Int, ints? (xs.map D) = some xs
  | [] => rfl
  | x :: xs => by
    show ints? (.int x :: xs.map D) = _
    simp only [ints?, ints_D xs, Option.map]
theorem strs_D : ∀ xs : List Str, strs? (xs.map D) = some xs
  | [] => rfl
  | x :: xs => by
    show strs? (.str x :: xs.map D) = _
    simp only [strs?, strs_D xs, Option.map]
theorem n_sum {xs : List Int} (h1 : lst v = some (xs.map D)) (k : Q (.f (.int xs.sum)) S m) : AN (fn .sum) [v] S X m Q := .p (full1 (lst_full h1)) (fun ts h => by
  obtain ⟨t, rfl, ht⟩ := hasL1 h
  refine ⟨.d (.int xs.sum), ?_, rfl⟩
  simp only [fn, ht.list? h1, Option.bind, ints_D, Option.map]) k
theorem n_max1 {xs : List Int} {g : Int → Rs τ} (h1 : lst v = some (xs.map D)) (k : ∀ y, Q (.f (.int y)) S (g y)) : AN (fn .max1) [v] S X ((maxL xs).bd g) Q := .mo (F := fun y => .f (.int y)) (full1 (lst_full h1)) (fun ts h => by
  obtain ⟨t, rfl, ht⟩ := hasL1 h
  unfold maxL
  cases q : maxI xs with
  | none => exact .inl rfl
  | some y => exact .inr ⟨y, rfl, .d (.int y), by simp only [fn, ht.list? h1, Option.bind, ints_D, q, Option.map], rfl⟩) k
theorem n_min1 {xs : List Int} {g : Int → Rs τ} (h1 : lst v = some (xs.map D)) (k : ∀ y, Q (.f (.int y)) S (g y)) : AN (fn .min1) [v] S X ((minL xs).bd g) Q := .mo (F := fun y => .f (.int y)) (full1 (lst_full h1)) (fun ts h => by
  obtain ⟨t, rfl, ht⟩ := hasL1 h
  unfold minL
  cases q : minI xs with
  | none => exact .inl rfl
  | some y => exact .inr ⟨y, rfl, .d (.int y), by simp only [fn, ht.list? h1, Option.bind, ints_D, q, Option.map], rfl⟩) k
theorem n_abs (h1 : dat v = some (.int i)) (k : Q (.f (.int (absI i))) S m) : AN (fn .abs) [v] S X m Q := .p (full1 (dat_full h1)) (fun ts h => by
  obtain ⟨t, rfl, ht⟩ := hasL1 h
  rw [ht.int h1]; exact ⟨_, rfl, rfl⟩) k
theorem n_int (h1 : dat v = some (.int i)) (k : Q (.f (.int i)) S m) : AN (fn .int) [v] S X m Q := .p (full1 (dat_full h1)) (fun ts h => by
  obtain ⟨t, rfl, ht⟩ := hasL1 h
  rw [ht.int h1]; exact ⟨_, rfl, rfl⟩) k
theorem n_str {g : Str → Rs τ} (h1 : dat v = some (.int i)) (k : ∀ y, Q (.f (.str y)) S (g y)) : AN (fn .str) [v] S X ((strI i).bd g) Q := .mo (F := fun y => .f (.str y)) (full1 (dat_full h1)) (fun ts h => by
  obtain ⟨t, rfl, ht⟩ := hasL1 h
  rw [ht.int h1]; unfold strI
  by_cases c : i.natAbs.log2 < 1920 ∧ strB (toString i : String) = true
  · rw [if_pos c]; exact .inr ⟨_, rfl, _, by simp only [fn]; rw [if_pos c], rfl⟩
  · rw [if_neg c]; exact .inl rfl) k
theorem n_min2 (h1 : dat v = some (.int i)) (h2 : dat w = some (.int j)) (k : Q (.f (.int (minI2 i j))) S m) : AN (fn .min2) [v, w] S X m Q := .p (full2 (dat_full h1) (dat_full h2)) (fun ts h => by
  obtain ⟨t, u, rfl, ht, hu⟩ := hasL2 h
  rw [ht.int h1, hu.int h2]; exact ⟨_, rfl, rfl⟩) k
theorem n_max2 (h1 : dat v = some (.int i)) (h2 : dat w = some (.int j)) (k : Q (.f (.int (maxI2 i j))) S m) : AN (fn .max2) [v, w] S X m Q := .p (full2 (dat_full h1) (dat_full h2)) (fun ts h => by
  obtain ⟨t, u, rfl, ht, hu⟩ := hasL2 h
  rw [ht.int h1, hu.int h2]; exact ⟨_, rfl, rfl⟩) k
/-! methods -/
theorem tk_l {xs : List PyData} (h : lst v = some xs) : takesS .index v := fun t ht => by rcases ht.lst h with e | e <;> subst e <;> rfl
theorem tk_m1 {kvs : List (Key × PyData)} : takesS .get1 (.m kvs) := fun t ht => by cases ht; rfl
theorem tk_m2 {kvs : List (Key × PyData)} : takesS .get2 (.m kvs) := fun t ht => by cases ht; rfl
theorem tk_s {z : Str} (h : dat v = some (.str z)) : takesS .join v := fun t ht => by rw [ht.fixD h rfl]; rfl
theorem place_D {α : Type} [DecidableEq α] [Dt α] [LDt α] (xs : List α) (x : α) : place (xs.map D) (D x) = xs.findIdx? fun z => decide (z = x) := by
  unfold place
  rw [List.findIdx?_map]
  congr 1
  funext z
  exact LDt.eqv z x
abbrev mth (mt : Mt) : List T → Option T := fun ts => match ts with
  | t :: r => meth mt t r
  | [] => none
theorem n_index {α : Type} [DecidableEq α] [Dt α] [LDt α] {xs : List α} {x : α} {g : Int → Rs τ} (h1 : lst v = some (xs.map D)) (h2 : dat w = some (D x)) (k : ∀ y, Q (.f (.int y)) S (g y)) (hd : LDt.n α ≤ 60 := by decide) : AN (mth .index) [v, w] S X ((idxL xs x).bd g) Q := .mo (F := fun y => .f (.int y)) (full2 (lst_full h1) (dat_full h2)) (fun ts h => by
  obtain ⟨t, u, rfl, ht, hu⟩ := hasL2 h
  have a := LDt.dep x
  have b := depthAll_L xs
  have e : meth .index t [u] = (place (xs.map D) (D x)).map fun j => .d (.int (j : Nat)) := by
    show (match t.list?, u.data? with | some ds, some d => _ | _, _ => _) = _
    rw [ht.list? h1, (hu.dat h2).2]
    simp only
    rw [if_pos ⟨by omega, by omega⟩]
  show _ ∨ ∃ y, _ ∧ ∃ r, meth .index t [u] = some r ∧ _
  rw [e, place_D]; unfold idxL
  cases xs.findIdx? fun z => decide (z = x) with
  | none => exact .inl rfl
  | some y => exact .inr ⟨_, rfl, _, rfl, rfl⟩) k
theorem n_join {z : Str} {xs : List Str} {g : Str → Rs τ} (h1 : dat v = some (.str z)) (h2 : lst w = some (xs.map D)) (k : ∀ y, Q (.f (.str y)) S (g y)) : AN (mth .join) [v, w] S X ((joinS z xs).bd g) Q := .mo (F := fun y => .f (.str y)) (full2 (dat_full h1) (lst_full h2)) (fun ts h => by
  obtain ⟨t, u, rfl, ht, hu⟩ := hasL2 h
  rw [ht.fixD h1 rfl]
  show _ ∨ ∃ y, _ ∧ ∃ r, meth .join (.d (.str z)) [u] = some r ∧ _
  have e : meth .join (.d (.str z)) [u] = if (xs.map Str.length).sum + xs.length * z.length ≤ LINE then some (.d (.str (Str.join z xs))) else none := by
    show (match T.d (.str z), u.list?.bind strs? with | .d (.str z), some xs => _ | _, _ => _) = _
    rw [hu.list? h2, Option.bind_some, strs_D]
  rw [e]; unfold joinS
  by_cases c : (xs.map Str.length).sum + xs.length * z.length ≤ LINE
  · rw [if_pos c, if_pos c]; exact .inr ⟨_, rfl, _, rfl, rfl⟩
  · rw [if_neg c]; exact .inl rfl) k
section
variable {κ ν : Type} [DecidableEq κ] [Dt κ] [Ky κ] [Dt ν] {d : List (κ × ν)} {kx : κ}
theorem n_get1 (h2 : dat w = some (D kx)) (k : Q (.f (D (dfind d kx))) S m) : AN (mth .get1) [.m (Ms d), w] S X m Q := .p (full2 rfl (dat_full h2)) (fun ts h => by
  obtain ⟨t, u, rfl, ht, hu⟩ := hasL2 h
  cases ht
  refine ⟨.d (D (dfind d kx)), ?_, rfl⟩
  show (key? u).map _ = _
  rw [key_of hu h2]
  simp only [Option.map, find_Ms]
  cases dfind d kx <;> rfl) k
theorem n_get2 {v2 : Sl} {z : ν} (h2 : dat w = some (D kx)) (h3 : fixd v2 = some (D z)) (k : Q (.f (D ((dfind d kx).getD z))) S m) : AN (mth .get2) [.m (Ms d), w, v2] S X m Q := .p (by
  have hf : full v2 = true := by cases v2 <;> first | rfl | cases h3
  show (true && (full w && (full v2 && true))) = true
  rw [dat_full h2, hf]; rfl) (fun ts h => by
  cases ts with
  | nil => cases h
  | cons t r =>
    obtain ⟨u, x, rfl, hu, hx⟩ := hasL2 h.2
    have ht := h.1
    cases ht
    have := hx.fix h3
    subst this
    refine ⟨.d (D ((dfind d kx).getD z)), ?_, rfl⟩
    show (key? u).map _ = _
    rw [key_of hu h2]
    simp only [Option.map, find_Ms]
    cases dfind d kx <;> rfl) k
end
/-! lists that grow -/
variable {es : Exs} {ix : Nat} {a b : Ex}
theorem se_app {α : Type} [Dt α] {xs : List α} (h1 : S[ix]? = some (.l (xs.map D))) (h : SO C a S X m fun x S1 m1 => ∃ (xs' : List α) (y : α) (g : List α → Rs τ), S1[ix]? = some (.l (xs'.map D)) ∧ full (look x S1) = true ∧ fixd (look x S1) = some (D y) ∧ m1 = (app xs' y).bd g ∧ ∀ zs : List α, Q (.f .none) (S1.set ix (.l (zs.map D))) (g zs)) : SE C (.mu .append ix (.cons a .nil)) S X m Q := by
  refine se_mu h1 (sa_cons (Gn.mono h fun x S1 m1 ⟨xs', y, g, h2, hf, h3, em, q⟩ => sa_nil ⟨_, h2, full1 hf, List α, app xs' y, g, fun _ => .none, fun zs => zs.map D, em, fun ts ht => ?_, q⟩))
  obtain ⟨t, rfl, hx⟩ := hasL1 ht
  rw [hx.fix h3]
  unfold app
  by_cases c : xs'.length < LINE
  · rw [if_pos c]; exact .inr ⟨_, rfl, by simp only [chg, List.length_map, c, if_true, List.map_append]; rfl⟩
  · rw [if_neg c]; exact .inl rfl
theorem se_ext {α : Type} [Dt α] {xs : List α} (h1 : S[ix]? = some (.l (xs.map D))) (h : SO C a S X m fun x S1 m1 => ∃ (xs' ys : List α) (g : List α → Rs τ), S1[ix]? = some (.l (xs'.map D)) ∧ full (look x S1) = true ∧ lst (look x S1) = some (ys.map D) ∧ m1 = (cat xs' ys).bd g ∧ ∀ zs : List α, Q (.f .none) (S1.set ix (.l (zs.map D))) (g zs)) : SE C (.mu .extend ix (.cons a .nil)) S X m Q := by
  refine se_mu h1 (sa_cons (Gn.mono h fun x S1 m1 ⟨xs', ys, g, h2, hf, h3, em, q⟩ => sa_nil ⟨_, h2, full1 hf, List α, cat xs' ys, g, fun _ => .none, fun zs => zs.map D, em, fun ts ht => ?_, q⟩))
  obtain ⟨t, rfl, hx⟩ := hasL1 ht
  unfold cat
  by_cases c : xs'.length + ys.length ≤ LINE
  · rw [if_pos c]
    refine .inr ⟨_, rfl, ?_⟩
    rcases hx.lst h3 with e | e <;> subst e <;> simp only [chg, List.length_map, c, if_true, List.map_append] <;> rfl
  · rw [if_neg c]; exact .inl rfl
theorem se_ins {α : Type} [Dt α] {xs : List α} (h1 : S[ix]? = some (.l (xs.map D))) (h : SO C a S X m fun x S1 m1 => SO C b S1 X m1 fun x2 S1 m1 => ∃ (xs' : List α) (n : Int) (y : α) (g : List α → Rs τ), S1[ix]? = some (.l (xs'.map D)) ∧ dat (look x S1) = some (.int n) ∧ full (look x2 S1) = true ∧ fixd (look x2 S1) = some (D y) ∧ m1 = (insr xs' n y).bd g ∧ ∀ zs : List α, Q (.f .none) (S1.set ix (.l (zs.map D))) (g zs)) : SE C (.mu .insert ix (.cons a (.cons b .nil))) S X m Q := by
  refine se_mu h1 (sa_cons (Gn.mono h fun x S1 m1 h => sa_cons (Gn.mono h fun x2 S1 m1 ⟨xs', n, y, g, h2, h4, hf, h3, em, q⟩ => sa_nil ⟨_, h2, full2 (dat_full h4) hf, List α, insr xs' n y, g, fun _ => .none, fun zs => zs.map D, em, fun ts ht => ?_, q⟩)))
  obtain ⟨t, u, rfl, hx, hy⟩ := hasL2 ht
  rw [hx.int h4, hy.fix h3]
  unfold insr
  by_cases c : xs'.length < LINE ∧ 0 ≤ n ∧ n ≤ xs'.length
  · rw [if_pos c]; exact .inr ⟨_, rfl, by simp only [chg, List.length_map, c, and_self, if_true, List.map_append, List.map_take, List.map_cons, List.map_drop]⟩
  · rw [if_neg c]; exact .inl rfl
/-! stores by place, by key -/
variable {P : τ → SR → Prop} {ss : Sts}
theorem ss_setD {κ ν : Type} [DecidableEq κ] [Dt κ] [Ky κ] [Dt ν] (h : SE C a S X m fun v S1 m1 => ∃ (z : ν) (dv : Sl), dat v = some (D z) ∧ S1[ix]? = some dv ∧ full dv = true ∧ SO C b S1 X m1 fun y S2 m2 => ∃ (d : List (κ × ν)) (kx : κ) (g : List (κ × ν) → Rs τ), S2[ix]? = some (.m (Ms d)) ∧ dat (look y S2) = some (D kx) ∧ m2 = (dset d kx z).bd g ∧ ∀ d', SS C ss (S2.set ix (.m (Ms d'))) X (g d') P) : SS C (.cons (.seti ix b a) ss) S X m P :=
  ss_seti (Gn.mono h fun v S1 m1 ⟨z, dv, h1, h2, h3, h⟩ => ⟨_, dv, h1, h2, h3, Gn.mono h fun y S2 m2 ⟨d, kx, g, h4, h5, em, q⟩ => ⟨_, h4, rfl, dat_full h5, List (κ × ν), dset d kx z, g, fun d' => .m (Ms d'), em, fun t u ht hu => by
    cases ht
    unfold dset
    by_cases c : d.length < LINE
    · rw [if_pos c]
      refine .inr ⟨_, rfl, .m (put (Ms d) (Ky.K kx) (D z)), ?_, by rw [put_Ms]; rfl⟩
      have hl : (Ms d).length < LINE := by simpa [Ms] using c
      simp only [setAt, hl, if_true, key_of hu h5, Option.map]
    · rw [if_neg c]; exact .inl rfl, q⟩⟩)
theorem ss_setL {α : Type} [Dt α] (h : SE C a S X m fun v S1 m1 => ∃ (z : α) (dv : Sl), dat v = some (D z) ∧ S1[ix]? = some dv ∧ full dv = true ∧ SO C b S1 X m1 fun y S2 m2 => ∃ (xs : List α) (n : Int) (g : List α → Rs τ), S2[ix]? = some (.l (xs.map D)) ∧ dat (look y S2) = some (.int n) ∧ m2 = (setL xs n z).bd g ∧ ∀ zs : List α, SS C ss (S2.set ix (.l (zs.map D))) X (g zs) P) : SS C (.cons (.seti ix b a) ss) S X m P :=
  ss_seti (Gn.mono h fun v S1 m1 ⟨z, dv, h1, h2, h3, h⟩ => ⟨_, dv, h1, h2, h3, Gn.mono h fun y S2 m2 ⟨xs, n, g, h4, h5, em, q⟩ => ⟨_, h4, rfl, dat_full h5, List α, setL xs n z, g, fun zs => .l (zs.map D), em, fun t u ht hu => by
    cases ht
    rw [hu.int h5]
    unfold setL
    simp only [setAt, List.length_map]
    cases ixN xs.length n with
    | none => exact .inl rfl
    | some j => exact .inr ⟨_, rfl, _, rfl, by simp [Has, List.map_set]⟩, q⟩⟩)
/-! slices -/
theorem sl_l {α : Type} [Dt α] {xs : List α} {lo hi : Option Int} (h : lst v = some (xs.map D)) : ∀ t, Has v (some t) → ∃ z, slice t lo hi = some z ∧ Has (.l ((cut xs lo hi).map D)) (some z) := fun t ht => by
  rcases ht.lst h with e | e <;> subst e <;> exact ⟨_, rfl, by rw [cut_map]; rfl⟩
theorem sl_s {z : Str} {lo hi : Option Int} (h : dat v = some (.str z)) : ∀ t, Has v (some t) → ∃ u, slice t lo hi = some u ∧ Has (.f (.str (cutS' z lo hi))) (some u) := fun t ht => by
  rw [ht.fixD h rfl]; exact ⟨_, rfl, rfl⟩
/-! isinstance -/
theorem i_dat {x : PyData} {ts : List Ty} {k : Bool} (h : dat v = some x) (hk : (ts.any fun y => isTy y (.d x)) = k) : ∀ t, Has v (some t) → (ts.any fun y => isTy y t) = k := fun t ht => by
  rw [← hk]
  by_cases c : isL x = true
  · cases x <;> first | cases c | skip
    rename_i xs
    have hl : lst v = some xs := by cases v <;> simp [dat] at h <;> subst h <;> rfl
    rcases ht.lst hl with e | e <;> subst e
    · rfl
    · congr 1
      funext y
      cases y <;> rfl
  · rw [ht.fixD h (by simpa using c)]
theorem se_dct {κ ν : Type} [DecidableEq κ] [Dt κ] [Ky κ] [Dt ν] (h : SO C a S X m fun x S1 m1 => ∃ l : List (κ × ν), full (look x S1) = true ∧ lst (look x S1) = some (l.map D) ∧ Q (.m (Ms (dOf l))) S1 m1) : SE C (.dct a) S X m Q := by
  refine Gn.bind (rel := OdHas) (Gn.mono h fun x S1 m1 ⟨l, hf, hl, q⟩ ox rx => ?_)
  intro P kk hk e he
  obtain ⟨t, g, kt⟩ := Od.get rx hf he
  simp only [g, Option.bind, kt.list? hl, pairs_Ms, Option.map, putAll_Ms, lift_some, R.st_ok]
  exact hk _ _ _ q _ _ rfl he
/-- {k: a for x in xs} -/
@[irreducible] def dcompM {α κ ν : Type} [DecidableEq κ] (xs : List α) (b : α → Rs (κ × ν)) : Rs (List (κ × ν)) := (compM xs (fun _ => .ok true) b).bd fun l => .ok (l.foldl (fun a p => if (a.any fun q => decide (q.1 = p.1)) = true then a.map (fun q => if q.1 = p.1 then (q.1, p.2) else q) else a ++ [(p.1, p.2)]) [])
theorem se_dcomp {α κ ν : Type} [Dt α] [DecidableEq κ] [Dt κ] [Ky κ] [Dt ν] {own : List Nat} {t : Tg} {s : Src} {kx : Ex} (hw : t.within own = true)
    (h : SC C s S X m fun xd S1 m1 => ∃ (xs : List α) (S0 : List Sl) (Z : α → List Sl) (bk : α → Rs (κ × ν)) (g : List (κ × ν) → Rs τ), xd = xs.map D ∧ m1 = (dcompM xs bk).bd g ∧ Wk S1 S0 ∧ plainS own S0 = true ∧ (∀ x, bindS t (D x) (hideS own S0) = some (Z x)) ∧
      (∀ x, SE C kx (Z x) X (bk x) fun v S1 m1 => ∃ k : κ, dat v = some (D k) ∧ SE C a S1 X m1 fun v S1 m1 => ∃ y : ν, dat v = some (D y) ∧ m1 = .ok (k, y) ∧ Wk S1 (anyS own S0)) ∧ ∀ d : List (κ × ν), Q (.m (Ms d)) S0 (g d)) : SE C (.dcomp own t s kx a) S X m Q := by
  refine Gn.bind (rel := fun b c => c = b) (Gn.mono h fun xd S1 m1 ⟨xs, S0, Z, bk, g, ex, em, hwk, hp, hz, hb, q⟩ xd' e => ?_)
  subst e em ex
  intro P kk hk e he
  have he0 := hwk e he
  have body : ∀ x, Gn (fun ys zs => zs = ys) (fun e => ((den C kx).v e).bind fun kt e => (frzR kt e).bind fun kx e => ((den C a).v e).bind fun t e => (frzR t e).bind fun x e => .ok [.tuple [kx, x]] e) (Z x) X (bk x) fun zs S1 m1 => ∃ y : κ × ν, m1 = .ok y ∧ zs = [D y] ∧ Wk S1 (anyS own S0) := by
    intro x
    refine Gn.bind (rel := fun v t => Has v (some t)) (Gn.mono (hb x) fun v S1 m1 ⟨k, h1, h2⟩ t ht => ?_)
    intro P kk hk e he
    simp only [frzR, (ht.dat h1).1, lift_some, R.bind_ok]
    refine Gn.bind (rel := fun v t => Has v (some t)) (rel' := fun ys zs => zs = ys) (Gn.mono h2 fun v S1 m1 ⟨y, h3, h4, h5⟩ t ht => ?_) P kk hk e he
    intro P kk hk e he
    simp only [(ht.dat h3).1, lift_some, R.bind_ok, R.st_ok]
    exact hk [.tuple [D k, D y]] S1 m1 ⟨(k, y), h4, rfl, h5⟩ _ e rfl he
  unfold dcompM
  rw [Rs.bd_assoc, compS_unit]
  rcases compT_cases (fun (_ : Unit) (x : α) => (Rs.ok true).bd fun k => .ok (k, ())) (fun _ x => (bk x).bd fun y => .ok (y, ())) xs () with hy | hbad
  · obtain ⟨ys, s', e', q1, q2, q3⟩ := turns_of (own := own) (t := t) (fx := D) (fy := D) (cond := fun e => .ok true e) (c := fun _ _ => (Rs.ok true).bd fun k => .ok (k, ())) (N := fun _ : Unit => S0) (X := X) (fun _ x => Z x) (fun _ => hz) (fun _ x => Gn.pure rfl ⟨(), rfl, Wk.r, fun h => nomatch h⟩)
      (fun _ x => Gn.mono (Gn.bd (body x) fun d S' m' ⟨y, q, _⟩ => ⟨_, q⟩) fun zs S1 m1 ⟨y, e1, y', e2, e3, e4⟩ => ⟨y', (), by cases e2; exact e1, e3, e4⟩) xs () e [] he0.any hy
    unfold compS
    rw [q1]
    simp only [around, plain_of hp he0, hw, and_self, if_true]
    rw [q2, List.nil_append]
    simp only [List.length_map]
    by_cases hl : ys.length ≤ LINE
    · simp only [hl, if_true, R.bind_ok, pairs_Ms, Option.map, putAll_Ms, lift_some, R.st_ok, Rs.bd_ok]
      exact hk _ _ _ (q (dOf ys)) _ _ rfl (he0.back q3)
    · simp only [hl, if_false]; trivial
  · rw [hbad]; trivial
end
end Mv.Sh
end
section
set_option Elab.async false
set_option linter.all false
set_option maxHeartbeats 4000000
set_option maxRecDepth 10000
/-! Sh: pools of draws, the law's comparison; helps for the printed proofs. -/
namespace Mv.Sh
open PySem L2 PySem.W
open Dt (D)

theorem HasL.wk {A B : List Sl} {ts : List T} (w : Wk A B) (h : HasL A ts) : HasL B ts := by
  have key : ∀ {A : List Sl} {ts : List T}, HasL A ts ↔ Ok A (ts.map some) := by
    intro A
    induction A with
    | nil => intro ts; cases ts <;> simp [HasL, Ok]
    | cons v A ih => intro ts; cases ts <;> simp [HasL, Ok, ih]
  exact key.mpr (w _ (key.mp h))
theorem tr_L {α : Type} [Dt α] {v : Sl} {xs : List α} (h : lst v = some (xs.map D)) : Tr v (!xs.isEmpty) := by
  have := tr_l h
  rwa [List.isEmpty_map] at this
theorem tr_M {κ ν : Type} [DecidableEq κ] [Dt κ] [Ky κ] [Dt ν] {d : List (κ × ν)} : Tr (.m (Ms d)) (!d.isEmpty) := by
  have := tr_m (kvs := Ms d)
  unfold Ms at this ⊢
  rwa [List.isEmpty_map] at this
section
variable {τ : Type} {C : Orc} {S X : List Sl} {m : Rs τ} {v w : Sl} {Q : Sl → List Sl → Rs τ → Prop} {i : Int} {a b : Ex} {ix : Nat} {P : τ → SR → Prop} {ss : Sts}
/-- an item of a list whose length is written -/
theorem a_ixC {xs : List PyData} {y : PyData} (h1 : lst v = some xs) (h2 : dat w = some (.int i)) (h3 : atI xs i = some y) (k : Q (.f y) S m) : A2 item v w S X m Q := .p (lst_full h1) (dat_full h2) (fun t t' a b => by
  rw [b.int h2]
  have e : item t (.d (.int i)) = (atI xs i).map .d := by rcases a.lst h1 with e | e <;> subst e <;> rfl
  exact ⟨.d y, by rw [e, h3]; rfl, rfl⟩) k
theorem ss_setC (h : SE C a S X m fun v S1 m1 => ∃ (x : PyData) (dv : Sl), dat v = some x ∧ S1[ix]? = some dv ∧ full dv = true ∧ SO C b S1 X m1 fun y S2 m2 => ∃ (xs xs' : List PyData) (n : Int), S2[ix]? = some (.l xs) ∧ dat (look y S2) = some (.int n) ∧ ((ixN xs.length n).map fun j => xs.set j x) = some xs' ∧ SS C ss (S2.set ix (.l xs')) X m2 P) : SS C (.cons (.seti ix b a) ss) S X m P :=
  ss_seti (Gn.mono h fun v S1 m1 ⟨x, dv, h1, h2, h3, h⟩ => ⟨_, dv, h1, h2, h3, Gn.mono h fun y S2 m2 ⟨xs, xs', n, h4, h5, h6, q⟩ => ⟨_, h4, rfl, dat_full h5, Unit, .ok (), fun _ => m2, fun _ => .l xs', rfl, fun t u ht hu => by
    cases ht
    rw [hu.int h5]
    refine .inr ⟨(), rfl, .l xs', ?_, rfl⟩
    simp only [setAt]
    cases q : ixN xs.length n with
    | none => rw [q] at h6; cases h6
    | some j => rw [q] at h6; simp only [Option.map] at h6 ⊢; cases h6; rfl, fun _ => q⟩⟩)
end
/-- the pool of draws -/
structure Pool where
  ns : List Int
  c1 : Int
  c2 : Int
  c3 : Int
  c4 : Int
def PD (p : Pool) : List PyData := [.list (p.ns.map D), .int p.c1, .int p.c2, .int p.c3, .int p.c4]
/-! ### _law_same -/
@[irreducible] def sameR {α : Type} [DecidableEq α] [Dt α] (x y : α) : Rs Bool := if x = y ∧ okS (D x) = true then .ok true else .bad
def same_c (n i : Nat) (C : Orc) : Prop := ∀ {α : Type} [DecidableEq α] [Dt α] [LDt α] (x y : α) (ts : List T), LDt.n α < n → HasL [.d (D x), .d (D y)] ts → CSat (sameR x y) (fun r => (.f (.bool r), [.d (D x), .d (D y)])) [.d (D x), .d (D y)] (C i ts)
theorem same_of {n i : Nat} {C : Orc} (h : SameOk C i n) : same_c n i C := by
  intro α _ _ _ x y ts hn ht
  obtain ⟨t, u, rfl, h1, h2⟩ := hasL2 ht
  unfold sameR
  by_cases c : x = y ∧ okS (D x) = true
  · rw [if_pos c]
    obtain ⟨rfl, ho⟩ := c
    have := h (D x) t u ho (Nat.lt_of_le_of_lt (LDt.dep x) hn) (by
      rcases h1 with h1 | ⟨xs, e, h1⟩
      · cases h1; exact .inl rfl
      · cases h1; exact .inr ⟨xs, e, rfl⟩) (by
      rcases h2 with h2 | ⟨xs, e, h2⟩
      · cases h2; exact .inl rfl
      · cases h2; exact .inr ⟨xs, e, rfl⟩)
    exact ⟨_, _, this, rfl, h1, h2, trivial⟩
  · rw [if_neg c]; trivial
theorem same_at {P : Prog} {i : Nat} (hP : P[i]? = some (gSame i)) : ∀ (n k : Nat), SameOk (run P (k + n)) i n
  | 0, k => fun d t u ok dp ht hu => absurd dp (by omega)
  | n + 1, k => by
    intro d t u ok dp ht hu
    have : run P (k + (n + 1)) i [t, u] = (gSame i).run (run P (k + n)) [t, u] := by
      show run P ((k + n) + 1) i [t, u] = _
      simp only [run, hP]
    rw [this]
    exact same_run (same_at hP n k) ok dp ht hu
end Mv.Sh
end
section
set_option Elab.async false
set_option linter.all false
set_option maxHeartbeats 4000000
set_option maxRecDepth 10000
/-! Sh: tests that are known, loops over items of unlike kinds. -/
namespace Mv.Sh
open PySem Mv L2 PySem.W
/-- a tuple of one -/
structure Tu1 (α : Type) where
  a : α
  deriving DecidableEq
instance {α : Type} [Dt α] : Dt (Tu1 α) := ⟨fun p => .tuple [Dt.D p.a]⟩
section
variable {τ : Type} {C : Orc} {a b c : Ex} {p q ss : Sts} {S X : List Sl} {m : Rs τ} {P : τ → SR → Prop} {Qb : Bool → List Sl → Rs τ → Prop}
theorem sb_orT (h : SB C a S X m fun k S1 m1 => k = true ∧ Qb true S1 m1) : SB C (.or a b) S X m Qb := by
  refine Gn.bind (rel := fun b c => c = b) ?_
  intro P k hk e he
  refine h P k (fun v S' m' ⟨kt, q⟩ t e' hh he' => hk v S' m' (fun t rt => ?_) t e' hh he') e he
  subst rt
  intro P k hk e he
  subst kt
  exact hk _ _ _ q _ _ rfl he
theorem sb_andF (h : SB C a S X m fun k S1 m1 => k = false ∧ Qb false S1 m1) : SB C (.and a b) S X m Qb := by
  refine Gn.bind (rel := fun b c => c = b) ?_
  intro P k hk e he
  refine h P k (fun v S' m' ⟨kt, q⟩ t e' hh he' => hk v S' m' (fun t rt => ?_) t e' hh he') e he
  subst rt
  intro P k hk e he
  subst kt
  exact hk _ _ _ q _ _ rfl he
theorem sb_orF (h : SB C a S X m fun k S1 m1 => k = false ∧ SB C b S1 X m1 Qb) : SB C (.or a b) S X m Qb := by
  refine Gn.bind (rel := fun b c => c = b) ?_
  intro P k hk e he
  refine h P k (fun v S' m' ⟨kt, q⟩ t e' hh he' => hk v S' m' (fun t rt => ?_) t e' hh he') e he
  subst rt
  intro P k hk e he
  subst kt
  exact q P k hk e he
theorem sb_andT (h : SB C a S X m fun k S1 m1 => k = true ∧ SB C b S1 X m1 Qb) : SB C (.and a b) S X m Qb := by
  refine Gn.bind (rel := fun b c => c = b) ?_
  intro P k hk e he
  refine h P k (fun v S' m' ⟨kt, q⟩ t e' hh he' => hk v S' m' (fun t rt => ?_) t e' hh he') e he
  subst rt
  intro P k hk e he
  subst kt
  exact q P k hk e he
theorem ss_ifT (h : SB C c S X m fun k S1 m1 => k = true ∧ SS C (apS p ss) S1 X m1 P) : SS C (.cons (.iff c p q) ss) S X m P :=
  ss_if fun P k hk e he => h P k (fun v S' m' ⟨kt, q⟩ => hk v S' m' ⟨m', .bad, by rw [kt]; rfl, q, SS.bad⟩) e he
theorem ss_ifF (h : SB C c S X m fun k S1 m1 => k = false ∧ SS C (apS q ss) S1 X m1 P) : SS C (.cons (.iff c p q) ss) S X m P :=
  ss_if fun P k hk e he => h P k (fun v S' m' ⟨kt, q⟩ => hk v S' m' ⟨.bad, m', by rw [kt]; rfl, SS.bad, q⟩) e he
theorem se_lrevD {α : Type} [Dt α] {Q : Sl → List Sl → Rs τ → Prop} (h : SO C a S X m fun x S1 m1 => ∃ xs : List α, full (look x S1) = true ∧ lst (look x S1) = some (xs.map Dt.D) ∧ Q (.l (xs.reverse.map Dt.D)) S1 m1) : SE C (.lrev a) S X m Q :=
  se_lrev fun P k hk => h P k fun v S1 m1 ⟨xs, h1, h2, q⟩ => hk v S1 m1 ⟨xs.map Dt.D, h1, h2, by rw [← List.map_reverse]; exact q⟩
theorem ss_forBad {t : Tg} {s : Src} (h : SC C s S X m fun _ _ m1 => m1 = .bad) : SS C (.cons (.fr t s p) ss) S X m P := by
  intro e he
  show Sat m P X ((exS C (.fr t s p) e).seq _)
  simp only [exS, R.st_seq]
  refine gn_st h (fun xd S1 m1 hm xd' e' hx he' => ?_) e he
  subst hm
  trivial
/-- items one by one -/
def UL {σ ρ : Type} (C : Orc) (t : Tg) (p : Sts) (X : List Sl) (w : ρ → τ) (P : τ → SR → Prop) (N : σ → List Sl) (g : σ → Rs τ) : List PyData → σ → Rs τ → Prop
  | [], s, m => m = g s
  | d :: ds, s, m => ∃ (f : Rs (O σ ρ)) (k : σ → Rs τ) (Z : List Sl), m = f.obd w k ∧ bindS t d (N s) = some Z ∧ SS C p Z X f (OP N w P) ∧ ∀ s', UL C t p X w P N g ds s' (k s')
theorem loop_UL {σ ρ : Type} {t : Tg} {w : ρ → τ} {N : σ → List Sl} {g : σ → Rs τ} (hg : ∀ s, SS C ss (N s) X (g s) P) : ∀ (ds : List PyData) (s : σ) (m : Rs τ), UL C t p X w P N g ds s m → ∀ e, Ok (N s) e → Sat m P X ((loop t (exSs C p) ds e).seq fun e => exSs C ss e)
  | [], s, m, h, e, he => by
    have h : m = g s := h
    subst h
    exact hg s e he
  | d :: ds, s, m, ⟨f, k, Z, em, hz, hb, hk⟩, e, he => by
    obtain ⟨e1, b1, b2⟩ := bindS_of hz he
    subst em
    simp only [loop, b1]
    have h1 := hb e1 b2
    cases f with
    | ok o =>
      cases o with
      | nx s' =>
        obtain ⟨e2, h2, h3⟩ := h1
        rw [h2]
        exact loop_UL hg ds s' (k s') (hk s') e2 h3
      | rt x =>
        obtain ⟨⟨u, e2, h2⟩, h3⟩ := h1
        rw [h2] at h3 ⊢
        exact h3
    | exc c =>
      obtain ⟨e2, h2, h3⟩ := h1
      rw [h2]
      exact ⟨e2, rfl, h3⟩
    | bad => trivial
theorem ss_forU {σ ρ : Type} {t : Tg} {s : Src} (w : ρ → τ) (N : σ → List Sl) (h : SC C s S X m fun xd S1 m1 => ∃ (s0 : σ) (g : σ → Rs τ), UL C t p X w P N g xd s0 m1 ∧ Wk S1 (N s0) ∧ ∀ s, SS C ss (N s) X (g s) P) : SS C (.cons (.fr t s p) ss) S X m P := by
  intro e he
  show Sat m P X ((exS C (.fr t s p) e).seq _)
  simp only [exS, R.st_seq]
  refine gn_st h (fun xd S1 m1 ⟨s0, g, hu, hw, hg⟩ xd' e' hx he' => ?_) e he
  subst hx
  exact loop_UL hg xd' s0 m1 hu e' (hw e' he')
end
end Mv.Sh
end
section
set_option Elab.async false
set_option linter.all false
set_option maxHeartbeats 4000000
set_option maxRecDepth 10000
/-! Sh: typed functions in plain words: loops, dicts, draws, names, orders. -/
namespace Mv.Sh
open PySem Mv PySem.W

/-! ### loops -/
theorem L_eq : LINE = 16777216 := rfl
theorem foldM_inv {α σ : Type} {f : σ → α → Rs σ} (I : List α → σ → Prop) (xs : List α) (s0 : σ) (h0 : I [] s0) (h : ∀ pre x post s, xs = pre ++ x :: post → I pre s → ∃ s', f s x = .ok s' ∧ I (pre ++ [x]) s') : ∃ s', foldM f xs s0 = .ok s' ∧ I xs s' := by
  have key : ∀ (post pre : List α) (s : σ), xs = pre ++ post → I pre s → ∃ s', foldM f post s = .ok s' ∧ I xs s' := by
    intro post
    induction post with
    | nil => intro pre s e hi; rw [List.append_nil] at e; subst e; exact ⟨s, rfl, hi⟩
    | cons x post ih =>
      intro pre s e hi
      obtain ⟨s1, h1, h2⟩ := h pre x post s e hi
      obtain ⟨s', h3, h4⟩ := ih (pre ++ [x]) s1 (by rw [e, List.append_assoc]; rfl) h2
      exact ⟨s', by simp only [foldM, h1, Rs.bd_ok]; exact h3, h4⟩
  exact key xs [] s0 rfl h0
theorem foldM_ok {α σ : Type} {f : σ → α → Rs σ} (g : σ → α → σ) : ∀ (xs : List α) (s : σ), (∀ s x, x ∈ xs → f s x = .ok (g s x)) → foldM f xs s = .ok (xs.foldl g s)
  | [], _, _ => rfl
  | x :: xs, s, h => by
    simp only [foldM, h s x List.mem_cons_self, Rs.bd_ok]
    exact foldM_ok g xs _ fun s y m => h s y (List.mem_cons_of_mem _ m)
theorem forM_none {α σ ρ : Type} {f : σ → α → Rs (O σ ρ)} (g : σ → α → σ) : ∀ (xs : List α) (s : σ), (∀ s x, x ∈ xs → f s x = .ok (.nx (g s x))) → forM' f xs s = .ok (.nx (xs.foldl g s))
  | [], _, _ => rfl
  | x :: xs, s, h => by
    simp only [forM', h s x List.mem_cons_self]
    exact forM_none g xs _ fun s y m => h s y (List.mem_cons_of_mem _ m)
theorem forM_inv {α σ ρ : Type} {f : σ → α → Rs (O σ ρ)} (I : List α → σ → Prop) (xs : List α) (s0 : σ) (h0 : I [] s0) (h : ∀ pre x post s, xs = pre ++ x :: post → I pre s → ∃ s', f s x = .ok (.nx s') ∧ I (pre ++ [x]) s') : ∃ s', forM' f xs s0 = .ok (.nx s') ∧ I xs s' := by
  have key : ∀ (post pre : List α) (s : σ), xs = pre ++ post → I pre s → ∃ s', forM' f post s = .ok (.nx s') ∧ I xs s' := by
    intro post
    induction post with
    | nil => intro pre s e hi; rw [List.append_nil] at e; subst e; exact ⟨s, rfl, hi⟩
    | cons x post ih =>
      intro pre s e hi
      obtain ⟨s1, h1, h2⟩ := h pre x post s e hi
      obtain ⟨s', h3, h4⟩ := ih (pre ++ [x]) s1 (by rw [e, List.append_assoc]; rfl) h2
      exact ⟨s', by simp only [forM', h1]; exact h3, h4⟩
  exact key xs [] s0 rfl h0
theorem compR_ok {α β : Type} {c : α → Rs Bool} {b : α → Rs β} (p : α → Bool) (g : α → β) : ∀ (xs : List α), (∀ x ∈ xs, c x = .ok (p x)) → (∀ x ∈ xs, p x = true → b x = .ok (g x)) → compR c b xs = .ok ((xs.filter p).map g)
  | [], _, _ => rfl
  | x :: xs, hc, hb => by
    have ih := compR_ok p g xs (fun y m => hc y (List.mem_cons_of_mem _ m)) (fun y m => hb y (List.mem_cons_of_mem _ m))
    unfold compR
    rw [hc x List.mem_cons_self]
    cases q : p x with
    | true =>
      simp only [hb x List.mem_cons_self q, ih]
      rw [List.filter_cons_of_pos q]; rfl
    | false =>
      simp only [ih]
      rw [List.filter_cons_of_neg (by simp [q])]
theorem compM_ok {α β : Type} {xs : List α} {c : α → Rs Bool} {b : α → Rs β} (p : α → Bool) (g : α → β) (hc : ∀ x ∈ xs, c x = .ok (p x)) (hb : ∀ x ∈ xs, p x = true → b x = .ok (g x)) (hl : xs.length ≤ LINE) : compM xs c b = .ok ((xs.filter p).map g) := by
  unfold compM
  rw [compR_ok p g xs hc hb]
  unfold grd
  have : ((xs.filter p).map g).length ≤ LINE := by rw [List.length_map]; exact Nat.le_trans (List.length_filter_le _ _) hl
  simp only [this, if_true]
/-- [g x for x in xs] -/
theorem compM_map {α β : Type} {xs : List α} {b : α → Rs β} (g : α → β) (hb : ∀ x ∈ xs, b x = .ok (g x)) (hl : xs.length ≤ LINE) : compM xs (fun _ => .ok true) b = .ok (xs.map g) := by
  rw [compM_ok (fun _ => true) g (fun _ _ => rfl) (fun x m _ => hb x m) hl, List.filter_eq_self.mpr fun _ _ => rfl]
/-- [x for x in xs if p x] -/
theorem compM_filter {α : Type} {xs : List α} {c : α → Rs Bool} (p : α → Bool) (hc : ∀ x ∈ xs, c x = .ok (p x)) (hl : xs.length ≤ LINE) : compM xs c (fun x => .ok x) = .ok (xs.filter p) := by
  rw [compM_ok p (fun x => x) hc (fun _ _ _ => rfl) hl, List.map_id']
theorem cat_ok {α : Type} {xs ys : List α} (h : xs.length + ys.length ≤ LINE) : cat xs ys = .ok (xs ++ ys) := by unfold cat; rw [if_pos h]
theorem app_ok {α : Type} {xs : List α} {y : α} (h : xs.length < LINE) : app xs y = .ok (xs ++ [y]) := by unfold app; rw [if_pos h]
theorem insr_ok {α : Type} {xs : List α} {y : α} {i : Nat} (h : xs.length < LINE) (hi : i ≤ xs.length) : insr xs (i : Int) y = .ok (xs.take i ++ y :: xs.drop i) := by
  unfold insr; rw [if_pos ⟨h, by omega, by omega⟩]; rfl
theorem rng0 {n : Nat} (h : n ≤ LINE) : rng 0 (n : Int) = .ok ((List.range n).map fun (k : Nat) => (k : Int)) := by
  have hL := L_eq
  have h1 : (0 : Int) < 2 ^ 62 := by decide
  have h0 : -(2 ^ 62 : Int) ≤ 0 := by decide
  have h2 : (n : Int) < 2 ^ 62 := by omega
  have h3 : -(2 ^ 62 : Int) ≤ (n : Int) := by omega
  unfold rng
  rw [if_pos ⟨h0, h1, h3, h2, by omega⟩]
  simp
theorem rng0' {i : Int} {n : Nat} (e : i = n) (h : n ≤ LINE) : rng 0 i = .ok ((List.range n).map fun (k : Nat) => (k : Int)) := by rw [e]; exact rng0 h
theorem rngab {a n : Nat} (h : a + n ≤ LINE) : rng (a : Int) ((a + n : Nat) : Int) = .ok ((List.range n).map fun (k : Nat) => ((a + k : Nat) : Int)) := by
  have hL := L_eq
  have h0 : -(2 ^ 62 : Int) ≤ (a : Int) := by omega
  have h1 : (a : Int) < 2 ^ 62 := by omega
  have h2 : ((a + n : Nat) : Int) < 2 ^ 62 := by omega
  have h3 : -(2 ^ 62 : Int) ≤ ((a + n : Nat) : Int) := by omega
  unfold rng
  rw [if_pos ⟨h0, h1, h3, h2, by omega⟩]
  have : ((a + n : Nat) - (a : Int)).toNat = n := by omega
  rw [this]
  congr 1
theorem atI_nat {α : Type} {xs : List α} {n : Nat} (h : n < xs.length) : L2.atI xs (n : Int) = some xs[n] := by
  simp only [L2.atI, L2.ixN, Int.natCast_nonneg, if_true]
  rw [if_pos (by omega)]
  simp [h]
theorem ixL_nat {α : Type} {xs : List α} {n : Nat} (h : n < xs.length) : ixL xs (n : Int) = .ok xs[n] := by unfold ixL; rw [atI_nat h]
theorem ixL_int {α : Type} {xs : List α} {i : Int} (h0 : 0 ≤ i) (h : i < xs.length) : ixL xs i = .ok (xs[i.toNat]'(by omega)) := by
  obtain ⟨n, rfl⟩ := Int.eq_ofNat_of_zero_le h0
  exact ixL_nat (by omega)
theorem ixL_zero {α : Type} {x : α} {xs : List α} : ixL (x :: xs) 0 = .ok x := ixL_nat (xs := x :: xs) (n := 0) (by simp)
theorem ixL_last {α : Type} {xs : List α} (h : xs ≠ []) : ixL xs (-1) = .ok (xs.getLast h) := by
  have hl : 0 < xs.length := List.length_pos_iff.mpr h
  have : L2.atI xs (-1) = some (xs.getLast h) := by
    unfold L2.atI L2.ixN
    rw [if_neg (by decide), if_pos (by omega)]
    have e : (-1 + (xs.length : Int)).toNat = xs.length - 1 := by omega
    simp only [Option.bind, e]
    rw [← List.getLast?_eq_getElem?, List.getLast?_eq_some_getLast h]
  unfold ixL
  rw [this]
theorem setL_nat {α : Type} {xs : List α} {n : Nat} {y : α} (h : n < xs.length) : setL xs (n : Int) y = .ok (xs.set n y) := by
  unfold setL
  simp only [L2.ixN, Int.natCast_nonneg, if_true]
  rw [if_pos (by omega)]
  simp
theorem modI_pos {i j : Int} (h : 0 < j) : modI i j = .ok (i % j) := by unfold modI; rw [if_pos h]
theorem fdivI_pos {i j : Int} (h : 0 < j) (h2 : j < 1073741824) : fdivI i j = .ok (i / j) := by unfold fdivI; rw [if_pos ⟨h, h2⟩]
theorem mulI_r {i j : Int} (h : j.natAbs < 2 ^ 64) : mulI i j = .ok (i * j) := by unfold mulI; rw [if_pos (.inr h)]
theorem mulI_l {i j : Int} (h : i.natAbs < 2 ^ 64) : mulI i j = .ok (i * j) := by unfold mulI; rw [if_pos (.inl h)]
theorem sameR_ok {α : Type} [DecidableEq α] [Dt α] {x y : α} (h : x = y) (ho : okS (Dt.D x) = true) : sameR x y = .ok true := by unfold sameR; rw [if_pos ⟨h, ho⟩]
theorem idxL_ok {α : Type} [DecidableEq α] {xs : List α} {x : α} (h : x ∈ xs) : idxL xs x = .ok ((xs.idxOf x : Nat) : Int) := by
  unfold idxL
  have : xs.findIdx? (fun z => decide (z = x)) = some (xs.idxOf x) := by
    rw [List.findIdx?_eq_some_iff_findIdx_eq]
    have e : (fun z => decide (z = x)) = fun z => z == x := by funext z; exact (beq_decide z x).symm
    rw [e]
    exact ⟨List.idxOf_lt_length_of_mem h, rfl⟩
  rw [this]
/-! ### what is compared, is not too long -/
theorem okS_i (i : Int) : okS (Dt.D i) = true := rfl
theorem okS_b (i : Bool) : okS (Dt.D i) = true := rfl
theorem okS_s (i : Str) : okS (Dt.D i) = true := rfl
theorem okS_n : okS (Dt.D ()) = true := rfl
theorem okS_p {α β : Type} [Dt α] [Dt β] {p : α × β} (h1 : okS (Dt.D p.1) = true) (h2 : okS (Dt.D p.2) = true) : okS (Dt.D p) = true := by
  show okS (.tuple [Dt.D p.1, Dt.D p.2]) = true
  simp [okS, okS.okSs, h1, h2]
theorem okS_l {α : Type} [Dt α] {xs : List α} (h : xs.length ≤ 100000) (hs : ∀ x ∈ xs, okS (Dt.D x) = true) : okS (Dt.D xs) = true := by
  show okS (.list (xs.map Dt.D)) = true
  simp only [okS, List.length_map, Bool.and_eq_true, decide_eq_true_eq]
  refine ⟨?_, h⟩
  clear h
  induction xs with
  | nil => rfl
  | cons x xs ih =>
    simp only [List.map_cons, okS.okSs, Bool.and_eq_true]
    exact ⟨hs x List.mem_cons_self, ih fun y m => hs y (List.mem_cons_of_mem _ m)⟩
theorem okS_o {α : Type} [Dt α] {o : Option α} (h : ∀ x, o = some x → okS (Dt.D x) = true) : okS (Dt.D o) = true := by
  cases o with
  | none => rfl
  | some x => exact h x rfl
/-! ### dicts by a list of keys -/
section
variable {κ ν : Type} [DecidableEq κ]
def dfun (ks : List κ) (g : κ → ν) : List (κ × ν) := ks.map fun k => (k, g k)
theorem dfind_dfun {ks : List κ} {g : κ → ν} {k : κ} (h : k ∈ ks) : dfind (dfun ks g) k = some (g k) := by
  unfold dfind dfun
  induction ks with
  | nil => cases h
  | cons a r ih =>
    simp only [List.map_cons, List.find?_cons]
    by_cases c : a = k
    · subst c; simp
    · simp only [c, decide_false]
      exact ih ((List.mem_cons.mp h).resolve_left (Ne.symm c))
theorem dget_dfun {ks : List κ} {g : κ → ν} {k : κ} (h : k ∈ ks) : dget (dfun ks g) k = .ok (g k) := by unfold dget; rw [dfind_dfun h]
theorem dhas_dfun {ks : List κ} {g : κ → ν} {k : κ} : dhas (dfun ks g) k = decide (k ∈ ks) := by
  unfold dhas dfun
  rw [List.any_map, Bool.eq_iff_iff, List.any_eq_true, decide_eq_true_eq]
  constructor
  · rintro ⟨a, m, h⟩
    have : a = k := by simpa using h
    exact this ▸ m
  · intro m; exact ⟨k, m, by simp⟩
theorem dput_dfun {ks : List κ} {g : κ → ν} {k : κ} {v : ν} (h : k ∈ ks) : dput (dfun ks g) k v = dfun ks fun m => if m = k then v else g m := by
  unfold dput
  rw [dhas_dfun, if_pos (by simpa using h)]
  unfold dfun
  rw [List.map_map]
  apply List.map_congr_left
  intro m _
  by_cases c : m = k <;> simp [c]
theorem dput_snoc {ks : List κ} {g : κ → ν} {k : κ} (h : k ∉ ks) : dput (dfun ks g) k (g k) = dfun (ks ++ [k]) g := by
  unfold dput
  rw [dhas_dfun, if_neg (by simpa using h)]
  simp [dfun]
theorem dOf_dfun {ks : List κ} {g : κ → ν} (nd : ks.Nodup) : dOf (dfun ks g) = dfun ks g := by
  have key : ∀ (post pre : List κ), (pre ++ post).Nodup → (dfun post g).foldl (fun a p => dput a p.1 p.2) (dfun pre g) = dfun (pre ++ post) g := by
    intro post
    induction post with
    | nil => intro pre _; simp [dfun]
    | cons n r ih =>
      intro pre nd
      have hn : n ∉ pre := by
        rw [List.nodup_append] at nd
        intro m
        exact nd.2.2 n m n (by simp) rfl
      show (dfun r g).foldl _ (dput (dfun pre g) n (g n)) = _
      rw [dput_snoc hn, ih (pre ++ [n]) (by rw [List.append_assoc]; exact nd), List.append_assoc]
      rfl
  exact key ks [] nd
theorem dset_dfun {ks : List κ} {g : κ → ν} {k : κ} {v : ν} (h : k ∈ ks) (hl : ks.length < LINE) : dset (dfun ks g) k v = .ok (dfun ks fun m => if m = k then v else g m) := by
  have : (dfun ks g).length < LINE := by simpa [dfun] using hl
  unfold dset
  rw [if_pos this, dput_dfun h]
theorem dset_snoc {ks : List κ} {g : κ → ν} {k : κ} {v : ν} (h : k ∉ ks) (hl : ks.length < LINE) (hv : v = g k) : dset (dfun ks g) k v = .ok (dfun (ks ++ [k]) g) := by
  have : (dfun ks g).length < LINE := by simpa [dfun] using hl
  unfold dset
  rw [if_pos this, hv, dput_snoc h]
theorem dcompM_dfun {ks : List κ} {b : κ → Rs (κ × ν)} (g : κ → ν) (nd : ks.Nodup) (hl : ks.length ≤ LINE) (hb : ∀ k ∈ ks, b k = .ok (k, g k)) : dcompM ks b = .ok (dfun ks g) := by
  unfold dcompM
  rw [compM_map (fun k => (k, g k)) hb hl, Rs.bd_ok]
  exact congrArg Rs.ok (dOf_dfun nd)
theorem dfun_congr {ks : List κ} {g g' : κ → ν} (h : ∀ k ∈ ks, g k = g' k) : dfun ks g = dfun ks g' := List.map_congr_left fun k m => by rw [h k m]
end
/-! ### orders -/
section
variable {α β : Type} [DecidableEq α] [Dt α] [LDt α] [ODt α] [DecidableEq β] [Dt β] [LDt β] [ODt β]
theorem ordS : Mv.Ord Str leT := ord_str
theorem ordI : Mv.Ord Int leT := by
  have key : ∀ a b : Int, leT a b = decide (a ≤ b) := by
    intro a b
    show (!decide (b < a)) = _
    rw [← decide_not]
    exact decide_eq_decide.mpr Int.not_lt
  refine ⟨fun a b => ?_, fun a b c h1 h2 => ?_, fun a b h1 h2 => ?_⟩
  · rw [key, key, decide_eq_true_eq, decide_eq_true_eq]; omega
  · rw [key, decide_eq_true_eq] at *; omega
  · rw [key, decide_eq_true_eq] at *; omega
theorem leT_int {a b : Int} : leT a b = decide (a ≤ b) := by
  show (!decide (b < a)) = _
  rw [← decide_not]
  exact decide_eq_decide.mpr Int.not_lt
theorem leT_pair (p q : α × β) : leT p q = if q.1 = p.1 then leT p.2 q.2 else leT p.1 q.1 := by
  show (!(if q.1 = p.1 then ODt.lt q.2 p.2 else ODt.lt q.1 p.1)) = _
  unfold leT
  split <;> rfl
theorem ordP (h : Mv.Ord α leT) (k : Mv.Ord β leT) : Mv.Ord (α × β) leT := by
  refine ⟨fun p q => ?_, fun p q r h1 h2 => ?_, fun p q h1 h2 => ?_⟩
  · rw [leT_pair, leT_pair]
    by_cases c : q.1 = p.1
    · rw [if_pos c, if_pos c.symm]; exact k.tot _ _
    · rw [if_neg c, if_neg (Ne.symm c)]; exact h.tot _ _
  · rw [leT_pair] at h1 h2 ⊢
    by_cases c1 : q.1 = p.1
    · rw [if_pos c1] at h1
      by_cases c2 : r.1 = q.1
      · rw [if_pos c2] at h2
        rw [if_pos (c2.trans c1)]; exact k.tr _ _ _ h1 h2
      · rw [if_neg c2] at h2
        rw [if_neg (fun e => c2 (e.trans c1.symm)), ← c1]; exact h2
    · rw [if_neg c1] at h1
      by_cases c2 : r.1 = q.1
      · rw [if_neg (fun e => c1 (c2.symm.trans e)), c2]; exact h1
      · rw [if_neg c2] at h2
        by_cases c3 : r.1 = p.1
        · exact absurd (h.anti _ _ (c3 ▸ h2) h1) c1
        · rw [if_neg c3]; exact h.tr _ _ _ h1 h2
  · rw [leT_pair] at h1 h2
    by_cases c : q.1 = p.1
    · rw [if_pos c] at h1
      rw [if_pos c.symm] at h2
      exact Prod.ext c.symm (k.anti _ _ h1 h2)
    · rw [if_neg c] at h1
      rw [if_neg (Ne.symm c)] at h2
      exact absurd (h.anti _ _ h2 h1) c
end
/-! ### draws -/
def drawT (pool : Pool) (many : Int) : Rs (Int × Pool) :=
 if (decide ((0 : Int) < pool.c2)) = true then
 ((modI pool.c2 many).bd fun t_1 =>
 (fdivI pool.c2 many).bd fun t_2 =>
 .ok (t_1, ({ pool with c2 := t_2 } : Pool)))
 else
 ((modI pool.c4 (8 : Int)).bd fun t_3 =>
 ((if ((decide (t_3 = (0 : Int))) && (decide (pool.c1 < (pool.ns.length : Int)))) = true then
 ((ixL pool.ns pool.c1).bd fun t_4 =>
 (powI (10 : Int) (18 : Int)).bd fun t_5 =>
 if (decide (t_5 ≤ (absI t_4))) = true then
 ((fdivI (absI t_4) many).bd fun t_6 =>
 (modI (absI t_4) many).bd fun t_7 =>
 .ok (.rt (t_7, ({ ({ pool with c1 := (pool.c1 + (1 : Int)) } : Pool) with c2 := t_6 } : Pool))))
 else
 (.ok (.nx ({ ({ pool with c1 := (pool.c1 + (1 : Int)) } : Pool) with c3 := (absI t_4) } : Pool))))
 else
 (.ok (.nx pool))) : Rs (O Pool (Int × Pool))).obd (fun x => x) fun s_8 =>
 (mulI ({ s_8 with c4 := (s_8.c4 + (1 : Int)) } : Pool).c3 (48271 : Int)).bd fun t_9 =>
 (mulI ({ s_8 with c4 := (s_8.c4 + (1 : Int)) } : Pool).c4 (69621 : Int)).bd fun t_10 =>
 (modI ((t_9 + t_10) + (7919 : Int)) (2147483647 : Int)).bd fun t_11 =>
 (mulI t_11 t_11).bd fun t_12 =>
 (mulI ({ s_8 with c4 := (s_8.c4 + (1 : Int)) } : Pool).c4 (40692 : Int)).bd fun t_13 =>
 (modI (t_12 + t_13) (2147483399 : Int)).bd fun t_14 =>
 (modI t_14 many).bd fun t_15 =>
 .ok (t_15, ({ s_8 with c4 := (s_8.c4 + (1 : Int)) } : Pool)))
def namesT (pool : Pool) (many : Int) : Rs ((List Str) × Pool) :=
 (drawT pool (26 : Int)).bd fun r_16 =>
 ((if (decide (many ≤ (26 : Int))) = true then ((drawT r_16.2 (3 : Int)).bd fun r_17 =>
 .ok ((decide (r_17.1 = (0 : Int))), r_17.2) : Rs (Bool × Pool)) else .ok (false, r_16.2))).bd fun b_18 =>
 if b_18.1 = true then
 ((rng 0 many).bd fun ns_20 =>
 (compM (β := Str) ns_20 (fun k_21 => .ok true) (fun k_21 => (modI (r_16.1 + k_21) (26 : Int)).bd fun t_22 =>
 (ixS (⟨#[97, 98, 99, 100, 101, 102, 103, 104, 105, 106, 107, 108, 109, 110, 111, 112, 113, 114, 115, 116, 117, 118, 119, 120, 121, 122]⟩ : Str) t_22).bd fun t_23 =>
 .ok t_23)).bd fun c_24 =>
 .ok (c_24, b_18.2))
 else
 ((drawT b_18.2 (11 : Int)).bd fun r_25 =>
 (rng 0 r_25.1).bd fun ns_26 =>
 (compS (β := Str) ns_26 r_25.2 (fun s_28 k_27 => .ok (true, s_28)) (fun s_28 k_27 => (drawT s_28 (26 : Int)).bd fun r_29 =>
 (ixS (⟨#[97, 98, 99, 100, 101, 102, 103, 104, 105, 106, 107, 108, 109, 110, 111, 112, 113, 114, 115, 116, 117, 118, 119, 120, 121, 122]⟩ : Str) r_29.1).bd fun t_30 =>
 .ok (t_30, r_29.2))).bd fun c_31 =>
 (joinS (⟨#[]⟩ : Str) c_31.1).bd fun t_32 =>
 (drawT c_31.2 ((t_32.length : Int) + (1 : Int))).bd fun r_33 =>
 (rng 0 many).bd fun ns_34 =>
 (foldM (fun (s_35 : (List Str)) k_36 =>
 ((modI (r_16.1 + k_36) (26 : Int)).bd fun t_37 =>
 (ixS (⟨#[97, 98, 99, 100, 101, 102, 103, 104, 105, 106, 107, 108, 109, 110, 111, 112, 113, 114, 115, 116, 117, 118, 119, 120, 121, 122]⟩ : Str) t_37).bd fun t_38 =>
 (fdivI k_36 (26 : Int)).bd fun t_39 =>
 (mulI t_39 (7 : Int)).bd fun t_40 =>
 (modI ((r_16.1 + t_40) + k_36) (26 : Int)).bd fun t_41 =>
 (ixS (⟨#[97, 98, 99, 100, 101, 102, 103, 104, 105, 106, 107, 108, 109, 110, 111, 112, 113, 114, 115, 116, 117, 118, 119, 120, 121, 122]⟩ : Str) t_41).bd fun t_42 =>
 (scat t_38 t_42).bd fun t_43 =>
 (scat (cutS' t_32 none (some r_33.1)) t_43).bd fun t_44 =>
 (scat t_44 (cutS' t_32 (some r_33.1) none)).bd fun t_45 =>
 (app s_35 t_45).bd fun found_46 =>
 .ok found_46)) ns_34 ([] : (List Str))).bd fun s_35 =>
 .ok (s_35, r_33.2))
def isNameT (word : Str) : Rs Bool :=
 if ((!true) || (!((decide ((1 : Int) ≤ (word.length : Int))) && (decide ((word.length : Int) ≤ (12 : Int)))))) = true then
 (.ok false)
 else
 ((forM' (ρ := Bool) (fun (s_70 : Unit) sign_71 =>
 (if (!sIn sign_71 (⟨#[97, 98, 99, 100, 101, 102, 103, 104, 105, 106, 107, 108, 109, 110, 111, 112, 113, 114, 115, 116, 117, 118, 119, 120, 121, 122]⟩ : Str)) = true then
 (.ok (.rt false))
 else
 (.ok (.nx ())))) (strsOf word) ()).obd (fun x => x) fun s_70 =>
 .ok true)

def PoolOk (p : Pool) : Prop := 0 ≤ p.c1
theorem draw_ok {p : Pool} {m : Int} (hp : PoolOk p) (hm : 0 < m) (hm2 : m < 1073741824) : ∃ (r : Nat) (p' : Pool), drawT p m = .ok ((r : Int), p') ∧ (r : Int) < m ∧ PoolOk p' := by
  have res : ∀ x : Int, ∃ r : Nat, x % m = r ∧ (r : Int) < m := fun x => by
    obtain ⟨r, hr⟩ := Int.eq_ofNat_of_zero_le (Int.emod_nonneg x (by omega : m ≠ 0))
    exact ⟨r, hr, hr ▸ Int.emod_lt_of_pos _ hm⟩
  unfold drawT
  by_cases h2 : 0 < p.c2
  · obtain ⟨r, h1, h3⟩ := res p.c2
    simp only [h2, decide_true, if_true]
    rw [modI_pos hm, fdivI_pos hm hm2]
    exact ⟨r, { p with c2 := p.c2 / m }, by rw [Rs.bd_ok, Rs.bd_ok, h1], h3, hp⟩
  · simp only [h2, decide_false, Bool.false_eq_true, if_false]
    have tail : ∀ s : Pool, PoolOk s → ∃ (r : Nat) (p' : Pool), ((mulI s.c3 48271).bd fun t_9 => (mulI (s.c4 + 1) 69621).bd fun t_10 => (modI ((t_9 + t_10) + 7919) 2147483647).bd fun t_11 => (mulI t_11 t_11).bd fun t_12 => (mulI (s.c4 + 1) 40692).bd fun t_13 => (modI (t_12 + t_13) 2147483399).bd fun t_14 => (modI t_14 m).bd fun t_15 => .ok (t_15, ({ s with c4 := s.c4 + 1 } : Pool))) = .ok ((r : Int), p') ∧ (r : Int) < m ∧ PoolOk p' := by
      intro s hs
      have b1 := Int.emod_nonneg (s.c3 * 48271 + (s.c4 + 1) * 69621 + 7919) (show (2147483647 : Int) ≠ 0 by decide)
      have b2 := Int.emod_lt_of_pos (s.c3 * 48271 + (s.c4 + 1) * 69621 + 7919) (show (0 : Int) < 2147483647 by decide)
      obtain ⟨r, h1, h3⟩ := res (((s.c3 * 48271 + (s.c4 + 1) * 69621 + 7919) % 2147483647 * ((s.c3 * 48271 + (s.c4 + 1) * 69621 + 7919) % 2147483647) + (s.c4 + 1) * 40692) % 2147483399)
      refine ⟨r, { s with c4 := s.c4 + 1 }, ?_, h3, hs⟩
      rw [mulI_r (by decide), Rs.bd_ok, mulI_r (by decide), Rs.bd_ok, modI_pos (by decide), Rs.bd_ok, mulI_r (by omega), Rs.bd_ok, mulI_r (by decide), Rs.bd_ok, modI_pos (by decide), Rs.bd_ok, modI_pos hm, Rs.bd_ok, h1]
    rw [modI_pos (by decide), Rs.bd_ok]
    by_cases h8 : p.c4 % 8 = 0
    · by_cases hl : p.c1 < (p.ns.length : Int)
      · simp only [h8, hl, decide_true, Bool.and_self, if_true]
        rw [ixL_int hp hl, Rs.bd_ok]
        have pw : powI 10 18 = .ok 1000000000000000000 := by unfold powI; rw [if_pos (by decide)]; rfl
        rw [pw, Rs.bd_ok]
        generalize absI _ = z
        by_cases hz : 1000000000000000000 ≤ z
        · simp only [hz, decide_true, if_true]
          obtain ⟨r, h1, h3⟩ := res z
          rw [fdivI_pos hm hm2, Rs.bd_ok, modI_pos hm, Rs.bd_ok, Rs.obd_rt]
          refine ⟨r, { p with c1 := p.c1 + 1, c2 := z / m }, by rw [h1], h3, ?_⟩
          show 0 ≤ p.c1 + 1
          have : 0 ≤ p.c1 := hp
          omega
        · simp only [hz, decide_false, Bool.false_eq_true, if_false, Rs.obd_nx]
          refine tail { p with c1 := p.c1 + 1, c3 := z } ?_
          show 0 ≤ p.c1 + 1
          have : 0 ≤ p.c1 := hp
          omega
      · simp only [hl, decide_false, Bool.and_false, Bool.false_eq_true, if_false, Rs.obd_nx]
        exact tail p hp
    · simp only [h8, decide_false, Bool.false_and, Bool.false_eq_true, if_false, Rs.obd_nx]
      exact tail p hp
/-! ### names -/
/-- a name: its letters -/
def nameOk (z : Str) : Prop := 1 ≤ z.length ∧ z.length ≤ 12 ∧ ∀ c ∈ z.cps.toList, 97 ≤ c ∧ c ≤ 122
abbrev LETS : Str := ⟨#[97, 98, 99, 100, 101, 102, 103, 104, 105, 106, 107, 108, 109, 110, 111, 112, 113, 114, 115, 116, 117, 118, 119, 120, 121, 122]⟩
theorem letter_in {c : Nat} (h : 97 ≤ c ∧ c ≤ 122) : sIn ⟨#[c]⟩ LETS = true := by
  have key : ∀ n, n < 26 → sIn ⟨#[n + 97]⟩ LETS = true := by decide +kernel
  have := key (c - 97) (by omega)
  rwa [show c - 97 + 97 = c by omega] at this
theorem is_name_ok {z : Str} (h : nameOk z) : isNameT z = .ok true := by
  obtain ⟨h1, h2, h3⟩ := h
  unfold isNameT
  have a1 : decide ((1 : Int) ≤ (z.length : Int)) = true := by simp; omega
  have a2 : decide ((z.length : Int) ≤ 12) = true := by simp; omega
  rw [a1, a2]
  simp only [Bool.not_true, Bool.and_self, Bool.or_self, Bool.false_eq_true, if_false]
  rw [forM_none (fun _ _ => ()) _ _ fun s x m => ?_]
  · rfl
  · obtain ⟨c, hc, rfl⟩ := List.mem_map.mp m
    have := letter_in (h3 c hc)
    simp only [this, Bool.not_true, Bool.false_eq_true, if_false]
/-- the n-th letter -/
def lett (n : Nat) : Str := ⟨#[97 + n]⟩
theorem ixS_let {n : Nat} (h : n < 26) : ixS LETS (n : Int) = .ok (lett n) := by
  have key : ∀ n, n < 26 → LETS.cps.toList[n]? = some (97 + n) := by decide
  have hl : n < LETS.cps.toList.length := by simpa using h
  unfold ixS
  rw [atI_nat hl]
  have := key n h
  rw [List.getElem?_eq_getElem hl] at this
  simp only [Option.some.inj this]
  rfl
theorem lett_ok (n : Nat) (h : n < 26) : nameOk (lett n) := ⟨by show 1 ≤ 1; omega, by show 1 ≤ 12; omega, fun c m => by simp [lett] at m; omega⟩
/-- one letter, or two alike stand side by side -/
def dbl : List Nat → Bool
  | a :: b :: r => decide (a = b) || dbl (b :: r)
  | _ => false
theorem dbl_mid {c : Nat} {s : List Nat} : ∀ r : List Nat, dbl (r ++ c :: c :: s) = true
  | [] => by simp [dbl]
  | [a] => by simp [dbl]
  | a :: b :: r => by
    have := dbl_mid (c := c) (s := s) (b :: r)
    simp only [List.cons_append, dbl, Bool.or_eq_true] at this ⊢
    exact .inr this
/-- names as they are drawn -/
structure Drawn (m : Nat) (ns : List Str) : Prop where
  len : ns.length = m
  nd : ns.Nodup
  ok : ∀ z ∈ ns, nameOk z
  db : ∀ z ∈ ns, z.length = 1 ∨ dbl z.cps.toList = true
theorem drawn_letters (m a : Nat) (hm : m ≤ 26) : Drawn m ((List.range m).map fun k => lett ((a + k) % 26)) := by
  refine ⟨by simp, ?_, fun z hz => ?_, fun z hz => ?_⟩
  · rw [List.nodup_iff_pairwise_ne, List.pairwise_map]
    refine List.Pairwise.imp_of_mem ?_ List.pairwise_lt_range
    intro x y hx hy hxy e
    have hx := List.mem_range.mp hx
    have hy := List.mem_range.mp hy
    have : (a + x) % 26 = (a + y) % 26 := by
      have := congrArg (fun s : Str => s.cps.toList) e
      simp [lett] at this
      exact this
    omega
  · obtain ⟨k, _, rfl⟩ := List.mem_map.mp hz
    exact lett_ok _ (Nat.mod_lt _ (by decide))
  · obtain ⟨k, _, rfl⟩ := List.mem_map.mp hz
    exact .inl rfl
theorem drawn_stem (m a at_ : Nat) (w : Str) (hw : w.length ≤ 10) (hl : ∀ c ∈ w.cps.toList, 97 ≤ c ∧ c ≤ 122) (hm : m ≤ 26) :
    Drawn m ((List.range m).map fun k => (⟨(w.cps.toList.take at_ ++ [97 + (a + k) % 26, 97 + (a + k) % 26] ++ w.cps.toList.drop at_).toArray⟩ : Str)) := by
  refine ⟨by simp, ?_, fun z hz => ?_, fun z hz => ?_⟩
  · rw [List.nodup_iff_pairwise_ne, List.pairwise_map]
    refine List.Pairwise.imp_of_mem ?_ List.pairwise_lt_range
    intro x y hx hy hxy e
    have hx := List.mem_range.mp hx
    have hy := List.mem_range.mp hy
    have : (a + x) % 26 = (a + y) % 26 := by
      have := congrArg (fun s : Str => s.cps.toList) e
      simp at this
      omega
    omega
  · obtain ⟨k, _, rfl⟩ := List.mem_map.mp hz
    have hk := Nat.mod_lt (a + k) (show 0 < 26 by decide)
    have hlen : w.cps.toList.length ≤ 10 := by simpa [Str.length] using hw
    have tl : (w.cps.toList.take at_).length + (w.cps.toList.drop at_).length = w.cps.toList.length := by
      rw [← List.length_append, List.take_append_drop]
    refine ⟨?_, ?_, fun c m => ?_⟩
    · show 1 ≤ (List.toArray _).size
      simp only [List.size_toArray, List.length_append, List.length_cons, List.length_nil]; omega
    · show (List.toArray _).size ≤ 12
      simp only [List.size_toArray, List.length_append, List.length_cons, List.length_nil]; omega
    · have m : c ∈ w.cps.toList.take at_ ++ [97 + (a + k) % 26, 97 + (a + k) % 26] ++ w.cps.toList.drop at_ := by simpa using m
      simp only [List.mem_append, List.mem_cons, List.not_mem_nil, or_false] at m
      rcases m with (m | m | m) | m
      · exact hl c (List.mem_of_mem_take m)
      · omega
      · omega
      · exact hl c (List.mem_of_mem_drop m)
  · obtain ⟨k, _, rfl⟩ := List.mem_map.mp hz
    right
    show dbl (w.cps.toList.take at_ ++ [97 + (a + k) % 26, 97 + (a + k) % 26] ++ w.cps.toList.drop at_) = true
    rw [List.append_assoc]
    exact dbl_mid _
theorem join_nil_len : ∀ xs : List Str, (Str.join ⟨#[]⟩ xs).cps.toList = xs.flatMap fun x => x.cps.toList
  | [] => rfl
  | [x] => by simp [Str.join]
  | x :: y :: r => by
    have := join_nil_len (y :: r)
    show (x ++ (⟨#[]⟩ : Str) ++ Str.join ⟨#[]⟩ (y :: r)).cps.toList = _
    rw [List.flatMap_cons, ← this]
    show ((x.cps ++ #[]) ++ (Str.join ⟨#[]⟩ (y :: r)).cps).toList = _
    simp
theorem stem_ok {zs : List Str} (h : ∀ z ∈ zs, ∃ n, n < 26 ∧ z = lett n) : (Str.join ⟨#[]⟩ zs).length = zs.length ∧ ∀ c ∈ (Str.join ⟨#[]⟩ zs).cps.toList, 97 ≤ c ∧ c ≤ 122 := by
  have e := join_nil_len zs
  have l : (zs.flatMap fun x => x.cps.toList).length = zs.length := by
    clear e
    induction zs with
    | nil => rfl
    | cons z r ih =>
      obtain ⟨n, _, rfl⟩ := h z List.mem_cons_self
      rw [List.flatMap_cons, List.length_append, ih fun y m => h y (List.mem_cons_of_mem _ m)]
      simp [lett]; omega
  refine ⟨?_, fun c m => ?_⟩
  · show (Str.join ⟨#[]⟩ zs).cps.size = _
    rw [← Array.length_toList, e, l]
  · rw [e, List.mem_flatMap] at m
    obtain ⟨z, mz, mc⟩ := m
    obtain ⟨n, hn, rfl⟩ := h z mz
    simp [lett] at mc
    omega
theorem compT_any {α β σ : Type} {b : σ → α → Rs (β × σ)} (I : σ → Prop) (Q : β → Prop) : ∀ (xs : List α) (s : σ), (∀ s x, I s → ∃ y s', b s x = .ok (y, s') ∧ I s' ∧ Q y) → I s →
    ∃ ys s', compT (fun s _ => .ok (true, s)) b xs s = .ok (ys, s') ∧ ys.length = xs.length ∧ (∀ y ∈ ys, Q y) ∧ I s'
  | [], s, _, hs => ⟨[], s, rfl, rfl, fun _ m => by simp at m, hs⟩
  | x :: xs, s, h, hs => by
    obtain ⟨y, s1, h1, h2, h3⟩ := h s x hs
    obtain ⟨ys, s2, k1, k2, k3, k4⟩ := compT_any I Q xs s1 h h2
    refine ⟨y :: ys, s2, ?_, by simp [k2], fun z m => ?_, k4⟩
    · unfold compT
      simp only [h1, k1]
    · rcases List.mem_cons.mp m with rfl | m
      · exact h3
      · exact k3 z m
theorem compS_any {α β σ : Type} {xs : List α} {b : σ → α → Rs (β × σ)} {s : σ} (I : σ → Prop) (Q : β → Prop) (h : ∀ s x, I s → ∃ y s', b s x = .ok (y, s') ∧ I s' ∧ Q y) (hs : I s) (hl : xs.length ≤ LINE) :
    ∃ ys s', compS xs s (fun s _ => .ok (true, s)) b = .ok (ys, s') ∧ ys.length = xs.length ∧ (∀ y ∈ ys, Q y) ∧ I s' := by
  obtain ⟨ys, s', k1, k2, k3, k4⟩ := compT_any I Q xs s h hs
  refine ⟨ys, s', ?_, k2, k3, k4⟩
  unfold compS
  rw [k1]
  simp only
  rw [if_pos (by omega)]
theorem scat_ok {a b : Str} (h : a.length + b.length ≤ 1000) : scat a b = .ok (a ++ b) := by
  have := L_eq
  unfold scat; rw [if_pos (by omega)]
theorem cut_to {w : Str} {n : Nat} (h : n ≤ w.length) : cutS' w none (some (n : Int)) = ⟨(w.cps.toList.take n).toArray⟩ := by
  have hl : w.cps.toList.length = w.length := by simp [Str.length]
  unfold cutS' cut
  rw [HT.sIx_none, HT.sIx_nat, hl]
  simp [Nat.min_eq_left h]
theorem cut_from {w : Str} {n : Nat} (h : n ≤ w.length) : cutS' w (some (n : Int)) none = ⟨(w.cps.toList.drop n).toArray⟩ := by
  have hl : w.cps.toList.length = w.length := by simp [Str.length]
  unfold cutS' cut
  rw [HT.sIx_none, HT.sIx_nat, hl, Nat.min_eq_left h, List.take_of_length_le (by simp [hl])]
theorem mod26 (r k : Nat) : modI ((r : Int) + (k : Int)) 26 = .ok (((r + k) % 26 : Nat) : Int) := by
  rw [modI_pos (by decide)]
  congr 1
theorem len_mk (l : List Nat) : (⟨l.toArray⟩ : Str).length = l.length := by simp [Str.length]
theorem app_mk (l l' : List Nat) : (⟨l.toArray⟩ : Str) ++ ⟨l'.toArray⟩ = ⟨(l ++ l').toArray⟩ := by
  show (Str.mk (l.toArray ++ l'.toArray)) = _
  simp
theorem names_ok {p : Pool} (hp : PoolOk p) {m : Nat} (hm : m ≤ 26) : ∃ ns p', namesT p (m : Int) = .ok (ns, p') ∧ Drawn m ns ∧ PoolOk p' := by
  have hL := L_eq
  obtain ⟨r1, p1, d1, h1, hp1⟩ := draw_ok hp (m := 26) (by decide) (by decide)
  obtain ⟨r2, p2, d2, h2, hp2⟩ := draw_ok hp1 (m := 3) (by decide) (by decide)
  unfold namesT
  rw [d1, Rs.bd_ok]
  have cm : decide ((m : Int) ≤ 26) = true := by simp; omega
  simp only [cm, if_true, d2, Rs.bd_ok]
  by_cases c : r2 = 0
  · subst c
    simp only [Int.ofNat_zero, Int.natCast_zero, decide_true, if_true]
    rw [rng0 (by omega), Rs.bd_ok, compM_map (fun k : Int => lett ((r1 + k.toNat) % 26)) (fun x hx => ?_) (by simp only [List.length_map, List.length_range]; omega), Rs.bd_ok]
    · refine ⟨_, p2, rfl, ?_, hp2⟩
      rw [List.map_map]
      exact drawn_letters m r1 hm
    · obtain ⟨k, _, rfl⟩ := List.mem_map.mp hx
      rw [mod26, Rs.bd_ok, ixS_let (Nat.mod_lt _ (by decide)), Rs.bd_ok]
      rfl
  · have cz : ¬ ((r2 : Int) = 0) := by omega
    simp only [cz, decide_false, Bool.false_eq_true, if_false]
    obtain ⟨r3, p3, d3, h3, hp3⟩ := draw_ok hp2 (m := 11) (by decide) (by decide)
    rw [d3, Rs.bd_ok, rng0 (by omega), Rs.bd_ok]
    obtain ⟨zs, p4, k1, k2, k3, hp4⟩ := compS_any (xs := (List.range r3).map fun (k : Nat) => (k : Int)) (s := p3) (b := fun (s_28 : Pool) (k_27 : Int) => (drawT s_28 26).bd fun r_29 => (ixS LETS r_29.1).bd fun t_30 => .ok (t_30, r_29.2)) PoolOk (fun z => ∃ n, n < 26 ∧ z = lett n) (fun s x hs => by
      obtain ⟨r, p', e1, e2, e3⟩ := draw_ok hs (m := 26) (by decide) (by decide)
      refine ⟨lett r, p', ?_, e3, r, by omega, rfl⟩
      rw [e1, Rs.bd_ok, ixS_let (by omega), Rs.bd_ok]) hp3 (by simp; omega)
    rw [k1, Rs.bd_ok]
    simp only [List.length_map, List.length_range] at k2
    obtain ⟨s1, s2⟩ := stem_ok k3
    have one : ∀ z ∈ zs, z.length = 1 := fun z hz => by obtain ⟨n, _, rfl⟩ := k3 z hz; rfl
    have sum1 : (zs.map Str.length).sum = zs.length := by
      clear k1 k2 k3 s1 s2
      induction zs with
      | nil => rfl
      | cons z zs ih => simp only [List.map_cons, List.sum_cons, one z List.mem_cons_self, ih fun y m => one y (List.mem_cons_of_mem _ m), List.length_cons]; omega
    have jn : joinS ⟨#[]⟩ zs = .ok (Str.join ⟨#[]⟩ zs) := by
      unfold joinS
      rw [if_pos]
      rw [sum1]
      show zs.length + zs.length * 0 ≤ LINE
      omega
    rw [jn, Rs.bd_ok]
    generalize Str.join ⟨#[]⟩ zs = w at s1 s2
    obtain ⟨r4, p5, d5, h5, hp5⟩ := draw_ok hp4 (m := (w.length : Int) + 1) (by omega) (by omega)
    rw [d5, Rs.bd_ok, rng0 (by omega), Rs.bd_ok]
    have hr4 : r4 ≤ w.length := by omega
    have hwl : w.cps.toList.length = w.length := by simp [Str.length]
    obtain ⟨ns, e1, e2⟩ := foldM_inv (f := fun (s_35 : List Str) (k_36 : Int) =>
        (modI ((r1 : Int) + k_36) 26).bd fun t_37 => (ixS LETS t_37).bd fun t_38 => (fdivI k_36 26).bd fun t_39 => (mulI t_39 7).bd fun t_40 => (modI (((r1 : Int) + t_40) + k_36) 26).bd fun t_41 => (ixS LETS t_41).bd fun t_42 =>
        (scat t_38 t_42).bd fun t_43 => (scat (cutS' w none (some (r4 : Int))) t_43).bd fun t_44 => (scat t_44 (cutS' w (some (r4 : Int)) none)).bd fun t_45 => (app s_35 t_45).bd fun found_46 => .ok found_46)
      (fun pre s => s = pre.map fun k : Int => (⟨(w.cps.toList.take r4 ++ [97 + (r1 + k.toNat) % 26, 97 + (r1 + k.toNat) % 26] ++ w.cps.toList.drop r4).toArray⟩ : Str)) ((List.range m).map fun (k : Nat) => (k : Int)) [] rfl (fun pre x post s hx hs => by
        have mx : x ∈ (List.range m).map fun (k : Nat) => (k : Int) := by rw [hx]; simp
        obtain ⟨k, hk, rfl⟩ := List.mem_map.mp mx
        have hk := List.mem_range.mp hk
        have pl : pre.length ≤ m := by
          have := congrArg List.length hx
          simp at this; omega
        have lt := Nat.mod_lt (r1 + k) (show 0 < 26 by decide)
        refine ⟨s ++ [(⟨(w.cps.toList.take r4 ++ [97 + (r1 + k) % 26, 97 + (r1 + k) % 26] ++ w.cps.toList.drop r4).toArray⟩ : Str)], ?_, by rw [hs, List.map_append]; rfl⟩
        have dv : fdivI (k : Int) 26 = .ok 0 := by rw [fdivI_pos (by decide) (by decide)]; congr 1; omega
        have ml : mulI 0 7 = .ok 0 := by rw [mulI_r (by decide)]; rfl
        have m2 : modI (((r1 : Int) + 0) + (k : Int)) 26 = .ok (((r1 + k) % 26 : Nat) : Int) := by rw [Int.add_zero]; exact mod26 _ _
        have tl : (w.cps.toList.take r4).length + (w.cps.toList.drop r4).length = w.cps.toList.length := by rw [← List.length_append, List.take_append_drop]
        have cc : scat (lett ((r1 + k) % 26)) (lett ((r1 + k) % 26)) = .ok ⟨[97 + (r1 + k) % 26, 97 + (r1 + k) % 26].toArray⟩ := by
          rw [scat_ok (by show 1 + 1 ≤ 1000; omega)]; rfl
        simp only [mod26, Rs.bd_ok, ixS_let lt, dv, ml, m2, cc, cut_to hr4, cut_from hr4]
        rw [scat_ok (by rw [len_mk, len_mk]; simp only [List.length_append, List.length_cons, List.length_nil]; omega), Rs.bd_ok, app_mk, scat_ok (by rw [len_mk, len_mk]; simp only [List.length_append, List.length_cons, List.length_nil]; omega), Rs.bd_ok, app_mk, app_ok (by rw [hs]; simp only [List.length_map]; omega), Rs.bd_ok])
    rw [e1, Rs.bd_ok]
    refine ⟨ns, p5, rfl, ?_, hp5⟩
    rw [e2, List.map_map]
    exact drawn_stem m r1 r4 w (by omega) s2 hm
end Mv.Sh
end
section
set_option Elab.async false
set_option linter.all false
set_option maxHeartbeats 4000000
/-! The mathematics of calls (plain Lean). -/
namespace Mv
open PySem L2 PySem.W

theorem len_both {α : Type} [DecidableEq α] {le : α → α → Bool} {g : α → List α} {a b : α} : (both le g a b).length ≤ (g a).length + (g b).length := by
  unfold both
  rw [isort_len, List.length_append]
  have := List.length_filter_le (fun x => decide (x ∉ g a)) (g b)
  omega
section
variable {α : Type} [DecidableEq α] {le : α → α → Bool}
structure RowsOk (le : α → α → Bool) (ns : List α) (g : α → List α) : Prop where
  nd : ∀ n ∈ ns, (g n).Nodup
  sub : ∀ n ∈ ns, ∀ x ∈ g n, x ∈ ns
  so : ∀ n ∈ ns, (g n).Pairwise fun x y => le x y = true
theorem nodup_le {l m : List α} (h : l.Nodup) (s : ∀ x ∈ l, x ∈ m) : l.length ≤ m.length := by
  induction l generalizing m with
  | nil => exact Nat.zero_le _
  | cons a r ih =>
    rw [List.nodup_cons] at h
    have ha := s a List.mem_cons_self
    have := ih (m := m.erase a) h.2 fun x hx => (List.mem_erase_of_ne (fun e => h.1 (by rw [← e]; exact hx))).mpr (s x (List.mem_cons_of_mem _ hx))
    rw [List.length_erase_of_mem ha] at this
    have hp := List.length_pos_of_mem ha
    simp only [List.length_cons]; omega
theorem RowsOk.len {ns : List α} {g : α → List α} (R : RowsOk le ns g) {n : α} (h : n ∈ ns) : (g n).length ≤ ns.length := nodup_le (R.nd n h) (R.sub n h)
theorem mem_both {g : α → List α} {a b x : α} : x ∈ both le g a b ↔ x ∈ g a ∨ x ∈ g b := by
  unfold both
  rw [isort_mem, List.mem_append, List.mem_filter]
  by_cases h : x ∈ g a <;> simp [h]
theorem RowsOk.step {ns : List α} {g : α → List α} (O : Ord α le) (R : RowsOk le ns g) {c : α × α} (h1 : c.1 ∈ ns) (h2 : c.2 ∈ ns) : RowsOk le ns (kstep le g c) := by
  have bn : (both le g c.1 c.2).Nodup := by
    unfold both
    rw [isort_nodup, List.nodup_append]
    refine ⟨R.nd _ h1, (R.nd _ h2).filter _, fun x hx y hy e => ?_⟩
    subst e
    have := (List.mem_filter.mp hy).2
    simp [hx] at this
  have bs : ∀ x ∈ both le g c.1 c.2, x ∈ ns := fun x hx => (mem_both.mp hx).elim (R.sub _ h1 x) (R.sub _ h2 x)
  have bo : (both le g c.1 c.2).Pairwise fun x y => le x y = true := isort_sorted O _
  refine ⟨fun n hn => ?_, fun n hn => ?_, fun n hn => ?_⟩ <;> unfold kstep <;> split
  · exact bn
  · exact R.nd n hn
  · exact bs
  · exact R.sub n hn
  · exact bo
  · exact R.so n hn
theorem rows_one (ns : List α) : RowsOk le ns fun n => [n] := ⟨fun n _ => by simp, fun n hn x hx => by simp at hx; exact hx ▸ hn, fun n _ => by simp⟩
theorem kn_snoc (cs : List (α × α)) (c : α × α) : kn le (cs ++ [c]) = kstep le (kn le cs) c := by unfold kn; rw [List.foldl_append]; rfl
theorem rows_kn {ns : List α} (O : Ord α le) : ∀ (cs : List (α × α)), (∀ c ∈ cs, c.1 ∈ ns ∧ c.2 ∈ ns) → RowsOk le ns (kn le cs) := by
  intro cs
  have key : ∀ (post pre : List (α × α)), (∀ c ∈ post, c.1 ∈ ns ∧ c.2 ∈ ns) → RowsOk le ns (kn le pre) → RowsOk le ns (kn le (pre ++ post)) := by
    intro post
    induction post with
    | nil => intro pre _ h; rw [List.append_nil]; exact h
    | cons c r ih =>
      intro pre h R
      have := ih (pre ++ [c]) (fun d m => h d (List.mem_cons_of_mem _ m)) (by rw [kn_snoc]; exact R.step O (h c List.mem_cons_self).1 (h c List.mem_cons_self).2)
      rw [List.append_assoc] at this
      exact this
  intro h
  exact key cs [] h (rows_one ns)
end

theorem kstep_eq {α : Type} [DecidableEq α] {le : α → α → Bool} {g : α → List α} {a b : α} : (fun m => if m = b then both le g a b else if m = a then both le g a b else g m) = kstep le g (a, b) := by
  funext m
  unfold kstep
  by_cases h1 : m = b <;> by_cases h2 : m = a <;> simp [h1, h2]
def allK {α : Type} [DecidableEq α] (le : α → α → Bool) (ms : List α) (cs : List (α × α)) : Bool := ms.all fun n => decide (kn le cs n = ms)
theorem isort_two {ns : List Str} : isort leO (isort leO ns) = isort leO ns := isort_of_sorted ord_str (isort_sorted ord_str ns)
theorem filter_empty {α : Type} {l : List α} {p : α → Bool} : (l.filter p).isEmpty = l.all fun x => !p x := by
  induction l with
  | nil => rfl
  | cons a r ih =>
    by_cases h : p a = true
    · rw [List.filter_cons_of_pos h]; simp [h]
    · rw [List.filter_cons_of_neg h, ih]; simp [h]
section
variable {α : Type} [DecidableEq α] {le : α → α → Bool}
theorem mem_kstep {g : α → List α} {c : α × α} {n x : α} : x ∈ kstep le g c n ↔ if n = c.1 ∨ n = c.2 then x ∈ g c.1 ∨ x ∈ g c.2 else x ∈ g n := by
  unfold kstep
  split
  · exact mem_both
  · rfl
theorem mem_kn_nil {n x : α} : x ∈ kn le [] n ↔ x = n := by unfold kn; simp
theorem mem_kn_snoc {cs : List (α × α)} {c : α × α} {n x : α} : x ∈ kn le (cs ++ [c]) n ↔ if n = c.1 ∨ n = c.2 then x ∈ kn le cs c.1 ∨ x ∈ kn le cs c.2 else x ∈ kn le cs n := by
  rw [kn_snoc, mem_kstep]
/-- all know all -/
theorem allK_iff {ms : List α} {cs : List (α × α)} (O : Ord α le) (so : ms.Pairwise fun x y => le x y = true) (nd : ms.Nodup) (hc : ∀ c ∈ cs, c.1 ∈ ms ∧ c.2 ∈ ms) : allK le ms cs = true ↔ ∀ n ∈ ms, ∀ x ∈ ms, x ∈ kn le cs n := by
  have R : RowsOk le ms (kn le cs) := rows_kn O cs hc
  unfold allK
  rw [List.all_eq_true]
  constructor
  · intro h n hn x hx
    have := of_decide_eq_true (h n hn)
    rw [this]; exact hx
  · intro h n hn
    refine decide_eq_true (sorted_ext O (R.so n hn) so ?_)
    exact (List.perm_ext_iff_of_nodup (R.nd n hn) nd).mpr fun x => ⟨R.sub n hn x, h n hn x⟩
/-- what the second half adds: all that the first half told those of whom one then knew -/
theorem mem_kn_append : ∀ (ds cs : List (α × α)) (n x : α), x ∈ kn le (cs ++ ds) n ↔ ∃ z, z ∈ kn le ds n ∧ x ∈ kn le cs z := by
  intro ds
  have key : ∀ (m : Nat) (ds : List (α × α)), ds.length = m → ∀ (cs : List (α × α)) (n x : α), x ∈ kn le (cs ++ ds) n ↔ ∃ z, z ∈ kn le ds n ∧ x ∈ kn le cs z := by
    intro m
    induction m with
    | zero =>
      intro ds hl cs n x
      have : ds = [] := List.eq_nil_of_length_eq_zero hl
      subst this
      rw [List.append_nil]
      exact ⟨fun h => ⟨n, mem_kn_nil.mpr rfl, h⟩, fun ⟨z, hz, hx⟩ => by rw [mem_kn_nil] at hz; exact hz ▸ hx⟩
    | succ m ih =>
      intro ds hl cs n x
      have hne : ds ≠ [] := fun e => by rw [e] at hl; simp at hl
      obtain ⟨es, c, rfl⟩ : ∃ es c, ds = es ++ [c] := ⟨ds.dropLast, ds.getLast hne, (List.dropLast_concat_getLast hne).symm⟩
      have hl' : es.length = m := by simpa using hl
      rw [← List.append_assoc, mem_kn_snoc]
      by_cases h : n = c.1 ∨ n = c.2
      · rw [if_pos h, ih es hl' cs c.1 x, ih es hl' cs c.2 x]
        constructor
        · rintro (⟨z, h1, h2⟩ | ⟨z, h1, h2⟩)
          · exact ⟨z, mem_kn_snoc.mpr (by rw [if_pos h]; exact .inl h1), h2⟩
          · exact ⟨z, mem_kn_snoc.mpr (by rw [if_pos h]; exact .inr h1), h2⟩
        · rintro ⟨z, h1, h2⟩
          rw [mem_kn_snoc, if_pos h] at h1
          exact h1.imp (fun q => ⟨z, q, h2⟩) fun q => ⟨z, q, h2⟩
      · rw [if_neg h, ih es hl' cs n x]
        constructor
        · rintro ⟨z, h1, h2⟩
          exact ⟨z, mem_kn_snoc.mpr (by rw [if_neg h]; exact h1), h2⟩
        · rintro ⟨z, h1, h2⟩
          rw [mem_kn_snoc, if_neg h] at h1
          exact ⟨z, h1, h2⟩
  exact key ds.length ds rfl
theorem mem_kn_one {c : α × α} {n x : α} : x ∈ kn le [c] n ↔ if n = c.1 ∨ n = c.2 then x = c.1 ∨ x = c.2 else x = n := by
  have := mem_kn_snoc (le := le) (cs := []) (c := c) (n := n) (x := x)
  rw [List.nil_append] at this
  rw [this, mem_kn_nil, mem_kn_nil, mem_kn_nil]
/-- calls turned about: who knew me is whom I know -/
theorem mem_kn_reverse : ∀ (cs : List (α × α)) (n x : α), x ∈ kn le cs.reverse n ↔ n ∈ kn le cs x
  | [], n, x => by rw [List.reverse_nil, mem_kn_nil, mem_kn_nil]; exact eq_comm
  | c :: cs, n, x => by
    rw [List.reverse_cons, mem_kn_append, show c :: cs = [c] ++ cs from rfl, mem_kn_append]
    constructor
    · rintro ⟨z, h1, h2⟩
      refine ⟨z, (mem_kn_reverse cs z x).mp h2, ?_⟩
      rw [mem_kn_one] at h1 ⊢
      split at h1 <;> split <;> simp_all
    · rintro ⟨z, h1, h2⟩
      refine ⟨z, ?_, (mem_kn_reverse cs z x).mpr h1⟩
      rw [mem_kn_one] at h2 ⊢
      split at h2 <;> split <;> simp_all
theorem allK_reverse {ms : List α} {cs : List (α × α)} (O : Ord α le) (so : ms.Pairwise fun x y => le x y = true) (nd : ms.Nodup) (hc : ∀ c ∈ cs, c.1 ∈ ms ∧ c.2 ∈ ms) : allK le ms cs.reverse = allK le ms cs := by
  rw [Bool.eq_iff_iff, allK_iff O so nd hc, allK_iff O so nd fun c m => hc c (List.mem_reverse.mp m)]
  exact ⟨fun h n hn x hx => (mem_kn_reverse cs x n).mp (h x hx n hn), fun h n hn x hx => (mem_kn_reverse cs n x).mpr (h x hx n hn)⟩
end
/-! ### other names -/
section
variable {α β : Type} [DecidableEq α] [DecidableEq β] {le : α → α → Bool} {le' : β → β → Bool}
def mapC (f : α → β) (c : α × α) : β × β := (f c.1, f c.2)
theorem mem_kn_map {f : α → β} {ms : List α} (inj : ∀ x ∈ ms, ∀ y ∈ ms, f x = f y → x = y) (cs : List (α × α)) (hc : ∀ c ∈ cs, c.1 ∈ ms ∧ c.2 ∈ ms) : ∀ n ∈ ms, ∀ x, x ∈ kn le' (cs.map (mapC f)) (f n) ↔ ∃ y, y ∈ kn le cs n ∧ f y = x := by
  have key : ∀ (m : Nat) (cs : List (α × α)), cs.length = m → (∀ c ∈ cs, c.1 ∈ ms ∧ c.2 ∈ ms) → ∀ n ∈ ms, ∀ x, x ∈ kn le' (cs.map (mapC f)) (f n) ↔ ∃ y, y ∈ kn le cs n ∧ f y = x := by
    intro m
    induction m with
    | zero =>
      intro cs hl _ n _ x
      have : cs = [] := List.eq_nil_of_length_eq_zero hl
      subst this
      rw [List.map_nil, mem_kn_nil]
      exact ⟨fun h => ⟨n, mem_kn_nil.mpr rfl, h.symm⟩, fun ⟨y, h1, h2⟩ => by rw [mem_kn_nil] at h1; rw [← h2, h1]⟩
    | succ m ih =>
      intro cs hl hc n hn x
      have hne : cs ≠ [] := fun e => by rw [e] at hl; simp at hl
      obtain ⟨es, c, rfl⟩ : ∃ es c, cs = es ++ [c] := ⟨cs.dropLast, cs.getLast hne, (List.dropLast_concat_getLast hne).symm⟩
      have hl' : es.length = m := by simpa using hl
      have hces : ∀ d ∈ es, d.1 ∈ ms ∧ d.2 ∈ ms := fun d md => hc d (by simp [md])
      have hcc := hc c (by simp)
      have i := ih es hl' hces
      rw [List.map_append, List.map_cons, List.map_nil, mem_kn_snoc]
      have cond : (f n = (mapC f c).1 ∨ f n = (mapC f c).2) ↔ (n = c.1 ∨ n = c.2) := by
        unfold mapC
        exact ⟨fun h => h.imp (inj n hn _ hcc.1) (inj n hn _ hcc.2), fun h => h.imp (congrArg f) (congrArg f)⟩
      by_cases h : n = c.1 ∨ n = c.2
      · rw [if_pos (cond.mpr h)]
        show x ∈ kn le' (es.map (mapC f)) (f c.1) ∨ x ∈ kn le' (es.map (mapC f)) (f c.2) ↔ _
        rw [i c.1 hcc.1 x, i c.2 hcc.2 x]
        constructor
        · rintro (⟨y, h1, h2⟩ | ⟨y, h1, h2⟩)
          · exact ⟨y, mem_kn_snoc.mpr (by rw [if_pos h]; exact .inl h1), h2⟩
          · exact ⟨y, mem_kn_snoc.mpr (by rw [if_pos h]; exact .inr h1), h2⟩
        · rintro ⟨y, h1, h2⟩
          rw [mem_kn_snoc, if_pos h] at h1
          exact h1.imp (fun q => ⟨y, q, h2⟩) fun q => ⟨y, q, h2⟩
      · rw [if_neg (fun q => h (cond.mp q)), i n hn x]
        constructor
        · rintro ⟨y, h1, h2⟩
          exact ⟨y, mem_kn_snoc.mpr (by rw [if_neg h]; exact h1), h2⟩
        · rintro ⟨y, h1, h2⟩
          rw [mem_kn_snoc, if_neg h] at h1
          exact ⟨y, h1, h2⟩
  exact key cs.length cs rfl hc
/-- all know all, whatever their names -/
theorem allK_map {f : α → β} {ms : List α} {ns : List β} {cs : List (α × α)} (O : Ord α le) (O' : Ord β le') (so : ms.Pairwise fun x y => le x y = true) (nd : ms.Nodup) (so' : ns.Pairwise fun x y => le' x y = true) (nd' : ns.Nodup)
    (inj : ∀ x ∈ ms, ∀ y ∈ ms, f x = f y → x = y) (hp : ∀ y, y ∈ ns ↔ ∃ x ∈ ms, f x = y) (hc : ∀ c ∈ cs, c.1 ∈ ms ∧ c.2 ∈ ms) : allK le' ns (cs.map (mapC f)) = allK le ms cs := by
  have hc' : ∀ c ∈ cs.map (mapC f), c.1 ∈ ns ∧ c.2 ∈ ns := by
    intro c m
    obtain ⟨d, md, rfl⟩ := List.mem_map.mp m
    exact ⟨(hp _).mpr ⟨d.1, (hc d md).1, rfl⟩, (hp _).mpr ⟨d.2, (hc d md).2, rfl⟩⟩
  have R : RowsOk le ms (kn le cs) := rows_kn O cs hc
  rw [Bool.eq_iff_iff, allK_iff O' so' nd' hc', allK_iff O so nd hc]
  constructor
  · intro h n hn x hx
    obtain ⟨y, h1, h2⟩ := (mem_kn_map (le := le) inj cs hc n hn (f x)).mp (h (f n) ((hp _).mpr ⟨n, hn, rfl⟩) (f x) ((hp _).mpr ⟨x, hx, rfl⟩))
    exact inj y (R.sub n hn y h1) x hx h2 ▸ h1
  · intro h n hn x hx
    obtain ⟨n', mn, rfl⟩ := (hp n).mp hn
    obtain ⟨x', mx, rfl⟩ := (hp x).mp hx
    exact (mem_kn_map inj cs hc n' mn (f x')).mpr ⟨x', h n' mn x' mx, rfl⟩
end
/-! ### the same rows, name by name -/
section
variable {α β : Type} [DecidableEq α] [DecidableEq β] {le : α → α → Bool} {le' : β → β → Bool}
/-- f keeps the order of ms, and takes unlike to unlike -/
structure MonoOn (le : α → α → Bool) (le' : β → β → Bool) (f : α → β) (ms : List α) : Prop where
  ord : ∀ x ∈ ms, ∀ y ∈ ms, le' (f x) (f y) = le x y
  inj : ∀ x ∈ ms, ∀ y ∈ ms, f x = f y → x = y
theorem ins_mapOn {f : α → β} {ms : List α} (M : MonoOn le le' f ms) {a : α} (ha : a ∈ ms) : ∀ {l : List α}, (∀ x ∈ l, x ∈ ms) → ins le' (f a) (l.map f) = (ins le a l).map f
  | [], _ => rfl
  | b :: r, h => by
    have hb := h b List.mem_cons_self
    simp only [List.map_cons, ins, M.ord a ha b hb]
    split
    · rfl
    · rw [ins_mapOn M ha fun x m => h x (List.mem_cons_of_mem _ m)]; rfl
theorem isort_mapOn {f : α → β} {ms : List α} (M : MonoOn le le' f ms) : ∀ {l : List α}, (∀ x ∈ l, x ∈ ms) → isort le' (l.map f) = (isort le l).map f
  | [], _ => rfl
  | a :: r, h => by
    have ih := isort_mapOn M fun x m => h x (List.mem_cons_of_mem _ m)
    simp only [List.map_cons, isort, ih]
    exact ins_mapOn M (h a List.mem_cons_self) fun x m => h x (List.mem_cons_of_mem _ (isort_mem.mp m))
theorem mem_mapOn {f : α → β} {ms : List α} (M : MonoOn le le' f ms) {x : α} (hx : x ∈ ms) {l : List α} (hl : ∀ y ∈ l, y ∈ ms) : f x ∈ l.map f ↔ x ∈ l := by
  rw [List.mem_map]
  exact ⟨fun ⟨y, h1, h2⟩ => M.inj y (hl y h1) x hx h2 ▸ h1, fun h => ⟨x, h, rfl⟩⟩
theorem filter_mapOn {f : α → β} {ms : List α} (M : MonoOn le le' f ms) {l r : List α} (hl : ∀ y ∈ l, y ∈ ms) (hr : ∀ y ∈ r, y ∈ ms) : (r.map f).filter (fun x => decide (x ∉ l.map f)) = (r.filter fun x => decide (x ∉ l)).map f := by
  rw [List.filter_map]
  congr 1
  apply List.filter_congr
  intro x hx
  simp only [Function.comp]
  exact decide_eq_decide.mpr (not_congr (mem_mapOn M (hr x hx) hl))
theorem both_mapOn {f : α → β} {ms : List α} (M : MonoOn le le' f ms) {g : α → List α} {g' : β → List β} {a b : α} (ea : g' (f a) = (g a).map f) (eb : g' (f b) = (g b).map f) (ha : ∀ y ∈ g a, y ∈ ms) (hb : ∀ y ∈ g b, y ∈ ms) : both le' g' (f a) (f b) = (both le g a b).map f := by
  unfold both
  rw [ea, eb, filter_mapOn M ha hb, ← List.map_append]
  refine isort_mapOn M fun x m => ?_
  rcases List.mem_append.mp m with m | m
  · exact ha x m
  · exact hb x (List.mem_filter.mp m).1
/-- the rows behind renamed calls -/
theorem kn_mapOn {f : α → β} {ms : List α} (O : Ord α le) (M : MonoOn le le' f ms) : ∀ (cs : List (α × α)), (∀ c ∈ cs, c.1 ∈ ms ∧ c.2 ∈ ms) → ∀ n ∈ ms, kn le' (cs.map (mapC f)) (f n) = (kn le cs n).map f := by
  have key : ∀ (m : Nat) (cs : List (α × α)), cs.length = m → (∀ c ∈ cs, c.1 ∈ ms ∧ c.2 ∈ ms) → ∀ n ∈ ms, kn le' (cs.map (mapC f)) (f n) = (kn le cs n).map f := by
    intro m
    induction m with
    | zero =>
      intro cs hl _ n _
      have : cs = [] := List.eq_nil_of_length_eq_zero hl
      subst this
      rfl
    | succ m ih =>
      intro cs hl hc n hn
      have hne : cs ≠ [] := fun e => by rw [e] at hl; simp at hl
      obtain ⟨es, c, rfl⟩ : ∃ es c, cs = es ++ [c] := ⟨cs.dropLast, cs.getLast hne, (List.dropLast_concat_getLast hne).symm⟩
      have hl' : es.length = m := by simpa using hl
      have hces : ∀ d ∈ es, d.1 ∈ ms ∧ d.2 ∈ ms := fun d md => hc d (by simp [md])
      have hcc := hc c (by simp)
      have i := ih es hl' hces
      have R : RowsOk le ms (kn le es) := rows_kn O es hces
      rw [List.map_append, List.map_cons, List.map_nil, kn_snoc, kn_snoc]
      unfold kstep
      have cond : (f n = (mapC f c).1 ∨ f n = (mapC f c).2) ↔ (n = c.1 ∨ n = c.2) := by
        unfold mapC
        exact ⟨fun h => h.imp (M.inj n hn _ hcc.1) (M.inj n hn _ hcc.2), fun h => h.imp (congrArg f) (congrArg f)⟩
      by_cases h : n = c.1 ∨ n = c.2
      · rw [if_pos h, if_pos (cond.mpr h)]
        exact both_mapOn M (i c.1 hcc.1) (i c.2 hcc.2) (R.sub _ hcc.1) (R.sub _ hcc.2)
      · rw [if_neg h, if_neg fun q => h (cond.mp q)]
        exact i n hn
  exact fun cs hc => key cs.length cs rfl hc
end

def rdStep {α : Type} [DecidableEq α] (s : (α → Nat) × List Nat) (c : α × α) : (α → Nat) × List Nat :=
  (fun n => if n = c.2 then max (s.1 c.1) (s.1 c.2) + 1 else if n = c.1 then max (s.1 c.1) (s.1 c.2) + 1 else s.1 n, s.2 ++ [max (s.1 c.1) (s.1 c.2)])
def rds {α : Type} [DecidableEq α] (cs : List (α × α)) : (α → Nat) × List Nat := cs.foldl rdStep (fun _ => 0, [])
theorem rds_snoc {α : Type} [DecidableEq α] (cs : List (α × α)) (c : α × α) : rds (cs ++ [c]) = rdStep (rds cs) c := by unfold rds; rw [List.foldl_append]; rfl
theorem rds_len {α : Type} [DecidableEq α] (cs : List (α × α)) : (rds cs).2.length = cs.length := by
  have key : ∀ (cs : List (α × α)) (s : (α → Nat) × List Nat), (cs.foldl rdStep s).2.length = s.2.length + cs.length := by
    intro cs
    induction cs with
    | nil => intro s; simp
    | cons c r ih => intro s; simp only [List.foldl_cons, ih]; simp [rdStep]; omega
  have := key cs (fun _ => 0, [])
  simpa [rds] using this
def lg (m : Nat) : Nat := if m ≤ 1 then 0 else if m ≤ 2 then 1 else if m ≤ 4 then 2 else if m ≤ 8 then 3 else if m ≤ 16 then 4 else 5
theorem lg_ok : ∀ m, m < 33 → (∀ j, j < lg m → 2 ^ j < m) ∧ m ≤ 2 ^ lg m ∧ lg m ≤ 5 := by decide +kernel
def frr (m : Nat) : Nat := if m < 2 then 0 else lg m + m % 2
def dblRow {α : Type} (f : Nat → α) (n k : Nat) : List (α × α) := ((List.range n).filter fun a => decide (a / 2 ^ k % 2 = 0)).map fun a => (f a, f (a + 2 ^ k))
theorem dbl_in : ∀ n, n < 33 → 2 ^ lg n = n → ∀ k, k < lg n → ∀ a, a < n → a / 2 ^ k % 2 = 0 → a + 2 ^ k < n := by decide +kernel
theorem frr_dbl : ∀ n, n < 21 → 2 ≤ n → (2 ^ frr n = n ↔ 2 ^ lg n = n) ∧ frr n ≤ 32 := by decide +kernel
def pkStep {γ : Type} (q : List γ → γ → Bool) (s : List γ × List Nat) (c : γ) : List γ × List Nat := (s.1 ++ [c], if q s.1 c = true then s.2 ++ [s.1.length] else s.2)
def pk {γ : Type} (q : List γ → γ → Bool) (cs : List γ) : List γ × List Nat := cs.foldl (pkStep q) ([], [])
theorem pk_fst {γ : Type} {q : List γ → γ → Bool} (cs : List γ) : (pk q cs).1 = cs := by
  have key : ∀ (cs : List γ) (s : List γ × List Nat), (cs.foldl (pkStep q) s).1 = s.1 ++ cs := by
    intro cs
    induction cs with
    | nil => intro s; simp
    | cons c r ih => intro s; simp only [List.foldl_cons, ih]; simp [pkStep]
  exact key cs ([], [])
theorem pk_snoc {γ : Type} {q : List γ → γ → Bool} (cs : List γ) (c : γ) : (pk q (cs ++ [c])).2 = if q cs c = true then (pk q cs).2 ++ [cs.length] else (pk q cs).2 := by
  have : pk q (cs ++ [c]) = pkStep q (pk q cs) c := by unfold pk; rw [List.foldl_append]; rfl
  rw [this]
  simp only [pkStep, pk_fst]
theorem pk_len {γ : Type} {q : List γ → γ → Bool} (cs : List γ) : (pk q cs).2.length ≤ cs.length := by
  have key : ∀ (cs : List γ) (s : List γ × List Nat), (cs.foldl (pkStep q) s).2.length ≤ s.2.length + cs.length := by
    intro cs
    induction cs with
    | nil => intro s; simp
    | cons c r ih =>
      intro s
      have := ih (pkStep q s c)
      simp only [List.foldl_cons, List.length_cons]
      have : (pkStep q s c).2.length ≤ s.2.length + 1 := by unfold pkStep; dsimp only; split <;> simp
      omega
  have := key cs ([], [])
  simpa [pk] using this
theorem pk_congr {γ : Type} {q q' : List γ → γ → Bool} (cs : List γ) (h : ∀ pre c post, cs = pre ++ c :: post → q pre c = q' pre c) : (pk q cs).2 = (pk q' cs).2 := by
  have key : ∀ (post pre : List γ), cs = pre ++ post → (pk q pre).2 = (pk q' pre).2 → (pk q cs).2 = (pk q' cs).2 := by
    intro post
    induction post with
    | nil => intro pre e h1; rw [List.append_nil] at e; rw [e]; exact h1
    | cons c r ih =>
      intro pre e h1
      exact ih (pre ++ [c]) (by rw [e, List.append_assoc]; rfl) (by rw [pk_snoc, pk_snoc, h pre c r e, h1])
  exact key cs [] rfl rfl
def qNews {α : Type} [DecidableEq α] (le : α → α → Bool) (pre : List (α × α)) (c : α × α) : Bool := !decide (both le (kn le pre) c.1 c.2 = kn le pre c.1) || !decide (both le (kn le pre) c.1 c.2 = kn le pre c.2)
def qNews' {α : Type} [DecidableEq α] (le : α → α → Bool) (pre : List (α × α)) (c : α × α) : Bool := !decide (isort le (kn le pre c.1) = isort le (kn le pre c.2))
def qOwn {α : Type} [DecidableEq α] (le : α → α → Bool) (pre : List (α × α)) (c : α × α) : Bool := decide (c.1 ∈ kn le pre c.2) || decide (c.2 ∈ kn le pre c.1)
theorem both_same {α : Type} [DecidableEq α] {le : α → α → Bool} (O : Ord α le) {g : α → List α} {a b : α} (so : (g a).Pairwise fun x y => le x y = true) (h : g a = g b) : both le g a b = g a := by
  unfold both
  have : (g b).filter (fun x => decide (x ∉ g a)) = [] := by
    rw [List.filter_eq_nil_iff]
    intro x hx
    rw [h]; simp [hx]
  rw [this, List.append_nil]
  exact isort_of_sorted O so
theorem news_same {α : Type} [DecidableEq α] {le : α → α → Bool} (O : Ord α le) {ms : List α} {cs : List (α × α)} (hc : ∀ c ∈ cs, c.1 ∈ ms ∧ c.2 ∈ ms) : (pk (qNews le) cs).2 = (pk (qNews' le) cs).2 := by
  refine pk_congr cs fun pre c post e => ?_
  have R : RowsOk le ms (kn le pre) := rows_kn O pre fun d m => hc d (by rw [e]; simp [m])
  have hcc := hc c (by rw [e]; simp)
  unfold qNews qNews'
  rw [isort_of_sorted O (R.so _ hcc.1), isort_of_sorted O (R.so _ hcc.2)]
  by_cases h : kn le pre c.1 = kn le pre c.2
  · rw [both_same O (R.so _ hcc.1) h]; simp [h]
  · have : ¬ (both le (kn le pre) c.1 c.2 = kn le pre c.1 ∧ both le (kn le pre) c.1 c.2 = kn le pre c.2) := fun q => h (q.1.symm.trans q.2)
    by_cases h1 : both le (kn le pre) c.1 c.2 = kn le pre c.1
    · have h2 : ¬ both le (kn le pre) c.1 c.2 = kn le pre c.2 := fun q => this ⟨h1, q⟩
      rw [decide_eq_false h2, decide_eq_false h]; simp
    · rw [decide_eq_false h1, decide_eq_false h]; simp
theorem range_at {n k : Nat} {pre post : List Nat} (h : List.range n = pre ++ k :: post) : k = pre.length ∧ pre.length < n := by
  have hl := congrArg List.length h
  simp only [List.length_range, List.length_append, List.length_cons] at hl
  have := congrArg (fun l => l[pre.length]?) h
  simp only [List.getElem?_append_right (Nat.le_refl _), Nat.sub_self, List.getElem?_cons_zero] at this
  rw [List.getElem?_range (by omega)] at this
  exact ⟨(Option.some.inj this).symm, by omega⟩
theorem take_succ_at {γ : Type} {cs : List γ} {k : Nat} (h : k < cs.length) : cs.take (k + 1) = cs.take k ++ [cs[k]] := (List.take_append_getElem h).symm
theorem cut_at {γ : Type} {cs : List γ} {k : Nat} (h : k < cs.length) : cs = cs.take k ++ cs[k] :: cs.drop (k + 1) := by
  rw [← List.drop_eq_getElem_cons h, List.take_append_drop]

end Mv
end
section
set_option Elab.async false
set_option linter.all false
set_option maxHeartbeats 4000000
set_option maxRecDepth 100000
namespace Mv.Sh
open PySem Mv PySem.W

/-! ### the same program on other names -/
def Rs.mp {α β : Type} (g : α → β) (m : Rs α) : Rs β := m.bd fun a => .ok (g a)
theorem mp_ok {α β : Type} (g : α → β) (a : α) : (Rs.ok a).mp g = .ok (g a) := rfl
theorem mp_id {α : Type} (m : Rs α) : m.mp (fun x => x) = m := by cases m <;> rfl
section
variable {α α' β β' γ γ' σ σ' : Type}
theorem bd_bd {m : Rs α} {m' : Rs α'} {k : α → Rs β} {k' : α' → Rs β'} {G : α → α'} {H : β → β'} (hm : m' = m.mp G) (hk : ∀ x, k' (G x) = (k x).mp H) : m'.bd k' = (m.bd k).mp H := by
  subst hm
  cases m with
  | ok a => exact hk a
  | exc c => rfl
  | bad => rfl
theorem bd_eq {m : Rs α} {m' : Rs α'} {k : α → Rs β} {k' : α' → Rs β} (G : α → α') (hm : m' = m.mp G) (hk : ∀ x, k' (G x) = k x) : m'.bd k' = m.bd k := by
  subst hm
  cases m with
  | ok a => exact hk a
  | exc c => rfl
  | bad => rfl
theorem compR_mp {F : α → α'} {G : β → β'} {c : α → Rs Bool} {c' : α' → Rs Bool} {b : α → Rs β} {b' : α' → Rs β'} (hc : ∀ x, c' (F x) = c x) (hb : ∀ x, b' (F x) = (b x).mp G) : ∀ xs : List α, compR c' b' (xs.map F) = (compR c b xs).mp (List.map G)
  | [] => rfl
  | x :: xs => by
    have ih := compR_mp hc hb xs
    simp only [List.map_cons, compR, hc, hb, ih]
    cases c x with
    | ok k =>
      cases k with
      | true =>
        cases b x with
        | ok y => cases compR c b xs <;> rfl
        | exc e => rfl
        | bad => rfl
      | false => rfl
    | exc e => rfl
    | bad => rfl
theorem compM_mp {F : α → α'} {G : β → β'} {c : α → Rs Bool} {c' : α' → Rs Bool} {b : α → Rs β} {b' : α' → Rs β'} (hc : ∀ x, c' (F x) = c x) (hb : ∀ x, b' (F x) = (b x).mp G) (xs : List α) : compM (xs.map F) c' b' = (compM xs c b).mp (List.map G) := by
  unfold compM
  rw [compR_mp hc hb]
  cases compR c b xs with
  | ok ys =>
    simp only [Rs.mp, Rs.bd_ok, grd, List.length_map]
    split <;> rfl
  | exc e => rfl
  | bad => rfl
theorem foldM_mp {S : σ → σ'} {F : α → α'} {f : σ → α → Rs σ} {f' : σ' → α' → Rs σ'} (h : ∀ s x, f' (S s) (F x) = (f s x).mp S) : ∀ (xs : List α) (s : σ), foldM f' (xs.map F) (S s) = (foldM f xs s).mp S
  | [], _ => rfl
  | x :: xs, s => by
    simp only [List.map_cons, foldM, h]
    cases f s x with
    | ok s1 => exact foldM_mp h xs s1
    | exc e => rfl
    | bad => rfl
theorem foldM_mp0 {S : σ → σ'} {f : σ → α → Rs σ} {f' : σ' → α → Rs σ'} (h : ∀ s x, f' (S s) x = (f s x).mp S) (xs : List α) (s : σ) : foldM f' xs (S s) = (foldM f xs s).mp S := by
  have := foldM_mp (F := fun x => x) h xs s
  rwa [List.map_id'] at this
theorem whM_mp {S : σ → σ'} {c : σ → Rs Bool} {c' : σ' → Rs Bool} {f : σ → Rs σ} {f' : σ' → Rs σ'} (hc : ∀ s, c' (S s) = c s) (h : ∀ s, f' (S s) = (f s).mp S) : ∀ (n : Nat) (s : σ), whM c' f' n (S s) = (whM c f n s).mp S
  | 0, _ => rfl
  | n + 1, s => by
    simp only [whM, hc, h]
    cases c s with
    | ok k =>
      cases k with
      | true =>
        simp only [Rs.bd_ok, if_true]
        cases f s with
        | ok s1 => exact whM_mp hc h n s1
        | exc e => rfl
        | bad => rfl
      | false => rfl
    | exc e => rfl
    | bad => rfl
theorem ixL_mp (F : α → α') (xs : List α) (i : Int) : ixL (xs.map F) i = (ixL xs i).mp F := by
  unfold ixL
  have : L2.atI (xs.map F) i = (L2.atI xs i).map F := by
    unfold L2.atI
    rw [List.length_map]
    cases L2.ixN xs.length i <;> simp
  rw [this]
  cases L2.atI xs i <;> rfl
theorem cat_mp (F : α → α') (xs ys : List α) : cat (xs.map F) (ys.map F) = (cat xs ys).mp (List.map F) := by
  unfold cat
  simp only [List.length_map, ← List.map_append]
  split <;> rfl
theorem setL_mp (F : α → α') (xs : List α) (i : Int) (y : α) : setL (xs.map F) i (F y) = (setL xs i y).mp (List.map F) := by
  unfold setL
  rw [List.length_map]
  cases L2.ixN xs.length i with
  | none => rfl
  | some n =>
    simp only [Rs.mp, Rs.bd_ok]
    rw [List.map_set]
variable [DecidableEq α] [DecidableEq α'] {F : α → α'} (inj : ∀ x y, F x = F y → x = y)
include inj
theorem mem_mp (x : α) (ys : List α) : mem (F x) (ys.map F) = mem x ys := by
  unfold mem
  refine decide_eq_decide.mpr ?_
  rw [List.mem_map]
  exact ⟨fun ⟨y, h1, h2⟩ => inj _ _ h2 ▸ h1, fun h => ⟨x, h, rfl⟩⟩
theorem idxL_mp (xs : List α) (x : α) : idxL (xs.map F) (F x) = idxL xs x := by
  unfold idxL
  have : (xs.map F).findIdx? (fun z => decide (z = F x)) = xs.findIdx? fun z => decide (z = x) := by
    rw [List.findIdx?_map]
    congr 1
    funext z
    simp only [Function.comp]
    exact decide_eq_decide.mpr ⟨fun h => inj _ _ h, fun h => by rw [h]⟩
  rw [this]
omit [DecidableEq α] [DecidableEq α'] in
theorem map_inj : ∀ xs ys : List α, xs.map F = ys.map F → xs = ys
  | [], [], _ => rfl
  | [], _ :: _, h => by simp at h
  | _ :: _, [], h => by simp at h
  | x :: xs, y :: ys, h => by
    simp only [List.map_cons, List.cons.injEq] at h
    rw [inj _ _ h.1, map_inj xs ys h.2]
end
end Mv.Sh
end
section
set_option Elab.async false
namespace K81
open PySem Mv
def f_is_name : Def := ⟨2, [true],
  (.cons (.iff (.or (.not (.isi (.v 0) [.str])) (.not (.chn .le .le (.c (.int 1)) (.fn .len (.cons (.v 0) .nil)) (.c (.int 12)))))
    (.cons (.ret (.c (.bool false)))
    .nil)
    .nil)
    (.cons (.fr (.nm 1) (.str (.v 0))
    (.cons (.iff (.cmp .notin (.v 1) (.c (.str ⟨#[97, 98, 99, 100, 101, 102, 103, 104, 105, 106, 107, 108, 109, 110, 111, 112, 113, 114, 115, 116, 117, 118, 119, 120, 121, 122]⟩)))
    (.cons (.ret (.c (.bool false)))
    .nil)
    .nil)
    .nil))
    (.cons (.ret (.c (.bool true)))
    .nil)))⟩
def f_checked_name : Def := ⟨1, [true],
  (.cons (.iff (.not (.call 0 (.cons (.v 0) .nil) []))
    (.cons (.rse 1 (.c (.str ⟨#[110, 111, 32, 110, 97, 109, 101]⟩)))
    .nil)
    .nil)
    (.cons (.ret (.mv 0))
    .nil))⟩
def f_checked_friends : Def := ⟨3, [true],
  (.cons (.iff (.cmp .gt (.fn .len (.cons (.v 0) .nil)) (.c (.int 20)))
    (.cons (.rse 3 (.c (.str ⟨#[102, 114, 105, 101, 110, 100, 115]⟩)))
    .nil)
    .nil)
    (.cons (.asg 1 (.lst .nil))
    (.cons (.fr (.nm 2) (.seq (.v 0))
    (.cons (.ex (.call 1 (.cons (.v 2) .nil) []))
    (.cons (.iff (.cmp .isin (.v 2) (.v 1))
    (.cons (.rse 2 (.v 2))
    .nil)
    .nil)
    (.cons (.ex (.mu .append 1 (.cons (.v 2) .nil)))
    .nil))))
    (.cons (.ret (.fn .sorted (.cons (.v 1) .nil)))
    .nil))))⟩
def f_checked_calls : Def := ⟨4, [true, true],
  (.cons (.asg 2 (.call 2 (.cons (.v 0) .nil) []))
    (.cons (.fr (.nm 3) (.seq (.v 1))
    (.cons (.iff (.or (.not (.isi (.v 3) [.tuple])) (.or (.cmp .ne (.fn .len (.cons (.v 3) .nil)) (.c (.int 2))) (.cmp .eq (.ix (.v 3) (.c (.int 0))) (.ix (.v 3) (.c (.int 1))))))
    (.cons (.rse 4 (.c (.str ⟨#[110, 111, 32, 99, 97, 108, 108]⟩)))
    .nil)
    .nil)
    (.cons (.iff (.or (.cmp .notin (.ix (.v 3) (.c (.int 0))) (.v 2)) (.cmp .notin (.ix (.v 3) (.c (.int 1))) (.v 2)))
    (.cons (.rse 4 (.c (.str ⟨#[97, 32, 115, 116, 114, 97, 110, 103, 101, 114]⟩)))
    .nil)
    .nil)
    .nil)))
    (.cons (.ret (.fn .list (.cons (.v 1) .nil)))
    .nil)))⟩
def f_known : Def := ⟨8, [true, true],
  (.cons (.asg 2 (.call 2 (.cons (.v 0) .nil) []))
    (.cons (.asg 3 (.dcomp [7] (.nm 7) (.seq (.v 2)) (.v 7) (.lst (.cons (.v 7) .nil))))
    (.cons (.fr (.tp [4, 5]) (.seq (.call 3 (.cons (.v 2) (.cons (.v 1) .nil)) []))
    (.cons (.asg 6 (.fn .sorted (.cons (.bin .add (.ix (.v 3) (.v 4)) (.comp [7] (.nm 7) (.seq (.ix (.v 3) (.v 5))) (.cons (.cmp .notin (.v 7) (.ix (.v 3) (.v 4))) .nil) (.v 7))) .nil)))
    (.cons (.seti 3 (.v 4) (.v 6))
    (.cons (.seti 3 (.v 5) (.fn .list (.cons (.v 6) .nil)))
    .nil))))
    (.cons (.ret (.comp [7] (.nm 7) (.seq (.v 2)) .nil (.tup (.cons (.v 7) (.cons (.ix (.v 3) (.v 7)) .nil)))))
    .nil))))⟩
def f_all_know : Def := ⟨5, [true, true],
  (.cons (.asg 2 (.call 2 (.cons (.v 0) .nil) []))
    (.cons (.ret (.not (.comp [3, 4] (.tp [3, 4]) (.seq (.call 4 (.cons (.v 2) (.cons (.v 1) .nil)) [])) (.cons (.cmp .ne (.v 4) (.v 2)) .nil) (.v 3))))
    .nil))⟩
def f_fewest : Def := ⟨2, [true],
  (.cons (.asg 1 (.fn .len (.cons (.call 2 (.cons (.v 0) .nil) []) .nil)))
    (.cons (.iff (.cmp .lt (.v 1) (.c (.int 4)))
    (.cons (.ret (.ix (.lst (.cons (.c (.int 0)) (.cons (.c (.int 0)) (.cons (.c (.int 1)) (.cons (.c (.int 3)) .nil))))) (.v 1)))
    .nil)
    .nil)
    (.cons (.ret (.bin .sub (.bin .mul (.c (.int 2)) (.v 1)) (.c (.int 4))))
    .nil)))⟩
def f_plan : Def := ⟨5, [true],
  (.cons (.asg 1 (.call 2 (.cons (.v 0) .nil) []))
    (.cons (.iff (.cmp .lt (.fn .len (.cons (.v 1) .nil)) (.c (.int 2)))
    (.cons (.ret (.lst .nil))
    .nil)
    .nil)
    (.cons (.iff (.cmp .eq (.fn .len (.cons (.v 1) .nil)) (.c (.int 2)))
    (.cons (.ret (.lst (.cons (.tup (.cons (.ix (.v 1) (.c (.int 0))) (.cons (.ix (.v 1) (.c (.int 1))) .nil))) .nil)))
    .nil)
    .nil)
    (.cons (.iff (.cmp .eq (.fn .len (.cons (.v 1) .nil)) (.c (.int 3)))
    (.cons (.ret (.lst (.cons (.tup (.cons (.ix (.v 1) (.c (.int 0))) (.cons (.ix (.v 1) (.c (.int 1))) .nil))) (.cons (.tup (.cons (.ix (.v 1) (.c (.int 0))) (.cons (.ix (.v 1) (.c (.int 2))) .nil))) (.cons (.tup (.cons (.ix (.v 1) (.c (.int 0))) (.cons (.ix (.v 1) (.c (.int 1))) .nil))) .nil)))))
    .nil)
    .nil)
    (.cons (.asg 2 (.comp [4] (.nm 4) (.seq (.sl (.v 1) (.cons (.c (.int 4)) .nil) .nil)) .nil (.tup (.cons (.ix (.v 1) (.c (.int 0))) (.cons (.v 4) .nil)))))
    (.cons (.asg 3 (.lst (.cons (.tup (.cons (.ix (.v 1) (.c (.int 0))) (.cons (.ix (.v 1) (.c (.int 1))) .nil))) (.cons (.tup (.cons (.ix (.v 1) (.c (.int 2))) (.cons (.ix (.v 1) (.c (.int 3))) .nil))) (.cons (.tup (.cons (.ix (.v 1) (.c (.int 0))) (.cons (.ix (.v 1) (.c (.int 2))) .nil))) (.cons (.tup (.cons (.ix (.v 1) (.c (.int 1))) (.cons (.ix (.v 1) (.c (.int 3))) .nil))) .nil))))))
    (.cons (.ret (.bin .add (.bin .add (.v 2) (.v 3)) (.v 2)))
    .nil)))))))⟩
def f_judge : Def := ⟨2, [true, true],
  (.cons (.ret (.and (.call 5 (.cons (.v 0) (.cons (.v 1) .nil)) []) (.cmp .eq (.fn .len (.cons (.v 1) .nil)) (.call 6 (.cons (.v 0) .nil) []))))
    .nil)⟩
def f_turned : Def := ⟨1, [true],
  (.cons (.ret (.lrev (.v 0)))
    .nil)⟩
def f_law_same : Def := ⟨3, [true, true],
  (.cons (.iff (.cmp .is (.v 1) (.c .none))
    (.cons (.ret (.cmp .is (.v 0) (.c .none)))
    .nil)
    .nil)
    (.cons (.iff (.isi (.v 1) [.tuple, .list])
    (.cons (.iff (.or (.cmp .ne (.isi (.v 1) [.tuple]) (.isi (.v 0) [.tuple])) (.cmp .ne (.isi (.v 1) [.list]) (.isi (.v 0) [.list])))
    (.cons (.ret (.c (.bool false)))
    .nil)
    .nil)
    (.cons (.iff (.cmp .ne (.fn .len (.cons (.v 0) .nil)) (.fn .len (.cons (.v 1) .nil)))
    (.cons (.ret (.c (.bool false)))
    .nil)
    .nil)
    (.cons (.fr (.nm 2) (.rng1 (.fn .len (.cons (.v 1) .nil)))
    (.cons (.iff (.not (.call 10 (.cons (.ix (.v 0) (.v 2)) (.cons (.ix (.v 1) (.v 2)) .nil)) []))
    (.cons (.ret (.c (.bool false)))
    .nil)
    .nil)
    .nil))
    (.cons (.ret (.c (.bool true)))
    .nil))))
    .nil)
    (.cons (.iff (.isi (.v 1) [.bool])
    (.cons (.ret (.and (.isi (.v 0) [.bool]) (.cmp .eq (.v 0) (.v 1))))
    .nil)
    .nil)
    (.cons (.iff (.isi (.v 1) [.int])
    (.cons (.ret (.and (.isi (.v 0) [.int]) (.and (.not (.isi (.v 0) [.bool])) (.cmp .eq (.v 0) (.v 1)))))
    .nil)
    .nil)
    (.cons (.ret (.and (.isi (.v 0) [.str]) (.cmp .eq (.v 0) (.v 1))))
    .nil)))))⟩
def f_law_pool : Def := ⟨1, [true],
  (.cons (.ret (.lst (.cons (.fn .list (.cons (.v 0) .nil)) (.cons (.c (.int 0)) (.cons (.c (.int 0)) (.cons (.c (.int 0)) (.cons (.c (.int 0)) .nil)))))))
    .nil)⟩
def f_law_draw : Def := ⟨5, [true, true],
  (.cons (.iff (.cmp .gt (.ix (.v 0) (.c (.int 2))) (.c (.int 0)))
    (.cons (.asg 2 (.bin .mod (.fn .int (.cons (.ix (.v 0) (.c (.int 2))) .nil)) (.v 1)))
    (.cons (.seti 0 (.c (.int 2)) (.bin .fdiv (.ix (.v 0) (.c (.int 2))) (.v 1)))
    (.cons (.ret (.mv 2))
    .nil)))
    .nil)
    (.cons (.iff (.and (.cmp .eq (.bin .mod (.fn .int (.cons (.ix (.v 0) (.c (.int 4))) .nil)) (.c (.int 8))) (.c (.int 0))) (.cmp .lt (.ix (.v 0) (.c (.int 1))) (.fn .len (.cons (.ix (.v 0) (.c (.int 0))) .nil))))
    (.cons (.asg 3 (.fn .abs (.cons (.ix (.ix (.v 0) (.c (.int 0))) (.ix (.v 0) (.c (.int 1)))) .nil)))
    (.cons (.seti 0 (.c (.int 1)) (.bin .add (.ix (.v 0) (.c (.int 1))) (.c (.int 1))))
    (.cons (.iff (.cmp .ge (.v 3) (.bin .pow (.c (.int 10)) (.c (.int 18))))
    (.cons (.seti 0 (.c (.int 2)) (.bin .fdiv (.v 3) (.v 1)))
    (.cons (.ret (.bin .mod (.fn .int (.cons (.v 3) .nil)) (.v 1)))
    .nil))
    .nil)
    (.cons (.seti 0 (.c (.int 3)) (.v 3))
    .nil))))
    .nil)
    (.cons (.seti 0 (.c (.int 4)) (.bin .add (.ix (.v 0) (.c (.int 4))) (.c (.int 1))))
    (.cons (.asg 4 (.bin .mod (.fn .int (.cons (.bin .add (.bin .add (.bin .mul (.ix (.v 0) (.c (.int 3))) (.c (.int 48271))) (.bin .mul (.ix (.v 0) (.c (.int 4))) (.c (.int 69621)))) (.c (.int 7919))) .nil)) (.c (.int 2147483647))))
    (.cons (.asg 4 (.bin .mod (.fn .int (.cons (.bin .add (.bin .mul (.v 4) (.v 4)) (.bin .mul (.ix (.v 0) (.c (.int 4))) (.c (.int 40692)))) .nil)) (.c (.int 2147483399))))
    (.cons (.ret (.bin .mod (.fn .int (.cons (.v 4) .nil)) (.v 1)))
    .nil))))))⟩
def f_law_pick : Def := ⟨2, [true, true],
  (.cons (.ret (.ix (.v 1) (.call 12 (.cons (.v 0) (.cons (.fn .len (.cons (.v 1) .nil)) .nil)) [])))
    .nil)⟩
def f_law_names : Def := ⟨9, [true, true],
  (.cons (.asg 2 (.c (.str ⟨#[97, 98, 99, 100, 101, 102, 103, 104, 105, 106, 107, 108, 109, 110, 111, 112, 113, 114, 115, 116, 117, 118, 119, 120, 121, 122]⟩)))
    (.cons (.asg 3 (.call 12 (.cons (.v 0) (.cons (.c (.int 26)) .nil)) []))
    (.cons (.iff (.and (.cmp .le (.v 1) (.c (.int 26))) (.cmp .eq (.call 12 (.cons (.v 0) (.cons (.c (.int 3)) .nil)) []) (.c (.int 0))))
    (.cons (.ret (.comp [7] (.nm 7) (.rng1 (.v 1)) .nil (.ix (.v 2) (.bin .mod (.fn .int (.cons (.bin .add (.v 3) (.v 7)) .nil)) (.c (.int 26))))))
    .nil)
    .nil)
    (.cons (.asg 4 (.meth .join (.c (.str ⟨#[]⟩)) (.cons (.comp [7] (.nm 7) (.rng1 (.call 12 (.cons (.v 0) (.cons (.c (.int 11)) .nil)) [])) .nil (.ix (.v 2) (.call 12 (.cons (.v 0) (.cons (.c (.int 26)) .nil)) []))) .nil)))
    (.cons (.asg 5 (.call 12 (.cons (.v 0) (.cons (.bin .add (.fn .len (.cons (.v 4) .nil)) (.c (.int 1))) .nil)) []))
    (.cons (.asg 6 (.lst .nil))
    (.cons (.fr (.nm 7) (.rng1 (.v 1))
    (.cons (.asg 8 (.bin .add (.ix (.v 2) (.bin .mod (.fn .int (.cons (.bin .add (.v 3) (.v 7)) .nil)) (.c (.int 26)))) (.ix (.v 2) (.bin .mod (.fn .int (.cons (.bin .add (.bin .add (.v 3) (.bin .mul (.bin .fdiv (.v 7) (.c (.int 26))) (.c (.int 7)))) (.v 7)) .nil)) (.c (.int 26))))))
    (.cons (.ex (.mu .append 6 (.cons (.bin .add (.bin .add (.sl (.v 4) .nil (.cons (.v 5) .nil)) (.v 8)) (.sl (.v 4) (.cons (.v 5) .nil) .nil)) .nil)))
    .nil)))
    (.cons (.ret (.mv 6))
    .nil))))))))⟩
def f_law_known : Def := ⟨7, [true, true],
  (.cons (.asg 2 .dnew)
    (.cons (.fr (.nm 3) (.seq (.v 0))
    (.cons (.seti 2 (.v 3) (.lst (.cons (.v 3) .nil)))
    .nil))
    (.cons (.fr (.tp [4, 5]) (.seq (.v 1))
    (.cons (.asg 6 (.fn .sorted (.cons (.bin .add (.ix (.v 2) (.v 4)) (.comp [3] (.nm 3) (.seq (.ix (.v 2) (.v 5))) (.cons (.cmp .notin (.v 3) (.ix (.v 2) (.v 4))) .nil) (.v 3))) .nil)))
    (.cons (.seti 2 (.v 4) (.v 6))
    (.cons (.seti 2 (.v 5) (.v 6))
    .nil))))
    (.cons (.ret (.mv 2))
    .nil))))⟩
def f_law_calls : Def := ⟨7, [true, true, true],
  (.cons (.asg 3 (.lst .nil))
    (.cons (.fr (.nm 4) (.rng1 (.call 12 (.cons (.v 0) (.cons (.bin .add (.v 2) (.c (.int 1))) .nil)) []))
    (.cons (.asg 5 (.call 12 (.cons (.v 0) (.cons (.fn .len (.cons (.v 1) .nil)) .nil)) []))
    (.cons (.asg 6 (.bin .mod (.fn .int (.cons (.bin .add (.bin .add (.v 5) (.c (.int 1))) (.call 12 (.cons (.v 0) (.cons (.bin .sub (.fn .len (.cons (.v 1) .nil)) (.c (.int 1))) .nil)) [])) .nil)) (.fn .len (.cons (.v 1) .nil))))
    (.cons (.ex (.mu .append 3 (.cons (.tup (.cons (.ix (.v 1) (.v 5)) (.cons (.ix (.v 1) (.v 6)) .nil))) .nil)))
    .nil))))
    (.cons (.ret (.mv 3))
    .nil)))⟩
def f_law_rule : Def := ⟨3, [true],
  (.cons (.iff (.cmp .lt (.fn .len (.cons (.v 0) .nil)) (.c (.int 2)))
    (.cons (.ret (.lst .nil))
    .nil)
    .nil)
    (.cons (.iff (.cmp .lt (.fn .len (.cons (.v 0) .nil)) (.c (.int 4)))
    (.cons (.ret (.ite (.cmp .eq (.fn .len (.cons (.v 0) .nil)) (.c (.int 2))) (.lst (.cons (.tup (.cons (.ix (.v 0) (.c (.int 0))) (.cons (.ix (.v 0) (.c (.int 1))) .nil))) .nil)) (.lst (.cons (.tup (.cons (.ix (.v 0) (.c (.int 0))) (.cons (.ix (.v 0) (.c (.int 1))) .nil))) (.cons (.tup (.cons (.ix (.v 0) (.c (.int 0))) (.cons (.ix (.v 0) (.c (.int 2))) .nil))) (.cons (.tup (.cons (.ix (.v 0) (.c (.int 0))) (.cons (.ix (.v 0) (.c (.int 1))) .nil))) .nil))))))
    .nil)
    .nil)
    (.cons (.asg 1 (.comp [2] (.nm 2) (.seq (.sl (.v 0) (.cons (.c (.int 4)) .nil) .nil)) .nil (.tup (.cons (.ix (.v 0) (.c (.int 0))) (.cons (.v 2) .nil)))))
    (.cons (.ret (.bin .add (.bin .add (.v 1) (.lst (.cons (.tup (.cons (.ix (.v 0) (.c (.int 0))) (.cons (.ix (.v 0) (.c (.int 1))) .nil))) (.cons (.tup (.cons (.ix (.v 0) (.c (.int 2))) (.cons (.ix (.v 0) (.c (.int 3))) .nil))) (.cons (.tup (.cons (.ix (.v 0) (.c (.int 0))) (.cons (.ix (.v 0) (.c (.int 2))) .nil))) (.cons (.tup (.cons (.ix (.v 0) (.c (.int 1))) (.cons (.ix (.v 0) (.c (.int 3))) .nil))) .nil)))))) (.v 1)))
    .nil))))⟩
def f_law_reach : Def := ⟨13, [true, true],
  (.cons (.asg 2 (.comp [11] (.nm 11) (.seq (.v 0)) .nil (.lst (.cons (.v 11) .nil))))
    (.cons (.asg 3 (.lst (.cons (.v 2) .nil)))
    (.cons (.fr (.nm 4) (.rng1 (.v 1))
    (.cons (.asg 5 (.lst .nil))
    (.cons (.fr (.nm 6) (.seq (.v 3))
    (.cons (.fr (.nm 7) (.rng1 (.fn .len (.cons (.v 0) .nil)))
    (.cons (.fr (.nm 8) (.rng1 (.v 7))
    (.cons (.asg 9 (.fn .sorted (.cons (.bin .add (.ix (.v 6) (.v 7)) (.comp [11] (.nm 11) (.seq (.ix (.v 6) (.v 8))) (.cons (.cmp .notin (.v 11) (.ix (.v 6) (.v 7))) .nil) (.v 11))) .nil)))
    (.cons (.asg 10 (.fn .list (.cons (.v 6) .nil)))
    (.cons (.seti 10 (.v 7) (.v 9))
    (.cons (.seti 10 (.v 8) (.v 9))
    (.cons (.asg 5 (.ite (.cmp .isin (.v 10) (.v 5)) (.v 5) (.bin .add (.v 5) (.lst (.cons (.v 10) .nil)))))
    .nil))))))
    .nil))
    .nil))
    (.cons (.asg 3 (.v 5))
    .nil))))
    (.cons (.ret (.cmp .gt (.fn .len (.cons (.comp [6] (.nm 6) (.seq (.v 3)) (.cons (.cmp .eq (.fn .len (.cons (.comp [12] (.nm 12) (.seq (.v 6)) (.cons (.cmp .ne (.v 12) (.v 0)) .nil) (.v 12)) .nil)) (.c (.int 0))) .nil) (.v 6)) .nil)) (.c (.int 0))))
    .nil))))⟩
def f_law_refused : Def := ⟨4, [true, true, true],
  (.cons (.trf (.cons (.iff (.cmp .eq (.v 0) (.c (.int 0)))
    (.cons (.ex (.call 2 (.cons (.v 1) .nil) []))
    .nil)
    (.cons (.iff (.cmp .eq (.v 0) (.c (.int 1)))
    (.cons (.ex (.call 3 (.cons (.v 1) (.cons (.v 2) .nil)) []))
    .nil)
    (.cons (.ex (.call 5 (.cons (.v 1) (.cons (.v 2) .nil)) []))
    .nil))
    .nil))
    .nil) (fun _ => true) (fun c => match c with | 0 => some (.str ⟨#[115, 101, 118, 101, 114, 97, 108]⟩) | 1 => some (.str ⟨#[110, 97, 109, 101]⟩) | 2 => some (.str ⟨#[116, 119, 105, 99, 101]⟩) | 3 => some (.str ⟨#[109, 97, 110, 121]⟩) | 4 => some (.str ⟨#[112, 97, 112, 101, 114]⟩) | _ => none))
    (.cons (.ret (.c (.str ⟨#[110, 111, 110, 101]⟩)))
    .nil))⟩
def f_law : Def := ⟨14, [true],
  (.cons (.asg 1 (.call 11 (.cons (.v 0) .nil) []))
    (.cons (.asg 2 (.sl (.call 14 (.cons (.v 1) (.cons (.c (.int 6)) .nil)) []) .nil (.cons (.call 12 (.cons (.v 1) (.cons (.c (.int 7)) .nil)) []) .nil)))
    (.cons (.asg 3 (.fn .sorted (.cons (.v 2) .nil)))
    (.cons (.asg 4 (.call 17 (.cons (.v 3) .nil) []))
    (.cons (.iff (.or (.not (.call 10 (.cons (.call 2 (.cons (.fn .list (.cons (.v 2) .nil)) .nil) []) (.cons (.v 3) .nil)) [])) (.or (.not (.call 10 (.cons (.call 7 (.cons (.fn .list (.cons (.v 2) .nil)) .nil) []) (.cons (.v 4) .nil)) [])) (.not (.call 10 (.cons (.call 6 (.cons (.v 2) .nil) []) (.cons (.fn .len (.cons (.v 4) .nil)) .nil)) []))))
    (.cons (.ret (.c (.bool false)))
    .nil)
    .nil)
    (.cons (.iff (.or (.cmp .isnot (.call 8 (.cons (.fn .list (.cons (.v 2) .nil)) (.cons (.fn .list (.cons (.v 4) .nil)) .nil)) []) (.c (.bool true))) (.cmp .gt (.fn .len (.cons (.comp [13] (.nm 13) (.seq (.v 3)) (.cons (.cmp .ne (.ix (.call 15 (.cons (.v 3) (.cons (.v 4) .nil)) []) (.v 13)) (.v 3)) .nil) (.v 13)) .nil)) (.c (.int 0))))
    (.cons (.ret (.c (.bool false)))
    .nil)
    .nil)
    (.cons (.iff (.and (.chn .lt .lt (.c (.int 1)) (.fn .len (.cons (.v 3) .nil)) (.c (.int 5))) (.call 18 (.cons (.v 3) (.cons (.bin .sub (.fn .len (.cons (.v 4) .nil)) (.c (.int 1))) .nil)) []))
    (.cons (.ret (.c (.bool false)))
    .nil)
    .nil)
    (.cons (.fr (.nm 5) (.rng1 (.c (.int 6)))
    (.cons (.asg 6 (.fn .list (.cons (.v 4) .nil)))
    (.cons (.iff (.cmp .gt (.fn .len (.cons (.v 3) .nil)) (.c (.int 1)))
    (.cons (.asg 6 (.call 13 (.cons (.v 1) (.cons (.lst (.cons (.fn .list (.cons (.v 4) .nil)) (.cons (.call 16 (.cons (.v 1) (.cons (.v 3) (.cons (.c (.int 10)) .nil))) []) (.cons (.lrev (.v 4)) .nil)))) .nil)) []))
    (.cons (.fr (.nm 7) (.rng1 (.call 12 (.cons (.v 1) (.cons (.c (.int 3)) .nil)) []))
    (.cons (.asg 8 (.call 12 (.cons (.v 1) (.cons (.bin .add (.fn .len (.cons (.v 6) .nil)) (.c (.int 1))) .nil)) []))
    (.cons (.asg 6 (.call 13 (.cons (.v 1) (.cons (.lst (.cons (.bin .add (.sl (.v 6) .nil (.cons (.v 8) .nil)) (.sl (.v 6) (.cons (.bin .add (.v 8) (.c (.int 1))) .nil) .nil)) (.cons (.bin .add (.bin .add (.sl (.v 6) .nil (.cons (.v 8) .nil)) (.call 16 (.cons (.v 1) (.cons (.v 3) (.cons (.c (.int 1)) .nil))) [])) (.sl (.v 6) (.cons (.v 8) .nil) .nil)) (.cons (.bin .add (.sl (.v 6) (.cons (.v 8) .nil) .nil) (.sl (.v 6) .nil (.cons (.v 8) .nil))) .nil)))) .nil)) []))
    .nil)))
    .nil))
    .nil)
    (.cons (.asg 9 (.call 15 (.cons (.v 3) (.cons (.v 6) .nil)) []))
    (.cons (.asg 10 (.cmp .eq (.fn .len (.cons (.comp [13] (.nm 13) (.seq (.v 3)) (.cons (.cmp .ne (.ix (.v 9) (.v 13)) (.v 3)) .nil) (.v 13)) .nil)) (.c (.int 0))))
    (.cons (.iff (.or (.not (.call 10 (.cons (.call 4 (.cons (.fn .list (.cons (.v 2) .nil)) (.cons (.fn .list (.cons (.v 6) .nil)) .nil)) []) (.cons (.comp [13] (.nm 13) (.seq (.v 3)) .nil (.tup (.cons (.v 13) (.cons (.ix (.v 9) (.v 13)) .nil)))) .nil)) [])) (.not (.call 10 (.cons (.call 5 (.cons (.v 2) (.cons (.v 6) .nil)) []) (.cons (.v 10) .nil)) [])))
    (.cons (.ret (.c (.bool false)))
    .nil)
    .nil)
    (.cons (.iff (.or (.not (.call 10 (.cons (.call 8 (.cons (.v 2) (.cons (.v 6) .nil)) []) (.cons (.and (.v 10) (.cmp .eq (.fn .len (.cons (.v 6) .nil)) (.fn .len (.cons (.v 4) .nil)))) .nil)) [])) (.not (.call 10 (.cons (.call 3 (.cons (.v 2) (.cons (.v 6) .nil)) []) (.cons (.v 6) .nil)) [])))
    (.cons (.ret (.c (.bool false)))
    .nil)
    .nil)
    (.cons (.asg 11 (.call 9 (.cons (.fn .list (.cons (.v 6) .nil)) .nil) []))
    (.cons (.iff (.or (.not (.call 10 (.cons (.v 11) (.cons (.lrev (.v 6)) .nil)) [])) (.cmp .ne (.call 5 (.cons (.v 2) (.cons (.v 11) .nil)) []) (.v 10)))
    (.cons (.ret (.c (.bool false)))
    .nil)
    .nil)
    .nil)))))))))
    (.cons (.fr (.nm 12) (.seq (.lst (.cons (.lst (.cons (.tup (.cons (.c (.str ⟨#[110, 111, 98, 111, 100, 121, 104, 101, 114, 101]⟩)) (.cons (.c (.str ⟨#[110, 111, 98, 111, 100, 121, 104, 101, 114, 101]⟩)) .nil))) .nil)) (.cons (.lst (.cons (.tup (.cons (.c (.str ⟨#[97]⟩)) .nil)) .nil)) (.cons (.lst (.cons (.lst (.cons (.c (.str ⟨#[97]⟩)) (.cons (.c (.str ⟨#[98]⟩)) .nil))) .nil)) (.cons (.lst (.cons (.tup (.cons (.c (.str ⟨#[110, 111, 98, 111, 100, 121, 104, 101, 114, 101]⟩)) (.cons (.c (.str ⟨#[110, 101, 119, 97]⟩)) .nil))) .nil)) .nil))))))
    (.cons (.iff (.or (.cmp .ne (.call 19 (.cons (.c (.int 1)) (.cons (.v 2) (.cons (.v 12) .nil))) []) (.c (.str ⟨#[112, 97, 112, 101, 114]⟩))) (.cmp .ne (.call 19 (.cons (.c (.int 2)) (.cons (.v 2) (.cons (.v 12) .nil))) []) (.c (.str ⟨#[112, 97, 112, 101, 114]⟩))))
    (.cons (.ret (.c (.bool false)))
    .nil)
    .nil)
    .nil))
    (.cons (.iff (.or (.cmp .ne (.call 19 (.cons (.c (.int 0)) (.cons (.lst (.cons (.c (.str ⟨#[97]⟩)) (.cons (.c (.str ⟨#[81]⟩)) .nil))) (.cons (.c (.int 0)) .nil))) []) (.c (.str ⟨#[110, 97, 109, 101]⟩))) (.cmp .ne (.call 19 (.cons (.c (.int 0)) (.cons (.lst (.cons (.c (.str ⟨#[97]⟩)) (.cons (.c (.str ⟨#[98]⟩)) (.cons (.c (.str ⟨#[97]⟩)) .nil)))) (.cons (.c (.int 0)) .nil))) []) (.c (.str ⟨#[116, 119, 105, 99, 101]⟩))))
    (.cons (.ret (.c (.bool false)))
    .nil)
    .nil)
    (.cons (.ret (.cmp .eq (.call 19 (.cons (.c (.int 0)) (.cons (.comp [5] (.nm 5) (.rng1 (.c (.int 21))) .nil (.c (.str ⟨#[97]⟩))) (.cons (.c (.int 0)) .nil))) []) (.c (.str ⟨#[109, 97, 110, 121]⟩))))
    .nil)))))))))))⟩
def P : Prog := [f_is_name, f_checked_name, f_checked_friends, f_checked_calls, f_known, f_all_know, f_fewest, f_plan, f_judge, f_turned, f_law_same, f_law_pool, f_law_draw, f_law_pick, f_law_names, f_law_known, f_law_calls, f_law_rule, f_law_reach, f_law_refused, f_law]
end K81
end
section
set_option Elab.async false
set_option linter.all false
set_option maxHeartbeats 4000000
set_option maxRecDepth 100000
namespace K81
open PySem Mv Mv.Sh PySem.W
open Dt (D)
local macro_rules | `(tactic| rfl') => `(tactic| repeat' (first | (exact Wk.n) | (refine Wk.c ?_ ?_) | (exact Wk1.a) | (exact Wk1.r) | (exact Wk1.fd) | (exact Wk1.ld) | (exact Wk1.fn) | (exact Wk1.dn rfl) | (exact Wk1.df rfl) | (exact GvOk.n) | (refine GvOk.w rfl ?_) | (refine GvOk.f rfl ?_) | (refine GvOk.l rfl (by simp [idx]) ?_) | (refine GvOk.m rfl (by simp [idx]) ?_) | (refine GvOk.s rfl (by simp [idx]) ?_) | (refine GvOk.d rfl ?_ (by simp [idx]) ?_)))
/- law_pool (List Int) -> Pool -/
def law_pool (script : (List Int)) : Rs Pool :=
 .ok (Pool.mk script (0 : Int) (0 : Int) (0 : Int) (0 : Int))
def law_pool_c (i : Nat) (C : Orc) : Prop := ∀ (script : (List Int)) (ts : List T), HasL [.s script] ts → CSat (law_pool script) (fun r : Pool => (.l (PD r), [.s script])) [.s script] (C i ts)
theorem law_pool_ok {C : Orc}  : law_pool_c 0 (fun _ ts => f_law_pool.run C ts) := by
  intro script ts hts
  refine fn_of (Df := f_law_pool) (F := fun r : Pool => (.l (PD r), [.s script])) (X := [.s script]) (A := [.s script]) rfl ?_ hts
  unfold law_pool
  refine SS.at [.s script] ?_
  exact ss_ret (se_lst (sl_cons (se_fn (sa_cons (so_v rfl rfl (sa_nil (n_listS (⟨_, rfl, sl_cons (se_c rfl (⟨_, rfl, sl_cons (se_c rfl (⟨_, rfl, sl_cons (se_c rfl (⟨_, rfl, sl_cons (se_c rfl (⟨_, rfl, sl_nil (⟨(show 5 ≤ LINE by decide), ⟨_, rfl, by rfl', by rfl'⟩⟩)⟩))⟩))⟩))⟩))⟩))))))))
/- law_draw Pool Int -> Int -/
def law_draw (pool : Pool) (many : Int) : Rs (Int × Pool) :=
 if (decide ((0 : Int) < pool.c2)) = true then
 ((modI pool.c2 many).bd fun t_1 =>
 (fdivI pool.c2 many).bd fun t_2 =>
 .ok (t_1, ({ pool with c2 := t_2 } : Pool)))
 else
 ((modI pool.c4 (8 : Int)).bd fun t_3 =>
 ((if ((decide (t_3 = (0 : Int))) && (decide (pool.c1 < (pool.ns.length : Int)))) = true then
 ((ixL pool.ns pool.c1).bd fun t_4 =>
 (powI (10 : Int) (18 : Int)).bd fun t_5 =>
 if (decide (t_5 ≤ (absI t_4))) = true then
 ((fdivI (absI t_4) many).bd fun t_6 =>
 (modI (absI t_4) many).bd fun t_7 =>
 .ok (.rt (t_7, ({ ({ pool with c1 := (pool.c1 + (1 : Int)) } : Pool) with c2 := t_6 } : Pool))))
 else
 (.ok (.nx ({ ({ pool with c1 := (pool.c1 + (1 : Int)) } : Pool) with c3 := (absI t_4) } : Pool))))
 else
 (.ok (.nx pool))) : Rs (O Pool (Int × Pool))).obd (fun x => x) fun s_8 =>
 (mulI ({ s_8 with c4 := (s_8.c4 + (1 : Int)) } : Pool).c3 (48271 : Int)).bd fun t_9 =>
 (mulI ({ s_8 with c4 := (s_8.c4 + (1 : Int)) } : Pool).c4 (69621 : Int)).bd fun t_10 =>
 (modI ((t_9 + t_10) + (7919 : Int)) (2147483647 : Int)).bd fun t_11 =>
 (mulI t_11 t_11).bd fun t_12 =>
 (mulI ({ s_8 with c4 := (s_8.c4 + (1 : Int)) } : Pool).c4 (40692 : Int)).bd fun t_13 =>
 (modI (t_12 + t_13) (2147483399 : Int)).bd fun t_14 =>
 (modI t_14 many).bd fun t_15 =>
 .ok (t_15, ({ s_8 with c4 := (s_8.c4 + (1 : Int)) } : Pool)))
def law_draw_c (i : Nat) (C : Orc) : Prop := ∀ (pool : Pool) (many : Int) (ts : List T), HasL [.l (PD pool), .d (D many)] ts → CSat (law_draw pool many) (fun r : (Int × Pool) => (.d (D r.1), [.l (PD r.2), .d (D many)])) [.any, .d (D many)] (C i ts)
theorem law_draw_ok {C : Orc}  : law_draw_c 0 (fun _ ts => f_law_draw.run C ts) := by
  intro pool many ts hts
  refine fn_of (Df := f_law_draw) (F := fun r : (Int × Pool) => (.d (D r.1), [.l (PD r.2), .d (D many), .any, .any, .any])) (X := [.any, .d (D many), .any, .any, .any]) (A := [.l (PD pool), .d (D many)]) rfl ?_ hts
  unfold law_draw
  refine SS.at [.l (PD pool), .d (D many), .no, .no, .no] ?_
  refine ss_if (sb_cmp (so_e rfl (se_ix (so_v rfl rfl (so_e rfl (se_c rfl (a_ixC rfl rfl rfl (so_e rfl (se_c rfl (a_gtI rfl rfl (⟨_, rfl, ⟨_, _, rfl, ?_, ?_⟩⟩)))))))))))
  · refine SS.at [.l (PD pool), .d (D many), .no, .no, .no] ?_
    refine ss_asg (se_bin (so_e rfl (se_fn (sa_cons (so_e rfl (se_ix (so_v rfl rfl (so_e rfl (se_c rfl (a_ixC rfl rfl rfl (sa_nil (n_int rfl (so_v rfl rfl (a_modI rfl rfl fun t_1 => ?_))))))))))))))
    refine SS.at [.l (PD pool), .d (D many), .f (D t_1), .no, .no] ?_
    refine ss_setC (se_bin (so_e rfl (se_ix (so_v rfl rfl (so_e rfl (se_c rfl (a_ixC rfl rfl rfl (so_v rfl rfl (a_fdivI rfl rfl fun t_2 => ⟨_, _, rfl, rfl, rfl, so_e rfl (se_c rfl (⟨_, PD ({ pool with c2 := t_2 } : Pool), _, rfl, rfl, rfl, ?_⟩))⟩)))))))))
    refine SS.at [.l (PD ({ pool with c2 := t_2 } : Pool)), .d (D many), .f (D t_1), .no, .no] ?_
    exact ss_ret (se_mv rfl rfl (⟨_, rfl, by rfl', by rfl'⟩))
  · refine SS.at [.l (PD pool), .d (D many), .no, .no, .no] ?_
    refine ss_ifo (σ := Pool) (fun x => x) (sb_andp (sb_cmp (so_e rfl (se_bin (so_e rfl (se_fn (sa_cons (so_e rfl (se_ix (so_v rfl rfl (so_e rfl (se_c rfl (a_ixC rfl rfl rfl (sa_nil (n_int rfl (so_e rfl (se_c rfl (a_modI rfl rfl fun t_3 => so_e rfl (se_c rfl (a_eq (α := Int) (x := t_3) (y := (0 : Int)) rfl rfl (⟨_, rfl, ⟨(decide (pool.c1 < (pool.ns.length : Int))), sb_cmp (so_e rfl (se_ix (so_v rfl rfl (so_e rfl (se_c rfl (a_ixC rfl rfl rfl (so_e rfl (se_fn (sa_cons (so_e rfl (se_ix (so_v rfl rfl (so_e rfl (se_c rfl (a_ixC rfl rfl rfl (sa_nil (n_len (xs := pool.ns) rfl (a_ltI rfl rfl (⟨_, rfl, ⟨rfl, Wk.r⟩⟩))))))))))))))))))), ⟨(fun s_8 : Pool => ([.l (PD s_8), .d (D many), .no, .no, .no] : List Sl)), _, _, _, rfl, ?_, ?_, fun s_8 => ?_⟩⟩⟩)))))))))))))))))))))
    · refine SS.at [.l (PD pool), .d (D many), .no, .no, .no] ?_
      refine ss_asg (se_fn (sa_cons (so_e rfl (se_ix (so_e rfl (se_ix (so_v rfl rfl (so_e rfl (se_c rfl (a_ixC rfl rfl rfl (so_e rfl (se_ix (so_v rfl rfl (so_e rfl (se_c rfl (a_ixC rfl rfl rfl (a_ixL (xs := pool.ns) rfl rfl fun t_4 => sa_nil (n_abs rfl (?_)))))))))))))))))))
      refine SS.at [.l (PD pool), .d (D many), .no, .f (D (absI t_4)), .no] ?_
      refine ss_setC (se_bin (so_e rfl (se_ix (so_v rfl rfl (so_e rfl (se_c rfl (a_ixC rfl rfl rfl (so_e rfl (se_c rfl (a_addI rfl rfl (⟨_, _, rfl, rfl, rfl, so_e rfl (se_c rfl (⟨_, PD ({ pool with c1 := (pool.c1 + (1 : Int)) } : Pool), _, rfl, rfl, rfl, ?_⟩))⟩)))))))))))
      refine SS.at [.l (PD ({ pool with c1 := (pool.c1 + (1 : Int)) } : Pool)), .d (D many), .no, .f (D (absI t_4)), .no] ?_
      refine ss_if (sb_cmp (so_v rfl rfl (so_e rfl (se_bin (so_e rfl (se_c rfl (so_e rfl (se_c rfl (a_powI rfl rfl fun t_5 => a_geI rfl rfl (⟨_, rfl, ⟨_, _, rfl, ?_, ?_⟩⟩))))))))))
      · refine SS.at [.l (PD ({ pool with c1 := (pool.c1 + (1 : Int)) } : Pool)), .d (D many), .no, .f (D (absI t_4)), .no] ?_
        refine ss_setC (se_bin (so_v rfl rfl (so_v rfl rfl (a_fdivI rfl rfl fun t_6 => ⟨_, _, rfl, rfl, rfl, so_e rfl (se_c rfl (⟨_, PD ({ ({ pool with c1 := (pool.c1 + (1 : Int)) } : Pool) with c2 := t_6 } : Pool), _, rfl, rfl, rfl, ?_⟩))⟩))))
        refine SS.at [.l (PD ({ ({ pool with c1 := (pool.c1 + (1 : Int)) } : Pool) with c2 := t_6 } : Pool)), .d (D many), .no, .f (D (absI t_4)), .no] ?_
        exact ss_reto (Ans.up (u := fun x => x) Ans.top) (se_bin (so_e rfl (se_fn (sa_cons (so_v rfl rfl (sa_nil (n_int rfl (so_v rfl rfl (a_modI rfl rfl fun t_7 => ⟨(t_7, ({ ({ pool with c1 := (pool.c1 + (1 : Int)) } : Pool) with c2 := t_6 } : Pool)), rfl, by rfl', by rfl'⟩)))))))))
      · refine SS.at [.l (PD ({ pool with c1 := (pool.c1 + (1 : Int)) } : Pool)), .d (D many), .no, .f (D (absI t_4)), .no] ?_
        refine ss_setC (se_v rfl rfl (⟨_, _, rfl, rfl, rfl, so_e rfl (se_c rfl (⟨_, PD ({ ({ pool with c1 := (pool.c1 + (1 : Int)) } : Pool) with c3 := (absI t_4) } : Pool), _, rfl, rfl, rfl, ?_⟩))⟩))
        exact ss_endo (by rfl')
    · exact ss_endo (by rfl')
    · refine SS.at [.l (PD s_8), .d (D many), .no, .no, .no] ?_
      refine ss_setC (se_bin (so_e rfl (se_ix (so_v rfl rfl (so_e rfl (se_c rfl (a_ixC rfl rfl rfl (so_e rfl (se_c rfl (a_addI rfl rfl (⟨_, _, rfl, rfl, rfl, so_e rfl (se_c rfl (⟨_, PD ({ s_8 with c4 := (s_8.c4 + (1 : Int)) } : Pool), _, rfl, rfl, rfl, ?_⟩))⟩)))))))))))
      refine SS.at [.l (PD ({ s_8 with c4 := (s_8.c4 + (1 : Int)) } : Pool)), .d (D many), .no, .no, .no] ?_
      refine ss_asg (se_bin (so_e rfl (se_fn (sa_cons (so_e rfl (se_bin (so_e rfl (se_bin (so_e rfl (se_bin (so_e rfl (se_ix (so_v rfl rfl (so_e rfl (se_c rfl (a_ixC rfl rfl rfl (so_e rfl (se_c rfl (a_mulI rfl rfl fun t_9 => so_e rfl (se_bin (so_e rfl (se_ix (so_v rfl rfl (so_e rfl (se_c rfl (a_ixC rfl rfl rfl (so_e rfl (se_c rfl (a_mulI rfl rfl fun t_10 => a_addI rfl rfl (so_e rfl (se_c rfl (a_addI rfl rfl (sa_nil (n_int rfl (so_e rfl (se_c rfl (a_modI rfl rfl fun t_11 => ?_)))))))))))))))))))))))))))))))))))))
      refine SS.at [.l (PD ({ s_8 with c4 := (s_8.c4 + (1 : Int)) } : Pool)), .d (D many), .no, .no, .f (D t_11)] ?_
      refine ss_asg (se_bin (so_e rfl (se_fn (sa_cons (so_e rfl (se_bin (so_e rfl (se_bin (so_v rfl rfl (so_v rfl rfl (a_mulI rfl rfl fun t_12 => so_e rfl (se_bin (so_e rfl (se_ix (so_v rfl rfl (so_e rfl (se_c rfl (a_ixC rfl rfl rfl (so_e rfl (se_c rfl (a_mulI rfl rfl fun t_13 => a_addI rfl rfl (sa_nil (n_int rfl (so_e rfl (se_c rfl (a_modI rfl rfl fun t_14 => ?_))))))))))))))))))))))))))
      refine SS.at [.l (PD ({ s_8 with c4 := (s_8.c4 + (1 : Int)) } : Pool)), .d (D many), .no, .no, .f (D t_14)] ?_
      exact ss_ret (se_bin (so_e rfl (se_fn (sa_cons (so_v rfl rfl (sa_nil (n_int rfl (so_v rfl rfl (a_modI rfl rfl fun t_15 => ⟨_, rfl, by rfl', by rfl'⟩)))))))))
/- law_names Pool Int -> (List Str) -/
def law_names (pool : Pool) (many : Int) : Rs ((List Str) × Pool) :=
 (law_draw pool (26 : Int)).bd fun r_16 =>
 ((if (decide (many ≤ (26 : Int))) = true then ((law_draw r_16.2 (3 : Int)).bd fun r_17 =>
 .ok ((decide (r_17.1 = (0 : Int))), r_17.2) : Rs (Bool × Pool)) else .ok (false, r_16.2))).bd fun b_18 =>
 if b_18.1 = true then
 ((rng 0 many).bd fun ns_20 =>
 (compM (β := Str) ns_20 (fun k_21 => .ok true) (fun k_21 => (modI (r_16.1 + k_21) (26 : Int)).bd fun t_22 =>
 (ixS (⟨#[97, 98, 99, 100, 101, 102, 103, 104, 105, 106, 107, 108, 109, 110, 111, 112, 113, 114, 115, 116, 117, 118, 119, 120, 121, 122]⟩ : Str) t_22).bd fun t_23 =>
 .ok t_23)).bd fun c_24 =>
 .ok (c_24, b_18.2))
 else
 ((law_draw b_18.2 (11 : Int)).bd fun r_25 =>
 (rng 0 r_25.1).bd fun ns_26 =>
 (compS (β := Str) ns_26 r_25.2 (fun s_28 k_27 => .ok (true, s_28)) (fun s_28 k_27 => (law_draw s_28 (26 : Int)).bd fun r_29 =>
 (ixS (⟨#[97, 98, 99, 100, 101, 102, 103, 104, 105, 106, 107, 108, 109, 110, 111, 112, 113, 114, 115, 116, 117, 118, 119, 120, 121, 122]⟩ : Str) r_29.1).bd fun t_30 =>
 .ok (t_30, r_29.2))).bd fun c_31 =>
 (joinS (⟨#[]⟩ : Str) c_31.1).bd fun t_32 =>
 (law_draw c_31.2 ((t_32.length : Int) + (1 : Int))).bd fun r_33 =>
 (rng 0 many).bd fun ns_34 =>
 (foldM (fun (s_35 : (List Str)) k_36 =>
 ((modI (r_16.1 + k_36) (26 : Int)).bd fun t_37 =>
 (ixS (⟨#[97, 98, 99, 100, 101, 102, 103, 104, 105, 106, 107, 108, 109, 110, 111, 112, 113, 114, 115, 116, 117, 118, 119, 120, 121, 122]⟩ : Str) t_37).bd fun t_38 =>
 (fdivI k_36 (26 : Int)).bd fun t_39 =>
 (mulI t_39 (7 : Int)).bd fun t_40 =>
 (modI ((r_16.1 + t_40) + k_36) (26 : Int)).bd fun t_41 =>
 (ixS (⟨#[97, 98, 99, 100, 101, 102, 103, 104, 105, 106, 107, 108, 109, 110, 111, 112, 113, 114, 115, 116, 117, 118, 119, 120, 121, 122]⟩ : Str) t_41).bd fun t_42 =>
 (scat t_38 t_42).bd fun t_43 =>
 (scat (cutS' t_32 none (some r_33.1)) t_43).bd fun t_44 =>
 (scat t_44 (cutS' t_32 (some r_33.1) none)).bd fun t_45 =>
 (app s_35 t_45).bd fun found_46 =>
 .ok found_46)) ns_34 ([] : (List Str))).bd fun s_35 =>
 .ok (s_35, r_33.2))
def law_names_c (i : Nat) (C : Orc) : Prop := ∀ (pool : Pool) (many : Int) (ts : List T), HasL [.l (PD pool), .d (D many)] ts → CSat (law_names pool many) (fun r : ((List Str) × Pool) => (.l (List.map D r.1), [.l (PD r.2), .d (D many)])) [.any, .d (D many)] (C i ts)
theorem law_names_ok {C : Orc} (h_law_draw : law_draw_c 12 C) : law_names_c 0 (fun _ ts => f_law_names.run C ts) := by
  intro pool many ts hts
  refine fn_of (Df := f_law_names) (F := fun r : ((List Str) × Pool) => (.l (List.map D r.1), [.l (PD r.2), .d (D many), .any, .any, .any, .any, .any, .any, .any])) (X := [.any, .d (D many), .any, .any, .any, .any, .any, .any, .any]) (A := [.l (PD pool), .d (D many)]) rfl ?_ hts
  unfold law_names
  refine SS.at [.l (PD pool), .d (D many), .no, .no, .no, .no, .no, .no, .no] ?_
  refine ss_asg (se_c (by decide +kernel) (?_))
  refine SS.at [.l (PD pool), .d (D many), .f (D (⟨#[97, 98, 99, 100, 101, 102, 103, 104, 105, 106, 107, 108, 109, 110, 111, 112, 113, 114, 115, 116, 117, 118, 119, 120, 121, 122]⟩ : Str)), .no, .no, .no, .no, .no, .no] ?_
  refine ss_asg (se_call rfl (sa_cons (so_v rfl rfl (sa_cons (so_e rfl (se_c rfl (sa_nil (⟨_, _, _, _, [.any, .d (D many), .f (D (⟨#[97, 98, 99, 100, 101, 102, 103, 104, 105, 106, 107, 108, 109, 110, 111, 112, 113, 114, 115, 116, 117, 118, 119, 120, 121, 122]⟩ : Str)), .no, .no, .no, .no, .no, .no], fun r_16 : (Int × Pool) => ([.l (PD r_16.2), .d (D many), .f (D (⟨#[97, 98, 99, 100, 101, 102, 103, 104, 105, 106, 107, 108, 109, 110, 111, 112, 113, 114, 115, 116, 117, 118, 119, 120, 121, 122]⟩ : Str)), .no, .no, .no, .no, .no, .no] : List Sl), rfl, fun ts h => h_law_draw pool (26 : Int) ts (HasL.wk (by rfl') h), by rfl', rfl, by rfl', fun r_16 => ⟨by rfl', rfl, ?_⟩⟩))))))))
  refine SS.at [.l (PD r_16.2), .d (D many), .f (D (⟨#[97, 98, 99, 100, 101, 102, 103, 104, 105, 106, 107, 108, 109, 110, 111, 112, 113, 114, 115, 116, 117, 118, 119, 120, 121, 122]⟩ : Str)), .d (D r_16.1), .no, .no, .no, .no, .no] ?_
  refine ss_if (sb_andS (σ := Pool) (sb_cmp (so_v rfl rfl (so_e rfl (se_c rfl (a_leI rfl rfl (⟨_, rfl, ⟨(fun s_19 : Pool => ([.l (PD s_19), .d (D many), .f (D (⟨#[97, 98, 99, 100, 101, 102, 103, 104, 105, 106, 107, 108, 109, 110, 111, 112, 113, 114, 115, 116, 117, 118, 119, 120, 121, 122]⟩ : Str)), .d (D r_16.1), .no, .no, .no, .no, .no] : List Sl)), _, r_16.2, _, rfl, sb_cmp (so_e rfl (se_call rfl (sa_cons (so_v rfl rfl (sa_cons (so_e rfl (se_c rfl (sa_nil (⟨_, _, _, _, [.any, .d (D many), .f (D (⟨#[97, 98, 99, 100, 101, 102, 103, 104, 105, 106, 107, 108, 109, 110, 111, 112, 113, 114, 115, 116, 117, 118, 119, 120, 121, 122]⟩ : Str)), .d (D r_16.1), .no, .no, .no, .no, .no], fun r_17 : (Int × Pool) => ([.l (PD r_17.2), .d (D many), .f (D (⟨#[97, 98, 99, 100, 101, 102, 103, 104, 105, 106, 107, 108, 109, 110, 111, 112, 113, 114, 115, 116, 117, 118, 119, 120, 121, 122]⟩ : Str)), .d (D r_16.1), .no, .no, .no, .no, .no] : List Sl), rfl, fun ts h => h_law_draw r_16.2 (3 : Int) ts (HasL.wk (by rfl') h), by rfl', rfl, by rfl', fun r_17 => ⟨by rfl', rfl, so_e rfl (se_c rfl (a_eq (α := Int) (x := r_17.1) (y := (0 : Int)) rfl rfl (⟨_, rfl, ⟨_, rfl, by rfl'⟩⟩)))⟩⟩))))))))), by rfl', fun b_18 => ⟨_, _, rfl, ?_, ?_⟩⟩⟩)))))))
  · refine SS.at [.l (PD b_18.2), .d (D many), .f (D (⟨#[97, 98, 99, 100, 101, 102, 103, 104, 105, 106, 107, 108, 109, 110, 111, 112, 113, 114, 115, 116, 117, 118, 119, 120, 121, 122]⟩ : Str)), .d (D r_16.1), .no, .no, .no, .no, .no] ?_
    exact ss_ret (se_comp (α := Int) (β := Str) rfl (sc_rng1 (se_v rfl rfl (⟨_, _, rfl, rfl, fun ns_20 => ⟨ns_20, [.l (PD b_18.2), .d (D many), .f (D (⟨#[97, 98, 99, 100, 101, 102, 103, 104, 105, 106, 107, 108, 109, 110, 111, 112, 113, 114, 115, 116, 117, 118, 119, 120, 121, 122]⟩ : Str)), .d (D r_16.1), .no, .no, .no, .no, .no], (fun k_21 : Int => ([.l (PD b_18.2), .d (D many), .f (D (⟨#[97, 98, 99, 100, 101, 102, 103, 104, 105, 106, 107, 108, 109, 110, 111, 112, 113, 114, 115, 116, 117, 118, 119, 120, 121, 122]⟩ : Str)), .d (D r_16.1), .no, .no, .no, .f (D k_21), .no] : List Sl)), _, _, _, rfl, rfl, by rfl', rfl, fun _ => rfl, fun k_21 => sn_nil ⟨rfl, by rfl', by rfl'⟩, fun k_21 => se_ix (so_v rfl rfl (so_e rfl (se_bin (so_e rfl (se_fn (sa_cons (so_e rfl (se_bin (so_v rfl rfl (so_v rfl rfl (a_addI rfl rfl (sa_nil (n_int rfl (so_e rfl (se_c rfl (a_modI rfl rfl fun t_22 => a_ixS rfl rfl fun t_23 => ⟨t_23, rfl, rfl, by rfl'⟩)))))))))))))))), fun c_24 => ⟨_, rfl, by rfl', by rfl'⟩⟩⟩))))
  · refine SS.at [.l (PD b_18.2), .d (D many), .f (D (⟨#[97, 98, 99, 100, 101, 102, 103, 104, 105, 106, 107, 108, 109, 110, 111, 112, 113, 114, 115, 116, 117, 118, 119, 120, 121, 122]⟩ : Str)), .d (D r_16.1), .no, .no, .no, .no, .no] ?_
    refine ss_asg (se_meth rfl (so_e rfl (se_c (by decide +kernel) (⟨rfl, tk_s rfl, sa_cons (so_e rfl (se_compS (α := Int) (β := Str) (σ := Pool) rfl (sc_rng1 (se_call rfl (sa_cons (so_v rfl rfl (sa_cons (so_e rfl (se_c rfl (sa_nil (⟨_, _, _, _, [.any, .d (D many), .f (D (⟨#[97, 98, 99, 100, 101, 102, 103, 104, 105, 106, 107, 108, 109, 110, 111, 112, 113, 114, 115, 116, 117, 118, 119, 120, 121, 122]⟩ : Str)), .d (D r_16.1), .no, .no, .no, .no, .no], fun r_25 : (Int × Pool) => ([.l (PD r_25.2), .d (D many), .f (D (⟨#[97, 98, 99, 100, 101, 102, 103, 104, 105, 106, 107, 108, 109, 110, 111, 112, 113, 114, 115, 116, 117, 118, 119, 120, 121, 122]⟩ : Str)), .d (D r_16.1), .no, .no, .no, .no, .no] : List Sl), rfl, fun ts h => h_law_draw b_18.2 (11 : Int) ts (HasL.wk (by rfl') h), by rfl', rfl, by rfl', fun r_25 => ⟨by rfl', rfl, ⟨_, _, rfl, rfl, fun ns_26 => ⟨ns_26, r_25.2, (fun s_28 : Pool => ([.l (PD s_28), .d (D many), .f (D (⟨#[97, 98, 99, 100, 101, 102, 103, 104, 105, 106, 107, 108, 109, 110, 111, 112, 113, 114, 115, 116, 117, 118, 119, 120, 121, 122]⟩ : Str)), .d (D r_16.1), .no, .no, .no, .no, .no] : List Sl)), (fun (s_28 : Pool) (k_27 : Int) => ([.l (PD s_28), .d (D many), .f (D (⟨#[97, 98, 99, 100, 101, 102, 103, 104, 105, 106, 107, 108, 109, 110, 111, 112, 113, 114, 115, 116, 117, 118, 119, 120, 121, 122]⟩ : Str)), .d (D r_16.1), .no, .no, .no, .f (D k_27), .no] : List Sl)), _, _, _, rfl, rfl, by rfl', rfl, fun _ _ => rfl, fun _ => ⟨rfl, rfl⟩, fun s_28 k_27 => sn_nil ⟨_, rfl, by rfl', fun _ => by rfl'⟩, fun s_28 k_27 => se_ix (so_v rfl rfl (so_e rfl (se_call rfl (sa_cons (so_v rfl rfl (sa_cons (so_e rfl (se_c rfl (sa_nil (⟨_, _, _, _, [.any, .d (D many), .f (D (⟨#[97, 98, 99, 100, 101, 102, 103, 104, 105, 106, 107, 108, 109, 110, 111, 112, 113, 114, 115, 116, 117, 118, 119, 120, 121, 122]⟩ : Str)), .d (D r_16.1), .no, .no, .no, .f (D k_27), .no], fun r_29 : (Int × Pool) => ([.l (PD r_29.2), .d (D many), .f (D (⟨#[97, 98, 99, 100, 101, 102, 103, 104, 105, 106, 107, 108, 109, 110, 111, 112, 113, 114, 115, 116, 117, 118, 119, 120, 121, 122]⟩ : Str)), .d (D r_16.1), .no, .no, .no, .f (D k_27), .no] : List Sl), rfl, fun ts h => h_law_draw s_28 (26 : Int) ts (HasL.wk (by rfl') h), by rfl', rfl, by rfl', fun r_29 => ⟨by rfl', rfl, a_ixS rfl rfl fun t_30 => ⟨t_30, _, rfl, rfl, by rfl'⟩⟩⟩)))))))))), fun c_31 => sa_nil (n_join (xs := c_31.1) rfl rfl fun t_32 => ?_)⟩⟩⟩⟩)))))))))))⟩))))
    refine SS.at [.l (PD c_31.2), .d (D many), .f (D (⟨#[97, 98, 99, 100, 101, 102, 103, 104, 105, 106, 107, 108, 109, 110, 111, 112, 113, 114, 115, 116, 117, 118, 119, 120, 121, 122]⟩ : Str)), .d (D r_16.1), .f (D t_32), .no, .no, .no, .no] ?_
    refine ss_asg (se_call rfl (sa_cons (so_v rfl rfl (sa_cons (so_e rfl (se_bin (so_e rfl (se_fn (sa_cons (so_v rfl rfl (sa_nil (n_lenS rfl (so_e rfl (se_c rfl (a_addI rfl rfl (sa_nil (⟨_, _, _, _, [.any, .d (D many), .f (D (⟨#[97, 98, 99, 100, 101, 102, 103, 104, 105, 106, 107, 108, 109, 110, 111, 112, 113, 114, 115, 116, 117, 118, 119, 120, 121, 122]⟩ : Str)), .d (D r_16.1), .f (D t_32), .no, .no, .no, .no], fun r_33 : (Int × Pool) => ([.l (PD r_33.2), .d (D many), .f (D (⟨#[97, 98, 99, 100, 101, 102, 103, 104, 105, 106, 107, 108, 109, 110, 111, 112, 113, 114, 115, 116, 117, 118, 119, 120, 121, 122]⟩ : Str)), .d (D r_16.1), .f (D t_32), .no, .no, .no, .no] : List Sl), rfl, fun ts h => h_law_draw c_31.2 ((t_32.length : Int) + (1 : Int)) ts (HasL.wk (by rfl') h), by rfl', rfl, by rfl', fun r_33 => ⟨by rfl', rfl, ?_⟩⟩)))))))))))))))))
    refine SS.at [.l (PD r_33.2), .d (D many), .f (D (⟨#[97, 98, 99, 100, 101, 102, 103, 104, 105, 106, 107, 108, 109, 110, 111, 112, 113, 114, 115, 116, 117, 118, 119, 120, 121, 122]⟩ : Str)), .d (D r_16.1), .f (D t_32), .d (D r_33.1), .no, .no, .no] ?_
    refine ss_asg (se_lst (sl_nil (⟨(show 0 ≤ LINE by decide), ?_⟩)))
    refine SS.at [.l (PD r_33.2), .d (D many), .f (D (⟨#[97, 98, 99, 100, 101, 102, 103, 104, 105, 106, 107, 108, 109, 110, 111, 112, 113, 114, 115, 116, 117, 118, 119, 120, 121, 122]⟩ : Str)), .d (D r_16.1), .f (D t_32), .d (D r_33.1), .l (List.map D ([] : (List Str))), .no, .no] ?_
    refine ss_fold (α := Int) (σ := (List Str)) (sc_rng1 (se_v rfl rfl (⟨_, _, rfl, rfl, fun ns_34 => ⟨ns_34, ([] : (List Str)), (fun s_35 : (List Str) => ([.l (PD r_33.2), .d (D many), .f (D (⟨#[97, 98, 99, 100, 101, 102, 103, 104, 105, 106, 107, 108, 109, 110, 111, 112, 113, 114, 115, 116, 117, 118, 119, 120, 121, 122]⟩ : Str)), .d (D r_16.1), .f (D t_32), .d (D r_33.1), .l (List.map D s_35), .no, .no] : List Sl)), _, _, rfl, rfl, by rfl', fun s_35 k_36 => ⟨_, rfl, ?_⟩, fun s_35 => ?_⟩⟩)))
    · refine SS.at [.l (PD r_33.2), .d (D many), .f (D (⟨#[97, 98, 99, 100, 101, 102, 103, 104, 105, 106, 107, 108, 109, 110, 111, 112, 113, 114, 115, 116, 117, 118, 119, 120, 121, 122]⟩ : Str)), .d (D r_16.1), .f (D t_32), .d (D r_33.1), .l (List.map D s_35), .f (D k_36), .no] ?_
      refine ss_asg (se_bin (so_e rfl (se_ix (so_v rfl rfl (so_e rfl (se_bin (so_e rfl (se_fn (sa_cons (so_e rfl (se_bin (so_v rfl rfl (so_v rfl rfl (a_addI rfl rfl (sa_nil (n_int rfl (so_e rfl (se_c rfl (a_modI rfl rfl fun t_37 => a_ixS rfl rfl fun t_38 => so_e rfl (se_ix (so_v rfl rfl (so_e rfl (se_bin (so_e rfl (se_fn (sa_cons (so_e rfl (se_bin (so_e rfl (se_bin (so_v rfl rfl (so_e rfl (se_bin (so_e rfl (se_bin (so_v rfl rfl (so_e rfl (se_c rfl (a_fdivI rfl rfl fun t_39 => so_e rfl (se_c rfl (a_mulI rfl rfl fun t_40 => a_addI rfl rfl (so_v rfl rfl (a_addI rfl rfl (sa_nil (n_int rfl (so_e rfl (se_c rfl (a_modI rfl rfl fun t_41 => a_ixS rfl rfl fun t_42 => a_addS rfl rfl fun t_43 => ?_))))))))))))))))))))))))))))))))))))))))))))))))
      refine SS.at [.l (PD r_33.2), .d (D many), .f (D (⟨#[97, 98, 99, 100, 101, 102, 103, 104, 105, 106, 107, 108, 109, 110, 111, 112, 113, 114, 115, 116, 117, 118, 119, 120, 121, 122]⟩ : Str)), .d (D r_16.1), .f (D t_32), .d (D r_33.1), .l (List.map D s_35), .f (D k_36), .f (D t_43)] ?_
      refine ss_ex (se_app (xs := s_35) rfl (so_e rfl (se_bin (so_e rfl (se_bin (so_e rfl (se_sl (so_v rfl rfl (sp_nil (sp_cons (se_v rfl rfl (⟨_, rfl, ⟨rfl, _, sl_s rfl, so_v rfl rfl (a_addS rfl rfl fun t_44 => so_e rfl (se_sl (so_v rfl rfl (sp_cons (se_v rfl rfl (⟨_, rfl, sp_nil (⟨rfl, _, sl_s rfl, a_addS rfl rfl fun t_45 => ⟨s_35, t_45, _, rfl, rfl, rfl, rfl, fun found_46 => ?_⟩⟩)⟩))))))⟩⟩))))))))))))
      exact ss_end (by rfl')
    · refine SS.at [.l (PD r_33.2), .d (D many), .f (D (⟨#[97, 98, 99, 100, 101, 102, 103, 104, 105, 106, 107, 108, 109, 110, 111, 112, 113, 114, 115, 116, 117, 118, 119, 120, 121, 122]⟩ : Str)), .d (D r_16.1), .f (D t_32), .d (D r_33.1), .l (List.map D s_35), .no, .no] ?_
      exact ss_ret (se_mvl rfl (⟨_, rfl, by rfl', by rfl'⟩))
/- law_rule (List Str) -> (List (Str × Str)) -/
def law_rule (names : (List Str)) : Rs (List (Str × Str)) :=
 if (decide ((names.length : Int) < (2 : Int))) = true then
 (.ok ([] : (List (Str × Str))))
 else
 (if (decide ((names.length : Int) < (4 : Int))) = true then
 (((if (decide ((names.length : Int) = (2 : Int))) = true then ((ixL names (0 : Int)).bd fun t_47 =>
 (ixL names (1 : Int)).bd fun t_48 =>
 .ok ([(t_47, t_48)] : List (Str × Str)) : Rs (List (Str × Str))) else ((ixL names (0 : Int)).bd fun t_49 =>
 (ixL names (1 : Int)).bd fun t_50 =>
 (ixL names (0 : Int)).bd fun t_51 =>
 (ixL names (2 : Int)).bd fun t_52 =>
 (ixL names (0 : Int)).bd fun t_53 =>
 (ixL names (1 : Int)).bd fun t_54 =>
 .ok ([(t_49, t_50), (t_51, t_52), (t_53, t_54)] : List (Str × Str)) : Rs (List (Str × Str))))).bd fun y_55 =>
 .ok y_55)
 else
 ((compM (β := (Str × Str)) (cut names (some (4 : Int)) none) (fun name_56 => .ok true) (fun name_56 => (ixL names (0 : Int)).bd fun t_57 =>
 .ok (t_57, name_56))).bd fun c_58 =>
 (ixL names (0 : Int)).bd fun t_59 =>
 (ixL names (1 : Int)).bd fun t_60 =>
 (ixL names (2 : Int)).bd fun t_61 =>
 (ixL names (3 : Int)).bd fun t_62 =>
 (ixL names (0 : Int)).bd fun t_63 =>
 (ixL names (2 : Int)).bd fun t_64 =>
 (ixL names (1 : Int)).bd fun t_65 =>
 (ixL names (3 : Int)).bd fun t_66 =>
 (cat c_58 ([(t_59, t_60), (t_61, t_62), (t_63, t_64), (t_65, t_66)] : List (Str × Str))).bd fun t_67 =>
 (cat t_67 c_58).bd fun t_68 =>
 .ok t_68))
def law_rule_c (i : Nat) (C : Orc) : Prop := ∀ (names : (List Str)) (ts : List T), HasL [.d (D names)] ts → CSat (law_rule names) (fun r : (List (Str × Str)) => (.d (D r), [.d (D names)])) [.d (D names)] (C i ts)
theorem law_rule_ok {C : Orc}  : law_rule_c 0 (fun _ ts => f_law_rule.run C ts) := by
  intro names ts hts
  refine fn_of (Df := f_law_rule) (F := fun r : (List (Str × Str)) => (.d (D r), [.d (D names), .any, .any])) (X := [.d (D names), .any, .any]) (A := [.d (D names)]) rfl ?_ hts
  unfold law_rule
  refine SS.at [.d (D names), .no, .no] ?_
  refine ss_if (sb_cmp (so_e rfl (se_fn (sa_cons (so_v rfl rfl (sa_nil (n_len (xs := names) rfl (so_e rfl (se_c rfl (a_ltI rfl rfl (⟨_, rfl, ⟨_, _, rfl, ?_, ?_⟩⟩)))))))))))
  · refine SS.at [.d (D names), .no, .no] ?_
    exact ss_ret (se_lst (sl_nil (⟨(show 0 ≤ LINE by decide), ⟨_, rfl, by rfl', by rfl'⟩⟩)))
  · refine SS.at [.d (D names), .no, .no] ?_
    refine ss_if (sb_cmp (so_e rfl (se_fn (sa_cons (so_v rfl rfl (sa_nil (n_len (xs := names) rfl (so_e rfl (se_c rfl (a_ltI rfl rfl (⟨_, rfl, ⟨_, _, rfl, ?_, ?_⟩⟩)))))))))))
    · refine SS.at [.d (D names), .no, .no] ?_
      exact ss_ret (se_ite (fun y : (List (Str × Str)) => Sl.l (List.map D y)) (sb_cmp (so_e rfl (se_fn (sa_cons (so_v rfl rfl (sa_nil (n_len (xs := names) rfl (so_e rfl (se_c rfl (a_eq (α := Int) (x := (names.length : Int)) (y := (2 : Int)) rfl rfl (⟨_, rfl, ⟨_, _, [.d (D names), .no, .no], _, rfl, se_lst (sl_cons (se_tup (sl_cons (se_ix (so_v rfl rfl (so_e rfl (se_c rfl (a_ixL (xs := names) rfl rfl fun t_47 => ⟨_, rfl, sl_cons (se_ix (so_v rfl rfl (so_e rfl (se_c rfl (a_ixL (xs := names) rfl rfl fun t_48 => ⟨_, rfl, sl_nil (⟨(show 2 ≤ LINE by decide), ⟨_, rfl, sl_nil (⟨(show 1 ≤ LINE by decide), ⟨_, rfl, by rfl', by rfl'⟩⟩)⟩⟩)⟩)))))⟩)))))))), se_lst (sl_cons (se_tup (sl_cons (se_ix (so_v rfl rfl (so_e rfl (se_c rfl (a_ixL (xs := names) rfl rfl fun t_49 => ⟨_, rfl, sl_cons (se_ix (so_v rfl rfl (so_e rfl (se_c rfl (a_ixL (xs := names) rfl rfl fun t_50 => ⟨_, rfl, sl_nil (⟨(show 2 ≤ LINE by decide), ⟨_, rfl, sl_cons (se_tup (sl_cons (se_ix (so_v rfl rfl (so_e rfl (se_c rfl (a_ixL (xs := names) rfl rfl fun t_51 => ⟨_, rfl, sl_cons (se_ix (so_v rfl rfl (so_e rfl (se_c rfl (a_ixL (xs := names) rfl rfl fun t_52 => ⟨_, rfl, sl_nil (⟨(show 2 ≤ LINE by decide), ⟨_, rfl, sl_cons (se_tup (sl_cons (se_ix (so_v rfl rfl (so_e rfl (se_c rfl (a_ixL (xs := names) rfl rfl fun t_53 => ⟨_, rfl, sl_cons (se_ix (so_v rfl rfl (so_e rfl (se_c rfl (a_ixL (xs := names) rfl rfl fun t_54 => ⟨_, rfl, sl_nil (⟨(show 2 ≤ LINE by decide), ⟨_, rfl, sl_nil (⟨(show 3 ≤ LINE by decide), ⟨_, rfl, by rfl', by rfl'⟩⟩)⟩⟩)⟩)))))⟩)))))))⟩⟩)⟩)))))⟩)))))))⟩⟩)⟩)))))⟩)))))))), fun y_55 => ⟨_, rfl, by rfl', by rfl'⟩⟩⟩))))))))))))
    · refine SS.at [.d (D names), .no, .no] ?_
      refine ss_asgd (se_comp (α := Str) (β := (Str × Str)) rfl (sc_seq (se_sl (so_v rfl rfl (sp_cons (se_c rfl (⟨_, rfl, sp_nil (⟨rfl, _, sl_l (xs := names) rfl, ⟨_, rfl, ⟨(cut names (some (4 : Int)) none), [.d (D names), .no, .no], (fun name_56 : Str => ([.d (D names), .no, .f (D name_56)] : List Sl)), _, _, _, rfl, rfl, by rfl', rfl, fun _ => rfl, fun name_56 => sn_nil ⟨rfl, by rfl', by rfl'⟩, fun name_56 => se_tup (sl_cons (se_ix (so_v rfl rfl (so_e rfl (se_c rfl (a_ixL (xs := names) rfl rfl fun t_57 => ⟨_, rfl, sl_cons (se_v rfl rfl (⟨_, rfl, sl_nil (⟨(show 2 ≤ LINE by decide), ⟨(t_57, name_56), rfl, rfl, by rfl'⟩⟩)⟩))⟩)))))), fun c_58 => ⟨_, rfl, ?_⟩⟩⟩⟩)⟩)))))))
      refine SS.at [.d (D names), .d (D c_58), .no] ?_
      exact ss_ret (se_bin (so_e rfl (se_bin (so_v rfl rfl (so_e rfl (se_lst (sl_cons (se_tup (sl_cons (se_ix (so_v rfl rfl (so_e rfl (se_c rfl (a_ixL (xs := names) rfl rfl fun t_59 => ⟨_, rfl, sl_cons (se_ix (so_v rfl rfl (so_e rfl (se_c rfl (a_ixL (xs := names) rfl rfl fun t_60 => ⟨_, rfl, sl_nil (⟨(show 2 ≤ LINE by decide), ⟨_, rfl, sl_cons (se_tup (sl_cons (se_ix (so_v rfl rfl (so_e rfl (se_c rfl (a_ixL (xs := names) rfl rfl fun t_61 => ⟨_, rfl, sl_cons (se_ix (so_v rfl rfl (so_e rfl (se_c rfl (a_ixL (xs := names) rfl rfl fun t_62 => ⟨_, rfl, sl_nil (⟨(show 2 ≤ LINE by decide), ⟨_, rfl, sl_cons (se_tup (sl_cons (se_ix (so_v rfl rfl (so_e rfl (se_c rfl (a_ixL (xs := names) rfl rfl fun t_63 => ⟨_, rfl, sl_cons (se_ix (so_v rfl rfl (so_e rfl (se_c rfl (a_ixL (xs := names) rfl rfl fun t_64 => ⟨_, rfl, sl_nil (⟨(show 2 ≤ LINE by decide), ⟨_, rfl, sl_cons (se_tup (sl_cons (se_ix (so_v rfl rfl (so_e rfl (se_c rfl (a_ixL (xs := names) rfl rfl fun t_65 => ⟨_, rfl, sl_cons (se_ix (so_v rfl rfl (so_e rfl (se_c rfl (a_ixL (xs := names) rfl rfl fun t_66 => ⟨_, rfl, sl_nil (⟨(show 2 ≤ LINE by decide), ⟨_, rfl, sl_nil (⟨(show 4 ≤ LINE by decide), a_cat (xs := c_58) (ys := ([(t_59, t_60), (t_61, t_62), (t_63, t_64), (t_65, t_66)] : List (Str × Str))) rfl rfl fun t_67 => so_v rfl rfl (a_cat (xs := t_67) (ys := c_58) rfl rfl fun t_68 => ⟨_, rfl, by rfl', by rfl'⟩)⟩)⟩⟩)⟩)))))⟩)))))))⟩⟩)⟩)))))⟩)))))))⟩⟩)⟩)))))⟩)))))))⟩⟩)⟩)))))⟩))))))))))))))
/- is_name Str -> Bool -/
def is_name (word : Str) : Rs Bool :=
 if ((!true) || (!((decide ((1 : Int) ≤ (word.length : Int))) && (decide ((word.length : Int) ≤ (12 : Int)))))) = true then
 (.ok false)
 else
 ((forM' (ρ := Bool) (fun (s_69 : Unit) sign_70 =>
 (if (!sIn sign_70 (⟨#[97, 98, 99, 100, 101, 102, 103, 104, 105, 106, 107, 108, 109, 110, 111, 112, 113, 114, 115, 116, 117, 118, 119, 120, 121, 122]⟩ : Str)) = true then
 (.ok (.rt false))
 else
 (.ok (.nx ())))) (strsOf word) ()).obd (fun x => x) fun s_69 =>
 .ok true)
def is_name_c (i : Nat) (C : Orc) : Prop := ∀ (word : Str) (ts : List T), HasL [.d (D word)] ts → CSat (is_name word) (fun r : Bool => (.d (D r), [.d (D word)])) [.d (D word)] (C i ts)
theorem is_name_ok {C : Orc}  : is_name_c 0 (fun _ ts => f_is_name.run C ts) := by
  intro word ts hts
  refine fn_of (Df := f_is_name) (F := fun r : Bool => (.d (D r), [.d (D word), .any])) (X := [.d (D word), .any]) (A := [.d (D word)]) rfl ?_ hts
  unfold is_name
  refine SS.at [.d (D word), .no] ?_
  refine ss_if (sb_orp (sb_not (sb_of rfl (se_isi (by decide) (so_v rfl rfl (⟨true, rfl, i_dat rfl rfl, ⟨_, tr_d rfl rfl, ⟨(!((decide ((1 : Int) ≤ (word.length : Int))) && (decide ((word.length : Int) ≤ (12 : Int))))), sb_not (sb_of rfl (se_chn (so_e rfl (se_c rfl (so_e rfl (se_fn (sa_cons (so_v rfl rfl (sa_nil (n_lenS rfl (⟨(decide ((1 : Int) ≤ (word.length : Int))), (decide ((word.length : Int) ≤ (12 : Int))), rfl, rfl, (fun t u a b => by rw [a.int (n := (1 : Int)) rfl, b.int (n := (word.length : Int)) rfl]; rfl), so_e rfl (se_c rfl (⟨rfl, rfl, rfl, (fun t u a b => by rw [a.int (n := (word.length : Int)) rfl, b.int (n := (12 : Int)) rfl]; rfl)⟩)), ⟨_, tr_d rfl rfl, ⟨rfl, Wk.r⟩⟩⟩))))))))))), ⟨_, _, rfl, ?_, ?_⟩⟩⟩⟩))))))
  · refine SS.at [.d (D word), .no] ?_
    exact ss_ret (se_c rfl (⟨_, rfl, by rfl', by rfl'⟩))
  · refine SS.at [.d (D word), .no] ?_
    refine ss_for (α := Str) (σ := Unit) (fun x => x) (sc_str (se_v rfl rfl (⟨_, rfl, ⟨(strsOf word), (), (fun s_69 : Unit => ([.d (D word), .no] : List Sl)), _, _, chars_D _, rfl, by rfl', fun s_69 sign_70 => ⟨_, rfl, ?_⟩, fun s_69 => ?_⟩⟩)))
    · refine SS.at [.d (D word), .f (D sign_70)] ?_
      refine ss_if (sb_cmp (so_v rfl rfl (so_e rfl (se_c (by decide +kernel) (a_ninS rfl rfl (⟨_, rfl, ⟨_, _, rfl, ?_, ?_⟩⟩))))))
      · refine SS.at [.d (D word), .f (D sign_70)] ?_
        exact ss_reto (Ans.up (u := fun x => x) Ans.top) (se_c rfl (⟨false, rfl, by rfl', by rfl'⟩))
      · exact ss_endo (by rfl')
    · refine SS.at [.d (D word), .no] ?_
      exact ss_ret (se_c rfl (⟨_, rfl, by rfl', by rfl'⟩))
/- checked_name Str -> Str -/
def checked_name (word : Str) : Rs Str :=
 (is_name word).bd fun r_71 =>
 if (!r_71) = true then
 (.exc 1)
 else
 (.ok word)
def checked_name_c (i : Nat) (C : Orc) : Prop := ∀ (word : Str) (ts : List T), HasL [.d (D word)] ts → CSat (checked_name word) (fun r : Str => (.d (D r), [.d (D word)])) [.d (D word)] (C i ts)
theorem checked_name_ok {C : Orc} (h_is_name : is_name_c 0 C) : checked_name_c 0 (fun _ ts => f_checked_name.run C ts) := by
  intro word ts hts
  refine fn_of (Df := f_checked_name) (F := fun r : Str => (.d (D r), [.d (D word)])) (X := [.d (D word)]) (A := [.d (D word)]) rfl ?_ hts
  unfold checked_name
  refine SS.at [.d (D word)] ?_
  refine ss_if (sb_not (sb_of rfl (se_call rfl (sa_cons (so_v rfl rfl (sa_nil (⟨_, _, _, _, [.d (D word)], fun r_71 : Bool => ([.d (D word)] : List Sl), rfl, fun ts h => h_is_name word ts (HasL.wk (by rfl') h), by rfl', rfl, by rfl', fun r_71 => ⟨by rfl', rfl, ⟨_, tr_d rfl rfl, ⟨_, _, rfl, ?_, ?_⟩⟩⟩⟩)))))))
  · refine SS.at [.d (D word)] ?_
    exact ss_rse (se_c (by decide +kernel) (⟨rfl, by rfl'⟩))
  · refine SS.at [.d (D word)] ?_
    exact ss_ret (se_mv rfl rfl (⟨_, rfl, by rfl', by rfl'⟩))
/- checked_friends (List Str) -> (List Str) -/
def checked_friends (friends : (List Str)) : Rs (List Str) :=
 if (decide ((20 : Int) < (friends.length : Int))) = true then
 (.exc 3)
 else
 ((foldM (fun (s_72 : (List Str)) name_73 =>
 ((checked_name name_73).bd fun r_74 =>
 if (mem name_73 s_72) = true then
 (.exc 2)
 else
 ((app s_72 name_73).bd fun found_75 =>
 .ok found_75))) friends ([] : (List Str))).bd fun s_72 =>
 .ok (isort leT s_72))
def checked_friends_c (i : Nat) (C : Orc) : Prop := ∀ (friends : (List Str)) (ts : List T), HasL [.d (D friends)] ts → CSat (checked_friends friends) (fun r : (List Str) => (.l (List.map D r), [.d (D friends)])) [.d (D friends)] (C i ts)
theorem checked_friends_ok {C : Orc} (h_checked_name : checked_name_c 1 C) : checked_friends_c 0 (fun _ ts => f_checked_friends.run C ts) := by
  intro friends ts hts
  refine fn_of (Df := f_checked_friends) (F := fun r : (List Str) => (.l (List.map D r), [.d (D friends), .any, .any])) (X := [.d (D friends), .any, .any]) (A := [.d (D friends)]) rfl ?_ hts
  unfold checked_friends
  refine SS.at [.d (D friends), .no, .no] ?_
  refine ss_if (sb_cmp (so_e rfl (se_fn (sa_cons (so_v rfl rfl (sa_nil (n_len (xs := friends) rfl (so_e rfl (se_c rfl (a_gtI rfl rfl (⟨_, rfl, ⟨_, _, rfl, ?_, ?_⟩⟩)))))))))))
  · refine SS.at [.d (D friends), .no, .no] ?_
    exact ss_rse (se_c (by decide +kernel) (⟨rfl, by rfl'⟩))
  · refine SS.at [.d (D friends), .no, .no] ?_
    refine ss_asg (se_lst (sl_nil (⟨(show 0 ≤ LINE by decide), ?_⟩)))
    refine SS.at [.d (D friends), .l (List.map D ([] : (List Str))), .no] ?_
    refine ss_fold (α := Str) (σ := (List Str)) (sc_seq (se_v rfl rfl (⟨_, rfl, ⟨friends, ([] : (List Str)), (fun s_72 : (List Str) => ([.d (D friends), .l (List.map D s_72), .no] : List Sl)), _, _, rfl, rfl, by rfl', fun s_72 name_73 => ⟨_, rfl, ?_⟩, fun s_72 => ?_⟩⟩)))
    · refine SS.at [.d (D friends), .l (List.map D s_72), .f (D name_73)] ?_
      refine ss_ex (se_call rfl (sa_cons (so_v rfl rfl (sa_nil (⟨_, _, _, _, [.d (D friends), .l (List.map D s_72), .f (D name_73)], fun r_74 : Str => ([.d (D friends), .l (List.map D s_72), .f (D name_73)] : List Sl), rfl, fun ts h => h_checked_name name_73 ts (HasL.wk (by rfl') h), by rfl', rfl, by rfl', fun r_74 => ⟨by rfl', rfl, ?_⟩⟩)))))
      refine SS.at [.d (D friends), .l (List.map D s_72), .f (D name_73)] ?_
      refine ss_if (sb_cmp (so_v rfl rfl (so_v rfl rfl (a_in (α := Str) (x := name_73) (ys := s_72) rfl rfl (⟨_, rfl, ⟨_, _, rfl, ?_, ?_⟩⟩)))))
      · refine SS.at [.d (D friends), .l (List.map D s_72), .f (D name_73)] ?_
        exact ss_rse (se_v rfl rfl (⟨rfl, by rfl'⟩))
      · refine SS.at [.d (D friends), .l (List.map D s_72), .f (D name_73)] ?_
        refine ss_ex (se_app (xs := s_72) rfl (so_v rfl rfl (⟨s_72, name_73, _, rfl, rfl, rfl, rfl, fun found_75 => ?_⟩)))
        exact ss_end (by rfl')
    · refine SS.at [.d (D friends), .l (List.map D s_72), .no] ?_
      exact ss_ret (se_fn (sa_cons (so_v rfl rfl (sa_nil (n_sorted (xs := s_72) rfl (⟨_, rfl, by rfl', by rfl'⟩))))))
/- plan (List Str) -> (List (Str × Str)) -/
def plan (friends : (List Str)) : Rs (List (Str × Str)) :=
 (checked_friends friends).bd fun r_76 =>
 if (decide ((r_76.length : Int) < (2 : Int))) = true then
 (.ok ([] : (List (Str × Str))))
 else
 (if (decide ((r_76.length : Int) = (2 : Int))) = true then
 ((ixL r_76 (0 : Int)).bd fun t_77 =>
 (ixL r_76 (1 : Int)).bd fun t_78 =>
 .ok ([(t_77, t_78)] : List (Str × Str)))
 else
 (if (decide ((r_76.length : Int) = (3 : Int))) = true then
 ((ixL r_76 (0 : Int)).bd fun t_79 =>
 (ixL r_76 (1 : Int)).bd fun t_80 =>
 (ixL r_76 (0 : Int)).bd fun t_81 =>
 (ixL r_76 (2 : Int)).bd fun t_82 =>
 (ixL r_76 (0 : Int)).bd fun t_83 =>
 (ixL r_76 (1 : Int)).bd fun t_84 =>
 .ok ([(t_79, t_80), (t_81, t_82), (t_83, t_84)] : List (Str × Str)))
 else
 ((compM (β := (Str × Str)) (cut r_76 (some (4 : Int)) none) (fun name_85 => .ok true) (fun name_85 => (ixL r_76 (0 : Int)).bd fun t_86 =>
 .ok (t_86, name_85))).bd fun c_87 =>
 (ixL r_76 (0 : Int)).bd fun t_88 =>
 (ixL r_76 (1 : Int)).bd fun t_89 =>
 (ixL r_76 (2 : Int)).bd fun t_90 =>
 (ixL r_76 (3 : Int)).bd fun t_91 =>
 (ixL r_76 (0 : Int)).bd fun t_92 =>
 (ixL r_76 (2 : Int)).bd fun t_93 =>
 (ixL r_76 (1 : Int)).bd fun t_94 =>
 (ixL r_76 (3 : Int)).bd fun t_95 =>
 (cat c_87 ([(t_88, t_89), (t_90, t_91), (t_92, t_93), (t_94, t_95)] : List (Str × Str))).bd fun t_96 =>
 (cat t_96 c_87).bd fun t_97 =>
 .ok t_97)))
def plan_c (i : Nat) (C : Orc) : Prop := ∀ (friends : (List Str)) (ts : List T), HasL [.d (D friends)] ts → CSat (plan friends) (fun r : (List (Str × Str)) => (.l (List.map D r), [.d (D friends)])) [.d (D friends)] (C i ts)
theorem plan_ok {C : Orc} (h_checked_friends : checked_friends_c 2 C) : plan_c 0 (fun _ ts => f_plan.run C ts) := by
  intro friends ts hts
  refine fn_of (Df := f_plan) (F := fun r : (List (Str × Str)) => (.l (List.map D r), [.d (D friends), .any, .any, .any, .any])) (X := [.d (D friends), .any, .any, .any, .any]) (A := [.d (D friends)]) rfl ?_ hts
  unfold plan
  refine SS.at [.d (D friends), .no, .no, .no, .no] ?_
  refine ss_asgd (se_call rfl (sa_cons (so_v rfl rfl (sa_nil (⟨_, _, _, _, [.d (D friends), .no, .no, .no, .no], fun r_76 : (List Str) => ([.d (D friends), .no, .no, .no, .no] : List Sl), rfl, fun ts h => h_checked_friends friends ts (HasL.wk (by rfl') h), by rfl', rfl, by rfl', fun r_76 => ⟨by rfl', rfl, ⟨_, rfl, ?_⟩⟩⟩)))))
  refine SS.at [.d (D friends), .d (D r_76), .no, .no, .no] ?_
  refine ss_if (sb_cmp (so_e rfl (se_fn (sa_cons (so_v rfl rfl (sa_nil (n_len (xs := r_76) rfl (so_e rfl (se_c rfl (a_ltI rfl rfl (⟨_, rfl, ⟨_, _, rfl, ?_, ?_⟩⟩)))))))))))
  · refine SS.at [.d (D friends), .d (D r_76), .no, .no, .no] ?_
    exact ss_ret (se_lst (sl_nil (⟨(show 0 ≤ LINE by decide), ⟨_, rfl, by rfl', by rfl'⟩⟩)))
  · refine SS.at [.d (D friends), .d (D r_76), .no, .no, .no] ?_
    refine ss_if (sb_cmp (so_e rfl (se_fn (sa_cons (so_v rfl rfl (sa_nil (n_len (xs := r_76) rfl (so_e rfl (se_c rfl (a_eq (α := Int) (x := (r_76.length : Int)) (y := (2 : Int)) rfl rfl (⟨_, rfl, ⟨_, _, rfl, ?_, ?_⟩⟩)))))))))))
    · refine SS.at [.d (D friends), .d (D r_76), .no, .no, .no] ?_
      exact ss_ret (se_lst (sl_cons (se_tup (sl_cons (se_ix (so_v rfl rfl (so_e rfl (se_c rfl (a_ixL (xs := r_76) rfl rfl fun t_77 => ⟨_, rfl, sl_cons (se_ix (so_v rfl rfl (so_e rfl (se_c rfl (a_ixL (xs := r_76) rfl rfl fun t_78 => ⟨_, rfl, sl_nil (⟨(show 2 ≤ LINE by decide), ⟨_, rfl, sl_nil (⟨(show 1 ≤ LINE by decide), ⟨_, rfl, by rfl', by rfl'⟩⟩)⟩⟩)⟩)))))⟩)))))))))
    · refine SS.at [.d (D friends), .d (D r_76), .no, .no, .no] ?_
      refine ss_if (sb_cmp (so_e rfl (se_fn (sa_cons (so_v rfl rfl (sa_nil (n_len (xs := r_76) rfl (so_e rfl (se_c rfl (a_eq (α := Int) (x := (r_76.length : Int)) (y := (3 : Int)) rfl rfl (⟨_, rfl, ⟨_, _, rfl, ?_, ?_⟩⟩)))))))))))
      · refine SS.at [.d (D friends), .d (D r_76), .no, .no, .no] ?_
        exact ss_ret (se_lst (sl_cons (se_tup (sl_cons (se_ix (so_v rfl rfl (so_e rfl (se_c rfl (a_ixL (xs := r_76) rfl rfl fun t_79 => ⟨_, rfl, sl_cons (se_ix (so_v rfl rfl (so_e rfl (se_c rfl (a_ixL (xs := r_76) rfl rfl fun t_80 => ⟨_, rfl, sl_nil (⟨(show 2 ≤ LINE by decide), ⟨_, rfl, sl_cons (se_tup (sl_cons (se_ix (so_v rfl rfl (so_e rfl (se_c rfl (a_ixL (xs := r_76) rfl rfl fun t_81 => ⟨_, rfl, sl_cons (se_ix (so_v rfl rfl (so_e rfl (se_c rfl (a_ixL (xs := r_76) rfl rfl fun t_82 => ⟨_, rfl, sl_nil (⟨(show 2 ≤ LINE by decide), ⟨_, rfl, sl_cons (se_tup (sl_cons (se_ix (so_v rfl rfl (so_e rfl (se_c rfl (a_ixL (xs := r_76) rfl rfl fun t_83 => ⟨_, rfl, sl_cons (se_ix (so_v rfl rfl (so_e rfl (se_c rfl (a_ixL (xs := r_76) rfl rfl fun t_84 => ⟨_, rfl, sl_nil (⟨(show 2 ≤ LINE by decide), ⟨_, rfl, sl_nil (⟨(show 3 ≤ LINE by decide), ⟨_, rfl, by rfl', by rfl'⟩⟩)⟩⟩)⟩)))))⟩)))))))⟩⟩)⟩)))))⟩)))))))⟩⟩)⟩)))))⟩)))))))))
      · refine SS.at [.d (D friends), .d (D r_76), .no, .no, .no] ?_
        refine ss_asgd (se_comp (α := Str) (β := (Str × Str)) rfl (sc_seq (se_sl (so_v rfl rfl (sp_cons (se_c rfl (⟨_, rfl, sp_nil (⟨rfl, _, sl_l (xs := r_76) rfl, ⟨_, rfl, ⟨(cut r_76 (some (4 : Int)) none), [.d (D friends), .d (D r_76), .no, .no, .no], (fun name_85 : Str => ([.d (D friends), .d (D r_76), .no, .no, .f (D name_85)] : List Sl)), _, _, _, rfl, rfl, by rfl', rfl, fun _ => rfl, fun name_85 => sn_nil ⟨rfl, by rfl', by rfl'⟩, fun name_85 => se_tup (sl_cons (se_ix (so_v rfl rfl (so_e rfl (se_c rfl (a_ixL (xs := r_76) rfl rfl fun t_86 => ⟨_, rfl, sl_cons (se_v rfl rfl (⟨_, rfl, sl_nil (⟨(show 2 ≤ LINE by decide), ⟨(t_86, name_85), rfl, rfl, by rfl'⟩⟩)⟩))⟩)))))), fun c_87 => ⟨_, rfl, ?_⟩⟩⟩⟩)⟩)))))))
        refine SS.at [.d (D friends), .d (D r_76), .d (D c_87), .no, .no] ?_
        refine ss_asgd (se_lst (sl_cons (se_tup (sl_cons (se_ix (so_v rfl rfl (so_e rfl (se_c rfl (a_ixL (xs := r_76) rfl rfl fun t_88 => ⟨_, rfl, sl_cons (se_ix (so_v rfl rfl (so_e rfl (se_c rfl (a_ixL (xs := r_76) rfl rfl fun t_89 => ⟨_, rfl, sl_nil (⟨(show 2 ≤ LINE by decide), ⟨_, rfl, sl_cons (se_tup (sl_cons (se_ix (so_v rfl rfl (so_e rfl (se_c rfl (a_ixL (xs := r_76) rfl rfl fun t_90 => ⟨_, rfl, sl_cons (se_ix (so_v rfl rfl (so_e rfl (se_c rfl (a_ixL (xs := r_76) rfl rfl fun t_91 => ⟨_, rfl, sl_nil (⟨(show 2 ≤ LINE by decide), ⟨_, rfl, sl_cons (se_tup (sl_cons (se_ix (so_v rfl rfl (so_e rfl (se_c rfl (a_ixL (xs := r_76) rfl rfl fun t_92 => ⟨_, rfl, sl_cons (se_ix (so_v rfl rfl (so_e rfl (se_c rfl (a_ixL (xs := r_76) rfl rfl fun t_93 => ⟨_, rfl, sl_nil (⟨(show 2 ≤ LINE by decide), ⟨_, rfl, sl_cons (se_tup (sl_cons (se_ix (so_v rfl rfl (so_e rfl (se_c rfl (a_ixL (xs := r_76) rfl rfl fun t_94 => ⟨_, rfl, sl_cons (se_ix (so_v rfl rfl (so_e rfl (se_c rfl (a_ixL (xs := r_76) rfl rfl fun t_95 => ⟨_, rfl, sl_nil (⟨(show 2 ≤ LINE by decide), ⟨_, rfl, sl_nil (⟨(show 4 ≤ LINE by decide), ⟨_, rfl, ?_⟩⟩)⟩⟩)⟩)))))⟩)))))))⟩⟩)⟩)))))⟩)))))))⟩⟩)⟩)))))⟩)))))))⟩⟩)⟩)))))⟩)))))))))
        refine SS.at [.d (D friends), .d (D r_76), .d (D c_87), .d (D ([(t_88, t_89), (t_90, t_91), (t_92, t_93), (t_94, t_95)] : List (Str × Str))), .no] ?_
        exact ss_ret (se_bin (so_e rfl (se_bin (so_v rfl rfl (so_v rfl rfl (a_cat (xs := c_87) (ys := ([(t_88, t_89), (t_90, t_91), (t_92, t_93), (t_94, t_95)] : List (Str × Str))) rfl rfl fun t_96 => so_v rfl rfl (a_cat (xs := t_96) (ys := c_87) rfl rfl fun t_97 => ⟨_, rfl, by rfl', by rfl'⟩)))))))
/- fewest (List Str) -> Int -/
def fewest (friends : (List Str)) : Rs Int :=
 (checked_friends friends).bd fun r_98 =>
 if (decide ((r_98.length : Int) < (4 : Int))) = true then
 ((ixL ([(0 : Int), (0 : Int), (1 : Int), (3 : Int)] : List Int) (r_98.length : Int)).bd fun t_99 =>
 .ok t_99)
 else
 ((mulI (2 : Int) (r_98.length : Int)).bd fun t_100 =>
 .ok (t_100 - (4 : Int)))
def fewest_c (i : Nat) (C : Orc) : Prop := ∀ (friends : (List Str)) (ts : List T), HasL [.d (D friends)] ts → CSat (fewest friends) (fun r : Int => (.d (D r), [.d (D friends)])) [.d (D friends)] (C i ts)
theorem fewest_ok {C : Orc} (h_checked_friends : checked_friends_c 2 C) : fewest_c 0 (fun _ ts => f_fewest.run C ts) := by
  intro friends ts hts
  refine fn_of (Df := f_fewest) (F := fun r : Int => (.d (D r), [.d (D friends), .any])) (X := [.d (D friends), .any]) (A := [.d (D friends)]) rfl ?_ hts
  unfold fewest
  refine SS.at [.d (D friends), .no] ?_
  refine ss_asg (se_fn (sa_cons (so_e rfl (se_call rfl (sa_cons (so_v rfl rfl (sa_nil (⟨_, _, _, _, [.d (D friends), .no], fun r_98 : (List Str) => ([.d (D friends), .no] : List Sl), rfl, fun ts h => h_checked_friends friends ts (HasL.wk (by rfl') h), by rfl', rfl, by rfl', fun r_98 => ⟨by rfl', rfl, sa_nil (n_len (xs := r_98) rfl (?_))⟩⟩))))))))
  refine SS.at [.d (D friends), .f (D (r_98.length : Int))] ?_
  refine ss_if (sb_cmp (so_v rfl rfl (so_e rfl (se_c rfl (a_ltI rfl rfl (⟨_, rfl, ⟨_, _, rfl, ?_, ?_⟩⟩))))))
  · refine SS.at [.d (D friends), .f (D (r_98.length : Int))] ?_
    exact ss_ret (se_ix (so_e rfl (se_lst (sl_cons (se_c rfl (⟨_, rfl, sl_cons (se_c rfl (⟨_, rfl, sl_cons (se_c rfl (⟨_, rfl, sl_cons (se_c rfl (⟨_, rfl, sl_nil (⟨(show 4 ≤ LINE by decide), so_v rfl rfl (a_ixL (xs := ([(0 : Int), (0 : Int), (1 : Int), (3 : Int)] : List Int)) rfl rfl fun t_99 => ⟨_, rfl, by rfl', by rfl'⟩)⟩)⟩))⟩))⟩))⟩))))))
  · refine SS.at [.d (D friends), .f (D (r_98.length : Int))] ?_
    exact ss_ret (se_bin (so_e rfl (se_bin (so_e rfl (se_c rfl (so_v rfl rfl (a_mulI rfl rfl fun t_100 => so_e rfl (se_c rfl (a_subI rfl rfl (⟨_, rfl, by rfl', by rfl'⟩))))))))))
/- checked_calls (List Str) (List (Str × Str)) -> (List (Str × Str)) -/
def checked_calls (friends : (List Str)) (calls : (List (Str × Str))) : Rs (List (Str × Str)) :=
 (checked_friends friends).bd fun r_101 =>
 (foldM (fun (s_102 : Unit) call_103 =>
 (if ((!true) || ((!decide ((2 : Int) = (2 : Int))) || (decide (call_103.1 = call_103.2)))) = true then
 (.exc 4)
 else
 (if ((!mem call_103.1 r_101) || (!mem call_103.2 r_101)) = true then
 (.exc 4)
 else
 (.ok ())))) calls ()).bd fun s_102 =>
 .ok calls
def checked_calls_c (i : Nat) (C : Orc) : Prop := ∀ (friends : (List Str)) (calls : (List (Str × Str))) (ts : List T), HasL [.d (D friends), .d (D calls)] ts → CSat (checked_calls friends calls) (fun r : (List (Str × Str)) => (.l (List.map D r), [.d (D friends), .d (D calls)])) [.d (D friends), .d (D calls)] (C i ts)
theorem checked_calls_ok {C : Orc} (h_checked_friends : checked_friends_c 2 C) : checked_calls_c 0 (fun _ ts => f_checked_calls.run C ts) := by
  intro friends calls ts hts
  refine fn_of (Df := f_checked_calls) (F := fun r : (List (Str × Str)) => (.l (List.map D r), [.d (D friends), .d (D calls), .any, .any])) (X := [.d (D friends), .d (D calls), .any, .any]) (A := [.d (D friends), .d (D calls)]) rfl ?_ hts
  unfold checked_calls
  refine SS.at [.d (D friends), .d (D calls), .no, .no] ?_
  refine ss_asgd (se_call rfl (sa_cons (so_v rfl rfl (sa_nil (⟨_, _, _, _, [.d (D friends), .d (D calls), .no, .no], fun r_101 : (List Str) => ([.d (D friends), .d (D calls), .no, .no] : List Sl), rfl, fun ts h => h_checked_friends friends ts (HasL.wk (by rfl') h), by rfl', rfl, by rfl', fun r_101 => ⟨by rfl', rfl, ⟨_, rfl, ?_⟩⟩⟩)))))
  refine SS.at [.d (D friends), .d (D calls), .d (D r_101), .no] ?_
  refine ss_fold (α := (Str × Str)) (σ := Unit) (sc_seq (se_v rfl rfl (⟨_, rfl, ⟨calls, (), (fun s_102 : Unit => ([.d (D friends), .d (D calls), .d (D r_101), .no] : List Sl)), _, _, rfl, rfl, by rfl', fun s_102 call_103 => ⟨_, rfl, ?_⟩, fun s_102 => ?_⟩⟩)))
  · refine SS.at [.d (D friends), .d (D calls), .d (D r_101), .f (D call_103)] ?_
    refine ss_if (sb_orp (sb_not (sb_of rfl (se_isi (by decide) (so_v rfl rfl (⟨true, rfl, i_dat rfl rfl, ⟨_, tr_d rfl rfl, ⟨((!decide ((2 : Int) = (2 : Int))) || (decide (call_103.1 = call_103.2))), sb_orp (sb_cmp (so_e rfl (se_fn (sa_cons (so_v rfl rfl (sa_nil (n_lenT (n := 2) rfl rfl (so_e rfl (se_c rfl (a_ne (α := Int) (x := (2 : Int)) (y := (2 : Int)) rfl rfl (⟨_, rfl, ⟨(decide (call_103.1 = call_103.2)), sb_cmp (so_e rfl (se_ix (so_v rfl rfl (so_e rfl (se_c rfl (a_ixT rfl rfl rfl (so_e rfl (se_ix (so_v rfl rfl (so_e rfl (se_c rfl (a_ixT rfl rfl rfl (a_eq (α := Str) (x := call_103.1) (y := call_103.2) rfl rfl (⟨_, rfl, ⟨rfl, Wk.r⟩⟩)))))))))))))), ⟨rfl, Wk.r⟩⟩⟩))))))))))), ⟨_, _, rfl, ?_, ?_⟩⟩⟩⟩))))))
    · refine SS.at [.d (D friends), .d (D calls), .d (D r_101), .f (D call_103)] ?_
      exact ss_rse (se_c (by decide +kernel) (⟨rfl, by rfl'⟩))
    · refine SS.at [.d (D friends), .d (D calls), .d (D r_101), .f (D call_103)] ?_
      refine ss_if (sb_orp (sb_cmp (so_e rfl (se_ix (so_v rfl rfl (so_e rfl (se_c rfl (a_ixT rfl rfl rfl (so_v rfl rfl (a_nin (α := Str) (x := call_103.1) (ys := r_101) rfl rfl (⟨_, rfl, ⟨(!mem call_103.2 r_101), sb_cmp (so_e rfl (se_ix (so_v rfl rfl (so_e rfl (se_c rfl (a_ixT rfl rfl rfl (so_v rfl rfl (a_nin (α := Str) (x := call_103.2) (ys := r_101) rfl rfl (⟨_, rfl, ⟨rfl, Wk.r⟩⟩))))))))), ⟨_, _, rfl, ?_, ?_⟩⟩⟩)))))))))))
      · refine SS.at [.d (D friends), .d (D calls), .d (D r_101), .f (D call_103)] ?_
        exact ss_rse (se_c (by decide +kernel) (⟨rfl, by rfl'⟩))
      · exact ss_end (by rfl')
  · refine SS.at [.d (D friends), .d (D calls), .d (D r_101), .no] ?_
    exact ss_ret (se_fn (sa_cons (so_v rfl rfl (sa_nil (n_list rfl (⟨_, rfl, by rfl', by rfl'⟩))))))
/- known (List Str) (List (Str × Str)) -> (List (Str × (List Str))) -/
def known (friends : (List Str)) (calls : (List (Str × Str))) : Rs (List (Str × (List Str))) :=
 (checked_friends friends).bd fun r_104 =>
 (dcompM (κ := Str) (ν := (List Str)) r_104 (fun name_105 => .ok (name_105, ([name_105] : List Str)))).bd fun d_106 =>
 (checked_calls r_104 calls).bd fun r_107 =>
 (foldM (fun (s_108 : (List (Str × (List Str)))) p_109 =>
 ((dget s_108 p_109.1).bd fun t_110 =>
 (dget s_108 p_109.2).bd fun t_111 =>
 (compM (β := Str) t_111 (fun name_112 => (dget s_108 p_109.1).bd fun t_113 =>
 .ok (!mem name_112 t_113)) (fun name_112 => .ok name_112)).bd fun c_114 =>
 (cat t_110 c_114).bd fun t_115 =>
 (dset s_108 p_109.1 (isort leT t_115)).bd fun told_116 =>
 (dset told_116 p_109.2 (isort leT t_115)).bd fun told_117 =>
 .ok told_117)) r_107 d_106).bd fun s_108 =>
 (compM (β := (Str × (List Str))) r_104 (fun name_118 => .ok true) (fun name_118 => (dget s_108 name_118).bd fun t_119 =>
 .ok (name_118, t_119))).bd fun c_120 =>
 .ok c_120
def known_c (i : Nat) (C : Orc) : Prop := ∀ (friends : (List Str)) (calls : (List (Str × Str))) (ts : List T), HasL [.d (D friends), .d (D calls)] ts → CSat (known friends calls) (fun r : (List (Str × (List Str))) => (.l (List.map D r), [.d (D friends), .d (D calls)])) [.d (D friends), .d (D calls)] (C i ts)
theorem known_ok {C : Orc} (h_checked_calls : checked_calls_c 3 C) (h_checked_friends : checked_friends_c 2 C) : known_c 0 (fun _ ts => f_known.run C ts) := by
  intro friends calls ts hts
  refine fn_of (Df := f_known) (F := fun r : (List (Str × (List Str))) => (.l (List.map D r), [.d (D friends), .d (D calls), .any, .any, .any, .any, .any, .any])) (X := [.d (D friends), .d (D calls), .any, .any, .any, .any, .any, .any]) (A := [.d (D friends), .d (D calls)]) rfl ?_ hts
  unfold known
  refine SS.at [.d (D friends), .d (D calls), .no, .no, .no, .no, .no, .no] ?_
  refine ss_asgd (se_call rfl (sa_cons (so_v rfl rfl (sa_nil (⟨_, _, _, _, [.d (D friends), .d (D calls), .no, .no, .no, .no, .no, .no], fun r_104 : (List Str) => ([.d (D friends), .d (D calls), .no, .no, .no, .no, .no, .no] : List Sl), rfl, fun ts h => h_checked_friends friends ts (HasL.wk (by rfl') h), by rfl', rfl, by rfl', fun r_104 => ⟨by rfl', rfl, ⟨_, rfl, ?_⟩⟩⟩)))))
  refine SS.at [.d (D friends), .d (D calls), .d (D r_104), .no, .no, .no, .no, .no] ?_
  refine ss_asg (se_dcomp (α := Str) (κ := Str) (ν := (List Str)) rfl (sc_seq (se_v rfl rfl (⟨_, rfl, ⟨r_104, [.d (D friends), .d (D calls), .d (D r_104), .no, .no, .no, .no, .no], (fun name_105 : Str => ([.d (D friends), .d (D calls), .d (D r_104), .no, .no, .no, .no, .f (D name_105)] : List Sl)), _, _, rfl, rfl, by rfl', rfl, fun _ => rfl, fun name_105 => se_v rfl rfl (⟨name_105, rfl, se_lst (sl_cons (se_v rfl rfl (⟨_, rfl, sl_nil (⟨(show 1 ≤ LINE by decide), ⟨([name_105] : List Str), rfl, rfl, by rfl'⟩⟩)⟩)))⟩), fun d_106 => ?_⟩⟩))))
  refine SS.at [.d (D friends), .d (D calls), .d (D r_104), .m (Ms d_106), .no, .no, .no, .no] ?_
  refine ss_fold (α := (Str × Str)) (σ := (List (Str × (List Str)))) (sc_seq (se_call rfl (sa_cons (so_v rfl rfl (sa_cons (so_v rfl rfl (sa_nil (⟨_, _, _, _, [.d (D friends), .d (D calls), .d (D r_104), .m (Ms d_106), .no, .no, .no, .no], fun r_107 : (List (Str × Str)) => ([.d (D friends), .d (D calls), .d (D r_104), .m (Ms d_106), .no, .no, .no, .no] : List Sl), rfl, fun ts h => h_checked_calls r_104 calls ts (HasL.wk (by rfl') h), by rfl', rfl, by rfl', fun r_107 => ⟨by rfl', rfl, ⟨_, rfl, ⟨r_107, d_106, (fun s_108 : (List (Str × (List Str))) => ([.d (D friends), .d (D calls), .d (D r_104), .m (Ms s_108), .no, .no, .any, .no] : List Sl)), _, _, rfl, rfl, by rfl', fun s_108 p_109 => ⟨_, rfl, ?_⟩, fun s_108 => ?_⟩⟩⟩⟩))))))))
  · refine SS.at [.d (D friends), .d (D calls), .d (D r_104), .m (Ms s_108), .f (D p_109.1), .f (D p_109.2), .any, .no] ?_
    refine ss_asgd (se_fn (sa_cons (so_e rfl (se_bin (so_e rfl (se_ix (so_v rfl rfl (so_v rfl rfl (a_ixD (kx := p_109.1) rfl fun t_110 => so_e rfl (se_comp (α := Str) (β := Str) rfl (sc_seq (se_ix (so_v rfl rfl (so_v rfl rfl (a_ixD (kx := p_109.2) rfl fun t_111 => ⟨_, rfl, ⟨t_111, [.d (D friends), .d (D calls), .d (D r_104), .m (Ms s_108), .f (D p_109.1), .f (D p_109.2), .any, .no], (fun name_112 : Str => ([.d (D friends), .d (D calls), .d (D r_104), .m (Ms s_108), .f (D p_109.1), .f (D p_109.2), .any, .f (D name_112)] : List Sl)), _, _, _, rfl, rfl, by rfl', rfl, fun _ => rfl, fun name_112 => sn_one (sb_cmp (so_v rfl rfl (so_e rfl (se_ix (so_v rfl rfl (so_v rfl rfl (a_ixD (kx := p_109.1) rfl fun t_113 => a_nin (α := Str) (x := name_112) (ys := t_113) rfl rfl (⟨_, rfl, ⟨rfl, by rfl', by rfl'⟩⟩)))))))), fun name_112 => se_v rfl rfl (⟨name_112, rfl, rfl, by rfl'⟩), fun c_114 => a_cat (xs := t_110) (ys := c_114) rfl rfl fun t_115 => sa_nil (n_sorted (xs := t_115) rfl (⟨_, rfl, ?_⟩))⟩⟩)))))))))))))))
    refine SS.at [.d (D friends), .d (D calls), .d (D r_104), .m (Ms s_108), .f (D p_109.1), .f (D p_109.2), .d (D (isort leT t_115)), .no] ?_
    refine ss_setD (κ := Str) (ν := (List Str)) (se_v rfl rfl (⟨(isort leT t_115), _, rfl, rfl, rfl, so_v rfl rfl (⟨s_108, p_109.1, _, rfl, rfl, rfl, fun told_116 => ?_⟩)⟩))
    refine SS.at [.d (D friends), .d (D calls), .d (D r_104), .m (Ms told_116), .f (D p_109.1), .f (D p_109.2), .d (D (isort leT t_115)), .no] ?_
    refine ss_setD (κ := Str) (ν := (List Str)) (se_fn (sa_cons (so_v rfl rfl (sa_nil (n_list rfl (⟨(isort leT t_115), _, rfl, rfl, rfl, so_v rfl rfl (⟨told_116, p_109.2, _, rfl, rfl, rfl, fun told_117 => ?_⟩)⟩))))))
    exact ss_end (by rfl')
  · refine SS.at [.d (D friends), .d (D calls), .d (D r_104), .m (Ms s_108), .no, .no, .any, .no] ?_
    exact ss_ret (se_comp (α := Str) (β := (Str × (List Str))) rfl (sc_seq (se_v rfl rfl (⟨_, rfl, ⟨r_104, [.d (D friends), .d (D calls), .d (D r_104), .m (Ms s_108), .no, .no, .any, .no], (fun name_118 : Str => ([.d (D friends), .d (D calls), .d (D r_104), .m (Ms s_108), .no, .no, .any, .f (D name_118)] : List Sl)), _, _, _, rfl, rfl, by rfl', rfl, fun _ => rfl, fun name_118 => sn_nil ⟨rfl, by rfl', by rfl'⟩, fun name_118 => se_tup (sl_cons (se_v rfl rfl (⟨_, rfl, sl_cons (se_ix (so_v rfl rfl (so_v rfl rfl (a_ixD (kx := name_118) rfl fun t_119 => ⟨_, rfl, sl_nil (⟨(show 2 ≤ LINE by decide), ⟨(name_118, t_119), rfl, rfl, by rfl'⟩⟩)⟩))))⟩))), fun c_120 => ⟨_, rfl, by rfl', by rfl'⟩⟩⟩))))
/- all_know (List Str) (List (Str × Str)) -> Bool -/
def all_know (friends : (List Str)) (calls : (List (Str × Str))) : Rs Bool :=
 (checked_friends friends).bd fun r_121 =>
 (known r_121 calls).bd fun r_122 =>
 (compM (β := Str) r_122 (fun p_123 => .ok (!decide (p_123.2 = r_121))) (fun p_123 => .ok p_123.1)).bd fun c_124 =>
 .ok (!(!c_124.isEmpty))
def all_know_c (i : Nat) (C : Orc) : Prop := ∀ (friends : (List Str)) (calls : (List (Str × Str))) (ts : List T), HasL [.d (D friends), .d (D calls)] ts → CSat (all_know friends calls) (fun r : Bool => (.d (D r), [.d (D friends), .d (D calls)])) [.d (D friends), .d (D calls)] (C i ts)
theorem all_know_ok {C : Orc} (h_checked_friends : checked_friends_c 2 C) (h_known : known_c 4 C) : all_know_c 0 (fun _ ts => f_all_know.run C ts) := by
  intro friends calls ts hts
  refine fn_of (Df := f_all_know) (F := fun r : Bool => (.d (D r), [.d (D friends), .d (D calls), .any, .any, .any])) (X := [.d (D friends), .d (D calls), .any, .any, .any]) (A := [.d (D friends), .d (D calls)]) rfl ?_ hts
  unfold all_know
  refine SS.at [.d (D friends), .d (D calls), .no, .no, .no] ?_
  refine ss_asgd (se_call rfl (sa_cons (so_v rfl rfl (sa_nil (⟨_, _, _, _, [.d (D friends), .d (D calls), .no, .no, .no], fun r_121 : (List Str) => ([.d (D friends), .d (D calls), .no, .no, .no] : List Sl), rfl, fun ts h => h_checked_friends friends ts (HasL.wk (by rfl') h), by rfl', rfl, by rfl', fun r_121 => ⟨by rfl', rfl, ⟨_, rfl, ?_⟩⟩⟩)))))
  refine SS.at [.d (D friends), .d (D calls), .d (D r_121), .no, .no] ?_
  exact ss_ret (se_not (so_e rfl (se_comp (α := (Str × (List Str))) (β := Str) rfl (sc_seq (se_call rfl (sa_cons (so_v rfl rfl (sa_cons (so_v rfl rfl (sa_nil (⟨_, _, _, _, [.d (D friends), .d (D calls), .d (D r_121), .no, .no], fun r_122 : (List (Str × (List Str))) => ([.d (D friends), .d (D calls), .d (D r_121), .no, .no] : List Sl), rfl, fun ts h => h_known r_121 calls ts (HasL.wk (by rfl') h), by rfl', rfl, by rfl', fun r_122 => ⟨by rfl', rfl, ⟨_, rfl, ⟨r_122, [.d (D friends), .d (D calls), .d (D r_121), .no, .no], (fun p_123 : (Str × (List Str)) => ([.d (D friends), .d (D calls), .d (D r_121), .f (D p_123.1), .f (D p_123.2)] : List Sl)), _, _, _, rfl, rfl, by rfl', rfl, fun _ => rfl, fun p_123 => sn_one (sb_cmp (so_v rfl rfl (so_v rfl rfl (a_ne (α := (List Str)) (x := p_123.2) (y := r_121) rfl rfl (⟨_, rfl, ⟨rfl, by rfl', by rfl'⟩⟩))))), fun p_123 => se_v rfl rfl (⟨p_123.1, rfl, rfl, by rfl'⟩), fun c_124 => ⟨_, rfl, tr_L (xs := c_124) rfl, ⟨_, rfl, by rfl', by rfl'⟩⟩⟩⟩⟩⟩)))))))))))
/- judge (List Str) (List (Str × Str)) -> Bool -/
def judge (friends : (List Str)) (calls : (List (Str × Str))) : Rs Bool :=
 (all_know friends calls).bd fun r_125 =>
 ((if r_125 = true then ((fewest friends).bd fun r_126 =>
 .ok (decide ((calls.length : Int) = r_126)) : Rs Bool) else .ok false)).bd fun b_127 =>
 .ok b_127
def judge_c (i : Nat) (C : Orc) : Prop := ∀ (friends : (List Str)) (calls : (List (Str × Str))) (ts : List T), HasL [.d (D friends), .d (D calls)] ts → CSat (judge friends calls) (fun r : Bool => (.d (D r), [.d (D friends), .d (D calls)])) [.d (D friends), .d (D calls)] (C i ts)
theorem judge_ok {C : Orc} (h_all_know : all_know_c 5 C) (h_fewest : fewest_c 6 C) : judge_c 0 (fun _ ts => f_judge.run C ts) := by
  intro friends calls ts hts
  refine fn_of (Df := f_judge) (F := fun r : Bool => (.d (D r), [.d (D friends), .d (D calls)])) (X := [.d (D friends), .d (D calls)]) (A := [.d (D friends), .d (D calls)]) rfl ?_ hts
  unfold judge
  refine SS.at [.d (D friends), .d (D calls)] ?_
  exact ss_ret (se_andm (se_call rfl (sa_cons (so_v rfl rfl (sa_cons (so_v rfl rfl (sa_nil (⟨_, _, _, _, [.d (D friends), .d (D calls)], fun r_125 : Bool => ([.d (D friends), .d (D calls)] : List Sl), rfl, fun ts h => h_all_know friends calls ts (HasL.wk (by rfl') h), by rfl', rfl, by rfl', fun r_125 => ⟨by rfl', rfl, ⟨_, _, _, _, rfl, rfl, se_cmp (so_e rfl (se_fn (sa_cons (so_v rfl rfl (sa_nil (n_len (xs := calls) rfl (so_e rfl (se_call rfl (sa_cons (so_v rfl rfl (sa_nil (⟨_, _, _, _, [.d (D friends), .d (D calls)], fun r_126 : Int => ([.d (D friends), .d (D calls)] : List Sl), rfl, fun ts h => h_fewest friends ts (HasL.wk (by rfl') h), by rfl', rfl, by rfl', fun r_126 => ⟨by rfl', rfl, a_eq (α := Int) (x := (calls.length : Int)) (y := r_126) rfl rfl (⟨_, rfl, Wk1.r, Wk.r⟩)⟩⟩)))))))))))), Wk.r, fun b_127 => ⟨_, rfl, by rfl', by rfl'⟩⟩⟩⟩))))))))
/- law_known (List Str) (List (Str × Str)) -> (List (Str × (List Str))) -/
def law_known (names : (List Str)) (calls : (List (Str × Str))) : Rs (List (Str × (List Str))) :=
 (foldM (fun (s_128 : (List (Str × (List Str)))) name_129 =>
 ((dset s_128 name_129 ([name_129] : List Str)).bd fun told_130 =>
 .ok told_130)) names ([] : (List (Str × (List Str))))).bd fun s_128 =>
 (foldM (fun (s_131 : (List (Str × (List Str)))) p_132 =>
 ((dget s_131 p_132.1).bd fun t_133 =>
 (dget s_131 p_132.2).bd fun t_134 =>
 (compM (β := Str) t_134 (fun name_135 => (dget s_131 p_132.1).bd fun t_136 =>
 .ok (!mem name_135 t_136)) (fun name_135 => .ok name_135)).bd fun c_137 =>
 (cat t_133 c_137).bd fun t_138 =>
 (dset s_131 p_132.1 (isort leT t_138)).bd fun told_139 =>
 (dset told_139 p_132.2 (isort leT t_138)).bd fun told_140 =>
 .ok told_140)) calls s_128).bd fun s_131 =>
 .ok s_131
def law_known_c (i : Nat) (C : Orc) : Prop := ∀ (names : (List Str)) (calls : (List (Str × Str))) (ts : List T), HasL [.d (D names), .d (D calls)] ts → CSat (law_known names calls) (fun r : (List (Str × (List Str))) => (.m (Ms r), [.d (D names), .d (D calls)])) [.d (D names), .d (D calls)] (C i ts)
theorem law_known_ok {C : Orc}  : law_known_c 0 (fun _ ts => f_law_known.run C ts) := by
  intro names calls ts hts
  refine fn_of (Df := f_law_known) (F := fun r : (List (Str × (List Str))) => (.m (Ms r), [.d (D names), .d (D calls), .any, .any, .any, .any, .any])) (X := [.d (D names), .d (D calls), .any, .any, .any, .any, .any]) (A := [.d (D names), .d (D calls)]) rfl ?_ hts
  unfold law_known
  refine SS.at [.d (D names), .d (D calls), .no, .no, .no, .no, .no] ?_
  refine ss_asg (se_dnew (?_))
  refine SS.at [.d (D names), .d (D calls), .m (Ms ([] : (List (Str × (List Str))))), .no, .no, .no, .no] ?_
  refine ss_fold (α := Str) (σ := (List (Str × (List Str)))) (sc_seq (se_v rfl rfl (⟨_, rfl, ⟨names, ([] : (List (Str × (List Str)))), (fun s_128 : (List (Str × (List Str))) => ([.d (D names), .d (D calls), .m (Ms s_128), .no, .no, .no, .no] : List Sl)), _, _, rfl, rfl, by rfl', fun s_128 name_129 => ⟨_, rfl, ?_⟩, fun s_128 => ?_⟩⟩)))
  · refine SS.at [.d (D names), .d (D calls), .m (Ms s_128), .f (D name_129), .no, .no, .no] ?_
    refine ss_setD (κ := Str) (ν := (List Str)) (se_lst (sl_cons (se_v rfl rfl (⟨_, rfl, sl_nil (⟨(show 1 ≤ LINE by decide), ⟨([name_129] : List Str), _, rfl, rfl, rfl, so_v rfl rfl (⟨s_128, name_129, _, rfl, rfl, rfl, fun told_130 => ?_⟩)⟩⟩)⟩))))
    exact ss_end (by rfl')
  · refine SS.at [.d (D names), .d (D calls), .m (Ms s_128), .no, .no, .no, .no] ?_
    refine ss_fold (α := (Str × Str)) (σ := (List (Str × (List Str)))) (sc_seq (se_v rfl rfl (⟨_, rfl, ⟨calls, s_128, (fun s_131 : (List (Str × (List Str))) => ([.d (D names), .d (D calls), .m (Ms s_131), .no, .no, .no, .any] : List Sl)), _, _, rfl, rfl, by rfl', fun s_131 p_132 => ⟨_, rfl, ?_⟩, fun s_131 => ?_⟩⟩)))
    · refine SS.at [.d (D names), .d (D calls), .m (Ms s_131), .no, .f (D p_132.1), .f (D p_132.2), .any] ?_
      refine ss_asgd (se_fn (sa_cons (so_e rfl (se_bin (so_e rfl (se_ix (so_v rfl rfl (so_v rfl rfl (a_ixD (kx := p_132.1) rfl fun t_133 => so_e rfl (se_comp (α := Str) (β := Str) rfl (sc_seq (se_ix (so_v rfl rfl (so_v rfl rfl (a_ixD (kx := p_132.2) rfl fun t_134 => ⟨_, rfl, ⟨t_134, [.d (D names), .d (D calls), .m (Ms s_131), .no, .f (D p_132.1), .f (D p_132.2), .any], (fun name_135 : Str => ([.d (D names), .d (D calls), .m (Ms s_131), .f (D name_135), .f (D p_132.1), .f (D p_132.2), .any] : List Sl)), _, _, _, rfl, rfl, by rfl', rfl, fun _ => rfl, fun name_135 => sn_one (sb_cmp (so_v rfl rfl (so_e rfl (se_ix (so_v rfl rfl (so_v rfl rfl (a_ixD (kx := p_132.1) rfl fun t_136 => a_nin (α := Str) (x := name_135) (ys := t_136) rfl rfl (⟨_, rfl, ⟨rfl, by rfl', by rfl'⟩⟩)))))))), fun name_135 => se_v rfl rfl (⟨name_135, rfl, rfl, by rfl'⟩), fun c_137 => a_cat (xs := t_133) (ys := c_137) rfl rfl fun t_138 => sa_nil (n_sorted (xs := t_138) rfl (⟨_, rfl, ?_⟩))⟩⟩)))))))))))))))
      refine SS.at [.d (D names), .d (D calls), .m (Ms s_131), .no, .f (D p_132.1), .f (D p_132.2), .d (D (isort leT t_138))] ?_
      refine ss_setD (κ := Str) (ν := (List Str)) (se_v rfl rfl (⟨(isort leT t_138), _, rfl, rfl, rfl, so_v rfl rfl (⟨s_131, p_132.1, _, rfl, rfl, rfl, fun told_139 => ?_⟩)⟩))
      refine SS.at [.d (D names), .d (D calls), .m (Ms told_139), .no, .f (D p_132.1), .f (D p_132.2), .d (D (isort leT t_138))] ?_
      refine ss_setD (κ := Str) (ν := (List Str)) (se_v rfl rfl (⟨(isort leT t_138), _, rfl, rfl, rfl, so_v rfl rfl (⟨told_139, p_132.2, _, rfl, rfl, rfl, fun told_140 => ?_⟩)⟩))
      exact ss_end (by rfl')
    · refine SS.at [.d (D names), .d (D calls), .m (Ms s_131), .no, .no, .no, .any] ?_
      exact ss_ret (se_mvm rfl (⟨_, rfl, by rfl', by rfl'⟩))
/- law_reach (List Str) Int -> Bool -/
def law_reach (names : (List Str)) (many : Int) : Rs Bool :=
 (compM (β := (List Str)) names (fun name_141 => .ok true) (fun name_141 => .ok ([name_141] : List Str))).bd fun c_142 =>
 (rng 0 many).bd fun ns_143 =>
 (foldM (fun (s_144 : (List (List (List Str)))) k_145 =>
 ((foldM (fun (s_146 : (List (List (List Str)))) rows_147 =>
 ((rng 0 (names.length : Int)).bd fun ns_148 =>
 (foldM (fun (s_149 : (List (List (List Str)))) one_150 =>
 ((rng 0 one_150).bd fun ns_151 =>
 (foldM (fun (s_152 : (List (List (List Str)))) other_153 =>
 ((ixL rows_147 one_150).bd fun t_154 =>
 (ixL rows_147 other_153).bd fun t_155 =>
 (compM (β := Str) t_155 (fun name_156 => (ixL rows_147 one_150).bd fun t_157 =>
 .ok (!mem name_156 t_157)) (fun name_156 => .ok name_156)).bd fun c_158 =>
 (cat t_154 c_158).bd fun t_159 =>
 (setL rows_147 one_150 (isort leT t_159)).bd fun after_160 =>
 (setL after_160 other_153 (isort leT t_159)).bd fun after_161 =>
 ((if (mem after_161 s_152) = true then (.ok s_152 : Rs (List (List (List Str)))) else ((cat s_152 ([after_161] : List (List (List Str)))).bd fun t_162 =>
 .ok t_162 : Rs (List (List (List Str)))))).bd fun y_163 =>
 .ok y_163)) ns_151 s_149).bd fun s_152 =>
 .ok s_152)) ns_148 s_146).bd fun s_149 =>
 .ok s_149)) s_144 ([] : (List (List (List Str))))).bd fun s_146 =>
 .ok s_146)) ns_143 ([c_142] : List (List (List Str)))).bd fun s_144 =>
 (compM (β := (List (List Str))) s_144 (fun rows_164 => (compM (β := (List Str)) rows_164 (fun told_165 => .ok (!decide (told_165 = names))) (fun told_165 => .ok told_165)).bd fun c_166 =>
 .ok (decide ((c_166.length : Int) = (0 : Int)))) (fun rows_164 => .ok rows_164)).bd fun c_167 =>
 .ok (decide ((0 : Int) < (c_167.length : Int)))
def law_reach_c (i : Nat) (C : Orc) : Prop := ∀ (names : (List Str)) (many : Int) (ts : List T), HasL [.d (D names), .d (D many)] ts → CSat (law_reach names many) (fun r : Bool => (.d (D r), [.d (D names), .d (D many)])) [.d (D names), .d (D many)] (C i ts)
theorem law_reach_ok {C : Orc}  : law_reach_c 0 (fun _ ts => f_law_reach.run C ts) := by
  intro names many ts hts
  refine fn_of (Df := f_law_reach) (F := fun r : Bool => (.d (D r), [.d (D names), .d (D many), .any, .any, .any, .any, .any, .any, .any, .any, .any, .any, .any])) (X := [.d (D names), .d (D many), .any, .any, .any, .any, .any, .any, .any, .any, .any, .any, .any]) (A := [.d (D names), .d (D many)]) rfl ?_ hts
  unfold law_reach
  refine SS.at [.d (D names), .d (D many), .no, .no, .no, .no, .no, .no, .no, .no, .no, .no, .no] ?_
  refine ss_asgd (se_comp (α := Str) (β := (List Str)) rfl (sc_seq (se_v rfl rfl (⟨_, rfl, ⟨names, [.d (D names), .d (D many), .no, .no, .no, .no, .no, .no, .no, .no, .no, .no, .no], (fun name_141 : Str => ([.d (D names), .d (D many), .no, .no, .no, .no, .no, .no, .no, .no, .no, .f (D name_141), .no] : List Sl)), _, _, _, rfl, rfl, by rfl', rfl, fun _ => rfl, fun name_141 => sn_nil ⟨rfl, by rfl', by rfl'⟩, fun name_141 => se_lst (sl_cons (se_v rfl rfl (⟨_, rfl, sl_nil (⟨(show 1 ≤ LINE by decide), ⟨([name_141] : List Str), rfl, rfl, by rfl'⟩⟩)⟩))), fun c_142 => ⟨_, rfl, ?_⟩⟩⟩))))
  refine SS.at [.d (D names), .d (D many), .d (D c_142), .no, .no, .no, .no, .no, .no, .no, .no, .no, .no] ?_
  refine ss_asgd (se_lst (sl_cons (se_v rfl rfl (⟨_, rfl, sl_nil (⟨(show 1 ≤ LINE by decide), ⟨_, rfl, ?_⟩⟩)⟩))))
  refine SS.at [.d (D names), .d (D many), .d (D c_142), .d (D ([c_142] : List (List (List Str)))), .no, .no, .no, .no, .no, .no, .no, .no, .no] ?_
  refine ss_fold (α := Int) (σ := (List (List (List Str)))) (sc_rng1 (se_v rfl rfl (⟨_, _, rfl, rfl, fun ns_143 => ⟨ns_143, ([c_142] : List (List (List Str))), (fun s_144 : (List (List (List Str))) => ([.d (D names), .d (D many), .d (D c_142), .d (D s_144), .no, .any, .no, .no, .no, .any, .any, .no, .no] : List Sl)), _, _, rfl, rfl, by rfl', fun s_144 k_145 => ⟨_, rfl, ?_⟩, fun s_144 => ?_⟩⟩)))
  · refine SS.at [.d (D names), .d (D many), .d (D c_142), .d (D s_144), .f (D k_145), .any, .no, .no, .no, .any, .any, .no, .no] ?_
    refine ss_asgd (se_lst (sl_nil (⟨(show 0 ≤ LINE by decide), ⟨_, rfl, ?_⟩⟩)))
    refine SS.at [.d (D names), .d (D many), .d (D c_142), .d (D s_144), .f (D k_145), .d (D ([] : (List (List (List Str))))), .no, .no, .no, .any, .any, .no, .no] ?_
    refine ss_fold (α := (List (List Str))) (σ := (List (List (List Str)))) (sc_seq (se_v rfl rfl (⟨_, rfl, ⟨s_144, ([] : (List (List (List Str)))), (fun s_146 : (List (List (List Str))) => ([.d (D names), .d (D many), .d (D c_142), .d (D s_144), .f (D k_145), .d (D s_146), .no, .no, .no, .any, .any, .no, .no] : List Sl)), _, _, rfl, rfl, by rfl', fun s_146 rows_147 => ⟨_, rfl, ?_⟩, fun s_146 => ?_⟩⟩)))
    · refine SS.at [.d (D names), .d (D many), .d (D c_142), .d (D s_144), .f (D k_145), .d (D s_146), .f (D rows_147), .no, .no, .any, .any, .no, .no] ?_
      refine ss_fold (α := Int) (σ := (List (List (List Str)))) (sc_rng1 (se_fn (sa_cons (so_v rfl rfl (sa_nil (n_len (xs := names) rfl (⟨_, _, rfl, rfl, fun ns_148 => ⟨ns_148, s_146, (fun s_149 : (List (List (List Str))) => ([.d (D names), .d (D many), .d (D c_142), .d (D s_144), .f (D k_145), .d (D s_149), .f (D rows_147), .no, .no, .any, .any, .no, .no] : List Sl)), _, _, rfl, rfl, by rfl', fun s_149 one_150 => ⟨_, rfl, ?_⟩, fun s_149 => ?_⟩⟩)))))))
      · refine SS.at [.d (D names), .d (D many), .d (D c_142), .d (D s_144), .f (D k_145), .d (D s_149), .f (D rows_147), .f (D one_150), .no, .any, .any, .no, .no] ?_
        refine ss_fold (α := Int) (σ := (List (List (List Str)))) (sc_rng1 (se_v rfl rfl (⟨_, _, rfl, rfl, fun ns_151 => ⟨ns_151, s_149, (fun s_152 : (List (List (List Str))) => ([.d (D names), .d (D many), .d (D c_142), .d (D s_144), .f (D k_145), .d (D s_152), .f (D rows_147), .f (D one_150), .no, .any, .any, .no, .no] : List Sl)), _, _, rfl, rfl, by rfl', fun s_152 other_153 => ⟨_, rfl, ?_⟩, fun s_152 => ?_⟩⟩)))
        · refine SS.at [.d (D names), .d (D many), .d (D c_142), .d (D s_144), .f (D k_145), .d (D s_152), .f (D rows_147), .f (D one_150), .f (D other_153), .any, .any, .no, .no] ?_
          refine ss_asgd (se_fn (sa_cons (so_e rfl (se_bin (so_e rfl (se_ix (so_v rfl rfl (so_v rfl rfl (a_ixL (xs := rows_147) rfl rfl fun t_154 => so_e rfl (se_comp (α := Str) (β := Str) rfl (sc_seq (se_ix (so_v rfl rfl (so_v rfl rfl (a_ixL (xs := rows_147) rfl rfl fun t_155 => ⟨_, rfl, ⟨t_155, [.d (D names), .d (D many), .d (D c_142), .d (D s_144), .f (D k_145), .d (D s_152), .f (D rows_147), .f (D one_150), .f (D other_153), .any, .any, .no, .no], (fun name_156 : Str => ([.d (D names), .d (D many), .d (D c_142), .d (D s_144), .f (D k_145), .d (D s_152), .f (D rows_147), .f (D one_150), .f (D other_153), .any, .any, .f (D name_156), .no] : List Sl)), _, _, _, rfl, rfl, by rfl', rfl, fun _ => rfl, fun name_156 => sn_one (sb_cmp (so_v rfl rfl (so_e rfl (se_ix (so_v rfl rfl (so_v rfl rfl (a_ixL (xs := rows_147) rfl rfl fun t_157 => a_nin (α := Str) (x := name_156) (ys := t_157) rfl rfl (⟨_, rfl, ⟨rfl, by rfl', by rfl'⟩⟩)))))))), fun name_156 => se_v rfl rfl (⟨name_156, rfl, rfl, by rfl'⟩), fun c_158 => a_cat (xs := t_154) (ys := c_158) rfl rfl fun t_159 => sa_nil (n_sorted (xs := t_159) rfl (⟨_, rfl, ?_⟩))⟩⟩)))))))))))))))
          refine SS.at [.d (D names), .d (D many), .d (D c_142), .d (D s_144), .f (D k_145), .d (D s_152), .f (D rows_147), .f (D one_150), .f (D other_153), .d (D (isort leT t_159)), .any, .no, .no] ?_
          refine ss_asg (se_fn (sa_cons (so_v rfl rfl (sa_nil (n_list rfl (?_))))))
          refine SS.at [.d (D names), .d (D many), .d (D c_142), .d (D s_144), .f (D k_145), .d (D s_152), .f (D rows_147), .f (D one_150), .f (D other_153), .d (D (isort leT t_159)), .l (List.map D rows_147), .no, .no] ?_
          refine ss_setL (α := (List Str)) (se_v rfl rfl (⟨(isort leT t_159), _, rfl, rfl, rfl, so_v rfl rfl (⟨rows_147, one_150, _, rfl, rfl, rfl, fun after_160 => ?_⟩)⟩))
          refine SS.at [.d (D names), .d (D many), .d (D c_142), .d (D s_144), .f (D k_145), .d (D s_152), .f (D rows_147), .f (D one_150), .f (D other_153), .d (D (isort leT t_159)), .l (List.map D after_160), .no, .no] ?_
          refine ss_setL (α := (List Str)) (se_v rfl rfl (⟨(isort leT t_159), _, rfl, rfl, rfl, so_v rfl rfl (⟨after_160, other_153, _, rfl, rfl, rfl, fun after_161 => ?_⟩)⟩))
          refine SS.at [.d (D names), .d (D many), .d (D c_142), .d (D s_144), .f (D k_145), .d (D s_152), .f (D rows_147), .f (D one_150), .f (D other_153), .d (D (isort leT t_159)), .l (List.map D after_161), .no, .no] ?_
          refine ss_asg (se_ite (fun y : (List (List (List Str))) => Sl.d (D y)) (sb_cmp (so_v rfl rfl (so_v rfl rfl (a_in (α := (List (List Str))) (x := after_161) (ys := s_152) rfl rfl (⟨_, rfl, ⟨_, _, [.d (D names), .d (D many), .d (D c_142), .d (D s_144), .f (D k_145), .d (D s_152), .f (D rows_147), .f (D one_150), .f (D other_153), .d (D (isort leT t_159)), .d (D after_161), .no, .no], _, rfl, se_v rfl rfl (⟨_, rfl, by rfl', by rfl'⟩), se_bin (so_v rfl rfl (so_e rfl (se_lst (sl_cons (se_vl rfl (⟨_, rfl, sl_nil (⟨(show 1 ≤ LINE by decide), a_cat (xs := s_152) (ys := ([after_161] : List (List (List Str)))) rfl rfl fun t_162 => ⟨_, rfl, by rfl', by rfl'⟩⟩)⟩)))))), fun y_163 => ?_⟩⟩))))))
          exact ss_end (by rfl')
        · exact ss_end (by rfl')
      · exact ss_end (by rfl')
    · refine SS.at [.d (D names), .d (D many), .d (D c_142), .d (D s_144), .f (D k_145), .d (D s_146), .no, .no, .no, .any, .any, .no, .no] ?_
      refine ss_asg (se_v rfl rfl (?_))
      exact ss_end (by rfl')
  · refine SS.at [.d (D names), .d (D many), .d (D c_142), .d (D s_144), .no, .any, .no, .no, .no, .any, .any, .no, .no] ?_
    exact ss_ret (se_cmp (so_e rfl (se_fn (sa_cons (so_e rfl (se_comp (α := (List (List Str))) (β := (List (List Str))) rfl (sc_seq (se_v rfl rfl (⟨_, rfl, ⟨s_144, [.d (D names), .d (D many), .d (D c_142), .d (D s_144), .no, .any, .no, .no, .no, .any, .any, .no, .no], (fun rows_164 : (List (List Str)) => ([.d (D names), .d (D many), .d (D c_142), .d (D s_144), .no, .any, .f (D rows_164), .no, .no, .any, .any, .no, .no] : List Sl)), _, _, _, rfl, rfl, by rfl', rfl, fun _ => rfl, fun rows_164 => sn_one (sb_cmp (so_e rfl (se_fn (sa_cons (so_e rfl (se_comp (α := (List Str)) (β := (List Str)) rfl (sc_seq (se_v rfl rfl (⟨_, rfl, ⟨rows_164, [.d (D names), .d (D many), .d (D c_142), .d (D s_144), .no, .any, .f (D rows_164), .no, .no, .any, .any, .no, .no], (fun told_165 : (List Str) => ([.d (D names), .d (D many), .d (D c_142), .d (D s_144), .no, .any, .f (D rows_164), .no, .no, .any, .any, .no, .f (D told_165)] : List Sl)), _, _, _, rfl, rfl, by rfl', rfl, fun _ => rfl, fun told_165 => sn_one (sb_cmp (so_v rfl rfl (so_v rfl rfl (a_ne (α := (List Str)) (x := told_165) (y := names) rfl rfl (⟨_, rfl, ⟨rfl, by rfl', by rfl'⟩⟩))))), fun told_165 => se_v rfl rfl (⟨told_165, rfl, rfl, by rfl'⟩), fun c_166 => sa_nil (n_len (xs := c_166) rfl (so_e rfl (se_c rfl (a_eq (α := Int) (x := (c_166.length : Int)) (y := (0 : Int)) rfl rfl (⟨_, rfl, ⟨rfl, by rfl', by rfl'⟩⟩)))))⟩⟩))))))))), fun rows_164 => se_v rfl rfl (⟨rows_164, rfl, rfl, by rfl'⟩), fun c_167 => sa_nil (n_len (xs := c_167) rfl (so_e rfl (se_c rfl (a_gtI rfl rfl (⟨_, rfl, by rfl', by rfl'⟩)))))⟩⟩)))))))))
/- law_calls Pool (List Str) Int -> (List (Str × Str)) -/
def law_calls (pool : Pool) (names : (List Str)) (most : Int) : Rs ((List (Str × Str)) × Pool) :=
 (law_draw pool (most + (1 : Int))).bd fun r_168 =>
 (rng 0 r_168.1).bd fun ns_169 =>
 (foldM (fun (s_170 : (Pool × (List (Str × Str)))) k_171 =>
 ((law_draw s_170.1 (names.length : Int)).bd fun r_172 =>
 (law_draw r_172.2 ((names.length : Int) - (1 : Int))).bd fun r_173 =>
 (modI ((r_172.1 + (1 : Int)) + r_173.1) (names.length : Int)).bd fun t_174 =>
 (ixL names r_172.1).bd fun t_175 =>
 (ixL names t_174).bd fun t_176 =>
 (app s_170.2 (t_175, t_176)).bd fun found_177 =>
 .ok (r_173.2, found_177))) ns_169 (r_168.2, ([] : (List (Str × Str))))).bd fun s_170 =>
 .ok (s_170.2, s_170.1)
def law_calls_c (i : Nat) (C : Orc) : Prop := ∀ (pool : Pool) (names : (List Str)) (most : Int) (ts : List T), HasL [.l (PD pool), .d (D names), .d (D most)] ts → CSat (law_calls pool names most) (fun r : ((List (Str × Str)) × Pool) => (.l (List.map D r.1), [.l (PD r.2), .d (D names), .d (D most)])) [.any, .d (D names), .d (D most)] (C i ts)
theorem law_calls_ok {C : Orc} (h_law_draw : law_draw_c 12 C) : law_calls_c 0 (fun _ ts => f_law_calls.run C ts) := by
  intro pool names most ts hts
  refine fn_of (Df := f_law_calls) (F := fun r : ((List (Str × Str)) × Pool) => (.l (List.map D r.1), [.l (PD r.2), .d (D names), .d (D most), .any, .any, .any, .any])) (X := [.any, .d (D names), .d (D most), .any, .any, .any, .any]) (A := [.l (PD pool), .d (D names), .d (D most)]) rfl ?_ hts
  unfold law_calls
  refine SS.at [.l (PD pool), .d (D names), .d (D most), .no, .no, .no, .no] ?_
  refine ss_asg (se_lst (sl_nil (⟨(show 0 ≤ LINE by decide), ?_⟩)))
  refine SS.at [.l (PD pool), .d (D names), .d (D most), .l (List.map D ([] : (List (Str × Str)))), .no, .no, .no] ?_
  refine ss_fold (α := Int) (σ := (Pool × (List (Str × Str)))) (sc_rng1 (se_call rfl (sa_cons (so_v rfl rfl (sa_cons (so_e rfl (se_bin (so_v rfl rfl (so_e rfl (se_c rfl (a_addI rfl rfl (sa_nil (⟨_, _, _, _, [.any, .d (D names), .d (D most), .l (List.map D ([] : (List (Str × Str)))), .no, .no, .no], fun r_168 : (Int × Pool) => ([.l (PD r_168.2), .d (D names), .d (D most), .l (List.map D ([] : (List (Str × Str)))), .no, .no, .no] : List Sl), rfl, fun ts h => h_law_draw pool (most + (1 : Int)) ts (HasL.wk (by rfl') h), by rfl', rfl, by rfl', fun r_168 => ⟨by rfl', rfl, ⟨_, _, rfl, rfl, fun ns_169 => ⟨ns_169, (r_168.2, ([] : (List (Str × Str)))), (fun s_170 : (Pool × (List (Str × Str))) => ([.l (PD s_170.1), .d (D names), .d (D most), .l (List.map D s_170.2), .no, .no, .no] : List Sl)), _, _, rfl, rfl, by rfl', fun s_170 k_171 => ⟨_, rfl, ?_⟩, fun s_170 => ?_⟩⟩⟩⟩)))))))))))))
  · refine SS.at [.l (PD s_170.1), .d (D names), .d (D most), .l (List.map D s_170.2), .f (D k_171), .no, .no] ?_
    refine ss_asg (se_call rfl (sa_cons (so_v rfl rfl (sa_cons (so_e rfl (se_fn (sa_cons (so_v rfl rfl (sa_nil (n_len (xs := names) rfl (sa_nil (⟨_, _, _, _, [.any, .d (D names), .d (D most), .l (List.map D s_170.2), .f (D k_171), .no, .no], fun r_172 : (Int × Pool) => ([.l (PD r_172.2), .d (D names), .d (D most), .l (List.map D s_170.2), .f (D k_171), .no, .no] : List Sl), rfl, fun ts h => h_law_draw s_170.1 (names.length : Int) ts (HasL.wk (by rfl') h), by rfl', rfl, by rfl', fun r_172 => ⟨by rfl', rfl, ?_⟩⟩))))))))))))
    refine SS.at [.l (PD r_172.2), .d (D names), .d (D most), .l (List.map D s_170.2), .f (D k_171), .d (D r_172.1), .no] ?_
    refine ss_asg (se_bin (so_e rfl (se_fn (sa_cons (so_e rfl (se_bin (so_e rfl (se_bin (so_v rfl rfl (so_e rfl (se_c rfl (a_addI rfl rfl (so_e rfl (se_call rfl (sa_cons (so_v rfl rfl (sa_cons (so_e rfl (se_bin (so_e rfl (se_fn (sa_cons (so_v rfl rfl (sa_nil (n_len (xs := names) rfl (so_e rfl (se_c rfl (a_subI rfl rfl (sa_nil (⟨_, _, _, _, [.any, .d (D names), .d (D most), .l (List.map D s_170.2), .f (D k_171), .d (D r_172.1), .no], fun r_173 : (Int × Pool) => ([.l (PD r_173.2), .d (D names), .d (D most), .l (List.map D s_170.2), .f (D k_171), .d (D r_172.1), .no] : List Sl), rfl, fun ts h => h_law_draw r_172.2 ((names.length : Int) - (1 : Int)) ts (HasL.wk (by rfl') h), by rfl', rfl, by rfl', fun r_173 => ⟨by rfl', rfl, a_addI rfl rfl (sa_nil (n_int rfl (so_e rfl (se_fn (sa_cons (so_v rfl rfl (sa_nil (n_len (xs := names) rfl (a_modI rfl rfl fun t_174 => ?_)))))))))⟩⟩))))))))))))))))))))))))))))))
    refine SS.at [.l (PD r_173.2), .d (D names), .d (D most), .l (List.map D s_170.2), .f (D k_171), .d (D r_172.1), .f (D t_174)] ?_
    refine ss_ex (se_app (xs := s_170.2) rfl (so_e rfl (se_tup (sl_cons (se_ix (so_v rfl rfl (so_v rfl rfl (a_ixL (xs := names) rfl rfl fun t_175 => ⟨_, rfl, sl_cons (se_ix (so_v rfl rfl (so_v rfl rfl (a_ixL (xs := names) rfl rfl fun t_176 => ⟨_, rfl, sl_nil (⟨(show 2 ≤ LINE by decide), ⟨s_170.2, (t_175, t_176), _, rfl, rfl, rfl, rfl, fun found_177 => ?_⟩⟩)⟩))))⟩))))))))
    exact ss_end (by rfl')
  · refine SS.at [.l (PD s_170.1), .d (D names), .d (D most), .l (List.map D s_170.2), .no, .no, .no] ?_
    exact ss_ret (se_mvl rfl (⟨_, rfl, by rfl', by rfl'⟩))
/- law_pick Pool (List (List (Str × Str))) -> (List (Str × Str)) -/
def law_pick (pool : Pool) (rows : (List (List (Str × Str)))) : Rs ((List (Str × Str)) × Pool) :=
 (law_draw pool (rows.length : Int)).bd fun r_178 =>
 (ixL rows r_178.1).bd fun t_179 =>
 .ok (t_179, r_178.2)
def law_pick_c (i : Nat) (C : Orc) : Prop := ∀ (pool : Pool) (rows : (List (List (Str × Str)))) (ts : List T), HasL [.l (PD pool), .d (D rows)] ts → CSat (law_pick pool rows) (fun r : ((List (Str × Str)) × Pool) => (.d (D r.1), [.l (PD r.2), .d (D rows)])) [.any, .d (D rows)] (C i ts)
theorem law_pick_ok {C : Orc} (h_law_draw : law_draw_c 12 C) : law_pick_c 0 (fun _ ts => f_law_pick.run C ts) := by
  intro pool rows ts hts
  refine fn_of (Df := f_law_pick) (F := fun r : ((List (Str × Str)) × Pool) => (.d (D r.1), [.l (PD r.2), .d (D rows)])) (X := [.any, .d (D rows)]) (A := [.l (PD pool), .d (D rows)]) rfl ?_ hts
  unfold law_pick
  refine SS.at [.l (PD pool), .d (D rows)] ?_
  exact ss_ret (se_ix (so_v rfl rfl (so_e rfl (se_call rfl (sa_cons (so_v rfl rfl (sa_cons (so_e rfl (se_fn (sa_cons (so_v rfl rfl (sa_nil (n_len (xs := rows) rfl (sa_nil (⟨_, _, _, _, [.any, .d (D rows)], fun r_178 : (Int × Pool) => ([.l (PD r_178.2), .d (D rows)] : List Sl), rfl, fun ts h => h_law_draw pool (rows.length : Int) ts (HasL.wk (by rfl') h), by rfl', rfl, by rfl', fun r_178 => ⟨by rfl', rfl, a_ixL (xs := rows) rfl rfl fun t_179 => ⟨_, rfl, by rfl', by rfl'⟩⟩⟩)))))))))))))))
/- turned (List (Str × Str)) -> (List (Str × Str)) -/
def turned (calls : (List (Str × Str))) : Rs (List (Str × Str)) :=
 .ok (List.reverse calls)
def turned_c (i : Nat) (C : Orc) : Prop := ∀ (calls : (List (Str × Str))) (ts : List T), HasL [.d (D calls)] ts → CSat (turned calls) (fun r : (List (Str × Str)) => (.l (List.map D r), [.d (D calls)])) [.d (D calls)] (C i ts)
theorem turned_ok {C : Orc}  : turned_c 0 (fun _ ts => f_turned.run C ts) := by
  intro calls ts hts
  refine fn_of (Df := f_turned) (F := fun r : (List (Str × Str)) => (.l (List.map D r), [.d (D calls)])) (X := [.d (D calls)]) (A := [.d (D calls)]) rfl ?_ hts
  unfold turned
  refine SS.at [.d (D calls)] ?_
  exact ss_ret (se_lrevD (α := (Str × Str)) (so_v rfl rfl (⟨calls, rfl, rfl, ⟨_, rfl, by rfl', by rfl'⟩⟩)))
/- law_refused Int (List Str) (List (Str × Str)) -> Str -/
def law_refused (choice : Int) (friends : (List Str)) (calls : (List (Str × Str))) : Rs Str :=
 (Rs.trf (α := O Unit Str)
 (if (decide (choice = (0 : Int))) = true then
 ((checked_friends friends).bd fun r_181 =>
 .ok (.nx ()))
 else
 (if (decide (choice = (1 : Int))) = true then
 ((checked_calls friends calls).bd fun r_182 =>
 .ok (.nx ()))
 else
 ((all_know friends calls).bd fun r_183 =>
 .ok (.nx ())))) (fun _ => true) (fun c => match c with | 0 => some (O.rt (⟨#[115, 101, 118, 101, 114, 97, 108]⟩ : Str)) | 1 => some (O.rt (⟨#[110, 97, 109, 101]⟩ : Str)) | 2 => some (O.rt (⟨#[116, 119, 105, 99, 101]⟩ : Str)) | 3 => some (O.rt (⟨#[109, 97, 110, 121]⟩ : Str)) | 4 => some (O.rt (⟨#[112, 97, 112, 101, 114]⟩ : Str)) | _ => none)).obd (fun x => x) fun s_180 =>
 .ok (⟨#[110, 111, 110, 101]⟩ : Str)
def law_refused_c (i : Nat) (C : Orc) : Prop := ∀ (choice : Int) (friends : (List Str)) (calls : (List (Str × Str))) (ts : List T), HasL [.d (D choice), .d (D friends), .d (D calls)] ts → CSat (law_refused choice friends calls) (fun r : Str => (.d (D r), [.d (D choice), .d (D friends), .d (D calls)])) [.d (D choice), .d (D friends), .d (D calls)] (C i ts)
theorem law_refused_ok {C : Orc} (h_all_know : all_know_c 5 C) (h_checked_calls : checked_calls_c 3 C) (h_checked_friends : checked_friends_c 2 C) : law_refused_c 0 (fun _ ts => f_law_refused.run C ts) := by
  intro choice friends calls ts hts
  refine fn_of (Df := f_law_refused) (F := fun r : Str => (.d (D r), [.d (D choice), .d (D friends), .d (D calls), .any])) (X := [.d (D choice), .d (D friends), .d (D calls), .any]) (A := [.d (D choice), .d (D friends), .d (D calls)]) rfl ?_ hts
  unfold law_refused
  refine SS.at [.d (D choice), .d (D friends), .d (D calls), .no] ?_
  refine ss_trf (fun s_180 : Unit => ([.d (D choice), .d (D friends), .d (D calls), .no] : List Sl)) (fun x => x) Ans.top ?_ ?_ (fun s_180 => ?_)
  · refine SS.at [.d (D choice), .d (D friends), .d (D calls), .no] ?_
    refine ss_if (sb_cmp (so_v rfl rfl (so_e rfl (se_c rfl (a_eq (α := Int) (x := choice) (y := (0 : Int)) rfl rfl (⟨_, rfl, ⟨_, _, rfl, ?_, ?_⟩⟩))))))
    · refine SS.at [.d (D choice), .d (D friends), .d (D calls), .no] ?_
      refine ss_ex (se_call rfl (sa_cons (so_v rfl rfl (sa_nil (⟨_, _, _, _, [.d (D choice), .d (D friends), .d (D calls), .no], fun r_181 : (List Str) => ([.d (D choice), .d (D friends), .d (D calls), .no] : List Sl), rfl, fun ts h => h_checked_friends friends ts (HasL.wk (by rfl') h), by rfl', rfl, by rfl', fun r_181 => ⟨by rfl', rfl, ?_⟩⟩)))))
      exact ss_endo (by rfl')
    · refine SS.at [.d (D choice), .d (D friends), .d (D calls), .no] ?_
      refine ss_if (sb_cmp (so_v rfl rfl (so_e rfl (se_c rfl (a_eq (α := Int) (x := choice) (y := (1 : Int)) rfl rfl (⟨_, rfl, ⟨_, _, rfl, ?_, ?_⟩⟩))))))
      · refine SS.at [.d (D choice), .d (D friends), .d (D calls), .no] ?_
        refine ss_ex (se_call rfl (sa_cons (so_v rfl rfl (sa_cons (so_v rfl rfl (sa_nil (⟨_, _, _, _, [.d (D choice), .d (D friends), .d (D calls), .no], fun r_182 : (List (Str × Str)) => ([.d (D choice), .d (D friends), .d (D calls), .no] : List Sl), rfl, fun ts h => h_checked_calls friends calls ts (HasL.wk (by rfl') h), by rfl', rfl, by rfl', fun r_182 => ⟨by rfl', rfl, ?_⟩⟩)))))))
        exact ss_endo (by rfl')
      · refine SS.at [.d (D choice), .d (D friends), .d (D calls), .no] ?_
        refine ss_ex (se_call rfl (sa_cons (so_v rfl rfl (sa_cons (so_v rfl rfl (sa_nil (⟨_, _, _, _, [.d (D choice), .d (D friends), .d (D calls), .no], fun r_183 : Bool => ([.d (D choice), .d (D friends), .d (D calls), .no] : List Sl), rfl, fun ts h => h_all_know friends calls ts (HasL.wk (by rfl') h), by rfl', rfl, by rfl', fun r_183 => ⟨by rfl', rfl, ?_⟩⟩)))))))
        exact ss_endo (by rfl')
  · intro c o hh
    try dsimp only at hh
    split at hh <;> cases hh <;> exact ⟨_, _, rfl, rfl, by decide +kernel, by first | exact .inl rfl | exact rfl, by rfl'⟩
  · refine SS.at [.d (D choice), .d (D friends), .d (D calls), .no] ?_
    exact ss_ret (se_c (by decide +kernel) (⟨_, rfl, by rfl', by rfl'⟩))
/- checked_calls_1 (List Str) (List (Tu1 Str)) -> (List (Tu1 Str)) -/
-- BADPART checked_calls_1: tuple index
def checked_calls_1 (friends : (List Str)) (calls : (List (Tu1 Str))) : Rs (List (Tu1 Str)) :=
 (checked_friends friends).bd fun r_184 =>
 (foldM (fun (s_185 : Unit) call_186 =>
 (if ((!true) || true) = true then
 (.exc 4)
 else
 (.bad))) calls ()).bd fun s_185 =>
 .ok calls
def checked_calls_1_c (i : Nat) (C : Orc) : Prop := ∀ (friends : (List Str)) (calls : (List (Tu1 Str))) (ts : List T), HasL [.d (D friends), .d (D calls)] ts → CSat (checked_calls_1 friends calls) (fun r : (List (Tu1 Str)) => (.l (List.map D r), [.d (D friends), .d (D calls)])) [.d (D friends), .d (D calls)] (C i ts)
theorem checked_calls_1_ok {C : Orc} (h_checked_friends : checked_friends_c 2 C) : checked_calls_1_c 0 (fun _ ts => f_checked_calls.run C ts) := by
  intro friends calls ts hts
  refine fn_of (Df := f_checked_calls) (F := fun r : (List (Tu1 Str)) => (.l (List.map D r), [.d (D friends), .d (D calls), .any, .any])) (X := [.d (D friends), .d (D calls), .any, .any]) (A := [.d (D friends), .d (D calls)]) rfl ?_ hts
  unfold checked_calls_1
  refine SS.at [.d (D friends), .d (D calls), .no, .no] ?_
  refine ss_asgd (se_call rfl (sa_cons (so_v rfl rfl (sa_nil (⟨_, _, _, _, [.d (D friends), .d (D calls), .no, .no], fun r_184 : (List Str) => ([.d (D friends), .d (D calls), .no, .no] : List Sl), rfl, fun ts h => h_checked_friends friends ts (HasL.wk (by rfl') h), by rfl', rfl, by rfl', fun r_184 => ⟨by rfl', rfl, ⟨_, rfl, ?_⟩⟩⟩)))))
  refine SS.at [.d (D friends), .d (D calls), .d (D r_184), .no] ?_
  refine ss_fold (α := (Tu1 Str)) (σ := Unit) (sc_seq (se_v rfl rfl (⟨_, rfl, ⟨calls, (), (fun s_185 : Unit => ([.d (D friends), .d (D calls), .d (D r_184), .no] : List Sl)), _, _, rfl, rfl, by rfl', fun s_185 call_186 => ⟨_, rfl, ?_⟩, fun s_185 => ?_⟩⟩)))
  · refine SS.at [.d (D friends), .d (D calls), .d (D r_184), .f (D call_186)] ?_
    refine ss_if (sb_orp (sb_not (sb_of rfl (se_isi (by decide) (so_v rfl rfl (⟨true, rfl, i_dat rfl rfl, ⟨_, tr_d rfl rfl, ⟨true, sb_orT (sb_cmp (so_e rfl (se_fn (sa_cons (so_v rfl rfl (sa_nil (n_lenT (n := 1) rfl rfl (so_e rfl (se_c rfl (a_ne (α := Int) (x := (1 : Int)) (y := (2 : Int)) rfl rfl (⟨_, rfl, ⟨by decide, ⟨rfl, Wk.r⟩⟩⟩))))))))))), ⟨_, _, rfl, ?_, ?_⟩⟩⟩⟩))))))
    · refine SS.at [.d (D friends), .d (D calls), .d (D r_184), .f (D call_186)] ?_
      exact ss_rse (se_c (by decide +kernel) (⟨rfl, by rfl'⟩))
    · exact SS.bad
  · refine SS.at [.d (D friends), .d (D calls), .d (D r_184), .no] ?_
    exact ss_ret (se_fn (sa_cons (so_v rfl rfl (sa_nil (n_list rfl (⟨_, rfl, by rfl', by rfl'⟩))))))
/- known_1 (List Str) (List (Tu1 Str)) -> (List (Str × (List Str))) -/
-- BADPART known_1: pattern (one, other) of ('T', (('S',),))
def known_1 (friends : (List Str)) (calls : (List (Tu1 Str))) : Rs (List (Str × (List Str))) :=
 (checked_friends friends).bd fun r_187 =>
 (dcompM (κ := Str) (ν := (List Str)) r_187 (fun name_188 => .ok (name_188, ([name_188] : List Str)))).bd fun d_189 =>
 (checked_calls_1 r_187 calls).bd fun r_190 =>
 .bad
def known_1_c (i : Nat) (C : Orc) : Prop := ∀ (friends : (List Str)) (calls : (List (Tu1 Str))) (ts : List T), HasL [.d (D friends), .d (D calls)] ts → CSat (known_1 friends calls) (fun r : (List (Str × (List Str))) => (.l (List.map D r), [.d (D friends), .d (D calls)])) [.d (D friends), .d (D calls)] (C i ts)
theorem known_1_ok {C : Orc} (h_checked_calls_1 : checked_calls_1_c 3 C) (h_checked_friends : checked_friends_c 2 C) : known_1_c 0 (fun _ ts => f_known.run C ts) := by
  intro friends calls ts hts
  refine fn_of (Df := f_known) (F := fun r : (List (Str × (List Str))) => (.l (List.map D r), [.d (D friends), .d (D calls), .any, .any, .any, .any, .any, .any])) (X := [.d (D friends), .d (D calls), .any, .any, .any, .any, .any, .any]) (A := [.d (D friends), .d (D calls)]) rfl ?_ hts
  unfold known_1
  refine SS.at [.d (D friends), .d (D calls), .no, .no, .no, .no, .no, .no] ?_
  refine ss_asgd (se_call rfl (sa_cons (so_v rfl rfl (sa_nil (⟨_, _, _, _, [.d (D friends), .d (D calls), .no, .no, .no, .no, .no, .no], fun r_187 : (List Str) => ([.d (D friends), .d (D calls), .no, .no, .no, .no, .no, .no] : List Sl), rfl, fun ts h => h_checked_friends friends ts (HasL.wk (by rfl') h), by rfl', rfl, by rfl', fun r_187 => ⟨by rfl', rfl, ⟨_, rfl, ?_⟩⟩⟩)))))
  refine SS.at [.d (D friends), .d (D calls), .d (D r_187), .no, .no, .no, .no, .no] ?_
  refine ss_asg (se_dcomp (α := Str) (κ := Str) (ν := (List Str)) rfl (sc_seq (se_v rfl rfl (⟨_, rfl, ⟨r_187, [.d (D friends), .d (D calls), .d (D r_187), .no, .no, .no, .no, .no], (fun name_188 : Str => ([.d (D friends), .d (D calls), .d (D r_187), .no, .no, .no, .no, .f (D name_188)] : List Sl)), _, _, rfl, rfl, by rfl', rfl, fun _ => rfl, fun name_188 => se_v rfl rfl (⟨name_188, rfl, se_lst (sl_cons (se_v rfl rfl (⟨_, rfl, sl_nil (⟨(show 1 ≤ LINE by decide), ⟨([name_188] : List Str), rfl, rfl, by rfl'⟩⟩)⟩)))⟩), fun d_189 => ?_⟩⟩))))
  refine SS.at [.d (D friends), .d (D calls), .d (D r_187), .m (Ms d_189), .no, .no, .no, .no] ?_
  exact ss_forBad (sc_seq (se_call rfl (sa_cons (so_v rfl rfl (sa_cons (so_v rfl rfl (sa_nil (⟨_, _, _, _, [.d (D friends), .d (D calls), .d (D r_187), .m (Ms d_189), .no, .no, .no, .no], fun r_190 : (List (Tu1 Str)) => ([.d (D friends), .d (D calls), .d (D r_187), .m (Ms d_189), .no, .no, .no, .no] : List Sl), rfl, fun ts h => h_checked_calls_1 r_187 calls ts (HasL.wk (by rfl') h), by rfl', rfl, by rfl', fun r_190 => ⟨by rfl', rfl, ⟨_, rfl, rfl⟩⟩⟩))))))))
/- all_know_1 (List Str) (List (Tu1 Str)) -> Bool -/
def all_know_1 (friends : (List Str)) (calls : (List (Tu1 Str))) : Rs Bool :=
 (checked_friends friends).bd fun r_191 =>
 (known_1 r_191 calls).bd fun r_192 =>
 (compM (β := Str) r_192 (fun p_193 => .ok (!decide (p_193.2 = r_191))) (fun p_193 => .ok p_193.1)).bd fun c_194 =>
 .ok (!(!c_194.isEmpty))
def all_know_1_c (i : Nat) (C : Orc) : Prop := ∀ (friends : (List Str)) (calls : (List (Tu1 Str))) (ts : List T), HasL [.d (D friends), .d (D calls)] ts → CSat (all_know_1 friends calls) (fun r : Bool => (.d (D r), [.d (D friends), .d (D calls)])) [.d (D friends), .d (D calls)] (C i ts)
theorem all_know_1_ok {C : Orc} (h_checked_friends : checked_friends_c 2 C) (h_known_1 : known_1_c 4 C) : all_know_1_c 0 (fun _ ts => f_all_know.run C ts) := by
  intro friends calls ts hts
  refine fn_of (Df := f_all_know) (F := fun r : Bool => (.d (D r), [.d (D friends), .d (D calls), .any, .any, .any])) (X := [.d (D friends), .d (D calls), .any, .any, .any]) (A := [.d (D friends), .d (D calls)]) rfl ?_ hts
  unfold all_know_1
  refine SS.at [.d (D friends), .d (D calls), .no, .no, .no] ?_
  refine ss_asgd (se_call rfl (sa_cons (so_v rfl rfl (sa_nil (⟨_, _, _, _, [.d (D friends), .d (D calls), .no, .no, .no], fun r_191 : (List Str) => ([.d (D friends), .d (D calls), .no, .no, .no] : List Sl), rfl, fun ts h => h_checked_friends friends ts (HasL.wk (by rfl') h), by rfl', rfl, by rfl', fun r_191 => ⟨by rfl', rfl, ⟨_, rfl, ?_⟩⟩⟩)))))
  refine SS.at [.d (D friends), .d (D calls), .d (D r_191), .no, .no] ?_
  exact ss_ret (se_not (so_e rfl (se_comp (α := (Str × (List Str))) (β := Str) rfl (sc_seq (se_call rfl (sa_cons (so_v rfl rfl (sa_cons (so_v rfl rfl (sa_nil (⟨_, _, _, _, [.d (D friends), .d (D calls), .d (D r_191), .no, .no], fun r_192 : (List (Str × (List Str))) => ([.d (D friends), .d (D calls), .d (D r_191), .no, .no] : List Sl), rfl, fun ts h => h_known_1 r_191 calls ts (HasL.wk (by rfl') h), by rfl', rfl, by rfl', fun r_192 => ⟨by rfl', rfl, ⟨_, rfl, ⟨r_192, [.d (D friends), .d (D calls), .d (D r_191), .no, .no], (fun p_193 : (Str × (List Str)) => ([.d (D friends), .d (D calls), .d (D r_191), .f (D p_193.1), .f (D p_193.2)] : List Sl)), _, _, _, rfl, rfl, by rfl', rfl, fun _ => rfl, fun p_193 => sn_one (sb_cmp (so_v rfl rfl (so_v rfl rfl (a_ne (α := (List Str)) (x := p_193.2) (y := r_191) rfl rfl (⟨_, rfl, ⟨rfl, by rfl', by rfl'⟩⟩))))), fun p_193 => se_v rfl rfl (⟨p_193.1, rfl, rfl, by rfl'⟩), fun c_194 => ⟨_, rfl, tr_L (xs := c_194) rfl, ⟨_, rfl, by rfl', by rfl'⟩⟩⟩⟩⟩⟩)))))))))))
/- law_refused_1 Int (List Str) (List (Tu1 Str)) -> Str -/
def law_refused_1 (choice : Int) (friends : (List Str)) (calls : (List (Tu1 Str))) : Rs Str :=
 (Rs.trf (α := O Unit Str)
 (if (decide (choice = (0 : Int))) = true then
 ((checked_friends friends).bd fun r_196 =>
 .ok (.nx ()))
 else
 (if (decide (choice = (1 : Int))) = true then
 ((checked_calls_1 friends calls).bd fun r_197 =>
 .ok (.nx ()))
 else
 ((all_know_1 friends calls).bd fun r_198 =>
 .ok (.nx ())))) (fun _ => true) (fun c => match c with | 0 => some (O.rt (⟨#[115, 101, 118, 101, 114, 97, 108]⟩ : Str)) | 1 => some (O.rt (⟨#[110, 97, 109, 101]⟩ : Str)) | 2 => some (O.rt (⟨#[116, 119, 105, 99, 101]⟩ : Str)) | 3 => some (O.rt (⟨#[109, 97, 110, 121]⟩ : Str)) | 4 => some (O.rt (⟨#[112, 97, 112, 101, 114]⟩ : Str)) | _ => none)).obd (fun x => x) fun s_195 =>
 .ok (⟨#[110, 111, 110, 101]⟩ : Str)
def law_refused_1_c (i : Nat) (C : Orc) : Prop := ∀ (choice : Int) (friends : (List Str)) (calls : (List (Tu1 Str))) (ts : List T), HasL [.d (D choice), .d (D friends), .d (D calls)] ts → CSat (law_refused_1 choice friends calls) (fun r : Str => (.d (D r), [.d (D choice), .d (D friends), .d (D calls)])) [.d (D choice), .d (D friends), .d (D calls)] (C i ts)
theorem law_refused_1_ok {C : Orc} (h_all_know_1 : all_know_1_c 5 C) (h_checked_calls_1 : checked_calls_1_c 3 C) (h_checked_friends : checked_friends_c 2 C) : law_refused_1_c 0 (fun _ ts => f_law_refused.run C ts) := by
  intro choice friends calls ts hts
  refine fn_of (Df := f_law_refused) (F := fun r : Str => (.d (D r), [.d (D choice), .d (D friends), .d (D calls), .any])) (X := [.d (D choice), .d (D friends), .d (D calls), .any]) (A := [.d (D choice), .d (D friends), .d (D calls)]) rfl ?_ hts
  unfold law_refused_1
  refine SS.at [.d (D choice), .d (D friends), .d (D calls), .no] ?_
  refine ss_trf (fun s_195 : Unit => ([.d (D choice), .d (D friends), .d (D calls), .no] : List Sl)) (fun x => x) Ans.top ?_ ?_ (fun s_195 => ?_)
  · refine SS.at [.d (D choice), .d (D friends), .d (D calls), .no] ?_
    refine ss_if (sb_cmp (so_v rfl rfl (so_e rfl (se_c rfl (a_eq (α := Int) (x := choice) (y := (0 : Int)) rfl rfl (⟨_, rfl, ⟨_, _, rfl, ?_, ?_⟩⟩))))))
    · refine SS.at [.d (D choice), .d (D friends), .d (D calls), .no] ?_
      refine ss_ex (se_call rfl (sa_cons (so_v rfl rfl (sa_nil (⟨_, _, _, _, [.d (D choice), .d (D friends), .d (D calls), .no], fun r_196 : (List Str) => ([.d (D choice), .d (D friends), .d (D calls), .no] : List Sl), rfl, fun ts h => h_checked_friends friends ts (HasL.wk (by rfl') h), by rfl', rfl, by rfl', fun r_196 => ⟨by rfl', rfl, ?_⟩⟩)))))
      exact ss_endo (by rfl')
    · refine SS.at [.d (D choice), .d (D friends), .d (D calls), .no] ?_
      refine ss_if (sb_cmp (so_v rfl rfl (so_e rfl (se_c rfl (a_eq (α := Int) (x := choice) (y := (1 : Int)) rfl rfl (⟨_, rfl, ⟨_, _, rfl, ?_, ?_⟩⟩))))))
      · refine SS.at [.d (D choice), .d (D friends), .d (D calls), .no] ?_
        refine ss_ex (se_call rfl (sa_cons (so_v rfl rfl (sa_cons (so_v rfl rfl (sa_nil (⟨_, _, _, _, [.d (D choice), .d (D friends), .d (D calls), .no], fun r_197 : (List (Tu1 Str)) => ([.d (D choice), .d (D friends), .d (D calls), .no] : List Sl), rfl, fun ts h => h_checked_calls_1 friends calls ts (HasL.wk (by rfl') h), by rfl', rfl, by rfl', fun r_197 => ⟨by rfl', rfl, ?_⟩⟩)))))))
        exact ss_endo (by rfl')
      · refine SS.at [.d (D choice), .d (D friends), .d (D calls), .no] ?_
        refine ss_ex (se_call rfl (sa_cons (so_v rfl rfl (sa_cons (so_v rfl rfl (sa_nil (⟨_, _, _, _, [.d (D choice), .d (D friends), .d (D calls), .no], fun r_198 : Bool => ([.d (D choice), .d (D friends), .d (D calls), .no] : List Sl), rfl, fun ts h => h_all_know_1 friends calls ts (HasL.wk (by rfl') h), by rfl', rfl, by rfl', fun r_198 => ⟨by rfl', rfl, ?_⟩⟩)))))))
        exact ss_endo (by rfl')
  · intro c o hh
    try dsimp only at hh
    split at hh <;> cases hh <;> exact ⟨_, _, rfl, rfl, by decide +kernel, by first | exact .inl rfl | exact rfl, by rfl'⟩
  · refine SS.at [.d (D choice), .d (D friends), .d (D calls), .no] ?_
    exact ss_ret (se_c (by decide +kernel) (⟨_, rfl, by rfl', by rfl'⟩))
/- checked_calls_2 (List Str) (List (List Str)) -> (List (List Str)) -/
def checked_calls_2 (friends : (List Str)) (calls : (List (List Str))) : Rs (List (List Str)) :=
 (checked_friends friends).bd fun r_199 =>
 (foldM (fun (s_200 : Unit) call_201 =>
 (((if (!false) = true then .ok true else (((if (!decide ((call_201.length : Int) = (2 : Int))) = true then .ok true else ((ixL call_201 (0 : Int)).bd fun t_202 =>
 (ixL call_201 (1 : Int)).bd fun t_203 =>
 .ok (decide (t_202 = t_203)) : Rs Bool))).bd fun b_204 =>
 .ok b_204 : Rs Bool))).bd fun b_205 =>
 if b_205 = true then
 (.exc 4)
 else
 ((ixL call_201 (0 : Int)).bd fun t_206 =>
 ((if (!mem t_206 r_199) = true then .ok true else ((ixL call_201 (1 : Int)).bd fun t_207 =>
 .ok (!mem t_207 r_199) : Rs Bool))).bd fun b_208 =>
 if b_208 = true then
 (.exc 4)
 else
 (.ok ())))) calls ()).bd fun s_200 =>
 .ok calls
def checked_calls_2_c (i : Nat) (C : Orc) : Prop := ∀ (friends : (List Str)) (calls : (List (List Str))) (ts : List T), HasL [.d (D friends), .d (D calls)] ts → CSat (checked_calls_2 friends calls) (fun r : (List (List Str)) => (.l (List.map D r), [.d (D friends), .d (D calls)])) [.d (D friends), .d (D calls)] (C i ts)
theorem checked_calls_2_ok {C : Orc} (h_checked_friends : checked_friends_c 2 C) : checked_calls_2_c 0 (fun _ ts => f_checked_calls.run C ts) := by
  intro friends calls ts hts
  refine fn_of (Df := f_checked_calls) (F := fun r : (List (List Str)) => (.l (List.map D r), [.d (D friends), .d (D calls), .any, .any])) (X := [.d (D friends), .d (D calls), .any, .any]) (A := [.d (D friends), .d (D calls)]) rfl ?_ hts
  unfold checked_calls_2
  refine SS.at [.d (D friends), .d (D calls), .no, .no] ?_
  refine ss_asgd (se_call rfl (sa_cons (so_v rfl rfl (sa_nil (⟨_, _, _, _, [.d (D friends), .d (D calls), .no, .no], fun r_199 : (List Str) => ([.d (D friends), .d (D calls), .no, .no] : List Sl), rfl, fun ts h => h_checked_friends friends ts (HasL.wk (by rfl') h), by rfl', rfl, by rfl', fun r_199 => ⟨by rfl', rfl, ⟨_, rfl, ?_⟩⟩⟩)))))
  refine SS.at [.d (D friends), .d (D calls), .d (D r_199), .no] ?_
  refine ss_fold (α := (List Str)) (σ := Unit) (sc_seq (se_v rfl rfl (⟨_, rfl, ⟨calls, (), (fun s_200 : Unit => ([.d (D friends), .d (D calls), .d (D r_199), .no] : List Sl)), _, _, rfl, rfl, by rfl', fun s_200 call_201 => ⟨_, rfl, ?_⟩, fun s_200 => ?_⟩⟩)))
  · refine SS.at [.d (D friends), .d (D calls), .d (D r_199), .f (D call_201)] ?_
    refine ss_if (sb_orm (sb_not (sb_of rfl (se_isi (by decide) (so_v rfl rfl (⟨false, rfl, i_dat rfl rfl, ⟨_, tr_d rfl rfl, ⟨_, _, _, rfl, sb_orm (sb_cmp (so_e rfl (se_fn (sa_cons (so_v rfl rfl (sa_nil (n_len (xs := call_201) rfl (so_e rfl (se_c rfl (a_ne (α := Int) (x := (call_201.length : Int)) (y := (2 : Int)) rfl rfl (⟨_, rfl, ⟨_, _, _, rfl, sb_cmp (so_e rfl (se_ix (so_v rfl rfl (so_e rfl (se_c rfl (a_ixL (xs := call_201) rfl rfl fun t_202 => so_e rfl (se_ix (so_v rfl rfl (so_e rfl (se_c rfl (a_ixL (xs := call_201) rfl rfl fun t_203 => a_eq (α := Str) (x := t_202) (y := t_203) rfl rfl (⟨_, rfl, ⟨rfl, Wk.r⟩⟩)))))))))))), Wk.r, fun b_204 => ⟨rfl, Wk.r⟩⟩⟩))))))))))), Wk.r, fun b_205 => ⟨_, _, rfl, ?_, ?_⟩⟩⟩⟩))))))
    · refine SS.at [.d (D friends), .d (D calls), .d (D r_199), .f (D call_201)] ?_
      exact ss_rse (se_c (by decide +kernel) (⟨rfl, by rfl'⟩))
    · refine SS.at [.d (D friends), .d (D calls), .d (D r_199), .f (D call_201)] ?_
      refine ss_if (sb_orm (sb_cmp (so_e rfl (se_ix (so_v rfl rfl (so_e rfl (se_c rfl (a_ixL (xs := call_201) rfl rfl fun t_206 => so_v rfl rfl (a_nin (α := Str) (x := t_206) (ys := r_199) rfl rfl (⟨_, rfl, ⟨_, _, _, rfl, sb_cmp (so_e rfl (se_ix (so_v rfl rfl (so_e rfl (se_c rfl (a_ixL (xs := call_201) rfl rfl fun t_207 => so_v rfl rfl (a_nin (α := Str) (x := t_207) (ys := r_199) rfl rfl (⟨_, rfl, ⟨rfl, Wk.r⟩⟩)))))))), Wk.r, fun b_208 => ⟨_, _, rfl, ?_, ?_⟩⟩⟩))))))))))
      · refine SS.at [.d (D friends), .d (D calls), .d (D r_199), .f (D call_201)] ?_
        exact ss_rse (se_c (by decide +kernel) (⟨rfl, by rfl'⟩))
      · exact ss_end (by rfl')
  · refine SS.at [.d (D friends), .d (D calls), .d (D r_199), .no] ?_
    exact ss_ret (se_fn (sa_cons (so_v rfl rfl (sa_nil (n_list rfl (⟨_, rfl, by rfl', by rfl'⟩))))))
/- known_2 (List Str) (List (List Str)) -> (List (Str × (List Str))) -/
-- BADPART known_2: pattern (one, other) of ('L', ('S',))
def known_2 (friends : (List Str)) (calls : (List (List Str))) : Rs (List (Str × (List Str))) :=
 (checked_friends friends).bd fun r_209 =>
 (dcompM (κ := Str) (ν := (List Str)) r_209 (fun name_210 => .ok (name_210, ([name_210] : List Str)))).bd fun d_211 =>
 (checked_calls_2 r_209 calls).bd fun r_212 =>
 .bad
def known_2_c (i : Nat) (C : Orc) : Prop := ∀ (friends : (List Str)) (calls : (List (List Str))) (ts : List T), HasL [.d (D friends), .d (D calls)] ts → CSat (known_2 friends calls) (fun r : (List (Str × (List Str))) => (.l (List.map D r), [.d (D friends), .d (D calls)])) [.d (D friends), .d (D calls)] (C i ts)
theorem known_2_ok {C : Orc} (h_checked_calls_2 : checked_calls_2_c 3 C) (h_checked_friends : checked_friends_c 2 C) : known_2_c 0 (fun _ ts => f_known.run C ts) := by
  intro friends calls ts hts
  refine fn_of (Df := f_known) (F := fun r : (List (Str × (List Str))) => (.l (List.map D r), [.d (D friends), .d (D calls), .any, .any, .any, .any, .any, .any])) (X := [.d (D friends), .d (D calls), .any, .any, .any, .any, .any, .any]) (A := [.d (D friends), .d (D calls)]) rfl ?_ hts
  unfold known_2
  refine SS.at [.d (D friends), .d (D calls), .no, .no, .no, .no, .no, .no] ?_
  refine ss_asgd (se_call rfl (sa_cons (so_v rfl rfl (sa_nil (⟨_, _, _, _, [.d (D friends), .d (D calls), .no, .no, .no, .no, .no, .no], fun r_209 : (List Str) => ([.d (D friends), .d (D calls), .no, .no, .no, .no, .no, .no] : List Sl), rfl, fun ts h => h_checked_friends friends ts (HasL.wk (by rfl') h), by rfl', rfl, by rfl', fun r_209 => ⟨by rfl', rfl, ⟨_, rfl, ?_⟩⟩⟩)))))
  refine SS.at [.d (D friends), .d (D calls), .d (D r_209), .no, .no, .no, .no, .no] ?_
  refine ss_asg (se_dcomp (α := Str) (κ := Str) (ν := (List Str)) rfl (sc_seq (se_v rfl rfl (⟨_, rfl, ⟨r_209, [.d (D friends), .d (D calls), .d (D r_209), .no, .no, .no, .no, .no], (fun name_210 : Str => ([.d (D friends), .d (D calls), .d (D r_209), .no, .no, .no, .no, .f (D name_210)] : List Sl)), _, _, rfl, rfl, by rfl', rfl, fun _ => rfl, fun name_210 => se_v rfl rfl (⟨name_210, rfl, se_lst (sl_cons (se_v rfl rfl (⟨_, rfl, sl_nil (⟨(show 1 ≤ LINE by decide), ⟨([name_210] : List Str), rfl, rfl, by rfl'⟩⟩)⟩)))⟩), fun d_211 => ?_⟩⟩))))
  refine SS.at [.d (D friends), .d (D calls), .d (D r_209), .m (Ms d_211), .no, .no, .no, .no] ?_
  exact ss_forBad (sc_seq (se_call rfl (sa_cons (so_v rfl rfl (sa_cons (so_v rfl rfl (sa_nil (⟨_, _, _, _, [.d (D friends), .d (D calls), .d (D r_209), .m (Ms d_211), .no, .no, .no, .no], fun r_212 : (List (List Str)) => ([.d (D friends), .d (D calls), .d (D r_209), .m (Ms d_211), .no, .no, .no, .no] : List Sl), rfl, fun ts h => h_checked_calls_2 r_209 calls ts (HasL.wk (by rfl') h), by rfl', rfl, by rfl', fun r_212 => ⟨by rfl', rfl, ⟨_, rfl, rfl⟩⟩⟩))))))))
/- all_know_2 (List Str) (List (List Str)) -> Bool -/
def all_know_2 (friends : (List Str)) (calls : (List (List Str))) : Rs Bool :=
 (checked_friends friends).bd fun r_213 =>
 (known_2 r_213 calls).bd fun r_214 =>
 (compM (β := Str) r_214 (fun p_215 => .ok (!decide (p_215.2 = r_213))) (fun p_215 => .ok p_215.1)).bd fun c_216 =>
 .ok (!(!c_216.isEmpty))
def all_know_2_c (i : Nat) (C : Orc) : Prop := ∀ (friends : (List Str)) (calls : (List (List Str))) (ts : List T), HasL [.d (D friends), .d (D calls)] ts → CSat (all_know_2 friends calls) (fun r : Bool => (.d (D r), [.d (D friends), .d (D calls)])) [.d (D friends), .d (D calls)] (C i ts)
theorem all_know_2_ok {C : Orc} (h_checked_friends : checked_friends_c 2 C) (h_known_2 : known_2_c 4 C) : all_know_2_c 0 (fun _ ts => f_all_know.run C ts) := by
  intro friends calls ts hts
  refine fn_of (Df := f_all_know) (F := fun r : Bool => (.d (D r), [.d (D friends), .d (D calls), .any, .any, .any])) (X := [.d (D friends), .d (D calls), .any, .any, .any]) (A := [.d (D friends), .d (D calls)]) rfl ?_ hts
  unfold all_know_2
  refine SS.at [.d (D friends), .d (D calls), .no, .no, .no] ?_
  refine ss_asgd (se_call rfl (sa_cons (so_v rfl rfl (sa_nil (⟨_, _, _, _, [.d (D friends), .d (D calls), .no, .no, .no], fun r_213 : (List Str) => ([.d (D friends), .d (D calls), .no, .no, .no] : List Sl), rfl, fun ts h => h_checked_friends friends ts (HasL.wk (by rfl') h), by rfl', rfl, by rfl', fun r_213 => ⟨by rfl', rfl, ⟨_, rfl, ?_⟩⟩⟩)))))
  refine SS.at [.d (D friends), .d (D calls), .d (D r_213), .no, .no] ?_
  exact ss_ret (se_not (so_e rfl (se_comp (α := (Str × (List Str))) (β := Str) rfl (sc_seq (se_call rfl (sa_cons (so_v rfl rfl (sa_cons (so_v rfl rfl (sa_nil (⟨_, _, _, _, [.d (D friends), .d (D calls), .d (D r_213), .no, .no], fun r_214 : (List (Str × (List Str))) => ([.d (D friends), .d (D calls), .d (D r_213), .no, .no] : List Sl), rfl, fun ts h => h_known_2 r_213 calls ts (HasL.wk (by rfl') h), by rfl', rfl, by rfl', fun r_214 => ⟨by rfl', rfl, ⟨_, rfl, ⟨r_214, [.d (D friends), .d (D calls), .d (D r_213), .no, .no], (fun p_215 : (Str × (List Str)) => ([.d (D friends), .d (D calls), .d (D r_213), .f (D p_215.1), .f (D p_215.2)] : List Sl)), _, _, _, rfl, rfl, by rfl', rfl, fun _ => rfl, fun p_215 => sn_one (sb_cmp (so_v rfl rfl (so_v rfl rfl (a_ne (α := (List Str)) (x := p_215.2) (y := r_213) rfl rfl (⟨_, rfl, ⟨rfl, by rfl', by rfl'⟩⟩))))), fun p_215 => se_v rfl rfl (⟨p_215.1, rfl, rfl, by rfl'⟩), fun c_216 => ⟨_, rfl, tr_L (xs := c_216) rfl, ⟨_, rfl, by rfl', by rfl'⟩⟩⟩⟩⟩⟩)))))))))))
/- law_refused_2 Int (List Str) (List (List Str)) -> Str -/
def law_refused_2 (choice : Int) (friends : (List Str)) (calls : (List (List Str))) : Rs Str :=
 (Rs.trf (α := O Unit Str)
 (if (decide (choice = (0 : Int))) = true then
 ((checked_friends friends).bd fun r_218 =>
 .ok (.nx ()))
 else
 (if (decide (choice = (1 : Int))) = true then
 ((checked_calls_2 friends calls).bd fun r_219 =>
 .ok (.nx ()))
 else
 ((all_know_2 friends calls).bd fun r_220 =>
 .ok (.nx ())))) (fun _ => true) (fun c => match c with | 0 => some (O.rt (⟨#[115, 101, 118, 101, 114, 97, 108]⟩ : Str)) | 1 => some (O.rt (⟨#[110, 97, 109, 101]⟩ : Str)) | 2 => some (O.rt (⟨#[116, 119, 105, 99, 101]⟩ : Str)) | 3 => some (O.rt (⟨#[109, 97, 110, 121]⟩ : Str)) | 4 => some (O.rt (⟨#[112, 97, 112, 101, 114]⟩ : Str)) | _ => none)).obd (fun x => x) fun s_217 =>
 .ok (⟨#[110, 111, 110, 101]⟩ : Str)
def law_refused_2_c (i : Nat) (C : Orc) : Prop := ∀ (choice : Int) (friends : (List Str)) (calls : (List (List Str))) (ts : List T), HasL [.d (D choice), .d (D friends), .d (D calls)] ts → CSat (law_refused_2 choice friends calls) (fun r : Str => (.d (D r), [.d (D choice), .d (D friends), .d (D calls)])) [.d (D choice), .d (D friends), .d (D calls)] (C i ts)
theorem law_refused_2_ok {C : Orc} (h_all_know_2 : all_know_2_c 5 C) (h_checked_calls_2 : checked_calls_2_c 3 C) (h_checked_friends : checked_friends_c 2 C) : law_refused_2_c 0 (fun _ ts => f_law_refused.run C ts) := by
  intro choice friends calls ts hts
  refine fn_of (Df := f_law_refused) (F := fun r : Str => (.d (D r), [.d (D choice), .d (D friends), .d (D calls), .any])) (X := [.d (D choice), .d (D friends), .d (D calls), .any]) (A := [.d (D choice), .d (D friends), .d (D calls)]) rfl ?_ hts
  unfold law_refused_2
  refine SS.at [.d (D choice), .d (D friends), .d (D calls), .no] ?_
  refine ss_trf (fun s_217 : Unit => ([.d (D choice), .d (D friends), .d (D calls), .no] : List Sl)) (fun x => x) Ans.top ?_ ?_ (fun s_217 => ?_)
  · refine SS.at [.d (D choice), .d (D friends), .d (D calls), .no] ?_
    refine ss_if (sb_cmp (so_v rfl rfl (so_e rfl (se_c rfl (a_eq (α := Int) (x := choice) (y := (0 : Int)) rfl rfl (⟨_, rfl, ⟨_, _, rfl, ?_, ?_⟩⟩))))))
    · refine SS.at [.d (D choice), .d (D friends), .d (D calls), .no] ?_
      refine ss_ex (se_call rfl (sa_cons (so_v rfl rfl (sa_nil (⟨_, _, _, _, [.d (D choice), .d (D friends), .d (D calls), .no], fun r_218 : (List Str) => ([.d (D choice), .d (D friends), .d (D calls), .no] : List Sl), rfl, fun ts h => h_checked_friends friends ts (HasL.wk (by rfl') h), by rfl', rfl, by rfl', fun r_218 => ⟨by rfl', rfl, ?_⟩⟩)))))
      exact ss_endo (by rfl')
    · refine SS.at [.d (D choice), .d (D friends), .d (D calls), .no] ?_
      refine ss_if (sb_cmp (so_v rfl rfl (so_e rfl (se_c rfl (a_eq (α := Int) (x := choice) (y := (1 : Int)) rfl rfl (⟨_, rfl, ⟨_, _, rfl, ?_, ?_⟩⟩))))))
      · refine SS.at [.d (D choice), .d (D friends), .d (D calls), .no] ?_
        refine ss_ex (se_call rfl (sa_cons (so_v rfl rfl (sa_cons (so_v rfl rfl (sa_nil (⟨_, _, _, _, [.d (D choice), .d (D friends), .d (D calls), .no], fun r_219 : (List (List Str)) => ([.d (D choice), .d (D friends), .d (D calls), .no] : List Sl), rfl, fun ts h => h_checked_calls_2 friends calls ts (HasL.wk (by rfl') h), by rfl', rfl, by rfl', fun r_219 => ⟨by rfl', rfl, ?_⟩⟩)))))))
        exact ss_endo (by rfl')
      · refine SS.at [.d (D choice), .d (D friends), .d (D calls), .no] ?_
        refine ss_ex (se_call rfl (sa_cons (so_v rfl rfl (sa_cons (so_v rfl rfl (sa_nil (⟨_, _, _, _, [.d (D choice), .d (D friends), .d (D calls), .no], fun r_220 : Bool => ([.d (D choice), .d (D friends), .d (D calls), .no] : List Sl), rfl, fun ts h => h_all_know_2 friends calls ts (HasL.wk (by rfl') h), by rfl', rfl, by rfl', fun r_220 => ⟨by rfl', rfl, ?_⟩⟩)))))))
        exact ss_endo (by rfl')
  · intro c o hh
    try dsimp only at hh
    split at hh <;> cases hh <;> exact ⟨_, _, rfl, rfl, by decide +kernel, by first | exact .inl rfl | exact rfl, by rfl'⟩
  · refine SS.at [.d (D choice), .d (D friends), .d (D calls), .no] ?_
    exact ss_ret (se_c (by decide +kernel) (⟨_, rfl, by rfl', by rfl'⟩))
/- checked_calls_3 (List Str) Int -> (List PyData) -/
-- BADPART checked_calls_3: source ('I',) calls
def checked_calls_3 (friends : (List Str)) (calls : Int) : Rs (List PyData) :=
 (checked_friends friends).bd fun r_221 =>
 .bad
def checked_calls_3_c (i : Nat) (C : Orc) : Prop := ∀ (friends : (List Str)) (calls : Int) (ts : List T), HasL [.d (D friends), .d (D calls)] ts → CSat (checked_calls_3 friends calls) (fun r : (List PyData) => (.l (List.map D r), [.d (D friends), .d (D calls)])) [.d (D friends), .d (D calls)] (C i ts)
theorem checked_calls_3_ok {C : Orc} (h_checked_friends : checked_friends_c 2 C) : checked_calls_3_c 0 (fun _ ts => f_checked_calls.run C ts) := by
  intro friends calls ts hts
  refine fn_of (Df := f_checked_calls) (F := fun r : (List PyData) => (.l (List.map D r), [.d (D friends), .d (D calls), .any, .any])) (X := [.d (D friends), .d (D calls), .any, .any]) (A := [.d (D friends), .d (D calls)]) rfl ?_ hts
  unfold checked_calls_3
  refine SS.at [.d (D friends), .d (D calls), .no, .no] ?_
  refine ss_asgd (se_call rfl (sa_cons (so_v rfl rfl (sa_nil (⟨_, _, _, _, [.d (D friends), .d (D calls), .no, .no], fun r_221 : (List Str) => ([.d (D friends), .d (D calls), .no, .no] : List Sl), rfl, fun ts h => h_checked_friends friends ts (HasL.wk (by rfl') h), by rfl', rfl, by rfl', fun r_221 => ⟨by rfl', rfl, ⟨_, rfl, ?_⟩⟩⟩)))))
  exact SS.bad
/- known_3 (List Str) Int -> (List (Str × (List Str))) -/
-- BADPART known_3: pattern (one, other) of ('X',)
def known_3 (friends : (List Str)) (calls : Int) : Rs (List (Str × (List Str))) :=
 (checked_friends friends).bd fun r_222 =>
 (dcompM (κ := Str) (ν := (List Str)) r_222 (fun name_223 => .ok (name_223, ([name_223] : List Str)))).bd fun d_224 =>
 (checked_calls_3 r_222 calls).bd fun r_225 =>
 .bad
def known_3_c (i : Nat) (C : Orc) : Prop := ∀ (friends : (List Str)) (calls : Int) (ts : List T), HasL [.d (D friends), .d (D calls)] ts → CSat (known_3 friends calls) (fun r : (List (Str × (List Str))) => (.l (List.map D r), [.d (D friends), .d (D calls)])) [.d (D friends), .d (D calls)] (C i ts)
theorem known_3_ok {C : Orc} (h_checked_calls_3 : checked_calls_3_c 3 C) (h_checked_friends : checked_friends_c 2 C) : known_3_c 0 (fun _ ts => f_known.run C ts) := by
  intro friends calls ts hts
  refine fn_of (Df := f_known) (F := fun r : (List (Str × (List Str))) => (.l (List.map D r), [.d (D friends), .d (D calls), .any, .any, .any, .any, .any, .any])) (X := [.d (D friends), .d (D calls), .any, .any, .any, .any, .any, .any]) (A := [.d (D friends), .d (D calls)]) rfl ?_ hts
  unfold known_3
  refine SS.at [.d (D friends), .d (D calls), .no, .no, .no, .no, .no, .no] ?_
  refine ss_asgd (se_call rfl (sa_cons (so_v rfl rfl (sa_nil (⟨_, _, _, _, [.d (D friends), .d (D calls), .no, .no, .no, .no, .no, .no], fun r_222 : (List Str) => ([.d (D friends), .d (D calls), .no, .no, .no, .no, .no, .no] : List Sl), rfl, fun ts h => h_checked_friends friends ts (HasL.wk (by rfl') h), by rfl', rfl, by rfl', fun r_222 => ⟨by rfl', rfl, ⟨_, rfl, ?_⟩⟩⟩)))))
  refine SS.at [.d (D friends), .d (D calls), .d (D r_222), .no, .no, .no, .no, .no] ?_
  refine ss_asg (se_dcomp (α := Str) (κ := Str) (ν := (List Str)) rfl (sc_seq (se_v rfl rfl (⟨_, rfl, ⟨r_222, [.d (D friends), .d (D calls), .d (D r_222), .no, .no, .no, .no, .no], (fun name_223 : Str => ([.d (D friends), .d (D calls), .d (D r_222), .no, .no, .no, .no, .f (D name_223)] : List Sl)), _, _, rfl, rfl, by rfl', rfl, fun _ => rfl, fun name_223 => se_v rfl rfl (⟨name_223, rfl, se_lst (sl_cons (se_v rfl rfl (⟨_, rfl, sl_nil (⟨(show 1 ≤ LINE by decide), ⟨([name_223] : List Str), rfl, rfl, by rfl'⟩⟩)⟩)))⟩), fun d_224 => ?_⟩⟩))))
  refine SS.at [.d (D friends), .d (D calls), .d (D r_222), .m (Ms d_224), .no, .no, .no, .no] ?_
  exact ss_forBad (sc_seq (se_call rfl (sa_cons (so_v rfl rfl (sa_cons (so_v rfl rfl (sa_nil (⟨_, _, _, _, [.d (D friends), .d (D calls), .d (D r_222), .m (Ms d_224), .no, .no, .no, .no], fun r_225 : (List PyData) => ([.d (D friends), .d (D calls), .d (D r_222), .m (Ms d_224), .no, .no, .no, .no] : List Sl), rfl, fun ts h => h_checked_calls_3 r_222 calls ts (HasL.wk (by rfl') h), by rfl', rfl, by rfl', fun r_225 => ⟨by rfl', rfl, ⟨_, rfl, rfl⟩⟩⟩))))))))
/- all_know_3 (List Str) Int -> Bool -/
def all_know_3 (friends : (List Str)) (calls : Int) : Rs Bool :=
 (checked_friends friends).bd fun r_226 =>
 (known_3 r_226 calls).bd fun r_227 =>
 (compM (β := Str) r_227 (fun p_228 => .ok (!decide (p_228.2 = r_226))) (fun p_228 => .ok p_228.1)).bd fun c_229 =>
 .ok (!(!c_229.isEmpty))
def all_know_3_c (i : Nat) (C : Orc) : Prop := ∀ (friends : (List Str)) (calls : Int) (ts : List T), HasL [.d (D friends), .d (D calls)] ts → CSat (all_know_3 friends calls) (fun r : Bool => (.d (D r), [.d (D friends), .d (D calls)])) [.d (D friends), .d (D calls)] (C i ts)
theorem all_know_3_ok {C : Orc} (h_checked_friends : checked_friends_c 2 C) (h_known_3 : known_3_c 4 C) : all_know_3_c 0 (fun _ ts => f_all_know.run C ts) := by
  intro friends calls ts hts
  refine fn_of (Df := f_all_know) (F := fun r : Bool => (.d (D r), [.d (D friends), .d (D calls), .any, .any, .any])) (X := [.d (D friends), .d (D calls), .any, .any, .any]) (A := [.d (D friends), .d (D calls)]) rfl ?_ hts
  unfold all_know_3
  refine SS.at [.d (D friends), .d (D calls), .no, .no, .no] ?_
  refine ss_asgd (se_call rfl (sa_cons (so_v rfl rfl (sa_nil (⟨_, _, _, _, [.d (D friends), .d (D calls), .no, .no, .no], fun r_226 : (List Str) => ([.d (D friends), .d (D calls), .no, .no, .no] : List Sl), rfl, fun ts h => h_checked_friends friends ts (HasL.wk (by rfl') h), by rfl', rfl, by rfl', fun r_226 => ⟨by rfl', rfl, ⟨_, rfl, ?_⟩⟩⟩)))))
  refine SS.at [.d (D friends), .d (D calls), .d (D r_226), .no, .no] ?_
  exact ss_ret (se_not (so_e rfl (se_comp (α := (Str × (List Str))) (β := Str) rfl (sc_seq (se_call rfl (sa_cons (so_v rfl rfl (sa_cons (so_v rfl rfl (sa_nil (⟨_, _, _, _, [.d (D friends), .d (D calls), .d (D r_226), .no, .no], fun r_227 : (List (Str × (List Str))) => ([.d (D friends), .d (D calls), .d (D r_226), .no, .no] : List Sl), rfl, fun ts h => h_known_3 r_226 calls ts (HasL.wk (by rfl') h), by rfl', rfl, by rfl', fun r_227 => ⟨by rfl', rfl, ⟨_, rfl, ⟨r_227, [.d (D friends), .d (D calls), .d (D r_226), .no, .no], (fun p_228 : (Str × (List Str)) => ([.d (D friends), .d (D calls), .d (D r_226), .f (D p_228.1), .f (D p_228.2)] : List Sl)), _, _, _, rfl, rfl, by rfl', rfl, fun _ => rfl, fun p_228 => sn_one (sb_cmp (so_v rfl rfl (so_v rfl rfl (a_ne (α := (List Str)) (x := p_228.2) (y := r_226) rfl rfl (⟨_, rfl, ⟨rfl, by rfl', by rfl'⟩⟩))))), fun p_228 => se_v rfl rfl (⟨p_228.1, rfl, rfl, by rfl'⟩), fun c_229 => ⟨_, rfl, tr_L (xs := c_229) rfl, ⟨_, rfl, by rfl', by rfl'⟩⟩⟩⟩⟩⟩)))))))))))
/- law_refused_3 Int (List Str) Int -> Str -/
def law_refused_3 (choice : Int) (friends : (List Str)) (calls : Int) : Rs Str :=
 (Rs.trf (α := O Unit Str)
 (if (decide (choice = (0 : Int))) = true then
 ((checked_friends friends).bd fun r_231 =>
 .ok (.nx ()))
 else
 (if (decide (choice = (1 : Int))) = true then
 ((checked_calls_3 friends calls).bd fun r_232 =>
 .ok (.nx ()))
 else
 ((all_know_3 friends calls).bd fun r_233 =>
 .ok (.nx ())))) (fun _ => true) (fun c => match c with | 0 => some (O.rt (⟨#[115, 101, 118, 101, 114, 97, 108]⟩ : Str)) | 1 => some (O.rt (⟨#[110, 97, 109, 101]⟩ : Str)) | 2 => some (O.rt (⟨#[116, 119, 105, 99, 101]⟩ : Str)) | 3 => some (O.rt (⟨#[109, 97, 110, 121]⟩ : Str)) | 4 => some (O.rt (⟨#[112, 97, 112, 101, 114]⟩ : Str)) | _ => none)).obd (fun x => x) fun s_230 =>
 .ok (⟨#[110, 111, 110, 101]⟩ : Str)
def law_refused_3_c (i : Nat) (C : Orc) : Prop := ∀ (choice : Int) (friends : (List Str)) (calls : Int) (ts : List T), HasL [.d (D choice), .d (D friends), .d (D calls)] ts → CSat (law_refused_3 choice friends calls) (fun r : Str => (.d (D r), [.d (D choice), .d (D friends), .d (D calls)])) [.d (D choice), .d (D friends), .d (D calls)] (C i ts)
theorem law_refused_3_ok {C : Orc} (h_all_know_3 : all_know_3_c 5 C) (h_checked_calls_3 : checked_calls_3_c 3 C) (h_checked_friends : checked_friends_c 2 C) : law_refused_3_c 0 (fun _ ts => f_law_refused.run C ts) := by
  intro choice friends calls ts hts
  refine fn_of (Df := f_law_refused) (F := fun r : Str => (.d (D r), [.d (D choice), .d (D friends), .d (D calls), .any])) (X := [.d (D choice), .d (D friends), .d (D calls), .any]) (A := [.d (D choice), .d (D friends), .d (D calls)]) rfl ?_ hts
  unfold law_refused_3
  refine SS.at [.d (D choice), .d (D friends), .d (D calls), .no] ?_
  refine ss_trf (fun s_230 : Unit => ([.d (D choice), .d (D friends), .d (D calls), .no] : List Sl)) (fun x => x) Ans.top ?_ ?_ (fun s_230 => ?_)
  · refine SS.at [.d (D choice), .d (D friends), .d (D calls), .no] ?_
    refine ss_if (sb_cmp (so_v rfl rfl (so_e rfl (se_c rfl (a_eq (α := Int) (x := choice) (y := (0 : Int)) rfl rfl (⟨_, rfl, ⟨_, _, rfl, ?_, ?_⟩⟩))))))
    · refine SS.at [.d (D choice), .d (D friends), .d (D calls), .no] ?_
      refine ss_ex (se_call rfl (sa_cons (so_v rfl rfl (sa_nil (⟨_, _, _, _, [.d (D choice), .d (D friends), .d (D calls), .no], fun r_231 : (List Str) => ([.d (D choice), .d (D friends), .d (D calls), .no] : List Sl), rfl, fun ts h => h_checked_friends friends ts (HasL.wk (by rfl') h), by rfl', rfl, by rfl', fun r_231 => ⟨by rfl', rfl, ?_⟩⟩)))))
      exact ss_endo (by rfl')
    · refine SS.at [.d (D choice), .d (D friends), .d (D calls), .no] ?_
      refine ss_if (sb_cmp (so_v rfl rfl (so_e rfl (se_c rfl (a_eq (α := Int) (x := choice) (y := (1 : Int)) rfl rfl (⟨_, rfl, ⟨_, _, rfl, ?_, ?_⟩⟩))))))
      · refine SS.at [.d (D choice), .d (D friends), .d (D calls), .no] ?_
        refine ss_ex (se_call rfl (sa_cons (so_v rfl rfl (sa_cons (so_v rfl rfl (sa_nil (⟨_, _, _, _, [.d (D choice), .d (D friends), .d (D calls), .no], fun r_232 : (List PyData) => ([.d (D choice), .d (D friends), .d (D calls), .no] : List Sl), rfl, fun ts h => h_checked_calls_3 friends calls ts (HasL.wk (by rfl') h), by rfl', rfl, by rfl', fun r_232 => ⟨by rfl', rfl, ?_⟩⟩)))))))
        exact ss_endo (by rfl')
      · refine SS.at [.d (D choice), .d (D friends), .d (D calls), .no] ?_
        refine ss_ex (se_call rfl (sa_cons (so_v rfl rfl (sa_cons (so_v rfl rfl (sa_nil (⟨_, _, _, _, [.d (D choice), .d (D friends), .d (D calls), .no], fun r_233 : Bool => ([.d (D choice), .d (D friends), .d (D calls), .no] : List Sl), rfl, fun ts h => h_all_know_3 friends calls ts (HasL.wk (by rfl') h), by rfl', rfl, by rfl', fun r_233 => ⟨by rfl', rfl, ?_⟩⟩)))))))
        exact ss_endo (by rfl')
  · intro c o hh
    try dsimp only at hh
    split at hh <;> cases hh <;> exact ⟨_, _, rfl, rfl, by decide +kernel, by first | exact .inl rfl | exact rfl, by rfl'⟩
  · refine SS.at [.d (D choice), .d (D friends), .d (D calls), .no] ?_
    exact ss_ret (se_c (by decide +kernel) (⟨_, rfl, by rfl', by rfl'⟩))
/- law (List Int) -> Bool -/
def law (script : (List Int)) : Rs Bool :=
 (law_pool script).bd fun r_234 =>
 (law_names r_234 (6 : Int)).bd fun r_235 =>
 (law_draw r_235.2 (7 : Int)).bd fun r_236 =>
 (law_rule (isort leT (cut r_235.1 none (some r_236.1)))).bd fun r_237 =>
 (checked_friends (cut r_235.1 none (some r_236.1))).bd fun r_238 =>
 (sameR (α := (List Str)) r_238 (isort leT (cut r_235.1 none (some r_236.1)))).bd fun k_239 =>
 ((if (!k_239) = true then .ok true else ((plan (cut r_235.1 none (some r_236.1))).bd fun r_240 =>
 (sameR (α := (List (Str × Str))) r_240 r_237).bd fun k_241 =>
 ((if (!k_241) = true then .ok true else ((fewest (cut r_235.1 none (some r_236.1))).bd fun r_242 =>
 (sameR (α := Int) r_242 (r_237.length : Int)).bd fun k_243 =>
 .ok (!k_243) : Rs Bool))).bd fun b_244 =>
 .ok b_244 : Rs Bool))).bd fun b_245 =>
 if b_245 = true then
 (.ok false)
 else
 ((judge (cut r_235.1 none (some r_236.1)) r_237).bd fun r_246 =>
 ((if (!decide (r_246 = true)) = true then .ok true else ((compM (β := Str) (isort leT (cut r_235.1 none (some r_236.1))) (fun name_247 => (law_known (isort leT (cut r_235.1 none (some r_236.1))) r_237).bd fun r_248 =>
 (dget r_248 name_247).bd fun t_249 =>
 .ok (!decide (t_249 = (isort leT (cut r_235.1 none (some r_236.1)))))) (fun name_247 => .ok name_247)).bd fun c_250 =>
 .ok (decide ((0 : Int) < (c_250.length : Int))) : Rs Bool))).bd fun b_251 =>
 if b_251 = true then
 (.ok false)
 else
 (((if ((decide ((1 : Int) < ((isort leT (cut r_235.1 none (some r_236.1))).length : Int))) && (decide (((isort leT (cut r_235.1 none (some r_236.1))).length : Int) < (5 : Int)))) = true then ((law_reach (isort leT (cut r_235.1 none (some r_236.1))) ((r_237.length : Int) - (1 : Int))).bd fun r_252 =>
 .ok r_252 : Rs Bool) else .ok false)).bd fun b_253 =>
 if b_253 = true then
 (.ok false)
 else
 ((rng 0 (6 : Int)).bd fun ns_254 =>
 (forM' (ρ := Bool) (fun (s_255 : Pool) k_256 =>
 (((if (decide ((1 : Int) < ((isort leT (cut r_235.1 none (some r_236.1))).length : Int))) = true then
 ((law_calls s_255 (isort leT (cut r_235.1 none (some r_236.1))) (10 : Int)).bd fun r_257 =>
 (law_pick r_257.2 ([r_237, r_257.1, (List.reverse r_237)] : List (List (Str × Str)))).bd fun r_258 =>
 (law_draw r_258.2 (3 : Int)).bd fun r_259 =>
 (rng 0 r_259.1).bd fun ns_260 =>
 (foldM (fun (s_261 : (Pool × (List (Str × Str)))) j_262 =>
 ((law_draw s_261.1 ((s_261.2.length : Int) + (1 : Int))).bd fun r_263 =>
 (cat (cut s_261.2 none (some r_263.1)) (cut s_261.2 (some (r_263.1 + (1 : Int))) none)).bd fun t_264 =>
 (law_calls r_263.2 (isort leT (cut r_235.1 none (some r_236.1))) (1 : Int)).bd fun r_265 =>
 (cat (cut s_261.2 none (some r_263.1)) r_265.1).bd fun t_266 =>
 (cat t_266 (cut s_261.2 (some r_263.1) none)).bd fun t_267 =>
 (cat (cut s_261.2 (some r_263.1) none) (cut s_261.2 none (some r_263.1))).bd fun t_268 =>
 (law_pick r_265.2 ([t_264, t_267, t_268] : List (List (Str × Str)))).bd fun r_269 =>
 .ok (r_269.2, r_269.1))) ns_260 (r_259.2, r_258.1)).bd fun s_261 =>
 .ok (s_261.1, s_261.2))
 else
 (.ok (s_255, r_237))) : Rs (Pool × (List (Str × Str)))).bd fun s_270 =>
 (law_known (isort leT (cut r_235.1 none (some r_236.1))) s_270.2).bd fun r_271 =>
 (compM (β := Str) (isort leT (cut r_235.1 none (some r_236.1))) (fun name_272 => (dget r_271 name_272).bd fun t_273 =>
 .ok (!decide (t_273 = (isort leT (cut r_235.1 none (some r_236.1)))))) (fun name_272 => .ok name_272)).bd fun c_274 =>
 (known (cut r_235.1 none (some r_236.1)) s_270.2).bd fun r_275 =>
 (compM (β := (Str × (List Str))) (isort leT (cut r_235.1 none (some r_236.1))) (fun name_276 => .ok true) (fun name_276 => (dget r_271 name_276).bd fun t_277 =>
 .ok (name_276, t_277))).bd fun c_278 =>
 (sameR (α := (List (Str × (List Str)))) r_275 c_278).bd fun k_279 =>
 ((if (!k_279) = true then .ok true else ((all_know (cut r_235.1 none (some r_236.1)) s_270.2).bd fun r_280 =>
 (sameR (α := Bool) r_280 (decide ((c_274.length : Int) = (0 : Int)))).bd fun k_281 =>
 .ok (!k_281) : Rs Bool))).bd fun b_282 =>
 if b_282 = true then
 (.ok (.rt false))
 else
 ((judge (cut r_235.1 none (some r_236.1)) s_270.2).bd fun r_283 =>
 (sameR (α := Bool) r_283 ((decide ((c_274.length : Int) = (0 : Int))) && (decide ((s_270.2.length : Int) = (r_237.length : Int))))).bd fun k_284 =>
 ((if (!k_284) = true then .ok true else ((checked_calls (cut r_235.1 none (some r_236.1)) s_270.2).bd fun r_285 =>
 (sameR (α := (List (Str × Str))) r_285 s_270.2).bd fun k_286 =>
 .ok (!k_286) : Rs Bool))).bd fun b_287 =>
 if b_287 = true then
 (.ok (.rt false))
 else
 ((turned s_270.2).bd fun r_288 =>
 (sameR (α := (List (Str × Str))) r_288 (List.reverse s_270.2)).bd fun k_289 =>
 ((if (!k_289) = true then .ok true else ((all_know (cut r_235.1 none (some r_236.1)) r_288).bd fun r_290 =>
 .ok (!decide (r_290 = (decide ((c_274.length : Int) = (0 : Int))))) : Rs Bool))).bd fun b_291 =>
 if b_291 = true then
 (.ok (.rt false))
 else
 (.ok (.nx s_270.1)))))) ns_254 r_236.2).obd (fun x => x) fun s_255 =>
 (((law_refused (1 : Int) (cut r_235.1 none (some r_236.1)) ([((⟨#[110, 111, 98, 111, 100, 121, 104, 101, 114, 101]⟩ : Str), (⟨#[110, 111, 98, 111, 100, 121, 104, 101, 114, 101]⟩ : Str))] : List (Str × Str))).bd fun r_292 =>
 ((if (!decide (r_292 = (⟨#[112, 97, 112, 101, 114]⟩ : Str))) = true then .ok true else ((law_refused (2 : Int) (cut r_235.1 none (some r_236.1)) ([((⟨#[110, 111, 98, 111, 100, 121, 104, 101, 114, 101]⟩ : Str), (⟨#[110, 111, 98, 111, 100, 121, 104, 101, 114, 101]⟩ : Str))] : List (Str × Str))).bd fun r_293 =>
 .ok (!decide (r_293 = (⟨#[112, 97, 112, 101, 114]⟩ : Str))) : Rs Bool))).bd fun b_294 =>
 if b_294 = true then
 (.ok (.rt false))
 else
 (.ok (.nx ()))) : Rs (O Unit Bool)).obd (fun x => x) fun _ =>
 (((law_refused_1 (1 : Int) (cut r_235.1 none (some r_236.1)) ([(⟨(⟨#[97]⟩ : Str)⟩ : (Tu1 Str))] : List (Tu1 Str))).bd fun r_295 =>
 ((if (!decide (r_295 = (⟨#[112, 97, 112, 101, 114]⟩ : Str))) = true then .ok true else ((law_refused_1 (2 : Int) (cut r_235.1 none (some r_236.1)) ([(⟨(⟨#[97]⟩ : Str)⟩ : (Tu1 Str))] : List (Tu1 Str))).bd fun r_296 =>
 .ok (!decide (r_296 = (⟨#[112, 97, 112, 101, 114]⟩ : Str))) : Rs Bool))).bd fun b_297 =>
 if b_297 = true then
 (.ok (.rt false))
 else
 (.ok (.nx ()))) : Rs (O Unit Bool)).obd (fun x => x) fun _ =>
 (((law_refused_2 (1 : Int) (cut r_235.1 none (some r_236.1)) ([([(⟨#[97]⟩ : Str), (⟨#[98]⟩ : Str)] : List Str)] : List (List Str))).bd fun r_298 =>
 ((if (!decide (r_298 = (⟨#[112, 97, 112, 101, 114]⟩ : Str))) = true then .ok true else ((law_refused_2 (2 : Int) (cut r_235.1 none (some r_236.1)) ([([(⟨#[97]⟩ : Str), (⟨#[98]⟩ : Str)] : List Str)] : List (List Str))).bd fun r_299 =>
 .ok (!decide (r_299 = (⟨#[112, 97, 112, 101, 114]⟩ : Str))) : Rs Bool))).bd fun b_300 =>
 if b_300 = true then
 (.ok (.rt false))
 else
 (.ok (.nx ()))) : Rs (O Unit Bool)).obd (fun x => x) fun _ =>
 (((law_refused (1 : Int) (cut r_235.1 none (some r_236.1)) ([((⟨#[110, 111, 98, 111, 100, 121, 104, 101, 114, 101]⟩ : Str), (⟨#[110, 101, 119, 97]⟩ : Str))] : List (Str × Str))).bd fun r_301 =>
 ((if (!decide (r_301 = (⟨#[112, 97, 112, 101, 114]⟩ : Str))) = true then .ok true else ((law_refused (2 : Int) (cut r_235.1 none (some r_236.1)) ([((⟨#[110, 111, 98, 111, 100, 121, 104, 101, 114, 101]⟩ : Str), (⟨#[110, 101, 119, 97]⟩ : Str))] : List (Str × Str))).bd fun r_302 =>
 .ok (!decide (r_302 = (⟨#[112, 97, 112, 101, 114]⟩ : Str))) : Rs Bool))).bd fun b_303 =>
 if b_303 = true then
 (.ok (.rt false))
 else
 (.ok (.nx ()))) : Rs (O Unit Bool)).obd (fun x => x) fun _ =>
 (law_refused_3 (0 : Int) ([(⟨#[97]⟩ : Str), (⟨#[81]⟩ : Str)] : List Str) (0 : Int)).bd fun r_304 =>
 ((if (!decide (r_304 = (⟨#[110, 97, 109, 101]⟩ : Str))) = true then .ok true else ((law_refused_3 (0 : Int) ([(⟨#[97]⟩ : Str), (⟨#[98]⟩ : Str), (⟨#[97]⟩ : Str)] : List Str) (0 : Int)).bd fun r_305 =>
 .ok (!decide (r_305 = (⟨#[116, 119, 105, 99, 101]⟩ : Str))) : Rs Bool))).bd fun b_306 =>
 if b_306 = true then
 (.ok false)
 else
 ((rng 0 (21 : Int)).bd fun ns_307 =>
 (compM (β := Str) ns_307 (fun k_308 => .ok true) (fun k_308 => .ok (⟨#[97]⟩ : Str))).bd fun c_309 =>
 (law_refused_3 (0 : Int) c_309 (0 : Int)).bd fun r_310 =>
 .ok (decide (r_310 = (⟨#[109, 97, 110, 121]⟩ : Str)))))))
def law_c (i : Nat) (C : Orc) : Prop := ∀ (script : (List Int)) (ts : List T), HasL [.s script] ts → CSat (law script) (fun r : Bool => (.d (D r), [.s script])) [.s script] (C i ts)
theorem law_ok {C : Orc} (h_law_same : same_c 8 10 C) (h_all_know : all_know_c 5 C) (h_checked_calls : checked_calls_c 3 C) (h_checked_friends : checked_friends_c 2 C) (h_fewest : fewest_c 6 C) (h_judge : judge_c 8 C) (h_known : known_c 4 C) (h_law_calls : law_calls_c 16 C) (h_law_draw : law_draw_c 12 C) (h_law_known : law_known_c 15 C) (h_law_names : law_names_c 14 C) (h_law_pick : law_pick_c 13 C) (h_law_pool : law_pool_c 11 C) (h_law_reach : law_reach_c 18 C) (h_law_refused : law_refused_c 19 C) (h_law_refused_1 : law_refused_1_c 19 C) (h_law_refused_2 : law_refused_2_c 19 C) (h_law_refused_3 : law_refused_3_c 19 C) (h_law_rule : law_rule_c 17 C) (h_plan : plan_c 7 C) (h_turned : turned_c 9 C) : law_c 0 (fun _ ts => f_law.run C ts) := by
  intro script ts hts
  refine fn_of (Df := f_law) (F := fun r : Bool => (.d (D r), [.s script, .any, .any, .any, .any, .any, .any, .any, .any, .any, .any, .any, .any, .any])) (X := [.s script, .any, .any, .any, .any, .any, .any, .any, .any, .any, .any, .any, .any, .any]) (A := [.s script]) rfl ?_ hts
  unfold law
  refine SS.at [.s script, .no, .no, .no, .no, .no, .no, .no, .no, .no, .no, .no, .no, .no] ?_
  refine ss_asg (se_call rfl (sa_cons (so_v rfl rfl (sa_nil (⟨_, _, _, _, [.s script, .no, .no, .no, .no, .no, .no, .no, .no, .no, .no, .no, .no, .no], fun r_234 : Pool => ([.s script, .no, .no, .no, .no, .no, .no, .no, .no, .no, .no, .no, .no, .no] : List Sl), rfl, fun ts h => h_law_pool script ts (HasL.wk (by rfl') h), by rfl', rfl, by rfl', fun r_234 => ⟨by rfl', rfl, ?_⟩⟩)))))
  refine SS.at [.s script, .l (PD r_234), .no, .no, .no, .no, .no, .no, .no, .no, .no, .no, .no, .no] ?_
  refine ss_asgd (se_sl (so_e rfl (se_call rfl (sa_cons (so_v rfl rfl (sa_cons (so_e rfl (se_c rfl (sa_nil (⟨_, _, _, _, [.s script, .any, .no, .no, .no, .no, .no, .no, .no, .no, .no, .no, .no, .no], fun r_235 : ((List Str) × Pool) => ([.s script, .l (PD r_235.2), .no, .no, .no, .no, .no, .no, .no, .no, .no, .no, .no, .no] : List Sl), rfl, fun ts h => h_law_names r_234 (6 : Int) ts (HasL.wk (by rfl') h), by rfl', rfl, by rfl', fun r_235 => ⟨by rfl', rfl, sp_nil (sp_cons (se_call rfl (sa_cons (so_v rfl rfl (sa_cons (so_e rfl (se_c rfl (sa_nil (⟨_, _, _, _, [.s script, .any, .no, .no, .no, .no, .no, .no, .no, .no, .no, .no, .no, .no], fun r_236 : (Int × Pool) => ([.s script, .l (PD r_236.2), .no, .no, .no, .no, .no, .no, .no, .no, .no, .no, .no, .no] : List Sl), rfl, fun ts h => h_law_draw r_235.2 (7 : Int) ts (HasL.wk (by rfl') h), by rfl', rfl, by rfl', fun r_236 => ⟨by rfl', rfl, ⟨_, rfl, ⟨rfl, _, sl_l (xs := r_235.1) rfl, ⟨_, rfl, ?_⟩⟩⟩⟩⟩)))))))))⟩⟩))))))))))
  refine SS.at [.s script, .l (PD r_236.2), .d (D (cut r_235.1 none (some r_236.1))), .no, .no, .no, .no, .no, .no, .no, .no, .no, .no, .no] ?_
  refine ss_asgd (se_fn (sa_cons (so_v rfl rfl (sa_nil (n_sorted (xs := (cut r_235.1 none (some r_236.1))) rfl (⟨_, rfl, ?_⟩))))))
  refine SS.at [.s script, .l (PD r_236.2), .d (D (cut r_235.1 none (some r_236.1))), .d (D (isort leT (cut r_235.1 none (some r_236.1)))), .no, .no, .no, .no, .no, .no, .no, .no, .no, .no] ?_
  refine ss_asg (se_call rfl (sa_cons (so_v rfl rfl (sa_nil (⟨_, _, _, _, [.s script, .l (PD r_236.2), .d (D (cut r_235.1 none (some r_236.1))), .d (D (isort leT (cut r_235.1 none (some r_236.1)))), .no, .no, .no, .no, .no, .no, .no, .no, .no, .no], fun r_237 : (List (Str × Str)) => ([.s script, .l (PD r_236.2), .d (D (cut r_235.1 none (some r_236.1))), .d (D (isort leT (cut r_235.1 none (some r_236.1)))), .no, .no, .no, .no, .no, .no, .no, .no, .no, .no] : List Sl), rfl, fun ts h => h_law_rule (isort leT (cut r_235.1 none (some r_236.1))) ts (HasL.wk (by rfl') h), by rfl', rfl, by rfl', fun r_237 => ⟨by rfl', rfl, ?_⟩⟩)))))
  refine SS.at [.s script, .l (PD r_236.2), .d (D (cut r_235.1 none (some r_236.1))), .d (D (isort leT (cut r_235.1 none (some r_236.1)))), .d (D r_237), .no, .no, .no, .no, .no, .no, .no, .no, .no] ?_
  refine ss_if (sb_orm (sb_not (sb_of rfl (se_call rfl (sa_cons (so_e rfl (se_call rfl (sa_cons (so_e rfl (se_fn (sa_cons (so_v rfl rfl (sa_nil (n_list rfl (sa_nil (⟨_, _, _, _, [.s script, .l (PD r_236.2), .d (D (cut r_235.1 none (some r_236.1))), .d (D (isort leT (cut r_235.1 none (some r_236.1)))), .d (D r_237), .no, .no, .no, .no, .no, .no, .no, .no, .no], fun r_238 : (List Str) => ([.s script, .l (PD r_236.2), .d (D (cut r_235.1 none (some r_236.1))), .d (D (isort leT (cut r_235.1 none (some r_236.1)))), .d (D r_237), .no, .no, .no, .no, .no, .no, .no, .no, .no] : List Sl), rfl, fun ts h => h_checked_friends (cut r_235.1 none (some r_236.1)) ts (HasL.wk (by rfl') h), by rfl', rfl, by rfl', fun r_238 => ⟨by rfl', rfl, sa_cons (so_v rfl rfl (sa_nil (⟨_, _, _, _, [.s script, .l (PD r_236.2), .d (D (cut r_235.1 none (some r_236.1))), .d (D (isort leT (cut r_235.1 none (some r_236.1)))), .d (D r_237), .no, .no, .no, .no, .no, .no, .no, .no, .no], fun k_239 : Bool => ([.s script, .l (PD r_236.2), .d (D (cut r_235.1 none (some r_236.1))), .d (D (isort leT (cut r_235.1 none (some r_236.1)))), .d (D r_237), .no, .no, .no, .no, .no, .no, .no, .no, .no] : List Sl), rfl, fun ts h => h_law_same r_238 (isort leT (cut r_235.1 none (some r_236.1))) ts (by decide) (HasL.wk (by rfl') h), by rfl', rfl, by rfl', fun k_239 => ⟨by rfl', rfl, ⟨_, tr_d rfl rfl, ⟨_, _, _, rfl, sb_orm (sb_not (sb_of rfl (se_call rfl (sa_cons (so_e rfl (se_call rfl (sa_cons (so_e rfl (se_fn (sa_cons (so_v rfl rfl (sa_nil (n_list rfl (sa_nil (⟨_, _, _, _, [.s script, .l (PD r_236.2), .d (D (cut r_235.1 none (some r_236.1))), .d (D (isort leT (cut r_235.1 none (some r_236.1)))), .d (D r_237), .no, .no, .no, .no, .no, .no, .no, .no, .no], fun r_240 : (List (Str × Str)) => ([.s script, .l (PD r_236.2), .d (D (cut r_235.1 none (some r_236.1))), .d (D (isort leT (cut r_235.1 none (some r_236.1)))), .d (D r_237), .no, .no, .no, .no, .no, .no, .no, .no, .no] : List Sl), rfl, fun ts h => h_plan (cut r_235.1 none (some r_236.1)) ts (HasL.wk (by rfl') h), by rfl', rfl, by rfl', fun r_240 => ⟨by rfl', rfl, sa_cons (so_v rfl rfl (sa_nil (⟨_, _, _, _, [.s script, .l (PD r_236.2), .d (D (cut r_235.1 none (some r_236.1))), .d (D (isort leT (cut r_235.1 none (some r_236.1)))), .d (D r_237), .no, .no, .no, .no, .no, .no, .no, .no, .no], fun k_241 : Bool => ([.s script, .l (PD r_236.2), .d (D (cut r_235.1 none (some r_236.1))), .d (D (isort leT (cut r_235.1 none (some r_236.1)))), .d (D r_237), .no, .no, .no, .no, .no, .no, .no, .no, .no] : List Sl), rfl, fun ts h => h_law_same r_240 r_237 ts (by decide) (HasL.wk (by rfl') h), by rfl', rfl, by rfl', fun k_241 => ⟨by rfl', rfl, ⟨_, tr_d rfl rfl, ⟨_, _, _, rfl, sb_not (sb_of rfl (se_call rfl (sa_cons (so_e rfl (se_call rfl (sa_cons (so_v rfl rfl (sa_nil (⟨_, _, _, _, [.s script, .l (PD r_236.2), .d (D (cut r_235.1 none (some r_236.1))), .d (D (isort leT (cut r_235.1 none (some r_236.1)))), .d (D r_237), .no, .no, .no, .no, .no, .no, .no, .no, .no], fun r_242 : Int => ([.s script, .l (PD r_236.2), .d (D (cut r_235.1 none (some r_236.1))), .d (D (isort leT (cut r_235.1 none (some r_236.1)))), .d (D r_237), .no, .no, .no, .no, .no, .no, .no, .no, .no] : List Sl), rfl, fun ts h => h_fewest (cut r_235.1 none (some r_236.1)) ts (HasL.wk (by rfl') h), by rfl', rfl, by rfl', fun r_242 => ⟨by rfl', rfl, sa_cons (so_e rfl (se_fn (sa_cons (so_v rfl rfl (sa_nil (n_len (xs := r_237) rfl (sa_nil (⟨_, _, _, _, [.s script, .l (PD r_236.2), .d (D (cut r_235.1 none (some r_236.1))), .d (D (isort leT (cut r_235.1 none (some r_236.1)))), .d (D r_237), .no, .no, .no, .no, .no, .no, .no, .no, .no], fun k_243 : Bool => ([.s script, .l (PD r_236.2), .d (D (cut r_235.1 none (some r_236.1))), .d (D (isort leT (cut r_235.1 none (some r_236.1)))), .d (D r_237), .no, .no, .no, .no, .no, .no, .no, .no, .no] : List Sl), rfl, fun ts h => h_law_same r_242 (r_237.length : Int) ts (by decide) (HasL.wk (by rfl') h), by rfl', rfl, by rfl', fun k_243 => ⟨by rfl', rfl, ⟨_, tr_d rfl rfl, ⟨rfl, Wk.r⟩⟩⟩⟩))))))))⟩⟩))))))))), Wk.r, fun b_244 => ⟨rfl, Wk.r⟩⟩⟩⟩⟩)))⟩⟩))))))))))))))), Wk.r, fun b_245 => ⟨_, _, rfl, ?_, ?_⟩⟩⟩⟩⟩)))⟩⟩))))))))))))))))
  · refine SS.at [.s script, .l (PD r_236.2), .d (D (cut r_235.1 none (some r_236.1))), .d (D (isort leT (cut r_235.1 none (some r_236.1)))), .d (D r_237), .no, .no, .no, .no, .no, .no, .no, .no, .no] ?_
    exact ss_ret (se_c rfl (⟨_, rfl, by rfl', by rfl'⟩))
  · refine SS.at [.s script, .l (PD r_236.2), .d (D (cut r_235.1 none (some r_236.1))), .d (D (isort leT (cut r_235.1 none (some r_236.1)))), .d (D r_237), .no, .no, .no, .no, .no, .no, .no, .no, .no] ?_
    refine ss_if (sb_orm (sb_cmp (so_e rfl (se_call rfl (sa_cons (so_e rfl (se_fn (sa_cons (so_v rfl rfl (sa_nil (n_list rfl (sa_cons (so_e rfl (se_fn (sa_cons (so_v rfl rfl (sa_nil (n_list rfl (sa_nil (⟨_, _, _, _, [.s script, .l (PD r_236.2), .d (D (cut r_235.1 none (some r_236.1))), .d (D (isort leT (cut r_235.1 none (some r_236.1)))), .d (D r_237), .no, .no, .no, .no, .no, .no, .no, .no, .no], fun r_246 : Bool => ([.s script, .l (PD r_236.2), .d (D (cut r_235.1 none (some r_236.1))), .d (D (isort leT (cut r_235.1 none (some r_236.1)))), .d (D r_237), .no, .no, .no, .no, .no, .no, .no, .no, .no] : List Sl), rfl, fun ts h => h_judge (cut r_235.1 none (some r_236.1)) r_237 ts (HasL.wk (by rfl') h), by rfl', rfl, by rfl', fun r_246 => ⟨by rfl', rfl, so_e rfl (se_c rfl (a_isnB rfl rfl (⟨_, rfl, ⟨_, _, _, rfl, sb_cmp (so_e rfl (se_fn (sa_cons (so_e rfl (se_comp (α := Str) (β := Str) rfl (sc_seq (se_v rfl rfl (⟨_, rfl, ⟨(isort leT (cut r_235.1 none (some r_236.1))), [.s script, .l (PD r_236.2), .d (D (cut r_235.1 none (some r_236.1))), .d (D (isort leT (cut r_235.1 none (some r_236.1)))), .d (D r_237), .no, .no, .no, .no, .no, .no, .no, .no, .no], (fun name_247 : Str => ([.s script, .l (PD r_236.2), .d (D (cut r_235.1 none (some r_236.1))), .d (D (isort leT (cut r_235.1 none (some r_236.1)))), .d (D r_237), .no, .no, .no, .no, .no, .no, .no, .no, .f (D name_247)] : List Sl)), _, _, _, rfl, rfl, by rfl', rfl, fun _ => rfl, fun name_247 => sn_one (sb_cmp (so_e rfl (se_ix (so_e rfl (se_call rfl (sa_cons (so_v rfl rfl (sa_cons (so_v rfl rfl (sa_nil (⟨_, _, _, _, [.s script, .l (PD r_236.2), .d (D (cut r_235.1 none (some r_236.1))), .d (D (isort leT (cut r_235.1 none (some r_236.1)))), .d (D r_237), .no, .no, .no, .no, .no, .no, .no, .no, .f (D name_247)], fun r_248 : (List (Str × (List Str))) => ([.s script, .l (PD r_236.2), .d (D (cut r_235.1 none (some r_236.1))), .d (D (isort leT (cut r_235.1 none (some r_236.1)))), .d (D r_237), .no, .no, .no, .no, .no, .no, .no, .no, .f (D name_247)] : List Sl), rfl, fun ts h => h_law_known (isort leT (cut r_235.1 none (some r_236.1))) r_237 ts (HasL.wk (by rfl') h), by rfl', rfl, by rfl', fun r_248 => ⟨by rfl', rfl, so_v rfl rfl (a_ixD (kx := name_247) rfl fun t_249 => so_v rfl rfl (a_ne (α := (List Str)) (x := t_249) (y := (isort leT (cut r_235.1 none (some r_236.1)))) rfl rfl (⟨_, rfl, ⟨rfl, by rfl', by rfl'⟩⟩)))⟩⟩))))))))))), fun name_247 => se_v rfl rfl (⟨name_247, rfl, rfl, by rfl'⟩), fun c_250 => sa_nil (n_len (xs := c_250) rfl (so_e rfl (se_c rfl (a_gtI rfl rfl (⟨_, rfl, ⟨rfl, Wk.r⟩⟩)))))⟩⟩)))))))), Wk.r, fun b_251 => ⟨_, _, rfl, ?_, ?_⟩⟩⟩)))⟩⟩))))))))))))))))))))
    · refine SS.at [.s script, .l (PD r_236.2), .d (D (cut r_235.1 none (some r_236.1))), .d (D (isort leT (cut r_235.1 none (some r_236.1)))), .d (D r_237), .no, .no, .no, .no, .no, .no, .no, .no, .no] ?_
      exact ss_ret (se_c rfl (⟨_, rfl, by rfl', by rfl'⟩))
    · refine SS.at [.s script, .l (PD r_236.2), .d (D (cut r_235.1 none (some r_236.1))), .d (D (isort leT (cut r_235.1 none (some r_236.1)))), .d (D r_237), .no, .no, .no, .no, .no, .no, .no, .no, .no] ?_
      refine ss_if (sb_andm (sb_of rfl (se_chn (so_e rfl (se_c rfl (so_e rfl (se_fn (sa_cons (so_v rfl rfl (sa_nil (n_len (xs := (isort leT (cut r_235.1 none (some r_236.1)))) rfl (⟨(decide ((1 : Int) < ((isort leT (cut r_235.1 none (some r_236.1))).length : Int))), (decide (((isort leT (cut r_235.1 none (some r_236.1))).length : Int) < (5 : Int))), rfl, rfl, (fun t u a b => by rw [a.int (n := (1 : Int)) rfl, b.int (n := ((isort leT (cut r_235.1 none (some r_236.1))).length : Int)) rfl]; rfl), so_e rfl (se_c rfl (⟨rfl, rfl, rfl, (fun t u a b => by rw [a.int (n := ((isort leT (cut r_235.1 none (some r_236.1))).length : Int)) rfl, b.int (n := (5 : Int)) rfl]; rfl)⟩)), ⟨_, tr_d rfl rfl, ⟨_, _, _, rfl, sb_of rfl (se_call rfl (sa_cons (so_v rfl rfl (sa_cons (so_e rfl (se_bin (so_e rfl (se_fn (sa_cons (so_v rfl rfl (sa_nil (n_len (xs := r_237) rfl (so_e rfl (se_c rfl (a_subI rfl rfl (sa_nil (⟨_, _, _, _, [.s script, .l (PD r_236.2), .d (D (cut r_235.1 none (some r_236.1))), .d (D (isort leT (cut r_235.1 none (some r_236.1)))), .d (D r_237), .no, .no, .no, .no, .no, .no, .no, .no, .no], fun r_252 : Bool => ([.s script, .l (PD r_236.2), .d (D (cut r_235.1 none (some r_236.1))), .d (D (isort leT (cut r_235.1 none (some r_236.1)))), .d (D r_237), .no, .no, .no, .no, .no, .no, .no, .no, .no] : List Sl), rfl, fun ts h => h_law_reach (isort leT (cut r_235.1 none (some r_236.1))) ((r_237.length : Int) - (1 : Int)) ts (HasL.wk (by rfl') h), by rfl', rfl, by rfl', fun r_252 => ⟨by rfl', rfl, ⟨_, tr_d rfl rfl, ⟨rfl, Wk.r⟩⟩⟩⟩))))))))))))))))), Wk.r, fun b_253 => ⟨_, _, rfl, ?_, ?_⟩⟩⟩⟩))))))))))))
      · refine SS.at [.s script, .l (PD r_236.2), .d (D (cut r_235.1 none (some r_236.1))), .d (D (isort leT (cut r_235.1 none (some r_236.1)))), .d (D r_237), .no, .no, .no, .no, .no, .no, .no, .no, .no] ?_
        exact ss_ret (se_c rfl (⟨_, rfl, by rfl', by rfl'⟩))
      · refine SS.at [.s script, .l (PD r_236.2), .d (D (cut r_235.1 none (some r_236.1))), .d (D (isort leT (cut r_235.1 none (some r_236.1)))), .d (D r_237), .no, .no, .no, .no, .no, .no, .no, .no, .no] ?_
        refine ss_for (α := Int) (σ := Pool) (fun x => x) (sc_rng1 (se_c rfl (⟨_, _, rfl, rfl, fun ns_254 => ⟨ns_254, r_236.2, (fun s_255 : Pool => ([.s script, .l (PD s_255), .d (D (cut r_235.1 none (some r_236.1))), .d (D (isort leT (cut r_235.1 none (some r_236.1)))), .d (D r_237), .no, .any, .no, .no, .any, .no, .any, .no, .no] : List Sl)), _, _, rfl, rfl, by rfl', fun s_255 k_256 => ⟨_, rfl, ?_⟩, fun s_255 => ?_⟩⟩)))
        · refine SS.at [.s script, .l (PD s_255), .d (D (cut r_235.1 none (some r_236.1))), .d (D (isort leT (cut r_235.1 none (some r_236.1)))), .d (D r_237), .f (D k_256), .any, .no, .no, .any, .no, .any, .no, .no] ?_
          refine ss_asgd (se_fn (sa_cons (so_v rfl rfl (sa_nil (n_list rfl (⟨_, rfl, ?_⟩))))))
          refine SS.at [.s script, .l (PD s_255), .d (D (cut r_235.1 none (some r_236.1))), .d (D (isort leT (cut r_235.1 none (some r_236.1)))), .d (D r_237), .f (D k_256), .d (D r_237), .no, .no, .any, .no, .any, .no, .no] ?_
          refine ss_ifj (σ := (Pool × (List (Str × Str)))) (sb_cmp (so_e rfl (se_fn (sa_cons (so_v rfl rfl (sa_nil (n_len (xs := (isort leT (cut r_235.1 none (some r_236.1)))) rfl (so_e rfl (se_c rfl (a_gtI rfl rfl (⟨_, rfl, ⟨(fun s_270 : (Pool × (List (Str × Str))) => ([.s script, .l (PD s_270.1), .d (D (cut r_235.1 none (some r_236.1))), .d (D (isort leT (cut r_235.1 none (some r_236.1)))), .d (D r_237), .f (D k_256), .d (D s_270.2), .no, .no, .any, .no, .any, .no, .no] : List Sl)), _, _, _, rfl, ?_, ?_, fun s_270 => ?_⟩⟩)))))))))))
          · refine SS.at [.s script, .l (PD s_255), .d (D (cut r_235.1 none (some r_236.1))), .d (D (isort leT (cut r_235.1 none (some r_236.1)))), .d (D r_237), .f (D k_256), .d (D r_237), .no, .no, .any, .no, .any, .no, .no] ?_
            refine ss_asg (se_call rfl (sa_cons (so_v rfl rfl (sa_cons (so_e rfl (se_lst (sl_cons (se_fn (sa_cons (so_v rfl rfl (sa_nil (n_list rfl (⟨_, rfl, sl_cons (se_call rfl (sa_cons (so_v rfl rfl (sa_cons (so_v rfl rfl (sa_cons (so_e rfl (se_c rfl (sa_nil (⟨_, _, _, _, [.s script, .any, .d (D (cut r_235.1 none (some r_236.1))), .d (D (isort leT (cut r_235.1 none (some r_236.1)))), .d (D r_237), .f (D k_256), .d (D r_237), .no, .no, .any, .no, .any, .no, .no], fun r_257 : ((List (Str × Str)) × Pool) => ([.s script, .l (PD r_257.2), .d (D (cut r_235.1 none (some r_236.1))), .d (D (isort leT (cut r_235.1 none (some r_236.1)))), .d (D r_237), .f (D k_256), .d (D r_237), .no, .no, .any, .no, .any, .no, .no] : List Sl), rfl, fun ts h => h_law_calls s_255 (isort leT (cut r_235.1 none (some r_236.1))) (10 : Int) ts (HasL.wk (by rfl') h), by rfl', rfl, by rfl', fun r_257 => ⟨by rfl', rfl, ⟨_, rfl, sl_cons (se_lrevD (α := (Str × Str)) (so_v rfl rfl (⟨r_237, rfl, rfl, ⟨_, rfl, sl_nil (⟨(show 3 ≤ LINE by decide), sa_nil (⟨_, _, _, _, [.s script, .any, .d (D (cut r_235.1 none (some r_236.1))), .d (D (isort leT (cut r_235.1 none (some r_236.1)))), .d (D r_237), .f (D k_256), .d (D r_237), .no, .no, .any, .no, .any, .no, .no], fun r_258 : ((List (Str × Str)) × Pool) => ([.s script, .l (PD r_258.2), .d (D (cut r_235.1 none (some r_236.1))), .d (D (isort leT (cut r_235.1 none (some r_236.1)))), .d (D r_237), .f (D k_256), .d (D r_237), .no, .no, .any, .no, .any, .no, .no] : List Sl), rfl, fun ts h => h_law_pick r_257.2 ([r_237, r_257.1, (List.reverse r_237)] : List (List (Str × Str))) ts (HasL.wk (by rfl') h), by rfl', rfl, by rfl', fun r_258 => ⟨by rfl', rfl, ?_⟩⟩)⟩)⟩⟩)))⟩⟩⟩))))))))))⟩)))))))))))))
            refine SS.at [.s script, .l (PD r_258.2), .d (D (cut r_235.1 none (some r_236.1))), .d (D (isort leT (cut r_235.1 none (some r_236.1)))), .d (D r_237), .f (D k_256), .d (D r_258.1), .no, .no, .any, .no, .any, .no, .no] ?_
            refine ss_fold (α := Int) (σ := (Pool × (List (Str × Str)))) (sc_rng1 (se_call rfl (sa_cons (so_v rfl rfl (sa_cons (so_e rfl (se_c rfl (sa_nil (⟨_, _, _, _, [.s script, .any, .d (D (cut r_235.1 none (some r_236.1))), .d (D (isort leT (cut r_235.1 none (some r_236.1)))), .d (D r_237), .f (D k_256), .d (D r_258.1), .no, .no, .any, .no, .any, .no, .no], fun r_259 : (Int × Pool) => ([.s script, .l (PD r_259.2), .d (D (cut r_235.1 none (some r_236.1))), .d (D (isort leT (cut r_235.1 none (some r_236.1)))), .d (D r_237), .f (D k_256), .d (D r_258.1), .no, .no, .any, .no, .any, .no, .no] : List Sl), rfl, fun ts h => h_law_draw r_258.2 (3 : Int) ts (HasL.wk (by rfl') h), by rfl', rfl, by rfl', fun r_259 => ⟨by rfl', rfl, ⟨_, _, rfl, rfl, fun ns_260 => ⟨ns_260, (r_259.2, r_258.1), (fun s_261 : (Pool × (List (Str × Str))) => ([.s script, .l (PD s_261.1), .d (D (cut r_235.1 none (some r_236.1))), .d (D (isort leT (cut r_235.1 none (some r_236.1)))), .d (D r_237), .f (D k_256), .d (D s_261.2), .no, .no, .any, .no, .any, .no, .no] : List Sl)), _, _, rfl, rfl, by rfl', fun s_261 j_262 => ⟨_, rfl, ?_⟩, fun s_261 => ?_⟩⟩⟩⟩)))))))))
            · refine SS.at [.s script, .l (PD s_261.1), .d (D (cut r_235.1 none (some r_236.1))), .d (D (isort leT (cut r_235.1 none (some r_236.1)))), .d (D r_237), .f (D k_256), .d (D s_261.2), .f (D j_262), .no, .any, .no, .any, .no, .no] ?_
              refine ss_asg (se_call rfl (sa_cons (so_v rfl rfl (sa_cons (so_e rfl (se_bin (so_e rfl (se_fn (sa_cons (so_v rfl rfl (sa_nil (n_len (xs := s_261.2) rfl (so_e rfl (se_c rfl (a_addI rfl rfl (sa_nil (⟨_, _, _, _, [.s script, .any, .d (D (cut r_235.1 none (some r_236.1))), .d (D (isort leT (cut r_235.1 none (some r_236.1)))), .d (D r_237), .f (D k_256), .d (D s_261.2), .f (D j_262), .no, .any, .no, .any, .no, .no], fun r_263 : (Int × Pool) => ([.s script, .l (PD r_263.2), .d (D (cut r_235.1 none (some r_236.1))), .d (D (isort leT (cut r_235.1 none (some r_236.1)))), .d (D r_237), .f (D k_256), .d (D s_261.2), .f (D j_262), .no, .any, .no, .any, .no, .no] : List Sl), rfl, fun ts h => h_law_draw s_261.1 ((s_261.2.length : Int) + (1 : Int)) ts (HasL.wk (by rfl') h), by rfl', rfl, by rfl', fun r_263 => ⟨by rfl', rfl, ?_⟩⟩)))))))))))))))))
              refine SS.at [.s script, .l (PD r_263.2), .d (D (cut r_235.1 none (some r_236.1))), .d (D (isort leT (cut r_235.1 none (some r_236.1)))), .d (D r_237), .f (D k_256), .d (D s_261.2), .f (D j_262), .d (D r_263.1), .any, .no, .any, .no, .no] ?_
              refine ss_asg (se_call rfl (sa_cons (so_v rfl rfl (sa_cons (so_e rfl (se_lst (sl_cons (se_bin (so_e rfl (se_sl (so_v rfl rfl (sp_nil (sp_cons (se_v rfl rfl (⟨_, rfl, ⟨rfl, _, sl_l (xs := s_261.2) rfl, so_e rfl (se_sl (so_v rfl rfl (sp_cons (se_bin (so_v rfl rfl (so_e rfl (se_c rfl (a_addI rfl rfl (⟨_, rfl, sp_nil (⟨rfl, _, sl_l (xs := s_261.2) rfl, a_cat (xs := (cut s_261.2 none (some r_263.1))) (ys := (cut s_261.2 (some (r_263.1 + (1 : Int))) none)) rfl rfl fun t_264 => ⟨_, rfl, sl_cons (se_bin (so_e rfl (se_bin (so_e rfl (se_sl (so_v rfl rfl (sp_nil (sp_cons (se_v rfl rfl (⟨_, rfl, ⟨rfl, _, sl_l (xs := s_261.2) rfl, so_e rfl (se_call rfl (sa_cons (so_v rfl rfl (sa_cons (so_v rfl rfl (sa_cons (so_e rfl (se_c rfl (sa_nil (⟨_, _, _, _, [.s script, .any, .d (D (cut r_235.1 none (some r_236.1))), .d (D (isort leT (cut r_235.1 none (some r_236.1)))), .d (D r_237), .f (D k_256), .d (D s_261.2), .f (D j_262), .d (D r_263.1), .any, .no, .any, .no, .no], fun r_265 : ((List (Str × Str)) × Pool) => ([.s script, .l (PD r_265.2), .d (D (cut r_235.1 none (some r_236.1))), .d (D (isort leT (cut r_235.1 none (some r_236.1)))), .d (D r_237), .f (D k_256), .d (D s_261.2), .f (D j_262), .d (D r_263.1), .any, .no, .any, .no, .no] : List Sl), rfl, fun ts h => h_law_calls r_263.2 (isort leT (cut r_235.1 none (some r_236.1))) (1 : Int) ts (HasL.wk (by rfl') h), by rfl', rfl, by rfl', fun r_265 => ⟨by rfl', rfl, a_cat (xs := (cut s_261.2 none (some r_263.1))) (ys := r_265.1) rfl rfl fun t_266 => so_e rfl (se_sl (so_v rfl rfl (sp_cons (se_v rfl rfl (⟨_, rfl, sp_nil (⟨rfl, _, sl_l (xs := s_261.2) rfl, a_cat (xs := t_266) (ys := (cut s_261.2 (some r_263.1) none)) rfl rfl fun t_267 => ⟨_, rfl, sl_cons (se_bin (so_e rfl (se_sl (so_v rfl rfl (sp_cons (se_v rfl rfl (⟨_, rfl, sp_nil (⟨rfl, _, sl_l (xs := s_261.2) rfl, so_e rfl (se_sl (so_v rfl rfl (sp_nil (sp_cons (se_v rfl rfl (⟨_, rfl, ⟨rfl, _, sl_l (xs := s_261.2) rfl, a_cat (xs := (cut s_261.2 (some r_263.1) none)) (ys := (cut s_261.2 none (some r_263.1))) rfl rfl fun t_268 => ⟨_, rfl, sl_nil (⟨(show 3 ≤ LINE by decide), sa_nil (⟨_, _, _, _, [.s script, .any, .d (D (cut r_235.1 none (some r_236.1))), .d (D (isort leT (cut r_235.1 none (some r_236.1)))), .d (D r_237), .f (D k_256), .d (D s_261.2), .f (D j_262), .d (D r_263.1), .any, .no, .any, .no, .no], fun r_269 : ((List (Str × Str)) × Pool) => ([.s script, .l (PD r_269.2), .d (D (cut r_235.1 none (some r_236.1))), .d (D (isort leT (cut r_235.1 none (some r_236.1)))), .d (D r_237), .f (D k_256), .d (D s_261.2), .f (D j_262), .d (D r_263.1), .any, .no, .any, .no, .no] : List Sl), rfl, fun ts h => h_law_pick r_265.2 ([t_264, t_267, t_268] : List (List (Str × Str))) ts (HasL.wk (by rfl') h), by rfl', rfl, by rfl', fun r_269 => ⟨by rfl', rfl, ?_⟩⟩)⟩)⟩⟩⟩))))))⟩)⟩)))))))⟩⟩)⟩)))))⟩⟩))))))))))⟩⟩))))))))))⟩⟩)⟩)))))))))⟩⟩)))))))))))))))
              exact ss_end (by rfl')
            · exact ss_end (by rfl')
          · exact ss_end (by rfl')
          · refine SS.at [.s script, .l (PD s_270.1), .d (D (cut r_235.1 none (some r_236.1))), .d (D (isort leT (cut r_235.1 none (some r_236.1)))), .d (D r_237), .f (D k_256), .d (D s_270.2), .no, .no, .any, .no, .any, .no, .no] ?_
            refine ss_asg (se_call rfl (sa_cons (so_v rfl rfl (sa_cons (so_v rfl rfl (sa_nil (⟨_, _, _, _, [.s script, .l (PD s_270.1), .d (D (cut r_235.1 none (some r_236.1))), .d (D (isort leT (cut r_235.1 none (some r_236.1)))), .d (D r_237), .f (D k_256), .d (D s_270.2), .no, .no, .any, .no, .any, .no, .no], fun r_271 : (List (Str × (List Str))) => ([.s script, .l (PD s_270.1), .d (D (cut r_235.1 none (some r_236.1))), .d (D (isort leT (cut r_235.1 none (some r_236.1)))), .d (D r_237), .f (D k_256), .d (D s_270.2), .no, .no, .any, .no, .any, .no, .no] : List Sl), rfl, fun ts h => h_law_known (isort leT (cut r_235.1 none (some r_236.1))) s_270.2 ts (HasL.wk (by rfl') h), by rfl', rfl, by rfl', fun r_271 => ⟨by rfl', rfl, ?_⟩⟩)))))))
            refine SS.at [.s script, .l (PD s_270.1), .d (D (cut r_235.1 none (some r_236.1))), .d (D (isort leT (cut r_235.1 none (some r_236.1)))), .d (D r_237), .f (D k_256), .d (D s_270.2), .no, .no, .m (Ms r_271), .no, .any, .no, .no] ?_
            refine ss_asg (se_cmp (so_e rfl (se_fn (sa_cons (so_e rfl (se_comp (α := Str) (β := Str) rfl (sc_seq (se_v rfl rfl (⟨_, rfl, ⟨(isort leT (cut r_235.1 none (some r_236.1))), [.s script, .l (PD s_270.1), .d (D (cut r_235.1 none (some r_236.1))), .d (D (isort leT (cut r_235.1 none (some r_236.1)))), .d (D r_237), .f (D k_256), .d (D s_270.2), .no, .no, .m (Ms r_271), .no, .any, .no, .no], (fun name_272 : Str => ([.s script, .l (PD s_270.1), .d (D (cut r_235.1 none (some r_236.1))), .d (D (isort leT (cut r_235.1 none (some r_236.1)))), .d (D r_237), .f (D k_256), .d (D s_270.2), .no, .no, .m (Ms r_271), .no, .any, .no, .f (D name_272)] : List Sl)), _, _, _, rfl, rfl, by rfl', rfl, fun _ => rfl, fun name_272 => sn_one (sb_cmp (so_e rfl (se_ix (so_v rfl rfl (so_v rfl rfl (a_ixD (kx := name_272) rfl fun t_273 => so_v rfl rfl (a_ne (α := (List Str)) (x := t_273) (y := (isort leT (cut r_235.1 none (some r_236.1)))) rfl rfl (⟨_, rfl, ⟨rfl, by rfl', by rfl'⟩⟩)))))))), fun name_272 => se_v rfl rfl (⟨name_272, rfl, rfl, by rfl'⟩), fun c_274 => sa_nil (n_len (xs := c_274) rfl (so_e rfl (se_c rfl (a_eq (α := Int) (x := (c_274.length : Int)) (y := (0 : Int)) rfl rfl (?_)))))⟩⟩)))))))))
            refine SS.at [.s script, .l (PD s_270.1), .d (D (cut r_235.1 none (some r_236.1))), .d (D (isort leT (cut r_235.1 none (some r_236.1)))), .d (D r_237), .f (D k_256), .d (D s_270.2), .no, .no, .m (Ms r_271), .f (D (decide ((c_274.length : Int) = (0 : Int)))), .any, .no, .no] ?_
            refine ss_if (sb_orm (sb_not (sb_of rfl (se_call rfl (sa_cons (so_e rfl (se_call rfl (sa_cons (so_e rfl (se_fn (sa_cons (so_v rfl rfl (sa_nil (n_list rfl (sa_cons (so_e rfl (se_fn (sa_cons (so_v rfl rfl (sa_nil (n_list rfl (sa_nil (⟨_, _, _, _, [.s script, .l (PD s_270.1), .d (D (cut r_235.1 none (some r_236.1))), .d (D (isort leT (cut r_235.1 none (some r_236.1)))), .d (D r_237), .f (D k_256), .d (D s_270.2), .no, .no, .m (Ms r_271), .f (D (decide ((c_274.length : Int) = (0 : Int)))), .any, .no, .no], fun r_275 : (List (Str × (List Str))) => ([.s script, .l (PD s_270.1), .d (D (cut r_235.1 none (some r_236.1))), .d (D (isort leT (cut r_235.1 none (some r_236.1)))), .d (D r_237), .f (D k_256), .d (D s_270.2), .no, .no, .m (Ms r_271), .f (D (decide ((c_274.length : Int) = (0 : Int)))), .any, .no, .no] : List Sl), rfl, fun ts h => h_known (cut r_235.1 none (some r_236.1)) s_270.2 ts (HasL.wk (by rfl') h), by rfl', rfl, by rfl', fun r_275 => ⟨by rfl', rfl, sa_cons (so_e rfl (se_comp (α := Str) (β := (Str × (List Str))) rfl (sc_seq (se_v rfl rfl (⟨_, rfl, ⟨(isort leT (cut r_235.1 none (some r_236.1))), [.s script, .l (PD s_270.1), .d (D (cut r_235.1 none (some r_236.1))), .d (D (isort leT (cut r_235.1 none (some r_236.1)))), .d (D r_237), .f (D k_256), .d (D s_270.2), .no, .no, .m (Ms r_271), .f (D (decide ((c_274.length : Int) = (0 : Int)))), .any, .no, .no], (fun name_276 : Str => ([.s script, .l (PD s_270.1), .d (D (cut r_235.1 none (some r_236.1))), .d (D (isort leT (cut r_235.1 none (some r_236.1)))), .d (D r_237), .f (D k_256), .d (D s_270.2), .no, .no, .m (Ms r_271), .f (D (decide ((c_274.length : Int) = (0 : Int)))), .any, .no, .f (D name_276)] : List Sl)), _, _, _, rfl, rfl, by rfl', rfl, fun _ => rfl, fun name_276 => sn_nil ⟨rfl, by rfl', by rfl'⟩, fun name_276 => se_tup (sl_cons (se_v rfl rfl (⟨_, rfl, sl_cons (se_ix (so_v rfl rfl (so_v rfl rfl (a_ixD (kx := name_276) rfl fun t_277 => ⟨_, rfl, sl_nil (⟨(show 2 ≤ LINE by decide), ⟨(name_276, t_277), rfl, rfl, by rfl'⟩⟩)⟩))))⟩))), fun c_278 => sa_nil (⟨_, _, _, _, [.s script, .l (PD s_270.1), .d (D (cut r_235.1 none (some r_236.1))), .d (D (isort leT (cut r_235.1 none (some r_236.1)))), .d (D r_237), .f (D k_256), .d (D s_270.2), .no, .no, .m (Ms r_271), .f (D (decide ((c_274.length : Int) = (0 : Int)))), .any, .no, .no], fun k_279 : Bool => ([.s script, .l (PD s_270.1), .d (D (cut r_235.1 none (some r_236.1))), .d (D (isort leT (cut r_235.1 none (some r_236.1)))), .d (D r_237), .f (D k_256), .d (D s_270.2), .no, .no, .m (Ms r_271), .f (D (decide ((c_274.length : Int) = (0 : Int)))), .any, .no, .no] : List Sl), rfl, fun ts h => h_law_same r_275 c_278 ts (by decide) (HasL.wk (by rfl') h), by rfl', rfl, by rfl', fun k_279 => ⟨by rfl', rfl, ⟨_, tr_d rfl rfl, ⟨_, _, _, rfl, sb_not (sb_of rfl (se_call rfl (sa_cons (so_e rfl (se_call rfl (sa_cons (so_v rfl rfl (sa_cons (so_v rfl rfl (sa_nil (⟨_, _, _, _, [.s script, .l (PD s_270.1), .d (D (cut r_235.1 none (some r_236.1))), .d (D (isort leT (cut r_235.1 none (some r_236.1)))), .d (D r_237), .f (D k_256), .d (D s_270.2), .no, .no, .m (Ms r_271), .f (D (decide ((c_274.length : Int) = (0 : Int)))), .any, .no, .no], fun r_280 : Bool => ([.s script, .l (PD s_270.1), .d (D (cut r_235.1 none (some r_236.1))), .d (D (isort leT (cut r_235.1 none (some r_236.1)))), .d (D r_237), .f (D k_256), .d (D s_270.2), .no, .no, .m (Ms r_271), .f (D (decide ((c_274.length : Int) = (0 : Int)))), .any, .no, .no] : List Sl), rfl, fun ts h => h_all_know (cut r_235.1 none (some r_236.1)) s_270.2 ts (HasL.wk (by rfl') h), by rfl', rfl, by rfl', fun r_280 => ⟨by rfl', rfl, sa_cons (so_v rfl rfl (sa_nil (⟨_, _, _, _, [.s script, .l (PD s_270.1), .d (D (cut r_235.1 none (some r_236.1))), .d (D (isort leT (cut r_235.1 none (some r_236.1)))), .d (D r_237), .f (D k_256), .d (D s_270.2), .no, .no, .m (Ms r_271), .f (D (decide ((c_274.length : Int) = (0 : Int)))), .any, .no, .no], fun k_281 : Bool => ([.s script, .l (PD s_270.1), .d (D (cut r_235.1 none (some r_236.1))), .d (D (isort leT (cut r_235.1 none (some r_236.1)))), .d (D r_237), .f (D k_256), .d (D s_270.2), .no, .no, .m (Ms r_271), .f (D (decide ((c_274.length : Int) = (0 : Int)))), .any, .no, .no] : List Sl), rfl, fun ts h => h_law_same r_280 (decide ((c_274.length : Int) = (0 : Int))) ts (by decide) (HasL.wk (by rfl') h), by rfl', rfl, by rfl', fun k_281 => ⟨by rfl', rfl, ⟨_, tr_d rfl rfl, ⟨rfl, Wk.r⟩⟩⟩⟩)))⟩⟩))))))))))), Wk.r, fun b_282 => ⟨_, _, rfl, ?_, ?_⟩⟩⟩⟩⟩)⟩⟩)))))⟩⟩)))))))))))))))))))))))
            · refine SS.at [.s script, .l (PD s_270.1), .d (D (cut r_235.1 none (some r_236.1))), .d (D (isort leT (cut r_235.1 none (some r_236.1)))), .d (D r_237), .f (D k_256), .d (D s_270.2), .no, .no, .m (Ms r_271), .f (D (decide ((c_274.length : Int) = (0 : Int)))), .any, .no, .no] ?_
              exact ss_reto (Ans.up (u := fun x => x) Ans.top) (se_c rfl (⟨false, rfl, by rfl', by rfl'⟩))
            · refine SS.at [.s script, .l (PD s_270.1), .d (D (cut r_235.1 none (some r_236.1))), .d (D (isort leT (cut r_235.1 none (some r_236.1)))), .d (D r_237), .f (D k_256), .d (D s_270.2), .no, .no, .m (Ms r_271), .f (D (decide ((c_274.length : Int) = (0 : Int)))), .any, .no, .no] ?_
              refine ss_if (sb_orm (sb_not (sb_of rfl (se_call rfl (sa_cons (so_e rfl (se_call rfl (sa_cons (so_v rfl rfl (sa_cons (so_v rfl rfl (sa_nil (⟨_, _, _, _, [.s script, .l (PD s_270.1), .d (D (cut r_235.1 none (some r_236.1))), .d (D (isort leT (cut r_235.1 none (some r_236.1)))), .d (D r_237), .f (D k_256), .d (D s_270.2), .no, .no, .m (Ms r_271), .f (D (decide ((c_274.length : Int) = (0 : Int)))), .any, .no, .no], fun r_283 : Bool => ([.s script, .l (PD s_270.1), .d (D (cut r_235.1 none (some r_236.1))), .d (D (isort leT (cut r_235.1 none (some r_236.1)))), .d (D r_237), .f (D k_256), .d (D s_270.2), .no, .no, .m (Ms r_271), .f (D (decide ((c_274.length : Int) = (0 : Int)))), .any, .no, .no] : List Sl), rfl, fun ts h => h_judge (cut r_235.1 none (some r_236.1)) s_270.2 ts (HasL.wk (by rfl') h), by rfl', rfl, by rfl', fun r_283 => ⟨by rfl', rfl, sa_cons (so_e rfl (se_andp (se_v rfl rfl (⟨_, (decide ((s_270.2.length : Int) = (r_237.length : Int))), rfl, se_cmp (so_e rfl (se_fn (sa_cons (so_v rfl rfl (sa_nil (n_len (xs := s_270.2) rfl (so_e rfl (se_fn (sa_cons (so_v rfl rfl (sa_nil (n_len (xs := r_237) rfl (a_eq (α := Int) (x := (s_270.2.length : Int)) (y := (r_237.length : Int)) rfl rfl (⟨(), rfl, Wk1.r, Wk.r⟩)))))))))))))), sa_nil (⟨_, _, _, _, [.s script, .l (PD s_270.1), .d (D (cut r_235.1 none (some r_236.1))), .d (D (isort leT (cut r_235.1 none (some r_236.1)))), .d (D r_237), .f (D k_256), .d (D s_270.2), .no, .no, .m (Ms r_271), .f (D (decide ((c_274.length : Int) = (0 : Int)))), .any, .no, .no], fun k_284 : Bool => ([.s script, .l (PD s_270.1), .d (D (cut r_235.1 none (some r_236.1))), .d (D (isort leT (cut r_235.1 none (some r_236.1)))), .d (D r_237), .f (D k_256), .d (D s_270.2), .no, .no, .m (Ms r_271), .f (D (decide ((c_274.length : Int) = (0 : Int)))), .any, .no, .no] : List Sl), rfl, fun ts h => h_law_same r_283 ((decide ((c_274.length : Int) = (0 : Int))) && (decide ((s_270.2.length : Int) = (r_237.length : Int)))) ts (by decide) (HasL.wk (by rfl') h), by rfl', rfl, by rfl', fun k_284 => ⟨by rfl', rfl, ⟨_, tr_d rfl rfl, ⟨_, _, _, rfl, sb_not (sb_of rfl (se_call rfl (sa_cons (so_e rfl (se_call rfl (sa_cons (so_v rfl rfl (sa_cons (so_v rfl rfl (sa_nil (⟨_, _, _, _, [.s script, .l (PD s_270.1), .d (D (cut r_235.1 none (some r_236.1))), .d (D (isort leT (cut r_235.1 none (some r_236.1)))), .d (D r_237), .f (D k_256), .d (D s_270.2), .no, .no, .m (Ms r_271), .f (D (decide ((c_274.length : Int) = (0 : Int)))), .any, .no, .no], fun r_285 : (List (Str × Str)) => ([.s script, .l (PD s_270.1), .d (D (cut r_235.1 none (some r_236.1))), .d (D (isort leT (cut r_235.1 none (some r_236.1)))), .d (D r_237), .f (D k_256), .d (D s_270.2), .no, .no, .m (Ms r_271), .f (D (decide ((c_274.length : Int) = (0 : Int)))), .any, .no, .no] : List Sl), rfl, fun ts h => h_checked_calls (cut r_235.1 none (some r_236.1)) s_270.2 ts (HasL.wk (by rfl') h), by rfl', rfl, by rfl', fun r_285 => ⟨by rfl', rfl, sa_cons (so_v rfl rfl (sa_nil (⟨_, _, _, _, [.s script, .l (PD s_270.1), .d (D (cut r_235.1 none (some r_236.1))), .d (D (isort leT (cut r_235.1 none (some r_236.1)))), .d (D r_237), .f (D k_256), .d (D s_270.2), .no, .no, .m (Ms r_271), .f (D (decide ((c_274.length : Int) = (0 : Int)))), .any, .no, .no], fun k_286 : Bool => ([.s script, .l (PD s_270.1), .d (D (cut r_235.1 none (some r_236.1))), .d (D (isort leT (cut r_235.1 none (some r_236.1)))), .d (D r_237), .f (D k_256), .d (D s_270.2), .no, .no, .m (Ms r_271), .f (D (decide ((c_274.length : Int) = (0 : Int)))), .any, .no, .no] : List Sl), rfl, fun ts h => h_law_same r_285 s_270.2 ts (by decide) (HasL.wk (by rfl') h), by rfl', rfl, by rfl', fun k_286 => ⟨by rfl', rfl, ⟨_, tr_d rfl rfl, ⟨rfl, Wk.r⟩⟩⟩⟩)))⟩⟩))))))))))), Wk.r, fun b_287 => ⟨_, _, rfl, ?_, ?_⟩⟩⟩⟩⟩)⟩))))⟩⟩)))))))))))))
              · refine SS.at [.s script, .l (PD s_270.1), .d (D (cut r_235.1 none (some r_236.1))), .d (D (isort leT (cut r_235.1 none (some r_236.1)))), .d (D r_237), .f (D k_256), .d (D s_270.2), .no, .no, .m (Ms r_271), .f (D (decide ((c_274.length : Int) = (0 : Int)))), .any, .no, .no] ?_
                exact ss_reto (Ans.up (u := fun x => x) Ans.top) (se_c rfl (⟨false, rfl, by rfl', by rfl'⟩))
              · refine SS.at [.s script, .l (PD s_270.1), .d (D (cut r_235.1 none (some r_236.1))), .d (D (isort leT (cut r_235.1 none (some r_236.1)))), .d (D r_237), .f (D k_256), .d (D s_270.2), .no, .no, .m (Ms r_271), .f (D (decide ((c_274.length : Int) = (0 : Int)))), .any, .no, .no] ?_
                refine ss_asgd (se_call rfl (sa_cons (so_e rfl (se_fn (sa_cons (so_v rfl rfl (sa_nil (n_list rfl (sa_nil (⟨_, _, _, _, [.s script, .l (PD s_270.1), .d (D (cut r_235.1 none (some r_236.1))), .d (D (isort leT (cut r_235.1 none (some r_236.1)))), .d (D r_237), .f (D k_256), .d (D s_270.2), .no, .no, .m (Ms r_271), .f (D (decide ((c_274.length : Int) = (0 : Int)))), .any, .no, .no], fun r_288 : (List (Str × Str)) => ([.s script, .l (PD s_270.1), .d (D (cut r_235.1 none (some r_236.1))), .d (D (isort leT (cut r_235.1 none (some r_236.1)))), .d (D r_237), .f (D k_256), .d (D s_270.2), .no, .no, .m (Ms r_271), .f (D (decide ((c_274.length : Int) = (0 : Int)))), .any, .no, .no] : List Sl), rfl, fun ts h => h_turned s_270.2 ts (HasL.wk (by rfl') h), by rfl', rfl, by rfl', fun r_288 => ⟨by rfl', rfl, ⟨_, rfl, ?_⟩⟩⟩))))))))))
                refine SS.at [.s script, .l (PD s_270.1), .d (D (cut r_235.1 none (some r_236.1))), .d (D (isort leT (cut r_235.1 none (some r_236.1)))), .d (D r_237), .f (D k_256), .d (D s_270.2), .no, .no, .m (Ms r_271), .f (D (decide ((c_274.length : Int) = (0 : Int)))), .d (D r_288), .no, .no] ?_
                refine ss_if (sb_orm (sb_not (sb_of rfl (se_call rfl (sa_cons (so_v rfl rfl (sa_cons (so_e rfl (se_lrevD (α := (Str × Str)) (so_v rfl rfl (⟨s_270.2, rfl, rfl, sa_nil (⟨_, _, _, _, [.s script, .l (PD s_270.1), .d (D (cut r_235.1 none (some r_236.1))), .d (D (isort leT (cut r_235.1 none (some r_236.1)))), .d (D r_237), .f (D k_256), .d (D s_270.2), .no, .no, .m (Ms r_271), .f (D (decide ((c_274.length : Int) = (0 : Int)))), .d (D r_288), .no, .no], fun k_289 : Bool => ([.s script, .l (PD s_270.1), .d (D (cut r_235.1 none (some r_236.1))), .d (D (isort leT (cut r_235.1 none (some r_236.1)))), .d (D r_237), .f (D k_256), .d (D s_270.2), .no, .no, .m (Ms r_271), .f (D (decide ((c_274.length : Int) = (0 : Int)))), .d (D r_288), .no, .no] : List Sl), rfl, fun ts h => h_law_same r_288 (List.reverse s_270.2) ts (by decide) (HasL.wk (by rfl') h), by rfl', rfl, by rfl', fun k_289 => ⟨by rfl', rfl, ⟨_, tr_d rfl rfl, ⟨_, _, _, rfl, sb_cmp (so_e rfl (se_call rfl (sa_cons (so_v rfl rfl (sa_cons (so_v rfl rfl (sa_nil (⟨_, _, _, _, [.s script, .l (PD s_270.1), .d (D (cut r_235.1 none (some r_236.1))), .d (D (isort leT (cut r_235.1 none (some r_236.1)))), .d (D r_237), .f (D k_256), .d (D s_270.2), .no, .no, .m (Ms r_271), .f (D (decide ((c_274.length : Int) = (0 : Int)))), .d (D r_288), .no, .no], fun r_290 : Bool => ([.s script, .l (PD s_270.1), .d (D (cut r_235.1 none (some r_236.1))), .d (D (isort leT (cut r_235.1 none (some r_236.1)))), .d (D r_237), .f (D k_256), .d (D s_270.2), .no, .no, .m (Ms r_271), .f (D (decide ((c_274.length : Int) = (0 : Int)))), .d (D r_288), .no, .no] : List Sl), rfl, fun ts h => h_all_know (cut r_235.1 none (some r_236.1)) r_288 ts (HasL.wk (by rfl') h), by rfl', rfl, by rfl', fun r_290 => ⟨by rfl', rfl, so_v rfl rfl (a_ne (α := Bool) (x := r_290) (y := (decide ((c_274.length : Int) = (0 : Int)))) rfl rfl (⟨_, rfl, ⟨rfl, Wk.r⟩⟩))⟩⟩)))))))), Wk.r, fun b_291 => ⟨_, _, rfl, ?_, ?_⟩⟩⟩⟩⟩)⟩)))))))))))
                · refine SS.at [.s script, .l (PD s_270.1), .d (D (cut r_235.1 none (some r_236.1))), .d (D (isort leT (cut r_235.1 none (some r_236.1)))), .d (D r_237), .f (D k_256), .d (D s_270.2), .no, .no, .m (Ms r_271), .f (D (decide ((c_274.length : Int) = (0 : Int)))), .d (D r_288), .no, .no] ?_
                  exact ss_reto (Ans.up (u := fun x => x) Ans.top) (se_c rfl (⟨false, rfl, by rfl', by rfl'⟩))
                · exact ss_endo (by rfl')
        · refine SS.at [.s script, .l (PD s_255), .d (D (cut r_235.1 none (some r_236.1))), .d (D (isort leT (cut r_235.1 none (some r_236.1)))), .d (D r_237), .no, .any, .no, .no, .any, .no, .any, .no, .no] ?_
          refine ss_forU (σ := Unit) (fun x => x) (fun _ : Unit => ([.s script, .l (PD s_255), .d (D (cut r_235.1 none (some r_236.1))), .d (D (isort leT (cut r_235.1 none (some r_236.1)))), .d (D r_237), .no, .any, .no, .no, .any, .no, .any, .no, .no] : List Sl)) (sc_seq (se_lst (sl_cons (se_lst (sl_cons (se_tup (sl_cons (se_c (by decide +kernel) (⟨_, rfl, sl_cons (se_c (by decide +kernel) (⟨_, rfl, sl_nil (⟨(show 2 ≤ LINE by decide), ⟨_, rfl, sl_nil (⟨(show 1 ≤ LINE by decide), ⟨_, rfl, sl_cons (se_lst (sl_cons (se_tup (sl_cons (se_c (by decide +kernel) (⟨_, rfl, sl_nil (⟨(show 1 ≤ LINE by decide), ⟨_, rfl, sl_nil (⟨(show 1 ≤ LINE by decide), ⟨_, rfl, sl_cons (se_lst (sl_cons (se_lst (sl_cons (se_c (by decide +kernel) (⟨_, rfl, sl_cons (se_c (by decide +kernel) (⟨_, rfl, sl_nil (⟨(show 2 ≤ LINE by decide), ⟨_, rfl, sl_nil (⟨(show 1 ≤ LINE by decide), ⟨_, rfl, sl_cons (se_lst (sl_cons (se_tup (sl_cons (se_c (by decide +kernel) (⟨_, rfl, sl_cons (se_c (by decide +kernel) (⟨_, rfl, sl_nil (⟨(show 2 ≤ LINE by decide), ⟨_, rfl, sl_nil (⟨(show 1 ≤ LINE by decide), ⟨_, rfl, sl_nil (⟨(show 4 ≤ LINE by decide), ⟨_, rfl, ⟨(), ?gg, ?_, by rfl', fun _ => ?_⟩⟩⟩)⟩⟩)⟩⟩)⟩))⟩))))))⟩⟩)⟩⟩)⟩))⟩))))))⟩⟩)⟩⟩)⟩))))))⟩⟩)⟩⟩)⟩))⟩)))))))))
          rotate_left
          · refine ⟨_, _, _, rfl, rfl, ?_, fun _ => ?_⟩
            · refine SS.at [.s script, .l (PD s_255), .d (D (cut r_235.1 none (some r_236.1))), .d (D (isort leT (cut r_235.1 none (some r_236.1)))), .d (D r_237), .no, .any, .no, .no, .any, .no, .any, .f (D ([((⟨#[110, 111, 98, 111, 100, 121, 104, 101, 114, 101]⟩ : Str), (⟨#[110, 111, 98, 111, 100, 121, 104, 101, 114, 101]⟩ : Str))] : List (Str × Str))), .no] ?_
              refine ss_if (sb_orm (sb_cmp (so_e rfl (se_call rfl (sa_cons (so_e rfl (se_c rfl (sa_cons (so_v rfl rfl (sa_cons (so_v rfl rfl (sa_nil (⟨_, _, _, _, [.s script, .l (PD s_255), .d (D (cut r_235.1 none (some r_236.1))), .d (D (isort leT (cut r_235.1 none (some r_236.1)))), .d (D r_237), .no, .any, .no, .no, .any, .no, .any, .f (D ([((⟨#[110, 111, 98, 111, 100, 121, 104, 101, 114, 101]⟩ : Str), (⟨#[110, 111, 98, 111, 100, 121, 104, 101, 114, 101]⟩ : Str))] : List (Str × Str))), .no], fun r_292 : Str => ([.s script, .l (PD s_255), .d (D (cut r_235.1 none (some r_236.1))), .d (D (isort leT (cut r_235.1 none (some r_236.1)))), .d (D r_237), .no, .any, .no, .no, .any, .no, .any, .f (D ([((⟨#[110, 111, 98, 111, 100, 121, 104, 101, 114, 101]⟩ : Str), (⟨#[110, 111, 98, 111, 100, 121, 104, 101, 114, 101]⟩ : Str))] : List (Str × Str))), .no] : List Sl), rfl, fun ts h => h_law_refused (1 : Int) (cut r_235.1 none (some r_236.1)) ([((⟨#[110, 111, 98, 111, 100, 121, 104, 101, 114, 101]⟩ : Str), (⟨#[110, 111, 98, 111, 100, 121, 104, 101, 114, 101]⟩ : Str))] : List (Str × Str)) ts (HasL.wk (by rfl') h), by rfl', rfl, by rfl', fun r_292 => ⟨by rfl', rfl, so_e rfl (se_c (by decide +kernel) (a_ne (α := Str) (x := r_292) (y := (⟨#[112, 97, 112, 101, 114]⟩ : Str)) rfl rfl (⟨_, rfl, ⟨_, _, _, rfl, sb_cmp (so_e rfl (se_call rfl (sa_cons (so_e rfl (se_c rfl (sa_cons (so_v rfl rfl (sa_cons (so_v rfl rfl (sa_nil (⟨_, _, _, _, [.s script, .l (PD s_255), .d (D (cut r_235.1 none (some r_236.1))), .d (D (isort leT (cut r_235.1 none (some r_236.1)))), .d (D r_237), .no, .any, .no, .no, .any, .no, .any, .f (D ([((⟨#[110, 111, 98, 111, 100, 121, 104, 101, 114, 101]⟩ : Str), (⟨#[110, 111, 98, 111, 100, 121, 104, 101, 114, 101]⟩ : Str))] : List (Str × Str))), .no], fun r_293 : Str => ([.s script, .l (PD s_255), .d (D (cut r_235.1 none (some r_236.1))), .d (D (isort leT (cut r_235.1 none (some r_236.1)))), .d (D r_237), .no, .any, .no, .no, .any, .no, .any, .f (D ([((⟨#[110, 111, 98, 111, 100, 121, 104, 101, 114, 101]⟩ : Str), (⟨#[110, 111, 98, 111, 100, 121, 104, 101, 114, 101]⟩ : Str))] : List (Str × Str))), .no] : List Sl), rfl, fun ts h => h_law_refused (2 : Int) (cut r_235.1 none (some r_236.1)) ([((⟨#[110, 111, 98, 111, 100, 121, 104, 101, 114, 101]⟩ : Str), (⟨#[110, 111, 98, 111, 100, 121, 104, 101, 114, 101]⟩ : Str))] : List (Str × Str)) ts (HasL.wk (by rfl') h), by rfl', rfl, by rfl', fun r_293 => ⟨by rfl', rfl, so_e rfl (se_c (by decide +kernel) (a_ne (α := Str) (x := r_293) (y := (⟨#[112, 97, 112, 101, 114]⟩ : Str)) rfl rfl (⟨_, rfl, ⟨rfl, Wk.r⟩⟩)))⟩⟩))))))))))), Wk.r, fun b_294 => ⟨_, _, rfl, ?_, ?_⟩⟩⟩)))⟩⟩)))))))))))))
              · refine SS.at [.s script, .l (PD s_255), .d (D (cut r_235.1 none (some r_236.1))), .d (D (isort leT (cut r_235.1 none (some r_236.1)))), .d (D r_237), .no, .any, .no, .no, .any, .no, .any, .f (D ([((⟨#[110, 111, 98, 111, 100, 121, 104, 101, 114, 101]⟩ : Str), (⟨#[110, 111, 98, 111, 100, 121, 104, 101, 114, 101]⟩ : Str))] : List (Str × Str))), .no] ?_
                exact ss_reto (Ans.up (u := fun x => x) Ans.top) (se_c rfl (⟨false, rfl, by rfl', by rfl'⟩))
              · exact ss_endo (by rfl')
            refine ⟨_, _, _, rfl, rfl, ?_, fun _ => ?_⟩
            · refine SS.at [.s script, .l (PD s_255), .d (D (cut r_235.1 none (some r_236.1))), .d (D (isort leT (cut r_235.1 none (some r_236.1)))), .d (D r_237), .no, .any, .no, .no, .any, .no, .any, .f (D ([(⟨(⟨#[97]⟩ : Str)⟩ : (Tu1 Str))] : List (Tu1 Str))), .no] ?_
              refine ss_if (sb_orm (sb_cmp (so_e rfl (se_call rfl (sa_cons (so_e rfl (se_c rfl (sa_cons (so_v rfl rfl (sa_cons (so_v rfl rfl (sa_nil (⟨_, _, _, _, [.s script, .l (PD s_255), .d (D (cut r_235.1 none (some r_236.1))), .d (D (isort leT (cut r_235.1 none (some r_236.1)))), .d (D r_237), .no, .any, .no, .no, .any, .no, .any, .f (D ([(⟨(⟨#[97]⟩ : Str)⟩ : (Tu1 Str))] : List (Tu1 Str))), .no], fun r_295 : Str => ([.s script, .l (PD s_255), .d (D (cut r_235.1 none (some r_236.1))), .d (D (isort leT (cut r_235.1 none (some r_236.1)))), .d (D r_237), .no, .any, .no, .no, .any, .no, .any, .f (D ([(⟨(⟨#[97]⟩ : Str)⟩ : (Tu1 Str))] : List (Tu1 Str))), .no] : List Sl), rfl, fun ts h => h_law_refused_1 (1 : Int) (cut r_235.1 none (some r_236.1)) ([(⟨(⟨#[97]⟩ : Str)⟩ : (Tu1 Str))] : List (Tu1 Str)) ts (HasL.wk (by rfl') h), by rfl', rfl, by rfl', fun r_295 => ⟨by rfl', rfl, so_e rfl (se_c (by decide +kernel) (a_ne (α := Str) (x := r_295) (y := (⟨#[112, 97, 112, 101, 114]⟩ : Str)) rfl rfl (⟨_, rfl, ⟨_, _, _, rfl, sb_cmp (so_e rfl (se_call rfl (sa_cons (so_e rfl (se_c rfl (sa_cons (so_v rfl rfl (sa_cons (so_v rfl rfl (sa_nil (⟨_, _, _, _, [.s script, .l (PD s_255), .d (D (cut r_235.1 none (some r_236.1))), .d (D (isort leT (cut r_235.1 none (some r_236.1)))), .d (D r_237), .no, .any, .no, .no, .any, .no, .any, .f (D ([(⟨(⟨#[97]⟩ : Str)⟩ : (Tu1 Str))] : List (Tu1 Str))), .no], fun r_296 : Str => ([.s script, .l (PD s_255), .d (D (cut r_235.1 none (some r_236.1))), .d (D (isort leT (cut r_235.1 none (some r_236.1)))), .d (D r_237), .no, .any, .no, .no, .any, .no, .any, .f (D ([(⟨(⟨#[97]⟩ : Str)⟩ : (Tu1 Str))] : List (Tu1 Str))), .no] : List Sl), rfl, fun ts h => h_law_refused_1 (2 : Int) (cut r_235.1 none (some r_236.1)) ([(⟨(⟨#[97]⟩ : Str)⟩ : (Tu1 Str))] : List (Tu1 Str)) ts (HasL.wk (by rfl') h), by rfl', rfl, by rfl', fun r_296 => ⟨by rfl', rfl, so_e rfl (se_c (by decide +kernel) (a_ne (α := Str) (x := r_296) (y := (⟨#[112, 97, 112, 101, 114]⟩ : Str)) rfl rfl (⟨_, rfl, ⟨rfl, Wk.r⟩⟩)))⟩⟩))))))))))), Wk.r, fun b_297 => ⟨_, _, rfl, ?_, ?_⟩⟩⟩)))⟩⟩)))))))))))))
              · refine SS.at [.s script, .l (PD s_255), .d (D (cut r_235.1 none (some r_236.1))), .d (D (isort leT (cut r_235.1 none (some r_236.1)))), .d (D r_237), .no, .any, .no, .no, .any, .no, .any, .f (D ([(⟨(⟨#[97]⟩ : Str)⟩ : (Tu1 Str))] : List (Tu1 Str))), .no] ?_
                exact ss_reto (Ans.up (u := fun x => x) Ans.top) (se_c rfl (⟨false, rfl, by rfl', by rfl'⟩))
              · exact ss_endo (by rfl')
            refine ⟨_, _, _, rfl, rfl, ?_, fun _ => ?_⟩
            · refine SS.at [.s script, .l (PD s_255), .d (D (cut r_235.1 none (some r_236.1))), .d (D (isort leT (cut r_235.1 none (some r_236.1)))), .d (D r_237), .no, .any, .no, .no, .any, .no, .any, .f (D ([([(⟨#[97]⟩ : Str), (⟨#[98]⟩ : Str)] : List Str)] : List (List Str))), .no] ?_
              refine ss_if (sb_orm (sb_cmp (so_e rfl (se_call rfl (sa_cons (so_e rfl (se_c rfl (sa_cons (so_v rfl rfl (sa_cons (so_v rfl rfl (sa_nil (⟨_, _, _, _, [.s script, .l (PD s_255), .d (D (cut r_235.1 none (some r_236.1))), .d (D (isort leT (cut r_235.1 none (some r_236.1)))), .d (D r_237), .no, .any, .no, .no, .any, .no, .any, .f (D ([([(⟨#[97]⟩ : Str), (⟨#[98]⟩ : Str)] : List Str)] : List (List Str))), .no], fun r_298 : Str => ([.s script, .l (PD s_255), .d (D (cut r_235.1 none (some r_236.1))), .d (D (isort leT (cut r_235.1 none (some r_236.1)))), .d (D r_237), .no, .any, .no, .no, .any, .no, .any, .f (D ([([(⟨#[97]⟩ : Str), (⟨#[98]⟩ : Str)] : List Str)] : List (List Str))), .no] : List Sl), rfl, fun ts h => h_law_refused_2 (1 : Int) (cut r_235.1 none (some r_236.1)) ([([(⟨#[97]⟩ : Str), (⟨#[98]⟩ : Str)] : List Str)] : List (List Str)) ts (HasL.wk (by rfl') h), by rfl', rfl, by rfl', fun r_298 => ⟨by rfl', rfl, so_e rfl (se_c (by decide +kernel) (a_ne (α := Str) (x := r_298) (y := (⟨#[112, 97, 112, 101, 114]⟩ : Str)) rfl rfl (⟨_, rfl, ⟨_, _, _, rfl, sb_cmp (so_e rfl (se_call rfl (sa_cons (so_e rfl (se_c rfl (sa_cons (so_v rfl rfl (sa_cons (so_v rfl rfl (sa_nil (⟨_, _, _, _, [.s script, .l (PD s_255), .d (D (cut r_235.1 none (some r_236.1))), .d (D (isort leT (cut r_235.1 none (some r_236.1)))), .d (D r_237), .no, .any, .no, .no, .any, .no, .any, .f (D ([([(⟨#[97]⟩ : Str), (⟨#[98]⟩ : Str)] : List Str)] : List (List Str))), .no], fun r_299 : Str => ([.s script, .l (PD s_255), .d (D (cut r_235.1 none (some r_236.1))), .d (D (isort leT (cut r_235.1 none (some r_236.1)))), .d (D r_237), .no, .any, .no, .no, .any, .no, .any, .f (D ([([(⟨#[97]⟩ : Str), (⟨#[98]⟩ : Str)] : List Str)] : List (List Str))), .no] : List Sl), rfl, fun ts h => h_law_refused_2 (2 : Int) (cut r_235.1 none (some r_236.1)) ([([(⟨#[97]⟩ : Str), (⟨#[98]⟩ : Str)] : List Str)] : List (List Str)) ts (HasL.wk (by rfl') h), by rfl', rfl, by rfl', fun r_299 => ⟨by rfl', rfl, so_e rfl (se_c (by decide +kernel) (a_ne (α := Str) (x := r_299) (y := (⟨#[112, 97, 112, 101, 114]⟩ : Str)) rfl rfl (⟨_, rfl, ⟨rfl, Wk.r⟩⟩)))⟩⟩))))))))))), Wk.r, fun b_300 => ⟨_, _, rfl, ?_, ?_⟩⟩⟩)))⟩⟩)))))))))))))
              · refine SS.at [.s script, .l (PD s_255), .d (D (cut r_235.1 none (some r_236.1))), .d (D (isort leT (cut r_235.1 none (some r_236.1)))), .d (D r_237), .no, .any, .no, .no, .any, .no, .any, .f (D ([([(⟨#[97]⟩ : Str), (⟨#[98]⟩ : Str)] : List Str)] : List (List Str))), .no] ?_
                exact ss_reto (Ans.up (u := fun x => x) Ans.top) (se_c rfl (⟨false, rfl, by rfl', by rfl'⟩))
              · exact ss_endo (by rfl')
            refine ⟨_, _, _, rfl, rfl, ?_, fun _ => ?_⟩
            · refine SS.at [.s script, .l (PD s_255), .d (D (cut r_235.1 none (some r_236.1))), .d (D (isort leT (cut r_235.1 none (some r_236.1)))), .d (D r_237), .no, .any, .no, .no, .any, .no, .any, .f (D ([((⟨#[110, 111, 98, 111, 100, 121, 104, 101, 114, 101]⟩ : Str), (⟨#[110, 101, 119, 97]⟩ : Str))] : List (Str × Str))), .no] ?_
              refine ss_if (sb_orm (sb_cmp (so_e rfl (se_call rfl (sa_cons (so_e rfl (se_c rfl (sa_cons (so_v rfl rfl (sa_cons (so_v rfl rfl (sa_nil (⟨_, _, _, _, [.s script, .l (PD s_255), .d (D (cut r_235.1 none (some r_236.1))), .d (D (isort leT (cut r_235.1 none (some r_236.1)))), .d (D r_237), .no, .any, .no, .no, .any, .no, .any, .f (D ([((⟨#[110, 111, 98, 111, 100, 121, 104, 101, 114, 101]⟩ : Str), (⟨#[110, 101, 119, 97]⟩ : Str))] : List (Str × Str))), .no], fun r_301 : Str => ([.s script, .l (PD s_255), .d (D (cut r_235.1 none (some r_236.1))), .d (D (isort leT (cut r_235.1 none (some r_236.1)))), .d (D r_237), .no, .any, .no, .no, .any, .no, .any, .f (D ([((⟨#[110, 111, 98, 111, 100, 121, 104, 101, 114, 101]⟩ : Str), (⟨#[110, 101, 119, 97]⟩ : Str))] : List (Str × Str))), .no] : List Sl), rfl, fun ts h => h_law_refused (1 : Int) (cut r_235.1 none (some r_236.1)) ([((⟨#[110, 111, 98, 111, 100, 121, 104, 101, 114, 101]⟩ : Str), (⟨#[110, 101, 119, 97]⟩ : Str))] : List (Str × Str)) ts (HasL.wk (by rfl') h), by rfl', rfl, by rfl', fun r_301 => ⟨by rfl', rfl, so_e rfl (se_c (by decide +kernel) (a_ne (α := Str) (x := r_301) (y := (⟨#[112, 97, 112, 101, 114]⟩ : Str)) rfl rfl (⟨_, rfl, ⟨_, _, _, rfl, sb_cmp (so_e rfl (se_call rfl (sa_cons (so_e rfl (se_c rfl (sa_cons (so_v rfl rfl (sa_cons (so_v rfl rfl (sa_nil (⟨_, _, _, _, [.s script, .l (PD s_255), .d (D (cut r_235.1 none (some r_236.1))), .d (D (isort leT (cut r_235.1 none (some r_236.1)))), .d (D r_237), .no, .any, .no, .no, .any, .no, .any, .f (D ([((⟨#[110, 111, 98, 111, 100, 121, 104, 101, 114, 101]⟩ : Str), (⟨#[110, 101, 119, 97]⟩ : Str))] : List (Str × Str))), .no], fun r_302 : Str => ([.s script, .l (PD s_255), .d (D (cut r_235.1 none (some r_236.1))), .d (D (isort leT (cut r_235.1 none (some r_236.1)))), .d (D r_237), .no, .any, .no, .no, .any, .no, .any, .f (D ([((⟨#[110, 111, 98, 111, 100, 121, 104, 101, 114, 101]⟩ : Str), (⟨#[110, 101, 119, 97]⟩ : Str))] : List (Str × Str))), .no] : List Sl), rfl, fun ts h => h_law_refused (2 : Int) (cut r_235.1 none (some r_236.1)) ([((⟨#[110, 111, 98, 111, 100, 121, 104, 101, 114, 101]⟩ : Str), (⟨#[110, 101, 119, 97]⟩ : Str))] : List (Str × Str)) ts (HasL.wk (by rfl') h), by rfl', rfl, by rfl', fun r_302 => ⟨by rfl', rfl, so_e rfl (se_c (by decide +kernel) (a_ne (α := Str) (x := r_302) (y := (⟨#[112, 97, 112, 101, 114]⟩ : Str)) rfl rfl (⟨_, rfl, ⟨rfl, Wk.r⟩⟩)))⟩⟩))))))))))), Wk.r, fun b_303 => ⟨_, _, rfl, ?_, ?_⟩⟩⟩)))⟩⟩)))))))))))))
              · refine SS.at [.s script, .l (PD s_255), .d (D (cut r_235.1 none (some r_236.1))), .d (D (isort leT (cut r_235.1 none (some r_236.1)))), .d (D r_237), .no, .any, .no, .no, .any, .no, .any, .f (D ([((⟨#[110, 111, 98, 111, 100, 121, 104, 101, 114, 101]⟩ : Str), (⟨#[110, 101, 119, 97]⟩ : Str))] : List (Str × Str))), .no] ?_
                exact ss_reto (Ans.up (u := fun x => x) Ans.top) (se_c rfl (⟨false, rfl, by rfl', by rfl'⟩))
              · exact ss_endo (by rfl')
            exact rfl
          · refine SS.at [.s script, .l (PD s_255), .d (D (cut r_235.1 none (some r_236.1))), .d (D (isort leT (cut r_235.1 none (some r_236.1)))), .d (D r_237), .no, .any, .no, .no, .any, .no, .any, .no, .no] ?_
            refine ss_if (sb_orm (sb_cmp (so_e rfl (se_call rfl (sa_cons (so_e rfl (se_c rfl (sa_cons (so_e rfl (se_lst (sl_cons (se_c (by decide +kernel) (⟨_, rfl, sl_cons (se_c (by decide +kernel) (⟨_, rfl, sl_nil (⟨(show 2 ≤ LINE by decide), sa_cons (so_e rfl (se_c rfl (sa_nil (⟨_, _, _, _, [.s script, .l (PD s_255), .d (D (cut r_235.1 none (some r_236.1))), .d (D (isort leT (cut r_235.1 none (some r_236.1)))), .d (D r_237), .no, .any, .no, .no, .any, .no, .any, .no, .no], fun r_304 : Str => ([.s script, .l (PD s_255), .d (D (cut r_235.1 none (some r_236.1))), .d (D (isort leT (cut r_235.1 none (some r_236.1)))), .d (D r_237), .no, .any, .no, .no, .any, .no, .any, .no, .no] : List Sl), rfl, fun ts h => h_law_refused_3 (0 : Int) ([(⟨#[97]⟩ : Str), (⟨#[81]⟩ : Str)] : List Str) (0 : Int) ts (HasL.wk (by rfl') h), by rfl', rfl, by rfl', fun r_304 => ⟨by rfl', rfl, so_e rfl (se_c (by decide +kernel) (a_ne (α := Str) (x := r_304) (y := (⟨#[110, 97, 109, 101]⟩ : Str)) rfl rfl (⟨_, rfl, ⟨_, _, _, rfl, sb_cmp (so_e rfl (se_call rfl (sa_cons (so_e rfl (se_c rfl (sa_cons (so_e rfl (se_lst (sl_cons (se_c (by decide +kernel) (⟨_, rfl, sl_cons (se_c (by decide +kernel) (⟨_, rfl, sl_cons (se_c (by decide +kernel) (⟨_, rfl, sl_nil (⟨(show 3 ≤ LINE by decide), sa_cons (so_e rfl (se_c rfl (sa_nil (⟨_, _, _, _, [.s script, .l (PD s_255), .d (D (cut r_235.1 none (some r_236.1))), .d (D (isort leT (cut r_235.1 none (some r_236.1)))), .d (D r_237), .no, .any, .no, .no, .any, .no, .any, .no, .no], fun r_305 : Str => ([.s script, .l (PD s_255), .d (D (cut r_235.1 none (some r_236.1))), .d (D (isort leT (cut r_235.1 none (some r_236.1)))), .d (D r_237), .no, .any, .no, .no, .any, .no, .any, .no, .no] : List Sl), rfl, fun ts h => h_law_refused_3 (0 : Int) ([(⟨#[97]⟩ : Str), (⟨#[98]⟩ : Str), (⟨#[97]⟩ : Str)] : List Str) (0 : Int) ts (HasL.wk (by rfl') h), by rfl', rfl, by rfl', fun r_305 => ⟨by rfl', rfl, so_e rfl (se_c (by decide +kernel) (a_ne (α := Str) (x := r_305) (y := (⟨#[116, 119, 105, 99, 101]⟩ : Str)) rfl rfl (⟨_, rfl, ⟨rfl, Wk.r⟩⟩)))⟩⟩))))⟩)⟩))⟩))⟩))))))))))), Wk.r, fun b_306 => ⟨_, _, rfl, ?_, ?_⟩⟩⟩)))⟩⟩))))⟩)⟩))⟩)))))))))))))
            · refine SS.at [.s script, .l (PD s_255), .d (D (cut r_235.1 none (some r_236.1))), .d (D (isort leT (cut r_235.1 none (some r_236.1)))), .d (D r_237), .no, .any, .no, .no, .any, .no, .any, .no, .no] ?_
              exact ss_ret (se_c rfl (⟨_, rfl, by rfl', by rfl'⟩))
            · refine SS.at [.s script, .l (PD s_255), .d (D (cut r_235.1 none (some r_236.1))), .d (D (isort leT (cut r_235.1 none (some r_236.1)))), .d (D r_237), .no, .any, .no, .no, .any, .no, .any, .no, .no] ?_
              exact ss_ret (se_cmp (so_e rfl (se_call rfl (sa_cons (so_e rfl (se_c rfl (sa_cons (so_e rfl (se_comp (α := Int) (β := Str) rfl (sc_rng1 (se_c rfl (⟨_, _, rfl, rfl, fun ns_307 => ⟨ns_307, [.s script, .l (PD s_255), .d (D (cut r_235.1 none (some r_236.1))), .d (D (isort leT (cut r_235.1 none (some r_236.1)))), .d (D r_237), .no, .any, .no, .no, .any, .no, .any, .no, .no], (fun k_308 : Int => ([.s script, .l (PD s_255), .d (D (cut r_235.1 none (some r_236.1))), .d (D (isort leT (cut r_235.1 none (some r_236.1)))), .d (D r_237), .f (D k_308), .any, .no, .no, .any, .no, .any, .no, .no] : List Sl)), _, _, _, rfl, rfl, by rfl', rfl, fun _ => rfl, fun k_308 => sn_nil ⟨rfl, by rfl', by rfl'⟩, fun k_308 => se_c (by decide +kernel) (⟨(⟨#[97]⟩ : Str), rfl, rfl, by rfl'⟩), fun c_309 => sa_cons (so_e rfl (se_c rfl (sa_nil (⟨_, _, _, _, [.s script, .l (PD s_255), .d (D (cut r_235.1 none (some r_236.1))), .d (D (isort leT (cut r_235.1 none (some r_236.1)))), .d (D r_237), .no, .any, .no, .no, .any, .no, .any, .no, .no], fun r_310 : Str => ([.s script, .l (PD s_255), .d (D (cut r_235.1 none (some r_236.1))), .d (D (isort leT (cut r_235.1 none (some r_236.1)))), .d (D r_237), .no, .any, .no, .no, .any, .no, .any, .no, .no] : List Sl), rfl, fun ts h => h_law_refused_3 (0 : Int) c_309 (0 : Int) ts (HasL.wk (by rfl') h), by rfl', rfl, by rfl', fun r_310 => ⟨by rfl', rfl, so_e rfl (se_c (by decide +kernel) (a_eq (α := Str) (x := r_310) (y := (⟨#[109, 97, 110, 121]⟩ : Str)) rfl rfl (⟨_, rfl, by rfl', by rfl'⟩)))⟩⟩))))⟩⟩))))))))))))
theorem law_pool_at (k : Nat) : law_pool_c 11 (run P (k + 1)) := by
  intro a0 ts h
  have e : run P (k + 1) 11 ts = f_law_pool.run (run P (k + 0)) ts := run_of (k := k + 0) rfl
  rw [e]
  exact law_pool_ok (C := run P (k + 0))  a0 ts h
theorem law_draw_at (k : Nat) : law_draw_c 12 (run P (k + 1)) := by
  intro a0 a1 ts h
  have e : run P (k + 1) 12 ts = f_law_draw.run (run P (k + 0)) ts := run_of (k := k + 0) rfl
  rw [e]
  exact law_draw_ok (C := run P (k + 0))  a0 a1 ts h
theorem law_names_at (k : Nat) : law_names_c 14 (run P (k + 2)) := by
  intro a0 a1 ts h
  have e : run P (k + 2) 14 ts = f_law_names.run (run P (k + 1)) ts := run_of (k := k + 1) rfl
  rw [e]
  exact law_names_ok (C := run P (k + 1)) (h_law_draw := law_draw_at (k + 0)) a0 a1 ts h
theorem law_rule_at (k : Nat) : law_rule_c 17 (run P (k + 1)) := by
  intro a0 ts h
  have e : run P (k + 1) 17 ts = f_law_rule.run (run P (k + 0)) ts := run_of (k := k + 0) rfl
  rw [e]
  exact law_rule_ok (C := run P (k + 0))  a0 ts h
theorem is_name_at (k : Nat) : is_name_c 0 (run P (k + 1)) := by
  intro a0 ts h
  have e : run P (k + 1) 0 ts = f_is_name.run (run P (k + 0)) ts := run_of (k := k + 0) rfl
  rw [e]
  exact is_name_ok (C := run P (k + 0))  a0 ts h
theorem checked_name_at (k : Nat) : checked_name_c 1 (run P (k + 2)) := by
  intro a0 ts h
  have e : run P (k + 2) 1 ts = f_checked_name.run (run P (k + 1)) ts := run_of (k := k + 1) rfl
  rw [e]
  exact checked_name_ok (C := run P (k + 1)) (h_is_name := is_name_at (k + 0)) a0 ts h
theorem checked_friends_at (k : Nat) : checked_friends_c 2 (run P (k + 3)) := by
  intro a0 ts h
  have e : run P (k + 3) 2 ts = f_checked_friends.run (run P (k + 2)) ts := run_of (k := k + 2) rfl
  rw [e]
  exact checked_friends_ok (C := run P (k + 2)) (h_checked_name := checked_name_at (k + 0)) a0 ts h
theorem plan_at (k : Nat) : plan_c 7 (run P (k + 4)) := by
  intro a0 ts h
  have e : run P (k + 4) 7 ts = f_plan.run (run P (k + 3)) ts := run_of (k := k + 3) rfl
  rw [e]
  exact plan_ok (C := run P (k + 3)) (h_checked_friends := checked_friends_at (k + 0)) a0 ts h
theorem fewest_at (k : Nat) : fewest_c 6 (run P (k + 4)) := by
  intro a0 ts h
  have e : run P (k + 4) 6 ts = f_fewest.run (run P (k + 3)) ts := run_of (k := k + 3) rfl
  rw [e]
  exact fewest_ok (C := run P (k + 3)) (h_checked_friends := checked_friends_at (k + 0)) a0 ts h
theorem checked_calls_at (k : Nat) : checked_calls_c 3 (run P (k + 4)) := by
  intro a0 a1 ts h
  have e : run P (k + 4) 3 ts = f_checked_calls.run (run P (k + 3)) ts := run_of (k := k + 3) rfl
  rw [e]
  exact checked_calls_ok (C := run P (k + 3)) (h_checked_friends := checked_friends_at (k + 0)) a0 a1 ts h
theorem known_at (k : Nat) : known_c 4 (run P (k + 5)) := by
  intro a0 a1 ts h
  have e : run P (k + 5) 4 ts = f_known.run (run P (k + 4)) ts := run_of (k := k + 4) rfl
  rw [e]
  exact known_ok (C := run P (k + 4)) (h_checked_calls := checked_calls_at (k + 0)) (h_checked_friends := checked_friends_at (k + 1)) a0 a1 ts h
theorem all_know_at (k : Nat) : all_know_c 5 (run P (k + 6)) := by
  intro a0 a1 ts h
  have e : run P (k + 6) 5 ts = f_all_know.run (run P (k + 5)) ts := run_of (k := k + 5) rfl
  rw [e]
  exact all_know_ok (C := run P (k + 5)) (h_checked_friends := checked_friends_at (k + 2)) (h_known := known_at (k + 0)) a0 a1 ts h
theorem judge_at (k : Nat) : judge_c 8 (run P (k + 7)) := by
  intro a0 a1 ts h
  have e : run P (k + 7) 8 ts = f_judge.run (run P (k + 6)) ts := run_of (k := k + 6) rfl
  rw [e]
  exact judge_ok (C := run P (k + 6)) (h_all_know := all_know_at (k + 0)) (h_fewest := fewest_at (k + 2)) a0 a1 ts h
theorem law_known_at (k : Nat) : law_known_c 15 (run P (k + 1)) := by
  intro a0 a1 ts h
  have e : run P (k + 1) 15 ts = f_law_known.run (run P (k + 0)) ts := run_of (k := k + 0) rfl
  rw [e]
  exact law_known_ok (C := run P (k + 0))  a0 a1 ts h
theorem law_reach_at (k : Nat) : law_reach_c 18 (run P (k + 1)) := by
  intro a0 a1 ts h
  have e : run P (k + 1) 18 ts = f_law_reach.run (run P (k + 0)) ts := run_of (k := k + 0) rfl
  rw [e]
  exact law_reach_ok (C := run P (k + 0))  a0 a1 ts h
theorem law_calls_at (k : Nat) : law_calls_c 16 (run P (k + 2)) := by
  intro a0 a1 a2 ts h
  have e : run P (k + 2) 16 ts = f_law_calls.run (run P (k + 1)) ts := run_of (k := k + 1) rfl
  rw [e]
  exact law_calls_ok (C := run P (k + 1)) (h_law_draw := law_draw_at (k + 0)) a0 a1 a2 ts h
theorem law_pick_at (k : Nat) : law_pick_c 13 (run P (k + 2)) := by
  intro a0 a1 ts h
  have e : run P (k + 2) 13 ts = f_law_pick.run (run P (k + 1)) ts := run_of (k := k + 1) rfl
  rw [e]
  exact law_pick_ok (C := run P (k + 1)) (h_law_draw := law_draw_at (k + 0)) a0 a1 ts h
theorem turned_at (k : Nat) : turned_c 9 (run P (k + 1)) := by
  intro a0 ts h
  have e : run P (k + 1) 9 ts = f_turned.run (run P (k + 0)) ts := run_of (k := k + 0) rfl
  rw [e]
  exact turned_ok (C := run P (k + 0))  a0 ts h
theorem law_refused_at (k : Nat) : law_refused_c 19 (run P (k + 7)) := by
  intro a0 a1 a2 ts h
  have e : run P (k + 7) 19 ts = f_law_refused.run (run P (k + 6)) ts := run_of (k := k + 6) rfl
  rw [e]
  exact law_refused_ok (C := run P (k + 6)) (h_all_know := all_know_at (k + 0)) (h_checked_calls := checked_calls_at (k + 2)) (h_checked_friends := checked_friends_at (k + 3)) a0 a1 a2 ts h
theorem checked_calls_1_at (k : Nat) : checked_calls_1_c 3 (run P (k + 4)) := by
  intro a0 a1 ts h
  have e : run P (k + 4) 3 ts = f_checked_calls.run (run P (k + 3)) ts := run_of (k := k + 3) rfl
  rw [e]
  exact checked_calls_1_ok (C := run P (k + 3)) (h_checked_friends := checked_friends_at (k + 0)) a0 a1 ts h
theorem known_1_at (k : Nat) : known_1_c 4 (run P (k + 5)) := by
  intro a0 a1 ts h
  have e : run P (k + 5) 4 ts = f_known.run (run P (k + 4)) ts := run_of (k := k + 4) rfl
  rw [e]
  exact known_1_ok (C := run P (k + 4)) (h_checked_calls_1 := checked_calls_1_at (k + 0)) (h_checked_friends := checked_friends_at (k + 1)) a0 a1 ts h
theorem all_know_1_at (k : Nat) : all_know_1_c 5 (run P (k + 6)) := by
  intro a0 a1 ts h
  have e : run P (k + 6) 5 ts = f_all_know.run (run P (k + 5)) ts := run_of (k := k + 5) rfl
  rw [e]
  exact all_know_1_ok (C := run P (k + 5)) (h_checked_friends := checked_friends_at (k + 2)) (h_known_1 := known_1_at (k + 0)) a0 a1 ts h
theorem law_refused_1_at (k : Nat) : law_refused_1_c 19 (run P (k + 7)) := by
  intro a0 a1 a2 ts h
  have e : run P (k + 7) 19 ts = f_law_refused.run (run P (k + 6)) ts := run_of (k := k + 6) rfl
  rw [e]
  exact law_refused_1_ok (C := run P (k + 6)) (h_all_know_1 := all_know_1_at (k + 0)) (h_checked_calls_1 := checked_calls_1_at (k + 2)) (h_checked_friends := checked_friends_at (k + 3)) a0 a1 a2 ts h
theorem checked_calls_2_at (k : Nat) : checked_calls_2_c 3 (run P (k + 4)) := by
  intro a0 a1 ts h
  have e : run P (k + 4) 3 ts = f_checked_calls.run (run P (k + 3)) ts := run_of (k := k + 3) rfl
  rw [e]
  exact checked_calls_2_ok (C := run P (k + 3)) (h_checked_friends := checked_friends_at (k + 0)) a0 a1 ts h
theorem known_2_at (k : Nat) : known_2_c 4 (run P (k + 5)) := by
  intro a0 a1 ts h
  have e : run P (k + 5) 4 ts = f_known.run (run P (k + 4)) ts := run_of (k := k + 4) rfl
  rw [e]
  exact known_2_ok (C := run P (k + 4)) (h_checked_calls_2 := checked_calls_2_at (k + 0)) (h_checked_friends := checked_friends_at (k + 1)) a0 a1 ts h
theorem all_know_2_at (k : Nat) : all_know_2_c 5 (run P (k + 6)) := by
  intro a0 a1 ts h
  have e : run P (k + 6) 5 ts = f_all_know.run (run P (k + 5)) ts := run_of (k := k + 5) rfl
  rw [e]
  exact all_know_2_ok (C := run P (k + 5)) (h_checked_friends := checked_friends_at (k + 2)) (h_known_2 := known_2_at (k + 0)) a0 a1 ts h
theorem law_refused_2_at (k : Nat) : law_refused_2_c 19 (run P (k + 7)) := by
  intro a0 a1 a2 ts h
  have e : run P (k + 7) 19 ts = f_law_refused.run (run P (k + 6)) ts := run_of (k := k + 6) rfl
  rw [e]
  exact law_refused_2_ok (C := run P (k + 6)) (h_all_know_2 := all_know_2_at (k + 0)) (h_checked_calls_2 := checked_calls_2_at (k + 2)) (h_checked_friends := checked_friends_at (k + 3)) a0 a1 a2 ts h
theorem checked_calls_3_at (k : Nat) : checked_calls_3_c 3 (run P (k + 4)) := by
  intro a0 a1 ts h
  have e : run P (k + 4) 3 ts = f_checked_calls.run (run P (k + 3)) ts := run_of (k := k + 3) rfl
  rw [e]
  exact checked_calls_3_ok (C := run P (k + 3)) (h_checked_friends := checked_friends_at (k + 0)) a0 a1 ts h
theorem known_3_at (k : Nat) : known_3_c 4 (run P (k + 5)) := by
  intro a0 a1 ts h
  have e : run P (k + 5) 4 ts = f_known.run (run P (k + 4)) ts := run_of (k := k + 4) rfl
  rw [e]
  exact known_3_ok (C := run P (k + 4)) (h_checked_calls_3 := checked_calls_3_at (k + 0)) (h_checked_friends := checked_friends_at (k + 1)) a0 a1 ts h
theorem all_know_3_at (k : Nat) : all_know_3_c 5 (run P (k + 6)) := by
  intro a0 a1 ts h
  have e : run P (k + 6) 5 ts = f_all_know.run (run P (k + 5)) ts := run_of (k := k + 5) rfl
  rw [e]
  exact all_know_3_ok (C := run P (k + 5)) (h_checked_friends := checked_friends_at (k + 2)) (h_known_3 := known_3_at (k + 0)) a0 a1 ts h
theorem law_refused_3_at (k : Nat) : law_refused_3_c 19 (run P (k + 7)) := by
  intro a0 a1 a2 ts h
  have e : run P (k + 7) 19 ts = f_law_refused.run (run P (k + 6)) ts := run_of (k := k + 6) rfl
  rw [e]
  exact law_refused_3_ok (C := run P (k + 6)) (h_all_know_3 := all_know_3_at (k + 0)) (h_checked_calls_3 := checked_calls_3_at (k + 2)) (h_checked_friends := checked_friends_at (k + 3)) a0 a1 a2 ts h
theorem law_at (k : Nat) : law_c 20 (run P (k + 9)) := by
  intro a0 ts h
  have e : run P (k + 9) 20 ts = f_law.run (run P (k + 8)) ts := run_of (k := k + 8) rfl
  rw [e]
  exact law_ok (C := run P (k + 8)) (h_law_same := same_of (same_at (P := P) rfl 8 (k + 0))) (h_all_know := all_know_at (k + 2)) (h_checked_calls := checked_calls_at (k + 4)) (h_checked_friends := checked_friends_at (k + 5)) (h_fewest := fewest_at (k + 4)) (h_judge := judge_at (k + 1)) (h_known := known_at (k + 3)) (h_law_calls := law_calls_at (k + 6)) (h_law_draw := law_draw_at (k + 7)) (h_law_known := law_known_at (k + 7)) (h_law_names := law_names_at (k + 6)) (h_law_pick := law_pick_at (k + 6)) (h_law_pool := law_pool_at (k + 7)) (h_law_reach := law_reach_at (k + 7)) (h_law_refused := law_refused_at (k + 1)) (h_law_refused_1 := law_refused_1_at (k + 1)) (h_law_refused_2 := law_refused_2_at (k + 1)) (h_law_refused_3 := law_refused_3_at (k + 1)) (h_law_rule := law_rule_at (k + 7)) (h_plan := plan_at (k + 4)) (h_turned := turned_at (k + 7)) a0 ts h
theorem law_runs (h : ∀ ns : List Int, ns.length ≤ 63 → law ns = .ok true) : LawRuns P 9 20 63 := by
  intro ns hl _
  have := law_at 0 ns [.s ns] ⟨rfl, trivial⟩
  rw [h ns hl] at this
  obtain ⟨t, os, e, h1, _⟩ := this
  rw [Nat.zero_add] at e
  rcases h1 with h1 | ⟨_, h1, _⟩
  · cases h1; exact ⟨os, e⟩
  · cases h1
end K81
end
section
set_option Elab.async false
set_option linter.all false
set_option maxRecDepth 100000
set_option maxHeartbeats 0
namespace K81
open PySem PySem.Spec PyProof.Rows L2 Mv
def top (i : Nat) : Stmt := PySem.Challenge.pw_manychoose_k81_whole_fewest_calls.main.body.getD i (.Pass ⟨0, 0, 0, 0⟩)
def refAns : Nat → Option Str := fun c => match c with | 0 => some ⟨#[115, 101, 118, 101, 114, 97, 108]⟩ | 1 => some ⟨#[110, 97, 109, 101]⟩ | 2 => some ⟨#[116, 119, 105, 99, 101]⟩ | 3 => some ⟨#[109, 97, 110, 121]⟩ | 4 => some ⟨#[112, 97, 112, 101, 114]⟩ | _ => none
def T : Pg := ⟨["len", "list", "tuple", "sorted", "sum", "abs", "int", "str", "min", "max", "range", "reversed", "isinstance", "dict", "bool", "ValueError"],
  [("LETTERS", (.str ⟨#[97, 98, 99, 100, 101, 102, 103, 104, 105, 106, 107, 108, 109, 110, 111, 112, 113, 114, 115, 116, 117, 118, 119, 120, 121, 122]⟩)), ("LONGEST", (.int 12)), ("MOST", (.int 20))],
  [(0, "is_name", []), (1, "checked_name", []), (2, "checked_friends", []), (3, "checked_calls", []), (4, "known", []), (6, "fewest", []), (5, "all_know", []), (10, "_law_same", []), (12, "_law_draw", []), (19, "_law_refused", []), (9, "turned", []), (8, "judge", []), (15, "_law_known", []), (13, "_law_pick", []), (16, "_law_calls", []), (18, "_law_reach", []), (7, "plan", []), (17, "_law_rule", []), (14, "_law_names", []), (11, "_law_pool", [])],
  [("ChooseError", 0), ("InvalidName", 1), ("DuplicateName", 2), ("TooMany", 3), ("InvalidPaper", 4)],
  [], [("_law_refusal", refAns)]⟩
theorem lit0 : ("no name" : Str) = ⟨#[110, 111, 32, 110, 97, 109, 101]⟩ := by decide +kernel
theorem lit1 : ("friends" : Str) = ⟨#[102, 114, 105, 101, 110, 100, 115]⟩ := by decide +kernel
theorem lit2 : ("a stranger" : Str) = ⟨#[97, 32, 115, 116, 114, 97, 110, 103, 101, 114]⟩ := by decide +kernel
theorem lit3 : ("no call" : Str) = ⟨#[110, 111, 32, 99, 97, 108, 108]⟩ := by decide +kernel
theorem lit4 : ("" : Str) = ⟨#[]⟩ := by decide +kernel
theorem lit5 : ("abcdefghijklmnopqrstuvwxyz" : Str) = ⟨#[97, 98, 99, 100, 101, 102, 103, 104, 105, 106, 107, 108, 109, 110, 111, 112, 113, 114, 115, 116, 117, 118, 119, 120, 121, 122]⟩ := by decide +kernel
theorem lit6 : ("none" : Str) = ⟨#[110, 111, 110, 101]⟩ := by decide +kernel
theorem lit7 : ("a" : Str) = ⟨#[97]⟩ := by decide +kernel
theorem lit8 : ("many" : Str) = ⟨#[109, 97, 110, 121]⟩ := by decide +kernel
theorem lit9 : ("b" : Str) = ⟨#[98]⟩ := by decide +kernel
theorem lit10 : ("twice" : Str) = ⟨#[116, 119, 105, 99, 101]⟩ := by decide +kernel
theorem lit11 : ("Q" : Str) = ⟨#[81]⟩ := by decide +kernel
theorem lit12 : ("name" : Str) = ⟨#[110, 97, 109, 101]⟩ := by decide +kernel
theorem lit13 : ("newa" : Str) = ⟨#[110, 101, 119, 97]⟩ := by decide +kernel
theorem lit14 : ("nobodyhere" : Str) = ⟨#[110, 111, 98, 111, 100, 121, 104, 101, 114, 101]⟩ := by decide +kernel
theorem lit15 : ("paper" : Str) = ⟨#[112, 97, 112, 101, 114]⟩ := by decide +kernel
theorem lit16 : ("several" : Str) = ⟨#[115, 101, 118, 101, 114, 97, 108]⟩ := by decide +kernel
def N_f_is_name : List Str := ["word", "sign"]
abbrev st_f_is_name : Stmt := top 9
theorem sc_f_is_name : FnScope N_f_is_name ["word"] (defScope st_f_is_name) := ⟨rfl, rfl, rfl, by decide +kernel, rfl, by decide +kernel, by decide +kernel⟩
theorem b_f_is_name {P : Program} {w : World} {K : PySem.W.Frag} {mg : Str → Option Value} {base : Heap} {c : Mv.Ctx} {W : WX} {fa : Addr} {cdv : Value} {A : Around} {outer : List PySem.Env} {s : Shared} {H : Hp} {E : XK} (g : En T (cxOf (L2N.CX P w) P w K mg base N_f_is_name "is_name" (defScope st_f_is_name) fa cdv A outer s H E) c W) :
    DB (cxOf (L2N.CX P w) P w K mg base N_f_is_name "is_name" (defScope st_f_is_name) fa cdv A outer s H E) c W (defBody st_f_is_name) f_is_name.body :=
  (b_cons (s_if (t_w (w_or (t_not (t_of g (d_isi1 g .str 12 7 (d_v 0)))) (w_or1 (t_not (t_chn g .le .le d_int (d_fn g .len 0 (d_cons (d_v 0) d_nil)) (d_con g 1))))))
    (b_cons (s_ret d_bl)
    b_nil)
    b_nil)
    (b_cons (s_for g (i_str (d_v 0)) (g_nm 1 g.nd)
    (b_cons (s_if (t_cmp g .notin (d_v 1) (d_con g 0))
    (b_cons (s_ret d_bl)
    b_nil)
    b_nil)
    b_nil))
    (b_cons (s_ret d_bl)
    b_nil)))
def N_f_checked_name : List Str := ["word"]
abbrev st_f_checked_name : Stmt := top 10
theorem sc_f_checked_name : FnScope N_f_checked_name ["word"] (defScope st_f_checked_name) := ⟨rfl, rfl, rfl, by decide +kernel, rfl, by decide +kernel, by decide +kernel⟩
theorem b_f_checked_name {P : Program} {w : World} {K : PySem.W.Frag} {mg : Str → Option Value} {base : Heap} {c : Mv.Ctx} {W : WX} {fa : Addr} {cdv : Value} {A : Around} {outer : List PySem.Env} {s : Shared} {H : Hp} {E : XK} (g : En T (cxOf (L2N.CX P w) P w K mg base N_f_checked_name "checked_name" (defScope st_f_checked_name) fa cdv A outer s H E) c W) :
    DB (cxOf (L2N.CX P w) P w K mg base N_f_checked_name "checked_name" (defScope st_f_checked_name) fa cdv A outer s H E) c W (defBody st_f_checked_name) f_checked_name.body :=
  (b_cons (s_if (t_not (t_of g (d_call g 0 (d_cons (d_v 0) d_nil))))
    (b_cons (s_rse g 1 (d_str lit0))
    b_nil)
    b_nil)
    (b_cons (s_ret (d_mv 0))
    b_nil))
def N_f_checked_friends : List Str := ["friends", "found", "name"]
abbrev st_f_checked_friends : Stmt := top 13
theorem sc_f_checked_friends : FnScope N_f_checked_friends ["friends"] (defScope st_f_checked_friends) := ⟨rfl, rfl, rfl, by decide +kernel, rfl, by decide +kernel, by decide +kernel⟩
theorem b_f_checked_friends {P : Program} {w : World} {K : PySem.W.Frag} {mg : Str → Option Value} {base : Heap} {c : Mv.Ctx} {W : WX} {fa : Addr} {cdv : Value} {A : Around} {outer : List PySem.Env} {s : Shared} {H : Hp} {E : XK} (g : En T (cxOf (L2N.CX P w) P w K mg base N_f_checked_friends "checked_friends" (defScope st_f_checked_friends) fa cdv A outer s H E) c W) :
    DB (cxOf (L2N.CX P w) P w K mg base N_f_checked_friends "checked_friends" (defScope st_f_checked_friends) fa cdv A outer s H E) c W (defBody st_f_checked_friends) f_checked_friends.body :=
  (b_cons (s_if (t_cmp g .gt (d_fn g .len 0 (d_cons (d_v 0) d_nil)) (d_con g 2))
    (b_cons (s_rse g 3 (d_str lit1))
    b_nil)
    b_nil)
    (b_cons (s_set g 1 (d_lst d_nil))
    (b_cons (s_for g (i_seq g (d_v 0)) (g_nm 2 g.nd)
    (b_cons (s_ex (d_call g 1 (d_cons (d_v 2) d_nil)))
    (b_cons (s_if (t_cmp g .isin (d_v 2) (d_v 1))
    (b_cons (s_rse g 2 (d_v 2))
    b_nil)
    b_nil)
    (b_cons (s_ex (m_append g (d_v 1) (d_cons (d_v 2) d_nil)))
    b_nil))))
    (b_cons (s_ret (d_fn g .sorted 3 (d_cons (d_v 1) d_nil)))
    b_nil))))
def N_f_checked_calls : List Str := ["friends", "calls", "names", "call"]
abbrev st_f_checked_calls : Stmt := top 14
theorem sc_f_checked_calls : FnScope N_f_checked_calls ["friends", "calls"] (defScope st_f_checked_calls) := ⟨rfl, rfl, rfl, by decide +kernel, rfl, by decide +kernel, by decide +kernel⟩
theorem b_f_checked_calls {P : Program} {w : World} {K : PySem.W.Frag} {mg : Str → Option Value} {base : Heap} {c : Mv.Ctx} {W : WX} {fa : Addr} {cdv : Value} {A : Around} {outer : List PySem.Env} {s : Shared} {H : Hp} {E : XK} (g : En T (cxOf (L2N.CX P w) P w K mg base N_f_checked_calls "checked_calls" (defScope st_f_checked_calls) fa cdv A outer s H E) c W) :
    DB (cxOf (L2N.CX P w) P w K mg base N_f_checked_calls "checked_calls" (defScope st_f_checked_calls) fa cdv A outer s H E) c W (defBody st_f_checked_calls) f_checked_calls.body :=
  (b_cons (s_set g 2 (d_call g 2 (d_cons (d_v 0) d_nil)))
    (b_cons (s_for g (i_seq g (d_v 1)) (g_nm 3 g.nd)
    (b_cons (s_if (t_w (w_or (t_not (t_of g (d_isi1 g .tuple 12 2 (d_v 3)))) (w_or (t_cmp g .ne (d_fn g .len 0 (d_cons (d_v 3) d_nil)) d_int) (w_or1 (t_cmp g .eq (d_ix g (d_v 3) d_int) (d_ix g (d_v 3) d_int))))))
    (b_cons (s_rse g 4 (d_str lit3))
    b_nil)
    b_nil)
    (b_cons (s_if (t_w (w_or (t_cmp g .notin (d_ix g (d_v 3) d_int) (d_v 2)) (w_or1 (t_cmp g .notin (d_ix g (d_v 3) d_int) (d_v 2)))))
    (b_cons (s_rse g 4 (d_str lit2))
    b_nil)
    b_nil)
    b_nil)))
    (b_cons (s_ret (d_fn g .list 1 (d_cons (d_v 1) d_nil)))
    b_nil)))
def N_f_known : List Str := ["friends", "calls", "names", "told", "one", "other", "both", "name"]
abbrev st_f_known : Stmt := top 15
theorem sc_f_known : FnScope N_f_known ["friends", "calls"] (defScope st_f_known) := ⟨rfl, rfl, rfl, by decide +kernel, rfl, by decide +kernel, by decide +kernel⟩
theorem b_f_known {P : Program} {w : World} {K : PySem.W.Frag} {mg : Str → Option Value} {base : Heap} {c : Mv.Ctx} {W : WX} {fa : Addr} {cdv : Value} {A : Around} {outer : List PySem.Env} {s : Shared} {H : Hp} {E : XK} (g : En T (cxOf (L2N.CX P w) P w K mg base N_f_known "known" (defScope st_f_known) fa cdv A outer s H E) c W) :
    DB (cxOf (L2N.CX P w) P w K mg base N_f_known "known" (defScope st_f_known) fa cdv A outer s H E) c W (defBody st_f_known) f_known.body :=
  (b_cons (s_set g 2 (d_call g 2 (d_cons (d_v 0) d_nil)))
    (b_cons (s_set g 3 (d_dcomp [("name", 7)] g (i_seq g (d_v 2)) (fun _ _ _ _ _ => (g_nm 7 g.b.nd)) (fun _ _ _ _ _ => (d_v 7)) (fun _ _ _ _ _ => (d_lst (d_cons (d_v 7) d_nil)))))
    (b_cons (s_for g (i_seq g (d_call g 3 (d_cons (d_v 2) (d_cons (d_v 1) d_nil)))) (g_tp g (g_cons 4 g.nd (g_cons 5 g.nd g_nil)))
    (b_cons (s_set g 6 (d_fn g .sorted 3 (d_cons (d_bin g .add (d_ix g (d_v 3) (d_v 4)) (d_comp [("name", 7)] g (i_seq g (d_ix g (d_v 3) (d_v 5))) (fun _ _ _ _ _ => (g_nm 7 g.b.nd)) (fun _ _ _ _ _ => (c_one (t_cmp g.b .notin (d_v 7) (d_ix g.b (d_v 3) (d_v 4))))) (fun _ _ _ _ _ => (d_v 7)))) d_nil)))
    (b_cons (s_seti g (d_v 6) (d_v 3) (d_v 4))
    (b_cons (s_seti g (d_fn g .list 1 (d_cons (d_v 6) d_nil)) (d_v 3) (d_v 5))
    b_nil))))
    (b_cons (s_ret (d_comp [("name", 7)] g (i_seq g (d_v 2)) (fun _ _ _ _ _ => (g_nm 7 g.b.nd)) (fun _ _ _ _ _ => c_nil) (fun _ _ _ _ _ => (d_tup (d_cons (d_v 7) (d_cons (d_ix g.b (d_v 3) (d_v 7)) d_nil))))))
    b_nil))))
def N_f_all_know : List Str := ["friends", "calls", "names", "name", "told"]
abbrev st_f_all_know : Stmt := top 16
theorem sc_f_all_know : FnScope N_f_all_know ["friends", "calls"] (defScope st_f_all_know) := ⟨rfl, rfl, rfl, by decide +kernel, rfl, by decide +kernel, by decide +kernel⟩
theorem b_f_all_know {P : Program} {w : World} {K : PySem.W.Frag} {mg : Str → Option Value} {base : Heap} {c : Mv.Ctx} {W : WX} {fa : Addr} {cdv : Value} {A : Around} {outer : List PySem.Env} {s : Shared} {H : Hp} {E : XK} (g : En T (cxOf (L2N.CX P w) P w K mg base N_f_all_know "all_know" (defScope st_f_all_know) fa cdv A outer s H E) c W) :
    DB (cxOf (L2N.CX P w) P w K mg base N_f_all_know "all_know" (defScope st_f_all_know) fa cdv A outer s H E) c W (defBody st_f_all_know) f_all_know.body :=
  (b_cons (s_set g 2 (d_call g 2 (d_cons (d_v 0) d_nil)))
    (b_cons (s_ret (d_not g (d_comp [("name", 3), ("told", 4)] g (i_seq g (d_call g 4 (d_cons (d_v 2) (d_cons (d_v 1) d_nil)))) (fun _ _ _ _ _ => (g_tp g.b (g_cons 3 g.b.nd (g_cons 4 g.b.nd g_nil)))) (fun _ _ _ _ _ => (c_one (t_cmp g.b .ne (d_v 4) (d_v 2)))) (fun _ _ _ _ _ => (d_v 3)))))
    b_nil))
def N_f_fewest : List Str := ["friends", "many"]
abbrev st_f_fewest : Stmt := top 17
theorem sc_f_fewest : FnScope N_f_fewest ["friends"] (defScope st_f_fewest) := ⟨rfl, rfl, rfl, by decide +kernel, rfl, by decide +kernel, by decide +kernel⟩
theorem b_f_fewest {P : Program} {w : World} {K : PySem.W.Frag} {mg : Str → Option Value} {base : Heap} {c : Mv.Ctx} {W : WX} {fa : Addr} {cdv : Value} {A : Around} {outer : List PySem.Env} {s : Shared} {H : Hp} {E : XK} (g : En T (cxOf (L2N.CX P w) P w K mg base N_f_fewest "fewest" (defScope st_f_fewest) fa cdv A outer s H E) c W) :
    DB (cxOf (L2N.CX P w) P w K mg base N_f_fewest "fewest" (defScope st_f_fewest) fa cdv A outer s H E) c W (defBody st_f_fewest) f_fewest.body :=
  (b_cons (s_set g 1 (d_fn g .len 0 (d_cons (d_call g 2 (d_cons (d_v 0) d_nil)) d_nil)))
    (b_cons (s_if (t_cmp g .lt (d_v 1) d_int)
    (b_cons (s_ret (d_ix g (d_lst (d_cons d_int (d_cons d_int (d_cons d_int (d_cons d_int d_nil))))) (d_v 1)))
    b_nil)
    b_nil)
    (b_cons (s_ret (d_bin g .sub (d_bin g .mul d_int (d_v 1)) d_int))
    b_nil)))
def N_f_plan : List Str := ["friends", "names", "rest", "middle", "name"]
abbrev st_f_plan : Stmt := top 18
theorem sc_f_plan : FnScope N_f_plan ["friends"] (defScope st_f_plan) := ⟨rfl, rfl, rfl, by decide +kernel, rfl, by decide +kernel, by decide +kernel⟩
theorem b_f_plan {P : Program} {w : World} {K : PySem.W.Frag} {mg : Str → Option Value} {base : Heap} {c : Mv.Ctx} {W : WX} {fa : Addr} {cdv : Value} {A : Around} {outer : List PySem.Env} {s : Shared} {H : Hp} {E : XK} (g : En T (cxOf (L2N.CX P w) P w K mg base N_f_plan "plan" (defScope st_f_plan) fa cdv A outer s H E) c W) :
    DB (cxOf (L2N.CX P w) P w K mg base N_f_plan "plan" (defScope st_f_plan) fa cdv A outer s H E) c W (defBody st_f_plan) f_plan.body :=
  (b_cons (s_set g 1 (d_call g 2 (d_cons (d_v 0) d_nil)))
    (b_cons (s_if (t_cmp g .lt (d_fn g .len 0 (d_cons (d_v 1) d_nil)) d_int)
    (b_cons (s_ret (d_lst d_nil))
    b_nil)
    b_nil)
    (b_cons (s_if (t_cmp g .eq (d_fn g .len 0 (d_cons (d_v 1) d_nil)) d_int)
    (b_cons (s_ret (d_lst (d_cons (d_tup (d_cons (d_ix g (d_v 1) d_int) (d_cons (d_ix g (d_v 1) d_int) d_nil))) d_nil)))
    b_nil)
    b_nil)
    (b_cons (s_if (t_cmp g .eq (d_fn g .len 0 (d_cons (d_v 1) d_nil)) d_int)
    (b_cons (s_ret (d_lst (d_cons (d_tup (d_cons (d_ix g (d_v 1) d_int) (d_cons (d_ix g (d_v 1) d_int) d_nil))) (d_cons (d_tup (d_cons (d_ix g (d_v 1) d_int) (d_cons (d_ix g (d_v 1) d_int) d_nil))) (d_cons (d_tup (d_cons (d_ix g (d_v 1) d_int) (d_cons (d_ix g (d_v 1) d_int) d_nil))) d_nil)))))
    b_nil)
    b_nil)
    (b_cons (s_comp [("name", 4)] 2 g (i_seq g (d_sl g (d_v 1) (d_ps d_int) d_pn)) (fun _ _ _ _ _ => (g_nm 4 g.b.nd)) (fun _ _ _ _ _ => c_nil) (fun _ _ _ _ _ => (d_tup (d_cons (d_ix g.b (d_v 1) d_int) (d_cons (d_v 4) d_nil)))))
    (b_cons (s_set g 3 (d_lst (d_cons (d_tup (d_cons (d_ix g (d_v 1) d_int) (d_cons (d_ix g (d_v 1) d_int) d_nil))) (d_cons (d_tup (d_cons (d_ix g (d_v 1) d_int) (d_cons (d_ix g (d_v 1) d_int) d_nil))) (d_cons (d_tup (d_cons (d_ix g (d_v 1) d_int) (d_cons (d_ix g (d_v 1) d_int) d_nil))) (d_cons (d_tup (d_cons (d_ix g (d_v 1) d_int) (d_cons (d_ix g (d_v 1) d_int) d_nil))) d_nil))))))
    (b_cons (s_ret (d_bin g .add (d_bin g .add (d_v 2) (d_v 3)) (d_v 2)))
    b_nil)))))))
def N_f_judge : List Str := ["friends", "calls"]
abbrev st_f_judge : Stmt := top 19
theorem sc_f_judge : FnScope N_f_judge ["friends", "calls"] (defScope st_f_judge) := ⟨rfl, rfl, rfl, by decide +kernel, rfl, by decide +kernel, by decide +kernel⟩
theorem b_f_judge {P : Program} {w : World} {K : PySem.W.Frag} {mg : Str → Option Value} {base : Heap} {c : Mv.Ctx} {W : WX} {fa : Addr} {cdv : Value} {A : Around} {outer : List PySem.Env} {s : Shared} {H : Hp} {E : XK} (g : En T (cxOf (L2N.CX P w) P w K mg base N_f_judge "judge" (defScope st_f_judge) fa cdv A outer s H E) c W) :
    DB (cxOf (L2N.CX P w) P w K mg base N_f_judge "judge" (defScope st_f_judge) fa cdv A outer s H E) c W (defBody st_f_judge) f_judge.body :=
  (b_cons (s_ret (d_and (d_call g 6 (d_cons (d_v 0) (d_cons (d_v 1) d_nil))) (d_one (d_cmp g .eq (d_fn g .len 0 (d_cons (d_v 1) d_nil)) (d_call g 5 (d_cons (d_v 0) d_nil))))))
    b_nil)
def N_f_turned : List Str := ["calls"]
abbrev st_f_turned : Stmt := top 20
theorem sc_f_turned : FnScope N_f_turned ["calls"] (defScope st_f_turned) := ⟨rfl, rfl, rfl, by decide +kernel, rfl, by decide +kernel, by decide +kernel⟩
theorem b_f_turned {P : Program} {w : World} {K : PySem.W.Frag} {mg : Str → Option Value} {base : Heap} {c : Mv.Ctx} {W : WX} {fa : Addr} {cdv : Value} {A : Around} {outer : List PySem.Env} {s : Shared} {H : Hp} {E : XK} (g : En T (cxOf (L2N.CX P w) P w K mg base N_f_turned "turned" (defScope st_f_turned) fa cdv A outer s H E) c W) :
    DB (cxOf (L2N.CX P w) P w K mg base N_f_turned "turned" (defScope st_f_turned) fa cdv A outer s H E) c W (defBody st_f_turned) f_turned.body :=
  (b_cons (s_ret (d_lrev g 1 11 (d_v 0)))
    b_nil)
def N_f_law_same : List Str := ["actual", "due", "k"]
abbrev st_f_law_same : Stmt := top 22
theorem sc_f_law_same : FnScope N_f_law_same ["actual", "due"] (defScope st_f_law_same) := ⟨rfl, rfl, rfl, by decide +kernel, rfl, by decide +kernel, by decide +kernel⟩
theorem b_f_law_same {P : Program} {w : World} {K : PySem.W.Frag} {mg : Str → Option Value} {base : Heap} {c : Mv.Ctx} {W : WX} {fa : Addr} {cdv : Value} {A : Around} {outer : List PySem.Env} {s : Shared} {H : Hp} {E : XK} (g : En T (cxOf (L2N.CX P w) P w K mg base N_f_law_same "_law_same" (defScope st_f_law_same) fa cdv A outer s H E) c W) :
    DB (cxOf (L2N.CX P w) P w K mg base N_f_law_same "_law_same" (defScope st_f_law_same) fa cdv A outer s H E) c W (defBody st_f_law_same) f_law_same.body :=
  (b_cons (s_if (t_cmp g .is (d_v 1) d_non)
    (b_cons (s_ret (d_cmp g .is (d_v 0) d_non))
    b_nil)
    b_nil)
    (b_cons (s_if (t_of g (d_isi2 g .tuple .list 12 2 1 (d_v 1)))
    (b_cons (s_if (t_w (w_or (t_cmp g .ne (d_isi1 g .tuple 12 2 (d_v 1)) (d_isi1 g .tuple 12 2 (d_v 0))) (w_or1 (t_cmp g .ne (d_isi1 g .list 12 1 (d_v 1)) (d_isi1 g .list 12 1 (d_v 0))))))
    (b_cons (s_ret d_bl)
    b_nil)
    b_nil)
    (b_cons (s_if (t_cmp g .ne (d_fn g .len 0 (d_cons (d_v 0) d_nil)) (d_fn g .len 0 (d_cons (d_v 1) d_nil)))
    (b_cons (s_ret d_bl)
    b_nil)
    b_nil)
    (b_cons (s_for g (i_rng1 g 10 (d_fn g .len 0 (d_cons (d_v 1) d_nil))) (g_nm 2 g.nd)
    (b_cons (s_if (t_not (t_of g (d_call g 7 (d_cons (d_ix g (d_v 0) (d_v 2)) (d_cons (d_ix g (d_v 1) (d_v 2)) d_nil)))))
    (b_cons (s_ret d_bl)
    b_nil)
    b_nil)
    b_nil))
    (b_cons (s_ret d_bl)
    b_nil))))
    b_nil)
    (b_cons (s_if (t_of g (d_isi1 g .bool 12 14 (d_v 1)))
    (b_cons (s_ret (d_and (d_isi1 g .bool 12 14 (d_v 0)) (d_one (d_cmp g .eq (d_v 0) (d_v 1)))))
    b_nil)
    b_nil)
    (b_cons (s_if (t_of g (d_isi1 g .int 12 6 (d_v 1)))
    (b_cons (s_ret (d_and (d_isi1 g .int 12 6 (d_v 0)) (d_and (d_not g (d_isi1 g .bool 12 14 (d_v 0))) (d_one (d_cmp g .eq (d_v 0) (d_v 1))))))
    b_nil)
    b_nil)
    (b_cons (s_ret (d_and (d_isi1 g .str 12 7 (d_v 0)) (d_one (d_cmp g .eq (d_v 0) (d_v 1)))))
    b_nil)))))
def N_f_law_pool : List Str := ["script"]
abbrev st_f_law_pool : Stmt := top 23
theorem sc_f_law_pool : FnScope N_f_law_pool ["script"] (defScope st_f_law_pool) := ⟨rfl, rfl, rfl, by decide +kernel, rfl, by decide +kernel, by decide +kernel⟩
theorem b_f_law_pool {P : Program} {w : World} {K : PySem.W.Frag} {mg : Str → Option Value} {base : Heap} {c : Mv.Ctx} {W : WX} {fa : Addr} {cdv : Value} {A : Around} {outer : List PySem.Env} {s : Shared} {H : Hp} {E : XK} (g : En T (cxOf (L2N.CX P w) P w K mg base N_f_law_pool "_law_pool" (defScope st_f_law_pool) fa cdv A outer s H E) c W) :
    DB (cxOf (L2N.CX P w) P w K mg base N_f_law_pool "_law_pool" (defScope st_f_law_pool) fa cdv A outer s H E) c W (defBody st_f_law_pool) f_law_pool.body :=
  (b_cons (s_ret (d_lst (d_cons (d_fn g .list 1 (d_cons (d_v 0) d_nil)) (d_cons d_int (d_cons d_int (d_cons d_int (d_cons d_int d_nil)))))))
    b_nil)
def N_f_law_draw : List Str := ["pool", "many", "found", "cell", "mixed"]
abbrev st_f_law_draw : Stmt := top 24
theorem sc_f_law_draw : FnScope N_f_law_draw ["pool", "many"] (defScope st_f_law_draw) := ⟨rfl, rfl, rfl, by decide +kernel, rfl, by decide +kernel, by decide +kernel⟩
theorem b_f_law_draw {P : Program} {w : World} {K : PySem.W.Frag} {mg : Str → Option Value} {base : Heap} {c : Mv.Ctx} {W : WX} {fa : Addr} {cdv : Value} {A : Around} {outer : List PySem.Env} {s : Shared} {H : Hp} {E : XK} (g : En T (cxOf (L2N.CX P w) P w K mg base N_f_law_draw "_law_draw" (defScope st_f_law_draw) fa cdv A outer s H E) c W) :
    DB (cxOf (L2N.CX P w) P w K mg base N_f_law_draw "_law_draw" (defScope st_f_law_draw) fa cdv A outer s H E) c W (defBody st_f_law_draw) f_law_draw.body :=
  (b_cons (s_if (t_cmp g .gt (d_ix g (d_v 0) d_int) d_int)
    (b_cons (s_set g 2 (d_bin g .mod (d_fn g .int 6 (d_cons (d_ix g (d_v 0) d_int) d_nil)) (d_v 1)))
    (b_cons (s_seti g (d_bin g .fdiv (d_ix g (d_v 0) d_int) (d_v 1)) (d_v 0) d_int)
    (b_cons (s_ret (d_mv 2))
    b_nil)))
    b_nil)
    (b_cons (s_if (t_w (w_and (t_cmp g .eq (d_bin g .mod (d_fn g .int 6 (d_cons (d_ix g (d_v 0) d_int) d_nil)) d_int) d_int) (w_and1 (t_cmp g .lt (d_ix g (d_v 0) d_int) (d_fn g .len 0 (d_cons (d_ix g (d_v 0) d_int) d_nil))))))
    (b_cons (s_set g 3 (d_fn g .abs 5 (d_cons (d_ix g (d_ix g (d_v 0) d_int) (d_ix g (d_v 0) d_int)) d_nil)))
    (b_cons (s_seti g (d_bin g .add (d_ix g (d_v 0) d_int) d_int) (d_v 0) d_int)
    (b_cons (s_if (t_cmp g .ge (d_v 3) (d_bin g .pow d_int d_int))
    (b_cons (s_seti g (d_bin g .fdiv (d_v 3) (d_v 1)) (d_v 0) d_int)
    (b_cons (s_ret (d_bin g .mod (d_fn g .int 6 (d_cons (d_v 3) d_nil)) (d_v 1)))
    b_nil))
    b_nil)
    (b_cons (s_seti g (d_v 3) (d_v 0) d_int)
    b_nil))))
    b_nil)
    (b_cons (s_seti g (d_bin g .add (d_ix g (d_v 0) d_int) d_int) (d_v 0) d_int)
    (b_cons (s_set g 4 (d_bin g .mod (d_fn g .int 6 (d_cons (d_bin g .add (d_bin g .add (d_bin g .mul (d_ix g (d_v 0) d_int) d_int) (d_bin g .mul (d_ix g (d_v 0) d_int) d_int)) d_int) d_nil)) d_int))
    (b_cons (s_set g 4 (d_bin g .mod (d_fn g .int 6 (d_cons (d_bin g .add (d_bin g .mul (d_v 4) (d_v 4)) (d_bin g .mul (d_ix g (d_v 0) d_int) d_int)) d_nil)) d_int))
    (b_cons (s_ret (d_bin g .mod (d_fn g .int 6 (d_cons (d_v 4) d_nil)) (d_v 1)))
    b_nil))))))
def N_f_law_pick : List Str := ["pool", "rows"]
abbrev st_f_law_pick : Stmt := top 25
theorem sc_f_law_pick : FnScope N_f_law_pick ["pool", "rows"] (defScope st_f_law_pick) := ⟨rfl, rfl, rfl, by decide +kernel, rfl, by decide +kernel, by decide +kernel⟩
theorem b_f_law_pick {P : Program} {w : World} {K : PySem.W.Frag} {mg : Str → Option Value} {base : Heap} {c : Mv.Ctx} {W : WX} {fa : Addr} {cdv : Value} {A : Around} {outer : List PySem.Env} {s : Shared} {H : Hp} {E : XK} (g : En T (cxOf (L2N.CX P w) P w K mg base N_f_law_pick "_law_pick" (defScope st_f_law_pick) fa cdv A outer s H E) c W) :
    DB (cxOf (L2N.CX P w) P w K mg base N_f_law_pick "_law_pick" (defScope st_f_law_pick) fa cdv A outer s H E) c W (defBody st_f_law_pick) f_law_pick.body :=
  (b_cons (s_ret (d_ix g (d_v 1) (d_call g 8 (d_cons (d_v 0) (d_cons (d_fn g .len 0 (d_cons (d_v 1) d_nil)) d_nil)))))
    b_nil)
def N_f_law_names : List Str := ["pool", "many", "letters", "first", "common", "at", "found", "k", "code"]
abbrev st_f_law_names : Stmt := top 26
theorem sc_f_law_names : FnScope N_f_law_names ["pool", "many"] (defScope st_f_law_names) := ⟨rfl, rfl, rfl, by decide +kernel, rfl, by decide +kernel, by decide +kernel⟩
theorem b_f_law_names {P : Program} {w : World} {K : PySem.W.Frag} {mg : Str → Option Value} {base : Heap} {c : Mv.Ctx} {W : WX} {fa : Addr} {cdv : Value} {A : Around} {outer : List PySem.Env} {s : Shared} {H : Hp} {E : XK} (g : En T (cxOf (L2N.CX P w) P w K mg base N_f_law_names "_law_names" (defScope st_f_law_names) fa cdv A outer s H E) c W) :
    DB (cxOf (L2N.CX P w) P w K mg base N_f_law_names "_law_names" (defScope st_f_law_names) fa cdv A outer s H E) c W (defBody st_f_law_names) f_law_names.body :=
  (b_cons (s_set g 2 (d_str lit5))
    (b_cons (s_set g 3 (d_call g 8 (d_cons (d_v 0) (d_cons d_int d_nil))))
    (b_cons (s_if (t_w (w_and (t_cmp g .le (d_v 1) d_int) (w_and1 (t_cmp g .eq (d_call g 8 (d_cons (d_v 0) (d_cons d_int d_nil))) d_int))))
    (b_cons (s_ret (d_comp [("k", 7)] g (i_rng1 g 10 (d_v 1)) (fun _ _ _ _ _ => (g_nm 7 g.b.nd)) (fun _ _ _ _ _ => c_nil) (fun _ _ _ _ _ => (d_ix g.b (d_v 2) (d_bin g.b .mod (d_fn g.b .int 6 (d_cons (d_bin g.b .add (d_v 3) (d_v 7)) d_nil)) d_int)))))
    b_nil)
    b_nil)
    (b_cons (s_set g 4 (d_join g (d_str lit4) (d_cons (d_comp [("k", 7)] g (i_rng1 g 10 (d_call g 8 (d_cons (d_v 0) (d_cons d_int d_nil)))) (fun _ _ _ _ _ => (g_nm 7 g.b.nd)) (fun _ _ _ _ _ => c_nil) (fun _ _ _ _ _ => (d_ix g.b (d_v 2) (d_call g.b 8 (d_cons (d_v 0) (d_cons d_int d_nil)))))) d_nil)))
    (b_cons (s_set g 5 (d_call g 8 (d_cons (d_v 0) (d_cons (d_bin g .add (d_fn g .len 0 (d_cons (d_v 4) d_nil)) d_int) d_nil))))
    (b_cons (s_set g 6 (d_lst d_nil))
    (b_cons (s_for g (i_rng1 g 10 (d_v 1)) (g_nm 7 g.nd)
    (b_cons (s_set g 8 (d_bin g .add (d_ix g (d_v 2) (d_bin g .mod (d_fn g .int 6 (d_cons (d_bin g .add (d_v 3) (d_v 7)) d_nil)) d_int)) (d_ix g (d_v 2) (d_bin g .mod (d_fn g .int 6 (d_cons (d_bin g .add (d_bin g .add (d_v 3) (d_bin g .mul (d_bin g .fdiv (d_v 7) d_int) d_int)) (d_v 7)) d_nil)) d_int))))
    (b_cons (s_ex (m_append g (d_v 6) (d_cons (d_bin g .add (d_bin g .add (d_sl g (d_v 4) d_pn (d_ps (d_v 5))) (d_v 8)) (d_sl g (d_v 4) (d_ps (d_v 5)) d_pn)) d_nil)))
    b_nil)))
    (b_cons (s_ret (d_mv 6))
    b_nil))))))))
def N_f_law_known : List Str := ["names", "calls", "told", "name", "one", "other", "both"]
abbrev st_f_law_known : Stmt := top 28
theorem sc_f_law_known : FnScope N_f_law_known ["names", "calls"] (defScope st_f_law_known) := ⟨rfl, rfl, rfl, by decide +kernel, rfl, by decide +kernel, by decide +kernel⟩
theorem b_f_law_known {P : Program} {w : World} {K : PySem.W.Frag} {mg : Str → Option Value} {base : Heap} {c : Mv.Ctx} {W : WX} {fa : Addr} {cdv : Value} {A : Around} {outer : List PySem.Env} {s : Shared} {H : Hp} {E : XK} (g : En T (cxOf (L2N.CX P w) P w K mg base N_f_law_known "_law_known" (defScope st_f_law_known) fa cdv A outer s H E) c W) :
    DB (cxOf (L2N.CX P w) P w K mg base N_f_law_known "_law_known" (defScope st_f_law_known) fa cdv A outer s H E) c W (defBody st_f_law_known) f_law_known.body :=
  (b_cons (s_set g 2 d_dnew)
    (b_cons (s_for g (i_seq g (d_v 0)) (g_nm 3 g.nd)
    (b_cons (s_seti g (d_lst (d_cons (d_v 3) d_nil)) (d_v 2) (d_v 3))
    b_nil))
    (b_cons (s_for g (i_seq g (d_v 1)) (g_tp g (g_cons 4 g.nd (g_cons 5 g.nd g_nil)))
    (b_cons (s_set g 6 (d_fn g .sorted 3 (d_cons (d_bin g .add (d_ix g (d_v 2) (d_v 4)) (d_comp [("name", 3)] g (i_seq g (d_ix g (d_v 2) (d_v 5))) (fun _ _ _ _ _ => (g_nm 3 g.b.nd)) (fun _ _ _ _ _ => (c_one (t_cmp g.b .notin (d_v 3) (d_ix g.b (d_v 2) (d_v 4))))) (fun _ _ _ _ _ => (d_v 3)))) d_nil)))
    (b_cons (s_seti g (d_v 6) (d_v 2) (d_v 4))
    (b_cons (s_seti g (d_v 6) (d_v 2) (d_v 5))
    b_nil))))
    (b_cons (s_ret (d_mv 2))
    b_nil))))
def N_f_law_calls : List Str := ["pool", "names", "most", "found", "k", "at", "other"]
abbrev st_f_law_calls : Stmt := top 29
theorem sc_f_law_calls : FnScope N_f_law_calls ["pool", "names", "most"] (defScope st_f_law_calls) := ⟨rfl, rfl, rfl, by decide +kernel, rfl, by decide +kernel, by decide +kernel⟩
theorem b_f_law_calls {P : Program} {w : World} {K : PySem.W.Frag} {mg : Str → Option Value} {base : Heap} {c : Mv.Ctx} {W : WX} {fa : Addr} {cdv : Value} {A : Around} {outer : List PySem.Env} {s : Shared} {H : Hp} {E : XK} (g : En T (cxOf (L2N.CX P w) P w K mg base N_f_law_calls "_law_calls" (defScope st_f_law_calls) fa cdv A outer s H E) c W) :
    DB (cxOf (L2N.CX P w) P w K mg base N_f_law_calls "_law_calls" (defScope st_f_law_calls) fa cdv A outer s H E) c W (defBody st_f_law_calls) f_law_calls.body :=
  (b_cons (s_set g 3 (d_lst d_nil))
    (b_cons (s_for g (i_rng1 g 10 (d_call g 8 (d_cons (d_v 0) (d_cons (d_bin g .add (d_v 2) d_int) d_nil)))) (g_nm 4 g.nd)
    (b_cons (s_set g 5 (d_call g 8 (d_cons (d_v 0) (d_cons (d_fn g .len 0 (d_cons (d_v 1) d_nil)) d_nil))))
    (b_cons (s_set g 6 (d_bin g .mod (d_fn g .int 6 (d_cons (d_bin g .add (d_bin g .add (d_v 5) d_int) (d_call g 8 (d_cons (d_v 0) (d_cons (d_bin g .sub (d_fn g .len 0 (d_cons (d_v 1) d_nil)) d_int) d_nil)))) d_nil)) (d_fn g .len 0 (d_cons (d_v 1) d_nil))))
    (b_cons (s_ex (m_append g (d_v 3) (d_cons (d_tup (d_cons (d_ix g (d_v 1) (d_v 5)) (d_cons (d_ix g (d_v 1) (d_v 6)) d_nil))) d_nil)))
    b_nil))))
    (b_cons (s_ret (d_mv 3))
    b_nil)))
def N_f_law_rule : List Str := ["names", "rest", "name"]
abbrev st_f_law_rule : Stmt := top 30
theorem sc_f_law_rule : FnScope N_f_law_rule ["names"] (defScope st_f_law_rule) := ⟨rfl, rfl, rfl, by decide +kernel, rfl, by decide +kernel, by decide +kernel⟩
theorem b_f_law_rule {P : Program} {w : World} {K : PySem.W.Frag} {mg : Str → Option Value} {base : Heap} {c : Mv.Ctx} {W : WX} {fa : Addr} {cdv : Value} {A : Around} {outer : List PySem.Env} {s : Shared} {H : Hp} {E : XK} (g : En T (cxOf (L2N.CX P w) P w K mg base N_f_law_rule "_law_rule" (defScope st_f_law_rule) fa cdv A outer s H E) c W) :
    DB (cxOf (L2N.CX P w) P w K mg base N_f_law_rule "_law_rule" (defScope st_f_law_rule) fa cdv A outer s H E) c W (defBody st_f_law_rule) f_law_rule.body :=
  (b_cons (s_if (t_cmp g .lt (d_fn g .len 0 (d_cons (d_v 0) d_nil)) d_int)
    (b_cons (s_ret (d_lst d_nil))
    b_nil)
    b_nil)
    (b_cons (s_if (t_cmp g .lt (d_fn g .len 0 (d_cons (d_v 0) d_nil)) d_int)
    (b_cons (s_ret (d_ite (t_cmp g .eq (d_fn g .len 0 (d_cons (d_v 0) d_nil)) d_int) (d_lst (d_cons (d_tup (d_cons (d_ix g (d_v 0) d_int) (d_cons (d_ix g (d_v 0) d_int) d_nil))) d_nil)) (d_lst (d_cons (d_tup (d_cons (d_ix g (d_v 0) d_int) (d_cons (d_ix g (d_v 0) d_int) d_nil))) (d_cons (d_tup (d_cons (d_ix g (d_v 0) d_int) (d_cons (d_ix g (d_v 0) d_int) d_nil))) (d_cons (d_tup (d_cons (d_ix g (d_v 0) d_int) (d_cons (d_ix g (d_v 0) d_int) d_nil))) d_nil))))))
    b_nil)
    b_nil)
    (b_cons (s_comp [("name", 2)] 1 g (i_seq g (d_sl g (d_v 0) (d_ps d_int) d_pn)) (fun _ _ _ _ _ => (g_nm 2 g.b.nd)) (fun _ _ _ _ _ => c_nil) (fun _ _ _ _ _ => (d_tup (d_cons (d_ix g.b (d_v 0) d_int) (d_cons (d_v 2) d_nil)))))
    (b_cons (s_ret (d_bin g .add (d_bin g .add (d_v 1) (d_lst (d_cons (d_tup (d_cons (d_ix g (d_v 0) d_int) (d_cons (d_ix g (d_v 0) d_int) d_nil))) (d_cons (d_tup (d_cons (d_ix g (d_v 0) d_int) (d_cons (d_ix g (d_v 0) d_int) d_nil))) (d_cons (d_tup (d_cons (d_ix g (d_v 0) d_int) (d_cons (d_ix g (d_v 0) d_int) d_nil))) (d_cons (d_tup (d_cons (d_ix g (d_v 0) d_int) (d_cons (d_ix g (d_v 0) d_int) d_nil))) d_nil)))))) (d_v 1)))
    b_nil))))
def N_f_law_reach : List Str := ["names", "many", "start", "found", "k", "grown", "rows", "one", "other", "both", "after", "name", "told"]
abbrev st_f_law_reach : Stmt := top 31
theorem sc_f_law_reach : FnScope N_f_law_reach ["names", "many"] (defScope st_f_law_reach) := ⟨rfl, rfl, rfl, by decide +kernel, rfl, by decide +kernel, by decide +kernel⟩
theorem b_f_law_reach {P : Program} {w : World} {K : PySem.W.Frag} {mg : Str → Option Value} {base : Heap} {c : Mv.Ctx} {W : WX} {fa : Addr} {cdv : Value} {A : Around} {outer : List PySem.Env} {s : Shared} {H : Hp} {E : XK} (g : En T (cxOf (L2N.CX P w) P w K mg base N_f_law_reach "_law_reach" (defScope st_f_law_reach) fa cdv A outer s H E) c W) :
    DB (cxOf (L2N.CX P w) P w K mg base N_f_law_reach "_law_reach" (defScope st_f_law_reach) fa cdv A outer s H E) c W (defBody st_f_law_reach) f_law_reach.body :=
  (b_cons (s_comp [("name", 11)] 2 g (i_seq g (d_v 0)) (fun _ _ _ _ _ => (g_nm 11 g.b.nd)) (fun _ _ _ _ _ => c_nil) (fun _ _ _ _ _ => (d_lst (d_cons (d_v 11) d_nil))))
    (b_cons (s_set g 3 (d_lst (d_cons (d_v 2) d_nil)))
    (b_cons (s_for g (i_rng1 g 10 (d_v 1)) (g_nm 4 g.nd)
    (b_cons (s_set g 5 (d_lst d_nil))
    (b_cons (s_for g (i_seq g (d_v 3)) (g_nm 6 g.nd)
    (b_cons (s_for g (i_rng1 g 10 (d_fn g .len 0 (d_cons (d_v 0) d_nil))) (g_nm 7 g.nd)
    (b_cons (s_for g (i_rng1 g 10 (d_v 7)) (g_nm 8 g.nd)
    (b_cons (s_set g 9 (d_fn g .sorted 3 (d_cons (d_bin g .add (d_ix g (d_v 6) (d_v 7)) (d_comp [("name", 11)] g (i_seq g (d_ix g (d_v 6) (d_v 8))) (fun _ _ _ _ _ => (g_nm 11 g.b.nd)) (fun _ _ _ _ _ => (c_one (t_cmp g.b .notin (d_v 11) (d_ix g.b (d_v 6) (d_v 7))))) (fun _ _ _ _ _ => (d_v 11)))) d_nil)))
    (b_cons (s_set g 10 (d_fn g .list 1 (d_cons (d_v 6) d_nil)))
    (b_cons (s_seti g (d_v 9) (d_v 10) (d_v 7))
    (b_cons (s_seti g (d_v 9) (d_v 10) (d_v 8))
    (b_cons (s_set g 5 (d_ite (t_cmp g .isin (d_v 10) (d_v 5)) (d_v 5) (d_bin g .add (d_v 5) (d_lst (d_cons (d_v 10) d_nil)))))
    b_nil))))))
    b_nil))
    b_nil))
    (b_cons (s_set g 3 (d_v 5))
    b_nil))))
    (b_cons (s_ret (d_cmp g .gt (d_fn g .len 0 (d_cons (d_comp [("rows", 6)] g (i_seq g (d_v 3)) (fun _ _ _ _ _ => (g_nm 6 g.b.nd)) (fun _ _ _ _ _ => (c_one (t_cmp g.b .eq (d_fn g.b .len 0 (d_cons (d_comp [("told", 12)] g.b (i_seq g.b (d_v 6)) (fun _ _ _ _ _ => (g_nm 12 g.b.b.nd)) (fun _ _ _ _ _ => (c_one (t_cmp g.b.b .ne (d_v 12) (d_v 0)))) (fun _ _ _ _ _ => (d_v 12))) d_nil)) d_int))) (fun _ _ _ _ _ => (d_v 6))) d_nil)) d_int))
    b_nil))))
def N_f_law_refused : List Str := ["choice", "friends", "calls", "problem"]
abbrev st_f_law_refused : Stmt := top 32
theorem sc_f_law_refused : FnScope N_f_law_refused ["choice", "friends", "calls"] (defScope st_f_law_refused) := ⟨rfl, rfl, rfl, by decide +kernel, rfl, by decide +kernel, by decide +kernel⟩
theorem b_f_law_refused {P : Program} {w : World} {K : PySem.W.Frag} {mg : Str → Option Value} {base : Heap} {c : Mv.Ctx} {W : WX} {fa : Addr} {cdv : Value} {A : Around} {outer : List PySem.Env} {s : Shared} {H : Hp} {E : XK} (g : En T (cxOf (L2N.CX P w) P w K mg base N_f_law_refused "_law_refused" (defScope st_f_law_refused) fa cdv A outer s H E) c W) :
    DB (cxOf (L2N.CX P w) P w K mg base N_f_law_refused "_law_refused" (defScope st_f_law_refused) fa cdv A outer s H E) c W (defBody st_f_law_refused) f_law_refused.body :=
  (b_cons (s_trf g 0 3 (fun W' pn xe g => (b_cons (s_if (t_cmp g .eq (d_v 0) d_int)
    (b_cons (s_ex (d_call g 2 (d_cons (d_v 1) d_nil)))
    b_nil)
    (b_cons (s_if (t_cmp g .eq (d_v 0) d_int)
    (b_cons (s_ex (d_call g 3 (d_cons (d_v 1) (d_cons (d_v 2) d_nil))))
    b_nil)
    (b_cons (s_ex (d_call g 6 (d_cons (d_v 1) (d_cons (d_v 2) d_nil))))
    b_nil))
    b_nil))
    b_nil)) (fun x z e a oe pn hz hf hn => by split at e <;> cases e <;> exact k_call g 0 hz hf hn rfl))
    (b_cons (s_ret (d_str lit6))
    b_nil))
def N_f_law : List Str := ["script", "pool", "handed", "names", "due", "k", "some", "j", "at", "told", "good", "back", "wrong", "name"]
abbrev st_f_law : Stmt := top 33
theorem sc_f_law : FnScope N_f_law ["script"] (defScope st_f_law) := ⟨rfl, rfl, rfl, by decide +kernel, rfl, by decide +kernel, by decide +kernel⟩
theorem b_f_law {P : Program} {w : World} {K : PySem.W.Frag} {mg : Str → Option Value} {base : Heap} {c : Mv.Ctx} {W : WX} {fa : Addr} {cdv : Value} {A : Around} {outer : List PySem.Env} {s : Shared} {H : Hp} {E : XK} (g : En T (cxOf (L2N.CX P w) P w K mg base N_f_law "law" (defScope st_f_law) fa cdv A outer s H E) c W) :
    DB (cxOf (L2N.CX P w) P w K mg base N_f_law "law" (defScope st_f_law) fa cdv A outer s H E) c W (defBody st_f_law) f_law.body :=
  (b_cons (s_set g 1 (d_call g 19 (d_cons (d_v 0) d_nil)))
    (b_cons (s_set g 2 (d_sl g (d_call g 18 (d_cons (d_v 1) (d_cons d_int d_nil))) d_pn (d_ps (d_call g 8 (d_cons (d_v 1) (d_cons d_int d_nil))))))
    (b_cons (s_set g 3 (d_fn g .sorted 3 (d_cons (d_v 2) d_nil)))
    (b_cons (s_set g 4 (d_call g 17 (d_cons (d_v 3) d_nil)))
    (b_cons (s_if (t_w (w_or (t_not (t_of g (d_call g 7 (d_cons (d_call g 2 (d_cons (d_fn g .list 1 (d_cons (d_v 2) d_nil)) d_nil)) (d_cons (d_v 3) d_nil))))) (w_or (t_not (t_of g (d_call g 7 (d_cons (d_call g 16 (d_cons (d_fn g .list 1 (d_cons (d_v 2) d_nil)) d_nil)) (d_cons (d_v 4) d_nil))))) (w_or1 (t_not (t_of g (d_call g 7 (d_cons (d_call g 5 (d_cons (d_v 2) d_nil)) (d_cons (d_fn g .len 0 (d_cons (d_v 4) d_nil)) d_nil)))))))))
    (b_cons (s_ret d_bl)
    b_nil)
    b_nil)
    (b_cons (s_if (t_w (w_or (t_cmp g .isnot (d_call g 11 (d_cons (d_fn g .list 1 (d_cons (d_v 2) d_nil)) (d_cons (d_fn g .list 1 (d_cons (d_v 4) d_nil)) d_nil))) d_bl) (w_or1 (t_cmp g .gt (d_fn g .len 0 (d_cons (d_comp [("name", 13)] g (i_seq g (d_v 3)) (fun _ _ _ _ _ => (g_nm 13 g.b.nd)) (fun _ _ _ _ _ => (c_one (t_cmp g.b .ne (d_ix g.b (d_call g.b 12 (d_cons (d_v 3) (d_cons (d_v 4) d_nil))) (d_v 13)) (d_v 3)))) (fun _ _ _ _ _ => (d_v 13))) d_nil)) d_int))))
    (b_cons (s_ret d_bl)
    b_nil)
    b_nil)
    (b_cons (s_if (t_w (w_and (t_chn g .lt .lt d_int (d_fn g .len 0 (d_cons (d_v 3) d_nil)) d_int) (w_and1 (t_of g (d_call g 15 (d_cons (d_v 3) (d_cons (d_bin g .sub (d_fn g .len 0 (d_cons (d_v 4) d_nil)) d_int) d_nil)))))))
    (b_cons (s_ret d_bl)
    b_nil)
    b_nil)
    (b_cons (s_for g (i_rng1 g 10 d_int) (g_nm 5 g.nd)
    (b_cons (s_set g 6 (d_fn g .list 1 (d_cons (d_v 4) d_nil)))
    (b_cons (s_if (t_cmp g .gt (d_fn g .len 0 (d_cons (d_v 3) d_nil)) d_int)
    (b_cons (s_set g 6 (d_call g 13 (d_cons (d_v 1) (d_cons (d_lst (d_cons (d_fn g .list 1 (d_cons (d_v 4) d_nil)) (d_cons (d_call g 14 (d_cons (d_v 1) (d_cons (d_v 3) (d_cons d_int d_nil)))) (d_cons (d_lrev g 1 11 (d_v 4)) d_nil)))) d_nil))))
    (b_cons (s_for g (i_rng1 g 10 (d_call g 8 (d_cons (d_v 1) (d_cons d_int d_nil)))) (g_nm 7 g.nd)
    (b_cons (s_set g 8 (d_call g 8 (d_cons (d_v 1) (d_cons (d_bin g .add (d_fn g .len 0 (d_cons (d_v 6) d_nil)) d_int) d_nil))))
    (b_cons (s_set g 6 (d_call g 13 (d_cons (d_v 1) (d_cons (d_lst (d_cons (d_bin g .add (d_sl g (d_v 6) d_pn (d_ps (d_v 8))) (d_sl g (d_v 6) (d_ps (d_bin g .add (d_v 8) d_int)) d_pn)) (d_cons (d_bin g .add (d_bin g .add (d_sl g (d_v 6) d_pn (d_ps (d_v 8))) (d_call g 14 (d_cons (d_v 1) (d_cons (d_v 3) (d_cons d_int d_nil))))) (d_sl g (d_v 6) (d_ps (d_v 8)) d_pn)) (d_cons (d_bin g .add (d_sl g (d_v 6) (d_ps (d_v 8)) d_pn) (d_sl g (d_v 6) d_pn (d_ps (d_v 8)))) d_nil)))) d_nil))))
    b_nil)))
    b_nil))
    b_nil)
    (b_cons (s_set g 9 (d_call g 12 (d_cons (d_v 3) (d_cons (d_v 6) d_nil))))
    (b_cons (s_set g 10 (d_cmp g .eq (d_fn g .len 0 (d_cons (d_comp [("name", 13)] g (i_seq g (d_v 3)) (fun _ _ _ _ _ => (g_nm 13 g.b.nd)) (fun _ _ _ _ _ => (c_one (t_cmp g.b .ne (d_ix g.b (d_v 9) (d_v 13)) (d_v 3)))) (fun _ _ _ _ _ => (d_v 13))) d_nil)) d_int))
    (b_cons (s_if (t_w (w_or (t_not (t_of g (d_call g 7 (d_cons (d_call g 4 (d_cons (d_fn g .list 1 (d_cons (d_v 2) d_nil)) (d_cons (d_fn g .list 1 (d_cons (d_v 6) d_nil)) d_nil))) (d_cons (d_comp [("name", 13)] g (i_seq g (d_v 3)) (fun _ _ _ _ _ => (g_nm 13 g.b.nd)) (fun _ _ _ _ _ => c_nil) (fun _ _ _ _ _ => (d_tup (d_cons (d_v 13) (d_cons (d_ix g.b (d_v 9) (d_v 13)) d_nil))))) d_nil))))) (w_or1 (t_not (t_of g (d_call g 7 (d_cons (d_call g 6 (d_cons (d_v 2) (d_cons (d_v 6) d_nil))) (d_cons (d_v 10) d_nil))))))))
    (b_cons (s_ret d_bl)
    b_nil)
    b_nil)
    (b_cons (s_if (t_w (w_or (t_not (t_of g (d_call g 7 (d_cons (d_call g 11 (d_cons (d_v 2) (d_cons (d_v 6) d_nil))) (d_cons (d_and (d_v 10) (d_one (d_cmp g .eq (d_fn g .len 0 (d_cons (d_v 6) d_nil)) (d_fn g .len 0 (d_cons (d_v 4) d_nil))))) d_nil))))) (w_or1 (t_not (t_of g (d_call g 7 (d_cons (d_call g 3 (d_cons (d_v 2) (d_cons (d_v 6) d_nil))) (d_cons (d_v 6) d_nil))))))))
    (b_cons (s_ret d_bl)
    b_nil)
    b_nil)
    (b_cons (s_set g 11 (d_call g 10 (d_cons (d_fn g .list 1 (d_cons (d_v 6) d_nil)) d_nil)))
    (b_cons (s_if (t_w (w_or (t_not (t_of g (d_call g 7 (d_cons (d_v 11) (d_cons (d_lrev g 1 11 (d_v 6)) d_nil))))) (w_or1 (t_cmp g .ne (d_call g 6 (d_cons (d_v 2) (d_cons (d_v 11) d_nil))) (d_v 10)))))
    (b_cons (s_ret d_bl)
    b_nil)
    b_nil)
    b_nil)))))))))
    (b_cons (s_for g (i_seq g (d_lst (d_cons (d_lst (d_cons (d_tup (d_cons (d_str lit14) (d_cons (d_str lit14) d_nil))) d_nil)) (d_cons (d_lst (d_cons (d_tup (d_cons (d_str lit7) d_nil)) d_nil)) (d_cons (d_lst (d_cons (d_lst (d_cons (d_str lit7) (d_cons (d_str lit9) d_nil))) d_nil)) (d_cons (d_lst (d_cons (d_tup (d_cons (d_str lit14) (d_cons (d_str lit13) d_nil))) d_nil)) d_nil)))))) (g_nm 12 g.nd)
    (b_cons (s_if (t_w (w_or (t_cmp g .ne (d_call g 9 (d_cons d_int (d_cons (d_v 2) (d_cons (d_v 12) d_nil)))) (d_str lit15)) (w_or1 (t_cmp g .ne (d_call g 9 (d_cons d_int (d_cons (d_v 2) (d_cons (d_v 12) d_nil)))) (d_str lit15)))))
    (b_cons (s_ret d_bl)
    b_nil)
    b_nil)
    b_nil))
    (b_cons (s_if (t_w (w_or (t_cmp g .ne (d_call g 9 (d_cons d_int (d_cons (d_lst (d_cons (d_str lit7) (d_cons (d_str lit11) d_nil))) (d_cons d_int d_nil)))) (d_str lit12)) (w_or1 (t_cmp g .ne (d_call g 9 (d_cons d_int (d_cons (d_lst (d_cons (d_str lit7) (d_cons (d_str lit9) (d_cons (d_str lit7) d_nil)))) (d_cons d_int d_nil)))) (d_str lit10)))))
    (b_cons (s_ret d_bl)
    b_nil)
    b_nil)
    (b_cons (s_ret (d_cmp g .eq (d_call g 9 (d_cons d_int (d_cons (d_comp [("k", 5)] g (i_rng1 g 10 d_int) (fun _ _ _ _ _ => (g_nm 5 g.b.nd)) (fun _ _ _ _ _ => c_nil) (fun _ _ _ _ _ => (d_str lit7))) (d_cons d_int d_nil)))) (d_str lit8)))
    b_nil)))))))))))
def refB (x : Nat) : Sts := (.cons (.asg 1 (.lst (.cons (.c (.bool (T.un x 4))) (.cons (.c (.bool (T.un x 2))) (.cons (.c (.bool (T.un x 1))) .nil)))))
    (.cons (.asg 1 (.bin .add (.v 1) (.lst (.cons (.c (.bool (T.un x 3))) .nil))))
    (.cons (.asg 2 (.comp [3] (.nm 3) (.rng1 (.c (.int 4))) (.cons (.ix (.v 1) (.v 3)) .nil) (.ix (.lst (.cons (.c (.str ⟨#[112, 97, 112, 101, 114]⟩)) (.cons (.c (.str ⟨#[116, 119, 105, 99, 101]⟩)) (.cons (.c (.str ⟨#[110, 97, 109, 101]⟩)) (.cons (.c (.str ⟨#[109, 97, 110, 121]⟩)) .nil))))) (.v 3))))
    (.cons (.ret (.ite (.and (.cmp .eq (.fn .len (.cons (.v 2) .nil)) (.c (.int 1))) (.c (.bool true))) (.ix (.v 2) (.c (.int 0))) (.c (.str ⟨#[115, 101, 118, 101, 114, 97, 108]⟩))))
    .nil))))
def N_f_law_refusal : List Str := ["problem", "kinds", "found", "k"]
abbrev st_f_law_refusal : Stmt := top 27
theorem sc_f_law_refusal : FnScope N_f_law_refusal ["problem"] (defScope st_f_law_refusal) := ⟨rfl, rfl, rfl, by decide +kernel, rfl, by decide +kernel, by decide +kernel⟩
theorem ref_run (C : Orc) (x : Nat) (z : Str) (e : refAns x = some z) : retD (exSs C (refB x) [none, none, none, none]) = some (.str z) := by
  unfold refAns at e
  split at e <;> cases e <;> kernel_rfl
theorem b_f_law_refusal {P : Program} {w : World} {K : PySem.W.Frag} {mg : Str → Option Value} {base : Heap} {c : Mv.Ctx} {fa : Addr} {cdv : Value} {A : Around} {outer : List PySem.Env} {s : Shared} {H0 : Hp} {E : XK} {p : Addr × Obj} {x : Nat}
    (g : EnP T (L2H.cxH (L2N.CX P w) P w K mg base N_f_law_refusal "_law_refusal" (defScope st_f_law_refusal) fa cdv A outer s H0 E p) c p x) : HB (L2H.cxH (L2N.CX P w) P w K mg base N_f_law_refusal "_law_refusal" (defScope st_f_law_refusal) fa cdv A outer s H0 E p) c p.1 (defBody st_f_law_refusal) (refB x) :=
  (.cons (hs_kinds g 1 (ha_cons (h_isi g 4 12) (ha_cons (h_isi g 2 12) (ha_cons (h_isi g 1 12) ha_nil))))
    (.cons (hs_more g 1 1 (ha_cons (h_isi g 3 12) ha_nil))
    (.cons (hs_comp [("k", 3)] g 2 (h_rng g 10 d_int) (fun _ _ _ _ _ => g_nm 3 g.nd) (fun _ _ _ _ _ => c_one (h_tof g.K (h_ix g.K g.un (d_v 1) (d_v 3)))) (fun _ _ _ _ _ => h_ix g.K g.un (d_lst (d_cons (d_str lit15) (d_cons (d_str lit10) (d_cons (d_str lit12) (d_cons (d_str lit8) d_nil))))) (d_v 3)))
    (.cons (hs_ret g (h_eq g (h_len g 0 (d_v 2)) d_int) (h_isV g 15 12) (h_ix g.K g.un (d_v 2) d_int) (d_str lit16))
    .nil))))
end K81
end
section
set_option Elab.async false
set_option linter.all false
set_option maxRecDepth 100000
set_option maxHeartbeats 0
namespace K81
open PySem PySem.Spec PyProof.Rows L2 Mv
def d_f_is_name : DefI := ⟨⟨("is_name", none), "is_name", "is_name", defArgs st_f_is_name, defBody st_f_is_name, defScope st_f_is_name, [], []⟩, N_f_is_name, ["word"]⟩
theorem bd_f_is_name (kV doc pm : Value) (an : Option Addr) (cdv ct : Value) (us : List Value) (hl : us.length = d_f_is_name.ps.length) : bindArgs (PySem.W.fnOf d_f_is_name.d.name d_f_is_name.d.qual d_f_is_name.d.params d_f_is_name.d.body d_f_is_name.d.scope .none kV doc pm an cdv ct) ⟨us, []⟩ = pure (d_f_is_name.ps.zip us) :=
  match us, hl with | [_], _ => rfl
theorem o_f_is_name : BodyOk T P 0 d_f_is_name := ⟨f_is_name, ⟨rfl, rfl, rfl, st_of (by decide +kernel), sc_f_is_name, bind0 rfl rfl (by decide +kernel) bd_f_is_name, fun g => b_f_is_name g⟩⟩
def d_f_checked_name : DefI := ⟨⟨("checked_name", none), "checked_name", "checked_name", defArgs st_f_checked_name, defBody st_f_checked_name, defScope st_f_checked_name, [], []⟩, N_f_checked_name, ["word"]⟩
theorem bd_f_checked_name (kV doc pm : Value) (an : Option Addr) (cdv ct : Value) (us : List Value) (hl : us.length = d_f_checked_name.ps.length) : bindArgs (PySem.W.fnOf d_f_checked_name.d.name d_f_checked_name.d.qual d_f_checked_name.d.params d_f_checked_name.d.body d_f_checked_name.d.scope .none kV doc pm an cdv ct) ⟨us, []⟩ = pure (d_f_checked_name.ps.zip us) :=
  match us, hl with | [_], _ => rfl
theorem o_f_checked_name : BodyOk T P 1 d_f_checked_name := ⟨f_checked_name, ⟨rfl, rfl, rfl, st_of (by decide +kernel), sc_f_checked_name, bind0 rfl rfl (by decide +kernel) bd_f_checked_name, fun g => b_f_checked_name g⟩⟩
def d_f_checked_friends : DefI := ⟨⟨("checked_friends", none), "checked_friends", "checked_friends", defArgs st_f_checked_friends, defBody st_f_checked_friends, defScope st_f_checked_friends, [], []⟩, N_f_checked_friends, ["friends"]⟩
theorem bd_f_checked_friends (kV doc pm : Value) (an : Option Addr) (cdv ct : Value) (us : List Value) (hl : us.length = d_f_checked_friends.ps.length) : bindArgs (PySem.W.fnOf d_f_checked_friends.d.name d_f_checked_friends.d.qual d_f_checked_friends.d.params d_f_checked_friends.d.body d_f_checked_friends.d.scope .none kV doc pm an cdv ct) ⟨us, []⟩ = pure (d_f_checked_friends.ps.zip us) :=
  match us, hl with | [_], _ => rfl
theorem o_f_checked_friends : BodyOk T P 2 d_f_checked_friends := ⟨f_checked_friends, ⟨rfl, rfl, rfl, st_of (by decide +kernel), sc_f_checked_friends, bind0 rfl rfl (by decide +kernel) bd_f_checked_friends, fun g => b_f_checked_friends g⟩⟩
def d_f_checked_calls : DefI := ⟨⟨("checked_calls", none), "checked_calls", "checked_calls", defArgs st_f_checked_calls, defBody st_f_checked_calls, defScope st_f_checked_calls, [], []⟩, N_f_checked_calls, ["friends", "calls"]⟩
theorem bd_f_checked_calls (kV doc pm : Value) (an : Option Addr) (cdv ct : Value) (us : List Value) (hl : us.length = d_f_checked_calls.ps.length) : bindArgs (PySem.W.fnOf d_f_checked_calls.d.name d_f_checked_calls.d.qual d_f_checked_calls.d.params d_f_checked_calls.d.body d_f_checked_calls.d.scope .none kV doc pm an cdv ct) ⟨us, []⟩ = pure (d_f_checked_calls.ps.zip us) :=
  match us, hl with | [_, _], _ => rfl
theorem o_f_checked_calls : BodyOk T P 3 d_f_checked_calls := ⟨f_checked_calls, ⟨rfl, rfl, rfl, st_of (by decide +kernel), sc_f_checked_calls, bind0 rfl rfl (by decide +kernel) bd_f_checked_calls, fun g => b_f_checked_calls g⟩⟩
def d_f_known : DefI := ⟨⟨("known", none), "known", "known", defArgs st_f_known, defBody st_f_known, defScope st_f_known, [], []⟩, N_f_known, ["friends", "calls"]⟩
theorem bd_f_known (kV doc pm : Value) (an : Option Addr) (cdv ct : Value) (us : List Value) (hl : us.length = d_f_known.ps.length) : bindArgs (PySem.W.fnOf d_f_known.d.name d_f_known.d.qual d_f_known.d.params d_f_known.d.body d_f_known.d.scope .none kV doc pm an cdv ct) ⟨us, []⟩ = pure (d_f_known.ps.zip us) :=
  match us, hl with | [_, _], _ => rfl
theorem o_f_known : BodyOk T P 4 d_f_known := ⟨f_known, ⟨rfl, rfl, rfl, st_of (by decide +kernel), sc_f_known, bind0 rfl rfl (by decide +kernel) bd_f_known, fun g => b_f_known g⟩⟩
def d_f_all_know : DefI := ⟨⟨("all_know", none), "all_know", "all_know", defArgs st_f_all_know, defBody st_f_all_know, defScope st_f_all_know, [], []⟩, N_f_all_know, ["friends", "calls"]⟩
theorem bd_f_all_know (kV doc pm : Value) (an : Option Addr) (cdv ct : Value) (us : List Value) (hl : us.length = d_f_all_know.ps.length) : bindArgs (PySem.W.fnOf d_f_all_know.d.name d_f_all_know.d.qual d_f_all_know.d.params d_f_all_know.d.body d_f_all_know.d.scope .none kV doc pm an cdv ct) ⟨us, []⟩ = pure (d_f_all_know.ps.zip us) :=
  match us, hl with | [_, _], _ => rfl
theorem o_f_all_know : BodyOk T P 5 d_f_all_know := ⟨f_all_know, ⟨rfl, rfl, rfl, st_of (by decide +kernel), sc_f_all_know, bind0 rfl rfl (by decide +kernel) bd_f_all_know, fun g => b_f_all_know g⟩⟩
def d_f_fewest : DefI := ⟨⟨("fewest", none), "fewest", "fewest", defArgs st_f_fewest, defBody st_f_fewest, defScope st_f_fewest, [], []⟩, N_f_fewest, ["friends"]⟩
theorem bd_f_fewest (kV doc pm : Value) (an : Option Addr) (cdv ct : Value) (us : List Value) (hl : us.length = d_f_fewest.ps.length) : bindArgs (PySem.W.fnOf d_f_fewest.d.name d_f_fewest.d.qual d_f_fewest.d.params d_f_fewest.d.body d_f_fewest.d.scope .none kV doc pm an cdv ct) ⟨us, []⟩ = pure (d_f_fewest.ps.zip us) :=
  match us, hl with | [_], _ => rfl
theorem o_f_fewest : BodyOk T P 6 d_f_fewest := ⟨f_fewest, ⟨rfl, rfl, rfl, st_of (by decide +kernel), sc_f_fewest, bind0 rfl rfl (by decide +kernel) bd_f_fewest, fun g => b_f_fewest g⟩⟩
def d_f_plan : DefI := ⟨⟨("plan", none), "plan", "plan", defArgs st_f_plan, defBody st_f_plan, defScope st_f_plan, [], []⟩, N_f_plan, ["friends"]⟩
theorem bd_f_plan (kV doc pm : Value) (an : Option Addr) (cdv ct : Value) (us : List Value) (hl : us.length = d_f_plan.ps.length) : bindArgs (PySem.W.fnOf d_f_plan.d.name d_f_plan.d.qual d_f_plan.d.params d_f_plan.d.body d_f_plan.d.scope .none kV doc pm an cdv ct) ⟨us, []⟩ = pure (d_f_plan.ps.zip us) :=
  match us, hl with | [_], _ => rfl
theorem o_f_plan : BodyOk T P 7 d_f_plan := ⟨f_plan, ⟨rfl, rfl, rfl, st_of (by decide +kernel), sc_f_plan, bind0 rfl rfl (by decide +kernel) bd_f_plan, fun g => b_f_plan g⟩⟩
def d_f_judge : DefI := ⟨⟨("judge", none), "judge", "judge", defArgs st_f_judge, defBody st_f_judge, defScope st_f_judge, [], []⟩, N_f_judge, ["friends", "calls"]⟩
theorem bd_f_judge (kV doc pm : Value) (an : Option Addr) (cdv ct : Value) (us : List Value) (hl : us.length = d_f_judge.ps.length) : bindArgs (PySem.W.fnOf d_f_judge.d.name d_f_judge.d.qual d_f_judge.d.params d_f_judge.d.body d_f_judge.d.scope .none kV doc pm an cdv ct) ⟨us, []⟩ = pure (d_f_judge.ps.zip us) :=
  match us, hl with | [_, _], _ => rfl
theorem o_f_judge : BodyOk T P 8 d_f_judge := ⟨f_judge, ⟨rfl, rfl, rfl, st_of (by decide +kernel), sc_f_judge, bind0 rfl rfl (by decide +kernel) bd_f_judge, fun g => b_f_judge g⟩⟩
def d_f_turned : DefI := ⟨⟨("turned", none), "turned", "turned", defArgs st_f_turned, defBody st_f_turned, defScope st_f_turned, [], []⟩, N_f_turned, ["calls"]⟩
theorem bd_f_turned (kV doc pm : Value) (an : Option Addr) (cdv ct : Value) (us : List Value) (hl : us.length = d_f_turned.ps.length) : bindArgs (PySem.W.fnOf d_f_turned.d.name d_f_turned.d.qual d_f_turned.d.params d_f_turned.d.body d_f_turned.d.scope .none kV doc pm an cdv ct) ⟨us, []⟩ = pure (d_f_turned.ps.zip us) :=
  match us, hl with | [_], _ => rfl
theorem o_f_turned : BodyOk T P 9 d_f_turned := ⟨f_turned, ⟨rfl, rfl, rfl, st_of (by decide +kernel), sc_f_turned, bind0 rfl rfl (by decide +kernel) bd_f_turned, fun g => b_f_turned g⟩⟩
def d_f_law_same : DefI := ⟨⟨("_law_same", none), "_law_same", "_law_same", defArgs st_f_law_same, defBody st_f_law_same, defScope st_f_law_same, [], []⟩, N_f_law_same, ["actual", "due"]⟩
theorem bd_f_law_same (kV doc pm : Value) (an : Option Addr) (cdv ct : Value) (us : List Value) (hl : us.length = d_f_law_same.ps.length) : bindArgs (PySem.W.fnOf d_f_law_same.d.name d_f_law_same.d.qual d_f_law_same.d.params d_f_law_same.d.body d_f_law_same.d.scope .none kV doc pm an cdv ct) ⟨us, []⟩ = pure (d_f_law_same.ps.zip us) :=
  match us, hl with | [_, _], _ => rfl
theorem o_f_law_same : BodyOk T P 10 d_f_law_same := ⟨f_law_same, ⟨rfl, rfl, rfl, st_of (by decide +kernel), sc_f_law_same, bind0 rfl rfl (by decide +kernel) bd_f_law_same, fun g => b_f_law_same g⟩⟩
def d_f_law_pool : DefI := ⟨⟨("_law_pool", none), "_law_pool", "_law_pool", defArgs st_f_law_pool, defBody st_f_law_pool, defScope st_f_law_pool, [], []⟩, N_f_law_pool, ["script"]⟩
theorem bd_f_law_pool (kV doc pm : Value) (an : Option Addr) (cdv ct : Value) (us : List Value) (hl : us.length = d_f_law_pool.ps.length) : bindArgs (PySem.W.fnOf d_f_law_pool.d.name d_f_law_pool.d.qual d_f_law_pool.d.params d_f_law_pool.d.body d_f_law_pool.d.scope .none kV doc pm an cdv ct) ⟨us, []⟩ = pure (d_f_law_pool.ps.zip us) :=
  match us, hl with | [_], _ => rfl
theorem o_f_law_pool : BodyOk T P 11 d_f_law_pool := ⟨f_law_pool, ⟨rfl, rfl, rfl, st_of (by decide +kernel), sc_f_law_pool, bind0 rfl rfl (by decide +kernel) bd_f_law_pool, fun g => b_f_law_pool g⟩⟩
def d_f_law_draw : DefI := ⟨⟨("_law_draw", none), "_law_draw", "_law_draw", defArgs st_f_law_draw, defBody st_f_law_draw, defScope st_f_law_draw, [], []⟩, N_f_law_draw, ["pool", "many"]⟩
theorem bd_f_law_draw (kV doc pm : Value) (an : Option Addr) (cdv ct : Value) (us : List Value) (hl : us.length = d_f_law_draw.ps.length) : bindArgs (PySem.W.fnOf d_f_law_draw.d.name d_f_law_draw.d.qual d_f_law_draw.d.params d_f_law_draw.d.body d_f_law_draw.d.scope .none kV doc pm an cdv ct) ⟨us, []⟩ = pure (d_f_law_draw.ps.zip us) :=
  match us, hl with | [_, _], _ => rfl
theorem o_f_law_draw : BodyOk T P 12 d_f_law_draw := ⟨f_law_draw, ⟨rfl, rfl, rfl, st_of (by decide +kernel), sc_f_law_draw, bind0 rfl rfl (by decide +kernel) bd_f_law_draw, fun g => b_f_law_draw g⟩⟩
def d_f_law_pick : DefI := ⟨⟨("_law_pick", none), "_law_pick", "_law_pick", defArgs st_f_law_pick, defBody st_f_law_pick, defScope st_f_law_pick, [], []⟩, N_f_law_pick, ["pool", "rows"]⟩
theorem bd_f_law_pick (kV doc pm : Value) (an : Option Addr) (cdv ct : Value) (us : List Value) (hl : us.length = d_f_law_pick.ps.length) : bindArgs (PySem.W.fnOf d_f_law_pick.d.name d_f_law_pick.d.qual d_f_law_pick.d.params d_f_law_pick.d.body d_f_law_pick.d.scope .none kV doc pm an cdv ct) ⟨us, []⟩ = pure (d_f_law_pick.ps.zip us) :=
  match us, hl with | [_, _], _ => rfl
theorem o_f_law_pick : BodyOk T P 13 d_f_law_pick := ⟨f_law_pick, ⟨rfl, rfl, rfl, st_of (by decide +kernel), sc_f_law_pick, bind0 rfl rfl (by decide +kernel) bd_f_law_pick, fun g => b_f_law_pick g⟩⟩
def d_f_law_names : DefI := ⟨⟨("_law_names", none), "_law_names", "_law_names", defArgs st_f_law_names, defBody st_f_law_names, defScope st_f_law_names, [], []⟩, N_f_law_names, ["pool", "many"]⟩
theorem bd_f_law_names (kV doc pm : Value) (an : Option Addr) (cdv ct : Value) (us : List Value) (hl : us.length = d_f_law_names.ps.length) : bindArgs (PySem.W.fnOf d_f_law_names.d.name d_f_law_names.d.qual d_f_law_names.d.params d_f_law_names.d.body d_f_law_names.d.scope .none kV doc pm an cdv ct) ⟨us, []⟩ = pure (d_f_law_names.ps.zip us) :=
  match us, hl with | [_, _], _ => rfl
theorem o_f_law_names : BodyOk T P 14 d_f_law_names := ⟨f_law_names, ⟨rfl, rfl, rfl, st_of (by decide +kernel), sc_f_law_names, bind0 rfl rfl (by decide +kernel) bd_f_law_names, fun g => b_f_law_names g⟩⟩
def d_f_law_known : DefI := ⟨⟨("_law_known", none), "_law_known", "_law_known", defArgs st_f_law_known, defBody st_f_law_known, defScope st_f_law_known, [], []⟩, N_f_law_known, ["names", "calls"]⟩
theorem bd_f_law_known (kV doc pm : Value) (an : Option Addr) (cdv ct : Value) (us : List Value) (hl : us.length = d_f_law_known.ps.length) : bindArgs (PySem.W.fnOf d_f_law_known.d.name d_f_law_known.d.qual d_f_law_known.d.params d_f_law_known.d.body d_f_law_known.d.scope .none kV doc pm an cdv ct) ⟨us, []⟩ = pure (d_f_law_known.ps.zip us) :=
  match us, hl with | [_, _], _ => rfl
theorem o_f_law_known : BodyOk T P 15 d_f_law_known := ⟨f_law_known, ⟨rfl, rfl, rfl, st_of (by decide +kernel), sc_f_law_known, bind0 rfl rfl (by decide +kernel) bd_f_law_known, fun g => b_f_law_known g⟩⟩
def d_f_law_calls : DefI := ⟨⟨("_law_calls", none), "_law_calls", "_law_calls", defArgs st_f_law_calls, defBody st_f_law_calls, defScope st_f_law_calls, [], []⟩, N_f_law_calls, ["pool", "names", "most"]⟩
theorem bd_f_law_calls (kV doc pm : Value) (an : Option Addr) (cdv ct : Value) (us : List Value) (hl : us.length = d_f_law_calls.ps.length) : bindArgs (PySem.W.fnOf d_f_law_calls.d.name d_f_law_calls.d.qual d_f_law_calls.d.params d_f_law_calls.d.body d_f_law_calls.d.scope .none kV doc pm an cdv ct) ⟨us, []⟩ = pure (d_f_law_calls.ps.zip us) :=
  match us, hl with | [_, _, _], _ => rfl
theorem o_f_law_calls : BodyOk T P 16 d_f_law_calls := ⟨f_law_calls, ⟨rfl, rfl, rfl, st_of (by decide +kernel), sc_f_law_calls, bind0 rfl rfl (by decide +kernel) bd_f_law_calls, fun g => b_f_law_calls g⟩⟩
def d_f_law_rule : DefI := ⟨⟨("_law_rule", none), "_law_rule", "_law_rule", defArgs st_f_law_rule, defBody st_f_law_rule, defScope st_f_law_rule, [], []⟩, N_f_law_rule, ["names"]⟩
theorem bd_f_law_rule (kV doc pm : Value) (an : Option Addr) (cdv ct : Value) (us : List Value) (hl : us.length = d_f_law_rule.ps.length) : bindArgs (PySem.W.fnOf d_f_law_rule.d.name d_f_law_rule.d.qual d_f_law_rule.d.params d_f_law_rule.d.body d_f_law_rule.d.scope .none kV doc pm an cdv ct) ⟨us, []⟩ = pure (d_f_law_rule.ps.zip us) :=
  match us, hl with | [_], _ => rfl
theorem o_f_law_rule : BodyOk T P 17 d_f_law_rule := ⟨f_law_rule, ⟨rfl, rfl, rfl, st_of (by decide +kernel), sc_f_law_rule, bind0 rfl rfl (by decide +kernel) bd_f_law_rule, fun g => b_f_law_rule g⟩⟩
def d_f_law_reach : DefI := ⟨⟨("_law_reach", none), "_law_reach", "_law_reach", defArgs st_f_law_reach, defBody st_f_law_reach, defScope st_f_law_reach, [], []⟩, N_f_law_reach, ["names", "many"]⟩
theorem bd_f_law_reach (kV doc pm : Value) (an : Option Addr) (cdv ct : Value) (us : List Value) (hl : us.length = d_f_law_reach.ps.length) : bindArgs (PySem.W.fnOf d_f_law_reach.d.name d_f_law_reach.d.qual d_f_law_reach.d.params d_f_law_reach.d.body d_f_law_reach.d.scope .none kV doc pm an cdv ct) ⟨us, []⟩ = pure (d_f_law_reach.ps.zip us) :=
  match us, hl with | [_, _], _ => rfl
theorem o_f_law_reach : BodyOk T P 18 d_f_law_reach := ⟨f_law_reach, ⟨rfl, rfl, rfl, st_of (by decide +kernel), sc_f_law_reach, bind0 rfl rfl (by decide +kernel) bd_f_law_reach, fun g => b_f_law_reach g⟩⟩
def d_f_law_refused : DefI := ⟨⟨("_law_refused", none), "_law_refused", "_law_refused", defArgs st_f_law_refused, defBody st_f_law_refused, defScope st_f_law_refused, [], []⟩, N_f_law_refused, ["choice", "friends", "calls"]⟩
theorem bd_f_law_refused (kV doc pm : Value) (an : Option Addr) (cdv ct : Value) (us : List Value) (hl : us.length = d_f_law_refused.ps.length) : bindArgs (PySem.W.fnOf d_f_law_refused.d.name d_f_law_refused.d.qual d_f_law_refused.d.params d_f_law_refused.d.body d_f_law_refused.d.scope .none kV doc pm an cdv ct) ⟨us, []⟩ = pure (d_f_law_refused.ps.zip us) :=
  match us, hl with | [_, _, _], _ => rfl
theorem o_f_law_refused : BodyOk T P 19 d_f_law_refused := ⟨f_law_refused, ⟨rfl, rfl, rfl, st_of (by decide +kernel), sc_f_law_refused, bind0 rfl rfl (by decide +kernel) bd_f_law_refused, fun g => b_f_law_refused g⟩⟩
def d_f_law : DefI := ⟨⟨("law", none), "law", "law", defArgs st_f_law, defBody st_f_law, defScope st_f_law, [], []⟩, N_f_law, ["script"]⟩
theorem bd_f_law (kV doc pm : Value) (an : Option Addr) (cdv ct : Value) (us : List Value) (hl : us.length = d_f_law.ps.length) : bindArgs (PySem.W.fnOf d_f_law.d.name d_f_law.d.qual d_f_law.d.params d_f_law.d.body d_f_law.d.scope .none kV doc pm an cdv ct) ⟨us, []⟩ = pure (d_f_law.ps.zip us) :=
  match us, hl with | [_], _ => rfl
theorem o_f_law : BodyOk T P 20 d_f_law := ⟨f_law, ⟨rfl, rfl, rfl, st_of (by decide +kernel), sc_f_law, bind0 rfl rfl (by decide +kernel) bd_f_law, fun g => b_f_law g⟩⟩
def tab0 : List DefI := [d_f_is_name, d_f_checked_name, d_f_checked_friends, d_f_checked_calls, d_f_known, d_f_all_know, d_f_fewest, d_f_plan, d_f_judge, d_f_turned, d_f_law_same, d_f_law_pool, d_f_law_draw, d_f_law_pick, d_f_law_names, d_f_law_known, d_f_law_calls, d_f_law_rule, d_f_law_reach, d_f_law_refused]
def tab1 : List DefI := [d_f_law]
def tab : List DefI := tab0 ++ tab1
def d_f_law_refusal : DefI := ⟨⟨("_law_refusal", none), "_law_refusal", "_law_refusal", defArgs st_f_law_refusal, defBody st_f_law_refusal, defScope st_f_law_refusal, [], []⟩, N_f_law_refusal, ["problem"]⟩
theorem bd_f_law_refusal (kV doc pm : Value) (an : Option Addr) (cdv ct : Value) (us : List Value) (hl : us.length = d_f_law_refusal.ps.length) : bindArgs (PySem.W.fnOf d_f_law_refusal.d.name d_f_law_refusal.d.qual d_f_law_refusal.d.params d_f_law_refusal.d.body d_f_law_refusal.d.scope .none kV doc pm an cdv ct) ⟨us, []⟩ = pure (d_f_law_refusal.ps.zip us) :=
  match us, hl with | [_], _ => rfl
theorem hot_f_law_refusal : HotI T d_f_law_refusal refAns := ⟨rfl, sc_f_law_refusal, hot_bind rfl rfl bd_f_law_refusal, fun {P w K mg base c fa cdv A outer s H0 E p x z} e g => hb_spec (b_f_law_refusal g) (by show 0 ∉ (refB x).on; simp [refB, Sts.on, St.on]) rfl (ref_run c.C x z e)⟩
def htab : List DefI := [d_f_law_refusal]
def tall : List DefI := tab ++ htab
theorem hots_ok : ∀ q ∈ T.hots, ∃ di ∈ tall, HotI T di q.2 ∧ di.d.name = q.1 := fun q hq => by
  have hq : q ∈ ([("_law_refusal", refAns)] : List (Str × (Nat → Option Str))) := hq
  obtain rfl := List.mem_singleton.mp hq
  exact ⟨d_f_law_refusal, List.mem_append_right _ (List.mem_singleton_self _), hot_f_law_refusal, rfl⟩
theorem bodies : AllD (BodyOk T P) 0 tab := ⟨o_f_is_name, o_f_checked_name, o_f_checked_friends, o_f_checked_calls, o_f_known, o_f_all_know, o_f_fewest, o_f_plan, o_f_judge, o_f_turned, o_f_law_same, o_f_law_pool, o_f_law_draw, o_f_law_pick, o_f_law_names, o_f_law_known, o_f_law_calls, o_f_law_rule, o_f_law_reach, o_f_law_refused, o_f_law, trivial⟩
theorem pgOk : PgOk T tab tall := ⟨by decide +kernel, by decide +kernel, by decide +kernel, by decide +kernel, by decide +kernel, by decide +kernel⟩
abbrev R : PySem.W.OpenRow := PySem.W.OpenLaw.row PySem.Challenge.rw_manychoose_k81_whole_fewest_calls
abbrev hk : PySem.W.Hook := He.hookX 4 (faOf T tall) (tall.map (·.d)) [] [] (exB T)
def ob (s : PySem.W.SharedT) : He.AlX := He.obsX 4 (faOf T tall) (tall.map (·.d)) [] [] (exB T) (HandSHeadRun.getT s)
theorem ob_eq (s : PySem.W.SharedT) : ob s = hk.obs s.abs := He.obsX_eq (HandSHeadRun.getT_eq s)
def loose0 : List Str := ["ChooseError", "InvalidName", "DuplicateName", "TooMany", "InvalidPaper", "LETTERS", "LONGEST", "is_name", "checked_name", "MOST", "checked_friends", "checked_calls", "known", "all_know", "fewest", "plan", "judge", "turned", "_law_same", "_law_pool"]
def loose1 : List Str := ["_law_draw", "_law_pick", "_law_names", "_law_refusal", "_law_known", "_law_calls", "_law_rule", "_law_reach", "_law_refused"]
def loose : List Str := loose0 ++ loose1
theorem run (w : World) : HandSHeadRun.RunEq R (PySem.W.view R.prog [33]) hk ob 6000 loose w := by
  intro os
  kernel_rfl
end K81
namespace K81
open PySem PySem.W PySem.Calls PyProof.Rows
theorem end_ (k : Nat) (hr : L2.Room (k + 1) callerA) (hrun : Mv.LawRuns P k 20 63) : PySem.Challenge.rw_manychoose_k81_whole_fewest_calls.Holds := by
  w_on; o_law
  refine HandSHeadRun.head_any (r := OpenLaw.row PySem.Challenge.rw_manychoose_k81_whole_fewest_calls) (q := view (OpenLaw.row PySem.Challenge.rw_manychoose_k81_whole_fewest_calls).prog [33]) (H := hk) (ob := ob) (M := 6000) (loose := loose) (d := HandSHeadRun.topDef (OpenLaw.row PySem.Challenge.rw_manychoose_k81_whole_fewest_calls).prog 33) (kwd := []) ob_eq
    (by kernel_rfl) (fun s => by kernel_rfl) run (by kernel_rfl) (by kernel_rfl) (by kernel_rfl) (by rfl) (by first | assumption | decide +kernel) (by decide +kernel) ⟨rfl, rfl, rfl, rfl, rfl, by decide +kernel⟩ ?hw ?hc
  case hw => w_witness2
  case hc =>
    refine LamX.walk_ofTsE (l := PySem.Challenge.rw_manychoose_k81_whole_fewest_calls) (n := 63) (k := k + 1) (x := "script") (CX := fun w => L2N.CX (PySem.Challenge.rw_manychoose_k81_whole_fewest_calls).prog w) rfl (by decide) (by kernel_rfl) hr ?F (fun w H s e s' z => Mv.cx_none _ w H s e s' z)
    intro w mg fa h Y G hmg0
    obtain ⟨K, KX, c⟩ := Y
    have hmg : mg d_f_law.d.name = some (.ref fa) := by
      have e : (HandSHeadRun.topDef (OpenLaw.row PySem.Challenge.rw_manychoose_k81_whole_fewest_calls).prog 33).name = d_f_law.d.name := by kernel_rfl
      rw [← e]
      exact hmg0
    exact ⟨K, KX, Mv.law_end (i := 20) (di := d_f_law) pgOk bodies (fun _ h => List.mem_append_left _ h) hots_ok hrun (by decide) rfl rfl rfl rfl bd_f_law KX G c.t.d c.more hmg⟩
end K81
end
section
set_option Elab.async false
set_option linter.all false
set_option maxHeartbeats 4000000
set_option maxRecDepth 100000
namespace K81
open PySem Mv Mv.Sh PySem.W

/-- handed names -/
structure Nm (ns : List Str) : Prop where
  nd : ns.Nodup
  ok : ∀ z ∈ ns, Sh.nameOk z
  len : ns.length ≤ 20
theorem Nm.sort {ns : List Str} (N : Nm ns) : Nm (isort leT ns) := ⟨isort_nodup.mpr N.nd, fun z m => N.ok z (isort_mem.mp m), by rw [isort_len]; exact N.len⟩
theorem so2 (ns : List Str) : isort leT (isort leT ns) = isort leT ns := isort_of_sorted Sh.ordS (isort_sorted Sh.ordS ns)
theorem cname {z : Str} (h : Sh.nameOk z) : checked_name z = .ok z := by
  have : is_name z = .ok true := Sh.is_name_ok h
  unfold checked_name
  rw [this]; rfl
theorem cfriends {ns : List Str} (N : Nm ns) : checked_friends ns = .ok (isort leT ns) := by
  have hL := Sh.L_eq
  have hl := N.len
  unfold checked_friends
  rw [if_neg (by simp; omega)]
  obtain ⟨s, e1, e2⟩ := foldM_inv (f := fun (s_73 : List Str) name_74 => (checked_name name_74).bd fun r_75 => if (mem name_74 s_73) = true then .exc 2 else (app s_73 name_74).bd fun found_76 => .ok found_76) (fun pre s => s = pre) ns [] rfl (fun pre x post s hx hs => by
    subst hs
    have nd := N.nd
    rw [hx] at nd
    have hn : x ∉ s := fun m => (List.nodup_append.mp nd).2.2 x m x List.mem_cons_self rfl
    have hpl : s.length ≤ ns.length := by rw [hx]; simp
    refine ⟨s ++ [x], ?_, rfl⟩
    simp only [cname (N.ok x (by rw [hx]; simp)), Rs.bd_ok]
    rw [if_neg (by simp [mem, hn]), app_ok (by omega), Rs.bd_ok])
  subst e2
  rw [e1, Rs.bd_ok]
def CallsOn (ms : List Str) (cs : List (Str × Str)) : Prop := ∀ c ∈ cs, c.1 ≠ c.2 ∧ c.1 ∈ ms ∧ c.2 ∈ ms
theorem ccalls {fr ms : List Str} {cs : List (Str × Str)} (hf : checked_friends fr = .ok ms) (hc : CallsOn ms cs) : checked_calls fr cs = .ok cs := by
  unfold checked_calls
  rw [hf, Rs.bd_ok, foldM_ok (fun _ _ => ()) _ _ fun s x m => ?_, Rs.bd_ok]
  obtain ⟨h1, h2, h3⟩ := hc x m
  simp [h1, h2, h3, mem]
/-- one call's news -/
theorem step_known {ms : List Str} {g : Str → List Str} {c : Str × Str} (R : RowsOk leT ms g) (hl : ms.length ≤ 20) (h1 : c.1 ∈ ms) (h2 : c.2 ∈ ms) :
    ((dget (dfun ms g) c.1).bd fun t_145 => (dget (dfun ms g) c.2).bd fun t_146 => (compM (β := Str) t_146 (fun name_147 => (dget (dfun ms g) c.1).bd fun t_148 => .ok (!mem name_147 t_148)) (fun name_147 => .ok name_147)).bd fun c_149 =>
      (cat t_145 c_149).bd fun t_150 => (dset (dfun ms g) c.1 (isort leT t_150)).bd fun told_151 => (dset told_151 c.2 (isort leT t_150)).bd fun told_152 => .ok told_152) = .ok (dfun ms (kstep leT g c)) := by
  have hL := Sh.L_eq
  have r1 := R.len h1
  have r2 := R.len h2
  have fl : ((g c.2).filter fun x => decide (x ∉ g c.1)).length ≤ 20 := Nat.le_trans (List.length_filter_le _ _) (by omega)
  simp only [dget_dfun h1, dget_dfun h2, Rs.bd_ok]
  rw [compM_filter (fun x => decide (x ∉ g c.1)) (fun x _ => by simp [mem]) (by omega), Rs.bd_ok, cat_ok (by omega), Rs.bd_ok, dset_dfun h1 (by omega), Rs.bd_ok, dset_dfun h2 (by omega), Rs.bd_ok]
  congr 1
  exact congrArg (dfun ms) (kstep_eq (a := c.1) (b := c.2))
theorem fold_known {ms : List Str} {cs : List (Str × Str)} (hl : ms.length ≤ 20) (hc : CallsOn ms cs) : foldM (fun (s_143 : (List (Str × (List Str)))) p_144 =>
 ((dget s_143 p_144.1).bd fun t_145 => (dget s_143 p_144.2).bd fun t_146 => (compM (β := Str) t_146 (fun name_147 => (dget s_143 p_144.1).bd fun t_148 => .ok (!mem name_147 t_148)) (fun name_147 => .ok name_147)).bd fun c_149 =>
 (cat t_145 c_149).bd fun t_150 => (dset s_143 p_144.1 (isort leT t_150)).bd fun told_151 => (dset told_151 p_144.2 (isort leT t_150)).bd fun told_152 => .ok told_152)) cs (dfun ms fun n => [n]) = .ok (dfun ms (kn leT cs)) := by
  obtain ⟨s, e1, e2⟩ := foldM_inv (f := fun (s_143 : (List (Str × (List Str)))) p_144 =>
 ((dget s_143 p_144.1).bd fun t_145 => (dget s_143 p_144.2).bd fun t_146 => (compM (β := Str) t_146 (fun name_147 => (dget s_143 p_144.1).bd fun t_148 => .ok (!mem name_147 t_148)) (fun name_147 => .ok name_147)).bd fun c_149 =>
 (cat t_145 c_149).bd fun t_150 => (dset s_143 p_144.1 (isort leT t_150)).bd fun told_151 => (dset told_151 p_144.2 (isort leT t_150)).bd fun told_152 => .ok told_152)) (fun pre s => s = dfun ms (kn leT pre)) cs (dfun ms fun n => [n]) rfl (fun pre x post s hx hs => by
    subst hs
    have R : RowsOk leT ms (kn leT pre) := rows_kn Sh.ordS pre fun c m => (hc c (by rw [hx]; simp [m])).2
    have hh := hc x (by rw [hx]; simp)
    exact ⟨_, step_known R hl hh.2.1 hh.2.2, by rw [kn_snoc]⟩)
  rw [e1, e2]
theorem known_ok' {fr ms : List Str} {cs : List (Str × Str)} (hf : checked_friends fr = .ok ms) (hm : checked_friends ms = .ok ms) (nd : ms.Nodup) (hl : ms.length ≤ 20) (hc : CallsOn ms cs) : known fr cs = .ok (dfun ms (kn leT cs)) := by
  have hL := Sh.L_eq
  unfold known
  rw [hf, Rs.bd_ok, dcompM_dfun (fun n => [n]) nd (by omega) (fun _ _ => rfl), Rs.bd_ok, ccalls hm hc, Rs.bd_ok, fold_known hl hc, Rs.bd_ok, compM_map (fun n => (n, kn leT cs n)) (fun n m => by rw [dget_dfun m]; rfl) (by omega), Rs.bd_ok]
  rfl
theorem law_known_ok' {ms : List Str} {cs : List (Str × Str)} (nd : ms.Nodup) (hl : ms.length ≤ 20) (hc : CallsOn ms cs) : law_known ms cs = .ok (dfun ms (kn leT cs)) := by
  have hL := Sh.L_eq
  unfold law_known
  obtain ⟨s, e1, e2⟩ := foldM_inv (f := fun (s_57 : (List (Str × (List Str)))) name_58 => ((dset s_57 name_58 ([name_58] : List Str)).bd fun told_59 => .ok told_59)) (fun pre s => s = dfun pre fun n => [n]) ms [] rfl (fun pre x post s hx hs => by
    subst hs
    have nd' := nd
    rw [hx] at nd'
    have hn : x ∉ pre := fun m => (List.nodup_append.mp nd').2.2 x m x List.mem_cons_self rfl
    have hpl : pre.length ≤ ms.length := by rw [hx]; simp
    exact ⟨_, by rw [dset_snoc (g := fun n => [n]) hn (by omega) rfl]; rfl, rfl⟩)
  subst e2
  rw [e1, Rs.bd_ok]
  have := fold_known hl hc
  rw [this, Rs.bd_ok]
theorem all_know_ok' {fr ms : List Str} {cs : List (Str × Str)} (hf : checked_friends fr = .ok ms) (hm : checked_friends ms = .ok ms) (nd : ms.Nodup) (hl : ms.length ≤ 20) (hc : CallsOn ms cs) : all_know fr cs = .ok (allK leT ms cs) := by
  have hL := Sh.L_eq
  have dl : (dfun ms (kn leT cs)).length ≤ LINE := by simp only [dfun, List.length_map]; omega
  unfold all_know
  rw [hf, Rs.bd_ok, known_ok' hm hm nd hl hc, Rs.bd_ok, compM_ok (fun p => !decide (p.2 = ms)) (fun p => p.1) (fun _ _ => rfl) (fun _ _ _ => rfl) dl, Rs.bd_ok]
  congr 1
  rw [Bool.not_not, List.isEmpty_map, filter_empty]
  unfold dfun allK
  rw [List.all_map]
  congr 1
  funext n
  simp
end K81
end
section
set_option Elab.async false
set_option linter.all false
set_option maxHeartbeats 4000000
set_option maxRecDepth 100000
namespace K81
open PySem Mv Mv.Sh PySem.W

theorem ldraw {p : Pool} {m : Int} (hp : PoolOk p) (hm : 0 < m) (hm2 : m < 1073741824) : ∃ (r : Nat) (p' : Pool), law_draw p m = .ok ((r : Int), p') ∧ (r : Int) < m ∧ PoolOk p' := draw_ok hp hm hm2
theorem lnames {p : Pool} (hp : PoolOk p) {m : Nat} (hm : m ≤ 26) : ∃ ns p', law_names p (m : Int) = .ok (ns, p') ∧ Drawn m ns ∧ PoolOk p' := names_ok hp hm
theorem cut_take {α : Type} {xs : List α} {n : Nat} (h : n ≤ xs.length) : cut xs none (some (n : Int)) = xs.take n := by
  unfold cut
  rw [HT.sIx_none, HT.sIx_nat]
  simp [Nat.min_eq_left h]
theorem cut_drop {α : Type} {xs : List α} {n : Nat} (h : n ≤ xs.length) : cut xs (some (n : Int)) none = xs.drop n := by
  unfold cut
  rw [HT.sIx_none, HT.sIx_nat, Nat.min_eq_left h, List.take_of_length_le (by simp)]
theorem law_calls_ok' {p : Pool} {ms : List Str} (hp : PoolOk p) (h2 : 2 ≤ ms.length) (hl : ms.length ≤ 20) (nd : ms.Nodup) {q : Nat} (hq : q ≤ 20) : ∃ cs p', law_calls p ms (q : Int) = .ok (cs, p') ∧ CallsOn ms cs ∧ cs.length ≤ q ∧ PoolOk p' := by
  have hL := Sh.L_eq
  obtain ⟨m, p1, d1, h1, hp1⟩ := ldraw hp (m := (q : Int) + 1) (by omega) (by omega)
  unfold law_calls
  rw [d1, Rs.bd_ok, rng0 (by omega), Rs.bd_ok]
  obtain ⟨s, e1, e2, e3, e4⟩ := foldM_inv (f := fun (s_49 : (Pool × (List (Str × Str)))) (k_50 : Int) => ((law_draw s_49.1 (ms.length : Int)).bd fun r_51 => (law_draw r_51.2 ((ms.length : Int) - (1 : Int))).bd fun r_52 => (modI ((r_51.1 + (1 : Int)) + r_52.1) (ms.length : Int)).bd fun t_53 =>
    (ixL ms r_51.1).bd fun t_54 => (ixL ms t_53).bd fun t_55 => (app s_49.2 (t_54, t_55)).bd fun found_56 => .ok (r_52.2, found_56))) (fun pre s => PoolOk s.1 ∧ CallsOn ms s.2 ∧ s.2.length = pre.length) ((List.range m).map fun (k : Nat) => (k : Int)) (p1, []) ⟨hp1, fun c m => by simp at m, rfl⟩ (fun pre x post s hx hs => by
      obtain ⟨i1, i2, i3⟩ := hs
      have pl : pre.length ≤ m := by
        have := congrArg List.length hx
        simp at this; omega
      obtain ⟨a, q1, f1, g1, j1⟩ := ldraw i1 (m := (ms.length : Int)) (by omega) (by omega)
      obtain ⟨b, q2, f2, g2, j2⟩ := ldraw j1 (m := (ms.length : Int) - 1) (by omega) (by omega)
      have ha : a < ms.length := by omega
      have hb : (a + 1 + b) % ms.length < ms.length := Nat.mod_lt _ (by omega)
      have em : modI (((a : Int) + 1) + (b : Int)) (ms.length : Int) = .ok (((a + 1 + b) % ms.length : Nat) : Int) := by
        rw [modI_pos (by omega)]; congr 1
      refine ⟨(q2, s.2 ++ [(ms[a], ms[(a + 1 + b) % ms.length])]), ?_, j2, ?_, by simp [i3]⟩
      · simp only [f1, f2, em, Rs.bd_ok, ixL_nat ha, ixL_nat hb]
        rw [app_ok (by omega), Rs.bd_ok]
      · intro c mc
        rcases List.mem_append.mp mc with mc | mc
        · exact i2 c mc
        · have := List.mem_singleton.mp mc
          subst this
          refine ⟨fun e => ?_, List.getElem_mem _, List.getElem_mem _⟩
          have ie : a = (a + 1 + b) % ms.length := (List.getElem_inj nd).mp e
          have : a + 1 + b < 2 * ms.length := by omega
          by_cases z : a + 1 + b < ms.length
          · rw [Nat.mod_eq_of_lt z] at ie; omega
          · rw [Nat.mod_eq_sub_mod (by omega), Nat.mod_eq_of_lt (by omega)] at ie; omega)
  rw [e1, Rs.bd_ok]
  refine ⟨s.2, s.1, rfl, e3, ?_, e2⟩
  rw [e4]; simp; omega
theorem pick_ok' {p : Pool} {rows : List (List (Str × Str))} (hp : PoolOk p) (h0 : 0 < rows.length) (h1 : rows.length ≤ 1000) : ∃ x ∈ rows, ∃ p', law_pick p rows = .ok (x, p') ∧ PoolOk p' := by
  obtain ⟨r, p1, d1, h2, hp1⟩ := ldraw hp (m := (rows.length : Int)) (by omega) (by omega)
  refine ⟨rows[r]'(by omega), List.getElem_mem _, p1, ?_, hp1⟩
  unfold law_pick
  rw [d1, Rs.bd_ok, ixL_nat (by omega), Rs.bd_ok]
/-! ### the rule -/
def ruleN : Nat → List (Nat × Nat)
  | 0 => []
  | 1 => []
  | 2 => [(0, 1)]
  | 3 => [(0, 1), (0, 2), (0, 1)]
  | 4 => [(0, 1), (2, 3), (0, 2), (1, 3)]
  | 5 => [(0, 4), (0, 1), (2, 3), (0, 2), (1, 3), (0, 4)]
  | _ => [(0, 4), (0, 5), (0, 1), (2, 3), (0, 2), (1, 3), (0, 4), (0, 5)]
def rule (ms : List Str) : List (Str × Str) := (ruleN ms.length).map (mapC fun i => ms.getD i default)
theorem rule_ok : ∀ ms : List Str, ms.length ≤ 6 → law_rule ms = .ok (rule ms)
  | [], _ => by kernel_rfl
  | [a], _ => by kernel_rfl
  | [a, b], _ => by kernel_rfl
  | [a, b, c], _ => by kernel_rfl
  | [a, b, c, d], _ => by kernel_rfl
  | [a, b, c, d, e], _ => by kernel_rfl
  | [a, b, c, d, e, f], _ => by kernel_rfl
  | a :: b :: c :: d :: e :: f :: g :: r, h => by simp at h
theorem plan_ok' {fr : List Str} : ∀ ms : List Str, ms.length ≤ 6 → checked_friends fr = .ok ms → plan fr = .ok (rule ms)
  | [], _, h => by unfold plan; rw [h]; kernel_rfl
  | [a], _, h => by unfold plan; rw [h]; kernel_rfl
  | [a, b], _, h => by unfold plan; rw [h]; kernel_rfl
  | [a, b, c], _, h => by unfold plan; rw [h]; kernel_rfl
  | [a, b, c, d], _, h => by unfold plan; rw [h]; kernel_rfl
  | [a, b, c, d, e], _, h => by unfold plan; rw [h]; kernel_rfl
  | [a, b, c, d, e, f], _, h => by unfold plan; rw [h]; kernel_rfl
  | a :: b :: c :: d :: e :: f :: g :: r, h, _ => by simp at h
theorem fewest_ok' {fr : List Str} : ∀ ms : List Str, ms.length ≤ 6 → checked_friends fr = .ok ms → fewest fr = .ok ((rule ms).length : Int)
  | [], _, h => by unfold fewest; rw [h]; kernel_rfl
  | [a], _, h => by unfold fewest; rw [h]; kernel_rfl
  | [a, b], _, h => by unfold fewest; rw [h]; kernel_rfl
  | [a, b, c], _, h => by unfold fewest; rw [h]; kernel_rfl
  | [a, b, c, d], _, h => by unfold fewest; rw [h]; kernel_rfl
  | [a, b, c, d, e], _, h => by unfold fewest; rw [h]; kernel_rfl
  | [a, b, c, d, e, f], _, h => by unfold fewest; rw [h]; kernel_rfl
  | a :: b :: c :: d :: e :: f :: g :: r, h, _ => by simp at h
theorem judge_ok' {fr ms : List Str} {cs : List (Str × Str)} (hf : checked_friends fr = .ok ms) (hm : checked_friends ms = .ok ms) (nd : ms.Nodup) (hl : ms.length ≤ 6) (hc : CallsOn ms cs) : judge fr cs = .ok (allK leT ms cs && decide ((cs.length : Int) = ((rule ms).length : Int))) := by
  unfold judge
  rw [all_know_ok' hf hm nd (by omega) hc, Rs.bd_ok, fewest_ok' ms hl hf]
  cases allK leT ms cs <;> simp
def leN (a b : Nat) : Bool := decide (a ≤ b)
theorem ordN : Mv.Ord Nat leN := by
  constructor
  · intro a b; unfold leN; simp; omega
  · intro a b c; unfold leN; simp; omega
  · intro a b; unfold leN; simp; omega
theorem ruleB : ∀ n, n < 7 → (∀ c ∈ ruleN n, c.1 < n ∧ c.2 < n ∧ c.1 ≠ c.2) ∧ allK leN (List.range n) (ruleN n) = true ∧ (ruleN n).length ≤ 8 := by decide +kernel
theorem getD_at {ms : List Str} {i : Nat} (hi : i < ms.length) : ms.getD i default = ms[i] := by simp [List.getD, hi]
theorem rule_calls {ms : List Str} (nd : ms.Nodup) (hl : ms.length ≤ 6) : CallsOn ms (rule ms) := by
  intro c m
  obtain ⟨d, md, rfl⟩ := List.mem_map.mp m
  obtain ⟨h1, h2, h3⟩ := (ruleB ms.length (by omega)).1 d md
  simp only [mapC, getD_at h1, getD_at h2]
  exact ⟨fun e => h3 ((List.getElem_inj nd).mp e), List.getElem_mem _, List.getElem_mem _⟩
theorem rule_len {ms : List Str} (hl : ms.length ≤ 6) : (rule ms).length ≤ 8 := by
  have := (ruleB ms.length (by omega)).2.2
  simpa [rule] using this
theorem rule_all {ms : List Str} (nd : ms.Nodup) (so : ms.Pairwise fun x y => leT x y = true) (hl : ms.length ≤ 6) : allK leT ms (rule ms) = true := by
  obtain ⟨h1, h2, _⟩ := ruleB ms.length (by omega)
  rw [← h2]
  refine allK_map ordN Sh.ordS ?_ List.nodup_range so nd ?_ ?_ ?_
  · refine List.Pairwise.imp ?_ List.pairwise_lt_range
    intro a b q
    unfold leN; simp; omega
  · intro x hx y hy e
    have hx := List.mem_range.mp hx
    have hy := List.mem_range.mp hy
    rw [getD_at hx, getD_at hy] at e
    exact (List.getElem_inj nd).mp e
  · intro y
    constructor
    · intro hy
      obtain ⟨i, hi, rfl⟩ := List.getElem_of_mem hy
      exact ⟨i, List.mem_range.mpr hi, getD_at hi⟩
    · rintro ⟨i, hi, rfl⟩
      have hi := List.mem_range.mp hi
      rw [getD_at hi]
      exact List.getElem_mem _
  · intro c m
    obtain ⟨a, b, _⟩ := h1 c m
    exact ⟨List.mem_range.mpr a, List.mem_range.mpr b⟩
/-! ### no fewer calls do -/
def reachG {α : Type} [DecidableEq α] (le : α → α → Bool) (names : (List α)) (many : Int) : Rs Bool :=
 (compM (β := (List α)) names (fun name_141 => .ok true) (fun name_141 => .ok ([name_141] : List α))).bd fun c_142 =>
 (rng 0 many).bd fun ns_143 =>
 (foldM (fun (s_144 : (List (List (List α)))) k_145 =>
 ((foldM (fun (s_146 : (List (List (List α)))) rows_147 =>
 ((rng 0 (names.length : Int)).bd fun ns_148 =>
 (foldM (fun (s_149 : (List (List (List α)))) one_150 =>
 ((rng 0 one_150).bd fun ns_151 =>
 (foldM (fun (s_152 : (List (List (List α)))) other_153 =>
 ((ixL rows_147 one_150).bd fun t_154 =>
 (ixL rows_147 other_153).bd fun t_155 =>
 (compM (β := α) t_155 (fun name_156 => (ixL rows_147 one_150).bd fun t_157 =>
 .ok (!mem name_156 t_157)) (fun name_156 => .ok name_156)).bd fun c_158 =>
 (cat t_154 c_158).bd fun t_159 =>
 (setL rows_147 one_150 (isort le t_159)).bd fun after_160 =>
 (setL after_160 other_153 (isort le t_159)).bd fun after_161 =>
 ((if (mem after_161 s_152) = true then (.ok s_152 : Rs (List (List (List α)))) else ((cat s_152 ([after_161] : List (List (List α)))).bd fun t_162 =>
 .ok t_162 : Rs (List (List (List α)))))).bd fun y_163 =>
 .ok y_163)) ns_151 s_149).bd fun s_152 =>
 .ok s_152)) ns_148 s_146).bd fun s_149 =>
 .ok s_149)) s_144 ([] : (List (List (List α))))).bd fun s_146 =>
 .ok s_146)) ns_143 ([c_142] : List (List (List α)))).bd fun s_144 =>
 (compM (β := (List (List α))) s_144 (fun rows_164 => (compM (β := (List α)) rows_164 (fun told_165 => .ok (!decide (told_165 = names))) (fun told_165 => .ok told_165)).bd fun c_166 =>
 .ok (decide ((c_166.length : Int) = (0 : Int)))) (fun rows_164 => .ok rows_164)).bd fun c_167 =>
 .ok (decide ((0 : Int) < (c_167.length : Int)))
theorem reach_eq (names : List Str) (many : Int) : law_reach names many = reachG leT names many := rfl
section
variable {α α' : Type} [DecidableEq α] [DecidableEq α'] {F : α → α'} (inj : ∀ x y, F x = F y → x = y)
include inj
theorem reach_mp {le : α → α → Bool} {le' : α' → α' → Bool} (ho : ∀ x y, le' (F x) (F y) = le x y) (names : List α) (many : Int) : reachG le' (names.map F) many = reachG le names many := by
  have M : ∀ ms : List α, MonoOn le le' F ms := fun ms => ⟨fun x _ y _ => ho x y, fun x _ y _ h => inj x y h⟩
  unfold reachG
  refine bd_eq (List.map (List.map F)) (compM_mp (F := F) (G := List.map F) (fun _ => rfl) (fun _ => rfl) names) fun c => ?_
  refine bd_eq (fun x => x) (mp_id _).symm fun ns => ?_
  refine bd_eq (List.map (List.map (List.map F))) (foldM_mp0 (S := List.map (List.map (List.map F))) (fun st k => ?_) ns [c]) fun st => ?_
  · refine bd_bd (G := List.map (List.map (List.map F))) (foldM_mp (S := List.map (List.map (List.map F))) (F := List.map (List.map F)) (fun g rows => ?_) st []) fun _ => rfl
    rw [List.length_map]
    refine bd_bd (G := fun x => x) (mp_id _).symm fun ns => ?_
    refine bd_bd (G := List.map (List.map (List.map F))) (foldM_mp0 (S := List.map (List.map (List.map F))) (fun g one => ?_) ns g) fun _ => rfl
    refine bd_bd (G := fun x => x) (mp_id _).symm fun ns => ?_
    refine bd_bd (G := List.map (List.map (List.map F))) (foldM_mp0 (S := List.map (List.map (List.map F))) (fun g other => ?_) ns g) fun _ => rfl
    refine bd_bd (G := List.map F) (ixL_mp (List.map F) rows one) fun t1 => ?_
    refine bd_bd (G := List.map F) (ixL_mp (List.map F) rows other) fun t2 => ?_
    refine bd_bd (G := List.map F) (compM_mp (F := F) (G := F) (fun z => ?_) (fun z => rfl) t2) fun c => ?_
    · refine bd_eq (List.map F) (ixL_mp (List.map F) rows one) fun t5 => ?_
      rw [mem_mp inj]
    · refine bd_bd (G := List.map F) (cat_mp F t1 c) fun t7 => ?_
      have es : isort le' (t7.map F) = (isort le t7).map F := isort_mapOn (M t7) fun _ h => h
      simp only [es]
      refine bd_bd (G := List.map (List.map F)) (setL_mp (List.map F) rows one (isort le t7)) fun a1 => ?_
      refine bd_bd (G := List.map (List.map F)) (setL_mp (List.map F) a1 other (isort le t7)) fun a2 => ?_
      refine bd_bd (G := List.map (List.map (List.map F))) ?_ fun _ => rfl
      have e : mem (a2.map (List.map F)) (g.map (List.map (List.map F))) = mem a2 g := mem_mp (F := List.map (List.map F)) (map_inj (map_inj inj)) a2 g
      rw [e]
      split
      · rfl
      · exact bd_bd (G := List.map (List.map (List.map F))) (cat_mp (List.map (List.map F)) g [a2]) fun _ => rfl
  · refine bd_eq (List.map (List.map (List.map F))) (compM_mp (F := List.map (List.map F)) (G := List.map (List.map F)) (fun rows => ?_) (fun _ => rfl) st) fun c => ?_
    · refine bd_eq (List.map (List.map F)) (compM_mp (F := List.map F) (G := List.map F) (fun told => ?_) (fun _ => rfl) rows) fun c => ?_
      · congr 2
        exact decide_eq_decide.mpr ⟨fun h => map_inj inj _ _ h, fun h => by rw [h]⟩
      · rw [List.length_map]
    · rw [List.length_map]
end
def isNo (m : Rs Bool) : Bool := match m with
  | .ok k => !k
  | _ => false
theorem isNo_eq {m : Rs Bool} (h : isNo m = true) : m = .ok false := by
  cases m with
  | ok k => cases k <;> simp [isNo] at h ⊢
  | exc c => simp [isNo] at h
  | bad => simp [isNo] at h
theorem reach_N : ∀ n, 1 < n → n < 5 → isNo (reachG (fun a b : Fin n => decide (a ≤ b)) (List.finRange n) (((ruleN n).length : Int) - 1)) = true := by
  intro n h1 h2
  obtain rfl | rfl | rfl : n = 2 ∨ n = 3 ∨ n = 4 := by omega
  · decide +kernel
  · decide +kernel
  · decide +kernel
theorem reach_ok {ms : List Str} (nd : ms.Nodup) (so : ms.Pairwise fun x y => leT x y = true) (h1 : 1 < ms.length) (h5 : ms.length < 5) : law_reach ms (((rule ms).length : Int) - 1) = .ok false := by
  have e : ms = (List.finRange ms.length).map fun i => ms[i] := by
    apply List.ext_getElem
    · simp
    · intro i h1 h2
      simp
  have el : (rule ms).length = (ruleN ms.length).length := by simp [rule]
  have inj : ∀ x y : Fin ms.length, ms[x] = ms[y] → x = y := fun x y h => Fin.ext ((List.getElem_inj nd).mp h)
  rw [reach_eq, el]
  conv => lhs; arg 2; rw [e]
  rw [reach_mp (F := fun i : Fin ms.length => ms[i]) inj (le := fun a b => decide (a ≤ b)) (fun x y => ?_)]
  · exact isNo_eq (reach_N ms.length h1 h5)
  · by_cases h : x ≤ y
    · rw [decide_eq_true h]
      by_cases g : x = y
      · subst g; exact Ord.refl Sh.ordS _
      · exact List.pairwise_iff_getElem.mp so x.1 y.1 x.2 y.2 (by omega)
    · rw [decide_eq_false h]
      have q := List.pairwise_iff_getElem.mp so y.1 x.1 y.2 x.2 (by omega)
      cases p : leT ms[x] ms[y] with
      | false => rfl
      | true =>
        have := inj x y (Sh.ordS.anti _ _ p q)
        omega
end K81
end
section
set_option Elab.async false
set_option linter.all false
set_option maxHeartbeats 4000000
set_option maxRecDepth 100000
namespace K81
open PySem Mv Mv.Sh PySem.W

/-! ### refusals -/
abbrev NOB : Str := ⟨#[110, 111, 98, 111, 100, 121, 104, 101, 114, 101]⟩
abbrev PAPER : Str := ⟨#[112, 97, 112, 101, 114]⟩
theorem nob_no {m : Nat} {ns : List Str} (d : Drawn m ns) : NOB ∉ ns := fun h => by
  rcases d.db _ h with q | q
  · exact absurd q (by decide)
  · exact absurd q (by decide)
theorem calls_bad {fr ms : List Str} {z w : Str} (hf : checked_friends fr = .ok ms) (h : z ∉ ms) : checked_calls fr [(z, w)] = .exc 4 := by
  unfold checked_calls
  rw [hf, Rs.bd_ok]
  have : mem z ms = false := by simp [mem, h]
  simp only [foldM, this]
  by_cases q : z = w <;> simp [q]
theorem dict0 {ms : List Str} (nd : ms.Nodup) (hl : ms.length ≤ 20) : dcompM (κ := Str) (ν := (List Str)) ms (fun name_188 => .ok (name_188, ([name_188] : List Str))) = .ok (dfun ms fun n => [n]) := by
  have hL := Sh.L_eq
  exact dcompM_dfun (fun n => [n]) nd (by omega) (fun _ _ => rfl)
theorem ref_a {fr ms : List Str} {z w : Str} (hf : checked_friends fr = .ok ms) (hm : checked_friends ms = .ok ms) (nd : ms.Nodup) (hl : ms.length ≤ 20) (h : z ∉ ms) {c : Int} (hc : c = 1 ∨ c = 2) : law_refused c fr [(z, w)] = .ok PAPER := by
  unfold law_refused
  rcases hc with rfl | rfl
  · rw [if_neg (by decide), if_pos (by decide), calls_bad hf h]
    rfl
  · rw [if_neg (by decide), if_neg (by decide)]
    unfold all_know known
    rw [hf, Rs.bd_ok, hm, Rs.bd_ok, dict0 nd hl, Rs.bd_ok, calls_bad hm h]
    rfl
theorem calls_b1 {fr ms : List Str} {x : Tu1 Str} (hf : checked_friends fr = .ok ms) : checked_calls_1 fr [x] = .exc 4 := by
  unfold checked_calls_1
  rw [hf, Rs.bd_ok]
  rfl
theorem ref_b {fr ms : List Str} {x : Tu1 Str} (hf : checked_friends fr = .ok ms) (hm : checked_friends ms = .ok ms) (nd : ms.Nodup) (hl : ms.length ≤ 20) {c : Int} (hc : c = 1 ∨ c = 2) : law_refused_1 c fr [x] = .ok PAPER := by
  unfold law_refused_1
  rcases hc with rfl | rfl
  · rw [if_neg (by decide), if_pos (by decide), calls_b1 hf]
    rfl
  · rw [if_neg (by decide), if_neg (by decide)]
    unfold all_know_1 known_1
    rw [hf, Rs.bd_ok, hm, Rs.bd_ok, dict0 nd hl, Rs.bd_ok, calls_b1 hm]
    rfl
theorem calls_b2 {fr ms : List Str} {x : List Str} (hf : checked_friends fr = .ok ms) : checked_calls_2 fr [x] = .exc 4 := by
  unfold checked_calls_2
  rw [hf, Rs.bd_ok]
  rfl
theorem ref_c {fr ms : List Str} {x : List Str} (hf : checked_friends fr = .ok ms) (hm : checked_friends ms = .ok ms) (nd : ms.Nodup) (hl : ms.length ≤ 20) {c : Int} (hc : c = 1 ∨ c = 2) : law_refused_2 c fr [x] = .ok PAPER := by
  unfold law_refused_2
  rcases hc with rfl | rfl
  · rw [if_neg (by decide), if_pos (by decide), calls_b2 hf]
    rfl
  · rw [if_neg (by decide), if_neg (by decide)]
    unfold all_know_2 known_2
    rw [hf, Rs.bd_ok, hm, Rs.bd_ok, dict0 nd hl, Rs.bd_ok, calls_b2 hm]
    rfl
theorem ref_n : law_refused_3 0 [(⟨#[97]⟩ : Str), (⟨#[81]⟩ : Str)] 0 = .ok (⟨#[110, 97, 109, 101]⟩ : Str) := by kernel_rfl
theorem ref_t : law_refused_3 0 [(⟨#[97]⟩ : Str), (⟨#[98]⟩ : Str), (⟨#[97]⟩ : Str)] 0 = .ok (⟨#[116, 119, 105, 99, 101]⟩ : Str) := by kernel_rfl
theorem ref_m : ((rng 0 (21 : Int)).bd fun ns_307 => (compM (β := Str) ns_307 (fun k_308 => .ok true) (fun k_308 => .ok (⟨#[97]⟩ : Str))).bd fun c_309 => (law_refused_3 (0 : Int) c_309 (0 : Int)).bd fun r_310 => .ok (decide (r_310 = (⟨#[109, 97, 110, 121]⟩ : Str)))) = .ok true := by kernel_rfl
/-! ### calls changed in a drawn way -/
theorem CallsOn.app {ms : List Str} {cs ds : List (Str × Str)} (h : CallsOn ms cs) (k : CallsOn ms ds) : CallsOn ms (cs ++ ds) := fun c m => (List.mem_append.mp m).elim (h c) (k c)
theorem CallsOn.tk {ms : List Str} {cs : List (Str × Str)} (h : CallsOn ms cs) (n : Nat) : CallsOn ms (cs.take n) := fun c m => h c (List.mem_of_mem_take m)
theorem CallsOn.dr {ms : List Str} {cs : List (Str × Str)} (h : CallsOn ms cs) (n : Nat) : CallsOn ms (cs.drop n) := fun c m => h c (List.mem_of_mem_drop m)
theorem CallsOn.rev {ms : List Str} {cs : List (Str × Str)} (h : CallsOn ms cs) : CallsOn ms cs.reverse := fun c m => h c (List.mem_reverse.mp m)
theorem cut_drop' {α : Type} {xs : List α} {n : Nat} : cut xs (some (n : Int)) none = xs.drop n := by
  by_cases h : n ≤ xs.length
  · exact cut_drop h
  · unfold cut
    rw [HT.sIx_none, HT.sIx_nat, Nat.min_eq_right (by omega), List.drop_length, List.drop_of_length_le (by omega)]
    simp
theorem some_ok {p : Pool} {ms : List Str} {due : List (Str × Str)} (hp : PoolOk p) (nd : ms.Nodup) (hl : ms.length ≤ 6) (hd : CallsOn ms due) (hdl : due.length ≤ 8) : ∃ cs p',
   ((if (decide ((1 : Int) < (ms.length : Int))) = true then
 ((law_calls p ms (10 : Int)).bd fun r_257 =>
 (law_pick r_257.2 ([due, r_257.1, (List.reverse due)] : List (List (Str × Str)))).bd fun r_258 =>
 (law_draw r_258.2 (3 : Int)).bd fun r_259 =>
 (rng 0 r_259.1).bd fun ns_260 =>
 (foldM (fun (s_261 : (Pool × (List (Str × Str)))) j_262 =>
 ((law_draw s_261.1 ((s_261.2.length : Int) + (1 : Int))).bd fun r_263 =>
 (cat (cut s_261.2 none (some r_263.1)) (cut s_261.2 (some (r_263.1 + (1 : Int))) none)).bd fun t_264 =>
 (law_calls r_263.2 ms (1 : Int)).bd fun r_265 =>
 (cat (cut s_261.2 none (some r_263.1)) r_265.1).bd fun t_266 =>
 (cat t_266 (cut s_261.2 (some r_263.1) none)).bd fun t_267 =>
 (cat (cut s_261.2 (some r_263.1) none) (cut s_261.2 none (some r_263.1))).bd fun t_268 =>
 (law_pick r_265.2 ([t_264, t_267, t_268] : List (List (Str × Str)))).bd fun r_269 =>
 .ok (r_269.2, r_269.1))) ns_260 (r_259.2, r_258.1)).bd fun s_261 =>
 .ok (s_261.1, s_261.2))
 else
 (.ok (p, due))) : Rs (Pool × (List (Str × Str)))) = .ok (p', cs) ∧ CallsOn ms cs ∧ cs.length ≤ 20 ∧ PoolOk p' := by
  have hL := Sh.L_eq
  by_cases h : (1 : Int) < (ms.length : Int)
  · rw [if_pos (decide_eq_true h)]
    obtain ⟨c0, p1, e1, k1, l1, hp1⟩ := law_calls_ok' hp (show 2 ≤ ms.length by omega) (show ms.length ≤ 20 by omega) nd (q := 10) (by decide)
    rw [show law_calls p ms (10 : Int) = .ok (c0, p1) from e1, Rs.bd_ok]
    obtain ⟨s0, m0, p2, e2, hp2⟩ := pick_ok' (rows := [due, c0, due.reverse]) hp1 (by simp) (by simp)
    rw [e2, Rs.bd_ok]
    have hs0 : CallsOn ms s0 ∧ s0.length ≤ 10 := by
      simp only [List.mem_cons, List.not_mem_nil, or_false] at m0
      rcases m0 with rfl | rfl | rfl
      · exact ⟨hd, by omega⟩
      · exact ⟨k1, l1⟩
      · exact ⟨hd.rev, by rw [List.length_reverse]; omega⟩
    obtain ⟨r, p3, e3, hr, hp3⟩ := ldraw hp2 (m := 3) (by decide) (by decide)
    rw [e3, Rs.bd_ok, rng0 (by omega), Rs.bd_ok]
    obtain ⟨s, f1, f2, f3, f4⟩ := foldM_inv (f := fun (s_261 : (Pool × (List (Str × Str)))) (j_262 : Int) =>
 ((law_draw s_261.1 ((s_261.2.length : Int) + (1 : Int))).bd fun r_263 =>
 (cat (cut s_261.2 none (some r_263.1)) (cut s_261.2 (some (r_263.1 + (1 : Int))) none)).bd fun t_264 =>
 (law_calls r_263.2 ms (1 : Int)).bd fun r_265 =>
 (cat (cut s_261.2 none (some r_263.1)) r_265.1).bd fun t_266 =>
 (cat t_266 (cut s_261.2 (some r_263.1) none)).bd fun t_267 =>
 (cat (cut s_261.2 (some r_263.1) none) (cut s_261.2 none (some r_263.1))).bd fun t_268 =>
 (law_pick r_265.2 ([t_264, t_267, t_268] : List (List (Str × Str)))).bd fun r_269 =>
 .ok (r_269.2, r_269.1))) (fun pre s => PoolOk s.1 ∧ CallsOn ms s.2 ∧ s.2.length ≤ 10 + pre.length) ((List.range r).map fun (k : Nat) => (k : Int)) (p3, s0) ⟨hp3, hs0.1, by simpa using hs0.2⟩ (fun pre x post s hx hs => by
      obtain ⟨i1, i2, i3⟩ := hs
      have pl : pre.length ≤ r := by
        have := congrArg List.length hx
        simp at this; omega
      obtain ⟨a, q1, g1, g2, hq1⟩ := ldraw i1 (m := (s.2.length : Int) + 1) (by omega) (by omega)
      obtain ⟨c1, q2, g3, k3, l3, hq2⟩ := law_calls_ok' hq1 (show 2 ≤ ms.length by omega) (show ms.length ≤ 20 by omega) nd (q := 1) (by decide)
      have ha : a ≤ s.2.length := by omega
      have e2 : (a : Int) + 1 = ((a + 1 : Nat) : Int) := by omega
      have tl : (s.2.take a).length = a := by rw [List.length_take]; omega
      have dl : (s.2.drop a).length = s.2.length - a := List.length_drop
      have dl2 : (s.2.drop (a + 1)).length = s.2.length - (a + 1) := List.length_drop
      obtain ⟨x, mx, q3, g4, hq3⟩ := pick_ok' (rows := [s.2.take a ++ s.2.drop (a + 1), s.2.take a ++ c1 ++ s.2.drop a, s.2.drop a ++ s.2.take a]) hq2 (by simp) (by simp)
      refine ⟨(q3, x), ?_, hq3, ?_, ?_⟩
      · simp only [g1, Rs.bd_ok, cut_take ha, e2, cut_drop', show law_calls q1 ms (1 : Int) = .ok (c1, q2) from g3]
        rw [cat_ok (by omega), Rs.bd_ok, cat_ok (by omega), Rs.bd_ok, cat_ok (by rw [List.length_append]; omega), Rs.bd_ok, cat_ok (by omega), Rs.bd_ok, g4, Rs.bd_ok]
      · simp only [List.mem_cons, List.not_mem_nil, or_false] at mx
        rcases mx with rfl | rfl | rfl
        · exact (i2.tk a).app (i2.dr (a + 1))
        · exact ((i2.tk a).app k3).app (i2.dr a)
        · exact (i2.dr a).app (i2.tk a)
      · simp only [List.mem_cons, List.not_mem_nil, or_false] at mx
        rcases mx with rfl | rfl | rfl <;> simp only [List.length_append, List.length_cons, List.length_nil] <;> omega)
    rw [f1, Rs.bd_ok]
    refine ⟨s.2, s.1, rfl, f3, ?_, f2⟩
    simp at f4
    omega
  · rw [if_neg (by simpa using h)]
    exact ⟨due, p, rfl, hd, by omega, hp⟩
theorem not_all {ms : List Str} {cs : List (Str × Str)} : decide ((((ms.filter fun n => !decide (kn leT cs n = ms)).length : Nat) : Int) = (0 : Int)) = allK leT ms cs := by
  unfold allK
  rw [Bool.eq_iff_iff]
  simp only [decide_eq_true_eq, List.all_eq_true]
  constructor
  · intro h n hn
    have h : (ms.filter fun n => !decide (kn leT cs n = ms)).length = 0 := by omega
    have h2 := List.eq_nil_of_length_eq_zero h
    rw [List.filter_eq_nil_iff] at h2
    simpa using h2 n hn
  · intro h
    have : (ms.filter fun n => !decide (kn leT cs n = ms)) = [] := by
      rw [List.filter_eq_nil_iff]
      intro n hn
      simp [h n hn]
    rw [this]; rfl
theorem law_true (script : List Int) : law script = .ok true := by
  have hL := Sh.L_eq
  unfold law
  have pl : law_pool script = .ok ⟨script, 0, 0, 0, 0⟩ := rfl
  rw [pl, Rs.bd_ok]
  obtain ⟨ns, p1, n1, dr, hp1⟩ := lnames (p := ⟨script, 0, 0, 0, 0⟩) (Int.le_refl 0) (m := 6) (by decide)
  have n1 : law_names ⟨script, 0, 0, 0, 0⟩ (6 : Int) = .ok (ns, p1) := n1
  rw [n1, Rs.bd_ok]
  obtain ⟨r, p2, d2, hr, hp2⟩ := ldraw hp1 (m := 7) (by decide) (by decide)
  simp only [d2, Rs.bd_ok]
  have ecut : cut ns none (some (r : Int)) = ns.take r := cut_take (by rw [dr.len]; omega)
  simp only [ecut]
  have fnd : (ns.take r).Nodup := List.Nodup.sublist (List.take_sublist _ _) dr.nd
  have h6 : (ns.take r).length ≤ 6 := by rw [List.length_take]; omega
  have N : Nm (ns.take r) := ⟨fnd, fun z m => dr.ok z (List.mem_of_mem_take m), by omega⟩
  have hnob : NOB ∉ ns.take r := fun h => nob_no dr (List.mem_of_mem_take h)
  clear ecut n1 d2
  generalize ns.take r = fr at *
  have hf := cfriends N
  have hm := cfriends N.sort
  rw [so2] at hm
  have N2 := N.sort
  have so : (isort leT fr).Pairwise fun x y => leT x y = true := isort_sorted Sh.ordS fr
  have hl6 : (isort leT fr).length ≤ 6 := by rw [isort_len]; exact h6
  have hno : NOB ∉ isort leT fr := fun h => hnob (isort_mem.mp h)
  generalize isort leT fr = ms at *
  have nd := N2.nd
  have rc := rule_calls nd hl6
  have rl := rule_len hl6
  have ra := rule_all nd so hl6
  rw [rule_ok ms hl6, Rs.bd_ok, hf, Rs.bd_ok, sameR_ok rfl (okS_l (by omega) fun _ _ => okS_s _), Rs.bd_ok]
  simp only [Bool.not_true, Bool.false_eq_true, if_false]
  rw [plan_ok' ms hl6 hf, Rs.bd_ok, sameR_ok rfl (okS_l (by omega) fun _ _ => okS_p (okS_s _) (okS_s _)), Rs.bd_ok]
  simp only [Bool.not_true, Bool.false_eq_true, if_false]
  rw [fewest_ok' ms hl6 hf, Rs.bd_ok, sameR_ok rfl (okS_i _), Rs.bd_ok]
  simp only [Bool.not_true, Bool.false_eq_true, if_false, Rs.bd_ok]
  rw [judge_ok' hf hm nd hl6 rc, Rs.bd_ok, ra]
  simp only [decide_true, Bool.and_self, Bool.not_true, Bool.false_eq_true, if_false]
  have cf : ∀ cs, CallsOn ms cs → ∀ L : Rs (List (Str × List Str)), L = .ok (dfun ms (kn leT cs)) → compM (β := Str) ms (fun name_247 => L.bd fun r_248 => (dget r_248 name_247).bd fun t_249 => .ok (!decide (t_249 = ms))) (fun name_247 => .ok name_247) = .ok (ms.filter fun n => !decide (kn leT cs n = ms)) := by
    intro cs hc L hLe
    exact compM_filter (fun n => !decide (kn leT cs n = ms)) (fun n m => by rw [hLe, Rs.bd_ok, dget_dfun m]; rfl) (by omega)
  rw [cf _ rc _ (law_known_ok' nd (by omega) rc), Rs.bd_ok]
  have z0 : decide ((0 : Int) < (((ms.filter fun n => !decide (kn leT (rule ms) n = ms)).length : Nat) : Int)) = false := by
    have := not_all (ms := ms) (cs := rule ms)
    rw [ra] at this
    have := of_decide_eq_true this
    simp only [decide_eq_false_iff_not]; omega
  rw [z0]
  simp only [Rs.bd_ok, Bool.false_eq_true, if_false]
  have rb : ((if ((decide ((1 : Int) < (ms.length : Int))) && (decide ((ms.length : Int) < (5 : Int)))) = true then ((law_reach ms (((rule ms).length : Int) - (1 : Int))).bd fun r_252 => .ok r_252 : Rs Bool) else .ok false)) = .ok false := by
    split
    · rename_i h
      simp only [Bool.and_eq_true, decide_eq_true_eq] at h
      rw [reach_ok nd so (by omega) (by omega), Rs.bd_ok]
    · rfl
  rw [rb, Rs.bd_ok]
  simp only [Bool.false_eq_true, if_false]
  rw [rng0' (i := 6) (n := 6) rfl (by omega), Rs.bd_ok]
  obtain ⟨pz, e1, hpz⟩ := forM_inv (ρ := Bool) (f := fun (s_255 : Pool) (k_256 : Int) =>
 (((if (decide ((1 : Int) < (ms.length : Int))) = true then
 ((law_calls s_255 ms (10 : Int)).bd fun r_257 =>
 (law_pick r_257.2 ([rule ms, r_257.1, (List.reverse (rule ms))] : List (List (Str × Str)))).bd fun r_258 =>
 (law_draw r_258.2 (3 : Int)).bd fun r_259 =>
 (rng 0 r_259.1).bd fun ns_260 =>
 (foldM (fun (s_261 : (Pool × (List (Str × Str)))) j_262 =>
 ((law_draw s_261.1 ((s_261.2.length : Int) + (1 : Int))).bd fun r_263 =>
 (cat (cut s_261.2 none (some r_263.1)) (cut s_261.2 (some (r_263.1 + (1 : Int))) none)).bd fun t_264 =>
 (law_calls r_263.2 ms (1 : Int)).bd fun r_265 =>
 (cat (cut s_261.2 none (some r_263.1)) r_265.1).bd fun t_266 =>
 (cat t_266 (cut s_261.2 (some r_263.1) none)).bd fun t_267 =>
 (cat (cut s_261.2 (some r_263.1) none) (cut s_261.2 none (some r_263.1))).bd fun t_268 =>
 (law_pick r_265.2 ([t_264, t_267, t_268] : List (List (Str × Str)))).bd fun r_269 =>
 .ok (r_269.2, r_269.1))) ns_260 (r_259.2, r_258.1)).bd fun s_261 =>
 .ok (s_261.1, s_261.2))
 else
 (.ok (s_255, rule ms))) : Rs (Pool × (List (Str × Str)))).bd fun s_270 =>
 (law_known ms s_270.2).bd fun r_271 =>
 (compM (β := Str) ms (fun name_272 => (dget r_271 name_272).bd fun t_273 =>
 .ok (!decide (t_273 = ms))) (fun name_272 => .ok name_272)).bd fun c_274 =>
 (known fr s_270.2).bd fun r_275 =>
 (compM (β := (Str × (List Str))) ms (fun name_276 => .ok true) (fun name_276 => (dget r_271 name_276).bd fun t_277 =>
 .ok (name_276, t_277))).bd fun c_278 =>
 (sameR (α := (List (Str × (List Str)))) r_275 c_278).bd fun k_279 =>
 ((if (!k_279) = true then .ok true else ((all_know fr s_270.2).bd fun r_280 =>
 (sameR (α := Bool) r_280 (decide ((c_274.length : Int) = (0 : Int)))).bd fun k_281 =>
 .ok (!k_281) : Rs Bool))).bd fun b_282 =>
 if b_282 = true then
 (.ok (.rt false))
 else
 ((judge fr s_270.2).bd fun r_283 =>
 (sameR (α := Bool) r_283 ((decide ((c_274.length : Int) = (0 : Int))) && (decide ((s_270.2.length : Int) = ((rule ms).length : Int))))).bd fun k_284 =>
 ((if (!k_284) = true then .ok true else ((checked_calls fr s_270.2).bd fun r_285 =>
 (sameR (α := (List (Str × Str))) r_285 s_270.2).bd fun k_286 =>
 .ok (!k_286) : Rs Bool))).bd fun b_287 =>
 if b_287 = true then
 (.ok (.rt false))
 else
 ((turned s_270.2).bd fun r_288 =>
 (sameR (α := (List (Str × Str))) r_288 (List.reverse s_270.2)).bd fun k_289 =>
 ((if (!k_289) = true then .ok true else ((all_know fr r_288).bd fun r_290 =>
 .ok (!decide (r_290 = (decide ((c_274.length : Int) = (0 : Int))))) : Rs Bool))).bd fun b_291 =>
 if b_291 = true then
 (.ok (.rt false))
 else
 (.ok (.nx s_270.1)))))) (fun _ p => PoolOk p) ((List.range 6).map fun (k : Nat) => (k : Int)) p2 hp2 (fun pre x post p hx hp => by
    obtain ⟨cs, p', es, hc, hcl, hp'⟩ := some_ok hp nd hl6 rc rl
    refine ⟨p', ?_, hp'⟩
    simp only [es, Rs.bd_ok, law_known_ok' nd (show ms.length ≤ 20 by omega) hc]
    have c1 : compM (β := Str) ms (fun name_272 => (dget (dfun ms (kn leT cs)) name_272).bd fun t_273 => .ok (!decide (t_273 = ms))) (fun name_272 => .ok name_272) = .ok (ms.filter fun n => !decide (kn leT cs n = ms)) := compM_filter (fun n => !decide (kn leT cs n = ms)) (fun n m => by rw [dget_dfun m]; rfl) (by omega)
    have c2 : compM (β := (Str × (List Str))) ms (fun name_276 => .ok true) (fun name_276 => (dget (dfun ms (kn leT cs)) name_276).bd fun t_277 => .ok (name_276, t_277)) = .ok (dfun ms (kn leT cs)) := by
      rw [compM_map (fun n => (n, kn leT cs n)) (fun n m => by rw [dget_dfun m]; rfl) (by omega)]; rfl
    have R : RowsOk leT ms (kn leT cs) := rows_kn Sh.ordS cs fun c m => (hc c m).2
    have okd : okS (Dt.D (dfun ms (kn leT cs))) = true := okS_l (by simp only [dfun, List.length_map]; omega) fun x m => by
      obtain ⟨n, hn, rfl⟩ := List.mem_map.mp m
      exact okS_p (okS_s _) (okS_l (by have := R.len hn; simp only; omega) fun _ _ => okS_s _)
    rw [c1, Rs.bd_ok, known_ok' hf hm nd (by omega) hc, Rs.bd_ok, c2, Rs.bd_ok, sameR_ok rfl okd, Rs.bd_ok]
    simp only [Bool.not_true, Bool.false_eq_true, if_false, not_all]
    rw [all_know_ok' hf hm nd (by omega) hc, Rs.bd_ok, sameR_ok rfl (okS_b _), Rs.bd_ok]
    simp only [Bool.not_true, Bool.false_eq_true, if_false, Rs.bd_ok]
    rw [judge_ok' hf hm nd hl6 hc, Rs.bd_ok, sameR_ok rfl (okS_b _), Rs.bd_ok]
    simp only [Bool.not_true, Bool.false_eq_true, if_false, Rs.bd_ok]
    rw [ccalls hf hc, Rs.bd_ok, sameR_ok rfl (okS_l (by omega) fun _ _ => okS_p (okS_s _) (okS_s _)), Rs.bd_ok]
    simp only [Bool.not_true, Bool.false_eq_true, if_false, Rs.bd_ok]
    unfold turned
    rw [Rs.bd_ok, sameR_ok rfl (okS_l (by rw [List.length_reverse]; omega) fun _ _ => okS_p (okS_s _) (okS_s _)), Rs.bd_ok]
    simp only [Bool.not_true, Bool.false_eq_true, if_false, Rs.bd_ok]
    rw [all_know_ok' hf hm nd (by omega) hc.rev, Rs.bd_ok, allK_reverse Sh.ordS so nd fun c m => (hc c m).2]
    simp)
  rw [e1]
  simp only [Rs.obd_nx]
  have l20 : ms.length ≤ 20 := by omega
  simp only [ref_a hf hm nd l20 hno (.inl rfl), ref_a hf hm nd l20 hno (.inr rfl), ref_b hf hm nd l20 (.inl rfl), ref_b hf hm nd l20 (.inr rfl), ref_c hf hm nd l20 (.inl rfl), ref_c hf hm nd l20 (.inr rfl), Rs.bd_ok, decide_true, Bool.not_true, Bool.false_eq_true, if_false, Rs.obd_nx]
  rw [ref_n, Rs.bd_ok]
  simp only [decide_true, Bool.not_true, Bool.false_eq_true, if_false]
  rw [ref_t, Rs.bd_ok]
  simp only [decide_true, Bool.not_true, Bool.false_eq_true, if_false, Rs.bd_ok]
  exact ref_m
end K81
end
set_option Elab.async false
set_option maxRecDepth 100000
theorem PySem.Challenge.cw_manychoose_k81_whole_fewest_calls_holds : PySem.Challenge.rw_manychoose_k81_whole_fewest_calls.Holds := by
  exact K81.end_ 9 ⟨rfl, by decide, by decide⟩ (K81.law_runs fun ns _ => K81.law_true ns)
