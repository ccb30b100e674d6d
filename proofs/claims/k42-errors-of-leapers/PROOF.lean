import PyProof.Rows.All
import Wide.All
import OpenK.AllK
import Wide.FinOn
import HandS.ForMost
import HandS.Wide
import HandS.Flow
import HandS.Text
import HandS.Deep
import KE.LtData
import KE.DataCmp
import KE.DataMinMax
import KE.SortData
import HandS.Exc
import HandS.ExcOwn
import HandS.WordsExc
import HandS.ExcCtx
import HandS.Dict
import HandS.DictComp
import KE.KDictDisplayH
import HandS.TupAny
import HandS.Style
import HandS.RaiseMore
import PyProof.ReprRoads
import HandS.Conv
import KE.KDictSum
import HandS.SetFor
import HandS.Strs
import HandS.TupSets
import HandS.Keys
import HandS.Star
import HandS.Gcd
import HandS.Replace
import HandS.Iter
import HandS.Defaults
import HandS.HeadHook2
import HandS.ExcInit
import KE.KExcSuper
import HandS.HotCalls
import HandS.ExcIs
import HandS.ExcField
import KE.KExcIs
import HandS.ExcInitHot
import HandS.Ends
import HandS.HeadEnd
import HandS.HeadHook1
import PyProof.Rows.ReprOcc
import PyProof.Rows.ReprShort
import PyProof.ReprLen
import HandS.Head0
import HandS.Head1
import HandS.Head2
import HandS.Head3
import PySem.Challenge.RW_matestold_k42_errors_of_leapers
set_option Elab.async false
set_option linter.all false
set_option maxRecDepth 100000
set_option maxHeartbeats 0
/-! Mt: a small evaluator over PyData for the Python that these laws use. Part A: the syntax, what it gives. -/
namespace Mt
open PySem
abbrev D := PyData
abbrev Sg := List (Option D)

/-- what an expression gives: a value, an error of the program's own (its class by name, its at), or nothing that is said here -/
inductive R (α : Type) where
  | ok (a : α)
  | exc (c : Str) (a : D)
  | stuck
def R.bind {α β : Type} (x : R α) (f : α → R β) : R β := match x with
  | .ok a => f a
  | .exc c a => .exc c a
  | .stuck => .stuck
instance : Monad R where
  pure := .ok
  bind := R.bind
@[simp] theorem R.bind_ok {α β : Type} (a : α) (f : α → R β) : (R.ok a).bind f = f a := (rfl)
@[simp] theorem R.bind_exc {α β : Type} (c : Str) (a : D) (f : α → R β) : (R.exc c a).bind f = .exc c a := (rfl)
@[simp] theorem R.bind_stuck {α β : Type} (f : α → R β) : (R.stuck : R α).bind f = .stuck := (rfl)
theorem R.bind_assoc {α β γ : Type} (x : R α) (f : α → R β) (g : β → R γ) : (x.bind f).bind g = x.bind fun a => (f a).bind g := by
  cases x <;> rfl
/-- nothing is said of an error here -/
def nox {α : Type} (x : R α) : R α := match x with
  | .ok a => .ok a
  | _ => .stuck
@[simp] theorem nox_ok {α : Type} (a : α) : nox (.ok a) = .ok a := (rfl)
/-- b, or stuck -/
def grd {α : Type} (b : Bool) (x : R α) : R α := if b = true then x else .stuck
@[simp] theorem grd_true {α : Type} (x : R α) : grd true x = x := (rfl)
@[simp] theorem grd_false {α : Type} (x : R α) : grd false x = .stuck := (rfl)

/-! ### values -/
/-- a tuple that stands in the written part (a constant, or in one): told apart from those that are made -/
def kt (ds : List D) : D := .dict [(.none, .tuple ds)]
/-- .. seen as a tuple -/
def unk : D → D
  | .dict [(.none, .tuple ds)] => .tuple ds
  | d => d
@[simp] theorem unk_kt (ds : List D) : unk (kt ds) = .tuple ds := (rfl)
@[simp] theorem unk_n : unk .none = .none := (rfl)
@[simp] theorem unk_b (b : Bool) : unk (.bool b) = .bool b := (rfl)
@[simp] theorem unk_i (i : Int) : unk (.int i) = .int i := (rfl)
@[simp] theorem unk_s (s : Str) : unk (.str s) = .str s := (rfl)
@[simp] theorem unk_l (l : List D) : unk (.list l) = .list l := (rfl)
@[simp] theorem unk_t (l : List D) : unk (.tuple l) = .tuple l := (rfl)
/-- data without dicts, of a depth that every comparison bears -/
abbrev flat (d : D) : Bool := SeqAt.shaped d
def truthy : D → R Bool
  | .none => .ok false
  | .bool b => .ok b
  | .int i => .ok (i != 0)
  | .str x => grd (decide (x.length ≤ sizeLine)) (.ok ((x.length : Int) != 0))
  | .list xs => .ok (!xs.isEmpty)
  | .tuple xs => .ok (!xs.isEmpty)
  | .dict _ => .stuck
def fitL (n : Nat) : Bool := decide (n ≤ 16777216)

inductive BinO where
  | add | sub | mul | fdiv | mod | pow
  deriving DecidableEq
def mulOk (i j : Int) : Bool := decide (i.natAbs.log2 + j.natAbs.log2 < 1000000)
def binD : BinO → D → D → R D
  | .add, .int i, .int j => .ok (.int (i + j))
  | .add, .str x, .str y => grd (fitL (x.length + y.length)) (.ok (.str (x ++ y)))
  | .add, .list xs, .list ys => grd (fitL (xs.length + ys.length)) (.ok (.list (xs ++ ys)))
  | .add, .tuple xs, .tuple ys => grd (!xs.isEmpty && !ys.isEmpty && fitL (xs.length + ys.length)) (.ok (.tuple (xs ++ ys)))
  | .sub, .int i, .int j => .ok (.int (i - j))
  | .mul, .int i, .int j => grd (mulOk i j) (.ok (.int (i * j)))
  | .fdiv, .int i, .int j => grd (decide (0 < j) && decide (j.natAbs.log2 < 9000)) (.ok (.int (i / j)))
  | .mod, .int i, .int j => grd (decide (0 < j)) (.ok (.int (i % j)))
  | .pow, .int i, .int j => grd (decide (0 ≤ j) && decide (j ≤ 1000000) && decide (i.natAbs < 2 ^ 64)) (.ok (.int (i ^ j.toNat)))
  | _, _, _ => .stuck

/-! ### dicts: keys are ints and texts, or tuples of such -/
def kD : L2.Key → D
  | .inl i => .int i
  | .inr x => .str x
def kT (k : List L2.Key) : D := .tuple (k.map kD)
def keyK : D → Option L2.Key
  | .int i => some (.inl i)
  | .str x => some (.inr x)
  | _ => none
def keyTs : List D → Option (List L2.Key)
  | [] => some []
  | d :: r => match keyK d, keyTs r with
    | some k, some ks => some (k :: ks)
    | _, _ => none
def keyT : D → Option (List L2.Key)
  | .tuple ds => keyTs ds
  | _ => none
def decG {κ : Type} (f : D → Option κ) : List (D × D) → Option (List (κ × D))
  | [] => some []
  | (a, d) :: r => match f a, decG f r with
    | some k, some m => some ((k, d) :: m)
    | _, _ => none
def putG {κ β : Type} [DecidableEq κ] (l : List (κ × β)) (k : κ) (v : β) : List (κ × β) :=
  if (l.any fun kv => decide (kv.1 = k)) = true then l.map (fun kv => if kv.1 = k then (kv.1, v) else kv) else l ++ [(k, v)]
def getG {κ β : Type} [DecidableEq κ] (l : List (κ × β)) (k : κ) : Option β := (l.find? fun kv => decide (kv.1 = k)).map (·.2)
def encT (m : List (List L2.Key × D)) : List (D × D) := m.map fun p => (kT p.1, p.2)
def encK (m : List (L2.Key × D)) : List (D × D) := m.map fun p => (kD p.1, p.2)
/-- d[k] = v -/
def putD (kds : List (D × D)) (k v : D) : R D := match keyT k with
  | some kk => (match decG keyT kds with
    | some m => grd (fitL (m.length + 1)) (.ok (.dict (encT (putG m kk v))))
    | none => .stuck)
  | none => .stuck
/-- xs[i] = v -/
def putI (xs : List D) (k v : D) : R D := match k with
  | .int i => (match L2.ixN xs.length i with
    | some j => .ok (.list (xs.set j v))
    | none => .stuck)
  | _ => .stuck
/-- d.get(k) -/
def lookD (kds : List (D × D)) (k : D) : R (Option D) := match keyT k with
  | some kk => (match decG keyT kds with
    | some m => .ok (getG m kk)
    | none => .stuck)
  | none => (match keyK k with
    | some kk => (match decG keyK kds with
      | some m => grd (!m.isEmpty) (.ok (getG m kk))
      | none => .stuck)
    | none => .stuck)
inductive CmpO where
  | eq | ne | lt | le | gt | ge | inn | nin | isn | isnn
  deriving DecidableEq
/-- the order of data of one shape: ints, texts, tuples of such, from the left; none where nothing is said -/
def memK (k : D) : List (D × D) → Bool
  | [] => false
  | (a, _) :: r => PyData.eqv a k || memK k r
def strLt (x y : Str) : Bool := decide (x.cps.toList < y.cps.toList)
def isNo : D → Bool
  | .none => true
  | _ => false
def atom : D → Bool
  | .none => true
  | .bool _ => true
  | .int _ => true
  | .str _ => true
  | _ => false
/-- what < bears -/
def ordOk (a b : D) : Bool := PySem.W.alike a b && PyData.canLay0 a && PyData.canLay0 b && decide (PyData.depth a ≤ 60)
def cmpD : CmpO → D → D → R Bool
  | .eq, a, b => grd (flat a && flat b) (.ok (PyData.eqv a b))
  | .ne, a, b => grd (flat a && flat b) (.ok (!PyData.eqv a b))
  | .lt, .int i, .int j => .ok (decide (i < j))
  | .le, .int i, .int j => .ok (decide (i ≤ j))
  | .gt, .int i, .int j => .ok (decide (j < i))
  | .ge, .int i, .int j => .ok (decide (j ≤ i))
  | .lt, .str x, .str y => .ok (strLt x y)
  | .le, .str x, .str y => .ok (!strLt y x)
  | .gt, .str x, .str y => .ok (strLt y x)
  | .ge, .str x, .str y => .ok (!strLt x y)
  | .lt, .tuple xs, .tuple ys => grd (ordOk (.tuple xs) (.tuple ys)) (.ok (PySem.W.dataLt (.tuple xs) (.tuple ys)))
  | .le, .tuple xs, .tuple ys => grd (ordOk (.tuple xs) (.tuple ys)) (.ok (!PySem.W.dataLt (.tuple ys) (.tuple xs)))
  | .gt, .tuple xs, .tuple ys => grd (ordOk (.tuple xs) (.tuple ys)) (.ok (PySem.W.dataLt (.tuple ys) (.tuple xs)))
  | .ge, .tuple xs, .tuple ys => grd (ordOk (.tuple xs) (.tuple ys)) (.ok (!PySem.W.dataLt (.tuple xs) (.tuple ys)))
  | .lt, .list xs, .list ys => grd (ordOk (.list xs) (.list ys)) (.ok (PySem.W.dataLt (.list xs) (.list ys)))
  | .le, .list xs, .list ys => grd (ordOk (.list xs) (.list ys)) (.ok (!PySem.W.dataLt (.list ys) (.list xs)))
  | .gt, .list xs, .list ys => grd (ordOk (.list xs) (.list ys)) (.ok (PySem.W.dataLt (.list ys) (.list xs)))
  | .ge, .list xs, .list ys => grd (ordOk (.list xs) (.list ys)) (.ok (!PySem.W.dataLt (.list xs) (.list ys)))
  | .inn, a, .list xs => grd (flat a && flat (.list xs)) (.ok (xs.any fun z => PyData.eqv z a))
  | .nin, a, .list xs => grd (flat a && flat (.list xs)) (.ok (!xs.any fun z => PyData.eqv z a))
  | .inn, a, .tuple xs => grd (atom a && xs.all atom) (.ok (xs.any fun z => PyData.eqv z a))
  | .nin, a, .tuple xs => grd (atom a && xs.all atom) (.ok (!xs.any fun z => PyData.eqv z a))
  | .inn, .str a, .str b => .ok (!(Builtin.Str.occurrences b a 0 b.length 1).isEmpty)
  | .nin, .str a, .str b => .ok (!(!(Builtin.Str.occurrences b a 0 b.length 1).isEmpty))
  | .inn, a, .dict kds => (lookD kds a).bind fun o => .ok o.isSome
  | .nin, a, .dict kds => (lookD kds a).bind fun o => .ok (!o.isSome)
  | .isn, a, .none => .ok (isNo a)
  | .isnn, a, .none => .ok (!isNo a)
  | .isn, .bool a, .bool b => .ok (a == b)
  | .isnn, .bool a, .bool b => .ok (!(a == b))
  | _, _, _ => .stuck

/-- xs[i] -/
def atD (xs : List D) (i : Int) : R D := match L2.atI xs i with
  | some x => .ok x
  | none => .stuck
def idxD : D → D → R D
  | .dict kds, k => (lookD kds k).bind fun o => match o with
    | some d => .ok d
    | none => .stuck
  | .list xs, .int i => atD xs i
  | .tuple xs, .int i => atD xs i
  | .str x, .int i => grd (fitL x.length) (match L2.atI x.cps.toList i with
    | some c => .ok (.str ⟨#[c]⟩)
    | none => .stuck)
  | _, _ => .stuck
/-- a slice -/
def cutD (xs : List D) (lo hi : Option Int) : List D := (xs.drop (HT.sIx xs.length 0 lo)).take (HT.sIx xs.length xs.length hi - HT.sIx xs.length 0 lo)

/-! ### what is called by name -/
inductive Blt where
  | len | int | abs | min | max | sum | all | any | list | tuple | repr | sorted | set
  deriving DecidableEq
def intsOf : List D → R (List Int)
  | [] => .ok []
  | .int i :: r => (intsOf r).bind fun ns => .ok (i :: ns)
  | _ => .stuck
def bolsOf : List D → R (List Bool)
  | [] => .ok []
  | .bool i :: r => (bolsOf r).bind fun ns => .ok (i :: ns)
  | _ => .stuck
def leastI : Int → List Int → Int
  | m, [] => m
  | m, i :: r => leastI (if i < m then i else m) r
def mostI : Int → List Int → Int
  | m, [] => m
  | m, i :: r => mostI (if m < i then i else m) r
def leastL : List Int → R D
  | [] => .stuck
  | i :: r => .ok (.int (leastI i r))
def mostL : List Int → R D
  | [] => .stuck
  | i :: r => .ok (.int (mostI i r))
def boxD : D → Bool
  | .list _ => true
  | .dict _ => true
  | _ => false
/-- what min, max, sorted bear -/
def alkL (xs : List D) : Bool := xs.all (fun x => xs.all fun y => PySem.W.alike x y) && PyData.canLayAll0 xs && decide (PyData.depthAll xs ≤ 60) && xs.all fun x => !isNo x
def leastT : List D → R D
  | [] => .stuck
  | x :: r => grd (alkL (x :: r) && (x :: r).all fun x => !boxD x) (.ok (PySem.W.minD x r))
def mostT : List D → R D
  | [] => .stuck
  | x :: r => grd (alkL (x :: r) && (x :: r).all fun x => !boxD x) (.ok (PySem.W.maxD x r))
def minA (xs : List D) : R D := match intsOf xs with
  | .ok ns => leastL ns
  | _ => leastT xs
def maxA (xs : List D) : R D := match intsOf xs with
  | .ok ns => mostL ns
  | _ => mostT xs
def tup1 : D → Bool
  | .tuple (_ :: _) => true
  | _ => false
def noTup : D → Bool
  | .tuple _ => false
  | _ => true
/-- x among what is sorted, ahead of what is not less -/
def insD (x : D) : List D → List D
  | [] => [x]
  | y :: r => if (!PySem.W.dataLt y x) = true then x :: y :: r else y :: insD x r
def sortD : List D → List D
  | [] => []
  | x :: r => insD x (sortD r)
def sortA (xs : List D) : R D := grd (alkL xs && (xs.all tup1 || xs.all noTup) && fitL xs.length) (.ok (.list (sortD xs)))
/-- the keys -/
def keysD : D → R (List D)
  | .dict kds => (match decG keyT kds with
    | some m => .ok (m.map fun p => kT p.1)
    | none => .stuck)
  | _ => .stuck
/-- sorted(d), the keys tuples -/
def sortDT (kds : List (D × D)) : R D := match decG keyT kds with
  | some m => sortA (m.map fun p => kT p.1)
  | none => .stuck
def sumL (ns : List Int) : R D := .ok (.int ns.sum)
def allL (bs : List Bool) : R D := .ok (.bool (bs.all id))
def anyL (bs : List Bool) : R D := .ok (.bool (bs.any id))
/-- what repr bears -/
def showOk (d : D) : Bool := PyData.showable d && PyData.canLay0 d && decide (PyData.depth d ≤ 60) && decide ((PyData.shown d).length ≤ 16777216)
def bltD : Blt → List D → R D
  | .len, [.list xs] => .ok (.int xs.length)
  | .len, [.tuple xs] => .ok (.int xs.length)
  | .len, [.str x] => grd (fitL x.length) (.ok (.int x.length))
  | .int, [.int i] => .ok (.int i)
  | .int, [.bool b] => .ok (.int (if b = true then 1 else 0))
  | .abs, [.int i] => .ok (.int (if i < 0 then -i else i))
  | .min, [.int i, .int j] => .ok (.int (if j < i then j else i))
  | .max, [.int i, .int j] => .ok (.int (if i < j then j else i))
  | .list, [.list xs] => .ok (.list xs)
  | .list, [.tuple xs] => .ok (.list xs)
  | .tuple, [.list xs] => .ok (.tuple xs)
  | .tuple, [.tuple xs] => .ok (.tuple xs)
  | .sum, [.list xs] => (intsOf xs).bind sumL
  | .min, [.list xs] => minA xs
  | .max, [.list xs] => maxA xs
  | .sorted, [.list xs] => sortA xs
  | .sorted, [.dict kds] => sortDT kds
  | .all, [.list xs] => (bolsOf xs).bind allL
  | .any, [.list xs] => (bolsOf xs).bind anyL
  | .repr, [d] => grd (showOk d) (.ok (.str (PyData.shown d)))
  | _, _ => .stuck

/-! ### targets, what is walked -/
inductive T where
  | nm (i : Nat)
  | nil
  | cons (a b : T)
  | tup (n : Nat) (ts : T)
mutual
def asg : T → D → Sg → R Sg
  | .nm i, d, e => .ok (e.set i (some d))
  | .nil, .tuple [], e => .ok e
  | .cons a b, .tuple (x :: r), e => (asg a x e).bind fun e1 => asg b (.tuple r) e1
  | .tup n ts, d, e => match unk d with
    | .tuple xs => grd (xs.length == n) (asg ts (.tuple xs) e)
    | _ => .stuck
  | _, _, _ => .stuck
end
inductive ItK where
  | seq | rng1 | rng2 | enum | zip
  deriving DecidableEq
def small (i : Int) : Bool := decide (-(2 ^ 62) ≤ i) && decide (i < 2 ^ 62)
def enumL : Nat → List D → List D
  | _, [] => []
  | n, x :: r => .tuple [.int n, x] :: enumL (n + 1) r
def seqD : D → R (List D)
  | .list xs => .ok xs
  | .tuple xs => .ok xs
  | .str x => .ok (x.cps.toList.map fun c => .str ⟨#[c]⟩)
  | _ => .stuck
def itD : ItK → List D → R (List D)
  | .seq, [d] => seqD (unk d)
  | .enum, [.list xs] => .ok (enumL 0 xs)
  | .rng1, [.int n] => grd (small n) (.ok ((List.range n.toNat).map fun i : Nat => .int i))
  | .rng2, [.int a, .int b] => grd (small a && small b) (.ok ((List.range (b - a).toNat).map fun i : Nat => .int (a + i)))
  | .zip, [.list xs, .list ys] => .ok (List.zipWith (fun x y => .tuple [x, y]) xs ys)
  | _, _ => .stuck

/-! ### expressions -/
inductive E where
  | int (i : Int) | str (s : Str) | bl (b : Bool) | non
  | var (i : Nat) | bor (i : Nat) | glb (j : Nat)
  | bin (o : BinO) (a b : E) | neg (a : E)
  | cmp (o : CmpO) (a b : E) | chn (o : CmpO) (a b : E) (o2 : CmpO) (c : E)
  | and (a b : E) | or (a b : E) | one (a : E) | not (a : E) | ite (c a b : E)
  | nil | cons (a r : E)
  | tup (es : E) | lst (es : E) | lsts (a es : E) | lst1s (a b : E) | emp
  | idx (a b : E) | slc (a lo hi : E) | noE
  | call (f : Nat) (es : E) | blt (b : Blt) (es : E)
  | rep (a b : E) | dsp (js : List Nat) (a : E) (es : E) | gcd (es : E) | sidx (a b : E) | lidx (a b : E) | lens (a : E) | sset (a : E) | rev (a : E) | dg (kvs : List (Int × Str)) (a : E)
  | chn3 (o1 : CmpO) (a b : E) (o2 : CmpO) (c : E) (o3 : CmpO) (d : E)
  | lc (k : ItK) (src : E) (tg : T) (cond : E) (elt : E) (own : List Nat)
  | lc2 (k : ItK) (src : E) (tg : T) (k2 : ItK) (src2 : E) (tg2 : T) (cond : E) (elt : E) (own own2 : List Nat)
  | dc1 (k v : E)
  | dcc (k : ItK) (src : E) (tg : T) (cond : E) (kx vx : E) (own : List Nat)

/-- [f, g, ..][i], defs by number -/
def dspD (js : List Nat) : D → R Nat
  | .int i => match L2.atI js i with
    | some j => .ok j
    | none => .stuck
  | _ => .stuck
/-- [*a, b, ..] -/
def seqL : D → R (List D)
  | .list xs => .ok xs
  | .tuple xs => .ok xs
  | _ => .stuck
def unDc : D → R (List (D × D))
  | .dict kds => .ok kds
  | _ => .stuck
def repD : D → D → R D
  | .list xs, .int k => grd (decide (-(2 ^ 63) ≤ k) && decide (k < 2 ^ 63) && fitL (xs.length * k.toNat)) (.ok (.list (List.replicate k.toNat xs).flatten))
  | _, _ => .stuck
def gcdD : List D → R D
  | [.int a, .int b] => .ok (.int ((Nat.gcd a.natAbs b.natAbs : Nat) : Int))
  | _ => .stuck
def asStr : D → R Str
  | .str a => .ok a
  | _ => .stuck
def sidxD (a : Str) : D → R D
  | .str b => match Builtin.Str.occurrences a b 0 a.length 1 with
    | i :: _ => .ok (.int (i : Nat))
    | [] => .stuck
  | _ => .stuck
/-- xs.index(y) -/
def lidxD (xs : List D) (y : D) : R D := grd (flat (.list xs) && flat y) (match xs.findIdx? fun z => PyData.eqv z y with
  | some i => .ok (.int (i : Nat))
  | none => .stuck)
/-- ints, each once, ascending -/
def insI (x : Int) : List Int → List Int
  | [] => [x]
  | y :: r => if x < y then x :: y :: r else if x = y then y :: r else y :: insI x r
def ssI : List Int → List Int
  | [] => []
  | x :: r => insI x (ssI r)
/-- pairs of ints, each once, ascending -/
def ltPP (p q : Int × Int) : Bool := decide (p.1 < q.1) || (decide (p.1 = q.1) && decide (p.2 < q.2))
def insPP (x : Int × Int) : List (Int × Int) → List (Int × Int)
  | [] => [x]
  | y :: r => if ltPP x y = true then x :: y :: r else if x = y then y :: r else y :: insPP x r
def ssPP : List (Int × Int) → List (Int × Int)
  | [] => []
  | x :: r => insPP x (ssPP r)
def pairsOf : List D → R (List (Int × Int))
  | [] => .ok []
  | .tuple [.int i, .int j] :: r => (pairsOf r).bind fun ps => .ok ((i, j) :: ps)
  | _ => .stuck
def inPP (p : Int × Int) : Bool := decide (0 ≤ p.1) && decide (p.1 < 1000) && (decide (0 ≤ p.2) && decide (p.2 < 1000))
def encPP (p : Int × Int) : D := .tuple [.int p.1, .int p.2]
/-- len(set(xs)), xs ints -/
def lensD : D → R D
  | .list xs => (intsOf xs).bind fun ns => grd (decide (ns.length < 4000)) (.ok (.int ((ssI ns).length : Nat)))
  | _ => .stuck
/-- sorted(set(xs)), xs ints, or pairs of ints -/
def ssetL (xs : List D) : R D := match intsOf xs with
  | .ok ns => grd (decide (ns.length < 64)) (.ok (.list ((ssI ns).map .int)))
  | _ => (match pairsOf xs with
    | .ok ps => grd (decide (ps.length < 64) && ps.all inPP) (.ok (.list ((ssPP ps).map encPP)))
    | _ => .stuck)
def ssetD : D → R D
  | .list xs => ssetL xs
  | _ => .stuck
/-- xs[::-1] -/
def revD : D → R D
  | .list xs => .ok (.list xs.reverse)
  | _ => .stuck
/-- {k: 'v', ..}.get(d) -/
def dgD (kvs : List (Int × Str)) : D → R D
  | .int i => .ok (match kvs.find? (fun kv => kv.1 == i) with
    | some kv => .str kv.2
    | none => .none)
  | _ => .stuck
def unL (d : D) : R (List D) := match d with
  | .list l => .ok l
  | _ => .stuck
def clr (own : List Nat) (e : Sg) : Sg := own.foldl (fun e i => e.set i none) e
def getS (e : Sg) (i : Nat) : R D := match e[i]? with
  | some (some d) => .ok d
  | _ => .stuck
def intO : D → R (Option Int)
  | .int i => .ok (some i)
  | _ => .stuck
def E.isNo : E → Bool
  | .noE => true
  | _ => false
def sliceD (d : D) (lo hi : Option Int) : R D := match d with
  | .list xs => .ok (.list (cutD xs lo hi))
  | .tuple xs => .ok (.tuple (cutD xs lo hi))
  | _ => .stuck
/-- [elt for tg in xs if cond] -/
def lcGo (f : D → R (List D)) : List D → R (List D)
  | [] => .ok []
  | x :: r => (f x).bind fun ys => (lcGo f r).bind fun zs => .ok (ys ++ zs)

/-- {k: v for tg in xs if cond}, the keys tuples -/
def keyB (a b : D) : R (Option (List L2.Key × D)) := match keyT a with
  | some k => .ok (some (k, b))
  | none => .stuck
def putO (m : List (List L2.Key × D)) : Option (List L2.Key × D) → List (List L2.Key × D)
  | some (k, d) => putG m k d
  | none => m
def dcGo (f : D → R (Option (List L2.Key × D))) : List D → List (List L2.Key × D) → R (List (List L2.Key × D))
  | [], m => .ok m
  | x :: r, m => (f x).bind fun o => dcGo f r (putO m o)
/-- {k: v} -/
def dc1D (a b : D) : R D := match keyT a with
  | some k => .ok (.dict (encT [(k, b)]))
  | none => .stuck
section
variable (cs : List D) (cal : Nat → List D → R D)
def evE : E → Sg → R D
  | .int i, _ => .ok (.int i)
  | .str s, _ => .ok (.str s)
  | .bl b, _ => .ok (.bool b)
  | .non, _ => .ok .none
  | .noE, _ => .stuck
  | .var i, e => getS e i
  | .bor i, e => getS e i
  | .glb j, _ => match cs[j]? with
    | some d => .ok d
    | none => .stuck
  | .bin o a b, e => (evE a e).bind fun x => (evE b e).bind fun y => binD o (unk x) (unk y)
  | .neg a, e => (evE a e).bind fun x => match x with
    | .int i => .ok (.int (-i))
    | _ => .stuck
  | .cmp o a b, e => (evE a e).bind fun x => (evE b e).bind fun y => (cmpD o x (unk y)).bind fun t => .ok (.bool t)
  | .chn o a b o2 c, e => (evE a e).bind fun x => (evE b e).bind fun y => (cmpD o x (unk y)).bind fun t =>
      if t = true then (evE c e).bind fun z => (cmpD o2 y (unk z)).bind fun t2 => .ok (.bool t2) else .ok (.bool false)
  | .and a b, e => (evE a e).bind fun x => (truthy x).bind fun t => if t = true then evE b e else .ok x
  | .or a b, e => (evE a e).bind fun x => (truthy x).bind fun t => if t = true then .ok x else evE b e
  | .one a, e => evE a e
  | .not a, e => (evE a e).bind fun x => (truthy x).bind fun t => .ok (.bool (!t))
  | .ite c a b, e => (evE c e).bind fun x => (truthy x).bind fun t => if t = true then evE a e else evE b e
  | .nil, _ => .ok (.list [])
  | .cons a r, e => (evE a e).bind fun x => ((evE r e).bind unL).bind fun xs => .ok (.list (x :: xs))
  | .tup es, e => ((evE es e).bind unL).bind fun xs => grd (fitL xs.length) (.ok (.tuple xs))
  | .lst es, e => ((evE es e).bind unL).bind fun xs => grd (fitL xs.length) (.ok (.list xs))
  | .lsts a es, e => (evE a e).bind fun x => (seqL (unk x)).bind fun xs => ((evE es e).bind unL).bind fun ys => grd (fitL (xs.length + ys.length)) (.ok (.list (xs ++ ys)))
  | .lst1s a b, e => (evE a e).bind fun x => (evE b e).bind fun y => (seqL (unk y)).bind fun ys => grd (fitL (ys.length + 1)) (.ok (.list (x :: ys)))
  | .lens a, e => (evE a e).bind lensD
  | .sset a, e => (evE a e).bind ssetD
  | .rev a, e => (evE a e).bind revD
  | .emp, _ => .ok (.dict [])
  | .idx a b, e => (evE a e).bind fun x => (evE b e).bind fun y => idxD (unk x) y
  | .slc a lo hi, e => (evE a e).bind fun x => (if lo.isNo = true then .ok none else (evE lo e).bind intO).bind fun l => (if hi.isNo = true then .ok none else (evE hi e).bind intO).bind fun h => sliceD x l h
  | .call f es, e => ((evE es e).bind unL).bind fun xs => cal f xs
  | .blt b es, e => ((evE es e).bind unL).bind fun xs => bltD b xs
  | .dsp js a es, e => (evE a e).bind fun i => (dspD js i).bind fun j => ((evE es e).bind unL).bind fun xs => cal j xs
  | .rep a b, e => (evE a e).bind fun x => (evE b e).bind fun y => repD x y
  | .gcd es, e => ((evE es e).bind unL).bind gcdD
  | .dg kvs a, e => (evE a e).bind (dgD kvs)
  | .sidx a b, e => (evE a e).bind fun x => (asStr x).bind fun z => (evE b e).bind fun y => sidxD z y
  | .lidx a b, e => (evE a e).bind fun x => (unL x).bind fun xs => (evE b e).bind fun y => lidxD xs y
  | .chn3 o1 a b o2 c o3 d, e => (evE a e).bind fun x => (evE b e).bind fun y => (cmpD o1 x (unk y)).bind fun t =>
      if t = true then (evE c e).bind fun z => (cmpD o2 y (unk z)).bind fun t2 => if t2 = true then (evE d e).bind fun w => (cmpD o3 z (unk w)).bind fun t3 => .ok (.bool t3) else .ok (.bool false) else .ok (.bool false)
  | .lc k src tg cond elt own, e => (((evE src e).bind unL).bind (itD k)).bind fun its =>
      (lcGo (fun x => nox ((asg tg x (clr own e)).bind fun e1 => (evE cond e1).bind fun c => (truthy c).bind fun t => if t = true then (evE elt e1).bind fun y => .ok [y] else .ok [])) its).bind fun ys => grd (fitL ys.length) (.ok (.list ys))
  | .lc2 k src tg k2 src2 tg2 cond elt own own2, e => (((evE src e).bind unL).bind (itD k)).bind fun its =>
      (lcGo (fun x => nox ((asg tg x (clr own e)).bind fun e1 => (((evE src2 e1).bind unL).bind (itD k2)).bind fun its2 =>
        lcGo (fun x2 => (asg tg2 x2 (clr own2 e1)).bind fun e2 => (evE cond e2).bind fun c => (truthy c).bind fun t => if t = true then (evE elt e2).bind fun y => .ok [y] else .ok []) its2)) its).bind fun ys => grd (fitL ys.length) (.ok (.list ys))
  | .dc1 k v, e => nox ((evE k e).bind fun a => (evE v e).bind fun b => dc1D a b)
  | .dcc k src tg cond kx vx own, e => (((evE src e).bind unL).bind (itD k)).bind fun its =>
      (dcGo (fun x => nox ((asg tg x (clr own e)).bind fun e1 => (evE cond e1).bind fun c => (truthy c).bind fun t => if t = true then (evE kx e1).bind fun a => (evE vx e1).bind fun b => keyB a b else .ok none)) its []).bind fun m => grd (fitL (m.length + 1)) (.ok (.dict (encT m)))
end

/-! ### a list of lists that grow in place, while a loop of its own runs -/
def T.slots : T → List Nat
  | .nm i => [i]
  | .nil => []
  | .cons a b => a.slots ++ b.slots
  | .tup _ ts => ts.slots
inductive NB where
  | ext (ix x : E)
  | loop (k : ItK) (src : E) (tg : T) (body : NB)
def NB.slots : NB → List Nat
  | .ext _ _ => []
  | .loop _ _ tg b => tg.slots ++ b.slots
def nestD (L : List (List D)) : D := .list (L.map .list)
def isI : D → Bool
  | .int _ => true
  | _ => false
def nGo (f : D → List (List D) → R (List (List D))) : List D → List (List D) → R (List (List D))
  | [], L => .ok L
  | x :: r, L => (f x L).bind fun L1 => nGo f r L1
/-- x[q].extend(ys), ys ints -/
def extN (L : List (List D)) (q : D) (ys : List D) : R (List (List D)) := match q with
  | .int j => (match L[j.toNat]? with
    | some l => grd (decide (0 ≤ j) && fitL (l.length + ys.length) && ys.all isI) (.ok (L.set j.toNat (l ++ ys)))
    | none => .stuck)
  | _ => .stuck
section
variable (cs : List D) (cal : Nat → List D → R D)
def evN (i : Nat) : NB → Sg → List (List D) → R (List (List D))
  | .ext ix x, e, L => (evE cs cal ix (e.set i (some (nestD L)))).bind fun q => ((evE cs cal x (e.set i (some (nestD L)))).bind unL).bind fun ys => extN L q ys
  | .loop k src tg b, e, L => (((evE cs cal src (clr (NB.slots (.loop k src tg b)) e)).bind unL).bind (itD k)).bind fun its =>
      nGo (fun x L => (asg tg x (clr (NB.slots (.loop k src tg b)) e)).bind fun e1 => evN i b e1 L) its L
/-- x_i = [[] for _ in src], then a loop -/
def evNest (i : Nat) (k : ItK) (src : E) (nb : NB) (e : Sg) : R (List (List D)) :=
  nox ((((evE cs cal src e).bind unL).bind (itD k)).bind fun its => grd (fitL its.length && decide (i < e.length)) (evN cs cal i nb (e.set i none) (its.map fun _ => [])))
end

/-! ### statements -/
inductive S where
  | skip | seq (a b : S)
  | set (tg : T) (x : E)
  | par (i j : Nat) (es : E)
  | ite (c : E) (a b : S)
  | for_ (k : ItK) (src : E) (tg : T) (body : S)
  | while_ (c : E) (body : S)
  | ret (x : E)
  | drop (x : E)
  | app (i : Nat) (x : E) | ext (i : Nat) (x : E)
  | stop
  | raise (c : Str) (x : E)
  | put (i : Nat) (k v : E)
  | puti (i : Nat) (k v : E)
  | tryN (i : Nat) (cls : List Str) (ws : List (Str × Str)) (body : S)
  | nest (i : Nat) (k : ItK) (src : E) (j : Nat) (own : List Nat) (nb : NB) (rest : S)
  | forK (i : Nat) (tg : T) (body : S)

/-- how a block ends -/
inductive O where
  | nx (e : Sg) | rt (d : D) | ex (c : Str) (a : D) (e : Sg) | stk
/-- the words whose class is c, of (word, class) -/
def wbs (cn : Str) (ws : List (Str × Str)) : List (Str × Bool) := ws.map fun p => (p.1, p.2 == cn)
def picked (ws : List (Str × Bool)) : List Str := (ws.filter (·.2)).map (·.1)
/-- an error of one of the classes, told by its word and its at -/
def told (cls : List Str) (ws : List (Str × Str)) (c : Str) (a : D) : O := if cls.contains c = true then .rt (.tuple [.str (Txt.join " " (picked (wbs c ws))), a]) else .stk
/-- no error comes out -/
def O.calm : O → O
  | .ex _ _ _ => .stk
  | o => o
def named (cls : List Str) (ws : List (Str × Str)) (o : O) : O := match o with
  | .ex c a _ => told cls ws c a
  | o => o
@[simp] theorem named_nx (cls : List Str) (ws : List (Str × Str)) (e : Sg) : named cls ws (.nx e) = .nx e := (rfl)
@[simp] theorem named_rt (cls : List Str) (ws : List (Str × Str)) (d : D) : named cls ws (.rt d) = .rt d := (rfl)
@[simp] theorem named_ex (cls : List Str) (ws : List (Str × Str)) (c : Str) (a : D) (e : Sg) : named cls ws (.ex c a e) = told cls ws c a := (rfl)
def O.seq (o : O) (f : Sg → O) : O := match o with
  | .nx e => f e
  | o => o
@[simp] theorem O.seq_nx (e : Sg) (f : Sg → O) : (O.nx e).seq f = f e := (rfl)
@[simp] theorem O.seq_rt (d : D) (f : Sg → O) : (O.rt d).seq f = .rt d := (rfl)
@[simp] theorem O.seq_ex (c : Str) (a : D) (e : Sg) (f : Sg → O) : (O.ex c a e).seq f = .ex c a e := (rfl)
@[simp] theorem O.seq_stk (f : Sg → O) : O.stk.seq f = .stk := (rfl)
/-- an expression's answer in a statement at e -/
def R.go {α : Type} (r : R α) (e : Sg) (f : α → O) : O := match r with
  | .ok a => f a
  | .exc c a => .ex c a e
  | .stuck => .stk
@[simp] theorem R.go_ok {α : Type} (a : α) (e : Sg) (f : α → O) : (R.ok a).go e f = f a := (rfl)
@[simp] theorem R.go_exc {α : Type} (c : Str) (a : D) (e : Sg) (f : α → O) : (R.exc c a : R α).go e f = .ex c a e := (rfl)
@[simp] theorem R.go_stuck {α : Type} (e : Sg) (f : α → O) : (R.stuck : R α).go e f = .stk := (rfl)
/-- what was unset at first is unset again -/
def mask : Sg → Sg → Sg
  | _, [] => []
  | [], s => s
  | none :: r, _ :: s => none :: mask r s
  | some _ :: r, x :: s => x :: mask r s
def forGo (f : D → Sg → O) : List D → Sg → O
  | [], e => .nx e
  | x :: r, e => (f x e).seq fun e1 => forGo f r (mask e e1)
def whileGo (c : Sg → R Bool) (f : Sg → O) : Nat → Sg → O
  | 0, _ => .stk
  | n + 1, e => (c e).go e fun t => if t = true then (f e).seq fun e1 => whileGo c f n (mask e e1) else .nx e

section
variable (cs : List D) (cal : Nat → List D → R D) (W : Nat)
def evS : S → Sg → O
  | .skip, e => .nx e
  | .seq a b, e => (evS a e).seq fun e1 => evS b e1
  | .set tg x, e => (evE cs cal x e).go e fun d => (asg tg d e).go e fun e1 => .nx e1
  | .par i j es, e => ((evE cs cal es e).bind unL).go e fun l => match l with
    | [x, y] => .nx ((e.set i (some x)).set j (some y))
    | _ => .stk
  | .ite c a b, e => (evE cs cal c e).go e fun x => (truthy x).go e fun t => if t = true then evS a e else evS b e
  | .for_ k src tg body, e => (((evE cs cal src e).bind unL).bind (itD k)).go e fun its => forGo (fun x e => (asg tg x e).go e fun e1 => evS body e1) its e
  | .while_ c body, e => whileGo (fun e => (evE cs cal c e).bind truthy) (fun e => evS body e) W e
  | .ret x, e => (evE cs cal x e).go e fun d => .rt d
  | .drop x, e => (evE cs cal x e).go e fun _ => .nx e
  | .app i x, e => ((getS e i).bind unL).go e fun xs => (evE cs cal x e).go e fun d => (grd (fitL (xs.length + 1)) (.ok (e.set i (some (.list (xs ++ [d]))))) : R Sg).go e .nx
  | .ext i x, e => ((getS e i).bind unL).go e fun xs => ((evE cs cal x e).bind unL).go e fun ys => (grd (fitL (xs.length + ys.length)) (.ok (e.set i (some (.list (xs ++ ys))))) : R Sg).go e .nx
  | .stop, _ => .stk
  | .put i k v, e => ((getS e i).bind unDc).go e fun kds => (evE cs cal v e).go e fun x => (evE cs cal k e).go e fun kk => (putD kds kk x).go e fun d => .nx (e.set i (some d))
  | .puti i k v, e => ((getS e i).bind unL).go e fun xs => (evE cs cal v e).go e fun x => (evE cs cal k e).go e fun kk => (putI xs kk x).go e fun d => .nx (e.set i (some d))
  | .raise c x, e => (evE cs cal x e).go e fun d => .ex c d e
  | .tryN _ cls ws body, e => named cls ws (evS body e)
  | .nest i k src _ _ nb rest, e => (evNest cs cal i k src nb e).go e fun L => evS rest ((clr nb.slots (e.set i none)).set i (some (nestD L)))
  | .forK i tg body, e => (((getS e i).bind keysD).go e fun _ => (((getS e i).bind keysD).go e fun l => forGo (fun x e => (asg tg x e).go e fun e1 => evS body e1) l e).calm)
end

/-! ### defs -/
structure Fn where
  name : Str
  pars : Nat
  slots : List Str
  body : S
  own : Bool
def O.end_ : O → R D
  | .nx _ => .ok .none
  | .rt d => .ok d
  | .ex c a _ => .exc c a
  | .stk => .stuck
def runF (cs : List D) (W : Nat) (cal : Nat → List D → R D) (f : Fn) (args : List D) : R D :=
  grd (args.length == f.pars) (evS cs cal W f.body (args.map some ++ List.replicate (f.slots.length - f.pars) none)).end_
def callN (fs : List Fn) (cs : List D) (W : Nat) : Nat → Nat → List D → R D
  | 0, _, _ => .stuck
  | k + 1, j, args => match fs[j]? with
    | some f => runF cs W (callN fs cs W k) f args
    | none => .stuck
end Mt
/-! Part A2: ints and pairs, each once, ascending (plain). -/
namespace Mt
open PySem
/-! ### each once, ascending -/
theorem insI_ok (x : Int) : ∀ l : List Int, l.Pairwise (· < ·) → (insI x l).Pairwise (· < ·) ∧ ∀ z, z ∈ insI x l ↔ z = x ∨ z ∈ l
  | [], _ => ⟨by simp [insI], fun z => by simp [insI]⟩
  | y :: r, h => by
    obtain ⟨h1, h2⟩ := List.pairwise_cons.mp h
    unfold insI
    by_cases a : x < y
    · rw [if_pos a]
      refine ⟨List.pairwise_cons.mpr ⟨fun z hz => ?_, h⟩, fun z => by simp⟩
      rcases List.mem_cons.mp hz with e | e
      · omega
      · have := h1 z e; omega
    · rw [if_neg a]
      by_cases b : x = y
      · rw [if_pos b]
        exact ⟨h, fun z => by rw [b]; simp⟩
      · rw [if_neg b]
        obtain ⟨k1, k2⟩ := insI_ok x r h2
        refine ⟨List.pairwise_cons.mpr ⟨fun z hz => ?_, k1⟩, fun z => ?_⟩
        · rcases (k2 z).mp hz with e | e
          · omega
          · exact h1 z e
        · rw [List.mem_cons, k2, List.mem_cons]
          constructor
          · rintro (e | e | e)
            · exact .inr (.inl e)
            · exact .inl e
            · exact .inr (.inr e)
          · rintro (e | e | e)
            · exact .inr (.inl e)
            · exact .inl e
            · exact .inr (.inr e)
theorem ssI_ok : ∀ l : List Int, (ssI l).Pairwise (· < ·) ∧ ∀ z, z ∈ ssI l ↔ z ∈ l
  | [] => ⟨.nil, fun z => Iff.rfl⟩
  | x :: l => by
    obtain ⟨h1, h2⟩ := ssI_ok l
    obtain ⟨k1, k2⟩ := insI_ok x (ssI l) h1
    refine ⟨k1, fun z => ?_⟩
    show z ∈ insI x (ssI l) ↔ _
    rw [k2, h2, List.mem_cons]
theorem asc_uniq : ∀ {l m : List Int}, l.Pairwise (· < ·) → m.Pairwise (· < ·) → (∀ z, z ∈ l ↔ z ∈ m) → l = m
  | [], [], _, _, _ => rfl
  | [], y :: m, _, _, h => nomatch (h y).mpr (by simp)
  | x :: l, [], _, _, h => nomatch (h x).mp (by simp)
  | x :: l, y :: m, hl, hm, h => by
    obtain ⟨a1, a2⟩ := List.pairwise_cons.mp hl
    obtain ⟨b1, b2⟩ := List.pairwise_cons.mp hm
    have e : x = y := by
      rcases List.mem_cons.mp ((h x).mp (by simp)) with e | e
      · exact e
      · rcases List.mem_cons.mp ((h y).mpr (by simp)) with f | f
        · exact f.symm
        · have := a1 y f; have := b1 x e; omega
    subst e
    rw [asc_uniq a2 b2 fun z => ?_]
    have hz := h z
    rw [List.mem_cons, List.mem_cons] at hz
    constructor
    · intro k
      rcases hz.mp (.inr k) with f | f
      · have := a1 z k; omega
      · exact f
    · intro k
      rcases hz.mpr (.inr k) with f | f
      · have := b1 z k; omega
      · exact f
theorem ltPP_iff {p q : Int × Int} : ltPP p q = true ↔ p.1 < q.1 ∨ (p.1 = q.1 ∧ p.2 < q.2) := by unfold ltPP; simp
theorem insPP_ok (x : Int × Int) : ∀ l : List (Int × Int), l.Pairwise (fun p q => ltPP p q = true) → (insPP x l).Pairwise (fun p q => ltPP p q = true) ∧ ∀ z, z ∈ insPP x l ↔ z = x ∨ z ∈ l
  | [], _ => ⟨by simp [insPP], fun z => by simp [insPP]⟩
  | y :: r, h => by
    obtain ⟨h1, h2⟩ := List.pairwise_cons.mp h
    unfold insPP
    by_cases a : ltPP x y = true
    · rw [if_pos a]
      refine ⟨List.pairwise_cons.mpr ⟨fun z hz => ?_, h⟩, fun z => by simp⟩
      rcases List.mem_cons.mp hz with e | e
      · rw [e]; exact a
      · have := ltPP_iff.mp (h1 z e); have := ltPP_iff.mp a; exact ltPP_iff.mpr (by omega)
    · rw [if_neg a]
      by_cases b : x = y
      · rw [if_pos b]
        exact ⟨h, fun z => by rw [b]; simp⟩
      · rw [if_neg b]
        obtain ⟨k1, k2⟩ := insPP_ok x r h2
        have c : ltPP y x = true := ltPP_iff.mpr (by
          have : ¬ (x.1 < y.1 ∨ (x.1 = y.1 ∧ x.2 < y.2)) := fun z => a (ltPP_iff.mpr z)
          have : ¬ (x.1 = y.1 ∧ x.2 = y.2) := fun z => b (Prod.ext z.1 z.2)
          omega)
        refine ⟨List.pairwise_cons.mpr ⟨fun z hz => ?_, k1⟩, fun z => ?_⟩
        · rcases (k2 z).mp hz with e | e
          · rw [e]; exact c
          · exact h1 z e
        · rw [List.mem_cons, k2, List.mem_cons]
          constructor
          · rintro (e | e | e)
            · exact .inr (.inl e)
            · exact .inl e
            · exact .inr (.inr e)
          · rintro (e | e | e)
            · exact .inr (.inl e)
            · exact .inl e
            · exact .inr (.inr e)
theorem ssPP_ok : ∀ l : List (Int × Int), (ssPP l).Pairwise (fun p q => ltPP p q = true) ∧ ∀ z, z ∈ ssPP l ↔ z ∈ l
  | [] => ⟨.nil, fun z => Iff.rfl⟩
  | x :: l => by
    obtain ⟨h1, h2⟩ := ssPP_ok l
    obtain ⟨k1, k2⟩ := insPP_ok x (ssPP l) h1
    refine ⟨k1, fun z => ?_⟩
    show z ∈ insPP x (ssPP l) ↔ _
    rw [k2, h2, List.mem_cons]
theorem ascPP_uniq : ∀ {l m : List (Int × Int)}, l.Pairwise (fun p q => ltPP p q = true) → m.Pairwise (fun p q => ltPP p q = true) → (∀ z, z ∈ l ↔ z ∈ m) → l = m
  | [], [], _, _, _ => rfl
  | [], y :: m, _, _, h => nomatch (h y).mpr (by simp)
  | x :: l, [], _, _, h => nomatch (h x).mp (by simp)
  | x :: l, y :: m, hl, hm, h => by
    obtain ⟨a1, a2⟩ := List.pairwise_cons.mp hl
    obtain ⟨b1, b2⟩ := List.pairwise_cons.mp hm
    have e : x = y := by
      rcases List.mem_cons.mp ((h x).mp (by simp)) with e | e
      · exact e
      · rcases List.mem_cons.mp ((h y).mpr (by simp)) with f | f
        · exact f.symm
        · have := ltPP_iff.mp (a1 y f); have := ltPP_iff.mp (b1 x e); omega
    subst e
    rw [ascPP_uniq a2 b2 fun z => ?_]
    have hz := h z
    rw [List.mem_cons, List.mem_cons] at hz
    constructor
    · intro k
      rcases hz.mp (.inr k) with f | f
      · have := ltPP_iff.mp (a1 z k); rw [f] at this; omega
      · exact f
    · intro k
      rcases hz.mpr (.inr k) with f | f
      · have := ltPP_iff.mp (b1 z k); rw [f] at this; omega
      · exact f
theorem len_same {α : Type} [DecidableEq α] : ∀ {l m : List α}, l.Nodup → (∀ x ∈ l, x ∈ m) → l.length ≤ m.length
  | [], _, _, _ => Nat.zero_le _
  | x :: l, m, h, hs => by
    obtain ⟨h1, h2⟩ := List.nodup_cons.mp h
    obtain ⟨a, b, rfl⟩ := List.append_of_mem (hs x (by simp))
    have := len_same (l := l) (m := a ++ b) h2 fun y hy => by
      have hne : y ≠ x := fun z => h1 (z ▸ hy)
      have := hs y (by simp [hy])
      simp at this ⊢
      rcases this with z | z | z
      · exact .inl z
      · exact absurd z hne
      · exact .inr z
    simp at this ⊢
    omega
end Mt
/-! Part B: how data stands in the heap; frozen and owned. -/
namespace Mt
open PySem PySem.Spec PyProof.Rows L2


/-! ### data that stands in the heap G -/
mutual
inductive Rp (K : PySem.W.Frag) (H : Hp) : V → D → Prop
  | non : Rp K H .non .none
  | bl (b : Bool) : Rp K H (.bl b) (.bool b)
  | int (i : Int) : Rp K H (.int i) (.int i)
  | str (x : Str) : Rp K H (.str x) (.str x)
  | lst {a : Addr} {xs : List V} {ds : List D} : SqL K H a xs → RpL K H xs ds → Rp K H (.ref a) (.list ds)
  | tup {a : Addr} {xs : List V} {ds : List D} : H a = some (.tup xs) → RpL K H xs ds → Rp K H (.ref a) (.tuple ds)
  | ktp {a : Addr} {xs : List V} {ds : List D} : SqT K H a xs → RpL K H xs ds → Rp K H (.ref a) (kt ds)
  | dcK {a : Addr} {ks : List Key} {vs : List V} {ds : List D} : (ks ≠ [] ∧ ks.length = vs.length) → Rd H a (.dK (ks.zip vs)) → RpL K H vs ds → Rp K H (.ref a) (.dict ((ks.map kD).zip ds))
  | dcT {a : Addr} {ks : List (List Key)} {vs : List V} {ds : List D} : ks.length = vs.length → Rd H a (.dT (ks.zip vs)) → RpL K H vs ds → Rp K H (.ref a) (.dict ((ks.map kT).zip ds))
inductive RpL (K : PySem.W.Frag) (H : Hp) : List V → List D → Prop
  | nil : RpL K H [] []
  | cons {v : V} {vs : List V} {d : D} {ds : List D} : Rp K H v d → RpL K H vs ds → RpL K H (v :: vs) (d :: ds)
end
section
variable {K : PySem.W.Frag} {G H H' : Hp}
theorem Same.rd {a : Addr} {o : HO} (s : Same H H') (h : Rd H a o) : Rd H' a o := by
  rcases h with h | ⟨o', h⟩
  · exact .inl (s _ _ h)
  · exact .inr ⟨o', s _ _ h⟩
theorem Same.sqL {a : Addr} {xs : List V} (s : Same H H') (h : SqL K H a xs) : SqL K H' a xs := by
  rcases h with h | h
  · exact .inl (Same.rd s h)
  · exact .inr h
theorem Same.sqT {a : Addr} {xs : List V} (s : Same H H') (h : SqT K H a xs) : SqT K H' a xs := by
  rcases h with h | h
  · exact .inl (Same.rd s h)
  · exact .inr h
mutual
theorem Rp.mono (s : Same H H') : ∀ {v : V} {d : D}, Rp K H v d → Rp K H' v d
  | _, _, .non => .non
  | _, _, .bl b => .bl b
  | _, _, .int i => .int i
  | _, _, .str x => .str x
  | _, _, .lst h r => .lst (Same.sqL s h) (RpL.mono s r)
  | _, _, .tup h r => .tup (s _ _ h) (RpL.mono s r)
  | _, _, .ktp h r => .ktp (Same.sqT s h) (RpL.mono s r)
  | _, _, .dcK l h r => .dcK l (Same.rd s h) (RpL.mono s r)
  | _, _, .dcT l h r => .dcT l (Same.rd s h) (RpL.mono s r)
theorem RpL.mono (s : Same H H') : ∀ {vs : List V} {ds : List D}, RpL K H vs ds → RpL K H' vs ds
  | _, _, .nil => .nil
  | _, _, .cons h r => .cons (Rp.mono s h) (RpL.mono s r)
end
theorem RpL.length : ∀ {vs : List V} {ds : List D}, RpL K H vs ds → vs.length = ds.length
  | _, _, .nil => rfl
  | _, _, .cons _ r => congrArg Nat.succ (RpL.length r)
theorem RpL.append : ∀ {vs us : List V} {ds es : List D}, RpL K H vs ds → RpL K H us es → RpL K H (vs ++ us) (ds ++ es)
  | _, _, _, _, .nil, q => q
  | _, _, _, _, .cons h r, q => .cons h (RpL.append r q)
theorem RpL.get : ∀ {vs : List V} {ds : List D} {i : Nat} {v : V}, RpL K H vs ds → vs[i]? = some v → ∃ d, ds[i]? = some d ∧ Rp K H v d
  | _, _, _, _, .nil, e => by simp at e
  | _, _, 0, _, .cons h _, e => by
    simp at e
    subst e
    exact ⟨_, rfl, h⟩
  | _, _, i + 1, v, .cons _ r, e => by
    obtain ⟨d, h1, h2⟩ := RpL.get (i := i) (v := v) r (by simpa using e)
    exact ⟨d, by simpa using h1, h2⟩
theorem RpL.getD : ∀ {vs : List V} {ds : List D} {i : Nat} {d : D}, RpL K H vs ds → ds[i]? = some d → ∃ v, vs[i]? = some v ∧ Rp K H v d
  | _, _, _, _, .nil, e => by simp at e
  | _, _, 0, _, .cons h _, e => by
    simp at e
    subst e
    exact ⟨_, rfl, h⟩
  | _, _, i + 1, d, .cons _ r, e => by
    obtain ⟨v, h1, h2⟩ := RpL.getD (i := i) (d := d) r (by simpa using e)
    exact ⟨v, by simpa using h1, h2⟩
theorem RpL.rep {vs : List V} {ds : List D} (h : RpL K H vs ds) : ∀ k : Nat, RpL K H (List.replicate k vs).flatten (List.replicate k ds).flatten
  | 0 => .nil
  | k + 1 => by
    rw [List.replicate_succ, List.replicate_succ, List.flatten_cons, List.flatten_cons]
    exact h.append (RpL.rep h k)
theorem RpL.take : ∀ {vs : List V} {ds : List D} (n : Nat), RpL K H vs ds → RpL K H (vs.take n) (ds.take n)
  | _, _, 0, _ => .nil
  | _, _, _ + 1, .nil => .nil
  | _, _, n + 1, .cons h r => .cons h (RpL.take n r)
theorem RpL.drop : ∀ {vs : List V} {ds : List D} (n : Nat), RpL K H vs ds → RpL K H (vs.drop n) (ds.drop n)
  | _, _, 0, r => r
  | _, _, _ + 1, .nil => .nil
  | _, _, n + 1, .cons _ r => RpL.drop n r
end

/-! ### what one owns: a container whose items are frozen -/
def OwnAt (K : PySem.W.Frag) (G H : Hp) (p : Addr) : D → Prop
  | .list ds => ∃ vs, H p = some (.lst vs) ∧ RpL K G vs ds
  | .dict kds => (∃ (ks : List Key) (vs : List V) (ds : List D), kds = (ks.map kD).zip ds ∧ (ks ≠ [] ∧ ks.length = vs.length) ∧ H p = some (.dK (ks.zip vs)) ∧ RpL K G vs ds) ∨
      ∃ (ks : List (List Key)) (vs : List V) (ds : List D), kds = (ks.map kT).zip ds ∧ ks.length = vs.length ∧ H p = some (.dT (ks.zip vs)) ∧ RpL K G vs ds
  | _ => False
def box : D → Bool
  | .list _ => true
  | .dict _ => true
  | _ => false
/-- an owned value -/
def Own (K : PySem.W.Frag) (B G H : Hp) (v : V) (d : D) : Prop :=
  if box d = true then ∃ p, v = .ref p ∧ G p = none ∧ B p = none ∧ OwnAt K G H p d else Rp K G v d
section
variable {K : PySem.W.Frag} {B G G' H H' : Hp}
theorem OwnAt.mono {p : Addr} {d : D} (g : Same G G') (e : ∀ o, H p = some o → H' p = some o) (h : OwnAt K G H p d) : OwnAt K G' H' p d := by
  cases d with
  | list ds =>
    obtain ⟨vs, h1, h2⟩ := h
    exact ⟨vs, e _ h1, h2.mono g⟩
  | dict kds =>
    rcases h with ⟨ks, vs, ds, h0, hl, h1, h2⟩ | ⟨ks, vs, ds, h0, hl, h1, h2⟩
    · exact .inl ⟨ks, vs, ds, h0, hl, e _ h1, h2.mono g⟩
    · exact .inr ⟨ks, vs, ds, h0, hl, e _ h1, h2.mono g⟩
  | _ => exact h.elim
theorem OwnAt.rp {p : Addr} {d : D} (g : Same G H) (h : OwnAt K G H p d) : Rp K H (.ref p) d := by
  cases d with
  | list ds =>
    obtain ⟨vs, h1, h2⟩ := h
    exact .lst (.of h1) (h2.mono g)
  | dict kds =>
    rcases h with ⟨ks, vs, ds, rfl, hl, h1, h2⟩ | ⟨ks, vs, ds, rfl, hl, h1, h2⟩
    · exact .dcK hl (.inl h1) (h2.mono g)
    · exact .dcT hl (.inl h1) (h2.mono g)
  | _ => exact h.elim
theorem OwnAt.there {p : Addr} {d : D} (h : OwnAt K G H p d) : ∃ o, H p = some o := by
  cases d with
  | list ds =>
    obtain ⟨vs, h1, h2⟩ := h
    exact ⟨_, h1⟩
  | dict kds =>
    rcases h with ⟨ks, vs, ds, h0, hl, h1, h2⟩ | ⟨ks, vs, ds, h0, hl, h1, h2⟩
    · exact ⟨_, h1⟩
    · exact ⟨_, h1⟩
  | _ => exact h.elim
/-- frozen at p -/
theorem OwnAt.frz {p : Addr} {d : D} (gh : Same G H) (gp : G p = none) (h : OwnAt K G H p d) : ∃ o, H p = some o ∧ Rp K (upd G p o) (.ref p) d := by
  have sm : ∀ o, Same G (upd G p o) := fun o b x e => by rw [upd_ne (ne_of_none e gp)]; exact e
  cases d with
  | list ds =>
    obtain ⟨vs, h1, h2⟩ := h
    exact ⟨_, h1, .lst (.of upd_same) (h2.mono (sm _))⟩
  | dict kds =>
    rcases h with ⟨ks, vs, ds, rfl, hl, h1, h2⟩ | ⟨ks, vs, ds, rfl, hl, h1, h2⟩
    · exact ⟨_, h1, .dcK hl (.inl upd_same) (h2.mono (sm _))⟩
    · exact ⟨_, h1, .dcT hl (.inl upd_same) (h2.mono (sm _))⟩
  | _ => exact h.elim
theorem Own.rp {v : V} {d : D} (g : Same G H) (h : Own K B G H v d) : Rp K H v d := by
  unfold Own at h
  split at h
  · obtain ⟨p, rfl, _, _, h⟩ := h
    exact h.rp g
  · exact h.mono g
end

/-- what may be owned -/
def hardO : HO → Prop
  | .lst _ => True
  | .dK _ => True
  | .dT _ => True
  | _ => False
/-- an object that may change -/
def Hard (B : Hp) (p : Addr) : Prop := ∃ o, B p = some o ∧ hardO o
theorem Hard.ne {B : Hp} {p q : Addr} (h : Hard B p) (n : B q = none) : p ≠ q := fun z => by
  obtain ⟨o, ho, _⟩ := h
  rw [z, n] at ho
  cases ho
theorem Hard.mono {B B' : Hp} {p : Addr} (s : Same B B') (h : Hard B p) : Hard B' p := by
  obtain ⟨o, ho, k⟩ := h
  exact ⟨o, s _ _ ho, k⟩
theorem Hard.off {B : Hp} {p q : Addr} {o : HO} (h : Hard (upd B q o) p) (n : p ≠ q) : Hard B p := by
  obtain ⟨o', ho, k⟩ := h
  rw [upd_ne n] at ho
  exact ⟨o', ho, k⟩
theorem OwnAt.hard {K : PySem.W.Frag} {G H : Hp} {p : Addr} {d : D} (h : OwnAt K G H p d) : Hard H p := by
  cases d with
  | list ds =>
    obtain ⟨vs, h1, _⟩ := h
    exact ⟨_, h1, True.intro⟩
  | dict kds =>
    rcases h with ⟨_, _, _, _, _, h1, _⟩ | ⟨_, _, _, _, _, h1, _⟩
    · exact ⟨_, h1, True.intro⟩
    · exact ⟨_, h1, True.intro⟩
  | _ => exact h.elim

/-! ### the state: slots frozen, or owned (fl) -/
structure SR (K : PySem.W.Frag) (fl : List Bool) (G0 B G : Hp) (e : Sg) (σ : L2.St) (H : Hp) : Prop where
  g0 : Same G0 G
  gh : Same G H
  bh : Same B H
  nw : ∀ p, G0 p = none → Hard B p → G p = none
  len : e.length = σ.length
  fro : ∀ (i : Nat) d, e[i]? = some (some d) → fl[i]? ≠ some true → ∃ v, σ[i]? = some (some v) ∧ Rp K G v d
  own : ∀ (i : Nat) d, e[i]? = some (some d) → fl[i]? = some true → ∃ v, σ[i]? = some (some v) ∧ Own K B G H v d
  dis : ∀ (i j : Nat) d d' p, i ≠ j → fl[i]? = some true → fl[j]? = some true → e[i]? = some (some d) → e[j]? = some (some d') → box d = true → box d' = true → σ[i]? = some (some (.ref p)) → σ[j]? = some (some (.ref p)) → False

section
variable {K : PySem.W.Frag} {fl fl' : List Bool} {G0 B G G' H H' : Hp} {e : Sg} {σ : L2.St}
/-- reading a slot, now -/
theorem SR.read (r : SR K fl G0 B G e σ H) {i : Nat} {d : D} (h : e[i]? = some (some d)) : ∃ v, σ[i]? = some (some v) ∧ Rp K H v d := by
  by_cases f : fl[i]? = some true
  · obtain ⟨v, h1, h2⟩ := r.own i d h f
    exact ⟨v, h1, h2.rp r.gh⟩
  · obtain ⟨v, h1, h2⟩ := r.fro i d h f
    exact ⟨v, h1, h2.mono r.gh⟩
/-- the heap grows -/
theorem SR.grow (r : SR K fl G0 B G e σ H) (s : Same H H') : SR K fl G0 B G e σ H' where
  g0 := r.g0
  gh := r.gh.trans s
  bh := r.bh.trans s
  nw := r.nw
  len := r.len
  fro := r.fro
  own := fun i d h f => by
    obtain ⟨v, h1, h2⟩ := r.own i d h f
    refine ⟨v, h1, ?_⟩
    unfold Own at h2 ⊢
    split
    · rename_i hb
      rw [if_pos hb] at h2
      obtain ⟨p, e1, e2, e3, h3⟩ := h2
      exact ⟨p, e1, e2, e3, h3.mono (Same.refl G) fun o q => s _ _ q⟩
    · rename_i hb
      rw [if_neg hb] at h2
      exact h2
  dis := r.dis
/-- an owned object at p, in no slot, is frozen -/
theorem SR.frzAt (r : SR K fl G0 B G e σ H) {p : Addr} {o : HO} (gp : G p = none) (bp : B p = none) (hp : H p = some o)
    (ns : ∀ (i : Nat) d, fl[i]? = some true → e[i]? = some (some d) → box d = true → σ[i]? ≠ some (some (.ref p))) : SR K fl G0 B (upd G p o) e σ H := by
  have sm : Same G (upd G p o) := fun b x q => by rw [upd_ne (ne_of_none q gp)]; exact q
  refine ⟨r.g0.trans sm, fun b x q => ?_, r.bh, fun b q1 q2 => ?_, r.len, fun i d h f => ?_, fun i d h f => ?_, r.dis⟩
  · by_cases hb : b = p
    · subst hb
      rw [upd_same] at q
      cases q
      exact hp
    · rw [upd_ne hb] at q
      exact r.gh _ _ q
  · have hb : b ≠ p := q2.ne bp
    rw [upd_ne hb]
    exact r.nw b q1 q2
  · obtain ⟨v, h1, h2⟩ := r.fro i d h f
    exact ⟨v, h1, h2.mono sm⟩
  · obtain ⟨v, h1, h2⟩ := r.own i d h f
    refine ⟨v, h1, ?_⟩
    unfold Own at h2 ⊢
    split
    · rename_i hb
      rw [if_pos hb] at h2
      obtain ⟨q, rfl, e2, e3, h3⟩ := h2
      have hq : q ≠ p := fun z => ns i d f h hb (by rw [← z]; exact h1)
      exact ⟨q, rfl, by rw [upd_ne hq]; exact e2, e3, h3.mono sm fun o x => x⟩
    · rename_i hb
      rw [if_neg hb] at h2
      exact h2.mono sm
/-- slot i is frozen -/
theorem SR.frz (r : SR K fl G0 B G e σ H) (i : Nat) : ∃ G', Same G G' ∧ SR K (fl.set i false) G0 B G' e σ H := by
  have weak : ∀ {G' : Hp}, Same G G' → SR K fl G0 B G' e σ H → (∀ d, e[i]? = some (some d) → fl[i]? = some true → ∃ v, σ[i]? = some (some v) ∧ Rp K G' v d) →
      SR K (fl.set i false) G0 B G' e σ H := fun {G'} sm q h => by
    have get : ∀ j, (fl.set i false)[j]? = some true → fl[j]? = some true ∧ j ≠ i := fun j hj => by
      by_cases hji : i = j
      · subst hji
        rw [List.getElem?_set_self'] at hj
        cases z : fl[i]? with
        | none => rw [z] at hj; cases hj
        | some b => rw [z] at hj; cases hj
      · rw [List.getElem?_set_ne hji] at hj
        exact ⟨hj, fun z => hji z.symm⟩
    refine ⟨q.g0, q.gh, q.bh, q.nw, q.len, fun j d hd f => ?_, fun j d hd f => q.own j d hd (get j f).1, fun a b d d' p hn f1 f2 => q.dis a b d d' p hn (get a f1).1 (get b f2).1⟩
    by_cases hji : i = j
    · subst hji
      by_cases z : fl[i]? = some true
      · exact h d hd z
      · exact q.fro i d hd z
    · rw [List.getElem?_set_ne hji] at f
      exact q.fro j d hd f
  by_cases f : fl[i]? = some true
  · cases hd : e[i]? with
    | none => exact ⟨G, Same.refl G, weak (Same.refl G) r fun d z => by rw [hd] at z; cases z⟩
    | some od =>
      cases od with
      | none => exact ⟨G, Same.refl G, weak (Same.refl G) r fun d z => by rw [hd] at z; cases z⟩
      | some d =>
        obtain ⟨v, h1, h2⟩ := r.own i d hd f
        unfold Own at h2
        by_cases hb : box d = true
        · rw [if_pos hb] at h2
          obtain ⟨p, rfl, gp, bp, h3⟩ := h2
          obtain ⟨o, ho, hr⟩ := h3.frz r.gh gp
          have sm : Same G (upd G p o) := fun b x q => by rw [upd_ne (ne_of_none q gp)]; exact q
          -- first slot i is taken out, then frozen
          have r2 : SR K (fl.set i false) G0 B (upd G p o) e σ H := by
            have get : ∀ j, (fl.set i false)[j]? = some true → fl[j]? = some true ∧ j ≠ i := fun j hj => by
              by_cases hji : i = j
              · subst hji
                rw [List.getElem?_set_self'] at hj
                rw [f] at hj
                cases hj
              · rw [List.getElem?_set_ne hji] at hj
                exact ⟨hj, fun z => hji z.symm⟩
            refine ⟨r.g0.trans sm, fun b x q => ?_, r.bh, fun b q1 q2 => ?_, r.len, fun j d' hd' f' => ?_, fun j d' hd' f' => ?_, fun a b d d' p hn f1 f2 => r.dis a b d d' p hn (get a f1).1 (get b f2).1⟩
            · by_cases hb : b = p
              · subst hb
                rw [upd_same] at q
                cases q
                exact ho
              · rw [upd_ne hb] at q
                exact r.gh _ _ q
            · have hb : b ≠ p := q2.ne bp
              rw [upd_ne hb]
              exact r.nw b q1 q2
            · by_cases hji : i = j
              · subst hji
                rw [hd] at hd'
                cases hd'
                exact ⟨_, h1, hr⟩
              · rw [List.getElem?_set_ne hji] at f'
                obtain ⟨v', k1, k2⟩ := r.fro j d' hd' f'
                exact ⟨v', k1, k2.mono sm⟩
            · obtain ⟨f2, hji⟩ := get j f'
              obtain ⟨v', k1, k2⟩ := r.own j d' hd' f2
              refine ⟨v', k1, ?_⟩
              unfold Own at k2 ⊢
              split
              · rename_i hb'
                rw [if_pos hb'] at k2
                obtain ⟨q, rfl, e2, e3, h4⟩ := k2
                have hq : q ≠ p := fun z => r.dis j i d' d p hji f2 f hd' hd hb' hb (by rw [← z]; exact k1) h1
                exact ⟨q, rfl, by rw [upd_ne hq]; exact e2, e3, h4.mono sm fun o x => x⟩
              · rename_i hb'
                rw [if_neg hb'] at k2
                exact k2.mono sm
          exact ⟨_, sm, r2⟩
        · rw [if_neg hb] at h2
          exact ⟨G, Same.refl G, weak (Same.refl G) r fun d' z _ => by
            rw [hd] at z
            cases z
            exact ⟨v, h1, h2⟩⟩
  · exact ⟨G, Same.refl G, weak (Same.refl G) r fun d _ z => absurd z f⟩
/-- flags fall: several slots -/
theorem SR.frzs (r : SR K fl G0 B G e σ H) : ∀ is : List Nat, ∃ G', Same G G' ∧ SR K (is.foldl (fun fl i => fl.set i false) fl) G0 B G' e σ H := fun is => by
  induction is generalizing fl G with
  | nil => exact ⟨G, Same.refl G, r⟩
  | cons i is ih =>
    obtain ⟨G1, s1, r1⟩ := r.frz i
    obtain ⟨G2, s2, r2⟩ := ih r1
    exact ⟨G2, s1.trans s2, r2⟩
end
end Mt
/-! Part B2: dicts. -/
namespace Mt
open PySem PySem.Spec PyProof.Rows L2

theorem keyK_kD (k : Key) : keyK (kD k) = some k := by cases k <;> rfl
theorem keyTs_map : ∀ k : List Key, keyTs (k.map kD) = some k
  | [] => rfl
  | x :: r => by
    show (match keyK (kD x), keyTs (r.map kD) with
      | some k, some ks => some (k :: ks)
      | _, _ => none) = _
    rw [keyK_kD, keyTs_map r]
theorem keyT_kT (k : List Key) : keyT (kT k) = some k := keyTs_map k
theorem keyK_inv {d : D} {k : Key} (h : keyK d = some k) : d = kD k := by
  cases d <;> cases h <;> rfl
theorem keyTs_inv : ∀ {ds : List D} {k : List Key}, keyTs ds = some k → ds = k.map kD
  | [], k, h => by cases h; rfl
  | d :: r, k, h => by
    unfold keyTs at h
    split at h
    · rename_i a b h1 h2
      cases h
      rw [keyK_inv h1, keyTs_inv h2]
      rfl
    · cases h
theorem keyT_inv {d : D} {k : List Key} (h : keyT d = some k) : d = kT k := by
  cases d with
  | tuple ds => exact congrArg PyData.tuple (keyTs_inv h)
  | _ => cases h
theorem keyT_kD (k : Key) : keyT (kD k) = none := by cases k <;> rfl
theorem keyK_kT (k : List Key) : keyK (kT k) = none := rfl
section
variable {κ : Type} {f : D → Option κ} {g : κ → D}
theorem decG_zip (hf : ∀ k, f (g k) = some k) : ∀ (ks : List κ) (ds : List D), decG f ((ks.map g).zip ds) = some (ks.zip ds)
  | [], _ => rfl
  | _ :: _, [] => rfl
  | k :: ks, d :: ds => by
    show (match f (g k), decG f ((ks.map g).zip ds) with
      | some k, some m => some ((k, d) :: m)
      | _, _ => none) = _
    rw [hf, decG_zip hf ks ds]
    rfl
theorem decG_enc (hf : ∀ k, f (g k) = some k) : ∀ m : List (κ × D), decG f (m.map fun p => (g p.1, p.2)) = some m
  | [] => rfl
  | (k, d) :: m => by
    show (match f (g k), decG f (m.map fun p => (g p.1, p.2)) with
      | some k, some m => some ((k, d) :: m)
      | _, _ => none) = _
    rw [hf, decG_enc hf m]
theorem decG_bad {h : κ → D} {ι : Type} {g' : ι → D} (hf : ∀ k, f (g' k) = none) {ks : List ι} {ds : List D} {m : List (κ × D)} (e : decG f ((ks.map g').zip ds) = some m) : (ks.map g').zip ds = [] := by
  cases ks with
  | nil => rfl
  | cons k ks =>
    cases ds with
    | nil => rfl
    | cons d ds =>
      have e : (match f (g' k), decG f ((ks.map g').zip ds) with
        | some k, some m => some ((k, d) :: m)
        | _, _ => none) = some m := e
      rw [hf] at e
      cases e
end
/-- entries: the same keys, the values' data -/
def Zd {κ : Type} (K : PySem.W.Frag) (G : Hp) : List (κ × V) → List (κ × D) → Prop := Paired fun p q => p.1 = q.1 ∧ Rp K G p.2 q.2
section
variable {κ : Type} {K : PySem.W.Frag} {G H : Hp}
theorem Zd.mono {G' : Hp} (s : Same G G') : ∀ {l : List (κ × V)} {m : List (κ × D)}, Zd K G l m → Zd K G' l m
  | _, _, .nil => .nil
  | _, _, .cons h r => .cons ⟨h.1, h.2.mono s⟩ (Zd.mono s r)
theorem Zd.zip : ∀ {ks : List κ} {vs : List V} {ds : List D}, RpL K G vs ds → Zd K G (ks.zip vs) (ks.zip ds)
  | [], _, _, _ => .nil
  | _ :: _, _, _, .nil => .nil
  | k :: ks, _, _, .cons h r => .cons ⟨rfl, h⟩ (Zd.zip r)
theorem Zd.len : ∀ {l : List (κ × V)} {m : List (κ × D)}, Zd K G l m → l.length = m.length
  | _, _, .nil => rfl
  | _, _, .cons _ r => congrArg Nat.succ (Zd.len r)
theorem Zd.vals : ∀ {l : List (κ × V)} {m : List (κ × D)}, Zd K G l m → RpL K G (l.map (·.2)) (m.map (·.2))
  | _, _, .nil => .nil
  | _, _, .cons h r => .cons h.2 (Zd.vals r)
theorem Zd.keys : ∀ {l : List (κ × V)} {m : List (κ × D)}, Zd K G l m → m.map (·.1) = l.map (·.1)
  | _, _, .nil => rfl
  | _, _, .cons h r => by rw [List.map_cons, List.map_cons, h.1, Zd.keys r]
theorem Zd.app : ∀ {l l' : List (κ × V)} {m m' : List (κ × D)}, Zd K G l m → Zd K G l' m' → Zd K G (l ++ l') (m ++ m')
  | _, _, _, _, .nil, q => q
  | _, _, _, _, .cons h r, q => .cons h (Zd.app r q)
theorem zip_fs : ∀ l : List (κ × V), l = (l.map (·.1)).zip (l.map (·.2))
  | [] => rfl
  | (k, v) :: r => by
    rw [List.map_cons, List.map_cons, List.zip_cons_cons, ← zip_fs r]
theorem enc_fs (g : κ → D) : ∀ m : List (κ × D), (m.map fun p => (g p.1, p.2)) = ((m.map (·.1)).map g).zip (m.map (·.2))
  | [] => rfl
  | (k, v) :: r => by
    rw [List.map_cons, List.map_cons, List.map_cons, List.map_cons, List.zip_cons_cons, ← enc_fs g r]
variable [DecidableEq κ]
theorem Zd.any (k : κ) : ∀ {l : List (κ × V)} {m : List (κ × D)}, Zd K G l m → (l.any fun kv => decide (kv.1 = k)) = (m.any fun kv => decide (kv.1 = k))
  | _, _, .nil => rfl
  | _, _, .cons h r => by rw [List.any_cons, List.any_cons, h.1, Zd.any k r]
theorem Zd.repl {k : κ} {v : V} {d : D} (h : Rp K G v d) : ∀ {l : List (κ × V)} {m : List (κ × D)}, Zd K G l m → Zd K G (l.map fun kv => if kv.1 = k then (kv.1, v) else kv) (m.map fun kv => if kv.1 = k then (kv.1, d) else kv)
  | _, _, .nil => .nil
  | _, _, .cons (a := p) (b := q) z r => by
    refine .cons ?_ (Zd.repl h r)
    dsimp only
    by_cases e : p.1 = k
    · rw [if_pos e, if_pos (z.1 ▸ e)]
      exact ⟨z.1, h⟩
    · rw [if_neg e, if_neg (fun x => e (z.1.trans x))]
      exact z
theorem Zd.put {k : κ} {v : V} {d : D} {l : List (κ × V)} {m : List (κ × D)} (z : Zd K G l m) (h : Rp K G v d) : Zd K G (putK l k v) (putG m k d) := by
  unfold putK putG
  rw [z.any k]
  split
  · exact z.repl h
  · exact z.app (.cons ⟨rfl, h⟩ .nil)
theorem Zd.get {k : κ} : ∀ {l : List (κ × V)} {m : List (κ × D)}, Zd K G l m → (∃ v d, valV l k = some v ∧ getG m k = some d ∧ Rp K G v d) ∨ (valV l k = none ∧ getG m k = none)
  | _, _, .nil => .inr ⟨rfl, rfl⟩
  | _, _, .cons (a := p) (b := q) z r => by
    by_cases e : p.1 = k
    · exact .inl ⟨p.2, q.2, by simp [valV, e], by simp [getG, ← z.1, e], z.2⟩
    · have e' : ¬ q.1 = k := fun x => e (z.1.trans x)
      rcases Zd.get (k := k) r with ⟨v, d, h1, h2, h3⟩ | ⟨h1, h2⟩
      · exact .inl ⟨v, d, by rw [← h1]; simp [valV, List.find?_cons, e], by rw [← h2]; simp [getG, List.find?_cons, e'], h3⟩
      · exact .inr ⟨by rw [← h1]; simp [valV, List.find?_cons, e], by rw [← h2]; simp [getG, List.find?_cons, e']⟩
end
section
variable {K : PySem.W.Frag} {G H : Hp} {p : Addr} {kds : List (D × D)}
theorem ownT_mk {l : List (List Key × V)} {m : List (List Key × D)} (h : H p = some (.dT l)) (z : Zd K G l m) : OwnAt K G H p (.dict (encT m)) :=
  .inr ⟨l.map (·.1), l.map (·.2), m.map (·.2), by unfold encT; rw [enc_fs, z.keys], by simp, by rw [← zip_fs]; exact h, z.vals⟩
theorem ownT_inv {m : List (List Key × D)} (h : OwnAt K G H p (.dict kds)) (e : decG keyT kds = some m) : ∃ l, H p = some (.dT l) ∧ Zd K G l m := by
  rcases h with ⟨ks, vs, ds, rfl, ⟨hn, hl⟩, h1, h2⟩ | ⟨ks, vs, ds, rfl, hl, h1, h2⟩
  · have := decG_bad (h := kT) keyT_kD e
    exfalso
    have l2 := h2.length
    cases ks with
    | nil => exact hn rfl
    | cons k ks =>
      cases ds with
      | nil => cases hl.trans l2
      | cons d ds => cases this
  · rw [decG_zip keyT_kT] at e
    cases e
    exact ⟨_, h1, Zd.zip h2⟩
/-- what a lookup asks, of what stands or is owned -/
theorem look_T {v : V} {m : List (List Key × D)} (g : Same G H) (h : Rp K G v (.dict kds) ∨ ∃ p, v = .ref p ∧ OwnAt K G H p (.dict kds)) (e : decG keyT kds = some m) : (∃ a l, v = .ref a ∧ Rd H a (.dT l) ∧ Zd K G l m) ∨ ∃ ds, PyData.dict kds = kt ds := by
  rcases h with h | ⟨p, rfl, h⟩
  · generalize ed : PyData.dict kds = d at h
    cases h with
    | ktp _ _ => exact .inr ⟨_, rfl⟩
    | dcK hl hr r =>
      cases ed
      exfalso
      have := decG_bad (h := kT) keyT_kD e
      have l2 := r.length
      rename_i a ks vs ds
      cases ks with
      | nil => exact hl.1 rfl
      | cons k ks =>
        cases ds with
        | nil => cases hl.2.trans l2
        | cons d ds => cases this
    | dcT hl hr r =>
      cases ed
      rw [decG_zip keyT_kT] at e
      cases e
      exact .inl ⟨_, _, rfl, Same.rd g hr, Zd.zip r⟩
    | _ => cases ed
  · obtain ⟨l, h1, h2⟩ := ownT_inv h e
    exact .inl ⟨p, l, rfl, .inl h1, h2⟩
theorem look_K {v : V} {m : List (Key × D)} (g : Same G H) (h : Rp K G v (.dict kds) ∨ ∃ p, v = .ref p ∧ OwnAt K G H p (.dict kds)) (e : decG keyK kds = some m) (hm : m ≠ []) : (∃ a l, v = .ref a ∧ Rd H a (.dK l) ∧ Zd K G l m) ∨ ∃ ds, PyData.dict kds = kt ds := by
  have bad : ∀ {ks : List (List Key)} {ds : List D}, decG keyK ((ks.map kT).zip ds) = some m → False := fun {ks ds} e => by
    have := decG_bad (h := kD) keyK_kT e
    rw [this] at e
    cases e
    exact hm rfl
  rcases h with h | ⟨p, rfl, h⟩
  · generalize ed : PyData.dict kds = d at h
    cases h with
    | ktp _ _ => exact .inr ⟨_, rfl⟩
    | dcK hl hr r =>
      cases ed
      rw [decG_zip keyK_kD] at e
      cases e
      exact .inl ⟨_, _, rfl, Same.rd g hr, Zd.zip r⟩
    | dcT hl hr r =>
      cases ed
      exact (bad e).elim
    | _ => cases ed
  · rcases h with ⟨ks, vs, ds, rfl, ⟨hn, hl⟩, h1, h2⟩ | ⟨ks, vs, ds, rfl, hl, h1, h2⟩
    · rw [decG_zip keyK_kD] at e
      cases e
      exact .inl ⟨p, _, rfl, .inl h1, Zd.zip h2⟩
    · exact (bad e).elim
theorem kt_noT {ds : List D} (e : PyData.dict kds = kt ds) : decG keyT kds = none ∧ decG keyK kds = none := by
  unfold kt at e
  cases e
  exact ⟨rfl, rfl⟩
theorem key_of_kT {x : V} {k : List Key} (h : Rp K G x (kT k)) : ∃ b, x = .ref b ∧ G b = some (.tup (k.map kV)) := by
  have atoms : ∀ {vs : List V} {k : List Key}, RpL K G vs (k.map kD) → vs = k.map kV := fun {vs k} r => by
    induction k generalizing vs with
    | nil => cases r; rfl
    | cons a k ih =>
      cases r with
      | cons h r =>
        rw [ih r]
        cases a <;> (cases h; rfl)
  cases h with
  | tup h r => exact ⟨_, rfl, by rw [← atoms r]; exact h⟩
theorem key_of_kD {x : V} {k : Key} (h : Rp K G x (kD k)) : x = kV k := by
  cases k <;> (cases h; rfl)
/-- a lookup's answer -/
theorem look_ok {x y : V} {k : D} {o : Option D} (g : Same G H) (hx : Rp K G x (.dict kds) ∨ ∃ p, x = .ref p ∧ OwnAt K G H p (.dict kds)) (hy : Rp K G y k) (e : lookD kds k = .ok o) :
    ∃ a r, x = .ref a ∧ DGet H a y r ∧ r.isSome = o.isSome ∧ ∀ v, r = some v → ∃ d, o = some d ∧ Rp K G v d := by
  have fin : ∀ {κ : Type} [DecidableEq κ] {l : List (κ × V)} {m : List (κ × D)} {kk : κ}, Zd K G l m → (valV l kk).isSome = (getG m kk).isSome ∧ ∀ v, valV l kk = some v → ∃ d, getG m kk = some d ∧ Rp K G v d := fun {κ _ l m kk} z => by
    rcases z.get (k := kk) with ⟨v, d, h1, h2, h3⟩ | ⟨h1, h2⟩
    · exact ⟨by rw [h1, h2]; rfl, fun w hw => ⟨d, h2, by rw [h1] at hw; cases hw; exact h3⟩⟩
    · exact ⟨by rw [h1, h2]; rfl, fun w hw => by rw [h1] at hw; cases hw⟩
  unfold lookD at e
  split at e
  · rename_i kk hk
    split at e
    · rename_i m hm
      cases e
      have ek := keyT_inv hk
      subst ek
      obtain ⟨b, rfl, hb⟩ := key_of_kT hy
      rcases look_T g hx hm with ⟨a, l, rfl, hr, z⟩ | ⟨ds, ez⟩
      · obtain ⟨f1, f2⟩ := fin (kk := kk) z
        exact ⟨a, valV l kk, rfl, .inr ⟨l, kk, b, hr, rfl, g _ _ hb, rfl⟩, f1, f2⟩
      · rw [(kt_noT ez).1] at hm
        cases hm
    · cases e
  · split at e
    · rename_i kk hk
      split at e
      · rename_i m hm
        cases hz : (!m.isEmpty) with
        | false => rw [hz] at e; cases e
        | true =>
          rw [hz] at e
          cases e
          have ek := keyK_inv hk
          subst ek
          have ey := key_of_kD hy
          have hne : m ≠ [] := fun z => by rw [z] at hz; cases hz
          rcases look_K g hx hm hne with ⟨a, l, rfl, hr, z⟩ | ⟨ds, ez⟩
          · obtain ⟨f1, f2⟩ := fin (kk := kk) z
            exact ⟨a, valV l kk, rfl, .inl ⟨l, kk, hr, ey, rfl⟩, f1, f2⟩
          · rw [(kt_noT ez).2] at hm
            cases hm
      · cases e
    · cases e
end
end Mt
/-! Part B3: dicts whose keys are tuples: displays, comprehensions. -/
namespace Mt
open PySem PySem.Spec PyProof.Rows L2
/-! ### one entry more -/
theorem setKey {X : Cx} {pins : List (Addr × Obj)} {σ : L2.St} {H : Hp} {s : Shared} {E : Value → Shared → Prop} {D b : Addr} {kvs : List (List Key × V)} {k : List Key} {v : V} {r : Value} {Q : Unit → Shared → Prop}
    (hu : X.A.units < cLine) (I : Inv X pins σ H s) (hD : H D = some (.dT kvs)) (hz : kvs.length < sizeLine) (hb : H b = some (.tup (k.map kV))) (rv : RelV v r)
    (go : ∀ s', Inv X pins σ (L2.upd H D (.dT (putK kvs k v))) s' → Q () s') : wpAny (model X.prog X.w) X.A (dictSet D (.ref b) r) Q E s := by
  obtain ⟨z, hd, xs, rel, dd⟩ := dt_of I.hok hD
  have lx : xs.length ≤ sizeLine := Paired.length rel ▸ z
  have lp := length_putK kvs k v
  refine wpAny_dictSet_heap (hsz := lx) (knd := tupleKind (mixKind X.prog X.w)) hu (key_of I.hok hb) dd fun h' new sb => go _ ?_
  obtain ⟨o, es, ep, a1, a2, a3, a4, _, a5⟩ := new
  refine d_write I (by rw [hD]; trivial) sb ⟨o, a1⟩ ⟨by omega, hd, _, (rel.put k hb rv).keeps fun c ys ec => ?_, o, es, ep, a1, a2, a3, a4, a5⟩
  rw [L2.upd_ne (fun q => by rw [q, hD] at ec; cases ec)]
  exact ec
/-! ### a display -/
abbrev Ent := List Key × Addr × V
def entP (t : Ent) : V × V := (.ref t.2.1, t.2.2)
def putsT (acc : List (List Key × V)) (ks : List Ent) : List (List Key × V) := ks.foldl (fun acc t => putK acc t.1 t.2.2) acc
theorem putsT_len : ∀ (ks : List Ent) (acc : List (List Key × V)), (putsT acc ks).length ≤ acc.length + ks.length
  | [], acc => Nat.le_refl _
  | t :: ks, acc => by
    have a := putsT_len ks (putK acc t.1 t.2.2)
    have b := length_putK acc t.1 t.2.2
    show (putsT (putK acc t.1 t.2.2) ks).length ≤ _
    rw [List.length_cons]
    omega
theorem carr {P : Program} {w : World} {H : Hp} {h : Heap} (ok : HOk P w H h) : ∀ {ks : List Ent} {ws : List (Value × Value)}, VV (ks.map entP) ws → (∀ t ∈ ks, H t.2.1 = some (.tup (t.1.map kV))) →
    ∃ ps, CarriesH (tupleKind (mixKind P w)) h ws ps ∧ ∀ {acc : List (List Key × V)} {xs : List (List Key × Addr × Value)}, KT H acc xs → KT H (putsT acc ks) (storedAllH xs ps)
  | [], _, r, _ => by
    cases r
    exact ⟨[], trivial, fun q => q⟩
  | t :: ks, _, r, hk => by
    rw [List.map_cons] at r
    cases r with
    | @cons _ b _ bs one more =>
      obtain ⟨ps, c, q⟩ := carr ok more fun u hu => hk u (by simp [hu])
      obtain ⟨r1, r2⟩ := one
      have kt := hk t (by simp)
      refine ⟨(t.1, t.2.1, b.2) :: ps, ?_, fun k => q (k.put t.1 kt r2)⟩
      obtain ⟨b1, b2⟩ := b
      exact ⟨r1, rfl, key_of ok kt, c⟩
def tDispT (trs : List (TE × TE)) : TE := fun σ H Q => ∀ p, H p = none → tPairs trs σ (L2.upd H p (.dT [])) fun ps H2 => H2 p = some (.dT []) ∧ ∃ ks : List Ent, ps = ks.map entP ∧ (∀ t ∈ ks, H2 t.2.1 = some (.tup (t.1.map kV))) ∧ ks.length ≤ 15 ∧ Q (.ref p) (L2.upd H2 p (.dT (putsT [] ks)))
theorem pe_dispT {X : Cx} {pos : Pos} {keys : List (Option Expr)} {values : List Expr} {trs : List (TE × TE)} (hu : X.A.units < cLine) (h : PPs X pos keys values trs) (hall : keys.all (·.isSome) = true) (hl : keys.length = values.length) (h0 : keys ≠ []) (h15 : keys.length ≤ 15) :
    PE X (.Dict keys values pos) (tDispT trs) := ⟨fun pins s σ H Q I q => by
  have fr := I.hok.fresh (Nat.le_refl s.heap.objs.size)
  have I1 := I.laid (a := s.heap.objs.size) (o := .dT []) (h' := s.heap.push { cls := .type "dict", data := .dict #[] }) (t' := s.toks) (fun _ _ g => Heap.get?_push_of_some _ g) (Nat.le_refl _) (dt_empty s.heap I.big)
  have hn := pairTrees_length keys values X.env pos hall hl
  have p0 : pairTrees keys values X.env pos ≠ [] := fun z => by
    rw [z] at hn
    exact h0 (List.length_eq_zero_iff.mp hn.symm)
  rw [arm_eval_Dict, zip_pairTrees keys values X.env pos hall hl, dictDisplay_pairs _ p0 (by omega)]
  refine wpAny_bind (wpAny_standAt (wpAny_bind (wpAny_subDictH (knd := tupleKind (mixKind X.prog X.w)) (Q := fun d s' => wpAny (model X.prog X.w) X.A (pure (Value.ref d)) _ X.xe s') hu (by omega) ?_)))
  refine thn (h.run pins _ σ _ _ I1 (q _ fr)) fun ws s2 ⟨ps, H2, I2, rel, e, ks, ep, hk, lk, fin⟩ => ?_
  subst ep
  obtain ⟨rs, c, kt⟩ := carr I2.hok rel hk
  obtain ⟨z, hd, xs0, r0, dd⟩ := dt_of I2.hok e
  cases r0
  refine ⟨rs, c, dd, fun h' tk new sb => wpAny_pure ⟨.ref s.heap.objs.size, _, ?_, rfl, fin⟩⟩
  obtain ⟨o, es, epo, a1, a2, a3, a4, _, a5⟩ := new
  have lz : (putsT [] ks).length ≤ sizeLine := by
    have := putsT_len ks []
    rw [List.length_nil] at this
    rw [sizeLine_eq]
    omega
  refine d_write I2 (by rw [e]; trivial) sb ⟨o, a1⟩ ⟨lz, hd, _, (kt .nil).keeps fun b ys eb => ?_, o, es, epo, a1, a2, a3, a4, a5⟩
  rw [L2.upd_ne (fun g => by rw [g, e] at eb; cases eb)]
  exact eb⟩
/-! ### a comprehension -/
def tDcT (wi : TI) (g : TG) (tt : TT) (tk tv : TE) (vs : List Nat) : TE := fun σ H Q => wi σ H fun J H1 => ∀ D, H1 D = none → ∃ W : Nat → Nat → Hp → Prop, (∃ m, W 0 m (L2.upd H1 D (.dT []))) ∧ ∀ i m H, W i m H →
  (J.stop i H ∧ Q (.ref D) H) ∨ (J.go i H ∧ ∃ Nx : Hp → Prop, (∀ H', Nx H' → ∃ m', m' < m ∧ W (i + 1) m' H') ∧ ∀ x H', J.yld i H x H' → g x (wipe σ vs) H' fun σ2 H2 => wipe σ2 vs = wipe σ vs ∧ tt σ2 H2 fun b H3 =>
    if b = true then tk σ2 H3 fun y H4 => tv σ2 H4 fun z H5 => ∃ kvs k a, y = .ref a ∧ H5 a = some (.tup (k.map kV)) ∧ H5 D = some (.dT kvs) ∧ kvs.length < sizeLine ∧ Nx (L2.upd H5 D (.dT (putK kvs k z))) else Nx H3)
theorem pe_dcT {X : Cx} {kx vx tg it : Expr} {ifs : List Expr} {scope : Scope} {own : List (Str × Nat)} {pos : Pos} {wi : TI} {g : TG} {tt : TT} {tk tv : TE} (hu : X.A.units < cLine) (hc : X.calm = true) (hN : X.N.Nodup) (hi : PI X tg it wi) (ok : BlkOk X.N X.env.scope scope own)
    (hg : ∀ (s : Shared) (H : Hp) (C : Addr) (cl : List (Str × Addr)) (fp : List Addr), PG (X.blk s H scope (compEnvC scope cl C X.env) fp) tg g)
    (ht : ∀ (s : Shared) (H : Hp) (C : Addr) (cl : List (Str × Addr)) (fp : List Addr), PTs (X.blk s H scope (compEnvC scope cl C X.env) fp) ifs tt)
    (hk : ∀ (s : Shared) (H : Hp) (C : Addr) (cl : List (Str × Addr)) (fp : List Addr), PE (X.blk s H scope (compEnvC scope cl C X.env) fp) kx tk)
    (hv : ∀ (s : Shared) (H : Hp) (C : Addr) (cl : List (Str × Addr)) (fp : List Addr), PE (X.blk s H scope (compEnvC scope cl C X.env) fp) vx tv) (hs : ∀ x, foldedSetIterable it X.env x = pure x := by intro _; rfl) :
    PE X (.DictComp kx vx [⟨tg, it, ifs, 0⟩] scope pos) (tDcT wi g tt tk tv (own.map (·.2))) := by
  constructor
  intro pins s σ H Q I h
  rw [arm_eval_DictComp]
  have cap : ∀ y ∈ scope.names, y.2 = .free → ∃ c, X.env.cells.lookup y.1 = some c := fun y hy e => (ok.free y hy e).elim (fun k => I.ok.has _ (.inl k)) fun k => I.ok.has _ (.inr k)
  apply wpAny_comprehension_free (use := none) rfl hs (closure_ok cap) ok.kind (fun y hy e => by rw [ok.uniq y hy, e])
  refine thn (hi.run pins s σ H _ I h) fun xv s1 more => thn more fun itv s2 made => ?_
  obtain ⟨ir, fp, tn, J, H2, rfl, I2, T, at2, fp2, turns⟩ := made
  refine wpAny_newObj_type (newEnv_comp ?_)
  generalize hD : s2.heap.objs.size = D
  have freeD : H2 D = none := I2.hok.fresh (Nat.le_of_eq hD)
  obtain ⟨Wt, ⟨m0, w0⟩, turn⟩ := turns D freeD
  generalize hs3 : ({ s2 with heap := s2.heap.push { cls := .type "dict", data := .dict #[] } } : Shared) = s3
  have up3 : ∀ b o, s2.heap.get? b = some o → s3.heap.get? b = some o := fun b o e => by rw [← hs3]; exact Heap.get?_push_of_some _ e
  have I3 : Inv X pins σ (L2.upd H2 D (.dT [])) s3 := by
    have z := I2.laid (a := D) (o := .dT []) (h' := s3.heap) (t' := s2.toks) up3 (Nat.le_of_eq hD) (by rw [← hs3, ← hD]; exact dt_empty s2.heap I2.big)
    rw [← hs3] at z ⊢
    exact z
  have low : ∀ b ∈ fp, b < s2.heap.objs.size := fun b hb => (T.obj _ _ at2 b hb).elim fun o e => Heap.lt_size e.1
  have fps : ∀ b ∈ fp, FpOk X pins (L2.upd H2 D (.dT [])) b ∧ b < s3.heap.objs.size := fun b hb => by
    have lt := low b hb
    refine ⟨⟨?_, (fp2 b hb).2⟩, ?_⟩
    · rw [L2.upd_ne (fun z => by rw [z, hD] at lt; exact Nat.lt_irrefl _ lt)]
      exact (fp2 b hb).1
    · rw [← hs3]
      show b < (s2.heap.push _).objs.size
      rw [Heap.size_push]
      exact Nat.lt_succ_of_lt lt
  have at3 : tn 0 s3.heap := T.keep _ _ _ at2 fun b _ o e => up3 b o e
  have I4 := block_start I3 ok hN fps
  have pg := hg s3 (L2.upd H2 D (.dT [])) s3.heap.objs.size (cellsFrom (s3.heap.objs.size + 1) scope.names (cloFrom X.env.cells scope.names [])) fp
  have pt := ht s3 (L2.upd H2 D (.dT [])) s3.heap.objs.size (cellsFrom (s3.heap.objs.size + 1) scope.names (cloFrom X.env.cells scope.names [])) fp
  have pk := hk s3 (L2.upd H2 D (.dT [])) s3.heap.objs.size (cellsFrom (s3.heap.objs.size + 1) scope.names (cloFrom X.env.cells scope.names [])) fp
  have pv := hv s3 (L2.upd H2 D (.dT [])) s3.heap.objs.size (cellsFrom (s3.heap.objs.size + 1) scope.names (cloFrom X.env.cells scope.names [])) fp
  show codeAny _ _ (.compStart (.DictComp kx vx [⟨tg, it, ifs, 0⟩] scope pos) 0 (.ref ir) (.ref D) (compEnvC scope (cellsFrom (s3.heap.objs.size + 1) scope.names (cloFrom X.env.cells scope.names [])) s3.heap.objs.size X.env)) (compPost (model X.prog X.w) X.A X.xe none _ (.ref D) s3.heap.objs.size) { s3 with heap := pushCells (s3.heap.push { cls := .type "dict", data := .dict #[] }) scope.names }
  have none3 : ∀ b ∈ fp, (L2.upd H2 D (.dT [])) b = none := fun b hb => (fps b hb).1.1
  generalize hB : compEnvC scope (cellsFrom (s3.heap.objs.size + 1) scope.names (cloFrom X.env.cells scope.names [])) s3.heap.objs.size X.env = bn at I4 pg pt pk pv ⊢
  have bL : bn.locals = s3.heap.objs.size := by rw [← hB]; rfl
  generalize hH3 : L2.upd H2 D (.dT []) = H3 at I3 I4 pg pt pk pv w0 none3 fps
  generalize hs4 : ({ s3 with heap := pushCells (s3.heap.push { cls := .type "dict", data := .dict #[] }) scope.names } : Shared) = s4 at I4 ⊢
  have at4 : tn 0 s4.heap := T.keep _ _ _ at3 fun b _ o e => by rw [← hs4]; exact pushCells_keeps _ _ _ _ (Heap.get?_push_of_some _ e)
  -- the iterator's own objects
  have stay : ∀ {σ' : L2.St} {H' : Hp} {s' : Shared}, Inv (X.blk s3 H3 scope bn fp) [] σ' H' s' → (∀ b ∈ fp, H' b = none) → ∀ b ∈ fp, FpOk (X.blk s3 H3 scope bn fp) [] H' b := fun {σ' H' s'} J' nn b hb =>
    ⟨nn b hb, (J'.ok.exf b hb).1, J'.ok.exfs b hb, .inl hb, fun x c e => (J'.ok.exf b hb).2 x c e, fun p hp => by cases hp⟩
  have whole : codeAny (model X.prog X.w) X.A (.compLoop (.DictComp kx vx [⟨tg, it, ifs, 0⟩] scope pos) 0 (.ref ir) (.ref D) bn) (compPost (model X.prog X.w) X.A X.xe none (EP X pins σ Q) (.ref D) s3.heap.objs.size) s4 := by
    refine compLoop_anyD (fun n s' => ∃ i H', Inv (X.blk s3 H3 scope bn fp) [] (wipe σ (own.map (·.2))) H' s' ∧ tn i s'.heap ∧ (∀ b ∈ fp, H' b = none) ∧ Wt i n H') ?_ m0 ⟨0, H3, I4, at4, none3, w0⟩
    rintro n s5 ⟨i, H5, I5, at5, n5, w5⟩
    rcases turn i n H5 w5 with ⟨stop, qq⟩ | ⟨go, Nx, less, step⟩
    · refine thnF (T.done (X.blk s3 H3 scope bn fp) rfl rfl rfl hc i [] s5 _ H5 (fun _ _ => False) I5 (stay I5 n5) at5 stop) fun r s6 ⟨rn, I6⟩ => ?_
      subst rn
      have I7 : Inv X pins σ H5 s6 := I3.call' (ch := fp) I6.os I6.base I6.hok I6.bare fun b hb => ⟨(fps b hb).1.2.2.2.1, (fps b hb).1.2.1, (fps b hb).1.2.2.2.2.1, (fps b hb).1.2.2.2.2.2⟩
      have nC : H5 s3.heap.objs.size = none := bL ▸ (I6.free : H5 bn.locals = none)
      obtain ⟨m, ns, _⟩ := I6.loc
      have ns : s6.heap.Ns bn.locals m := ns
      rw [bL] at ns
      obtain ⟨f0, f1, f2, f3, f4, f5⟩ := I3.fpOk (Nat.le_refl _) nC
      exact ⟨m, ns, fun h'' sb => ⟨.ref D, H5, I7.turned (t' := s6.toks) (fun b o hb e => (sb.2 b hb).trans e) f0 f1 f3 f4 f5, rfl, qq⟩⟩
    · refine thnF (T.item (X.blk s3 H3 scope bn fp) rfl rfl rfl hc i [] s5 _ H5 (fun _ _ => False) I5 (stay I5 n5) at5 go) fun r s6 ⟨u, ru, next⟩ => ?_
      subst ru
      refine thnF next fun _ s7 ⟨x, H7, I7, r7, y7, at7, n7⟩ => ?_
      refine thnF (pg.run _ s7 _ H7 x u _ (I7.pinned (stay I7 n7) (T.obj _ _ at7)) r7 (step x H7 y7)) fun _ s8 ⟨σ8, H8, I8, ws, q8⟩ => ?_
      refine thnF (pt.run _ s8 σ8 H8 _ I8 q8) fun b s9 ⟨H9, I9, q9⟩ => ?_
      have close : ∀ {s' : Shared} {H' : Hp}, Inv (X.blk s3 H3 scope bn fp) ([] ++ pinsAt fp s7.heap) σ8 H' s' → Nx H' → ∃ m, m < n ∧ ∃ i H', Inv (X.blk s3 H3 scope bn fp) [] (wipe σ (own.map (·.2))) H' s' ∧ tn i s'.heap ∧ (∀ b ∈ fp, H' b = none) ∧ Wt i m H' := fun {s' H'} J' nx => by
        obtain ⟨m', lt, w'⟩ := less H' nx
        have at' : ∀ b ∈ fp, ∀ o, s7.heap.get? b = some o → s'.heap.get? b = some o ∧ H' b = none := fun b hb o e => by
          have z := J'.pin (b, o) (List.mem_append_right _ (List.mem_append_right _ (mem_pinsAt hb e)))
          exact ⟨z.1, z.2.1⟩
        have lw : (wipe σ (own.map (·.2))).length = σ8.length := by rw [← ws, wipe_length]
        refine ⟨m', lt, i + 1, H', (J'.unpinned (pins := [])).weak lw (fun j v e => ?_), T.keep _ _ _ at7 fun b hb o e => (at' b hb o e).1, fun b hb => ?_, w'⟩
        · rw [← ws] at e
          exact (wipe_some e).1
        · obtain ⟨o, e, _⟩ := T.obj _ _ at7 b hb
          exact (at' b hb o e).2
      cases b with
      | false =>
        simp only [Bool.false_eq_true, if_false] at q9 ⊢
        exact close I9 q9
      | true =>
        simp only [if_true] at q9 ⊢
        refine thnF (pk.run _ s9 σ8 H9 _ I9 q9) fun z s10 ⟨yk, H10, I10, r10, q10⟩ => ?_
        refine thnF (pv.run _ s10 σ8 H10 _ I10 q10) fun z2 s11 ⟨yv, H11, I11, r11, kvs, k, a, ek, hb, hD11, lz, nx⟩ => ?_
        subst ek
        cases (show z = Value.ref a from r10)
        exact setKey (X := X.blk s3 H3 scope bn fp) hu I11 hD11 lz hb r11 fun s12 I12 => close I12 nx
  exact codeAny_compStart_dict whole (T.self X.A 0 _ _ _ at4 whole)
end Mt
/-! Part C: the operations, by values. -/
namespace Mt
open PySem PySem.Spec PyProof.Rows L2

/-- a value at hand: frozen, or an owned container -/
def Av (K : PySem.W.Frag) (G H : Hp) (v : V) (d : D) : Prop := Rp K G v d ∨ ∃ p, v = .ref p ∧ OwnAt K G H p d
def AvL (K : PySem.W.Frag) (G H : Hp) : List V → List D → Prop := Paired fun v d => Av K G H v d
/-- a new object -/
def New (K : PySem.W.Frag) (G H H' : Hp) (v : V) (d : D) : Prop :=
  ∃ p, v = .ref p ∧ H p = none ∧ (OwnAt K G H' p d ∨ ∃ vs ds, d = .tuple ds ∧ H' p = some (.tup vs) ∧ RpL K G vs ds)
/-- what comes: frozen, or new; fr: a container is new -/
def Res (K : PySem.W.Frag) (fr : Bool) (G H H' : Hp) (v : V) (d : D) : Prop := (fr = true → box d = true → New K G H H' v d) ∧ (Rp K G v d ∨ New K G H H' v d)
section
variable {K : PySem.W.Frag} {G H H' : Hp} {v : V} {ds : List D}
theorem Av.rp {d : D} (g : Same G H) (h : Av K G H v d) : Rp K H v d := by
  rcases h with h | ⟨p, rfl, h⟩
  · exact h.mono g
  · exact h.rp g
theorem Av.grow {G' : Hp} {d : D} (g : Same G G') (s : Same H H') (h : Av K G H v d) : Av K G' H' v d := by
  rcases h with h | ⟨p, rfl, h⟩
  · exact .inl (h.mono g)
  · exact .inr ⟨p, rfl, h.mono g fun o q => s _ _ q⟩
theorem AvL.grow {G' : Hp} (g : Same G G') (s : Same H H') : ∀ {vs : List V} {ds : List D}, AvL K G H vs ds → AvL K G' H' vs ds
  | _, _, .nil => .nil
  | _, _, .cons h r => .cons (h.grow g s) (AvL.grow g s r)
theorem Av.list (g : Same G H) (h : Av K G H v (.list ds)) : ∃ a vs, v = .ref a ∧ SqL K H a vs ∧ RpL K G vs ds := by
  rcases h with h | ⟨p, rfl, vs, h1, h2⟩
  · cases h with
    | lst h r => exact ⟨_, _, rfl, Same.sqL g h, r⟩
  · exact ⟨p, vs, rfl, .of h1, h2⟩
theorem Av.tuple (g : Same G H) (h : Av K G H v (.tuple ds)) : ∃ a vs, v = .ref a ∧ SqT K H a vs ∧ RpL K G vs ds := by
  rcases h with h | ⟨p, rfl, h⟩
  · cases h with
    | tup h r => exact ⟨_, _, rfl, .of (g _ _ h), r⟩
  · exact h.elim
theorem kD_no (k : Key) : kD k ≠ .none := by cases k <;> exact fun z => nomatch z
theorem zip_no {α : Type} {f : α → D} (hf : ∀ a, f a ≠ .none) {ks : List α} {ds : List D} {d : D} {r : List (D × D)} (h : (.none, d) :: r = (ks.map f).zip ds) : False := by
  cases ks with
  | nil => cases h
  | cons k ks =>
    cases ds with
    | nil => cases h
    | cons e ds =>
      rw [List.map_cons, List.zip_cons_cons] at h
      exact hf k (Prod.mk.inj (List.cons.inj h).1).1.symm
theorem kT_no (k : List Key) : kT k ≠ .none := fun z => nomatch z
theorem Rp.ktI (h : Rp K H v (kt ds)) : ∃ a vs, v = .ref a ∧ SqT K H a vs ∧ RpL K H vs ds := by
  generalize e : kt ds = d at h
  cases h with
  | ktp h r =>
    unfold kt at e
    cases e
    exact ⟨_, _, rfl, h, r⟩
  | dcK l h r =>
    unfold kt at e
    exact (zip_no kD_no (PyData.dict.inj e)).elim
  | dcT l h r =>
    unfold kt at e
    exact (zip_no kT_no (PyData.dict.inj e)).elim
  | _ => unfold kt at e; cases e
theorem OwnAt.ktI {p : Addr} (h : OwnAt K G H p (kt ds)) : False := by
  unfold kt at h
  rcases h with ⟨ks, vs, es, e, _⟩ | ⟨ks, vs, es, e, _⟩
  · exact zip_no kD_no e
  · exact zip_no kT_no e
theorem Av.ktI (g : Same G H) (h : Av K G H v (kt ds)) : ∃ a vs, v = .ref a ∧ SqT K H a vs ∧ RpL K G vs ds := by
  rcases h with h | ⟨p, rfl, h⟩
  · obtain ⟨a, vs, e, h1, h2⟩ := h.ktI
    exact ⟨a, vs, e, Same.sqT g h1, h2⟩
  · exact h.ktI.elim
theorem Av.int {i : Int} (h : Av K G H v (.int i)) : v = .int i := by
  rcases h with h | ⟨p, rfl, h⟩
  · cases h; rfl
  · exact h.elim
theorem Av.str {x : Str} (h : Av K G H v (.str x)) : v = .str x := by
  rcases h with h | ⟨p, rfl, h⟩
  · cases h; rfl
  · exact h.elim
theorem Av.bl {b : Bool} (h : Av K G H v (.bool b)) : v = .bl b := by
  rcases h with h | ⟨p, rfl, h⟩
  · cases h; rfl
  · exact h.elim
theorem Av.non (h : Av K G H v .none) : v = .non := by
  rcases h with h | ⟨p, rfl, h⟩
  · cases h; rfl
  · exact h.elim
/-- what may be asked: as Av, a tuple of the written part too -/
def Aw (K : PySem.W.Frag) (G H : Hp) (v : V) (d : D) : Prop := Av K G H v d ∨ ∃ ds a vs, d = .tuple ds ∧ v = .ref a ∧ SqT K H a vs ∧ RpL K G vs ds
theorem Aw.of {d : D} (h : Av K G H v d) : Aw K G H v d := .inl h
theorem unk_cases (d : D) : unk d = d ∨ ∃ ds, d = kt ds ∧ unk d = .tuple ds := by
  unfold unk
  split
  · exact .inr ⟨_, rfl, rfl⟩
  · exact .inl rfl
theorem Av.unk {d : D} (g : Same G H) (h : Av K G H v d) : Aw K G H v (unk d) := by
  rcases unk_cases d with e | ⟨ds, rfl, e⟩
  · rw [e]; exact .inl h
  · rw [e]
    obtain ⟨a, vs, h1, h2, h3⟩ := h.ktI g
    exact .inr ⟨ds, a, vs, rfl, h1, h2, h3⟩
theorem Aw.list (g : Same G H) (h : Aw K G H v (.list ds)) : ∃ a vs, v = .ref a ∧ SqL K H a vs ∧ RpL K G vs ds := by
  rcases h with h | ⟨_, _, _, e, _⟩
  · exact h.list g
  · cases e
theorem Aw.tuple (g : Same G H) (h : Aw K G H v (.tuple ds)) : ∃ a vs, v = .ref a ∧ SqT K H a vs ∧ RpL K G vs ds := by
  rcases h with h | ⟨_, a, vs, e, h1, h2, h3⟩
  · exact h.tuple g
  · cases e
    exact ⟨a, vs, h1, h2, h3⟩
theorem Aw.int {i : Int} (h : Aw K G H v (.int i)) : v = .int i := by
  rcases h with h | ⟨_, _, _, e, _⟩
  · exact h.int
  · cases e
theorem Aw.str {x : Str} (h : Aw K G H v (.str x)) : v = .str x := by
  rcases h with h | ⟨_, _, _, e, _⟩
  · exact h.str
  · cases e
theorem Aw.bl {b : Bool} (h : Aw K G H v (.bool b)) : v = .bl b := by
  rcases h with h | ⟨_, _, _, e, _⟩
  · exact h.bl
  · cases e
theorem Aw.non (h : Aw K G H v .none) : v = .non := by
  rcases h with h | ⟨_, _, _, e, _⟩
  · exact h.non
  · cases e
theorem Res.int {fr : Bool} {i : Int} : Res K fr G H H' (.int i) (.int i) := ⟨fun _ z => (nomatch z), .inl (.int i)⟩
theorem Res.str {fr : Bool} {x : Str} : Res K fr G H H' (.str x) (.str x) := ⟨fun _ z => (nomatch z), .inl (.str x)⟩
theorem Res.bl {fr : Bool} {b : Bool} : Res K fr G H H' (.bl b) (.bool b) := ⟨fun _ z => (nomatch z), .inl (.bl b)⟩
theorem Res.non {fr : Bool} : Res K fr G H H' .non .none := ⟨fun _ z => (nomatch z), .inl .non⟩
theorem Res.of {fr : Bool} {d : D} (h : Rp K G v d) (hb : fr = true → box d = false) : Res K fr G H H' v d := ⟨fun f z => (by rw [hb f] at z; cases z), .inl h⟩
theorem Res.lst {fr : Bool} {p : Addr} {vs : List V} (hp : H p = none) (r : RpL K G vs ds) : Res K fr G H (upd H p (.lst vs)) (.ref p) (.list ds) :=
  have n : New K G H (upd H p (.lst vs)) (.ref p) (.list ds) := ⟨p, rfl, hp, .inl ⟨vs, upd_same, r⟩⟩
  ⟨fun _ _ => n, .inr n⟩
theorem Res.tup {fr : Bool} {p : Addr} {vs : List V} (hp : H p = none) (r : RpL K G vs ds) : Res K fr G H (upd H p (.tup vs)) (.ref p) (.tuple ds) :=
  have n : New K G H (upd H p (.tup vs)) (.ref p) (.tuple ds) := ⟨p, rfl, hp, .inr ⟨vs, ds, rfl, upd_same, r⟩⟩
  ⟨fun _ z => (nomatch z), .inr n⟩
theorem same_upd {H : Hp} {p : Addr} {o : HO} (h : H p = none) : Same H (upd H p o) := fun b x e => by
  rw [upd_ne (ne_of_none e h)]
  exact e
end

/-! ### flat data for the library's own comparisons -/
mutual
theorem Rp.dp {K : PySem.W.Frag} {H : Hp} : ∀ {v : V} {d : D}, Rp K H v d → d.canLay0 = true → Dp K H v d
  | _, _, .non, _ => .non
  | _, _, .bl b, _ => .bl b
  | _, _, .int i, _ => .int i
  | _, _, .str x, _ => .str x
  | _, _, .lst h r, c => .lst h (RpL.dp r c)
  | _, _, .tup h r, c => .tup (.of h) (RpL.dp r c)
  | _, _, .ktp _ _, c => by simp [kt, PyData.canLay0] at c
  | _, _, .dcK _ _ _, c => by simp [PyData.canLay0] at c
  | _, _, .dcT _ _ _, c => by simp [PyData.canLay0] at c
theorem RpL.dp {K : PySem.W.Frag} {H : Hp} : ∀ {vs : List V} {ds : List D}, RpL K H vs ds → PyData.canLayAll0 ds = true → DpAll K H vs ds
  | _, _, .nil, _ => .nil
  | _, _, .cons h r, c => by
    simp only [PyData.canLayAll0, Bool.and_eq_true] at c
    exact .cons (h.dp c.1) (r.dp c.2)
end
theorem Aw.dp {K : PySem.W.Frag} {G H : Hp} {v : V} {d : D} (g : Same G H) (h : Aw K G H v d) (c : d.canLay0 = true) : Dp K H v d := by
  rcases h with h | ⟨ds, a, vs, rfl, rfl, h1, h2⟩
  · exact (h.rp g).dp c
  · exact .tup h1 ((h2.mono g).dp (by simpa [PyData.canLay0] using c))
theorem flat_lay {d : D} (h : flat d = true) : d.canLay0 = true := SeqAt.canLay_of_shaped h

/-! ### results of a bind -/
theorem grd_ok {α : Type} {b : Bool} {x : R α} {a : α} (h : grd b x = .ok a) : b = true ∧ x = .ok a := by
  cases b with
  | true => exact ⟨rfl, h⟩
  | false => cases h

mutual
theorem alike_sym : ∀ {x y : D}, PySem.W.alike x y = true → PySem.W.alike y x = true
  | .none, y, h => by cases y <;> simp_all [PySem.W.alike]
  | .bool _, y, h => by cases y <;> simp_all [PySem.W.alike]
  | .int _, y, h => by cases y <;> simp_all [PySem.W.alike]
  | .str _, y, h => by cases y <;> simp_all [PySem.W.alike]
  | .list xs, .list ys, h => by
    rw [PySem.W.alike] at h ⊢
    exact alike_symL h
  | .tuple xs, .tuple ys, h => by
    rw [PySem.W.alike] at h ⊢
    exact alike_symL h
  | .list _, .none, h => by simp [PySem.W.alike] at h
  | .list _, .bool _, h => by simp [PySem.W.alike] at h
  | .list _, .int _, h => by simp [PySem.W.alike] at h
  | .list _, .str _, h => by simp [PySem.W.alike] at h
  | .list _, .tuple _, h => by simp [PySem.W.alike] at h
  | .list _, .dict _, h => by simp [PySem.W.alike] at h
  | .tuple _, .none, h => by simp [PySem.W.alike] at h
  | .tuple _, .bool _, h => by simp [PySem.W.alike] at h
  | .tuple _, .int _, h => by simp [PySem.W.alike] at h
  | .tuple _, .str _, h => by simp [PySem.W.alike] at h
  | .tuple _, .list _, h => by simp [PySem.W.alike] at h
  | .tuple _, .dict _, h => by simp [PySem.W.alike] at h
  | .dict _, y, h => by simp [PySem.W.alike] at h
theorem alike_symL : ∀ {xs ys : List D}, PySem.W.alikeAll xs ys = true → PySem.W.alikeAll ys xs = true
  | [], [], _ => by simp [PySem.W.alikeAll]
  | [], _ :: _, _ => by simp [PySem.W.alikeAll]
  | _ :: _, [], _ => by simp [PySem.W.alikeAll]
  | x :: xs, y :: ys, h => by
    rw [PySem.W.alikeAll, Bool.and_eq_true] at h ⊢
    exact ⟨alike_sym h.1, alike_symL h.2⟩
end
section
variable {X : Cx}
/-- by values and data: f, what it gives -/
def rD2 (K : PySem.W.Frag) (fr : Bool) (f : D → D → R D) : R2 := fun x y H Q => ∃ G dx dy d, Same G H ∧ Aw K G H x dx ∧ Aw K G H y dy ∧ f dx dy = .ok d ∧
  ∀ H' v, Same H H' → Res K fr G H H' v d → Q v H'
def rI2 (K : PySem.W.Frag) (fr : Bool) (f : D → D → R D) : R2 := fun x y H Q => ∃ G dx dy d, Same G H ∧ Aw K G H x dx ∧ Av K G H y dy ∧ f dx dy = .ok d ∧
  ∀ H' v, Same H H' → Res K fr G H H' v d → Q v H'
def rC2 (K : PySem.W.Frag) (f : D → D → R Bool) : R2 := fun x y H Q => ∃ G dx dy t, Same G H ∧ Av K G H x dx ∧ Aw K G H y dy ∧ f dx dy = .ok t ∧ Q (.bl t) H

def BinO.op : BinO → Operator
  | .add => .Add | .sub => .Sub | .mul => .Mult | .fdiv => .FloorDiv | .mod => .Mod | .pow => .Pow
theorem fitL_le {n : Nat} (h : fitL n = true) : n ≤ sizeLine := by
  have := of_decide_eq_true h
  rw [sizeLine_eq]
  exact this
theorem op_cat2 : OpR X (binaryOp .Add) (fun x y H Q => ∃ l b xs zs, x = .ref l ∧ y = .ref b ∧ SqL X.K H l xs ∧ SqL X.K H b zs ∧ xs.length + zs.length ≤ sizeLine ∧ ∀ p, H p = none → Q (.ref p) (upd H p (.lst (xs ++ zs)))) := by
  intro pins s σ H x y v u Q I rx ry h
  obtain ⟨l, b, xs, zs, rfl, rfl, hH, hB, hz, q⟩ := h
  cases rx
  cases ry
  obtain ⟨its, r, ⟨⟨cls, dd, data, sl⟩, n, ho, hc, _, hd⟩, _⟩ := I.list hH
  obtain ⟨its2, r2, ⟨⟨cls2, dd2, data2, sl2⟩, n2, ho2, hc2, _, hd2⟩, _⟩ := I.list hB
  simp only at hc hd hc2 hd2
  subst hc hd hc2 hd2
  have hl := r.length
  have hl2 := r2.length
  have ea : its.toArray ++ its2.toArray = (its ++ its2).toArray := by simp
  refine concat_meets ⟨_, ho, rfl⟩ ⟨_, ho2, rfl⟩ noFill_list_add seq_list_add PySem.F.slot_list_add PySem.F.entry_list_add (PySem.F.args_list_add_2 _ _) (list_addW l b its.toArray its2.toArray n n2 dd dd2 sl sl2 (by simp; omega)) ⟨ho, ho2, ?_⟩
  rw [ea]
  exact ⟨.ref _, _, I.lnew (t' := s.toks) (r.append r2) (by rw [List.length_append]; omega), rfl, q _ I.fresh⟩
theorem op_bin (o : BinO) : OpR X (binaryOp o.op) (rD2 X.K true (binD o)) := by
  intro pins s σ H x y v u Q I rx ry h
  obtain ⟨G, dx, dy, d, g, hx, hy, hf, q⟩ := h
  cases o with
  | add =>
    cases dx with
    | int i =>
      cases dy with
      | int j =>
        cases hf
        exact op_add pins s σ H x y v u Q I rx ry ⟨i, j, hx.int, hy.int, q _ _ (Same.refl H) .int⟩
      | _ => cases hf
    | str a =>
      cases dy with
      | str b =>
        obtain ⟨hb, e⟩ := grd_ok hf
        cases e
        exact op_add_str pins s σ H x y v u Q I rx ry ⟨a, b, hx.str, hy.str, fitL_le hb, q _ _ (Same.refl H) .str⟩
      | _ => cases hf
    | list xs =>
      cases dy with
      | list ys =>
        obtain ⟨hb, e⟩ := grd_ok hf
        cases e
        obtain ⟨a, vs, e1, ha, r1⟩ := hx.list g
        obtain ⟨b, us, e2, hb2, r2⟩ := hy.list g
        have l1 := r1.length
        have l2 := r2.length
        exact op_cat2 pins s σ H x y v u Q I rx ry ⟨a, b, vs, us, e1, e2, ha, hb2, by have := fitL_le hb; omega, fun p hp => q _ _ (same_upd hp) (.lst hp (r1.append r2))⟩
      | _ => cases hf
    | tuple xs =>
      cases dy with
      | tuple ys =>
        obtain ⟨hb, e⟩ := grd_ok hf
        cases e
        obtain ⟨a, vs, e1, ha, r1⟩ := hx.tuple g
        obtain ⟨b, us, e2, hb2, r2⟩ := hy.tuple g
        have l1 := r1.length
        have l2 := r2.length
        rw [Bool.and_eq_true, Bool.and_eq_true] at hb
        have n1 : vs ≠ [] := fun z => by
          rw [z] at l1
          cases xs with
          | nil => cases hb.1.1
          | cons _ _ => cases l1
        have n2 : us ≠ [] := fun z => by
          rw [z] at l2
          cases ys with
          | nil => cases hb.1.2
          | cons _ _ => cases l2
        exact op_catA pins s σ H x y v u Q I rx ry ⟨a, b, vs, us, e1, e2, ha, hb2, by have := fitL_le hb.2; omega, fun z => (n1 z).elim, fun _ z => (n2 z).elim, fun _ _ p hp => q _ _ (same_upd hp) (.tup hp (r1.append r2))⟩
      | _ => cases hf
    | _ => cases dy <;> cases hf
  | sub =>
    cases dx with
    | int i =>
      cases dy with
      | int j =>
        cases hf
        exact op_sub pins s σ H x y v u Q I rx ry ⟨i, j, hx.int, hy.int, q _ _ (Same.refl H) .int⟩
      | _ => cases hf
    | _ => cases dy <;> cases hf
  | mul =>
    cases dx with
    | int i =>
      cases dy with
      | int j =>
        obtain ⟨hb, e⟩ := grd_ok hf
        cases e
        exact op_mulW pins s σ H x y v u Q I rx ry ⟨i, j, hx.int, hy.int, (show i.natAbs.log2 + j.natAbs.log2 < 1000000 from of_decide_eq_true hb), q _ _ (Same.refl H) .int⟩
      | _ => cases hf
    | _ => cases dy <;> cases hf
  | fdiv =>
    cases dx with
    | int i =>
      cases dy with
      | int j =>
        obtain ⟨hb, e⟩ := grd_ok hf
        cases e
        rw [Bool.and_eq_true] at hb
        exact op_fdivW pins s σ H x y v u Q I rx ry ⟨i, j, hx.int, hy.int, ⟨of_decide_eq_true hb.1, of_decide_eq_true hb.2⟩, q _ _ (Same.refl H) .int⟩
      | _ => cases hf
    | _ => cases dy <;> cases hf
  | mod =>
    cases dx with
    | int i =>
      cases dy with
      | int j =>
        obtain ⟨hb, e⟩ := grd_ok hf
        cases e
        exact op_mod pins s σ H x y v u Q I rx ry ⟨i, j, hx.int, hy.int, of_decide_eq_true hb, q _ _ (Same.refl H) .int⟩
      | _ => cases hf
    | _ => cases dy <;> cases hf
  | pow =>
    cases dx with
    | int i =>
      cases dy with
      | int j =>
        obtain ⟨hb, e⟩ := grd_ok hf
        cases e
        rw [Bool.and_eq_true, Bool.and_eq_true] at hb
        exact op_pow pins s σ H x y v u Q I rx ry ⟨i, j, hx.int, hy.int, ⟨of_decide_eq_true hb.1.1, of_decide_eq_true hb.1.2, of_decide_eq_true hb.2⟩, q _ _ (Same.refl H) .int⟩
      | _ => cases hf
    | _ => cases dy <;> cases hf

def CmpO.op : CmpO → CmpOp
  | .eq => .Eq | .ne => .NotEq | .lt => .Lt | .le => .LtE | .gt => .Gt | .ge => .GtE | .inn => .In | .nin => .NotIn | .isn => .Is | .isnn => .IsNot
theorem isn_eq {K : PySem.W.Frag} {G H : Hp} {x : V} {d : D} (h : Aw K G H x d) : decide (x = V.non) = isNo d := by
  rcases h with (h | ⟨p, rfl, h⟩) | ⟨_, _, _, rfl, rfl, _⟩
  · cases h <;> simp [isNo, kt]
  · cases d <;> first | (simp [isNo]; done) | exact h.elim
  · simp [isNo]
theorem Aw.rpA {K : PySem.W.Frag} {G H : Hp} {x : V} {d : D} (g : Same G H) (h : Aw K G H x d) (a : atom d = true) : Rp K H x d := by
  rcases h with h | ⟨_, _, _, rfl, _⟩
  · exact h.rp g
  · cases a
theorem flatV_of {K : PySem.W.Frag} {H : Hp} {v : V} {d : D} (h : Rp K H v d) (a : atom d = true) : flatV v = true := by
  cases h <;> first | rfl | cases a
theorem eqV_of {K : PySem.W.Frag} {H : Hp} {v u : V} {d e : D} (h : Rp K H v d) (k : Rp K H u e) (a : atom d = true) (b : atom e = true) : eqV v u = PyData.eqv d e := by
  cases h <;> first
    | (cases a; done)
    | (cases k <;> first | (cases b; done) | simp [eqV, PyData.eqv])
theorem in_tup {K : PySem.W.Frag} {H : Hp} {x : V} {dx : D} (h : Rp K H x dx) (a : atom dx = true) : ∀ {vs : List V} {ds : List D}, RpL K H vs ds → ds.all atom = true → vs.all flatV = true ∧ (vs.any fun y => eqV y x) = ds.any fun z => PyData.eqv z dx
  | _, _, .nil, _ => ⟨rfl, rfl⟩
  | _, _, .cons r rs, b => by
    rw [List.all_cons, Bool.and_eq_true] at b
    obtain ⟨h1, h2⟩ := in_tup h a rs b.2
    rw [List.all_cons, List.any_cons, List.any_cons, h1, h2, flatV_of r b.1, eqV_of r h b.1 a]
    exact ⟨rfl, rfl⟩
/-! ### the order of tuples and lists -/
theorem ord_in {pins : List (Addr × Obj)} {s : Shared} {σ : L2.St} {G H : Hp} {x y : V} {v u : Value} {dx dy : D} (hu : X.A.units + 65 < cLine) (I : Inv X pins σ H s) (g : Same G H) (hx : Aw X.K G H x dx) (hy : Aw X.K G H y dy) (rx : RelV x v) (ry : RelV y u) (hb : ordOk dx dy = true) :
    (∃ as, Reads s.heap v dx as) ∧ (∃ bs, Reads s.heap u dy bs) ∧ PySem.W.alike dx dy = true ∧ PySem.W.alike dy dx = true ∧ X.A.units + min dx.depth dy.depth < cLine ∧ X.A.units + min dy.depth dx.depth < cLine := by
  unfold ordOk at hb
  simp only [Bool.and_eq_true, decide_eq_true_eq] at hb
  obtain ⟨⟨⟨h1, h2⟩, h3⟩, h4⟩ := hb
  have m1 : min dx.depth dy.depth ≤ 60 := Nat.le_trans (Nat.min_le_left _ _) h4
  have m2 : min dy.depth dx.depth ≤ 60 := Nat.le_trans (Nat.min_le_right _ _) h4
  exact ⟨Dp.reads I dx x v (hx.dp g h2) rx, Dp.reads I dy y u (hy.dp g h3) ry, h1, alike_sym h1, by omega, by omega⟩
theorem R.bind_inv {α β : Type} {x : R α} {f : α → R β} {b : β} (h : x.bind f = .ok b) : ∃ a, x = .ok a ∧ f a = .ok b := by
  cases x with
  | ok a => exact ⟨a, rfl, h⟩
  | exc c a => cases h
  | stuck => cases h
theorem lookD_key {kds : List (D × D)} {k : D} {o : Option D} (h : lookD kds k = .ok o) : box k = false := by
  cases k with
  | list _ => cases h
  | dict _ => cases h
  | _ => rfl
/-- a key is as Rp, a dict is frozen or owned -/
theorem dict_args {K : PySem.W.Frag} {G H : Hp} {x y : V} {k : D} {kds : List (D × D)} {o : Option D} (hx : Av K G H x k) (hy : Aw K G H y (.dict kds)) (h : lookD kds k = .ok o) :
    Rp K G x k ∧ (Rp K G y (.dict kds) ∨ ∃ p, y = .ref p ∧ OwnAt K G H p (.dict kds)) := by
  refine ⟨?_, ?_⟩
  · rcases hx with h1 | ⟨p, rfl, h1⟩
    · exact h1
    · have := lookD_key h
      cases k with
      | list _ => cases this
      | dict _ => cases this
      | _ => exact h1.elim
  · rcases hy with h1 | ⟨_, _, _, e, _⟩
    · exact h1
    · cases e
theorem op_cmpD (hu : X.A.units + 65 < cLine) (o : CmpO) : OpR X (compareOp o.op) (rC2 X.K (cmpD o)) := by
  intro pins s σ H x y v u Q I rx ry h
  obtain ⟨G, dx, dy, t, g, hx, hy, hf, q⟩ := h
  cases o with
  | eq =>
    obtain ⟨hb, e⟩ := grd_ok (show grd (flat dx && flat dy) (.ok (PyData.eqv dx dy)) = .ok t from hf)
    cases e
    rw [Bool.and_eq_true] at hb
    exact op_eqD (by omega) pins s σ H x y v u Q I rx ry ⟨dx, dy, (Aw.of hx).dp g (flat_lay hb.1), hy.dp g (flat_lay hb.2), hb.1, hb.2, q⟩
  | ne =>
    obtain ⟨hb, e⟩ := grd_ok (show grd (flat dx && flat dy) (.ok (!PyData.eqv dx dy)) = .ok t from hf)
    cases e
    rw [Bool.and_eq_true] at hb
    exact op_neD (by omega) pins s σ H x y v u Q I rx ry ⟨dx, dy, (Aw.of hx).dp g (flat_lay hb.1), hy.dp g (flat_lay hb.2), hb.1, hb.2, q⟩
  | lt =>
    cases dx with
    | int i =>
      cases dy with
      | int j =>
        cases hf
        exact op_lt pins s σ H x y v u Q I rx ry ⟨i, j, hx.int, hy.int, q⟩
      | _ => cases hf
    | str i =>
      cases dy with
      | str j =>
        cases hf
        exact op_lt_str pins s σ H x y v u Q I rx ry ⟨i, j, hx.str, hy.str, q⟩
      | _ => cases hf
    | tuple xs =>
      cases dy with
      | tuple ys =>
        obtain ⟨hb, e⟩ := grd_ok hf
        cases e
        obtain ⟨⟨as, h1⟩, ⟨bs, h2⟩, h3, h4, h5, h6⟩ := ord_in hu I g (.inl hx) hy rx ry hb
        exact PySem.W.lt_data h1 h2 h3 (fun z => nomatch z) h5 ⟨.bl _, H, I, rfl, q⟩
      | _ => cases hf
    | list xs =>
      cases dy with
      | list ys =>
        obtain ⟨hb, e⟩ := grd_ok hf
        cases e
        obtain ⟨⟨as, h1⟩, ⟨bs, h2⟩, h3, h4, h5, h6⟩ := ord_in hu I g (.inl hx) hy rx ry hb
        exact PySem.W.lt_data h1 h2 h3 (fun z => nomatch z) h5 ⟨.bl _, H, I, rfl, q⟩
      | _ => cases hf
    | _ => cases dy <;> cases hf
  | le =>
    cases dx with
    | int i =>
      cases dy with
      | int j =>
        cases hf
        exact op_le pins s σ H x y v u Q I rx ry ⟨i, j, hx.int, hy.int, q⟩
      | _ => cases hf
    | str i =>
      cases dy with
      | str j =>
        cases hf
        exact op_le_str pins s σ H x y v u Q I rx ry ⟨i, j, hx.str, hy.str, q⟩
      | _ => cases hf
    | tuple xs =>
      cases dy with
      | tuple ys =>
        obtain ⟨hb, e⟩ := grd_ok hf
        cases e
        obtain ⟨⟨as, h1⟩, ⟨bs, h2⟩, h3, h4, h5, h6⟩ := ord_in hu I g (.inl hx) hy rx ry hb
        exact PySem.W.le_data h1 h2 h3 (fun z => nomatch z) h5 ⟨.bl _, H, I, rfl, q⟩
      | _ => cases hf
    | list xs =>
      cases dy with
      | list ys =>
        obtain ⟨hb, e⟩ := grd_ok hf
        cases e
        obtain ⟨⟨as, h1⟩, ⟨bs, h2⟩, h3, h4, h5, h6⟩ := ord_in hu I g (.inl hx) hy rx ry hb
        exact PySem.W.le_data h1 h2 h3 (fun z => nomatch z) h5 ⟨.bl _, H, I, rfl, q⟩
      | _ => cases hf
    | _ => cases dy <;> cases hf
  | gt =>
    cases dx with
    | int i =>
      cases dy with
      | int j =>
        cases hf
        exact op_gt pins s σ H x y v u Q I rx ry ⟨i, j, hx.int, hy.int, q⟩
      | _ => cases hf
    | str i =>
      cases dy with
      | str j =>
        cases hf
        exact op_gt_str pins s σ H x y v u Q I rx ry ⟨i, j, hx.str, hy.str, q⟩
      | _ => cases hf
    | tuple xs =>
      cases dy with
      | tuple ys =>
        obtain ⟨hb, e⟩ := grd_ok hf
        cases e
        obtain ⟨⟨as, h1⟩, ⟨bs, h2⟩, h3, h4, h5, h6⟩ := ord_in hu I g (.inl hx) hy rx ry hb
        exact PySem.W.gt_data h1 h2 h3 (fun z => nomatch z) h5 ⟨.bl _, H, I, rfl, q⟩
      | _ => cases hf
    | list xs =>
      cases dy with
      | list ys =>
        obtain ⟨hb, e⟩ := grd_ok hf
        cases e
        obtain ⟨⟨as, h1⟩, ⟨bs, h2⟩, h3, h4, h5, h6⟩ := ord_in hu I g (.inl hx) hy rx ry hb
        exact PySem.W.gt_data h1 h2 h3 (fun z => nomatch z) h5 ⟨.bl _, H, I, rfl, q⟩
      | _ => cases hf
    | _ => cases dy <;> cases hf
  | ge =>
    cases dx with
    | int i =>
      cases dy with
      | int j =>
        cases hf
        exact op_ge pins s σ H x y v u Q I rx ry ⟨i, j, hx.int, hy.int, q⟩
      | _ => cases hf
    | str i =>
      cases dy with
      | str j =>
        cases hf
        exact op_ge_str pins s σ H x y v u Q I rx ry ⟨i, j, hx.str, hy.str, q⟩
      | _ => cases hf
    | tuple xs =>
      cases dy with
      | tuple ys =>
        obtain ⟨hb, e⟩ := grd_ok hf
        cases e
        obtain ⟨⟨as, h1⟩, ⟨bs, h2⟩, h3, h4, h5, h6⟩ := ord_in hu I g (.inl hx) hy rx ry hb
        exact PySem.W.ge_data h1 h2 h3 (fun z => nomatch z) h5 ⟨.bl _, H, I, rfl, q⟩
      | _ => cases hf
    | list xs =>
      cases dy with
      | list ys =>
        obtain ⟨hb, e⟩ := grd_ok hf
        cases e
        obtain ⟨⟨as, h1⟩, ⟨bs, h2⟩, h3, h4, h5, h6⟩ := ord_in hu I g (.inl hx) hy rx ry hb
        exact PySem.W.ge_data h1 h2 h3 (fun z => nomatch z) h5 ⟨.bl _, H, I, rfl, q⟩
      | _ => cases hf
    | _ => cases dy <;> cases hf
  | inn =>
    cases dy with
    | list ds =>
      obtain ⟨hb, e⟩ := grd_ok (show grd (flat dx && flat (.list ds)) (.ok (ds.any fun z => PyData.eqv z dx)) = .ok t from hf)
      cases e
      rw [Bool.and_eq_true] at hb
      exact op_inD hu pins s σ H x y v u Q I rx ry ⟨dx, ds, (Aw.of hx).dp g (flat_lay hb.1), hy.dp g (flat_lay hb.2), hb.1, hb.2, q⟩
    | tuple ds =>
      obtain ⟨hb, e⟩ := grd_ok (show grd (atom dx && ds.all atom) (.ok (ds.any fun z => PyData.eqv z dx)) = .ok t from hf)
      cases e
      rw [Bool.and_eq_true] at hb
      obtain ⟨a, vs, rfl, ha, r⟩ := hy.tuple g
      obtain ⟨h1, h2⟩ := in_tup ((Aw.of hx).rpA g hb.1) hb.1 (r.mono g) hb.2
      refine op_in_seq pins s σ H x _ v u Q I rx ry ⟨a, vs, rfl, .inr ha, flatV_of ((Aw.of hx).rpA g hb.1) hb.1, h1, ?_⟩
      show Q (.bl (vs.any fun y => eqV y x)) H
      rw [h2]
      exact q
    | str z =>
      cases dx with
      | str i =>
        cases hf
        exact op_in_str pins s σ H x y v u Q I rx ry ⟨i, z, hx.str, hy.str, q⟩
      | _ => cases hf
    | dict kds =>
      obtain ⟨o, ho, e⟩ := R.bind_inv (show (lookD kds dx).bind (fun o => .ok o.isSome) = .ok t from hf)
      cases e
      obtain ⟨hx', hy'⟩ := dict_args hx hy ho
      obtain ⟨a, r, rfl, g1, g2, _⟩ := look_ok g hy' hx' ho
      cases (show u = Value.ref a from ry)
      exact d_in (by omega) I g1 rx fun s' I' => ⟨.bl r.isSome, H, I', rfl, by rw [g2]; exact q⟩
    | _ => cases dx <;> cases hf
  | nin =>
    cases dy with
    | list ds =>
      obtain ⟨hb, e⟩ := grd_ok (show grd (flat dx && flat (.list ds)) (.ok (!ds.any fun z => PyData.eqv z dx)) = .ok t from hf)
      cases e
      rw [Bool.and_eq_true] at hb
      exact op_notInD hu pins s σ H x y v u Q I rx ry ⟨dx, ds, (Aw.of hx).dp g (flat_lay hb.1), hy.dp g (flat_lay hb.2), hb.1, hb.2, q⟩
    | tuple ds =>
      obtain ⟨hb, e⟩ := grd_ok (show grd (atom dx && ds.all atom) (.ok (!ds.any fun z => PyData.eqv z dx)) = .ok t from hf)
      cases e
      rw [Bool.and_eq_true] at hb
      obtain ⟨a, vs, rfl, ha, r⟩ := hy.tuple g
      obtain ⟨h1, h2⟩ := in_tup ((Aw.of hx).rpA g hb.1) hb.1 (r.mono g) hb.2
      refine op_notIn_seq pins s σ H x _ v u Q I rx ry ⟨a, vs, rfl, .inr ha, flatV_of ((Aw.of hx).rpA g hb.1) hb.1, h1, ?_⟩
      show Q (.bl (!vs.any fun y => eqV y x)) H
      rw [h2]
      exact q
    | str z =>
      cases dx with
      | str i =>
        cases hf
        exact op_notIn_str pins s σ H x y v u Q I rx ry ⟨i, z, hx.str, hy.str, q⟩
      | _ => cases hf
    | dict kds =>
      obtain ⟨o, ho, e⟩ := R.bind_inv (show (lookD kds dx).bind (fun o => .ok (!o.isSome)) = .ok t from hf)
      cases e
      obtain ⟨hx', hy'⟩ := dict_args hx hy ho
      obtain ⟨a, r, rfl, g1, g2, _⟩ := look_ok g hy' hx' ho
      cases (show u = Value.ref a from ry)
      exact d_notIn (by omega) I g1 rx fun s' I' => ⟨.bl (!r.isSome), H, I', rfl, by rw [g2]; exact q⟩
    | _ => cases dx <;> cases hf
  | isn =>
    cases dy with
    | none =>
      have e : t = decide (x = V.non) := by
        rw [isn_eq (.inl hx)]
        exact (R.ok.inj (show R.ok (isNo dx) = .ok t from hf)).symm
      subst e
      exact op_isN pins s σ H x y v u Q I rx ry ⟨hy.non, q⟩
    | bool b =>
      cases dx with
      | bool a =>
        have e : t = decide (a = b) := (R.ok.inj (show R.ok (a == b) = .ok t from hf)).symm.trans (by cases a <;> cases b <;> rfl)
        subst e
        exact op_isBl pins s σ H x y v u Q I rx ry ⟨a, b, (Av.bl hx), hy.bl, q⟩
      | _ => cases hf
    | _ => cases dx <;> cases hf
  | isnn =>
    cases dy with
    | none =>
      have e : t = !decide (x = V.non) := by
        rw [isn_eq (.inl hx)]
        exact (R.ok.inj (show R.ok (!isNo dx) = .ok t from hf)).symm
      subst e
      exact op_notN pins s σ H x y v u Q I rx ry ⟨hy.non, q⟩
    | bool b =>
      cases dx with
      | bool a =>
        have e : t = !decide (a = b) := (R.ok.inj (show R.ok (!(a == b)) = .ok t from hf)).symm.trans (by cases a <;> cases b <;> rfl)
        subst e
        exact op_notBl pins s σ H x y v u Q I rx ry ⟨a, b, (Av.bl hx), hy.bl, q⟩
      | _ => cases hf
    | _ => cases dx <;> cases hf
end
end Mt
/-! Part C2: subscripts, slices, builtins, truth, by values. -/
namespace Mt
open PySem PySem.Spec PyProof.Rows L2
section
variable {X : Cx}
theorem atI_get2 {K : PySem.W.Frag} {H : Hp} {vs : List V} {ds : List D} {i : Int} {d : D} (r : RpL K H vs ds) (h : atI ds i = some d) : ∃ v, atI vs i = some v ∧ Rp K H v d := by
  unfold atI at h ⊢
  rw [← r.length] at h
  cases e : ixN vs.length i with
  | none => rw [e] at h; cases h
  | some j =>
    rw [e] at h
    exact r.getD h
theorem atD_ok {xs : List D} {i : Int} {d : D} (h : atD xs i = .ok d) : atI xs i = some d := by
  unfold atD at h
  split at h
  · rename_i x e
    cases h
    exact e
  · cases h
theorem ix_dict (hu : X.A.units + 1 < cLine) : IxR X (fun x y H Q => ∃ a v, x = .ref a ∧ DGet H a y (some v) ∧ Q v H) := by
  rintro value slice pins s σ H x y v u Q I rx ry ⟨a, w, rfl, g, q⟩ hs
  cases (show v = Value.ref a from rx)
  have hT := dict_typeIs I g
  unfold subscriptTail
  refine wpAny_bind ?_
  rw [getitemInPython_of_ne hT.not_modules]
  refine wpAny_bind (wpAny_specialOf hT PySem.F.slot_dict_getitem.lookup ?_)
  have fin : wpAny (model X.prog X.w) X.A (subscripted slice false (.ref a) u) (fun r s₃ => wpAny (model X.prog X.w) X.A (letTemporaryGo value (.ref a) r >>= fun _ => pure r) (EP X pins σ Q) X.xe s₃) X.xe s := by
    rw [hs]
    exact wpAny_operating (d_getItem hu I g ry fun w' s3 I3 rw' => wpAny_bind (wpAny_letTemporaryGo (wpAny_pure ⟨w, H, I3, rw', q⟩)))
  first
    | exact wpAny_pure (wpAny_bind fin)
    | exact wpAny_bind (wpAny_pure (wpAny_bind fin))
    | exact wpAny_bind fin
theorem ix_D (hu : X.A.units + 1 < cLine) : IxR X (rI2 X.K false idxD) := by
  intro value slice pins s σ H x y v u Q I rx ry h hs
  obtain ⟨G, dx, dy, d, g, hx, hy, hf, q⟩ := h
  cases dx with
  | dict kds =>
    obtain ⟨o, ho, e⟩ := R.bind_inv (show (lookD kds dy).bind (fun o => match o with
      | some d => .ok d
      | none => .stuck) = .ok d from hf)
    obtain ⟨hy', hx'⟩ := dict_args hy hx ho
    obtain ⟨a, r, rfl, g1, g2, g3⟩ := look_ok g hx' hy' ho
    cases o with
    | none => cases e
    | some d0 =>
      cases e
      cases r with
      | none => cases g2
      | some w =>
        obtain ⟨d1, e1, rw'⟩ := g3 w rfl
        cases e1
        exact ix_dict hu value slice pins s σ H _ y v u Q I rx ry ⟨a, w, rfl, g1, q _ _ (Same.refl H) (.of rw' fun z => nomatch z)⟩ hs
  | list xs =>
    cases dy with
    | int i =>
      obtain ⟨a, vs, e, ha, r⟩ := hx.list g
      obtain ⟨z, hz, rz⟩ := atI_get2 r (atD_ok hf)
      exact ix_list value slice pins s σ H x y v u Q I rx ry ⟨a, vs, i, z, e, hy.int, ha, hz, q _ _ (Same.refl H) (.of rz fun z => nomatch z)⟩ hs
    | _ => cases hf
  | tuple xs =>
    cases dy with
    | int i =>
      obtain ⟨a, vs, e, ha, r⟩ := hx.tuple g
      obtain ⟨z, hz, rz⟩ := atI_get2 r (atD_ok hf)
      exact ix_tup value slice pins s σ H x y v u Q I rx ry ⟨a, vs, i, z, e, hy.int, ha, hz, q _ _ (Same.refl H) (.of rz fun z => nomatch z)⟩ hs
    | _ => cases hf
  | str z =>
    cases dy with
    | int i =>
      obtain ⟨hb, e⟩ := grd_ok hf
      cases c : atI z.cps.toList i with
      | none => rw [c] at e; cases e
      | some k =>
        rw [c] at e
        cases e
        exact ix_str value slice pins s σ H x y v u Q I rx ry ⟨z, i, k, hx.str, hy.int, fitL_le hb, c, q _ _ (Same.refl H) .str⟩ hs
    | _ => cases hf
  | _ => cases dy <;> cases hf

def rSlD (K : PySem.W.Frag) : V → Option Int → Option Int → Hp → VK → Prop := fun x lo hi H Q => ∃ G dx d, Same G H ∧ Av K G H x dx ∧ sliceD dx lo hi = .ok d ∧
  ∀ H' v, Same H H' → Res K true G H H' v d → Q v H'
theorem cut_rp {K : PySem.W.Frag} {H : Hp} {vs : List V} {ds : List D} (r : RpL K H vs ds) (lo hi : Option Int) : RpL K H (cutV vs lo hi) (cutD ds lo hi) := by
  unfold cutV cutD
  rw [r.length]
  exact (r.drop _).take _
theorem sl_D : SlR X (rSlD X.K) := by
  intro pins s σ H x v vl vu lo hi sl Q I rx hs pl pu h
  obtain ⟨G, dx, d, g, hx, hf, q⟩ := h
  cases dx with
  | list xs =>
    cases hf
    obtain ⟨a, vs, e, ha, r⟩ := hx.list g
    exact sl_list pins s σ H x v vl vu lo hi sl Q I rx hs pl pu ⟨a, vs, e, ha, fun p hp => q _ _ (same_upd hp) (.lst hp (cut_rp r lo hi))⟩
  | tuple xs =>
    cases hf
    have hr : Rp X.K G x (.tuple xs) := by
      rcases hx with z | ⟨_, _, z⟩
      · exact z
      · exact z.elim
    obtain ⟨a, vs, e, ha, r⟩ := hx.tuple g
    refine sl_tupA pins s σ H x v vl vu lo hi sl Q I rx hs pl pu ⟨a, vs, e, ha, fun hw => ?_, fun _ p hp => q _ _ (same_upd hp) (.tup hp (cut_rp r lo hi))⟩
    have ec : cutD xs lo hi = xs := by
      unfold cutD
      rw [← r.length, hw.1, hw.2, r.length]
      simp
    rw [ec] at q
    rw [← e]
    exact q _ _ (Same.refl H) (.of hr fun _ => rfl)
  | _ => cases hf

/-! ### truth -/
theorem tru_D {K : PySem.W.Frag} {G H : Hp} {x : V} {d : D} {t : Bool} (g : Same G H) (h : Av K G H x d) (ht : truthy d = .ok t) : TruV K x H t := by
  cases d with
  | none => cases ht; rw [h.non]; rfl
  | bool b => cases ht; rw [h.bl]; rfl
  | int i => cases ht; rw [h.int]; rfl
  | str z =>
    obtain ⟨hb, e⟩ := grd_ok ht
    cases e
    rw [h.str]
    exact ⟨of_decide_eq_true hb, rfl⟩
  | list xs =>
    cases ht
    obtain ⟨a, vs, rfl, ha, r⟩ := h.list g
    refine .inl ⟨vs, ha, ?_⟩
    cases r <;> rfl
  | tuple xs =>
    cases ht
    obtain ⟨a, vs, rfl, ha, r⟩ := h.tuple g
    refine .inr (.inl ⟨vs, ha, ?_⟩)
    cases r <;> rfl
  | dict kvs => cases ht

/-! ### builtins -/
def Blt.nm : Blt → Str
  | .len => "len" | .int => "int" | .abs => "abs" | .min => "min" | .max => "max" | .sum => "sum" | .all => "all" | .any => "any" | .list => "list" | .tuple => "tuple" | .repr => "repr" | .sorted => "sorted" | .set => "set"
def Blt.val : Blt → Value
  | .len => .builtin "len" | .int => .type "int" | .abs => .builtin "abs" | .min => .builtin "min" | .max => .builtin "max" | .sum => .builtin "sum" | .all => .builtin "all" | .any => .builtin "any"
  | .list => .type "list" | .tuple => .type "tuple" | .repr => .builtin "repr" | .sorted => .builtin "sorted" | .set => .type "set"
theorem Blt.boot : ∀ b : Blt, bootBuiltins b.nm = some b.val
  | .len => by decide +kernel | .int => by decide +kernel | .abs => by decide +kernel | .min => by decide +kernel | .max => by decide +kernel | .sum => by decide +kernel
  | .all => by decide +kernel | .any => by decide +kernel | .list => by decide +kernel | .tuple => by decide +kernel | .repr => by decide +kernel | .sorted => by decide +kernel | .set => by decide +kernel
def rBlt (K : PySem.W.Frag) (b : Blt) : List V → Hp → VK → Prop := fun xs H Q => ∃ G ds d, (b = .sorted → ∀ kds, ds ≠ [.dict kds]) ∧ Same G H ∧ AvL K G H xs ds ∧ bltD b ds = .ok d ∧ ∀ H' v, Same H H' → Res K true G H H' v d → Q v H'
theorem AvL.one {K : PySem.W.Frag} {G H : Hp} {vs : List V} {d : D} (h : AvL K G H vs [d]) : ∃ v, vs = [v] ∧ Av K G H v d := by
  cases h with
  | cons h r => cases r; exact ⟨_, rfl, h⟩
theorem AvL.two {K : PySem.W.Frag} {G H : Hp} {vs : List V} {d d' : D} (h : AvL K G H vs [d, d']) : ∃ v u, vs = [v, u] ∧ Av K G H v d ∧ Av K G H u d' := by
  cases h with
  | cons h r =>
    cases r with
    | cons h' r => cases r; exact ⟨_, _, rfl, h, h'⟩
theorem ints_vs {K : PySem.W.Frag} {H : Hp} : ∀ {vs : List V} {ds : List D} {ns : List Int}, RpL K H vs ds → intsOf ds = .ok ns → vs = ns.map V.int
  | _, [], ns, r, h => by
    cases h
    cases r
    rfl
  | _, .int i :: ds, ns, .cons r rs, h => by
    have h : ((intsOf ds).bind fun ns => (R.ok (i :: ns) : R (List Int))) = .ok ns := h
    cases hn : intsOf ds with
    | ok ms =>
      rw [hn] at h
      cases h
      cases r
      rw [ints_vs rs hn]
      rfl
    | exc c a => rw [hn] at h; cases h
    | stuck => rw [hn] at h; cases h
  | _, .none :: _, _, _, h => by cases h
  | _, .bool _ :: _, _, _, h => by cases h
  | _, .str _ :: _, _, _, h => by cases h
  | _, .list _ :: _, _, _, h => by cases h
  | _, .tuple _ :: _, _, _, h => by cases h
  | _, .dict _ :: _, _, _, h => by cases h
theorem bols_vs {K : PySem.W.Frag} {H : Hp} : ∀ {vs : List V} {ds : List D} {ns : List Bool}, RpL K H vs ds → bolsOf ds = .ok ns → vs = ns.map V.bl
  | _, [], ns, r, h => by
    cases h
    cases r
    rfl
  | _, .bool i :: ds, ns, .cons r rs, h => by
    have h : ((bolsOf ds).bind fun ns => (R.ok (i :: ns) : R (List Bool))) = .ok ns := h
    cases hn : bolsOf ds with
    | ok ms =>
      rw [hn] at h
      cases h
      cases r
      rw [bols_vs rs hn]
      rfl
    | exc c a => rw [hn] at h; cases h
    | stuck => rw [hn] at h; cases h
  | _, .none :: _, _, _, h => by cases h
  | _, .int _ :: _, _, _, h => by cases h
  | _, .str _ :: _, _, _, h => by cases h
  | _, .list _ :: _, _, _, h => by cases h
  | _, .tuple _ :: _, _, _, h => by cases h
  | _, .dict _ :: _, _, _, h => by cases h
theorem least_ok : ∀ {r : List Int} {i m : Int}, m ∈ i :: r → (∀ y ∈ i :: r, m ≤ y) → m = leastI i r
  | [], i, m, h, _ => by simpa [leastI] using h
  | j :: r, i, m, h, k => by
    unfold leastI
    have ki := k i (by simp)
    have kj := k j (by simp)
    refine least_ok ?_ fun y hy => ?_
    · rcases List.mem_cons.mp h with rfl | h
      · rw [if_neg (by omega)]
        simp
      · rcases List.mem_cons.mp h with rfl | h
        · by_cases q : m < i
          · rw [if_pos q]; simp
          · rw [if_neg q]
            have : m = i := by omega
            simp [this]
        · simp [h]
    · rcases List.mem_cons.mp hy with e | hy
      · subst e
        split
        · exact kj
        · exact ki
      · exact k y (by simp [hy])
theorem most_ok : ∀ {r : List Int} {i m : Int}, m ∈ i :: r → (∀ y ∈ i :: r, y ≤ m) → m = mostI i r
  | [], i, m, h, _ => by simpa [mostI] using h
  | j :: r, i, m, h, k => by
    unfold mostI
    have ki := k i (by simp)
    have kj := k j (by simp)
    refine most_ok ?_ fun y hy => ?_
    · rcases List.mem_cons.mp h with rfl | h
      · rw [if_neg (by omega)]
        simp
      · rcases List.mem_cons.mp h with rfl | h
        · by_cases q : i < m
          · rw [if_pos q]; simp
          · rw [if_neg q]
            have : m = i := by omega
            simp [this]
        · simp [h]
    · rcases List.mem_cons.mp hy with e | hy
      · subst e
        split
        · exact kj
        · exact ki
      · exact k y (by simp [hy])
theorem ints_ok {xs : List D} {α : Type} {f : List Int → R α} {d : α} (h : ((intsOf xs).bind f) = .ok d) : ∃ ns, intsOf xs = .ok ns ∧ f ns = .ok d := by
  cases hn : intsOf xs with
  | ok ns => rw [hn] at h; exact ⟨ns, rfl, h⟩
  | exc c a => rw [hn] at h; cases h
  | stuck => rw [hn] at h; cases h
theorem bols_ok {xs : List D} {α : Type} {f : List Bool → R α} {d : α} (h : ((bolsOf xs).bind f) = .ok d) : ∃ ns, bolsOf xs = .ok ns ∧ f ns = .ok d := by
  cases hn : bolsOf xs with
  | ok ns => rw [hn] at h; exact ⟨ns, rfl, h⟩
  | exc c a => rw [hn] at h; cases h
  | stuck => rw [hn] at h; cases h
theorem repr_D (hu : X.A.units + 65 < cLine) (gd : X.A.guards = some []) : CallR X (.builtin "repr") (rBlt X.K .repr) := by
  intro pins s σ H xs us Q I r h
  obtain ⟨G, ds, d, nd, g, ha, hf, q⟩ := h
  match ds, ha, hf with
  | [y], ha, hf =>
    obtain ⟨hb, e⟩ := grd_ok (show grd (showOk y) (.ok (.str (PyData.shown y))) = .ok d from hf)
    cases e
    obtain ⟨v, rfl, h⟩ := ha.one
    unfold showOk at hb
    simp only [Bool.and_eq_true, decide_eq_true_eq] at hb
    obtain ⟨⟨⟨h1, h2⟩, h3⟩, h4⟩ := hb
    cases r with
    | cons r1 r2 =>
      cases r2
      rename_i u
      obtain ⟨as, rd⟩ := Dp.reads I y v u ((h.rp g).dp h2) r1
      have fin : ∀ h' t tk, (∀ b o, s.heap.get? b = some o → h'.get? b = some o) → EP X pins σ Q (.str (PyData.shown y) t) { s with heap := h', toks := tk } := fun h' t tk hk => ⟨V.str _, H, I.kept hk, ⟨t, rfl⟩, q _ _ (Same.refl H) .str⟩
      have tok : ∀ x, PyData.shown y = x → EP X pins σ Q (.str x s.toks) { s with toks := s.toks + 1 } := fun x e => by
        rw [← e]
        exact ⟨V.str _, H, I.tok _, ⟨_, rfl⟩, q _ _ (Same.refl H) .str⟩
      have big : ∀ {a}, u = .ref a → wpAny (model X.prog X.w) X.A (call (.builtin "repr") [u]) (EP X pins σ Q) X.xe s := fun {a} e => by
        subst e
        exact repr_of_reads' rd h1 (PyData.noDict_hsm (PyData.hasDict_of_canLay _ h2)) gd (by omega) (fun _ _ z => z) fin (by rw [sizeLine_eq]; exact h4)
      have h4' : (PyData.shown y).length ≤ sizeLine := by rw [sizeLine_eq]; exact h4
      cases y with
      | none =>
        cases h.non
        cases r1
        exact PySem.P.repr_of_none (tok _ (by simp [PyData.shown]))
      | bool b =>
        cases h.bl
        cases r1
        exact PySem.P.repr_of_bool (tok _ (by simp [PyData.shown]))
      | int i =>
        cases h.int
        obtain ⟨t, rfl⟩ := r1
        exact PySem.P.repr_of_int (by simpa [PyData.showable] using h1) (tok _ (by simp [PyData.shown]))
      | str x =>
        cases h.str
        obtain ⟨t, rfl⟩ := r1
        have e : PyData.shown (.str x) = reprText x := by simp [PyData.shown]
        rw [e] at h4'
        exact PySem.P.repr_of_str (tok _ e) h4'
      | list xs =>
        obtain ⟨a, vs, rfl, _, _⟩ := h.list g
        exact big r1
      | tuple xs =>
        obtain ⟨a, vs, rfl, _, _⟩ := h.tuple g
        exact big r1
      | dict kvs => simp [PyData.canLay0] at h2
/-! ### min, max, sorted of alike data -/
theorem minD_in : ∀ (r : List D) (x : D), PySem.W.minD x r ∈ x :: r
  | [], x => by simp [PySem.W.minD]
  | y :: r, x => by
    have h := minD_in r (if PySem.W.dataLt y x = true then y else x)
    have e : PySem.W.minD x (y :: r) = PySem.W.minD (if PySem.W.dataLt y x = true then y else x) r := rfl
    rw [e]
    rcases List.mem_cons.mp h with h | h
    · rw [h]
      split <;> simp
    · simp [h]
theorem maxD_in : ∀ (r : List D) (x : D), PySem.W.maxD x r ∈ x :: r
  | [], x => by simp [PySem.W.maxD]
  | y :: r, x => by
    have h := maxD_in r (if PySem.W.dataLt x y = true then y else x)
    have e : PySem.W.maxD x (y :: r) = PySem.W.maxD (if PySem.W.dataLt x y = true then y else x) r := rfl
    rw [e]
    rcases List.mem_cons.mp h with h | h
    · rw [h]
      split <;> simp
    · simp [h]
theorem alkL_ok {xs : List D} (h : alkL xs = true) : PySem.W.AlikeAll xs ∧ PyData.canLayAll0 xs = true ∧ PyData.depthAll xs ≤ 60 := by
  unfold alkL at h
  simp only [Bool.and_eq_true, decide_eq_true_eq, List.all_eq_true] at h
  obtain ⟨⟨⟨h1, h2⟩, h3⟩, h4⟩ := h
  refine ⟨⟨h1, fun x hx e => ?_⟩, h2, h3⟩
  subst e
  exact absurd (h4 _ hx) (by decide)
section
variable {pins : List (Addr × Obj)} {s : Shared} {σ : L2.St} {G H : Hp} {a : Addr} {vs : List V} {ds : List D} {Q : VK}
/-- the item that min, max hand back -/
theorem pick_at {its : List Value} {h' : Heap} {tk i : Nat} {v : Value} {d : D} {bs : List Addr} (I : Inv X pins σ H s) (g : Same G H) (rel : Vals vs its) (r : RpL X.K G vs ds) (hc : PyData.canLayAll0 ds = true) (al : ∀ x ∈ ds, ∀ y ∈ ds, PySem.W.alike x y = true) (hv : its.toArray[i]? = some v) (hd : d ∈ ds)
    (rd : Reads h' v d bs) (kk : ∀ b o, s.heap.get? b = some o → h'.get? b = some o) (q : ∀ x, Rp X.K G x d → Q x H) : EP X pins σ Q v { s with heap := h', toks := tk } := by
  have hi : i < its.length := by
    have := (Array.getElem?_eq_some_iff.mp hv).1
    simpa using this
  have hl : vs.length = its.length := rel.length
  have hx : vs[i]? = some vs[i] := by simp [hl, hi]
  obtain ⟨u, hu, ru⟩ := rel.get hx
  have e : u = v := by
    have hv' : its[i]? = some v := by simpa using hv
    rw [hu] at hv'
    exact Option.some.inj hv'
  subst e
  obtain ⟨d2, h2, rp⟩ := r.get hx
  have hm : d2 ∈ ds := List.mem_of_getElem? h2
  have c2 : d2.canLay0 = true := by
    have : ∀ (l : List D), PyData.canLayAll0 l = true → ∀ z ∈ l, z.canLay0 = true := by
      intro l
      induction l with
      | nil => intro _ z hz; cases hz
      | cons y l ih =>
        intro h z hz
        rw [PyData.canLayAll0, Bool.and_eq_true] at h
        rcases List.mem_cons.mp hz with rfl | hz
        · exact h.1
        · exact ih h.2 z hz
    exact this ds hc d2 hm
  obtain ⟨as, rd2⟩ := Dp.reads I d2 _ u ((rp.mono g).dp c2) ru
  have e2 : d2 = d := PySem.W.alike_unique d2 d u as bs (al d2 hm d hd) (PyProof.Rows.Reads.keeps kk rd2) rd
  subst e2
  exact ⟨vs[i], H, I.kept kk, ru, q _ rp⟩
theorem call_minT (hc : X.calm = true) (hu : X.A.units + 65 < cLine) (I : Inv X pins σ H s) (g : Same G H) (ha : SqL X.K H a vs) (r : RpL X.K G vs ds) {d : D} (hf : leastT ds = .ok d) (q : ∀ x, Rp X.K G x d → boxD d = false → Q x H) :
    wpAny (model X.prog X.w) X.A (call (.builtin "min") [.ref a]) (EP X pins σ Q) X.xe s := by
  cases ds with
  | nil => cases hf
  | cons x r' =>
    obtain ⟨hb, e⟩ := grd_ok (show grd (alkL (x :: r') && (x :: r').all fun x => !boxD x) (.ok (PySem.W.minD x r')) = .ok d from hf)
    cases e
    rw [Bool.and_eq_true] at hb
    obtain ⟨h1, h2, h3⟩ := alkL_ok hb.1
    obtain ⟨its, rel, p, hz⟩ := I.list ha
    obtain ⟨as, ra⟩ := Dp.readsAll I _ _ _ ((r.mono g).dp h2) rel
    have hm := minD_in r' x
    have hbx : boxD (PySem.W.minD x r') = false := by
      have := List.all_eq_true.mp hb.2 _ hm
      simpa using this
    refine PySem.W.min_list_data (I.ok.hd hc) p.isList (by simpa using ra) h1 (by omega) fun i v h' tk bs hv rd kk => ?_
    exact pick_at I g rel r h2 h1.1 hv hm rd kk fun x rx => q x rx hbx
theorem call_maxT (hc : X.calm = true) (hu : X.A.units + 65 < cLine) (I : Inv X pins σ H s) (g : Same G H) (ha : SqL X.K H a vs) (r : RpL X.K G vs ds) {d : D} (hf : mostT ds = .ok d) (q : ∀ x, Rp X.K G x d → boxD d = false → Q x H) :
    wpAny (model X.prog X.w) X.A (call (.builtin "max") [.ref a]) (EP X pins σ Q) X.xe s := by
  cases ds with
  | nil => cases hf
  | cons x r' =>
    obtain ⟨hb, e⟩ := grd_ok (show grd (alkL (x :: r') && (x :: r').all fun x => !boxD x) (.ok (PySem.W.maxD x r')) = .ok d from hf)
    cases e
    rw [Bool.and_eq_true] at hb
    obtain ⟨h1, h2, h3⟩ := alkL_ok hb.1
    obtain ⟨its, rel, p, hz⟩ := I.list ha
    obtain ⟨as, ra⟩ := Dp.readsAll I _ _ _ ((r.mono g).dp h2) rel
    have hm := maxD_in r' x
    have hbx : boxD (PySem.W.maxD x r') = false := by
      have := List.all_eq_true.mp hb.2 _ hm
      simpa using this
    refine PySem.W.max_list_data (I.ok.hd hc) p.isList (by simpa using ra) h1 (by omega) fun i v h' tk bs hv rd kk => ?_
    exact pick_at I g rel r h2 h1.1 hv hm rd kk fun x rx => q x rx hbx
theorem insD_eq : ∀ (l1 l2 : List D) (x : D), (∀ b ∈ l1, (!PySem.W.dataLt b x) = false) → (∀ b ∈ l2, (!PySem.W.dataLt b x) = true) → insD x (l1 ++ l2) = l1 ++ x :: l2
  | [], [], x, _, _ => rfl
  | [], y :: r, x, _, h => by
    show insD x (y :: r) = x :: y :: r
    unfold insD
    rw [if_pos (h y (by simp))]
  | y :: l1, l2, x, h1, h2 => by
    show insD x (y :: (l1 ++ l2)) = y :: (l1 ++ x :: l2)
    unfold insD
    rw [if_neg (by rw [h1 y (by simp)]; decide), insD_eq l1 l2 x (fun b hb => h1 b (by simp [hb])) h2]
theorem sortD_eq : ∀ ds : List D, ds.mergeSort (PySem.W.dataLe false id) = sortD ds
  | [] => by simp [sortD]
  | x :: r => by
    have T : PySem.W.TotalLe (PySem.W.dataLe false (id : D → D)) := PySem.W.sortLe_total (listOrd itemOrd) false (fun b : D => PySem.W.keyToks b)
    obtain ⟨l1, l2, e1, e2, e3⟩ := List.mergeSort_cons (le := PySem.W.dataLe false id) T.trans (fun a b => by simpa using T.total a b) x r
    have ps := List.pairwise_mergeSort (le := PySem.W.dataLe false id) T.trans (fun a b => by simpa using T.total a b) (x :: r)
    rw [e1] at ps ⊢
    show _ = insD x (sortD r)
    rw [← sortD_eq r, e2]
    refine (insD_eq l1 l2 x (fun b hb => ?_) fun b hb => ?_).symm
    · have := e3 b hb
      simpa [PySem.W.dataLe, PySem.W.sortLe, PySem.W.dataLt] using this
    · have := (List.pairwise_cons.mp (List.pairwise_append.mp ps).2.1).1 b hb
      exact this
theorem each_back {R : V → D → Prop} : ∀ {us : List Value} {ds : List D}, PySem.W.EachIs (fun u d => ∃ x, RelV x u ∧ R x d) us ds → ∃ vs, Vals vs us ∧ Paired R vs ds
  | _, _, .nil => ⟨[], .nil, .nil⟩
  | _, _, .cons ⟨x, h1, h2⟩ t => by
    obtain ⟨vs, h3, h4⟩ := each_back t
    exact ⟨x :: vs, .cons h1 h3, .cons h2 h4⟩
theorem rpl_pair {K : PySem.W.Frag} {H : Hp} : ∀ {vs : List V} {ds : List D}, Paired (Rp K H) vs ds → RpL K H vs ds
  | _, _, .nil => .nil
  | _, _, .cons h t => .cons h (rpl_pair t)
theorem each_of {K : PySem.W.Frag} {H : Hp} : ∀ {vs : List V} {ds : List D} {us : List Value}, RpL K H vs ds → Vals vs us → PySem.W.EachIs (fun u d => ∃ x, RelV x u ∧ Rp K H x d) us ds
  | _, _, _, .nil, .nil => .nil
  | _, _, _, .cons h t, .cons r rs => .cons ⟨_, r, h⟩ (each_of t rs)
theorem each_rd {h : Heap} : ∀ {us : List Value} {ds : List D} {as : List Addr}, ReadsAll h us ds as → PySem.W.EachIs (fun u d => ∃ as, Reads h u d as) us ds
  | _, _, _, .nil => .nil
  | _, _, _, .cons r t => .cons ⟨_, r⟩ (each_rd t)
theorem call_sortT (hu : X.A.units + 65 < cLine) (I : Inv X pins σ H s) (g : Same G H) (ha : SqL X.K H a vs) (r : RpL X.K G vs ds) {d : D} (hf : sortA ds = .ok d) (q : ∀ p us es, d = .list es → H p = none → RpL X.K G us es → Q (.ref p) (upd H p (.lst us))) :
    wpAny (model X.prog X.w) X.A (call (.builtin "sorted") [.ref a]) (EP X pins σ Q) X.xe s := by
  obtain ⟨hb, e⟩ := grd_ok (show grd (alkL ds && (ds.all tup1 || ds.all noTup) && fitL ds.length) (.ok (.list (sortD ds))) = .ok d from hf)
  cases e
  obtain ⟨hb, h5⟩ := (Bool.and_eq_true _ _).mp hb
  obtain ⟨hb, h4⟩ := (Bool.and_eq_true _ _).mp hb
  obtain ⟨h1, h2, h3⟩ := alkL_ok hb
  obtain ⟨its, rel, p, hz⟩ := I.list ha
  obtain ⟨as, ra⟩ := Dp.readsAll I _ _ _ ((r.mono g).dp h2) rel
  have dep : ∀ (l : List D), ∀ z ∈ l, z.depth ≤ PyData.depthAll l := by
    intro l
    induction l with
    | nil => intro z hz; cases hz
    | cons y l ih =>
      intro z hz
      rw [PyData.depthAll]
      rcases List.mem_cons.mp hz with rfl | hz
      · exact Nat.le_max_left _ _
      · exact Nat.le_trans (ih z hz) (Nat.le_max_right _ _)
  refine PySem.W.sorted_data (R := fun u d => ∃ x, RelV x u ∧ Rp X.K G x d) (enc := id) (bs := ds) p.isList (each_of r rel) (each_rd ra) (fun x hx y hy => ?_) ?_ (fitL_le h5) (fun b hb' => ?_) fun out hl eo => ?_
  · rw [List.map_id] at hx hy
    exact h1.1 x hx y hy
  · rw [List.map_id]
    rcases Bool.or_eq_true_iff.mp h4 with h | h
    · refine .inl fun x hx => ?_
      have := List.all_eq_true.mp h x hx
      cases x with
      | tuple l =>
        cases l with
        | nil => cases this
        | cons y l => exact ⟨y, l, rfl⟩
      | _ => cases this
    · refine .inr fun x hx => ⟨h1.2 x hx, fun l e => ?_⟩
      have := List.all_eq_true.mp h x hx
      subst e
      cases this
  · have := dep ds b hb'
    show X.A.units + 2 + (id b).depth < cLine
    have e : (id b : D) = b := rfl
    rw [e]
    omega
  · rw [sortD_eq] at eo
    obtain ⟨us, e1, e2⟩ := each_back eo
    have hp : H (s.heap.objs.size + 1) = none := I.hok.fresh (Nat.le_succ _)
    have hul : us.length ≤ sizeLine := by
      rw [e1.length, hl]
      exact fitL_le h5
    refine ⟨.ref (s.heap.objs.size + 1), _, ?_, rfl, q _ us _ rfl hp (rpl_pair e2)⟩
    exact I.laid (t' := s.toks) (o := .lst us) (h' := sortedAll s.heap its (List.toArray out)) (fun b o e => sortedAll_old e) (Nat.le_succ _) ⟨hul, out, _, e1, (sortedAll_at s.heap its (List.toArray out)).choose_spec⟩
end
theorem call_blt (hc : X.calm = true) (hu : X.A.units + 65 < cLine) (gd : X.A.guards = some []) (b : Blt) : CallR X b.val (rBlt X.K b) := by
  intro pins s σ H xs us Q I r h
  obtain ⟨G, ds, d, nd, g, ha, hf, q⟩ := h
  cases b with
  | len =>
    match ds, ha, hf with
    | [.list ys], ha, hf =>
      cases hf
      obtain ⟨v, rfl, h⟩ := ha.one
      obtain ⟨a, vs, rfl, hr, r2⟩ := h.list g
      exact call_len_seq pins s σ H _ us Q I r ⟨a, vs, rfl, .inl hr, by rw [r2.length]; exact q _ _ (Same.refl H) .int⟩
    | [.tuple ys], ha, hf =>
      cases hf
      obtain ⟨v, rfl, h⟩ := ha.one
      obtain ⟨a, vs, rfl, hr, r2⟩ := h.tuple g
      exact call_len_seq pins s σ H _ us Q I r ⟨a, vs, rfl, .inr hr, by rw [r2.length]; exact q _ _ (Same.refl H) .int⟩
    | [.str z], ha, hf =>
      obtain ⟨hb, e⟩ := grd_ok hf
      cases e
      obtain ⟨v, rfl, h⟩ := ha.one
      rw [h.str] at r
      exact call_len_str pins s σ H _ us Q I r ⟨z, rfl, fitL_le hb, q _ _ (Same.refl H) .int⟩
  | int =>
    match ds, ha, hf with
    | [.int i], ha, hf =>
      cases hf
      obtain ⟨v, rfl, h⟩ := ha.one
      rw [h.int] at r
      exact call_int1 pins s σ H _ us Q I r (.inl ⟨i, rfl, q _ _ (Same.refl H) .int⟩)
    | [.bool k], ha, hf =>
      cases hf
      obtain ⟨v, rfl, h⟩ := ha.one
      rw [h.bl] at r
      exact call_int1 pins s σ H _ us Q I r (.inr ⟨k, rfl, q _ _ (Same.refl H) .int⟩)
  | abs =>
    match ds, ha, hf with
    | [.int i], ha, hf =>
      cases hf
      obtain ⟨v, rfl, h⟩ := ha.one
      rw [h.int] at r
      exact call_abs pins s σ H _ us Q I r ⟨i, rfl, q _ _ (Same.refl H) .int⟩
  | min =>
    match ds, ha, hf with
    | [.int i, .int j], ha, hf =>
      cases hf
      obtain ⟨v, u, rfl, h, h'⟩ := ha.two
      rw [h.int, h'.int] at r
      exact call_min2 hc pins s σ H _ us Q I r ⟨i, j, rfl, q _ _ (Same.refl H) .int⟩
    | [.list ys], ha, hf =>
      obtain ⟨v, rfl, h⟩ := ha.one
      obtain ⟨a, vs, rfl, hr, r2⟩ := h.list g
      have hf : minA ys = .ok d := hf
      unfold minA at hf
      have other : leastT ys = .ok d → wpAny (model X.prog X.w) X.A (call (.builtin "min") us) (EP X pins σ Q) X.xe s := fun hf => by
        cases r with
        | cons r1 r3 =>
          cases r3
          cases r1
          exact call_minT hc hu I g hr r2 hf fun x rx hb => q _ _ (Same.refl H) (.of rx fun _ => by cases d <;> first | rfl | cases hb)
      cases hn : intsOf ys with
      | ok ns =>
        rw [hn] at hf
        cases ints_vs r2 hn
        cases ns with
        | nil => cases hf
        | cons n ns =>
          cases hf
          exact cr_min hc pins s σ H _ us Q I r ⟨a, n :: ns, rfl, hr, Nat.zero_lt_succ _, fun m h1 h2 => by rw [least_ok h1 h2]; exact q _ _ (Same.refl H) .int⟩
      | exc c a2 => rw [hn] at hf; exact other hf
      | stuck => rw [hn] at hf; exact other hf
  | max =>
    match ds, ha, hf with
    | [.int i, .int j], ha, hf =>
      cases hf
      obtain ⟨v, u, rfl, h, h'⟩ := ha.two
      rw [h.int, h'.int] at r
      exact call_max2 hc pins s σ H _ us Q I r ⟨i, j, rfl, q _ _ (Same.refl H) .int⟩
    | [.list ys], ha, hf =>
      obtain ⟨v, rfl, h⟩ := ha.one
      obtain ⟨a, vs, rfl, hr, r2⟩ := h.list g
      have hf : maxA ys = .ok d := hf
      unfold maxA at hf
      have other : mostT ys = .ok d → wpAny (model X.prog X.w) X.A (call (.builtin "max") us) (EP X pins σ Q) X.xe s := fun hf => by
        cases r with
        | cons r1 r3 =>
          cases r3
          cases r1
          exact call_maxT hc hu I g hr r2 hf fun x rx hb => q _ _ (Same.refl H) (.of rx fun _ => by cases d <;> first | rfl | cases hb)
      cases hn : intsOf ys with
      | ok ns =>
        rw [hn] at hf
        cases ints_vs r2 hn
        cases ns with
        | nil => cases hf
        | cons n ns =>
          cases hf
          exact cr_max hc pins s σ H _ us Q I r ⟨a, n :: ns, rfl, hr, Nat.zero_lt_succ _, fun m h1 h2 => by rw [most_ok h1 h2]; exact q _ _ (Same.refl H) .int⟩
      | exc c a2 => rw [hn] at hf; exact other hf
      | stuck => rw [hn] at hf; exact other hf
  | list =>
    match ds, ha, hf with
    | [.list ys], ha, hf =>
      cases hf
      obtain ⟨v, rfl, h⟩ := ha.one
      obtain ⟨a, vs, rfl, hr, r2⟩ := h.list g
      exact call_list_of pins s σ H _ us Q I r ⟨a, vs, rfl, .inl hr, fun p hp => q _ _ (same_upd hp) (.lst hp r2)⟩
    | [.tuple ys], ha, hf =>
      cases hf
      obtain ⟨v, rfl, h⟩ := ha.one
      obtain ⟨a, vs, rfl, hr, r2⟩ := h.tuple g
      exact call_list_of pins s σ H _ us Q I r ⟨a, vs, rfl, .inr hr, fun p hp => q _ _ (same_upd hp) (.lst hp r2)⟩
  | tuple =>
    match ds, ha, hf with
    | [.list ys], ha, hf =>
      cases hf
      obtain ⟨v, rfl, h⟩ := ha.one
      obtain ⟨a, vs, rfl, hr, r2⟩ := h.list g
      exact call_tuple_of pins s σ H _ us Q I r ⟨a, vs, rfl, .inl ⟨hr, fun p hp => q _ _ (same_upd hp) (.tup hp r2)⟩⟩
    | [.tuple ys], ha, hf =>
      cases hf
      obtain ⟨v, rfl, h⟩ := ha.one
      have hr : Rp X.K G v (.tuple ys) := by
        rcases h with z | ⟨_, _, z⟩
        · exact z
        · exact z.elim
      obtain ⟨a, vs, rfl, hr2, r2⟩ := h.tuple g
      exact call_tuple_of pins s σ H _ us Q I r ⟨a, vs, rfl, .inr ⟨hr2, q _ _ (Same.refl H) (.of hr fun _ => rfl)⟩⟩
  | sum =>
    match ds, ha, hf with
    | [.list ys], ha, hf =>
      obtain ⟨ns, hn, e⟩ := ints_ok (f := sumL) hf
      cases e
      obtain ⟨v, rfl, h⟩ := ha.one
      obtain ⟨a, vs, rfl, hr, r2⟩ := h.list g
      cases ints_vs r2 hn
      exact cr_sum hc pins s σ H _ us Q I r ⟨a, ns, rfl, hr, q _ _ (Same.refl H) .int⟩
  | all =>
    match ds, ha, hf with
    | [.list ys], ha, hf =>
      obtain ⟨ns, hn, e⟩ := bols_ok (f := allL) hf
      cases e
      obtain ⟨v, rfl, h⟩ := ha.one
      obtain ⟨a, vs, rfl, hr, r2⟩ := h.list g
      cases bols_vs r2 hn
      exact cr_all hc pins s σ H _ us Q I r ⟨a, ns, rfl, hr, q _ _ (Same.refl H) .bl⟩
  | any =>
    match ds, ha, hf with
    | [.list ys], ha, hf =>
      obtain ⟨ns, hn, e⟩ := bols_ok (f := anyL) hf
      cases e
      obtain ⟨v, rfl, h⟩ := ha.one
      obtain ⟨a, vs, rfl, hr, r2⟩ := h.list g
      cases bols_vs r2 hn
      exact cr_any hc pins s σ H _ us Q I r ⟨a, ns, rfl, hr, q _ _ (Same.refl H) .bl⟩
  | sorted =>
    match ds, nd, ha, hf with
    | [.dict kds], nd, ha, hf => exact absurd rfl (nd rfl kds)
    | [.list ys], nd, ha, hf =>
      obtain ⟨v, rfl, h⟩ := ha.one
      obtain ⟨a, vs, rfl, hr, r2⟩ := h.list g
      cases r with
      | cons r1 r3 =>
        cases r3
        cases r1
        refine call_sortT hu I g hr r2 (show sortA ys = .ok d from hf) fun p us es e hp re => ?_
        subst e
        exact q _ _ (same_upd hp) (.lst hp re)
  | set =>
    exfalso
    revert hf
    cases ds with
    | nil => exact fun h => nomatch h
    | cons a r =>
      cases r with
      | nil => cases a <;> exact fun h => nomatch h
      | cons b r => cases a <;> cases b <;> cases r <;> exact fun h => nomatch h
  | repr => exact repr_D hu gd pins s σ H xs us Q I r ⟨G, ds, d, nd, g, ha, hf, q⟩
end
end Mt
/-! Part C3: sorted(d), the keys tuples. -/
namespace Mt
open PySem PySem.W PySem.Calls PyProof.Rows PyProof.V PySem.Spec L2
/-- a key's object and its data -/
def KyR (H : Hp) (v : V) (d : D) : Prop := ∃ b k, v = .ref b ∧ d = kT k ∧ H b = some (.tup (k.map kV))
section
variable {X : Cx} {pins : List (Addr × Obj)} {σ : L2.St} {H : Hp} {s : Shared} {Q : VK} {a : Addr} {kvs : List (List Key × V)}
theorem reads_keys {h : Heap} : ∀ {k : List Key} {us : List Value}, Vals (k.map kV) us → ReadsAll h us (k.map kD) []
  | [], _, r => by
    cases r
    exact .nil
  | x :: k, _, r => by
    rw [List.map_cons] at r
    cases r with
    | @cons _ u _ us h1 t =>
      have one : Reads h u (kD x) [] := by
        cases x with
        | inl i =>
          obtain ⟨tk, rfl⟩ := h1
          exact .int _ _
        | inr z =>
          obtain ⟨tk, rfl⟩ := h1
          exact .str _ _
      exact .cons one (reads_keys t)
theorem reads_key (I : Inv X pins σ H s) {b : Addr} {k : List Key} (hb : H b = some (.tup (k.map kV))) : Reads s.heap (.ref b) (kT k) [] := by
  obtain ⟨_, its, r, o, h1, h2, n, h3⟩ := (show ObjOk X.prog X.w H s.heap b (.tup (k.map kV)) from I.hok b _ hb)
  exact .tuple h1 h2 h3 (reads_keys r)
/-- keys stand for what they are in the newer heap too -/
theorem paired_get {α β : Type} {R : α → β → Prop} : ∀ {l : List α} {m : List β}, Paired R l m → ∀ {j : Nat} {y : β}, m[j]? = some y → ∃ x, l[j]? = some x ∧ R x y
  | _, _, .nil, j, y, h => by simp at h
  | _, _, .cons h t, 0, y, e => by
    simp at e
    subst e
    exact ⟨_, rfl, h⟩
  | _, _, .cons _ t, j + 1, y, e => paired_get t (j := j) (by simpa using e)
theorem each_keys (I : Inv X pins σ H s) {h' : Heap} (kk : ∀ b o, s.heap.get? b = some o → h'.get? b = some o) (D : Addr) : ∀ {kvs : List (List Key × V)} {xs : List (List Key × Addr × Value)}, KT H kvs xs →
    PySem.W.EachIs (fun u d => ∃ x, RelV x u ∧ KyR H x d) (xs.map fun x => Value.ref x.2.1) (kvs.map fun p => kT p.1) ∧ PySem.W.EachIs (fun u d => ∃ as, Reads h' u (id d) as ∧ D ∉ as) (xs.map fun x => Value.ref x.2.1) (kvs.map fun p => kT p.1)
  | _, _, .nil => ⟨.nil, .nil⟩
  | _, _, .cons (a := p) (b := q) h t => by
    obtain ⟨e1, e2⟩ := each_keys I kk D t
    obtain ⟨h1, h2, _⟩ := h
    exact ⟨.cons ⟨.ref q.2.1, rfl, _, _, rfl, rfl, h2⟩ e1, .cons ⟨[], PyProof.Rows.Reads.keeps kk (reads_key I h2), fun z => nomatch z⟩ e2⟩
section
variable {prog : Program} {w : World} {A : Around} {E : Value → Shared → Prop} {s0 : Shared} {T : String} {r d : Addr} {n : Nat} {P : Nat → Value → Prop} {OK : Heap → Prop}
/-- what is walked, as a list; the heap has grown -/
theorem collectT {R : List Value → Shared → Prop} (K : KdlSrc prog w T r d n P OK) (hd : A.handled = none) (k0 : OK s0.heap) (le : n ≤ sizeLine)
    (fin : ∀ (h1 : Heap) (tk : Nat) (xs : Array Value), (∀ b o, s0.heap.get? b = some o → h1.get? b = some o) → s0.heap.objs.size < h1.objs.size → ItemsOf P xs n → R xs.toList { s0 with heap := h1, toks := tk }) :
    wpAny (model prog w) A (collect (.ref r)) R E s0 := by
  obtain ⟨lr, ld⟩ := K.there _ k0
  let base : Heap := s0.heap.push { cls := .type "list", data := .seq ([] : List Value).toArray }
  let Z : Result → Shared → Prop := fun q t => ∃ (h1 : Heap) (tk : Nat) (xs : Array Value) (c : Nat), q = .ok (.ret (.ref s0.heap.objs.size)) ∧ t = { s0 with heap := h1, toks := tk } ∧
    (∀ b o, s0.heap.get? b = some o → h1.get? b = some o) ∧ h1.get? s0.heap.objs.size = some { cls := .type "list", dict := none, data := .seq xs c, slots := #[] } ∧ ItemsOf P xs n
  have atS : base.get? s0.heap.objs.size = some { cls := .type "list", data := .seq #[] } := Heap.get?_push_size _ rfl
  have run := kdl_extend (A := A) (s := { s0 with heap := base }) (R := Z) K hd (K.keep _ _ k0 fun b _ o e => Heap.get?_push_of_some _ e) s0.heap.objs.size (Nat.ne_of_gt lr) (Nat.ne_of_gt ld) (.ref s0.heap.objs.size) 0 atS
    (fun h1 tk xs c up at1 its => ⟨h1, tk, xs, c, rfl, rfl, (fun b o e => up b o (Nat.ne_of_lt (Heap.lt_size e)) (Heap.get?_push_of_some _ e)), at1, its⟩) le
  unfold collect
  apply wpAny_bind
  apply wpAny_runValue
  apply codeAny_builtin entry_proto_collect'
  rw [Around.under_plainId PySem.F.plain_proto_collect _]
  show wpAny _ A.in1 (newList [] >>= fun l => again (.builtin "list.__iadd__" ⟨[l, .ref r], []⟩)) _ _ s0
  apply wpAny_bind
  refine wpAny_newObj_type ?_
  apply wpAny_pure
  refine ⟨plainId_quiet PySem.F.plain_list_iadd _, codeAny_builtin entry_list_iadd' ?_⟩
  rw [Around.under_plainId PySem.F.plain_list_iadd _]
  show wpAny _ A.in1 (Builtin.List.listExtendWith (.ref s0.heap.objs.size) (.ref r) (.ref s0.heap.objs.size)) _ _ _
  have out : ∀ {q : Result} {t : Shared}, Z q t → ∃ h1 tk xs, q = .ok (.ret (.ref s0.heap.objs.size)) ∧ t = { s0 with heap := h1, toks := tk } ∧ ∃ c, h1.get? s0.heap.objs.size = some { cls := .type "list", dict := none, data := .seq xs c, slots := #[] } ∧ R xs.toList t := fun z => by
    obtain ⟨h1, tk, xs, c, e1, e2, up, at1, its⟩ := z
    subst e2
    exact ⟨h1, tk, xs, e1, rfl, c, at1, fin h1 tk xs up (Heap.lt_size at1) its⟩
  refine wpAny_mono run (fun w t x => ?_) fun e t x => ?_
  · cases w with
    | done q =>
      obtain ⟨h1, tk, xs, e1, e2, c, at1, rr⟩ := out x
      cases e1
      subst e2
      show wpAny _ A (load s0.heap.objs.size >>= _) _ _ _
      exact wpAny_bind (wpAny_load at1 (wpAny_pure rr))
    | again c1 =>
      refine ⟨x.1, codeAny_mono x.2 fun q t2 y => ?_⟩
      obtain ⟨h1, tk, xs, e1, e2, c, at1, rr⟩ := out y
      subst e1
      subst e2
      show wpAny _ A (load s0.heap.objs.size >>= _) _ _ _
      exact wpAny_bind (wpAny_load at1 (wpAny_pure rr))
  · obtain ⟨_, _, _, _, e', _⟩ := x
    cases e'
end
theorem call_sortDT (hc : X.calm = true) (hu : X.A.units + 65 < cLine) (I : Inv X pins σ H s) (hd : Rd H a (.dT kvs)) {d : D} (hf : sortA (kvs.map fun p => kT p.1) = .ok d)
    (q : ∀ p us es, d = .list es → H p = none → Paired (KyR H) us es → Q (.ref p) (upd H p (.lst us))) :
    wpAny (model X.prog X.w) X.A (call (.builtin "sorted") [.ref a]) (EP X pins σ Q) X.xe s := by
  obtain ⟨hb, e⟩ := grd_ok (show grd (alkL (kvs.map fun p => kT p.1) && ((kvs.map fun p => kT p.1).all tup1 || (kvs.map fun p => kT p.1).all noTup) && fitL (kvs.map fun p => kT p.1).length) (.ok (.list (sortD (kvs.map fun p => kT p.1)))) = .ok d from hf)
  cases e
  obtain ⟨hb, h5⟩ := (Bool.and_eq_true _ _).mp hb
  obtain ⟨hb, h4⟩ := (Bool.and_eq_true _ _).mp hb
  obtain ⟨h1, h2, h3⟩ := alkL_ok hb
  obtain ⟨z, hs, xs, pr, o, es, ep, ho, hx, hdt, he, hn⟩ := (show ObjOk X.prog X.w H s.heap a (.dT kvs) from hd.ok I.hok)
  have l1 : es.size = xs.length := size_of_entries he
  have l2 : kvs.length = xs.length := Paired.length pr
  refine call_function_entry kind_sorted plain_sorted entry_sorted (args_sorted1 _) ?_
  unfold Builtin.«sorted»
  refine wpAny_bind (m := checkCount "sorted" 1 1 _) (wpAny_pure ?_)
  refine wpAny_bind (collectT (A := X.A.in1) (kdl_raw hs hx hdt) (I.ok.hd hc) ho (by omega) fun h' tk acc kk hlt it => ?_)
  have ea : acc.toList = xs.map fun x => Value.ref x.2.1 := by
    refine List.ext_getElem? fun j => ?_
    rw [List.getElem?_map]
    cases hj : acc.toList[j]? with
    | none =>
      have n1 := List.getElem?_eq_none_iff.mp hj
      rw [Array.length_toList, it.1, l1] at n1
      rw [List.getElem?_eq_none n1]
      rfl
    | some v =>
      obtain ⟨en, g1, g2⟩ := it.2 j v (by rw [← Array.getElem?_toList]; exact hj)
      have g3 := entry_at he j
      rw [g1] at g3
      cases hb : xs[j]? with
      | none => rw [hb] at g3; cases g3
      | some b =>
        rw [hb] at g3
        cases g3
        rw [g2]
        rfl
  have la : acc.toList.length = xs.length := by rw [Array.length_toList, it.1]; exact l1
  refine wpAny_bind (wpAny_newList ?_ (by rw [la]; omega))
  have new : (h'.push { cls := .type "list", data := .seq acc.toList.toArray }).get? h'.objs.size = some (seqObj "list" acc.toList.toArray 0) := Heap.get?_push_size _ rfl
  have up : ∀ b o, s.heap.get? b = some o → (h'.push { cls := .type "list", data := .seq acc.toList.toArray }).get? b = some o := fun b o e => Heap.get?_push_of_some _ (kk b o e)
  obtain ⟨e1, e2⟩ := each_keys I up h'.objs.size pr
  rw [← ea] at e1 e2
  have dep : ∀ (l : List D), ∀ z ∈ l, z.depth ≤ PyData.depthAll l := by
    intro l
    induction l with
    | nil => intro z hz; cases hz
    | cons y l ih =>
      intro z hz
      rw [PyData.depthAll]
      rcases List.mem_cons.mp hz with rfl | hz
      · exact Nat.le_max_left _ _
      · exact Nat.le_trans (ih z hz) (Nat.le_max_right _ _)
  refine wpAny_bind (wpAny_holding (wpAny_mono (list_sort_data (Q := fun _ s' => EP X pins σ Q (.ref h'.objs.size) s') (s := { s with heap := h'.push { cls := .type "list", data := .seq acc.toList.toArray }, toks := tk }) (R := fun u d => ∃ x, RelV x u ∧ KyR H x d) (enc := id) (bs := kvs.map fun p => kT p.1) new e1 e2 (fun x hx y hy => ?_) ?_ (fitL_le h5) (fun b hb' => ?_) fun out hl eo => ?_) (fun _ s' x => wpAny_pure ⟨_, rfl, x⟩) fun _ _ e => e))
  · rw [List.map_id] at hx hy
    exact h1.1 x hx y hy
  · rw [List.map_id]
    rcases Bool.or_eq_true_iff.mp h4 with h | h
    · refine .inl fun x hx => ?_
      have := List.all_eq_true.mp h x hx
      cases x with
      | tuple l =>
        cases l with
        | nil => cases this
        | cons y l => exact ⟨y, l, rfl⟩
      | _ => cases this
    · refine .inr fun x hx => ⟨h1.2 x hx, fun l e => ?_⟩
      have := List.all_eq_true.mp h x hx
      subst e
      cases this
  · have := dep (kvs.map fun p => kT p.1) b hb'
    show X.A.units + 1 + 1 + (id b).depth < cLine
    have e : (id b : D) = b := rfl
    rw [e]
    omega
  · rw [sortD_eq] at eo
    obtain ⟨us, f1, f2⟩ := each_back eo
    have hp : H h'.objs.size = none := I.hok.fresh (Nat.le_of_lt hlt)
    have lu : us.length ≤ sizeLine := by
      rw [f1.length, hl]
      exact fitL_le h5
    refine ⟨.ref h'.objs.size, _, ?_, rfl, q _ us _ rfl hp f2⟩
    refine I.laid (t' := tk) (o := .lst us) (a := h'.objs.size) (h' := sortedHeap (h'.push { cls := .type "list", data := .seq acc.toList.toArray }) h'.objs.size acc.toList (List.toArray out)) (fun b o e => ?_) (Nat.le_of_lt hlt) ⟨lu, out, _, f1, (sortedHeap_at new).choose_spec⟩
    have lb := Heap.lt_size (kk b o e)
    rw [sortedHeap_old (Nat.ne_of_lt lb) (Heap.lt_size (up b o e))]
    exact up b o e
end
/-! ### keys frozen -/
section
variable {K : PySem.W.Frag} {fl : List Bool} {G0 B G G' H : Hp} {e : Sg} {σ : L2.St}
theorem SR.tups (r : SR K fl G0 B G e σ H) (g : Same G G') (gh : Same G' H) (tp : ∀ p o, G p = none → G' p = some o → ∃ xs, o = .tup xs) : SR K fl G0 B G' e σ H where
  g0 := r.g0.trans g
  gh := gh
  bh := r.bh
  nw := fun p h1 h2 => by
    cases hg : G' p with
    | none => rfl
    | some o =>
      obtain ⟨xs, rfl⟩ := tp p o (r.nw p h1 h2) hg
      obtain ⟨o2, k1, k2⟩ := h2.mono r.bh
      rw [gh _ _ hg] at k1
      cases k1
      exact (show False from k2).elim
  len := r.len
  fro := fun i d h f => by
    obtain ⟨v, h1, h2⟩ := r.fro i d h f
    exact ⟨v, h1, h2.mono g⟩
  own := fun i d h f => by
    obtain ⟨v, h1, h2⟩ := r.own i d h f
    refine ⟨v, h1, ?_⟩
    unfold Own at h2 ⊢
    split
    · rename_i hb
      rw [if_pos hb] at h2
      obtain ⟨p, e1, e2, e3, h3⟩ := h2
      refine ⟨p, e1, ?_, e3, h3.mono g fun o q => q⟩
      cases hg : G' p with
      | none => rfl
      | some o =>
        obtain ⟨xs, rfl⟩ := tp p o e2 hg
        obtain ⟨o2, k1, k2⟩ := h3.hard
        rw [gh _ _ hg] at k1
        cases k1
        exact (show False from k2).elim
    · rename_i hb
      rw [if_neg hb] at h2
      exact h2.mono g
  dis := r.dis
theorem rpl_key : ∀ k : List Key, RpL K G (k.map kV) (k.map kD)
  | [] => .nil
  | x :: k => .cons (by cases x; exact .int _; exact .str _) (rpl_key k)
open Classical in
theorem keys_in {us : List V} {es : List D} (gh : Same G H) (ky : Paired (KyR H) us es) : ∃ G', Same G G' ∧ Same G' H ∧ (∀ p o, G p = none → G' p = some o → ∃ xs, o = .tup xs) ∧ RpL K G' us es := by
  have back : ∀ {us : List V} {es : List D}, Paired (KyR H) us es → ∀ p, V.ref p ∈ us → ∃ k : List Key, H p = some (.tup (k.map kV)) := by
    intro us es q
    induction q with
    | nil => intro p h; cases h
    | cons h t ih =>
      intro p hp
      obtain ⟨b, k, e1, _, e3⟩ := h
      rcases List.mem_cons.mp hp with z | z
      · rw [e1] at z
        cases z
        exact ⟨k, e3⟩
      · exact ih p z
  let G' : Hp := fun p => if V.ref p ∈ us then H p else G p
  have gin : ∀ p, V.ref p ∈ us → G' p = H p := fun p h => if_pos h
  have gout : ∀ p, V.ref p ∉ us → G' p = G p := fun p h => if_neg h
  refine ⟨G', fun p o h => ?_, fun p o h => ?_, fun p o h1 h2 => ?_, ?_⟩
  · by_cases hp : V.ref p ∈ us
    · rw [gin p hp]; exact gh _ _ h
    · rw [gout p hp]; exact h
  · by_cases hp : V.ref p ∈ us
    · rw [gin p hp] at h; exact h
    · rw [gout p hp] at h; exact gh _ _ h
  · by_cases hp : V.ref p ∈ us
    · obtain ⟨k, hk⟩ := back ky p hp
      rw [gin p hp, hk] at h2
      cases h2
      exact ⟨_, rfl⟩
    · rw [gout p hp, h1] at h2
      cases h2
  · have go : ∀ {us' : List V} {es' : List D}, Paired (KyR H) us' es' → (∀ v ∈ us', v ∈ us) → RpL K G' us' es' := by
      intro us' es' q
      induction q with
      | nil => intro _; exact .nil
      | cons h t ih =>
        intro sub
        obtain ⟨b, k, e1, e2, e3⟩ := h
        refine .cons ?_ (ih fun v hv => sub v (by simp [hv]))
        subst e1
        subst e2
        exact .tup (by rw [gin b (sub _ (by simp))]; exact e3) (rpl_key k)
    exact go ky fun v h => h
end
/-- what is called by name, dicts sorted too -/
def rB2 (K : PySem.W.Frag) (b : Blt) : List V → Hp → VK → Prop := fun xs H Q => rBlt K b xs H Q ∨ (b = .sorted ∧ ∃ a kvs d, xs = [.ref a] ∧ Rd H a (.dT kvs) ∧ sortA (kvs.map fun p => kT p.1) = .ok d ∧ ∀ p us es, d = .list es → H p = none → Paired (KyR H) us es → Q (.ref p) (upd H p (.lst us)))
theorem call_blt2 {X : Cx} (hc : X.calm = true) (hu : X.A.units + 65 < cLine) (gd : X.A.guards = some []) (b : Blt) : CallR X b.val (rB2 X.K b) := by
  intro pins s σ H xs us Q I r h
  rcases h with h | ⟨rfl, a, kvs, d, rfl, hd, hf, q⟩
  · exact call_blt hc hu gd b pins s σ H xs us Q I r h
  · cases Vals.ref1 r
    exact call_sortDT hc hu I hd hf q
end Mt
/-! Part B4: a dict that stands while it is walked (locked). -/
namespace Mt
open PySem PySem.Spec PyProof.Rows L2
open Classical in
/-- the thing u at p is locked -/
noncomputable def Lk (p : Addr) (u : HO) (od : Obj) (H : Hp) : Hp := fun q => if q = p ∧ H q = some u then some (.frz od u) else H q
open Classical in
noncomputable def Ul (p : Addr) (u : HO) (od : Obj) (H : Hp) : Hp := fun q => if q = p ∧ H q = some (.frz od u) then some u else H q
section
variable {p q : Addr} {u o : HO} {od : Obj} {H H' G : Hp}
theorem Lk.at (h : H p = some u) : Lk p u od H p = some (.frz od u) := if_pos ⟨rfl, h⟩
theorem Lk.off (h : q ≠ p) : Lk p u od H q = H q := if_neg fun z => h z.1
theorem Lk.none (h : H q = none) : Lk p u od H q = none := by
  unfold Lk
  rw [if_neg (fun z => by rw [h] at z; cases z.2)]
  exact h
theorem Ul.at (h : H p = some (.frz od u)) : Ul p u od H p = some u := if_pos ⟨rfl, h⟩
theorem Ul.off (h : q ≠ p) : Ul p u od H q = H q := if_neg fun z => h z.1
theorem Ul.none (h : H q = none) : Ul p u od H q = none := by
  unfold Ul
  rw [if_neg (fun z => by rw [h] at z; cases z.2)]
  exact h
theorem Lk.upd (h : H p = some u) : Lk p u od H = L2.upd H p (.frz od u) := by
  funext q
  by_cases e : q = p
  · rw [e, Lk.at h, upd_same]
  · rw [Lk.off e, upd_ne e]
theorem Ul.upd (h : H p = some (.frz od u)) : Ul p u od H = L2.upd H p u := by
  funext q
  by_cases e : q = p
  · rw [e, Ul.at h, upd_same]
  · rw [Ul.off e, upd_ne e]
theorem Lk.same (s : Same G H) : Same (Lk p u od G) (Lk p u od H) := fun q o h => by
  by_cases e : q = p
  · subst e
    cases hg : G q with
    | none => rw [Lk.none hg] at h; cases h
    | some o' =>
      have hh := s _ _ hg
      by_cases eu : o' = u
      · subst eu
        rw [Lk.at hg] at h
        rw [Lk.at hh]
        exact h
      · have g2 : Lk q u od G q = G q := if_neg fun z => eu (Option.some.inj (hg.symm.trans z.2))
        have h2 : Lk q u od H q = H q := if_neg fun z => eu (Option.some.inj (hh.symm.trans z.2))
        rw [g2, hg] at h
        rw [h2, hh]
        exact h
  · rw [Lk.off e] at h ⊢
    exact s _ _ h
theorem Ul.same (s : Same G H) : Same (Ul p u od G) (Ul p u od H) := fun q o h => by
  by_cases e : q = p
  · subst e
    cases hg : G q with
    | none => rw [Ul.none hg] at h; cases h
    | some o' =>
      have hh := s _ _ hg
      by_cases eu : o' = .frz od u
      · subst eu
        rw [Ul.at hg] at h
        rw [Ul.at hh]
        exact h
      · have g2 : Ul q u od G q = G q := if_neg fun z => eu (Option.some.inj (hg.symm.trans z.2))
        have h2 : Ul q u od H q = H q := if_neg fun z => eu (Option.some.inj (hh.symm.trans z.2))
        rw [g2, hg] at h
        rw [h2, hh]
        exact h
  · rw [Ul.off e] at h ⊢
    exact s _ _ h
end
section
variable {K : PySem.W.Frag} {p : Addr} {kvs : List (List Key × V)} {od : Obj} {G H : Hp}
theorem Lk.rd {a : Addr} {o : HO} (h : Rd G a o) : Rd (Lk p (.dT kvs) od G) a o := by
  by_cases e : a = p
  · subst e
    rcases h with h | ⟨o', h⟩
    · by_cases eu : o = .dT kvs
      · subst eu
        exact .inr ⟨od, Lk.at h⟩
      · exact .inl ((if_neg fun z => eu (Option.some.inj (h.symm.trans z.2))).trans h)
    · refine .inr ⟨o', (if_neg fun z => ?_).trans h⟩
      cases h.symm.trans z.2
  · unfold Rd
    rw [Lk.off e]
    exact h
theorem Ul.rd {a : Addr} {o : HO} (nf : ∀ o' u', o ≠ .frz o' u') (h : Rd G a o) : Rd (Ul p (.dT kvs) od G) a o := by
  by_cases e : a = p
  · subst e
    rcases h with h | ⟨o', h⟩
    · exact .inl ((if_neg fun z => nf _ _ (Option.some.inj (h.symm.trans z.2))).trans h)
    · by_cases eu : HO.frz o' o = .frz od (.dT kvs)
      · cases eu
        exact .inl (Ul.at h)
      · exact .inr ⟨o', (if_neg fun z => eu (Option.some.inj (h.symm.trans z.2))).trans h⟩
  · unfold Rd
    rw [Ul.off e]
    exact h
/-- what stands for data in one heap stands for it in the other -/
structure Lk2 (G G' : Hp) : Prop where
  tup : ∀ a xs, G a = some (.tup xs) → G' a = some (.tup xs)
  rd : ∀ a o, (∀ o' u', o ≠ .frz o' u') → Rd G a o → Rd G' a o
section
variable {G' : Hp}
theorem Lk2.sqL (k : Lk2 G G') {a : Addr} {xs : List V} (h : SqL K G a xs) : SqL K G' a xs := h.elim (fun h => .inl (k.rd _ _ (fun _ _ z => by cases z) h)) .inr
theorem Lk2.sqT (k : Lk2 G G') {a : Addr} {xs : List V} (h : SqT K G a xs) : SqT K G' a xs := h.elim (fun h => .inl (k.rd _ _ (fun _ _ z => by cases z) h)) .inr
mutual
theorem Lk2.rp (k : Lk2 G G') : ∀ {v : V} {d : D}, Rp K G v d → Rp K G' v d
  | _, _, .non => .non
  | _, _, .bl b => .bl b
  | _, _, .int i => .int i
  | _, _, .str x => .str x
  | _, _, .lst h r => .lst (k.sqL h) (Lk2.rpl k r)
  | _, _, .tup h r => .tup (k.tup _ _ h) (Lk2.rpl k r)
  | _, _, .ktp h r => .ktp (k.sqT h) (Lk2.rpl k r)
  | _, _, .dcK l h r => .dcK l (k.rd _ _ (fun _ _ z => by cases z) h) (Lk2.rpl k r)
  | _, _, .dcT l h r => .dcT l (k.rd _ _ (fun _ _ z => by cases z) h) (Lk2.rpl k r)
theorem Lk2.rpl (k : Lk2 G G') : ∀ {vs : List V} {ds : List D}, RpL K G vs ds → RpL K G' vs ds
  | _, _, .nil => .nil
  | _, _, .cons h r => .cons (Lk2.rp k h) (Lk2.rpl k r)
end
end
theorem lk_lk2 : Lk2 G (Lk p (.dT kvs) od G) := ⟨fun a xs h => (if_neg fun z => by rw [h] at z; cases z.2).trans h, fun a o _ h => Lk.rd h⟩
theorem ul_lk2 : Lk2 G (Ul p (.dT kvs) od G) := ⟨fun a xs h => (if_neg fun z => by rw [h] at z; cases z.2).trans h, fun a o nf h => Ul.rd nf h⟩
theorem OwnAt.lk {q : Addr} {d : D} (h : OwnAt K G H q d) {G' H' : Hp} (k : Lk2 G G') (e : ∀ o, H q = some o → H' q = some o) : OwnAt K G' H' q d := by
  cases d with
  | list ds =>
    obtain ⟨vs, h1, h2⟩ := h
    exact ⟨vs, e _ h1, k.rpl h2⟩
  | dict kds =>
    rcases h with ⟨ks, vs, ds, e1, e2, h1, h2⟩ | ⟨ks, vs, ds, e1, e2, h1, h2⟩
    · exact .inl ⟨ks, vs, ds, e1, e2, e _ h1, k.rpl h2⟩
    · exact .inr ⟨ks, vs, ds, e1, e2, e _ h1, k.rpl h2⟩
  | _ => exact h.elim
variable {fl : List Bool} {G0 B : Hp} {e : Sg} {σ : L2.St}
/-- the dict at p, frozen, is locked; p is set aside with what else stands -/
theorem SR.lock (r : SR K fl G0 B G e σ H) (gp : G p = some (.dT kvs)) : SR K fl (Lk p (.dT kvs) od G0) (L2.upd (Lk p (.dT kvs) od B) p (.frz od (.dT kvs))) (Lk p (.dT kvs) od G) e σ (Lk p (.dT kvs) od H) where
  g0 := Lk.same r.g0
  gh := Lk.same r.gh
  bh := fun q o h => by
    by_cases eq : q = p
    · subst eq
      rw [upd_same] at h
      rw [Lk.at (r.gh _ _ gp)]
      exact h
    · rw [upd_ne eq] at h
      exact Lk.same r.bh _ _ h
  nw := fun q h1 h2 => by
    by_cases eq : q = p
    · subst eq
      obtain ⟨o, k1, k2⟩ := h2
      rw [upd_same] at k1
      cases k1
      exact (show False from k2).elim
    · rw [Lk.off eq] at h1 ⊢
      obtain ⟨o, k1, k2⟩ := h2
      rw [upd_ne eq, Lk.off eq] at k1
      exact r.nw q h1 ⟨o, k1, k2⟩
  len := r.len
  fro := fun i d h f => by
    obtain ⟨v, h1, h2⟩ := r.fro i d h f
    exact ⟨v, h1, lk_lk2.rp h2⟩
  own := fun i d h f => by
    obtain ⟨v, h1, h2⟩ := r.own i d h f
    refine ⟨v, h1, ?_⟩
    unfold Own at h2 ⊢
    split
    · rename_i hb
      rw [if_pos hb] at h2
      obtain ⟨q, e1, e2, e3, h3⟩ := h2
      have hq : q ≠ p := fun z => by rw [z, gp] at e2; cases e2
      exact ⟨q, e1, Lk.none e2, by rw [upd_ne hq]; exact Lk.none e3, h3.lk lk_lk2 fun o x => by rw [Lk.off hq]; exact x⟩
    · rename_i hb
      rw [if_neg hb] at h2
      exact lk_lk2.rp h2
  dis := r.dis
/-- and unlocked -/
theorem SR.unlock {G' H' : Hp} {e' : Sg} {σ' : L2.St} {fl' : List Bool} (r : SR K fl' (Lk p (.dT kvs) od G0) (L2.upd (Lk p (.dT kvs) od B) p (.frz od (.dT kvs))) G' e' σ' H') (r0 : SR K fl G0 B G e σ H) (gp : G p = some (.dT kvs)) (gp' : G' p = some (.frz od (.dT kvs))) :
    SR K fl' G0 B (Ul p (.dT kvs) od G') e' σ' (Ul p (.dT kvs) od H') where
  g0 := fun q o h => by
    by_cases eq : q = p
    · subst eq
      rw [Ul.at gp']
      have := r0.g0 _ _ h
      rw [gp] at this
      exact this
    · rw [Ul.off eq]
      exact r.g0 _ _ (by rw [Lk.off eq]; exact h)
  gh := Ul.same r.gh
  bh := fun q o h => by
    by_cases eq : q = p
    · subst eq
      have h1 := r0.bh _ _ h
      rw [r0.gh _ _ gp] at h1
      rw [Ul.at (r.gh _ _ gp')]
      exact h1
    · rw [Ul.off eq]
      exact r.bh _ _ (by rw [upd_ne eq, Lk.off eq]; exact h)
  nw := fun q h1 h2 => by
    by_cases eq : q = p
    · subst eq
      have z := r0.nw _ h1 h2
      rw [gp] at z
      cases z
    · rw [Ul.off eq]
      obtain ⟨o, k1, k2⟩ := h2
      exact r.nw q (by rw [Lk.off eq]; exact h1) ⟨o, by rw [upd_ne eq, Lk.off eq]; exact k1, k2⟩
  len := r.len
  fro := fun i d h f => by
    obtain ⟨v, h1, h2⟩ := r.fro i d h f
    exact ⟨v, h1, ul_lk2.rp h2⟩
  own := fun i d h f => by
    obtain ⟨v, h1, h2⟩ := r.own i d h f
    refine ⟨v, h1, ?_⟩
    unfold Own at h2 ⊢
    split
    · rename_i hb
      rw [if_pos hb] at h2
      obtain ⟨q, e1, e2, e3, h3⟩ := h2
      have hq : q ≠ p := fun z => by rw [z, gp'] at e2; cases e2
      rw [upd_ne hq, Lk.off hq] at e3
      exact ⟨q, e1, Ul.none e2, e3, h3.lk ul_lk2 fun o x => by rw [Ul.off hq]; exact x⟩
    · rename_i hb
      rw [if_neg hb] at h2
      exact ul_lk2.rp h2
  dis := r.dis
end
end Mt
/-! Part D: what is asked of an expression's reading; the rules that lead one reading to another. -/
namespace Mt
open PySem PySem.Spec PyProof.Rows L2

/-- the class of an error, as a value, by name -/
abbrev Cls := Str → Value
/-- what is asked where an error of the program's own leaves -/
def ExW (K : PySem.W.Frag) (cl : Cls) (W : WX) (c : Str) (a : D) (G0 B G : Hp) (e : Sg) (σ : L2.St) (H : Hp) : Prop :=
  ∀ G' H' dd va, Same G G' → Same H H' → SR K [] G0 B G' e σ H' → H' dd = some (.xd [(Str.ofString "at", va)]) → Rp K G' va a → W (cl c) (some dd) σ H'
def Pst {α : Type} (K : PySem.W.Frag) (cl : Cls) (W : WX) (G0 B G : Hp) (e : Sg) (σ : L2.St) (H : Hp) (r : R α) (ok : α → Prop) : Prop := match r with
  | .ok a => ok a
  | .exc c a => ExW K cl W c a G0 B G e σ H
  | .stuck => False
section
variable {K : PySem.W.Frag} {cl : Cls} {W : WX} {G0 B G G' : Hp} {e : Sg} {σ : L2.St} {H H' : Hp} {α β : Type}
theorem Pst.grow {r : R α} {ok ok' : α → Prop} (h : Pst K cl W G0 B G e σ H r ok) (g : Same G G') (s : Same H H') (hk : ∀ a, ok a → ok' a) : Pst K cl W G0 B G' e σ H' r ok' := by
  cases r with
  | ok a => exact hk a h
  | exc c a => exact fun G2 H2 dd va g2 s2 sr hd hv => h G2 H2 dd va (g.trans g2) (s.trans s2) sr hd hv
  | stuck => exact h
theorem Pst.imp {r : R α} {ok ok' : α → Prop} (h : Pst K cl W G0 B G e σ H r ok) (hk : ∀ a, ok a → ok' a) : Pst K cl W G0 B G e σ H r ok' := h.grow (Same.refl G) (Same.refl H) hk
theorem Pst.bind {x : R α} {f : α → R β} {ok : β → Prop} (h : Pst K cl W G0 B G e σ H (x.bind f) ok) : Pst K cl W G0 B G e σ H x fun a => Pst K cl W G0 B G e σ H (f a) ok := by
  cases x <;> exact h
theorem Pst.of {r : R α} {ok : α → Prop} (h : Pst K cl W G0 B G e σ H r ok) (ne : ∀ c a, r ≠ .exc c a) : ∃ a, r = .ok a ∧ ok a := by
  cases r with
  | ok a => exact ⟨a, rfl, h⟩
  | exc c a => exact absurd rfl (ne c a)
  | stuck => exact h.elim
end

/-- the answer of an expression: owned and in no slot, or frozen -/
def RsE (K : PySem.W.Frag) (own : Bool) (fl : List Bool) (B G H : Hp) (e : Sg) (σ : L2.St) (v : V) (d : D) : Prop :=
  if own = true then Own K B G H v d ∧ (box d = true → ∀ (i : Nat) d', fl[i]? = some true → e[i]? = some (some d') → box d' = true → σ[i]? ≠ some (some v)) else Rp K G v d

/-- an expression: fl, fl' the flags ahead and behind; own: the answer is one's own; bor: it may be a slot's own -/
def tE (K : PySem.W.Frag) (cl : Cls) (W : WX) (fl fl' : List Bool) (own bor : Bool) (f : Sg → R D) : TE := fun σ H Q => ∃ G0 B G e, SR K fl G0 B G e σ H ∧
  Pst K cl W G0 B G e σ H (f e) fun d => ∀ G' H' v, Same G G' → Same H H' → SR K fl' G0 B G' e σ H' → Av K G' H' v d → (bor = false → RsE K own fl' B G' H' e σ v d) → Q v H'
def tT (K : PySem.W.Frag) (cl : Cls) (W : WX) (fl fl' : List Bool) (f : Sg → R Bool) : TT := fun σ H Q => ∃ G0 B G e, SR K fl G0 B G e σ H ∧
  Pst K cl W G0 B G e σ H (f e) fun t => ∀ G' H', Same G G' → Same H H' → SR K fl' G0 B G' e σ H' → Q t H'
def tA (K : PySem.W.Frag) (cl : Cls) (W : WX) (fl fl' : List Bool) (bor : Bool) (f : Sg → R D) : TA := fun σ H Q => ∃ G0 B G e, SR K fl G0 B G e σ H ∧
  Pst K cl W G0 B G e σ H ((f e).bind unL) fun ds => ∀ G' H' vs, Same G G' → Same H H' → SR K fl' G0 B G' e σ H' → AvL K G' H' vs ds → (bor = false → RpL K G' vs ds) → Q vs H'

section
variable {K : PySem.W.Frag} {cl : Cls} {W : WX} {fl fl' fl2 : List Bool} {G0 B G G' : Hp} {e : Sg} {σ : L2.St} {H H' : Hp}
theorem Own.av {v : V} {d : D} (h : Own K B G H v d) : Av K G H v d := by
  unfold Own at h
  split at h
  · obtain ⟨p, rfl, _, _, h⟩ := h
    exact .inr ⟨p, rfl, h⟩
  · exact .inl h
theorem RsE.av {own : Bool} {v : V} {d : D} (h : RsE K own fl B G H e σ v d) : Av K G H v d := by
  unfold RsE at h
  split at h
  · exact h.1.av
  · exact .inl h
/-- an answer that is one's own is frozen -/
theorem RsE.frz {own : Bool} {v : V} {d : D} (r : SR K fl G0 B G e σ H) (h : RsE K own fl B G H e σ v d) : ∃ G', Same G G' ∧ SR K fl G0 B G' e σ H ∧ Rp K G' v d := by
  unfold RsE at h
  split at h
  · obtain ⟨h, ns⟩ := h
    unfold Own at h
    split at h
    · rename_i hb
      obtain ⟨p, rfl, gp, bp, h⟩ := h
      obtain ⟨o, ho, hr⟩ := h.frz r.gh gp
      exact ⟨_, same_upd gp, r.frzAt gp bp ho (fun i d' f1 f2 f3 => ns hb i d' f1 f2 f3), hr⟩
    · exact ⟨G, Same.refl G, r, h⟩
  · exact ⟨G, Same.refl G, r, h⟩
/-- where an operation's result settles -/
theorem settle {fr own : Bool} {v : V} {d : D} (r : SR K fl G0 B G e σ H) (s : Same H H') (h : Res K fr G H H' v d) (ho : own = true → fr = true) :
    ∃ G', Same G G' ∧ SR K fl G0 B G' e σ H' ∧ RsE K own fl B G' H' e σ v d := by
  have r' := r.grow s
  have fresh : ∀ {p : Addr}, H p = none → G p = none ∧ B p = none ∧ ∀ (i : Nat) d', fl[i]? = some true → e[i]? = some (some d') → box d' = true → σ[i]? ≠ some (some (.ref p)) := fun {p} hp => by
    refine ⟨r.gh.free hp, r.bh.free hp, fun i d' f1 f2 f3 z => ?_⟩
    obtain ⟨v', k1, k2⟩ := r.own i d' f2 f1
    unfold Own at k2
    rw [if_pos f3] at k2
    obtain ⟨q, rfl, _, _, k3⟩ := k2
    rw [k1] at z
    cases z
    obtain ⟨o, k4⟩ := k3.there
    rw [hp] at k4
    cases k4
  by_cases hb : box d = true
  · -- a container
    have frozen : New K G H H' v d → ∃ G', Same G G' ∧ SR K fl G0 B G' e σ H' ∧ Rp K G' v d := fun ⟨p, e1, hp, hn⟩ => by
      subst e1
      obtain ⟨gp, bp, ns⟩ := fresh hp
      rcases hn with h | ⟨vs, ds, e2, _⟩
      · obtain ⟨o, ho, hr⟩ := h.frz r'.gh gp
        exact ⟨_, same_upd gp, r'.frzAt gp bp ho ns, hr⟩
      · subst e2
        cases hb
    by_cases hw : own = true
    · obtain ⟨p, e1, hp, hn⟩ := h.1 (ho hw) hb
      subst e1
      obtain ⟨gp, bp, ns⟩ := fresh hp
      rcases hn with h | ⟨vs, ds, e2, _⟩
      · refine ⟨G, Same.refl G, r', ?_⟩
        unfold RsE
        rw [if_pos hw]
        refine ⟨?_, fun _ => ns⟩
        unfold Own
        rw [if_pos hb]
        exact ⟨p, rfl, gp, bp, h⟩
      · subst e2
        cases hb
    · have fin : ∀ G', Same G G' → SR K fl G0 B G' e σ H' → Rp K G' v d → ∃ G', Same G G' ∧ SR K fl G0 B G' e σ H' ∧ RsE K own fl B G' H' e σ v d := fun G' a b c =>
        ⟨G', a, b, by unfold RsE; rw [if_neg hw]; exact c⟩
      rcases h.2 with h | h
      · exact fin G (Same.refl G) r' h
      · obtain ⟨G', a, b, c⟩ := frozen h
        exact fin G' a b c
  · -- no container
    have fin : ∀ G', Same G G' → SR K fl G0 B G' e σ H' → Rp K G' v d → ∃ G', Same G G' ∧ SR K fl G0 B G' e σ H' ∧ RsE K own fl B G' H' e σ v d := fun G' a b c =>
      ⟨G', a, b, by
        unfold RsE
        split
        · refine ⟨?_, fun z => absurd z hb⟩
          unfold Own
          rw [if_neg hb]
          exact c
        · exact c⟩
    rcases h.2 with h | ⟨p, e1, hp, hn⟩
    · exact fin G (Same.refl G) r' h
    · subst e1
      obtain ⟨gp, bp, ns⟩ := fresh hp
      rcases hn with h | ⟨vs, ds, e2, h1, h2⟩
      · cases d <;> first | exact h.elim | exact absurd rfl hb
      · subst e2
        exact fin (upd G p (.tup vs)) (same_upd gp) (r'.frzAt gp bp h1 ns) (.tup upd_same (h2.mono (same_upd gp)))
end

/-! ### weakening -/
theorem _root_.L2.PE.imp {X : Cx} {a : Expr} {t t' : TE} (h : PE X a t) (i : ∀ σ H Q, t' σ H Q → t σ H Q) : PE X a t' := ⟨fun pins s σ H Q I q => h.run pins s σ H Q I (i σ H Q q)⟩
theorem _root_.L2.PT.imp {X : Cx} {a : Expr} {t t' : TT} (h : PT X a t) (i : ∀ σ H Q, t' σ H Q → t σ H Q) : PT X a t' := ⟨fun pins s σ H Q I q => h.run pins s σ H Q I (i σ H Q q)⟩
theorem _root_.L2.PW.imp {X : Cx} {a : Expr} {t t' : TT} (h : PW X a t) (i : ∀ σ H Q, t' σ H Q → t σ H Q) : PW X a t' := ⟨fun wh pins s σ H Q I q => h.run wh pins s σ H Q I (i σ H Q q)⟩
theorem _root_.L2.PA.imp {X : Cx} {a : List Expr} {t t' : TA} (h : PA X a t) (i : ∀ σ H Q, t' σ H Q → t σ H Q) : PA X a t' := ⟨fun pos pins s σ H Q I q => h.run pos pins s σ H Q I (i σ H Q q)⟩

section
variable {K : PySem.W.Frag} {cl : Cls} {W : WX} {fl fl1 fl2 fl3 : List Bool} {σ : L2.St} {H : Hp} {Q : VK} {o1 b1 o2 b2 own : Bool} {f g : Sg → R D}
/-- two operands, then an operation on values -/
theorem two {h : D → D → R D} {r : R2} (hr : ∀ G x y H dx dy d Q, Same G H → Av K G H x dx → Av K G H y dy → h dx dy = .ok d → (∀ H' v, Same H H' → Res K true G H H' v d → Q v H') → r x y H Q) (nx : ∀ x y c a, h x y ≠ .exc c a)
    (q : tE K cl W fl fl2 own false (fun e => (f e).bind fun x => (g e).bind fun y => h x y) σ H Q) : tOp r (tE K cl W fl fl1 o1 b1 f) (tE K cl W fl1 fl2 o2 b2 g) σ H Q := by
  obtain ⟨G0, B, G, e, sr, p⟩ := q
  refine ⟨G0, B, G, e, sr, p.bind.imp fun dx p1 G1 H1 x g1 s1 sr1 ax _ => ⟨G0, B, G1, e, sr1, p1.bind.grow g1 s1 fun dy p2 G2 H2 y g2 s2 sr2 ay _ => ?_⟩⟩
  obtain ⟨d, hd, k⟩ := Pst.of p2 (nx dx dy)
  refine hr G2 x y H2 dx dy d Q sr2.gh (ax.grow g2 s2) ay hd fun H' v s3 rs => ?_
  obtain ⟨G3, g3, sr3, rs3⟩ := settle (own := own) sr2 s3 rs fun _ => rfl
  exact k G3 H' v ((g1.trans g2).trans g3) ((s1.trans s2).trans s3) sr3 rs3.av fun _ => rs3
end
end Mt
/-! Part E: each expression's rule. -/
namespace Mt
open PySem PySem.Spec PyProof.Rows L2

def dn (is : List Nat) (fl : List Bool) : List Bool := is.foldl (fun fl i => fl.set i false) fl
theorem dn_app (is js : List Nat) (fl : List Bool) : dn (is ++ js) fl = dn js (dn is fl) := by unfold dn; rw [List.foldl_append]
theorem set_false {fl : List Bool} {i : Nat} (h : fl[i]? ≠ some true) : fl.set i false = fl := by
  apply List.ext_getElem?
  intro j
  by_cases hj : i = j
  · subst hj
    rw [List.getElem?_set_self']
    cases z : fl[i]? with
    | none => rfl
    | some b =>
      cases b with
      | false => rfl
      | true => exact absurd z h
  · rw [List.getElem?_set_ne hj]
theorem dn_same : ∀ {is : List Nat} {fl : List Bool}, (∀ i ∈ is, fl[i]? ≠ some true) → dn is fl = fl
  | [], _, _ => rfl
  | i :: is, fl, h => by
    show dn is (fl.set i false) = fl
    rw [set_false (h i (by simp))]
    exact dn_same fun j hj => h j (by simp [hj])
theorem dn_false : ∀ {is : List Nat} {fl : List Bool} {i : Nat}, fl[i]? ≠ some true → (dn is fl)[i]? ≠ some true
  | [], _, _, h => h
  | j :: is, fl, i, h => by
    refine dn_false (is := is) ?_
    by_cases hj : j = i
    · subst hj
      rw [List.getElem?_set_self']
      cases fl[j]? <;> simp
    · rw [List.getElem?_set_ne hj]
      exact h
theorem dn_mem : ∀ {is : List Nat} {fl : List Bool} {i : Nat}, i ∈ is → (dn is fl)[i]? ≠ some true
  | j :: is, fl, i, h => by
    rcases List.mem_cons.mp h with e | h
    · subst e
      refine dn_false (is := is) ?_
      rw [List.getElem?_set_self']
      cases fl[i]? <;> simp
    · exact dn_mem (is := is) h
theorem dn_dn {is js : List Nat} {fl : List Bool} (h : ∀ i ∈ is, i ∈ js) : dn is (dn js fl) = dn js fl := dn_same fun i hi => dn_mem (h i hi)
theorem SR.dn {K : PySem.W.Frag} {fl : List Bool} {G0 B G : Hp} {e : Sg} {σ : L2.St} {H : Hp} (r : SR K fl G0 B G e σ H) (is : List Nat) : ∃ G', Same G G' ∧ SR K (dn is fl) G0 B G' e σ H := r.frzs is

theorem bin_nx (o : BinO) : ∀ (x y : D) (c : Str) (a : D), binD o x y ≠ .exc c a := by
  intro x y c a
  have g : ∀ {b : Bool} {d : D}, grd b (R.ok d) ≠ .exc c a := fun {b d} h => by cases b <;> cases h
  cases o <;> cases x <;> cases y <;> first | (intro h; cases h; done) | exact g
theorem lookD_nx {kds : List (D × D)} {k : D} {c : Str} : ∀ {x : D}, lookD kds k ≠ .exc c x := by
  intro x h
  unfold lookD at h
  split at h
  · split at h <;> cases h
  · split at h
    · split at h
      · rename_i m _
        cases hb : (!m.isEmpty) <;> rw [hb] at h <;> cases h
      · cases h
    · cases h
theorem bind_nx1 {α β : Type} {x : R α} {f : α → R β} {c : Str} {a : D} (hx : x ≠ .exc c a) (hf : ∀ y, f y ≠ .exc c a) : x.bind f ≠ .exc c a := by
  cases x with
  | ok y => exact hf y
  | exc c' a' => exact fun h => hx (by cases h; rfl)
  | stuck => exact fun h => by cases h
theorem cmp_nx (o : CmpO) : ∀ (x y : D) (c : Str) (a : D), cmpD o x y ≠ .exc c a := by
  intro x y c a
  have g : ∀ {b : Bool} {d : Bool}, grd b (R.ok d) ≠ .exc c a := fun {b d} h => by cases b <;> cases h
  have gi : ∀ kds, cmpD .inn x (.dict kds) ≠ .exc c a := fun kds => bind_nx1 (f := fun o : Option D => .ok o.isSome) lookD_nx fun y h => by cases h
  have gn : ∀ kds, cmpD .nin x (.dict kds) ≠ .exc c a := fun kds => bind_nx1 (f := fun o : Option D => .ok (!o.isSome)) lookD_nx fun y h => by cases h
  cases o <;> first
    | exact g
    | (cases y <;> first | exact gi _ | exact gn _ | (cases x <;> first | (intro h; cases h; done) | exact g) | exact g)
theorem idx_nx : ∀ (x y : D) (c : Str) (a : D), idxD x y ≠ .exc c a := by
  intro x y c a h
  have g : ∀ (l : List D) (i : Int), atD l i ≠ .exc c a := fun l i h => by
    unfold atD at h
    split at h <;> cases h
  cases x with
  | dict kds => exact bind_nx1 (f := fun o : Option D => match o with
      | some d => .ok d
      | none => .stuck) lookD_nx (fun y h => by cases y <;> cases h) h
  | list l =>
    cases y with
    | int i => exact g l i h
    | _ => cases h
  | tuple l =>
    cases y with
    | int i => exact g l i h
    | _ => cases h
  | str z =>
    cases y with
    | int i =>
      have h' : grd (fitL z.length) (match atI z.cps.toList i with | some c => (R.ok (.str ⟨#[c]⟩) : R D) | none => .stuck) = .exc c a := h
      cases hb : fitL z.length with
      | false => rw [hb] at h'; cases h'
      | true =>
        rw [hb] at h'
        cases k : atI z.cps.toList i with
        | none => rw [k] at h'; cases h'
        | some n => rw [k] at h'; cases h'
    | _ => cases h
  | _ => cases y <;> cases h
theorem truthy_nx : ∀ (x : D) (c : Str) (a : D), truthy x ≠ .exc c a := by
  intro x c a h
  cases x with
  | str z =>
    have h' : grd (decide (z.length ≤ sizeLine)) (R.ok ((z.length : Int) != 0)) = .exc c a := h
    cases hb : decide (z.length ≤ sizeLine) with
    | false => rw [hb] at h'; cases h'
    | true => rw [hb] at h'; cases h'
  | _ => cases h
theorem unL_nx : ∀ (x : D) (c : Str) (a : D), unL x ≠ .exc c a := by
  intro x c a h
  cases x <;> cases h
theorem intO_nx : ∀ (x : D) (c : Str) (a : D), intO x ≠ .exc c a := by
  intro x c a h
  cases x <;> cases h
theorem slice_nx : ∀ (x : D) (l h : Option Int) (c : Str) (a : D), sliceD x l h ≠ .exc c a := by
  intro x l h c a q
  cases x <;> cases q
theorem ints_nx : ∀ (xs : List D) (c : Str) (a : D), intsOf xs ≠ .exc c a
  | [], _, _, h => by cases h
  | .int i :: r, c, a, h => by
    have h : ((intsOf r).bind fun ns => (R.ok (i :: ns) : R (List Int))) = .exc c a := h
    cases hn : intsOf r with
    | ok ns => rw [hn] at h; cases h
    | exc c' a' => exact ints_nx r c' a' hn
    | stuck => rw [hn] at h; cases h
  | .none :: _, _, _, h => by cases h
  | .bool _ :: _, _, _, h => by cases h
  | .str _ :: _, _, _, h => by cases h
  | .list _ :: _, _, _, h => by cases h
  | .tuple _ :: _, _, _, h => by cases h
  | .dict _ :: _, _, _, h => by cases h
theorem bols_nx : ∀ (xs : List D) (c : Str) (a : D), bolsOf xs ≠ .exc c a
  | [], _, _, h => by cases h
  | .bool i :: r, c, a, h => by
    have h : ((bolsOf r).bind fun ns => (R.ok (i :: ns) : R (List Bool))) = .exc c a := h
    cases hn : bolsOf r with
    | ok ns => rw [hn] at h; cases h
    | exc c' a' => exact bols_nx r c' a' hn
    | stuck => rw [hn] at h; cases h
  | .none :: _, _, _, h => by cases h
  | .int _ :: _, _, _, h => by cases h
  | .str _ :: _, _, _, h => by cases h
  | .list _ :: _, _, _, h => by cases h
  | .tuple _ :: _, _, _, h => by cases h
  | .dict _ :: _, _, _, h => by cases h
theorem bind_nx {α β : Type} {x : R α} {f : α → R β} (hx : ∀ c a, x ≠ .exc c a) (hf : ∀ y c a, f y ≠ .exc c a) (c : Str) (a : D) : x.bind f ≠ .exc c a := by
  intro h
  cases hn : x with
  | ok y => rw [hn] at h; exact hf y c a h
  | exc c' a' => exact hx c' a' hn
  | stuck => rw [hn] at h; cases h
theorem leastL_nx (ns : List Int) (c : Str) (a : D) : leastL ns ≠ .exc c a := by cases ns <;> (intro h; cases h)
theorem mostL_nx (ns : List Int) (c : Str) (a : D) : mostL ns ≠ .exc c a := by cases ns <;> (intro h; cases h)
theorem sumL_nx (ns : List Int) (c : Str) (a : D) : sumL ns ≠ .exc c a := by intro h; cases h
theorem allL_nx (ns : List Bool) (c : Str) (a : D) : allL ns ≠ .exc c a := by intro h; cases h
theorem anyL_nx (ns : List Bool) (c : Str) (a : D) : anyL ns ≠ .exc c a := by intro h; cases h
theorem grdo_nx {α : Type} {b : Bool} {x : α} (c : Str) (a : D) : grd b (R.ok x) ≠ .exc c a := by cases b <;> (intro h; cases h)
theorem minA_nx (xs : List D) (c : Str) (a : D) : minA xs ≠ .exc c a := by
  intro h
  unfold minA at h
  split at h
  · exact leastL_nx _ c a h
  · cases xs with
    | nil => cases h
    | cons x r => exact grdo_nx c a h
theorem maxA_nx (xs : List D) (c : Str) (a : D) : maxA xs ≠ .exc c a := by
  intro h
  unfold maxA at h
  split at h
  · exact mostL_nx _ c a h
  · cases xs with
    | nil => cases h
    | cons x r => exact grdo_nx c a h
theorem sortA_nx (xs : List D) (c : Str) (a : D) : sortA xs ≠ .exc c a := grdo_nx c a
theorem sortDT_nx (kds : List (D × D)) (c : Str) (a : D) : sortDT kds ≠ .exc c a := by
  unfold sortDT
  split
  · exact sortA_nx _ c a
  · exact fun z => by cases z
theorem blt_nx (b : Blt) : ∀ (xs : List D) (c : Str) (a : D), bltD b xs ≠ .exc c a := by
  intro xs c a h
  unfold bltD at h
  split at h <;> first
    | (cases h; done)
    | exact grdo_nx c a h
    | exact minA_nx _ c a h
    | exact maxA_nx _ c a h
    | exact sortA_nx _ c a h
    | exact sortDT_nx _ c a h
    | exact bind_nx (ints_nx _) sumL_nx c a h
    | exact bind_nx (bols_nx _) allL_nx c a h
    | exact bind_nx (bols_nx _) anyL_nx c a h
theorem rep_nx : ∀ (x y : D) (c : Str) (a : D), repD x y ≠ .exc c a := by
  intro x y c a h
  unfold repD at h
  split at h <;> first
    | (cases h; done)
    | exact grdo_nx c a h
theorem gcd_nx : ∀ (xs : List D) (c : Str) (a : D), gcdD xs ≠ .exc c a := by
  intro xs c a h
  unfold gcdD at h
  split at h <;> cases h
theorem dg_nx (kvs : List (Int × Str)) : ∀ (x : D) (c : Str) (a : D), dgD kvs x ≠ .exc c a := by
  intro x c a h
  cases x <;> cases h
theorem asStr_nx : ∀ (x : D) (c : Str) (a : D), asStr x ≠ .exc c a := by
  intro x c a h
  cases x <;> cases h
theorem asStr_ok {x : D} {z : Str} (h : asStr x = .ok z) : x = .str z := by
  cases x <;> cases h
  rfl
theorem lidx_nx (xs : List D) : ∀ (y : D) (c : Str) (a : D), lidxD xs y ≠ .exc c a := by
  intro y c a h
  unfold lidxD at h
  cases hb : (flat (.list xs) && flat y) with
  | false => rw [hb] at h; cases h
  | true =>
    rw [hb] at h
    cases hz : (xs.findIdx? fun z => PyData.eqv z y) with
    | none => rw [hz] at h; cases h
    | some i => rw [hz] at h; cases h
theorem lens_nx : ∀ (y : D) (c : Str) (a : D), lensD y ≠ .exc c a := by
  intro y c a
  cases y with
  | list xs => exact bind_nx1 (ints_nx xs c a) fun ns h => by cases hb : decide (ns.length < 4000) <;> rw [hb] at h <;> cases h
  | _ => exact fun h => nomatch h
theorem sset_nx : ∀ (y : D) (c : Str) (a : D), ssetD y ≠ .exc c a := by
  intro y c a h
  cases y with
  | list xs =>
    have h : ssetL xs = .exc c a := h
    unfold ssetL at h
    split at h
    · rename_i ns _
      cases hb : decide (ns.length < 64) <;> rw [hb] at h <;> cases h
    · split at h
      · rename_i ps _
        cases hb : (decide (ps.length < 64) && ps.all inPP) <;> rw [hb] at h <;> cases h
      · cases h
  | _ => cases h
theorem rev_nx : ∀ (y : D) (c : Str) (a : D), revD y ≠ .exc c a := by
  intro y c a h
  cases y <;> cases h
theorem sidx_nx (z : Str) : ∀ (y : D) (c : Str) (a : D), sidxD z y ≠ .exc c a := by
  intro y c a h
  unfold sidxD at h
  split at h
  · split at h <;> cases h
  · cases h

section
variable {X : Cx} {cl : Cls} {W : WX} {fl : List Bool} {pos : Pos}

/-! ### constants, names -/
theorem s_con {a : Expr} {v : V} {d : D} {own : Bool} (h : PE X a (tC v)) (r : ∀ G, Rp X.K G v d) (hb : box d = false) : PE X a (tE X.K cl W fl fl own false fun _ => .ok d) := h.imp fun σ H Q q => by
  obtain ⟨G0, B, G, e, sr, p⟩ := q
  refine p G H v (Same.refl G) (Same.refl H) sr (.inl (r G)) fun _ => ?_
  unfold RsE
  split
  · refine ⟨?_, fun z => by rw [hb] at z; cases z⟩
    unfold Own
    rw [if_neg (by rw [hb]; decide)]
    exact r G
  · exact r G
theorem getS_ok {e : Sg} {i : Nat} {d : D} (h : getS e i = .ok d) : e[i]? = some (some d) := by
  unfold getS at h
  split at h
  · rename_i d' q
    cases h
    exact q
  · cases h
theorem getS_nx {e : Sg} {i : Nat} {c : Str} {a : D} : getS e i ≠ .exc c a := by
  intro h
  unfold getS at h
  split at h <;> cases h
theorem s_var {a : Expr} {i : Nat} (h : PE X a (tVar i)) : PE X a (tE X.K cl W fl (fl.set i false) false false fun e => getS e i) := h.imp fun σ H Q q => by
  obtain ⟨G0, B, G, e, sr, p⟩ := q
  obtain ⟨d, hd, k⟩ := Pst.of p fun _ _ => getS_nx
  obtain ⟨G1, g1, sr1⟩ := sr.frz i
  have hnot : (fl.set i false)[i]? ≠ some true := by
    rw [List.getElem?_set_self']
    cases fl[i]? <;> simp
  obtain ⟨v, h1, h2⟩ := sr1.fro i d (getS_ok hd) hnot
  exact ⟨v, h1, k G1 H v g1 (Same.refl H) sr1 (.inl h2) fun _ => by unfold RsE; rw [if_neg (by decide)]; exact h2⟩
theorem s_bor {a : Expr} {i : Nat} {own : Bool} (h : PE X a (tVar i)) : PE X a (tE X.K cl W fl fl own true fun e => getS e i) := h.imp fun σ H Q q => by
  obtain ⟨G0, B, G, e, sr, p⟩ := q
  obtain ⟨d, hd, k⟩ := Pst.of p fun _ _ => getS_nx
  by_cases f : fl[i]? = some true
  · obtain ⟨v, h1, h2⟩ := sr.own i d (getS_ok hd) f
    exact ⟨v, h1, k G H v (Same.refl G) (Same.refl H) sr h2.av fun z => by cases z⟩
  · obtain ⟨v, h1, h2⟩ := sr.fro i d (getS_ok hd) f
    exact ⟨v, h1, k G H v (Same.refl G) (Same.refl H) sr (.inl h2) fun z => by cases z⟩

/-! ### operations -/
variable {a b : Expr} {fl1 fl2 fl3 : List Bool} {o1 b1 o2 b2 : Bool} {f g : Sg → R D}
theorem rD2_of {K : PySem.W.Frag} {h : D → D → R D} (fr : Bool) : ∀ G x y H dx dy d Q, Same G H → Av K G H x dx → Av K G H y dy → h (unk dx) (unk dy) = .ok d → (∀ H' v, Same H H' → Res K fr G H H' v d → Q v H') → rD2 K fr h x y H Q :=
  fun G x y H dx dy d Q g ax ay e k => ⟨G, unk dx, unk dy, d, g, ax.unk g, ay.unk g, e, k⟩
theorem s_bin (o : BinO) (ha : PE X a (tE X.K cl W fl fl1 o1 b1 f)) (hb : PE X b (tE X.K cl W fl1 fl2 o2 b2 g)) :
    PE X (.BinOp a o.op b pos) (tE X.K cl W fl fl2 true false fun e => (f e).bind fun x => (g e).bind fun y => binD o (unk x) (unk y)) :=
  (pe_op (op_bin o) ha hb).imp fun σ H Q q => two (h := fun x y => binD o (unk x) (unk y)) (rD2_of true) (fun x y => bin_nx o _ _) q
theorem s_neg (ha : PE X a (tE X.K cl W fl fl1 o1 b1 f)) : PE X (.UnaryOp .USub a pos) (tE X.K cl W fl fl1 true false fun e => (f e).bind fun x => match x with
    | .int i => .ok (.int (-i))
    | _ => .stuck) := (pe_un un_neg ha).imp fun σ H Q q => by
  obtain ⟨G0, B, G, e, sr, p⟩ := q
  refine ⟨G0, B, G, e, sr, p.bind.imp fun dx p1 G1 H1 x g1 s1 sr1 ax _ => ?_⟩
  cases dx with
  | int i =>
    refine ⟨i, ax.int, p1 G1 H1 _ g1 s1 sr1 (.inl (.int _)) fun _ => ?_⟩
    exact ⟨.int _, fun z => nomatch z⟩
  | _ => exact p1.elim
theorem idx_fin {K : PySem.W.Frag} {σ : L2.St} {H : Hp} {Q : VK} (q : tE K cl W fl fl2 false false (fun e => (f e).bind fun x => (g e).bind fun y => idxD (unk x) y) σ H Q) :
    tOp (rI2 K false idxD) (tE K cl W fl fl1 o1 b1 f) (tE K cl W fl1 fl2 o2 b2 g) σ H Q := by
  obtain ⟨G0, B, G, e, sr, p⟩ := q
  refine ⟨G0, B, G, e, sr, p.bind.imp fun dx p1 G1 H1 x g1 s1 sr1 ax _ => ⟨G0, B, G1, e, sr1, p1.bind.grow g1 s1 fun dy p2 G2 H2 y g2 s2 sr2 ay _ => ?_⟩⟩
  obtain ⟨d, hd, k⟩ := Pst.of p2 (idx_nx (unk dx) dy)
  refine ⟨G2, unk dx, dy, d, sr2.gh, (ax.grow g2 s2).unk sr2.gh, ay, hd, fun H' v s3 rs => ?_⟩
  obtain ⟨G3, g3, sr3, rs3⟩ := settle (own := false) sr2 s3 rs fun z => nomatch z
  exact k G3 H' v ((g1.trans g2).trans g3) ((s1.trans s2).trans s3) sr3 rs3.av fun _ => rs3
theorem s_idx (hu : X.A.units + 65 < cLine) (hp : PlainIx b) (ha : PE X a (tE X.K cl W fl fl1 o1 b1 f)) (hb : PE X b (tE X.K cl W fl1 fl2 o2 b2 g)) :
    PE X (.Subscript a b pos) (tE X.K cl W fl fl2 false false fun e => (f e).bind fun x => (g e).bind fun y => idxD (unk x) y) :=
  (pe_ix (ix_D (by omega)) ha hb hp).imp fun σ H Q q => idx_fin q
theorem RsE.bl {K : PySem.W.Frag} {own : Bool} {B G H : Hp} {e : Sg} {σ : L2.St} {t : Bool} : RsE K own fl B G H e σ (.bl t) (.bool t) := by
  unfold RsE
  split
  · exact ⟨.bl t, fun z => nomatch z⟩
  · exact .bl t
theorem cmp_fin {K : PySem.W.Frag} {o : CmpO} {σ : L2.St} {H : Hp} {Q : VK} (q : tE K cl W fl fl2 true false (fun e => (f e).bind fun x => (g e).bind fun y => (cmpD o x (unk y)).bind fun t => .ok (.bool t)) σ H Q) :
    tOp (rC2 K (cmpD o)) (tE K cl W fl fl1 o1 b1 f) (tE K cl W fl1 fl2 o2 b2 g) σ H Q := by
  obtain ⟨G0, B, G, e, sr, p⟩ := q
  refine ⟨G0, B, G, e, sr, p.bind.imp fun dx p1 G1 H1 x g1 s1 sr1 ax _ => ⟨G0, B, G1, e, sr1, p1.bind.grow g1 s1 fun dy p2 G2 H2 y g2 s2 sr2 ay _ => ?_⟩⟩
  obtain ⟨t, ht, k⟩ := Pst.of p2.bind (cmp_nx o dx (unk dy))
  exact ⟨G2, dx, unk dy, t, sr2.gh, ax.grow g2 s2, ay.unk sr2.gh, ht, k G2 H2 _ (g1.trans g2) (s1.trans s2) sr2 (.inl (.bl t)) fun _ => .bl⟩
theorem s_cmp (o : CmpO) (hu : X.A.units + 65 < cLine) (hm : behindInMarks o.op b = false) (ha : PE X a (tE X.K cl W fl fl1 o1 b1 f)) (hb : PE X b (tE X.K cl W fl1 fl2 o2 b2 g)) :
    PE X (.Compare a [o.op] [b] pos) (tE X.K cl W fl fl2 true false fun e => (f e).bind fun x => (g e).bind fun y => (cmpD o x (unk y)).bind fun t => .ok (.bool t)) :=
  (pe_cmpR (op_cmpD hu o) ha hb hm).imp fun σ H Q q => cmp_fin q
/-- an answer that is a bool, as a test -/
theorem tE_test {K : PySem.W.Frag} {t : TE} (ht : ∀ σ H Q, tE K cl W fl fl2 true false f σ H Q → t σ H Q) (hbl : ∀ e d, f e = .ok d → ∃ b, d = .bool b) {σ : L2.St} {H : Hp} {Q : Bool → Hp → Prop}
    (q : tT K cl W fl fl2 (fun e => (f e).bind truthy) σ H Q) : tTest t σ H Q := by
  obtain ⟨G0, B, G, e, sr, p⟩ := q
  refine ht _ _ _ ⟨G0, B, G, e, sr, ?_⟩
  have p' := p.bind
  cases hf : f e with
  | ok d =>
    rw [hf] at p'
    obtain ⟨k, rfl⟩ := hbl e d hf
    intro G' H' v g s sr' av _
    exact ⟨k, av.bl, p' G' H' g s sr'⟩
  | exc c a =>
    rw [hf] at p'
    exact p'
  | stuck =>
    rw [hf] at p'
    exact p'.elim
theorem cmp_bl {o : CmpO} (e : Sg) (d : D) (h : ((f e).bind fun x => (g e).bind fun y => (cmpD o x (unk y)).bind fun t => (R.ok (.bool t) : R D)) = .ok d) : ∃ b, d = .bool b := by
  cases hf : f e with
  | ok x =>
    rw [hf] at h
    have h1 : ((g e).bind fun y => (cmpD o x (unk y)).bind fun t => (R.ok (.bool t) : R D)) = .ok d := h
    cases hg : g e with
    | ok y =>
      rw [hg] at h1
      have h2 : ((cmpD o x (unk y)).bind fun t => (R.ok (.bool t) : R D)) = .ok d := h1
      cases hc : cmpD o x (unk y) with
      | ok t =>
        rw [hc] at h2
        cases h2
        exact ⟨t, rfl⟩
      | exc c a => rw [hc] at h2; cases h2
      | stuck => rw [hc] at h2; cases h2
    | exc c a => rw [hg] at h1; cases h1
    | stuck => rw [hg] at h1; cases h1
  | exc c a => rw [hf] at h; cases h
  | stuck => rw [hf] at h; cases h
theorem t_cmp (o : CmpO) (hu : X.A.units + 65 < cLine) (hm : behindInMarks o.op b = false) (ha : PE X a (tE X.K cl W fl fl1 o1 b1 f)) (hb : PE X b (tE X.K cl W fl1 fl2 o2 b2 g)) :
    PT X (.Compare a [o.op] [b] pos) (tT X.K cl W fl fl2 fun e => ((f e).bind fun x => (g e).bind fun y => (cmpD o x (unk y)).bind fun t => .ok (.bool t)).bind truthy) :=
  (pt_cmpR (op_cmpD hu o) ha hb hm).imp fun σ H Q q => tE_test (t := tOp (rC2 X.K (cmpD o)) (tE X.K cl W fl fl1 o1 b1 f) (tE X.K cl W fl1 fl2 o2 b2 g)) (fun σ H Q q => cmp_fin q) cmp_bl q

/-! ### a op b op c -/
variable {c : Expr} {o3 b3 : Bool} {k : Sg → R D}
def fChn (o o' : CmpO) (f g k : Sg → R D) : Sg → R D := fun e => (f e).bind fun x => (g e).bind fun y => (cmpD o x (unk y)).bind fun t =>
  if t = true then (k e).bind fun z => (cmpD o' y (unk z)).bind fun t2 => .ok (.bool t2) else .ok (.bool false)
theorem chn_fin {K : PySem.W.Frag} {o o' : CmpO} {is : List Nat} {σ : L2.St} {H : Hp} {Q : VK} (q : tE K cl W fl (dn is fl2) true false (fChn o o' f g k) σ H Q) :
    tChain (rC2 K (cmpD o)) (rC2 K (cmpD o')) (tE K cl W fl fl1 o1 b1 f) (tE K cl W fl1 fl2 o2 b2 g) (tE K cl W fl2 (dn is fl2) o3 b3 k) σ H Q := by
  obtain ⟨G0, B, G, e, sr, p⟩ := q
  refine ⟨G0, B, G, e, sr, p.bind.imp fun dx p1 G1 H1 x g1 s1 sr1 ax _ => ⟨G0, B, G1, e, sr1, p1.bind.grow g1 s1 fun dy p2 G2 H2 y g2 s2 sr2 ay _ => ?_⟩⟩
  obtain ⟨t, ht, kk⟩ := Pst.of p2.bind (cmp_nx o dx (unk dy))
  refine ⟨G2, dx, unk dy, t, sr2.gh, ax.grow g2 s2, ay.unk sr2.gh, ht, t, rfl, ?_⟩
  cases t with
  | false =>
    rw [if_neg Bool.false_ne_true] at kk ⊢
    obtain ⟨G3, g3, sr3⟩ := sr2.dn is
    exact kk G3 H2 _ ((g1.trans g2).trans g3) (s1.trans s2) sr3 (.inl (.bl _)) fun _ => .bl
  | true =>
    rw [if_pos rfl] at kk ⊢
    refine ⟨G0, B, G2, e, sr2, kk.bind.grow (g1.trans g2) (s1.trans s2) fun dz p3 G3 H3 z g3 s3 sr3 az _ => ?_⟩
    obtain ⟨t2, ht2, k2⟩ := Pst.of p3.bind (cmp_nx o' dy (unk dz))
    exact ⟨G3, dy, unk dz, t2, sr3.gh, ay.grow g3 s3, az.unk sr3.gh, ht2, k2 G3 H3 _ ((g1.trans g2).trans g3) ((s1.trans s2).trans s3) sr3 (.inl (.bl t2)) fun _ => .bl⟩
theorem s_chn (o o' : CmpO) {is : List Nat} (hu : X.A.units + 65 < cLine) (hm : lastMarks [o.op, o'.op] [b, c] = false) (ha : PE X a (tE X.K cl W fl fl1 o1 b1 f)) (hb : PE X b (tE X.K cl W fl1 fl2 o2 b2 g))
    (hc : PE X c (tE X.K cl W fl2 (dn is fl2) o3 b3 k)) : PE X (.Compare a [o.op, o'.op] [b, c] pos) (tE X.K cl W fl (dn is fl2) true false (fChn o o' f g k)) :=
  (pe_chain (op_cmpD hu o) (op_cmpD hu o') ha hb hc hm).imp fun σ H Q q => chn_fin q
theorem chn_bl {o o' : CmpO} (e : Sg) (d : D) (h : fChn o o' f g k e = .ok d) : ∃ b, d = .bool b := by
  unfold fChn at h
  cases hf : f e with
  | ok x =>
    rw [hf] at h
    simp only [R.bind_ok] at h
    cases hg : g e with
    | ok y =>
      rw [hg] at h
      simp only [R.bind_ok] at h
      cases hc : cmpD o x (unk y) with
      | ok t =>
        rw [hc] at h
        simp only [R.bind_ok] at h
        cases t with
        | false => cases h; exact ⟨_, rfl⟩
        | true =>
          rw [if_pos rfl] at h
          cases hk : k e with
          | ok z =>
            rw [hk] at h
            simp only [R.bind_ok] at h
            cases hc2 : cmpD o' y (unk z) with
            | ok t2 => rw [hc2] at h; cases h; exact ⟨_, rfl⟩
            | exc c a => rw [hc2] at h; cases h
            | stuck => rw [hc2] at h; cases h
          | exc c a => rw [hk] at h; cases h
          | stuck => rw [hk] at h; cases h
      | exc c a => rw [hc] at h; cases h
      | stuck => rw [hc] at h; cases h
    | exc c a => rw [hg] at h; cases h
    | stuck => rw [hg] at h; cases h
  | exc c a => rw [hf] at h; cases h
  | stuck => rw [hf] at h; cases h
theorem t_chn (o o' : CmpO) {is : List Nat} (hu : X.A.units + 65 < cLine) (hm : lastMarks [o.op, o'.op] [b, c] = false) (ha : PE X a (tE X.K cl W fl fl1 o1 b1 f)) (hb : PE X b (tE X.K cl W fl1 fl2 o2 b2 g))
    (hc : PE X c (tE X.K cl W fl2 (dn is fl2) o3 b3 k)) : PT X (.Compare a [o.op, o'.op] [b, c] pos) (tT X.K cl W fl (dn is fl2) fun e => (fChn o o' f g k e).bind truthy) :=
  (pt_chain (op_cmpD hu o) (op_cmpD hu o') ha hb hc hm).imp fun σ H Q q => tE_test (fun σ H Q q => chn_fin q) chn_bl q

/-! ### truth: a value's, and, or, not, if -/
theorem t_val (ha : PE X a (tE X.K cl W fl fl1 o1 b1 f)) (he : ∀ whole, isTrue a X.env whole = (do let v ← whole; standAt a.pos; holding [v] (PySem.truthy v))) : PT X a (tT X.K cl W fl fl1 fun e => (f e).bind truthy) :=
  (pt_truth ha he).imp fun σ H Q q => by
    obtain ⟨G0, B, G, e, sr, p⟩ := q
    refine ⟨G0, B, G, e, sr, p.bind.imp fun dx p1 G1 H1 x g1 s1 sr1 ax _ => ?_⟩
    obtain ⟨t, ht, kk⟩ := Pst.of p1 (truthy_nx dx)
    exact ⟨t, tru_D sr1.gh ax ht, kk G1 H1 g1 s1 sr1⟩
theorem t_not {ft : Sg → R D} (ha : PT X a (tT X.K cl W fl fl1 fun e => (ft e).bind truthy)) :
    PT X (.UnaryOp .Not a pos) (tT X.K cl W fl fl1 fun e => ((ft e).bind fun x => (truthy x).bind fun t => (.ok (.bool (!t)) : R D)).bind truthy) := (pt_not ha).imp fun σ H Q q => by
  obtain ⟨G0, B, G, e, sr, p⟩ := q
  refine ⟨G0, B, G, e, sr, ?_⟩
  dsimp only at p ⊢
  cases hf : ft e with
  | ok x =>
    rw [hf] at p
    show Pst X.K cl W G0 B G e σ H (truthy x) _
    have p2 : Pst X.K cl W G0 B G e σ H (((truthy x).bind fun t => (.ok (.bool (!t)) : R D)).bind truthy) (fun t => ∀ G' H', Same G G' → Same H H' → SR X.K fl1 G0 B G' e σ H' → Q t H') := p
    cases ht : truthy x with
    | ok t =>
      rw [ht] at p2
      exact p2
    | exc c a => exact absurd ht (truthy_nx x c a)
    | stuck => rw [ht] at p2; exact p2.elim
  | exc c a => rw [hf] at p; exact p
  | stuck => rw [hf] at p; exact p.elim
theorem s_not (ha : PE X a (tE X.K cl W fl fl1 o1 b1 f)) : PE X (.UnaryOp .Not a pos) (tE X.K cl W fl fl1 true false fun e => (f e).bind fun x => (truthy x).bind fun t => .ok (.bool (!t))) := (pe_notT ha).imp fun σ H Q q => by
  obtain ⟨G0, B, G, e, sr, p⟩ := q
  refine ⟨G0, B, G, e, sr, p.bind.imp fun dx p1 G1 H1 x g1 s1 sr1 ax _ => ?_⟩
  obtain ⟨t, ht, kk⟩ := Pst.of p1.bind (truthy_nx dx)
  exact ⟨t, tru_D sr1.gh ax ht, kk G1 H1 _ g1 s1 sr1 (.inl (.bl _)) fun _ => .bl⟩
variable {rest : List Expr} {is : List Nat}
/-- an answer of either of two -/
theorem RsE.weak {K : PySem.W.Frag} {own : Bool} {G0 B G : Hp} {e : Sg} {σ : L2.St} {H : Hp} {v : V} {d : D} (sr : SR K fl G0 B G e σ H) (h : RsE K own fl B G H e σ v d) : ∃ G', Same G G' ∧ SR K fl G0 B G' e σ H ∧ RsE K false fl B G' H e σ v d := by
  obtain ⟨G', g', sr', r'⟩ := h.frz sr
  exact ⟨G', g', sr', by unfold RsE; rw [if_neg (by decide)]; exact r'⟩
theorem RsE.frozen {K : PySem.W.Frag} {B G H : Hp} {e : Sg} {σ : L2.St} {v : V} {d : D} (h : RsE K false fl B G H e σ v d) : Rp K G v d := by
  unfold RsE at h
  rw [if_neg (by decide)] at h
  exact h
theorem RsE.of {K : PySem.W.Frag} {B G H : Hp} {e : Sg} {σ : L2.St} {v : V} {d : D} (h : Rp K G v d) : RsE K false fl B G H e σ v d := by
  unfold RsE
  rw [if_neg (by decide)]
  exact h
theorem s_and (ha : PE X a (tE X.K cl W fl fl1 o1 false f)) (hb : PE X (.BoolOp .And (b :: rest) pos) (tE X.K cl W fl1 (dn is fl1) o2 false g)) :
    PE X (.BoolOp .And (a :: b :: rest) pos) (tE X.K cl W fl (dn is fl1) false false fun e => (f e).bind fun x => (truthy x).bind fun t => if t = true then g e else .ok x) := (pe_andT ha hb).imp fun σ H Q q => by
  obtain ⟨G0, B, G, e, sr, p⟩ := q
  refine ⟨G0, B, G, e, sr, p.bind.imp fun dx p1 G1 H1 x g1 s1 sr1 ax rx => ?_⟩
  obtain ⟨t, ht, kk⟩ := Pst.of p1.bind (truthy_nx dx)
  refine ⟨t, tru_D sr1.gh ax ht, ?_⟩
  cases t with
  | true =>
    rw [if_pos rfl] at kk ⊢
    refine ⟨G0, B, G1, e, sr1, kk.grow g1 s1 fun d k2 G2 H2 v g2 s2 sr2 av rv => ?_⟩
    obtain ⟨G3, g3, sr3, rv3⟩ := (rv rfl).weak sr2
    exact k2 G3 H2 v ((g1.trans g2).trans g3) (s1.trans s2) sr3 rv3.av fun _ => rv3
  | false =>
    rw [if_neg Bool.false_ne_true] at kk ⊢
    obtain ⟨G2, g2, sr2, rx2⟩ := (rx rfl).weak sr1
    obtain ⟨G3, g3, sr3⟩ := sr2.dn is
    have z := rx2.frozen.mono g3
    exact kk G3 H1 x ((g1.trans g2).trans g3) s1 sr3 (.inl z) fun _ => .of z
theorem s_or (ha : PE X a (tE X.K cl W fl fl1 o1 false f)) (hb : PE X (.BoolOp .Or (b :: rest) pos) (tE X.K cl W fl1 (dn is fl1) o2 false g)) :
    PE X (.BoolOp .Or (a :: b :: rest) pos) (tE X.K cl W fl (dn is fl1) false false fun e => (f e).bind fun x => (truthy x).bind fun t => if t = true then .ok x else g e) := (pe_orT ha hb).imp fun σ H Q q => by
  obtain ⟨G0, B, G, e, sr, p⟩ := q
  refine ⟨G0, B, G, e, sr, p.bind.imp fun dx p1 G1 H1 x g1 s1 sr1 ax rx => ?_⟩
  obtain ⟨t, ht, kk⟩ := Pst.of p1.bind (truthy_nx dx)
  refine ⟨t, tru_D sr1.gh ax ht, ?_⟩
  cases t with
  | false =>
    rw [if_neg Bool.false_ne_true] at kk ⊢
    refine ⟨G0, B, G1, e, sr1, kk.grow g1 s1 fun d k2 G2 H2 v g2 s2 sr2 av rv => ?_⟩
    obtain ⟨G3, g3, sr3, rv3⟩ := (rv rfl).weak sr2
    exact k2 G3 H2 v ((g1.trans g2).trans g3) (s1.trans s2) sr3 rv3.av fun _ => rv3
  | true =>
    rw [if_pos rfl] at kk ⊢
    obtain ⟨G2, g2, sr2, rx2⟩ := (rx rfl).weak sr1
    obtain ⟨G3, g3, sr3⟩ := sr2.dn is
    have z := rx2.frozen.mono g3
    exact kk G3 H1 x ((g1.trans g2).trans g3) s1 sr3 (.inl z) fun _ => .of z
theorem t_and (ha : PT X a (tT X.K cl W fl fl1 fun e => (f e).bind truthy)) (hb : PW X (.BoolOp .And (b :: rest) pos) (tT X.K cl W fl1 (dn is fl1) fun e => (g e).bind truthy)) :
    PW X (.BoolOp .And (a :: b :: rest) pos) (tT X.K cl W fl (dn is fl1) fun e => ((f e).bind fun x => (truthy x).bind fun t => if t = true then g e else .ok x).bind truthy) := (pw_and ha hb).imp fun σ H Q q => by
  obtain ⟨G0, B, G, e, sr, p⟩ := q
  refine ⟨G0, B, G, e, sr, ?_⟩
  dsimp only at p ⊢
  cases hf : f e with
  | ok x =>
    rw [hf] at p
    have p2 : Pst X.K cl W G0 B G e σ H (((truthy x).bind fun t => if t = true then g e else .ok x).bind truthy) (fun t => ∀ G' H', Same G G' → Same H H' → SR X.K (dn is fl1) G0 B G' e σ H' → Q t H') := p
    show Pst X.K cl W G0 B G e σ H (truthy x) _
    cases ht : truthy x with
    | ok t =>
      rw [ht] at p2
      intro G1 H1 g1 s1 sr1
      cases t with
      | true =>
        have p3 : Pst X.K cl W G0 B G e σ H ((g e).bind truthy) (fun t => ∀ G' H', Same G G' → Same H H' → SR X.K (dn is fl1) G0 B G' e σ H' → Q t H') := p2
        show tT X.K cl W fl1 (dn is fl1) (fun e => (g e).bind truthy) σ H1 Q
        exact ⟨G0, B, G1, e, sr1, p3.grow g1 s1 fun t k2 G2 H2 g2 s2 sr2 => k2 G2 H2 (g1.trans g2) (s1.trans s2) sr2⟩
      | false =>
        have p3 : Pst X.K cl W G0 B G e σ H (truthy x) (fun t => ∀ G' H', Same G G' → Same H H' → SR X.K (dn is fl1) G0 B G' e σ H' → Q t H') := p2
        rw [ht] at p3
        show Q false H1
        obtain ⟨G2, g2, sr2⟩ := sr1.dn is
        exact p3 G2 H1 (g1.trans g2) s1 sr2
    | exc c a => exact absurd ht (truthy_nx x c a)
    | stuck => rw [ht] at p2; exact p2.elim
  | exc c a => rw [hf] at p; exact p
  | stuck => rw [hf] at p; exact p.elim
theorem t_or (ha : PT X a (tT X.K cl W fl fl1 fun e => (f e).bind truthy)) (hb : PW X (.BoolOp .Or (b :: rest) pos) (tT X.K cl W fl1 (dn is fl1) fun e => (g e).bind truthy)) :
    PW X (.BoolOp .Or (a :: b :: rest) pos) (tT X.K cl W fl (dn is fl1) fun e => ((f e).bind fun x => (truthy x).bind fun t => if t = true then .ok x else g e).bind truthy) := (pw_or ha hb).imp fun σ H Q q => by
  obtain ⟨G0, B, G, e, sr, p⟩ := q
  refine ⟨G0, B, G, e, sr, ?_⟩
  dsimp only at p ⊢
  cases hf : f e with
  | ok x =>
    rw [hf] at p
    have p2 : Pst X.K cl W G0 B G e σ H (((truthy x).bind fun t => if t = true then .ok x else g e).bind truthy) (fun t => ∀ G' H', Same G G' → Same H H' → SR X.K (dn is fl1) G0 B G' e σ H' → Q t H') := p
    show Pst X.K cl W G0 B G e σ H (truthy x) _
    cases ht : truthy x with
    | ok t =>
      rw [ht] at p2
      intro G1 H1 g1 s1 sr1
      cases t with
      | false =>
        have p3 : Pst X.K cl W G0 B G e σ H ((g e).bind truthy) (fun t => ∀ G' H', Same G G' → Same H H' → SR X.K (dn is fl1) G0 B G' e σ H' → Q t H') := p2
        show tT X.K cl W fl1 (dn is fl1) (fun e => (g e).bind truthy) σ H1 Q
        exact ⟨G0, B, G1, e, sr1, p3.grow g1 s1 fun t k2 G2 H2 g2 s2 sr2 => k2 G2 H2 (g1.trans g2) (s1.trans s2) sr2⟩
      | true =>
        have p3 : Pst X.K cl W G0 B G e σ H (truthy x) (fun t => ∀ G' H', Same G G' → Same H H' → SR X.K (dn is fl1) G0 B G' e σ H' → Q t H') := p2
        rw [ht] at p3
        show Q true H1
        obtain ⟨G2, g2, sr2⟩ := sr1.dn is
        exact p3 G2 H1 (g1.trans g2) s1 sr2
    | exc c a => exact absurd ht (truthy_nx x c a)
    | stuck => rw [ht] at p2; exact p2.elim
  | exc c a => rw [hf] at p; exact p
  | stuck => rw [hf] at p; exact p.elim
/-- a if c else b; is, js: what a and b read -/
theorem s_ite {js : List Nat} {kc : Sg → R D} (hc : PT X c (tT X.K cl W fl fl1 fun e => (kc e).bind truthy)) (ha : PE X a (tE X.K cl W fl1 (dn is fl1) o1 false f)) (hb : PE X b (tE X.K cl W fl1 (dn js fl1) o2 false g))
    (e1 : dn js (dn is fl1) = dn (is ++ js) fl1) (e2 : dn is (dn js fl1) = dn (is ++ js) fl1) :
    PE X (.IfExp c a b pos) (tE X.K cl W fl (dn (is ++ js) fl1) false false fun e => (kc e).bind fun x => (truthy x).bind fun t => if t = true then f e else g e) := (pe_ifExp hc ha hb).imp fun σ H Q q => by
  obtain ⟨G0, B, G, e, sr, p⟩ := q
  refine ⟨G0, B, G, e, sr, ?_⟩
  have fin : ∀ {own : Bool} {fa : List Bool} {l : List Nat}, dn l fa = dn (is ++ js) fl1 → ∀ {G2 : Hp} {H2 : Hp} {v : V} {d : D}, SR X.K fa G0 B G2 e σ H2 → RsE X.K own fa B G2 H2 e σ v d →
      ∃ G3, Same G2 G3 ∧ SR X.K (dn (is ++ js) fl1) G0 B G3 e σ H2 ∧ Rp X.K G3 v d := fun {own fa l} hfa {G2 H2 v d} sr2 r => by
    obtain ⟨G3, g3, sr3, r3⟩ := r.frz sr2
    obtain ⟨G4, g4, sr4⟩ := sr3.dn l
    rw [hfa] at sr4
    exact ⟨G4, g3.trans g4, sr4, r3.mono g4⟩
  dsimp only at p ⊢
  cases hk : kc e with
  | ok x =>
    rw [hk] at p
    have p2 : Pst X.K cl W G0 B G e σ H ((truthy x).bind fun t => if t = true then f e else g e) (fun d => ∀ G' H' v, Same G G' → Same H H' → SR X.K (dn (is ++ js) fl1) G0 B G' e σ H' → Av X.K G' H' v d → (false = false → RsE X.K false (dn (is ++ js) fl1) B G' H' e σ v d) → Q v H') := p
    show Pst X.K cl W G0 B G e σ H (truthy x) _
    cases ht : truthy x with
    | ok t =>
      rw [ht] at p2
      intro G1 H1 g1 s1 sr1
      cases t with
      | true =>
        refine ⟨G0, B, G1, e, sr1, Pst.grow (r := f e) p2 g1 s1 fun d k2 G2 H2 v g2 s2 sr2 av rv => ?_⟩
        obtain ⟨G3, g3, sr3, r3⟩ := fin e1 sr2 (rv rfl)
        exact k2 G3 H2 v ((g1.trans g2).trans g3) (s1.trans s2) sr3 (.inl r3) fun _ => .of r3
      | false =>
        refine ⟨G0, B, G1, e, sr1, Pst.grow (r := g e) p2 g1 s1 fun d k2 G2 H2 v g2 s2 sr2 av rv => ?_⟩
        obtain ⟨G3, g3, sr3, r3⟩ := fin e2 sr2 (rv rfl)
        exact k2 G3 H2 v ((g1.trans g2).trans g3) (s1.trans s2) sr3 (.inl r3) fun _ => .of r3
    | exc c a => exact absurd ht (truthy_nx x c a)
    | stuck => rw [ht] at p2; exact p2.elim
  | exc c a => rw [hk] at p; exact p
  | stuck => rw [hk] at p; exact p.elim

/-! ### list * int, text.index(text) -/
theorem s_rep (ha : PE X a (tE X.K cl W fl fl1 true false f)) (hb : PE X b (tE X.K cl W fl1 fl2 o2 b2 g)) :
    PE X (.BinOp a .Mult b pos) (tE X.K cl W fl fl2 true false fun e => (f e).bind fun x => (g e).bind fun y => repD x y) := (pe_op op_rep ha hb).imp fun σ H Q q => by
  obtain ⟨G0, B, G, e, sr, p⟩ := q
  refine ⟨G0, B, G, e, sr, p.bind.imp fun dx p1 G1 H1 x g1 s1 sr1 ax rx => ⟨G0, B, G1, e, sr1, p1.bind.grow g1 s1 fun dy p2 G2 H2 y g2 s2 sr2 ay _ => ?_⟩⟩
  obtain ⟨d, hd, k⟩ := Pst.of p2 (rep_nx dx dy)
  match dx, dy, ay, hd, rx rfl with
  | .list xs, .int n, ay, hd, r2 =>
    obtain ⟨hb, e2⟩ := grd_ok (show grd (decide (-(2 ^ 63) ≤ n) && decide (n < 2 ^ 63) && fitL (xs.length * n.toNat)) (.ok (.list (List.replicate n.toNat xs).flatten)) = .ok d from hd)
    cases e2
    simp only [Bool.and_eq_true, decide_eq_true_eq] at hb
    unfold RsE at r2
    rw [if_pos rfl] at r2
    obtain ⟨r2, _⟩ := r2
    unfold Own at r2
    rw [if_pos (show box (PyData.list xs) = true from rfl)] at r2
    obtain ⟨l, rfl, _, _, vs, h5, h6⟩ := r2
    refine ⟨l, n, vs, rfl, ay.int, s2 _ _ h5, hb.1.1, hb.1.2, by rw [h6.length]; exact fitL_le hb.2, fun q hq => ?_⟩
    obtain ⟨G3, g3, sr3, rs3⟩ := settle (own := true) (fr := true) sr2 (same_upd hq) (.lst hq ((h6.mono g2).rep n.toNat)) fun _ => rfl
    exact k G3 _ _ ((g1.trans g2).trans g3) ((s1.trans s2).trans (same_upd hq)) sr3 rs3.av fun _ => rs3
  | .list xs, .none, _, hd, _ => cases hd
  | .list xs, .bool _, _, hd, _ => cases hd
  | .list xs, .str _, _, hd, _ => cases hd
  | .list xs, .list _, _, hd, _ => cases hd
  | .list xs, .tuple _, _, hd, _ => cases hd
  | .list xs, .dict _, _, hd, _ => cases hd
  | .none, _, _, hd, _ => cases hd
  | .bool _, _, _, hd, _ => cases hd
  | .int _, _, _, hd, _ => cases hd
  | .str _, _, _, hd, _ => cases hd
  | .tuple _, _, _, hd, _ => cases hd
  | .dict _, _, _, hd, _ => cases hd

/-! ### a op b op c op d -/
variable {d : Expr} {fl4 : List Bool} {o4 b4 : Bool} {m : Sg → R D}
def fChn3 (o o' o'' : CmpO) (f g k m : Sg → R D) : Sg → R D := fun e => (f e).bind fun x => (g e).bind fun y => (cmpD o x (unk y)).bind fun t =>
  if t = true then (k e).bind fun z => (cmpD o' y (unk z)).bind fun t2 => if t2 = true then (m e).bind fun w => (cmpD o'' z (unk w)).bind fun t3 => .ok (.bool t3) else .ok (.bool false) else .ok (.bool false)
def tChain3 (r r' r'' : R2) (ta tb tc td : TE) : TE := fun σ H Q => ta σ H fun x H1 => tb σ H1 fun y H2 => r x y H2 fun z H3 => ∃ k, z = .bl k ∧
  (if k = true then tc σ H3 fun w' H4 => r' y w' H4 fun z' H5 => ∃ k', z' = .bl k' ∧ (if k' = true then td σ H5 fun w2 H6 => r'' w' w2 H6 Q else Q (.bl false) H5) else Q (.bl false) H3)
section
variable {r r' r'' : R2} {ta tb tc td : TE} {q1 q2 q3 : CmpOp}
/-- a step of a chain: what stands behind it gets the flag -/
theorem ite_to {b : Bool} {P Q : Prop} (h : if b = true then P else Q) : (b = true → P) ∧ (b = false → Q) := by
  cases b
  · exact ⟨(fun z => nomatch z), fun _ => h⟩
  · exact ⟨fun _ => h, (fun z => nomatch z)⟩
theorem pe_chain3 (h1 : OpR X (compareOp q1) r) (h2 : OpR X (compareOp q2) r') (h3 : OpR X (compareOp q3) r'') (ha : PE X a ta) (hb : PE X b tb) (hc : PE X c tc) (hd : PE X d td) (hm : lastMarks [q1, q2, q3] [b, c, d] = false) :
    PE X (.Compare a [q1, q2, q3] [b, c, d] pos) (tChain3 r r' r'' ta tb tc td) := by
  constructor
  intro pins s σ H Q I h
  apply Compare_chain _ hm
  refine thn (ha.run pins s σ H _ I h) fun v1 s1 ⟨x1, H1, I1, e1, h⟩ => ?_
  apply chain_link
  refine thn (hb.run pins s1 σ H1 _ I1 h) fun v2 s2 ⟨x2, H2, I2, e2, h⟩ => thn (h1 pins s2 σ H2 x1 x2 v1 v2 _ I2 e1 e2 h) fun w1 s3 ⟨y1, H3, I3, f1, k, ek, h⟩ => ?_
  cases ek
  cases (show w1 = .bool k from f1)
  apply wpAny_truthy_bool
  cases k with
  | false => exact ⟨.bl false, H3, I3, rfl, (ite_to h).2 rfl⟩
  | true =>
    apply chain_link
    refine thn (hc.run pins s3 σ H3 _ I3 ((ite_to h).1 rfl)) fun v3 s4 ⟨x3, H4, I4, e3, h⟩ => thn (h2 pins s4 σ H4 x2 x3 v2 v3 _ I4 e2 e3 h) fun w2 s5 ⟨y2, H5, I5, f2, k2, ek2, h⟩ => ?_
    cases ek2
    cases (show w2 = .bool k2 from f2)
    apply wpAny_truthy_bool
    cases k2 with
    | false => exact ⟨.bl false, H5, I5, rfl, (ite_to h).2 rfl⟩
    | true =>
      apply chain_last
      exact thn (hd.run pins s5 σ H5 _ I5 ((ite_to h).1 rfl)) fun v4 s6 ⟨x4, H6, I6, e4, h⟩ => h3 pins s6 σ H6 x3 x4 v3 v4 Q I6 e3 e4 h
theorem pt_chain3 (h1 : OpR X (compareOp q1) r) (h2 : OpR X (compareOp q2) r') (h3 : OpR X (compareOp q3) r'') (ha : PE X a ta) (hb : PE X b tb) (hc : PE X c tc) (hd : PE X d td) (hm : lastMarks [q1, q2, q3] [b, c, d] = false) :
    PT X (.Compare a [q1, q2, q3] [b, c, d] pos) (tTest (tChain3 r r' r'' ta tb tc td)) := by
  constructor
  intro pins s σ H Q I h
  apply isTrue_chain _ hm
  refine thn (ha.run pins s σ H _ I h) fun v1 s1 ⟨x1, H1, I1, e1, h⟩ => ?_
  apply test_link
  refine thn (hb.run pins s1 σ H1 _ I1 h) fun v2 s2 ⟨x2, H2, I2, e2, h⟩ => thn (h1 pins s2 σ H2 x1 x2 v1 v2 _ I2 e1 e2 h) fun w1 s3 ⟨y1, H3, I3, f1, k, ek, h⟩ => ?_
  cases ek
  cases (show w1 = .bool k from f1)
  apply wpAny_truthy_bool
  cases k with
  | false =>
    obtain ⟨u, eu, h⟩ := (ite_to h).2 rfl
    cases eu
    exact ⟨H3, I3, h⟩
  | true =>
    apply test_link
    refine thn (hc.run pins s3 σ H3 _ I3 ((ite_to h).1 rfl)) fun v3 s4 ⟨x3, H4, I4, e3, h⟩ => thn (h2 pins s4 σ H4 x2 x3 v2 v3 _ I4 e2 e3 h) fun w2 s5 ⟨y2, H5, I5, f2, k2, ek2, h⟩ => ?_
    cases ek2
    cases (show w2 = .bool k2 from f2)
    apply wpAny_truthy_bool
    cases k2 with
    | false =>
      obtain ⟨u, eu, h⟩ := (ite_to h).2 rfl
      cases eu
      exact ⟨H5, I5, h⟩
    | true =>
      apply test_last
      refine thn (hd.run pins s5 σ H5 _ I5 ((ite_to h).1 rfl)) fun v4 s6 ⟨x4, H6, I6, e4, h⟩ => thn (h3 pins s6 σ H6 x3 x4 v3 v4 _ I6 e3 e4 h) fun w3 s7 ⟨y3, H7, I7, f3, k3, ek3, h⟩ => ?_
      cases ek3
      cases (show w3 = .bool k3 from f3)
      exact wpAny_truthy_bool ⟨H7, I7, h⟩
end
theorem chn3_fin {K : PySem.W.Frag} {o o' o'' : CmpO} {is js : List Nat} {σ : L2.St} {H : Hp} {Q : VK} (q : tE K cl W fl (dn js (dn is fl2)) true false (fChn3 o o' o'' f g k m) σ H Q) :
    tChain3 (rC2 K (cmpD o)) (rC2 K (cmpD o')) (rC2 K (cmpD o'')) (tE K cl W fl fl1 o1 b1 f) (tE K cl W fl1 fl2 o2 b2 g) (tE K cl W fl2 (dn is fl2) o3 b3 k) (tE K cl W (dn is fl2) (dn js (dn is fl2)) o4 b4 m) σ H Q := by
  obtain ⟨G0, B, G, e, sr, p⟩ := q
  refine ⟨G0, B, G, e, sr, p.bind.imp fun dx p1 G1 H1 x g1 s1 sr1 ax _ => ⟨G0, B, G1, e, sr1, p1.bind.grow g1 s1 fun dy p2 G2 H2 y g2 s2 sr2 ay _ => ?_⟩⟩
  obtain ⟨t, ht, kk⟩ := Pst.of p2.bind (cmp_nx o dx (unk dy))
  refine ⟨G2, dx, unk dy, t, sr2.gh, ax.grow g2 s2, ay.unk sr2.gh, ht, t, rfl, ?_⟩
  cases t with
  | false =>
    rw [if_neg Bool.false_ne_true] at kk ⊢
    obtain ⟨G3, g3, sr3⟩ := sr2.dn is
    obtain ⟨G4, g4, sr4⟩ := sr3.dn js
    exact kk G4 H2 _ ((g1.trans g2).trans (g3.trans g4)) (s1.trans s2) sr4 (.inl (.bl _)) fun _ => .bl
  | true =>
    rw [if_pos rfl] at kk ⊢
    refine ⟨G0, B, G2, e, sr2, kk.bind.grow (g1.trans g2) (s1.trans s2) fun dz p3 G3 H3 z g3 s3 sr3 az _ => ?_⟩
    obtain ⟨t2, ht2, k2⟩ := Pst.of p3.bind (cmp_nx o' dy (unk dz))
    refine ⟨G3, dy, unk dz, t2, sr3.gh, ay.grow g3 s3, az.unk sr3.gh, ht2, t2, rfl, ?_⟩
    cases t2 with
    | false =>
      rw [if_neg Bool.false_ne_true] at k2 ⊢
      obtain ⟨G4, g4, sr4⟩ := sr3.dn js
      exact k2 G4 H3 _ (((g1.trans g2).trans g3).trans g4) ((s1.trans s2).trans s3) sr4 (.inl (.bl _)) fun _ => .bl
    | true =>
      rw [if_pos rfl] at k2 ⊢
      refine ⟨G0, B, G3, e, sr3, k2.bind.grow ((g1.trans g2).trans g3) ((s1.trans s2).trans s3) fun dw p4 G4 H4 w g4 s4 sr4 aw _ => ?_⟩
      obtain ⟨t3, ht3, k3⟩ := Pst.of p4.bind (cmp_nx o'' dz (unk dw))
      exact ⟨G4, dz, unk dw, t3, sr4.gh, az.grow g4 s4, aw.unk sr4.gh, ht3, k3 G4 H4 _ (((g1.trans g2).trans g3).trans g4) (((s1.trans s2).trans s3).trans s4) sr4 (.inl (.bl t3)) fun _ => .bl⟩
theorem s_chn3 (o o' o'' : CmpO) {is js : List Nat} (hu : X.A.units + 65 < cLine) (hm : lastMarks [o.op, o'.op, o''.op] [b, c, d] = false) (ha : PE X a (tE X.K cl W fl fl1 o1 b1 f)) (hb : PE X b (tE X.K cl W fl1 fl2 o2 b2 g))
    (hc : PE X c (tE X.K cl W fl2 (dn is fl2) o3 b3 k)) (hd : PE X d (tE X.K cl W (dn is fl2) (dn js (dn is fl2)) o4 b4 m)) : PE X (.Compare a [o.op, o'.op, o''.op] [b, c, d] pos) (tE X.K cl W fl (dn js (dn is fl2)) true false (fChn3 o o' o'' f g k m)) :=
  (pe_chain3 (op_cmpD hu o) (op_cmpD hu o') (op_cmpD hu o'') ha hb hc hd hm).imp fun σ H Q q => chn3_fin q
theorem b3_inv {α β : Type} {x : R α} {h : α → R β} {v : β} (q : x.bind h = .ok v) : ∃ y, x = .ok y ∧ h y = .ok v := by
  cases x with
  | ok y => exact ⟨y, rfl, q⟩
  | exc c a => cases q
  | stuck => cases q
theorem chn3_bl {o o' o'' : CmpO} (e : Sg) (v : D) (h : fChn3 o o' o'' f g k m e = .ok v) : ∃ b, v = .bool b := by
  unfold fChn3 at h
  obtain ⟨x, _, h⟩ := b3_inv h
  obtain ⟨y, _, h⟩ := b3_inv h
  obtain ⟨t, _, h⟩ := b3_inv h
  cases t with
  | false => cases h; exact ⟨_, rfl⟩
  | true =>
    rw [if_pos rfl] at h
    obtain ⟨z, _, h⟩ := b3_inv h
    obtain ⟨t2, _, h⟩ := b3_inv h
    cases t2 with
    | false => cases h; exact ⟨_, rfl⟩
    | true =>
      rw [if_pos rfl] at h
      obtain ⟨w, _, h⟩ := b3_inv h
      obtain ⟨t3, _, h⟩ := b3_inv h
      cases h
      exact ⟨_, rfl⟩
theorem t_chn3 (o o' o'' : CmpO) {is js : List Nat} (hu : X.A.units + 65 < cLine) (hm : lastMarks [o.op, o'.op, o''.op] [b, c, d] = false) (ha : PE X a (tE X.K cl W fl fl1 o1 b1 f)) (hb : PE X b (tE X.K cl W fl1 fl2 o2 b2 g))
    (hc : PE X c (tE X.K cl W fl2 (dn is fl2) o3 b3 k)) (hd : PE X d (tE X.K cl W (dn is fl2) (dn js (dn is fl2)) o4 b4 m)) :
    PT X (.Compare a [o.op, o'.op, o''.op] [b, c, d] pos) (tT X.K cl W fl (dn js (dn is fl2)) fun e => (fChn3 o o' o'' f g k m e).bind truthy) :=
  (pt_chain3 (op_cmpD hu o) (op_cmpD hu o') (op_cmpD hu o'') ha hb hc hd hm).imp fun σ H Q q => tE_test (fun σ H Q q => chn3_fin q) chn3_bl q
end
end Mt
/-! Part E2: set(xs) of a list of ints, of pairs; sorted and len of it. -/
namespace Mt
open PySem PySem.Spec PyProof.Rows L2

theorem met_nodup (val : Nat → Int) : ∀ i, (firstMet val i).Nodup
  | 0 => List.nodup_nil
  | i + 1 => by
    rw [firstMet_succ]
    have ih := met_nodup val i
    unfold step_dedup
    split
    · exact ih
    · rename_i hn
      refine List.nodup_append.mpr ⟨ih, by simp, fun a ha b hb e => hn ?_⟩
      have hb := List.mem_singleton.mp hb
      rw [List.any_eq_true]
      exact ⟨a, ha, by rw [e, hb]; exact beq_self_eq_true _⟩
theorem met_len (ns : List Int) : (firstMet (fun i => ns.getD i 0) ns.length).length = (ssI ns).length := by
  have hm : ∀ k, k ∈ firstMet (fun i => ns.getD i 0) ns.length ↔ k ∈ ns := fun k => by
    have h := firstMet_any (fun i => ns.getD i 0) ns.length k
    have e : (List.range ns.length).map (fun i => ns.getD i 0) = ns := by
      apply List.ext_getElem?
      intro i
      rw [List.getElem?_map]
      by_cases hi : i < ns.length
      · rw [List.getElem?_range hi, List.getElem?_eq_getElem hi]
        simp [hi]
      · rw [List.getElem?_eq_none (by simpa using hi), List.getElem?_eq_none (by simpa using hi)]
        rfl
    rw [e] at h
    constructor
    · intro hk
      have : ns.any (· == k) = true := by rw [← h]; exact List.any_eq_true.mpr ⟨k, hk, beq_self_eq_true _⟩
      obtain ⟨z, hz, e⟩ := List.any_eq_true.mp this
      rw [← eq_of_beq e]; exact hz
    · intro hk
      have : (firstMet (fun i => ns.getD i 0) ns.length).any (· == k) = true := by rw [h]; exact List.any_eq_true.mpr ⟨k, hk, beq_self_eq_true _⟩
      obtain ⟨z, hz, e⟩ := List.any_eq_true.mp this
      rw [← eq_of_beq e]; exact hz
  obtain ⟨s1, s2⟩ := ssI_ok ns
  have nd : (ssI ns).Nodup := s1.imp fun h => by omega
  have a := len_same (met_nodup (fun i => ns.getD i 0) ns.length) (m := ssI ns) fun k hk => (s2 k).mpr ((hm k).mp hk)
  have b := len_same nd (m := firstMet (fun i => ns.getD i 0) ns.length) fun k hk => (hm k).mpr ((s2 k).mp hk)
  omega
end Mt
/-! Part E3: set(xs) of a list of ints, with its order. -/
namespace Mt
open PySem PySem.Spec PyProof.Rows L2

abbrev nSet (w : World) : Obj := { cls := .type "set", dict := none, data := .set #[] 0 (.fresh 0 0 (!w.params.followText "set-order")) }
section
variable {P : Program} {w : World} {A : Around} {E : Value → Shared → Prop} {s : Shared}
theorem set_of_ints {l : Addr} {its : Array Value} (ns : List Int) {Q : Value → Shared → Prop} (calm : A.handled = none) (hl : s.heap.IsList l its) (hit : IntsAre its.toList ns) (hb : ns.length + 1 < scanBound)
    (fin : ∀ (h' : Heap) (tk c : Nat), SetR w h' s.heap.objs.size (fun j => decide (j ∈ ns)) c → c ≤ ns.length → (∀ b o, s.heap.get? b = some o → h'.get? b = some o) → Q (.ref s.heap.objs.size) { s with heap := h', toks := tk }) :
    wpAny (model P w) A (call (.type "set") [.ref l]) Q E s := by
  have sz : its.size = ns.length := by rw [← Array.length_toList]; exact IntsAre.length hit
  have ⟨c, tl, hmro⟩ := F.called_set.mro
  have m1 := F.called_set.made; have m2 := F.called_set.sub; have m3 := F.called_set.notType; have m4 := F.called_set.canCreate
  refine wpAny_call (codeAny_of_tree (show wpAny _ _ (callAny (.type "set") _) _ _ _ from wpAny_pure ⟨Code.quiet_builtin _ (by decide +kernel), codeAny_builtin F.entry_type_call ?_⟩))
  rw [Around.under_plain (weight_type_call_type "set" [.ref l] []) rfl]
  have m5 := F.typeCall_set_1 (.ref l)
  repeat (any_goals (first | assumption | wp_step))
  refine codeAny_mono (code_set_led1 (.ref l) (E := E) (Q₁ := fun v t => v = .ref s.heap.objs.size ∧ t = { s with heap := s.heap.push (nSet w) }) ⟨rfl, rfl⟩) fun r t hr => ?_
  cases r with
  | error e => exact hr
  | ok out =>
    cases out with
    | ret v =>
      obtain ⟨rfl, rfl⟩ := hr
      have here : (s.heap.push (nSet w)).get? s.heap.objs.size = some (nSet w) := Heap.get?_push_size _ rfl
      have ty : Shared.TypeIs { s with heap := s.heap.push (nSet w) } (.ref s.heap.objs.size) "set" := ⟨_, here, rfl⟩
      have n1 := F.called_set.init.lookup; have n2 := F.called_set.init.bind (.ref s.heap.objs.size)
      repeat (any_goals (first | assumption | wp_step))
      refine codeAny_mono (codeAny_call_builtin (R := wants (fun r t => r = .none ∧ ∃ h' tk c, t = { s with heap := h', toks := tk } ∧ SetR w h' s.heap.objs.size (fun j => decide (j ∈ ns)) c ∧ c ≤ ns.length ∧ ∀ b o, s.heap.get? b = some o → h'.get? b = some o) E) F.called_set.init.plain F.entry_set_init (check_set_init_1 ty ?_)) fun r2 t2 hr2 => ?_
      · have ⟨ol, hol, hcl, nl, hdl⟩ := hl
        obtain ⟨oc, od, oda, osl⟩ := ol
        simp only at hcl hdl
        subst hcl; subst hdl
        have hol' : (s.heap.push (nSet w)).get? l = some { cls := .type "list", dict := od, data := .seq its nl, slots := osl } := Heap.get?_push_of_some _ hol
        have k1 := F.sub_list_set; have k2 := F.sub_list_frozenset
        have k3 : (Value.type "list" == Value.type "dict") = false := by decide
        have hl1 : (s.heap.push (nSet w)).IsList l its := ⟨_, hol', rfl, nl, rfl⟩
        unfold Builtin.«set.__init__» noKeywords Builtin.Frozenset.updateFrom
        generalize hIt : pyIter = It
        wp_walk
        subst hIt
        refine wpAny_pyIter_list hl1 (wpAny_bind (wpAny_runValue ?_))
        have hlS : l < s.heap.objs.size := Heap.lt_size hol
        have hc3 : A.in1.in1.in1.handled = none := by simp [calm]
        have z1 : (s.heap.push (nSet w)).objs.size = s.heap.objs.size + 1 := Heap.size_push ..
        have n3 : l ≠ (s.heap.push (nSet w)).objs.size := by rw [z1]; exact Nat.ne_of_lt (Nat.lt_succ_of_lt hlS)
        have n4 : s.heap.objs.size ∉ [(s.heap.push (nSet w)).objs.size, l] := by
          rw [z1]; simp only [List.mem_cons, List.mem_singleton, List.not_mem_nil, or_false, not_or]; exact ⟨Nat.ne_of_lt (Nat.lt_succ_self _), Nat.ne_of_gt hlS⟩
        have hv : ∀ (i : Nat) (v : Value), its[i]? = some v → ∃ k t, ns[i]? = some k ∧ v = .int k t := fun i v hv => by
          have hi : i < ns.length := by rw [← sz]; exact (Array.getElem?_eq_some_iff.mp hv).1
          obtain ⟨t, e⟩ := IntsAre.int_at hit i v (by rw [Array.getElem?_toList]; exact hv)
          refine ⟨ns[i], t, List.getElem?_eq_getElem hi, ?_⟩
          rw [e, List.getD_eq_getElem?_getD, List.getElem?_eq_getElem hi] <;> rfl
        refine set_update_ints ((Walks.list hc3 _ l n3 its).toS) s.heap.objs.size n4 ns sz hb hv (its.size - 0) 0 _ (by omega) (Nat.zero_le _) ⟨⟨_, Heap.get?_push_size _ rfl, rfl, rfl⟩, (hl1.push _)⟩ ⟨0, Nat.le_refl 0, setR_new_at (Heap.get?_push_of_some _ here)⟩ fun t3 c3 hm hc hS => ?_
        obtain ⟨h3, g3, d3, tk3, os3⟩ := t3
        have eg : g3 = s.gens := hm.gens; have ed : d3 = s.drawn := hm.drawn; have eo : os3 = s.os := hm.os
        subst eg; subst ed; subst eo
        refine (show wpAny _ _ _ _ _ _ from wpAny_pure (show wpAny _ _ (ret Value.none) _ _ _ from wpAny_pure ⟨rfl, h3, tk3, c3, rfl, hS, sz ▸ hc, fun b o e => ?_⟩))
        have b0 : b < s.heap.objs.size := Heap.lt_size e
        exact hm.heap b o (by rw [z1]; simp only [List.mem_cons, List.mem_singleton, List.not_mem_nil, or_false, not_or]; exact ⟨Nat.ne_of_lt b0, Nat.ne_of_lt (Nat.lt_succ_of_lt b0)⟩) (Heap.get?_push_of_some _ (Heap.get?_push_of_some _ e))
      · cases r2 with
        | error e => exact hr2
        | ok o2 =>
          cases o2 with
          | ret v =>
            obtain ⟨rfl, h', tk, c', rfl, hS, hc, hk⟩ := hr2
            repeat (any_goals (first | assumption | wp_step))
            exact fin _ _ _ hS hc hk
          | _ => exact hr2.elim
    | _ => exact hr.elim
end
end Mt
/-! Part E4: sorted(set(xs)), len(set(xs)), xs[::-1]: rules. -/
namespace Mt
open PySem PySem.Spec PyProof.Rows L2

def rSetI (K : PySem.W.Frag) (w : World) : List V → Hp → VK → Prop := fun xs H Q => ∃ (l : Addr) (ns : List Int), xs = [V.ref l] ∧ SqL K H l (ns.map V.int) ∧ ns.length < 64 ∧
  ∀ a c, H a = none → c ≤ ns.length → Q (.ref a) (upd H a (SetO w a (fun j => decide (j ∈ ns)) c))
section
variable {X : Cx}
theorem cr_setI (hc : X.calm = true) : CallR X (.type "set") (rSetI X.K X.w) := by
  intro pins s σ H xs us Q I r ⟨l, ns, e, hq, hn, k⟩
  subst e
  rw [Vals.ref1 r]
  obtain ⟨its, rv, pl, hz⟩ := I.list hq
  refine set_of_ints ns (I.ok.hd hc) pl.isList (by simpa using rv.ints) (by unfold scanBound; omega) fun h' tk c R hc' keep => ?_
  exact ⟨.ref s.heap.objs.size, _, I.laid (t' := tk) keep (Nat.le_refl _) (setO_new R), rfl, k _ c (I.hok.fresh (Nat.le_refl _)) hc'⟩
theorem CallR.or {f : Value} {r1 r2 : List V → Hp → VK → Prop} (h1 : CallR X f r1) (h2 : CallR X f r2) : CallR X f fun xs H Q => r1 xs H Q ∨ r2 xs H Q := by
  intro pins s σ H xs us Q I r h
  rcases h with h | h
  · exact h1 pins s σ H xs us Q I r h
  · exact h2 pins s σ H xs us Q I r h
end
section
variable {K : PySem.W.Frag} {G : Hp}
theorem rpl_ints : ∀ ns : List Int, RpL K G (ns.map V.int) (ns.map PyData.int)
  | [] => .nil
  | n :: ns => .cons (.int n) (rpl_ints ns)
theorem pairs_vs : ∀ {vs : List V} {ds : List D} {ps : List (Int × Int)}, RpL K G vs ds → pairsOf ds = .ok ps →
    ∃ ks : List (Addr × List Int), vs = ks.map (fun p => V.ref p.1) ∧ ks.map (·.2) = ps.map (fun p => [p.1, p.2]) ∧ ∀ p ∈ ks, G p.1 = some (.tup (p.2.map V.int))
  | _, _, ps, .nil, h => by
    cases h
    exact ⟨[], rfl, rfl, fun p hp => nomatch hp⟩
  | _, _, ps, .cons (d := d) (ds := ds) h r, e => by
    unfold pairsOf at e
    split at e
    · rename_i e0
      cases e0
    · rename_i i j r' e0
      cases e0
      obtain ⟨qs, h1, h2⟩ := R.bind_inv e
      cases h2
      obtain ⟨ks, k1, k2, k3⟩ := pairs_vs r h1
      cases h with
      | tup ht rt =>
        rename_i a xs
        cases rt with
        | cons u1 rt =>
          cases rt with
          | cons u2 rt =>
            cases rt
            cases u1
            cases u2
            refine ⟨(a, [i, j]) :: ks, by rw [k1]; rfl, by rw [List.map_cons, List.map_cons, k2], fun p hp => ?_⟩
            rcases List.mem_cons.mp hp with z | z
            · rw [z]; exact ht
            · exact k3 p z
    · cases e
theorem pairs_asc : ∀ {L : List (Addr × List Int)}, (∀ p ∈ L, ∃ a b : Int, p.2 = [a, b] ∧ inPP (a, b) = true) → (L.map (·.2)).Nodup → L.Pairwise (fun q r => TS.code 1000 q.2 ≤ TS.code 1000 r.2) →
    ∃ qs : List (Int × Int), L.map (·.2) = qs.map (fun p => [p.1, p.2]) ∧ qs.Pairwise fun p q => ltPP p q = true
  | [], _, _, _ => ⟨[], rfl, .nil⟩
  | p :: L, h, hn, hs => by
    obtain ⟨n1, n2⟩ := List.nodup_cons.mp (show (p.2 :: L.map (·.2)).Nodup from hn)
    obtain ⟨s1, s2⟩ := List.pairwise_cons.mp hs
    obtain ⟨qs, e, hq⟩ := pairs_asc (fun q hq => h q (by simp [hq])) n2 s2
    obtain ⟨a, b, ea, hab⟩ := h p (by simp)
    refine ⟨(a, b) :: qs, by rw [List.map_cons, List.map_cons, e, ea], List.pairwise_cons.mpr ⟨fun q hq' => ?_, hq⟩⟩
    have hm : [q.1, q.2] ∈ L.map (·.2) := by rw [e]; exact List.mem_map.mpr ⟨q, hq', rfl⟩
    obtain ⟨r, hr, er⟩ := List.mem_map.mp hm
    obtain ⟨c, d, ec, hcd⟩ := h r (by simp [hr])
    have e2 : [c, d] = [q.1, q.2] := by rw [← ec]; exact er
    injection e2 with c1 c2
    injection c2 with c2 _
    have hc := s1 r hr
    rw [ea, ec] at hc
    have bd : ∀ x y : Int, inPP (x, y) = true → TS.Bd 1000 [x, y] := fun x y hxy m hm => by
      unfold inPP at hxy
      simp only [Bool.and_eq_true, decide_eq_true_eq] at hxy
      rcases List.mem_cons.mp hm with z | z
      · omega
      · have := List.mem_singleton.mp z; omega
    have lx := code_lex (bd a b hab) (bd c d hcd) hc
    refine ltPP_iff.mpr ?_
    have ne : ¬ (a = c ∧ b = d) := fun z => n1 (by rw [ea]; exact List.mem_map.mpr ⟨r, hr, by rw [ec, z.1, z.2]⟩)
    subst c1 c2
    dsimp only
    omega
theorem rpl_pairs : ∀ {L : List (Addr × List Int)} {qs : List (Int × Int)}, L.map (·.2) = qs.map (fun p => [p.1, p.2]) → (∀ p ∈ L, G p.1 = some (.tup (p.2.map V.int))) → RpL K G (L.map fun q => V.ref q.1) (qs.map encPP)
  | [], [], _, _ => .nil
  | [], _ :: _, e, _ => nomatch e
  | _ :: _, [], e, _ => nomatch e
  | p :: L, q :: qs, e, h => by
    rw [List.map_cons, List.map_cons] at e
    injection e with e1 e2
    refine .cons ?_ (rpl_pairs e2 fun r hr => h r (by simp [hr]))
    have := h p (by simp)
    rw [e1] at this
    exact .tup this (.cons (.int _) (.cons (.int _) .nil))
end
section
variable {X : Cx} {cl : Cls} {W : WX} {fl fl1 : List Bool} {pos p2 : Pos} {a : Expr} {o1 b1 : Bool} {f : Sg → R D}
theorem s_sset' {q2 p3 : Pos} (hc : X.calm = true) (hu : X.A.units + 65 < cLine) (n1 : X.mg "sorted" = none) (n2 : X.mg "set" = none) (hg : Gl X "sorted") (hg2 : Gl X "set") (ha : PE X a (tE X.K cl W fl fl1 o1 b1 f)) (hs : starEach [a] X.env = (false, eval a X.env) :: starEach [] X.env) :
    PE X (.Call (.Name "sorted" p2) [.Call (.Name "set" p3) [a] [] q2] [] pos) (tE X.K cl W fl fl1 true false fun e => (f e).bind ssetD) :=
  (pe_callB ((cr_sortedSet hc).or (cr_sortedT hc)) hg n1 Blt.sorted.boot (pa_cons (pe_callTy ((cr_setI hc).or (cr_setOfT hc (by omega))) hg2 n2 Blt.set.boot (pa_cons ha pa_nil hs) (by decide) (by decide) hs rfl) pa_nil)).imp fun σ H Q q => by
  obtain ⟨G0, B, G, e, sr, p⟩ := q
  refine ⟨G0, B, G, e, sr, p.bind.imp fun dx p1 G1 H1 x g1 s1 sr1 ax _ => ?_⟩
  obtain ⟨d, hd, kk⟩ := Pst.of p1 (sset_nx dx)
  cases dx with
  | list xs =>
    have hd : ssetL xs = .ok d := hd
    obtain ⟨l, vs, rfl, hq, r⟩ := ax.list sr1.gh
    unfold ssetL at hd
    split at hd
    · rename_i ns hn
      obtain ⟨hb, ed⟩ := grd_ok hd
      cases ed
      cases ints_vs r hn
      have h64 := of_decide_eq_true hb
      refine .inl ⟨l, ns, rfl, hq, h64, fun b c hL hc' => .inl ⟨b, _, c, rfl, upd_same, by omega, fun ms p2 m1 m2 _ hn2 => ?_⟩⟩
      obtain ⟨k1, k2⟩ := ssI_ok ns
      have em : ms = ssI ns := asc_uniq m1 k1 fun z => by rw [m2, k2]; simp
      subst em
      have ne : p2 ≠ b := fun z => by subst z; rw [upd_same] at hn2; cases hn2
      have hn1 : H1 p2 = none := by rwa [upd_ne ne] at hn2
      have s2 : Same H1 (upd H1 b (SetO X.w b (fun j => decide (j ∈ ns)) c)) := same_upd hL
      obtain ⟨G3, g3, sr3, rs3⟩ := settle (own := true) (fr := true) (sr1.grow s2) (same_upd hn2) (.lst hn2 (G := G1) (rpl_ints _)) fun _ => rfl
      exact kk G3 _ _ (g1.trans g3) (s1.trans (s2.trans (same_upd hn2))) sr3 rs3.av fun _ => rs3
    · split at hd
      · rename_i ps hps
        obtain ⟨hb, ed⟩ := grd_ok hd
        cases ed
        rw [Bool.and_eq_true] at hb
        obtain ⟨ks, e1, e2, e3⟩ := pairs_vs r hps
        subst e1
        have hl : ks.length = ps.length := by have := congrArg List.length e2; simpa using this
        have h64 := of_decide_eq_true hb.1
        have kin : ∀ p ∈ ks, ∃ u v : Int, p.2 = [u, v] ∧ inPP (u, v) = true := fun p hp => by
          have hm : p.2 ∈ ps.map (fun p => [p.1, p.2]) := by rw [← e2]; exact List.mem_map.mpr ⟨p, hp, rfl⟩
          obtain ⟨q, hq, eq⟩ := List.mem_map.mp hm
          exact ⟨q.1, q.2, eq.symm, List.all_eq_true.mp hb.2 q hq⟩
        refine .inr ⟨l, ks, rfl, hq, fun p hp => .of (sr1.gh _ _ (e3 p hp)), by omega, fun b L hL m1 m2 => ?_⟩
        have s2 : Same H1 (upd H1 b (SetTO X.prog X.w b L)) := same_upd hL
        refine .inr ⟨b, L, 2, 1000, rfl, upd_same, fun p hp => .of (s2 _ _ (sr1.gh _ _ (e3 p (m1 p hp)))), by decide, fun p hp => ?_, fun L' p2 hp hnd _ hpw hn2 => ?_⟩
        · obtain ⟨u, v, e4, e5⟩ := kin p (m1 p hp)
          unfold inPP at e5
          simp only [Bool.and_eq_true, decide_eq_true_eq] at e5
          refine ⟨by rw [e4]; rfl, fun m hm => ?_⟩
          rw [e4] at hm
          rcases List.mem_cons.mp hm with z | z
          · omega
          · have := List.mem_singleton.mp z; omega
        · obtain ⟨qs, e6, e7⟩ := pairs_asc (L := L') (fun p hp' => kin p (m1 p (hp.mem_iff.mp hp'))) hnd hpw
          obtain ⟨k1, k2⟩ := ssPP_ok ps
          have eq : qs = ssPP ps := ascPP_uniq e7 k1 fun z => by
            rw [k2]
            have ma : z ∈ qs ↔ [z.1, z.2] ∈ L'.map (·.2) := by
              rw [e6, List.mem_map]
              constructor
              · exact fun h => ⟨z, h, rfl⟩
              · rintro ⟨y, hy, e⟩
                injection e with c1 c2
                injection c2 with c2 _
                rw [← Prod.ext c1 c2]; exact hy
            have mb : z ∈ ps ↔ [z.1, z.2] ∈ ks.map (·.2) := by
              rw [e2, List.mem_map]
              constructor
              · exact fun h => ⟨z, h, rfl⟩
              · rintro ⟨y, hy, e⟩
                injection e with c1 c2
                injection c2 with c2 _
                rw [← Prod.ext c1 c2]; exact hy
            rw [ma, mb]
            have pm := (hp.map (·.2)).mem_iff (a := [z.1, z.2])
            rw [pm]
            constructor
            · intro h
              obtain ⟨y, hy, e⟩ := List.mem_map.mp h
              exact List.mem_map.mpr ⟨y, m1 y hy, e⟩
            · intro h
              obtain ⟨y, hy, e⟩ := List.mem_map.mp h
              rw [← e]
              exact m2 y hy
          subst eq
          have ne : p2 ≠ b := fun z => by subst z; rw [upd_same] at hn2; cases hn2
          have rr : RpL X.K G1 (L'.map fun q => V.ref q.1) ((ssPP ps).map encPP) := rpl_pairs e6 fun p hp' => e3 p (m1 p (hp.mem_iff.mp hp'))
          obtain ⟨G3, g3, sr3, rs3⟩ := settle (own := true) (fr := true) (sr1.grow s2) (same_upd hn2) (.lst hn2 (G := G1) rr) fun _ => rfl
          exact kk G3 _ _ (g1.trans g3) (s1.trans (s2.trans (same_upd hn2))) sr3 rs3.av fun _ => rs3
      · cases hd
  | _ => cases hd
/-! ### len(set(xs)) -/
def tLenS (K : PySem.W.Frag) (ta : TE) : TE := fun σ H Q => ta σ H fun x H1 => ∃ (l : Addr) (ns : List Int), x = V.ref l ∧ SqL K H1 l (ns.map V.int) ∧ ns.length < 4000 ∧ Q (.int (ssI ns).length) H1
theorem pe_lenS {ta : TE} {p p2 q : Pos} (calm : X.calm = true) (hg : Gl X "len") (hm : X.mg "len" = none) (hg2 : Gl X "set") (hm2 : X.mg "set" = none) (ha : PE X a ta)
    (na : starEach [a] X.env = (false, eval a X.env) :: starEach [] X.env) : PE X (.Call (.Name "len" p) [.Call (.Name "set" p2) [a] [] q] [] pos) (tLenS X.K ta) := ⟨fun pins s σ H Q I h => by
  refine Call_ (ld_blt I hg hm PySem.boot_len (callWith_builtin1 (args_cons (Call_ (ld_blt I hg2 hm2 boot_set (callWith_type1 (args_cons (thn (ha.run pins s σ H _ I h) fun v s1 ⟨x, H1, I1, r1, q1⟩ => args_nil ?_) na) na rfl))) rfl) rfl rfl))
  obtain ⟨l, ns, e, hq, hn, k⟩ := q1
  subst e
  cases r1
  obtain ⟨its, r, pl, hz⟩ := I1.list hq
  have sz : its.toArray.size = ns.length := by rw [List.size_toArray, ← r.length, List.length_map]
  refine call_set_list (I1.ok.hd calm) pl.isList (ns := ns) (by simpa using r.ints) (by unfold scanBound; omega) fun h' tk st keep => args_nil ?_
  rw [sz, met_len] at st
  have le : (ssI ns).length ≤ ns.length := by
    rw [← met_len]
    exact firstMet_length_le _ _
  obtain ⟨o, es, ep, t, ho, hex, hd, _, _, _, hf, hn2⟩ := st
  have I2 : Inv X pins σ H1 { s1 with heap := h', toks := tk } := I1.kept fun b o e => keep b o (Heap.lt_size e) e
  exact call_len_set ho hex hd hf (by rw [hn2]; omega) ⟨.int (ssI ns).length, H1, I2.tok _, ⟨_, by rw [hn2]⟩, k⟩⟩
theorem s_lens' {q2 p3 : Pos} (hc : X.calm = true) (n1 : X.mg "len" = none) (n2 : X.mg "set" = none) (hg : Gl X "len") (hg2 : Gl X "set") (ha : PE X a (tE X.K cl W fl fl1 o1 b1 f)) (hs : starEach [a] X.env = (false, eval a X.env) :: starEach [] X.env) :
    PE X (.Call (.Name "len" p2) [.Call (.Name "set" p3) [a] [] q2] [] pos) (tE X.K cl W fl fl1 true false fun e => (f e).bind lensD) := (pe_lenS hc hg n1 hg2 n2 ha hs).imp fun σ H Q q => by
  obtain ⟨G0, B, G, e, sr, p⟩ := q
  refine ⟨G0, B, G, e, sr, p.bind.imp fun dx p1 G1 H1 x g1 s1 sr1 ax _ => ?_⟩
  obtain ⟨d, hd, kk⟩ := Pst.of p1 (lens_nx dx)
  cases dx with
  | list xs =>
    obtain ⟨ns, hn, e1⟩ := R.bind_inv (show (intsOf xs).bind (fun ns => grd (decide (ns.length < 4000)) (.ok (PyData.int ((ssI ns).length : Nat)))) = .ok d from hd)
    obtain ⟨hb, e2⟩ := grd_ok e1
    cases e2
    obtain ⟨q, vs, rfl, hq, r⟩ := ax.list sr1.gh
    cases ints_vs r hn
    refine ⟨q, ns, rfl, hq, of_decide_eq_true hb, ?_⟩
    obtain ⟨G3, g3, sr3, rs3⟩ := settle (own := true) (fr := true) sr1 (Same.refl H1) (v := V.int ((ssI ns).length : Nat)) .int fun _ => rfl
    exact kk G3 H1 _ (g1.trans g3) s1 sr3 rs3.av fun _ => rs3
  | _ => cases hd
/-! ### xs[::-1] -/
theorem RpL.reverse {K : PySem.W.Frag} {G : Hp} : ∀ {vs : List V} {ds : List D}, RpL K G vs ds → RpL K G vs.reverse ds.reverse
  | _, _, .nil => .nil
  | _, _, .cons h r => by
    rw [List.reverse_cons, List.reverse_cons]
    exact r.reverse.append (.cons h .nil)
theorem s_rev {k : Nat} {q1 q2 q3 : Pos} (ha : PE X a (tE X.K cl W fl fl1 o1 b1 f)) : PE X (.Subscript a (.Slice none none (some (.UnaryOp .USub (.Constant (.int 1) k q1) q2)) q3) pos) (tE X.K cl W fl fl1 true false fun e => (f e).bind revD) := (pe_revL ha).imp fun σ H Q q => by
  obtain ⟨G0, B, G, e, sr, p⟩ := q
  refine ⟨G0, B, G, e, sr, p.bind.imp fun dx p1 G1 H1 x g1 s1 sr1 ax _ => ?_⟩
  obtain ⟨d, hd, kk⟩ := Pst.of p1 (rev_nx dx)
  cases dx with
  | list xs =>
    cases hd
    obtain ⟨l, vs, rfl, hq, r⟩ := ax.list sr1.gh
    refine ⟨l, vs, rfl, hq, fun p2 hn => ?_⟩
    obtain ⟨G3, g3, sr3, rs3⟩ := settle (own := true) (fr := true) sr1 (same_upd hn) (.lst hn (G := G1) r.reverse) fun _ => rfl
    exact kk G3 _ _ (g1.trans g3) (s1.trans (same_upd hn)) sr3 rs3.av fun _ => rs3
  | _ => cases hd
end
end Mt
/-! Part F: argument lists, displays, slices, calls. -/
namespace Mt
open PySem PySem.Spec PyProof.Rows L2

theorem unL_ok {d : D} {l : List D} (h : unL d = .ok l) : d = .list l := by
  unfold unL at h
  split at h
  · cases h; rfl
  · cases h
section
variable {X : Cx} {cl : Cls} {W : WX} {fl fl1 fl2 fl3 : List Bool} {pos p2 : Pos} {a b : Expr} {es : List Expr} {o1 b1 o2 b2 : Bool} {f g k : Sg → R D}
theorem s_nil {bor : Bool} : PA X [] (tA X.K cl W fl fl bor fun _ => .ok (.list [])) := pa_nil.imp fun σ H Q q => by
  obtain ⟨G0, B, G, e, sr, p⟩ := q
  exact p G H [] (Same.refl G) (Same.refl H) sr .nil fun _ => .nil
theorem s_cons (hs : starEach (a :: es) X.env = (false, eval a X.env) :: starEach es X.env) (ha : PE X a (tE X.K cl W fl fl1 o1 b1 f)) (hr : PA X es (tA X.K cl W fl1 fl2 b2 g)) :
    PA X (a :: es) (tA X.K cl W fl fl2 (b1 || b2) fun e => (f e).bind fun x => ((g e).bind unL).bind fun xs => .ok (.list (x :: xs))) := (pa_cons ha hr hs).imp fun σ H Q q => by
  obtain ⟨G0, B, G, e, sr, p⟩ := q
  refine ⟨G0, B, G, e, sr, p.bind.bind.imp fun dx p1 G1 H1 x g1 s1 sr1 ax rx => ?_⟩
  -- what is one's own is frozen
  have fz : ∃ G2, Same G1 G2 ∧ SR X.K fl1 G0 B G2 e σ H1 ∧ Av X.K G2 H1 x dx ∧ (b1 = false → Rp X.K G2 x dx) := by
    cases b1 with
    | true => exact ⟨G1, Same.refl G1, sr1, ax, fun z => nomatch z⟩
    | false =>
      obtain ⟨G2, g2, sr2, r2⟩ := (rx rfl).frz sr1
      exact ⟨G2, g2, sr2, .inl r2, fun _ => r2⟩
  obtain ⟨G2, g2, sr2, ax2, rx2⟩ := fz
  refine ⟨G0, B, G2, e, sr2, p1.bind.grow (g1.trans g2) s1 fun ds p3 G3 H3 vs g3 s3 sr3 al rl => ?_⟩
  refine p3 G3 H3 (x :: vs) ((g1.trans g2).trans g3) (s1.trans s3) sr3 (.cons (ax2.grow g3 s3) al) fun z => ?_
  rw [Bool.or_eq_false_iff] at z
  exact .cons ((rx2 z.1).mono g3) (rl z.2)
theorem tup_res {K : PySem.W.Frag} {G H : Hp} {vs : List V} {ds : List D} {p : Addr} (hp : H p = none) (r : RpL K G vs ds) : Res K true G H (upd H p (.tup vs)) (.ref p) (.tuple ds) := .tup hp r
theorem s_tup {x1 : Nat} (ha : PA X es (tA X.K cl W fl fl1 false f)) : PE X (.Tuple es x1 pos) (tE X.K cl W fl fl1 true false fun e => ((f e).bind unL).bind fun xs => grd (fitL xs.length) (.ok (.tuple xs))) := (pe_tup ha).imp fun σ H Q q => by
  obtain ⟨G0, B, G, e, sr, p⟩ := q
  refine ⟨G0, B, G, e, sr, p.bind.imp fun ds p1 G1 H1 vs g1 s1 sr1 _ rl => ?_⟩
  cases hb : fitL ds.length with
  | false => rw [hb] at p1; exact p1.elim
  | true =>
    rw [hb] at p1
    have r := rl rfl
    refine ⟨by rw [r.length]; exact fitL_le hb, fun q hq => ?_⟩
    obtain ⟨G3, g3, sr3, rs3⟩ := settle (own := true) (fr := true) sr1 (same_upd hq) (.tup hq r) fun _ => rfl
    exact p1 G3 _ _ (g1.trans g3) (s1.trans (same_upd hq)) sr3 rs3.av fun _ => rs3
theorem s_lsts {a : Expr} {sp : Pos} {fl2 : List Bool} {o1 b1 : Bool} {f g : Sg → R D} (ha : PE X a (tE X.K cl W fl fl1 o1 b1 f)) (hes : PA X es (tA X.K cl W fl1 fl2 false g)) :
    PE X (.List (.Starred a sp :: es) pos) (tE X.K cl W fl fl2 true false fun e => (f e).bind fun x => (seqL (unk x)).bind fun xs => ((g e).bind unL).bind fun ys => grd (fitL (xs.length + ys.length)) (.ok (.list (xs ++ ys)))) := (pe_lst (StX.pa_star ha hes)).imp fun σ H Q q => by
  obtain ⟨G0, B, G, e, sr, p⟩ := q
  refine ⟨G0, B, G, e, sr, p.bind.imp fun dx p1 G1 H1 x g1 s1 sr1 ax _ => ?_⟩
  have aw := ax.unk sr1.gh
  have seq : ∀ {ws : List D} {q : Addr} {vs : List V}, (SqT X.K H1 q vs ∨ SqL X.K H1 q vs) → x = .ref q → RpL X.K G1 vs ws → seqL (unk dx) = .ok ws →
      ∃ p xs, x = V.ref p ∧ (SqT X.K H1 p xs ∨ SqL X.K H1 p xs) ∧ tA X.K cl W fl1 fl2 false g σ H1 fun ys H2 => (xs ++ ys).length ≤ sizeLine ∧ ∀ p, H2 p = none → Q (.ref p) (upd H2 p (.lst (xs ++ ys))) := fun {ws q vs} hq ex r hl => by
    rw [hl, R.bind_ok] at p1
    refine ⟨q, vs, ex, hq, G0, B, G1, e, sr1, p1.bind.grow g1 s1 fun ds p2 G2 H2 us g2 s2 sr2 _ rl => ?_⟩
    have r2 := rl rfl
    cases hb : fitL (ws.length + ds.length) with
    | false => rw [hb] at p2; exact p2.elim
    | true =>
      rw [hb] at p2
      have rr := (r.mono g2).append r2
      refine ⟨by rw [List.length_append, r.length, r2.length]; exact fitL_le hb, fun b hb' => ?_⟩
      obtain ⟨G3, g3, sr3, rs3⟩ := settle (own := true) (fr := true) sr2 (same_upd hb') (.lst hb' rr) fun _ => rfl
      exact p2 G3 _ _ ((g1.trans g2).trans g3) ((s1.trans s2).trans (same_upd hb')) sr3 rs3.av fun _ => rs3
  cases eu : unk dx with
  | list ws =>
    rw [eu] at aw
    obtain ⟨q, vs, ex, h1, r⟩ := aw.list sr1.gh
    exact seq (.inr h1) ex r (by rw [eu]; rfl)
  | tuple ws =>
    rw [eu] at aw
    obtain ⟨q, vs, ex, h1, r⟩ := aw.tuple sr1.gh
    exact seq (.inl h1) ex r (by rw [eu]; rfl)
  | _ => rw [eu] at p1; exact p1.elim
theorem s_lst1s {b : Expr} {sp : Pos} {fl2 : List Bool} {o1 o2 b2 : Bool} {f g : Sg → R D} (ha : PE X a (tE X.K cl W fl fl1 o1 false f)) (hb : PE X b (tE X.K cl W fl1 fl2 o2 b2 g)) (hs : starEach [a, .Starred b sp] X.env = (false, eval a X.env) :: starEach [.Starred b sp] X.env) :
    PE X (.List [a, .Starred b sp] pos) (tE X.K cl W fl fl2 true false fun e => (f e).bind fun x => (g e).bind fun y => (seqL (unk y)).bind fun ys => grd (fitL (ys.length + 1)) (.ok (.list (x :: ys)))) := (pe_lst (pa_cons ha (StX.pa_star hb pa_nil) hs)).imp fun σ H Q q => by
  obtain ⟨G0, B, G, e, sr, p⟩ := q
  refine ⟨G0, B, G, e, sr, p.bind.imp fun dx p1 G1 H1 x g1 s1 sr1 ax rx => ?_⟩
  obtain ⟨G2, g2, sr2, r2⟩ := (rx rfl).frz sr1
  refine ⟨G0, B, G2, e, sr2, p1.bind.grow (g1.trans g2) s1 fun dy p2 G3 H3 y g3 s3 sr3 ay _ => ?_⟩
  have aw := ay.unk sr3.gh
  have seq : ∀ {ws : List D} {q : Addr} {vs : List V}, (SqT X.K H3 q vs ∨ SqL X.K H3 q vs) → y = .ref q → RpL X.K G3 vs ws → seqL (unk dy) = .ok ws →
      ∃ p xs, y = V.ref p ∧ (SqT X.K H3 p xs ∨ SqL X.K H3 p xs) ∧ tNil σ H3 fun ys H2 => (x :: (xs ++ ys)).length ≤ sizeLine ∧ ∀ p, H2 p = none → Q (.ref p) (upd H2 p (.lst (x :: (xs ++ ys)))) := fun {ws q vs} hq ex r hl => by
    rw [hl, R.bind_ok] at p2
    cases hb : fitL (ws.length + 1) with
    | false => rw [hb] at p2; exact p2.elim
    | true =>
      rw [hb] at p2
      have rr : RpL X.K G3 (x :: (vs ++ [])) (dx :: ws) := .cons (r2.mono g3) (by rw [List.append_nil]; exact r)
      refine ⟨q, vs, ex, hq, ?_⟩
      refine ⟨by rw [rr.length]; exact fitL_le hb, fun b hb' => ?_⟩
      obtain ⟨G4, g4, sr4, rs4⟩ := settle (own := true) (fr := true) sr3 (same_upd hb') (.lst hb' rr) fun _ => rfl
      exact p2 G4 _ _ (((g1.trans g2).trans g3).trans g4) ((s1.trans s3).trans (same_upd hb')) sr4 rs4.av fun _ => rs4
  cases eu : unk dy with
  | list ws =>
    rw [eu] at aw
    obtain ⟨q, vs, ex, h1, r⟩ := aw.list sr3.gh
    exact seq (.inr h1) ex r (by rw [eu]; rfl)
  | tuple ws =>
    rw [eu] at aw
    obtain ⟨q, vs, ex, h1, r⟩ := aw.tuple sr3.gh
    exact seq (.inl h1) ex r (by rw [eu]; rfl)
  | _ => rw [eu] at p2; exact p2.elim
theorem s_emp : PE X (.Dict [] [] pos) (tE X.K cl W fl fl true false fun _ => .ok (.dict [])) := pe_dnewT.imp fun σ H Q q => by
  obtain ⟨G0, B, G, e, sr, p⟩ := q
  intro b hb
  have rs : Res X.K true G H (upd H b (.dT [])) (.ref b) (.dict []) := by
    have n : New X.K G H (upd H b (.dT [])) (.ref b) (.dict []) := ⟨b, rfl, hb, .inl (.inr ⟨[], [], [], rfl, rfl, upd_same, .nil⟩)⟩
    exact ⟨fun _ _ => n, .inr n⟩
  obtain ⟨G3, g3, sr3, rs3⟩ := settle (own := true) (fr := true) sr (same_upd hb) rs fun _ => rfl
  exact p G3 _ _ g3 (same_upd hb) sr3 rs3.av fun _ => rs3
theorem s_lst (ha : PA X es (tA X.K cl W fl fl1 false f)) : PE X (.List es pos) (tE X.K cl W fl fl1 true false fun e => ((f e).bind unL).bind fun xs => grd (fitL xs.length) (.ok (.list xs))) := (pe_lst ha).imp fun σ H Q q => by
  obtain ⟨G0, B, G, e, sr, p⟩ := q
  refine ⟨G0, B, G, e, sr, p.bind.imp fun ds p1 G1 H1 vs g1 s1 sr1 _ rl => ?_⟩
  cases hb : fitL ds.length with
  | false => rw [hb] at p1; exact p1.elim
  | true =>
    rw [hb] at p1
    have r := rl rfl
    refine ⟨by rw [r.length]; exact fitL_le hb, fun q hq => ?_⟩
    obtain ⟨G3, g3, sr3, rs3⟩ := settle (own := true) (fr := true) sr1 (same_upd hq) (.lst hq r) fun _ => rfl
    exact p1 G3 _ _ (g1.trans g3) (s1.trans (same_upd hq)) sr3 rs3.av fun _ => rs3

/-! ### slices -/
def tP (K : PySem.W.Frag) (cl : Cls) (W : WX) (fl fl' : List Bool) (f : Sg → R (Option Int)) : TO := fun σ H Q => ∃ G0 B G e, SR K fl G0 B G e σ H ∧
  Pst K cl W G0 B G e σ H (f e) fun t => ∀ G' H', Same G G' → Same H H' → SR K fl' G0 B G' e σ H' → Q t H'
theorem _root_.L2.PO.imp {X : Cx} {a : Option Expr} {t t' : TO} (h : PO X a t) (i : ∀ σ H Q, t' σ H Q → t σ H Q) : PO X a t' := ⟨fun pins s σ H Q I q => h.run pins s σ H Q I (i σ H Q q)⟩
theorem s_po0 : PO X none (tP X.K cl W fl fl fun _ => .ok none) := po_none.imp fun σ H Q q => by
  obtain ⟨G0, B, G, e, sr, p⟩ := q
  exact p G H (Same.refl G) (Same.refl H) sr
theorem s_po1 (ha : PE X a (tE X.K cl W fl fl1 o1 b1 f)) : PO X (some a) (tP X.K cl W fl fl1 fun e => (f e).bind intO) := (po_some ha).imp fun σ H Q q => by
  obtain ⟨G0, B, G, e, sr, p⟩ := q
  refine ⟨G0, B, G, e, sr, p.bind.imp fun dx p1 G1 H1 x g1 s1 sr1 ax _ => ?_⟩
  obtain ⟨t, ht, kk⟩ := Pst.of p1 (intO_nx dx)
  cases dx with
  | int i =>
    cases ht
    exact ⟨i, ax.int, kk G1 H1 g1 s1 sr1⟩
  | _ => cases ht
theorem s_slc {lo hi : Option Expr} {u v : Sg → R (Option Int)} (ha : PE X a (tE X.K cl W fl fl1 o1 b1 f)) (hl : PO X lo (tP X.K cl W fl1 fl2 u)) (hh : PO X hi (tP X.K cl W fl2 fl3 v)) :
    PE X (.Subscript a (.Slice lo hi none p2) pos) (tE X.K cl W fl fl3 true false fun e => (f e).bind fun x => (u e).bind fun l => (v e).bind fun h => sliceD x l h) :=
  (pe_slice sl_D ha hl hh).imp fun σ H Q q => by
  obtain ⟨G0, B, G, e, sr, p⟩ := q
  refine ⟨G0, B, G, e, sr, p.bind.imp fun dx p1 G1 H1 x g1 s1 sr1 ax _ => ⟨G0, B, G1, e, sr1, p1.bind.grow g1 s1 fun l p2 G2 H2 g2 s2 sr2 => ⟨G0, B, G2, e, sr2, p2.bind.grow (g1.trans g2) (s1.trans s2) fun h p3 G3 H3 g3 s3 sr3 => ?_⟩⟩⟩
  obtain ⟨d, hd, kk⟩ := Pst.of p3 (slice_nx dx l h)
  refine ⟨G3, dx, d, sr3.gh, (ax.grow g2 s2).grow g3 s3, hd, fun H' v s4 rs => ?_⟩
  obtain ⟨G4, g4, sr4, rs4⟩ := settle (own := true) sr3 s4 rs fun _ => rfl
  exact kk G4 H' v (((g1.trans g2).trans g3).trans g4) (((s1.trans s2).trans s3).trans s4) sr4 rs4.av fun _ => rs4

/-! ### builtins by name -/
theorem blt_fin {b : Blt} {bor : Bool} {K : PySem.W.Frag} {σ : L2.St} {H : Hp} {Q : VK} (q : tE K cl W fl fl1 true false (fun e => ((f e).bind unL).bind fun xs => bltD b xs) σ H Q) :
    tCB (rB2 K b) (tA K cl W fl fl1 bor f) σ H Q := by
  obtain ⟨G0, B, G, e, sr, p⟩ := q
  refine ⟨G0, B, G, e, sr, p.bind.imp fun ds p1 G1 H1 vs g1 s1 sr1 al _ => ?_⟩
  obtain ⟨d, hd, kk⟩ := Pst.of p1 (blt_nx b ds)
  by_cases nd : b = .sorted → ∀ kds, ds ≠ [.dict kds]
  · refine .inl ⟨G1, ds, d, nd, sr1.gh, al, hd, fun H' v s2 rs => ?_⟩
    obtain ⟨G2, g2, sr2, rs2⟩ := settle (own := true) sr1 s2 rs fun _ => rfl
    exact kk G2 H' v (g1.trans g2) (s1.trans s2) sr2 rs2.av fun _ => rs2
  · simp only [Classical.not_imp, Classical.not_forall, Classical.not_not] at nd
    obtain ⟨rfl, kds, rfl⟩ := nd
    obtain ⟨v, rfl, hv⟩ := al.one
    have hd : sortDT kds = .ok d := hd
    unfold sortDT at hd
    cases hm : decG keyT kds with
    | none => rw [hm] at hd; cases hd
    | some m =>
      rw [hm] at hd
      have hd : sortA (m.map fun p => kT p.1) = .ok d := hd
      rcases look_T sr1.gh hv hm with ⟨a, l, rfl, hr, z⟩ | ⟨ds', e'⟩
      · have ek : (l.map fun p => kT p.1) = m.map fun p => kT p.1 := by
          have e1 : (l.map fun p => kT p.1) = (l.map (·.1)).map kT := by rw [List.map_map]; rfl
          have e2 : (m.map fun p => kT p.1) = (m.map (·.1)).map kT := by rw [List.map_map]; rfl
          rw [e1, e2, z.keys]
        refine .inr ⟨rfl, a, l, d, rfl, hr, by rw [ek]; exact hd, fun p us es ed hp ky => ?_⟩
        subst ed
        obtain ⟨G2, g2, gh2, tp, rl⟩ := keys_in (K := K) sr1.gh ky
        have sr2 := sr1.tups g2 gh2 tp
        obtain ⟨G3, g3, sr3, rs3⟩ := settle (own := true) (fr := true) sr2 (same_upd hp) (.lst hp rl) fun _ => rfl
        exact kk G3 _ _ (g1.trans (g2.trans g3)) (s1.trans (same_upd hp)) sr3 rs3.av fun _ => rs3
      · exact absurd hm (by rw [(kt_noT e').1]; exact fun z => nomatch z)
theorem s_blt (b : Blt) {bor : Bool} {y : Expr} (hc : X.calm = true) (hu : X.A.units + 65 < cLine) (gd : X.A.guards = some []) (hg : Gl X b.nm) (hm : X.mg b.nm = none) (ha : PA X (y :: es) (tA X.K cl W fl fl1 bor f)) (he : starEach (y :: es) X.env = (false, eval y X.env) :: starEach es X.env)
    (hpl : (backTo pos (starEach es X.env)).any (·.1) = false) : PE X (.Call (.Name b.nm p2) (y :: es) [] pos) (tE X.K cl W fl fl1 true false fun e => ((f e).bind unL).bind fun xs => bltD b xs) := by
  have cb := call_blt2 hc hu gd b
  have bb := b.boot
  have n1 : b.nm ≠ "__name__" := by cases b <;> decide
  have n2 : (b.nm == ("__debug__" : Str)) = false := by cases b <;> decide
  have ty : (∃ id, b.val = .builtin id) ∨ ∃ T, b.val = .type T := by cases b <;> first | exact .inl ⟨_, rfl⟩ | exact .inr ⟨_, rfl⟩
  rcases ty with ⟨id, e⟩ | ⟨T, e⟩
  · rw [e] at cb bb
    exact (pe_callB cb hg hm bb ha n1 n2 he hpl).imp fun σ H Q q => blt_fin q
  · rw [e] at cb bb
    exact (pe_callTy cb hg hm bb ha n1 n2 he hpl).imp fun σ H Q q => blt_fin q

/-! ### math.gcd, text.index -/
theorem s_gcd {bor : Bool} {x : Str} {y : Expr} (hg : Gl X x) (hm : X.mg x = some (.builtin "math.gcd")) (ha : PA X (y :: es) (tA X.K cl W fl fl1 bor f)) (hdb : (x == ("__debug__" : Str)) = false)
    (he : starEach (y :: es) X.env = (false, eval y X.env) :: starEach es X.env) (hpl : (backTo pos (starEach es X.env)).any (·.1) = false) :
    PE X (.Call (.Name x p2) (y :: es) [] pos) (tE X.K cl W fl fl1 true false fun e => ((f e).bind unL).bind gcdD) := (pe_callBfun cr_gcd hg hm ha hdb he hpl).imp fun σ H Q q => by
  obtain ⟨G0, B, G, e, sr, p⟩ := q
  refine ⟨G0, B, G, e, sr, p.bind.imp fun ds p1 G1 H1 vs g1 s1 sr1 al _ => ?_⟩
  obtain ⟨d, hd, kk⟩ := Pst.of p1 (gcd_nx ds)
  match ds, al, hd with
  | [.int a, .int b], al, hd =>
    cases hd
    obtain ⟨v, u, rfl, h1, h2⟩ := al.two
    refine ⟨a, b, by rw [h1.int, h2.int], ?_⟩
    obtain ⟨G2, g2, sr2, rs2⟩ := settle (own := true) (fr := true) sr1 (Same.refl H1) (v := V.int ((Nat.gcd a.natAbs b.natAbs : Nat) : Int)) .int fun _ => rfl
    exact kk G2 H1 _ (g1.trans g2) s1 sr2 rs2.av fun _ => rs2
  | [], _, hd => cases hd
  | [_], _, hd => unfold gcdD at hd; split at hd <;> first | (rename_i z; cases z; done) | cases hd
  | _ :: _ :: _ :: _, _, hd => unfold gcdD at hd; split at hd <;> first | (rename_i z; cases z; done) | cases hd
theorem s_sidx {o y : Expr} {apos : Pos} (ho : PE X o (tE X.K cl W fl fl1 o1 b1 f)) (hy : PE X y (tE X.K cl W fl1 fl2 o2 b2 g)) (hs : starEach [y] X.env = [(false, eval y X.env)]) (hb : attributeBase o "index" X.env (eval o X.env) = eval o X.env)
    (hl : (apos.endLine == pos.line) = true) : PE X (.Call (.Attribute o "index" apos) [y] [] pos) (tE X.K cl W fl fl2 true false fun e => (f e).bind fun x => (asStr x).bind fun z => (g e).bind fun y => sidxD z y) :=
  (pe_m1 PySem.F.slot_str_index PySem.F.type_str_index mt_sindex ho hy hs hb hl).imp fun σ H Q q => by
  obtain ⟨G0, B, G, e, sr, p⟩ := q
  refine ⟨G0, B, G, e, sr, p.bind.imp fun dx p1 G1 H1 x g1 s1 sr1 ax _ => ?_⟩
  obtain ⟨a, ha, p2⟩ := Pst.of p1.bind (asStr_nx dx)
  cases asStr_ok ha
  refine ⟨⟨a, ax.str⟩, G0, B, G1, e, sr1, p2.bind.grow g1 s1 fun dy p3 G2 H2 y g2 s2 sr2 ay _ => ?_⟩
  obtain ⟨d, hd, kk⟩ := Pst.of p3 (sidx_nx a dy)
  cases dy with
  | str b =>
    have hd : (match Builtin.Str.occurrences a b 0 a.length 1 with
      | i :: _ => R.ok (PyData.int (i : Nat))
      | [] => .stuck) = .ok d := hd
    cases hoc : Builtin.Str.occurrences a b 0 a.length 1 with
    | nil => rw [hoc] at hd; cases hd
    | cons i rest =>
      rw [hoc] at hd
      cases hd
      refine ⟨a, b, i, rest, ax.str, by rw [ay.str], hoc, ?_⟩
      obtain ⟨G3, g3, sr3, rs3⟩ := settle (own := true) (fr := true) sr2 (Same.refl H2) (v := V.int (i : Nat)) .int fun _ => rfl
      exact kk G3 H2 _ ((g1.trans g2).trans g3) (s1.trans s2) sr3 rs3.av fun _ => rs3
  | _ => cases hd

theorem s_lidx {o y : Expr} {apos : Pos} (hu : X.A.units + 65 < cLine) (ho : PE X o (tE X.K cl W fl fl1 o1 b1 f)) (hy : PE X y (tE X.K cl W fl1 fl2 o2 b2 g)) (hs : starEach [y] X.env = [(false, eval y X.env)]) (hb : attributeBase o "index" X.env (eval o X.env) = eval o X.env)
    (hl : (apos.endLine == pos.line) = true) : PE X (.Call (.Attribute o "index" apos) [y] [] pos) (tE X.K cl W fl fl2 true false fun e => (f e).bind fun x => (unL x).bind fun xs => (g e).bind fun y => lidxD xs y) :=
  (pe_bm PySem.F.plainAttrs_list PySem.F.slot_list_index PySem.F.type_list_index (mt_indexD hu) ho (pa_cons hy pa_nil hs) hb (by rw [hs]; rfl) hl hs rfl).imp fun σ H Q q => by
  obtain ⟨G0, B, G, e, sr, p⟩ := q
  refine ⟨G0, B, G, e, sr, p.bind.imp fun dx p1 G1 H1 x g1 s1 sr1 ax _ => ?_⟩
  obtain ⟨ds, hds, p2⟩ := Pst.of p1.bind (unL_nx dx)
  cases unL_ok hds
  obtain ⟨q, vs, rfl, hq, r⟩ := ax.list sr1.gh
  refine ⟨.inl ⟨rfl, vs, hq⟩, G0, B, G1, e, sr1, p2.bind.grow g1 s1 fun dy p3 G2 H2 y g2 s2 sr2 ay _ => ?_⟩
  obtain ⟨d, hd, kk⟩ := Pst.of p3 (lidx_nx ds dy)
  obtain ⟨hb, hd⟩ := grd_ok (show grd (flat (.list ds) && flat dy) (match ds.findIdx? fun z => PyData.eqv z dy with
    | some i => R.ok (PyData.int (i : Nat))
    | none => .stuck) = .ok d from hd)
  rw [Bool.and_eq_true] at hb
  cases hf : (ds.findIdx? fun z => PyData.eqv z dy) with
  | none => rw [hf] at hd; cases hd
  | some i =>
    rw [hf] at hd
    cases hd
    obtain ⟨h1, h2, h3⟩ := List.findIdx?_eq_some_iff_getElem.mp hf
    refine ⟨q, y, dy, ds, i, ds[i], rfl, rfl, (Aw.of (ax.grow g2 s2)).dp sr2.gh (flat_lay hb.1), (Aw.of ay).dp sr2.gh (flat_lay hb.2), hb.1, hb.2, List.getElem?_eq_getElem h1, h2, fun m z' hm hz => ?_, ?_⟩
    · obtain ⟨hm', e'⟩ := List.getElem?_eq_some_iff.mp hz
      subst e'
      simpa using h3 m hm
    · obtain ⟨G3, g3, sr3, rs3⟩ := settle (own := true) (fr := true) sr2 (Same.refl H2) (v := V.int (i : Nat)) .int fun _ => rfl
      exact kk G3 H2 _ ((g1.trans g2).trans g3) (s1.trans s2) sr3 rs3.av fun _ => rs3

/-! ### {k: 'v', ..}.get(e) -/
def dgOk : List (Int × Str) → List (Option Expr) → List Expr → Bool
  | [], [], [] => true
  | (k, v) :: r, some (.Constant (.int i) _ _) :: ks, .Constant (.str x) _ _ :: vs => k == i && v == x && !(r.any fun kv => kv.1 == k) && dgOk r ks vs
  | _, _, _ => false
def dgT (kvs : List (Int × Str)) : List (TE × TE) := kvs.map fun kv => (tC (.int kv.1), tC (.str kv.2))
def dgV (kvs : List (Int × Str)) : List (L2.Key × V) := kvs.map fun kv => (.inl kv.1, .str kv.2)
theorem dg_pps {X : Cx} {pos : Pos} : ∀ {kvs : List (Int × Str)} {ks : List (Option Expr)} {vs : List Expr}, dgOk kvs ks vs = true → PPs X pos ks vs (dgT kvs) ∧ ks.all (·.isSome) = true ∧ ks.length = kvs.length ∧ vs.length = kvs.length
  | [], [], [], _ => ⟨pps_nil, rfl, rfl, rfl⟩
  | (k, v) :: r, some (.Constant (.int i) a b) :: ks, .Constant (.str x) c d :: vs, h => by
    have h : (k == i && v == x && !(r.any fun kv => kv.1 == k) && dgOk r ks vs) = true := h
    simp only [Bool.and_eq_true, beq_iff_eq] at h
    obtain ⟨⟨⟨rfl, rfl⟩, _⟩, h4⟩ := h
    obtain ⟨h1, h2, h3, h5⟩ := dg_pps (pos := pos) h4
    exact ⟨pps_cons pe_int pe_str h1, by simpa using h2, by simp [h3], by simp [h5]⟩
theorem dg_run : ∀ (kvs : List (Int × Str)) {σ : L2.St} {H : Hp} {Q : List (V × V) → Hp → Prop}, Q ((dgV kvs).map fun kv => (kV kv.1, kv.2)) H → tPairs (dgT kvs) σ H Q
  | [], _, _, _, q => q
  | (k, v) :: r, σ, H, Q, q => dg_run r (Q := fun ps H3 => Q ((.int k, .str v) :: ps) H3) q
theorem merge_new : ∀ (r : List (Int × Str)) (acc : List (L2.Key × V)), (r.map (·.1)).Nodup → (∀ p ∈ r, ∀ q ∈ acc, q.1 ≠ .inl p.1) → mergeK acc (dgV r) = acc ++ dgV r
  | [], acc, _, _ => by simp [mergeK, dgV]
  | p :: r, acc, nd, h => by
    have e : mergeK acc (dgV (p :: r)) = mergeK (putK acc (.inl p.1) (.str p.2)) (dgV r) := rfl
    have hp : putK acc (.inl p.1) (.str p.2) = acc ++ [(.inl p.1, .str p.2)] := by
      unfold putK
      rw [if_neg]
      simp only [List.any_eq_true, decide_eq_true_eq, not_exists, not_and]
      exact fun q hq => h p (by simp) q hq
    rw [List.map_cons, List.nodup_cons] at nd
    rw [e, hp, merge_new r _ nd.2 fun q hq z hz => ?_]
    · simp [dgV]
    · rcases List.mem_append.mp hz with hz | hz
      · exact h q (by simp [hq]) z hz
      · rw [List.mem_singleton] at hz
        subst hz
        intro e
        exact nd.1 (List.mem_map.mpr ⟨q, hq, (Sum.inl.inj e).symm⟩)
theorem dg_nodup : ∀ {kvs : List (Int × Str)} {ks : List (Option Expr)} {vs : List Expr}, dgOk kvs ks vs = true → (kvs.map (·.1)).Nodup
  | [], [], [], _ => by simp
  | (k, v) :: r, some (.Constant (.int i) a b) :: ks, .Constant (.str x) c d :: vs, h => by
    have h : (k == i && v == x && !(r.any fun kv => kv.1 == k) && dgOk r ks vs) = true := h
    simp only [Bool.and_eq_true] at h
    obtain ⟨⟨_, h3⟩, h4⟩ := h
    rw [List.map_cons, List.nodup_cons]
    refine ⟨fun hm => ?_, dg_nodup h4⟩
    obtain ⟨q, hq, e⟩ := List.mem_map.mp hm
    have : (r.any fun kv => kv.1 == k) = true := List.any_eq_true.mpr ⟨q, hq, beq_iff_eq.mpr e⟩
    rw [this] at h3
    cases h3
theorem dg_val (i : Int) : ∀ kvs : List (Int × Str), valV (dgV kvs) (.inl i) = (kvs.find? fun kv => kv.1 == i).map fun kv => V.str kv.2
  | [] => rfl
  | p :: r => by
    show valV ((.inl p.1, .str p.2) :: dgV r) (.inl i) = _
    rw [List.find?_cons]
    by_cases e : p.1 = i
    · rw [valV_pos (by rw [e]), beq_iff_eq.mpr e]
      rfl
    · rw [valV_neg (fun z => e (Sum.inl.inj z)), dg_val i r, beq_eq_false_iff_ne.mpr e]
theorem s_dg {kvs : List (Int × Str)} {ks : List (Option Expr)} {vs : List Expr} {dp ap pos : Pos} {y : Expr} (hu : X.A.units + 65 < cLine) (hk : dgOk kvs ks vs = true) (h0 : kvs ≠ []) (h15 : kvs.length ≤ 15) (hy : PE X y (tE X.K cl W fl fl1 o1 b1 f)) (hs : starEach [y] X.env = [(false, eval y X.env)])
    (hl : (ap.endLine == pos.line) = true) : PE X (.Call (.Attribute (.Dict ks vs dp) "get" ap) [y] [] pos) (tE X.K cl W fl fl1 true false fun e => (f e).bind (dgD kvs)) := by
  obtain ⟨h1, h2, h3, h4⟩ := dg_pps (X := X) (pos := dp) hk
  have h5 := dg_nodup hk
  have hne : ks ≠ [] := fun e => h0 (by
    subst e
    cases kvs with
    | nil => rfl
    | cons _ _ => cases h3)
  refine (pe_dget1 (by omega) (pe_disp h1 h2 (by rw [h3, h4]) hne (by rw [h3]; exact h15)) hy ⟨rfl, by rw [hs]; rfl, hl, by rw [hs]; rfl⟩).imp fun σ H Q q => ?_
  intro p hp
  refine dg_run kvs ?_
  refine ⟨upd_same, dgV kvs, rfl, by unfold dgV; rw [List.length_map]; exact h15, p, rfl, .inl ⟨_, .inl upd_same⟩, ?_⟩
  rw [merge_new kvs [] h5 (fun _ _ q hq => by cases hq), List.nil_append]
  obtain ⟨G0, B, G, e, sr, pp⟩ := q
  have s0 : Same H (upd (upd H p (.dK [])) p (.dK (dgV kvs))) := fun b x hb => by
    have hb' : b ≠ p := ne_of_none hb hp
    rw [upd_ne hb', upd_ne hb']
    exact hb
  refine ⟨G0, B, G, e, sr.grow s0, pp.bind.grow (Same.refl G) s0 fun dx p1 G1 H1 x g1 s1 sr1 ax _ => ?_⟩
  obtain ⟨d, hd, kk⟩ := Pst.of p1 (dg_nx kvs dx)
  cases dx with
  | int i =>
    have hH : H1 p = some (.dK (dgV kvs)) := s1 _ _ upd_same
    cases ax.int
    refine ⟨_, DGet.k (k := .inl i) hH, ?_⟩
    rw [dg_val]
    have hd : (R.ok (match kvs.find? (fun kv => kv.1 == i) with | some kv => PyData.str kv.2 | none => PyData.none) : R D) = .ok d := hd
    cases hq : kvs.find? (fun kv => kv.1 == i) with
    | none =>
      rw [hq] at hd
      cases hd
      obtain ⟨G2, g2, sr2, rs2⟩ := settle (own := true) (fr := true) sr1 (Same.refl H1) (v := V.non) .non fun _ => rfl
      exact kk G2 H1 _ (g1.trans g2) (s0.trans s1) sr2 rs2.av fun _ => rs2
    | some kv =>
      rw [hq] at hd
      cases hd
      obtain ⟨G2, g2, sr2, rs2⟩ := settle (own := true) (fr := true) sr1 (Same.refl H1) (v := V.str kv.2) .str fun _ => rfl
      exact kk G2 H1 _ (g1.trans g2) (s0.trans s1) sr2 rs2.av fun _ => rs2
  | _ => cases hd

/-! ### defs -/
/-- what a def promises: what the evaluator gives; own: a container that it hands back is new -/
def spF (K : PySem.W.Frag) (cl : Cls) (own : Bool) (n : Nat) (run : List D → R D) : Sp := fun vs H Q E => ∃ G ds, Same G H ∧ RpL K G vs ds ∧ vs.length = n ∧ match run ds with
  | .ok d => ∀ G' H' v, Same G G' → (∀ p, G p = none → Hard H p → G' p = none) → Same G' H' → Same H H' → (if own = true then Own K H G' H' v d else Rp K G' v d) → Q v H'
  | .exc c a => ∀ G' H' dd va, Same G G' → (∀ p, G p = none → Hard H p → G' p = none) → Same G' H' → Same H H' → H' dd = some (.xd [(Str.ofString "at", va)]) → Rp K G' va a → E (cl c) (some dd) H'
  | .stuck => False
theorem SR.allFro {K : PySem.W.Frag} {G0 B G : Hp} {e : Sg} {σ : L2.St} {H : Hp} (r : SR K fl G0 B G e σ H) : ∃ G', Same G G' ∧ SR K [] G0 B G' e σ H := by
  obtain ⟨G', g, r'⟩ := r.dn (List.range fl.length)
  have no : ∀ i : Nat, (Mt.dn (List.range fl.length) fl)[i]? ≠ some true := fun i => by
    by_cases hi : i < fl.length
    · exact dn_mem (List.mem_range.mpr hi)
    · refine dn_false ?_
      rw [List.getElem?_eq_none (by omega)]
      exact fun z => nomatch z
  exact ⟨G', g, r'.g0, r'.gh, r'.bh, r'.nw, r'.len, fun i d h _ => r'.fro i d h (no i), fun i d h f => by simp at f, fun i j d d' p _ f => by simp at f⟩
theorem SR.call {K : PySem.W.Frag} {G0 B G G' : Hp} {e : Sg} {σ : L2.St} {H H' : Hp} (r : SR K fl G0 B G e σ H) (g : Same G G') (nw : ∀ p, G p = none → Hard H p → G' p = none) (gh : Same G' H') (s : Same H H') : SR K fl G0 B G' e σ H' where
  g0 := r.g0.trans g
  gh := gh
  bh := r.bh.trans s
  nw := fun p h1 h2 => nw p (r.nw p h1 h2) (h2.mono r.bh)
  len := r.len
  fro := fun i d h f => by
    obtain ⟨v, h1, h2⟩ := r.fro i d h f
    exact ⟨v, h1, h2.mono g⟩
  own := fun i d h f => by
    obtain ⟨v, h1, h2⟩ := r.own i d h f
    refine ⟨v, h1, ?_⟩
    unfold Own at h2 ⊢
    split
    · rename_i hb
      rw [if_pos hb] at h2
      obtain ⟨p, e1, e2, e3, h3⟩ := h2
      exact ⟨p, e1, nw p e2 h3.hard, e3, h3.mono g fun o q => s _ _ q⟩
    · rename_i hb
      rw [if_neg hb] at h2
      exact h2.mono g
  dis := r.dis
/-! ### a def of the text, called where no container is being shown (guards: none; repr asks for that) -/
structure FnG (P : Program) (w : World) (K : PySem.W.Frag) (mg : Str → Option Value) (base : Heap) (C : CXT) (k : Nat) (f : Addr) (fd : FuncData) (ps : List Str) (sp : Sp) : Prop where
  len : ∀ {vs H Q E}, sp vs H Q E → vs.length = ps.length
  run : ∀ {A : Around} {outer : List Env} {s : Shared} {H : Hp} {args : Args} {us : List Value} {vs : List V} {Q : VK} {E : XK}, Room k A → A.guards = some [] → Env0 P w K mg base A outer s H → BindsTo s fd args (ps.zip us) →
    Vals vs us → sp vs H Q E → codeAny (model P w) A (.call (.ref f) args) (CR C outer P w H s Q E) s
/-- .. from a body -/
theorem FnG.call {X : Cx} {C : CXT} {k : Nat} {f : Addr} {fd : FuncData} {ps : List Str} {sp : Sp} {E : XK} {σ : L2.St} (F : FnG X.prog X.w X.K X.mg X.base C k f fd ps sp) (room : Room k X.A) (gd : X.A.guards = some []) (bi : Binds X.K fd ps [])
    (out : ∀ pins H s e s', Inv X pins σ H s → C X.stack H s E e s' → X.xe e s') {pins : List (Addr × Obj)} {s : Shared} {H : Hp} {us : List Value} {vs : List V} {Q : VK} (I : Inv X pins σ H s) (rel : Vals vs us) (h : sp vs H Q E) :
    wpAny (model X.prog X.w) X.A (PySem.call (.ref f) us) (EP X pins σ Q) X.xe s := by
  have n : us.length = ps.length := rel.length.symm.trans (F.len h)
  have bt := bi s us I.kIn (by simpa using n)
  simp only [List.append_nil] at bt
  refine wpAny_call (codeAny_mono (F.run room gd I.env0 bt rel h) ?_)
  intro res s' got
  match res, got with
  | .error e, got => exact out pins H s e s' I got
  | .ok (.ret u), got => exact I.after got
  | .ok .next, got => exact got.elim
  | .ok .brk, got => exact got.elim
  | .ok .cont, got => exact got.elim
/-- f(a, ..), f a def of the module -/
theorem pe_callG {X : Cx} {C : CXT} {k : Nat} {f : Addr} {fd : FuncData} {ps : List Str} {sp : Sp} {E : L2.St → XK} {x : Str} {p pos : Pos} {a : Expr} {es : List Expr} {t : TA} (F : FnG X.prog X.w X.K X.mg X.base C k f fd ps sp) (room : Room k X.A)
    (gd : X.A.guards = some []) (g : Gl X x) (m : X.mg x = some (.ref f)) (kp : PySem.W.keepIn X.K (.ref f) = true) (bi : Binds X.K fd ps []) (out : ∀ σ pins H s e s', Inv X pins σ H s → C X.stack H s (E σ) e s' → X.xe e s') (ha : PA X (a :: es) t)
    (nd : (x == ("__debug__" : Str)) = false) (st : starEach (a :: es) X.env = (false, eval a X.env) :: starEach es X.env) (pl : (backTo pos (starEach es X.env)).any (·.1) = false) :
    PE X (.Call (.Name x p) (a :: es) [] pos) (tCallS sp E t) := by
  constructor
  intro pins s σ H Q I h
  apply wpAny_Call_Name_kw
  apply ld_glob I g m _ nd
  exact PySem.W.callWith_K (h₀ := X.base) I.ok.mod.kin kp (thn (ha.run pos pins s σ H _ I h) fun us s1 ⟨vs, H1, I1, rel, q⟩ => ⟨I1.kIn, F.call room gd bi (out σ) I1 rel q⟩) st pl
/-- a def of the text, as its callers see it -/
def FnIn (X : Cx) (cl : Cls) (x : Str) (own : Bool) (n : Nat) (run : List D → R D) : Prop :=
  ∃ (k : Nat) (fa : Addr) (fd : FuncData) (ps : List Str), X.mg x = some (.ref fa) ∧ PySem.W.keepIn X.K (.ref fa) = true ∧ Binds X.K fd ps [] ∧ Room k X.A ∧ FnG X.prog X.w X.K X.mg X.base (L2N.CX X.prog X.w) k fa fd ps (spF X.K cl own n run)
theorem call_fin {own : Bool} {n : Nat} {run : List D → R D} {K : PySem.W.Frag} {σ : L2.St} {H : Hp} {Q : VK} (hn : ∀ ds d, run ds = .ok d → ds.length = n) (hx : ∀ ds c a, run ds = .exc c a → ds.length = n)
    (q : tE K cl W fl fl1 own false (fun e => ((f e).bind unL).bind run) σ H Q) : tCallS (spF K cl own n run) (WE W) (tA K cl W fl fl1 false f) σ H Q := by
  obtain ⟨G0, B, G, e, sr, p⟩ := q
  refine ⟨G0, B, G, e, sr, p.bind.imp fun ds p1 G1 H1 vs g1 s1 sr1 _ rl => ?_⟩
  have r := rl rfl
  cases hr : run ds with
  | ok d =>
    rw [hr] at p1
    refine ⟨G1, ds, sr1.gh, r, by rw [r.length]; exact hn ds d hr, ?_⟩
    rw [hr]
    intro G2 H2 v g2 nw gh2 s2 rv
    have sr2 := sr1.call g2 nw gh2 s2
    have rs : RsE K own fl1 B G2 H2 e σ v d := by
      unfold RsE
      split
      · rename_i ho
        rw [if_pos ho] at rv
        refine ⟨?_, fun hb => ?_⟩
        · unfold Own at rv ⊢
          split
          · rename_i hb
            rw [if_pos hb] at rv
            obtain ⟨q, e1, e2, e3, h3⟩ := rv
            exact ⟨q, e1, e2, sr1.bh.free e3, h3⟩
          · rename_i hb
            rw [if_neg hb] at rv
            exact rv
        · unfold Own at rv
          rw [if_pos hb] at rv
          obtain ⟨q, rfl, e2, e3, h3⟩ := rv
          intro i d' f1 f2 f3 z
          obtain ⟨v', k1, k2⟩ := sr1.own i d' f2 f1
          unfold Own at k2
          rw [if_pos f3] at k2
          obtain ⟨q', rfl, _, _, k3⟩ := k2
          rw [k1] at z
          cases z
          obtain ⟨o, k4⟩ := k3.there
          rw [e3] at k4
          cases k4
      · rename_i ho
        rw [if_neg ho] at rv
        exact rv
    exact p1 G2 H2 v (g1.trans g2) (s1.trans s2) sr2 rs.av fun _ => rs
  | exc c a =>
    rw [hr] at p1
    refine ⟨G1, ds, sr1.gh, r, by rw [r.length]; exact hx ds c a hr, ?_⟩
    rw [hr]
    intro G2 H2 dd va g2 nw gh2 s2 hd hv
    have p1' : ExW K cl W c a G0 B G e σ H := p1
    obtain ⟨G3, g3, sr3⟩ := (sr1.call g2 nw gh2 s2).allFro
    exact p1' G3 H2 dd va ((g1.trans g2).trans g3) (s1.trans s2) sr3 hd (hv.mono g3)
  | stuck =>
    rw [hr] at p1
    exact p1.elim
theorem s_call {x : Str} {own : Bool} {n : Nat} {run : List D → R D} {y : Expr} (F : FnIn X cl x own n run) (gd : X.A.guards = some []) (hg : Gl X x) (tk : L2N.Takes X W) (hn : ∀ ds d, run ds = .ok d → ds.length = n) (hx : ∀ ds c a, run ds = .exc c a → ds.length = n)
    (ha : PA X (y :: es) (tA X.K cl W fl fl1 false f)) (hdb : (x == ("__debug__" : Str)) = false) (he : starEach (y :: es) X.env = (false, eval y X.env) :: starEach es X.env)
    (hpl : (backTo pos (starEach es X.env)).any (·.1) = false) : PE X (.Call (.Name x p2) (y :: es) [] pos) (tE X.K cl W fl fl1 own false fun e => ((f e).bind unL).bind run) := by
  obtain ⟨k, fa, fd, ps, h1, h2, h3, h4, h5⟩ := F
  exact (pe_callG h5 h4 gd hg h1 h2 h3 (fun σ pins H s e s' I c => L2N.passAt tk σ pins H s e s' I c) ha hdb he hpl).imp fun σ H Q q => call_fin hn hx q
end
end Mt
/-! Part G: targets, what is walked, list comprehensions. -/
namespace Mt
open PySem PySem.Spec PyProof.Rows L2


theorem get_set_ne {α : Type} {l : List α} {i j : Nat} {a : α} (h : i ≠ j) : (l.set i a)[j]? = l[j]? := List.getElem?_set_ne h
section
variable {K : PySem.W.Frag} {fl : List Bool} {G0 B G : Hp} {e : Sg} {σ : L2.St} {H : Hp}
/-- a frozen value is stored -/
theorem SR.setF (r : SR K fl G0 B G e σ H) {v : V} {d : D} (h : Rp K G v d) (i : Nat) : SR K (fl.set i false) G0 B G (e.set i (some d)) (σ.set i (some v)) H := by
  have fget : ∀ {j : Nat}, (fl.set i false)[j]? = some true → fl[j]? = some true ∧ i ≠ j := fun {j} hj => by
    by_cases hji : i = j
    · subst hji
      rw [List.getElem?_set_self'] at hj
      cases z : fl[i]? with
      | none => rw [z] at hj; cases hj
      | some b => rw [z] at hj; cases hj
    · rw [get_set_ne hji] at hj
      exact ⟨hj, hji⟩
  refine ⟨r.g0, r.gh, r.bh, r.nw, by simp [r.len], fun j d' hd f => ?_, fun j d' hd f => ?_, fun a b d1 d2 p hn f1 f2 e1 e2 b1 b2 s1 s2 => ?_⟩
  · by_cases hji : i = j
    · subst hji
      by_cases hl : i < e.length
      · rw [List.getElem?_set_self hl] at hd
        cases hd
        rw [List.getElem?_set_self (by rw [← r.len]; exact hl)]
        exact ⟨v, rfl, h⟩
      · rw [List.getElem?_eq_none (by simpa using hl)] at hd
        cases hd
    · rw [get_set_ne hji] at hd ⊢
      rw [get_set_ne hji] at f
      exact r.fro j d' hd f
  · obtain ⟨f', hji⟩ := fget f
    rw [get_set_ne hji] at hd ⊢
    exact r.own j d' hd f'
  · obtain ⟨f1', ha⟩ := fget f1
    obtain ⟨f2', hb⟩ := fget f2
    rw [get_set_ne ha] at e1 s1
    rw [get_set_ne hb] at e2 s2
    exact r.dis a b d1 d2 p hn f1' f2' e1 e2 b1 b2 s1 s2
/-- .. an owned one, in no slot -/
theorem SR.setO (r : SR K fl G0 B G e σ H) {v : V} {d : D} (h : RsE K true fl B G H e σ v d) {i : Nat} (hf : i < fl.length) : SR K (fl.set i true) G0 B G (e.set i (some d)) (σ.set i (some v)) H := by
  unfold RsE at h
  rw [if_pos rfl] at h
  have fget : ∀ {j : Nat}, i ≠ j → (fl.set i true)[j]? = fl[j]? := fun {j} hj => get_set_ne hj
  refine ⟨r.g0, r.gh, r.bh, r.nw, by simp [r.len], fun j d' hd f => ?_, fun j d' hd f => ?_, fun a b d1 d2 p hn f1 f2 e1 e2 b1 b2 s1 s2 => ?_⟩
  · by_cases hji : i = j
    · subst hji
      by_cases hl : i < e.length
      · rw [List.getElem?_set_self hl] at hd
        cases hd
        rw [List.getElem?_set_self (by rw [← r.len]; exact hl)]
        refine ⟨v, rfl, ?_⟩
        rw [List.getElem?_set_self hf] at f
        exact absurd rfl f
      · rw [List.getElem?_eq_none (by simpa using hl)] at hd
        cases hd
    · rw [get_set_ne hji] at hd ⊢
      rw [fget hji] at f
      exact r.fro j d' hd f
  · by_cases hji : i = j
    · subst hji
      by_cases hl : i < e.length
      · rw [List.getElem?_set_self hl] at hd
        cases hd
        rw [List.getElem?_set_self (by rw [← r.len]; exact hl)]
        exact ⟨v, rfl, h.1⟩
      · rw [List.getElem?_eq_none (by simpa using hl)] at hd
        cases hd
    · rw [get_set_ne hji] at hd ⊢
      rw [fget hji] at f
      exact r.own j d' hd f
  · by_cases ha : i = a
    · subst ha
      by_cases hl : i < e.length
      · rw [List.getElem?_set_self hl] at e1
        rw [List.getElem?_set_self (by rw [← r.len]; exact hl)] at s1
        cases e1
        cases s1
        rw [get_set_ne hn] at e2 s2
        rw [fget hn] at f2
        exact h.2 b1 b d2 f2 e2 b2 s2
      · rw [List.getElem?_eq_none (by simpa using hl)] at e1
        cases e1
    · by_cases hb : i = b
      · subst hb
        by_cases hl : i < e.length
        · rw [List.getElem?_set_self hl] at e2
          rw [List.getElem?_set_self (by rw [← r.len]; exact hl)] at s2
          cases e2
          cases s2
          rw [get_set_ne ha] at e1 s1
          rw [fget ha] at f1
          exact h.2 b2 a d1 f1 e1 b1 s1
        · rw [List.getElem?_eq_none (by simpa using hl)] at e2
          cases e2
      · rw [get_set_ne ha] at e1 s1
        rw [get_set_ne hb] at e2 s2
        rw [fget ha] at f1
        rw [fget hb] at f2
        exact r.dis a b d1 d2 p hn f1 f2 e1 e2 b1 b2 s1 s2
end

/-! ### targets -/
def gD (K : PySem.W.Frag) (fl : List Bool) (t : T) : TG := fun v σ H Q => ∃ G0 B G e d, SR K fl G0 B G e σ H ∧ Rp K G v d ∧ ∃ e1, asg t d e = .ok e1 ∧
  ∀ σ' : L2.St, (∀ j, j ∉ t.slots → σ'[j]? = σ[j]?) → σ'.length = σ.length → SR K (dn t.slots fl) G0 B G e1 σ' H → Q σ' H
def gDs (K : PySem.W.Frag) (fl : List Bool) (t : T) : TGs := fun vs σ H Q => ∃ G0 B G e ds, SR K fl G0 B G e σ H ∧ RpL K G vs ds ∧ ∃ e1, asg t (.tuple ds) e = .ok e1 ∧
  ∀ σ' : L2.St, (∀ j, j ∉ t.slots → σ'[j]? = σ[j]?) → σ'.length = σ.length → SR K (dn t.slots fl) G0 B G e1 σ' H → Q σ' H
theorem _root_.L2.PG.imp {X : Cx} {a : Expr} {t t' : TG} (h : PG X a t) (i : ∀ v σ H Q, t' v σ H Q → t v σ H Q) : PG X a t' := ⟨fun pins s σ H v u Q I r q => h.run pins s σ H v u Q I r (i v σ H Q q)⟩
theorem _root_.L2.PGs.imp {X : Cx} {a : List Expr} {t t' : TGs} (h : PGs X a t) (i : ∀ v σ H Q, t' v σ H Q → t v σ H Q) : PGs X a t' := ⟨fun pins s σ H v u Q I r q => h.run pins s σ H v u Q I r (i v σ H Q q)⟩
section
variable {X : Cx} {fl : List Bool} {pos : Pos}
theorem g_nm {i : Nat} {x : Str} (hN : X.N.Nodup) (hi : X.N[i]? = some x) (hx : Loc X.env.scope x) (hf : X.fn x = true ∨ X.env.scope.names.lookup x = some .local) : PG X (.Name x pos) (gD X.K fl (.nm i)) :=
  (pg_name hN hi hx hf).imp fun v σ H Q q => by
    obtain ⟨G0, B, G, e, d, sr, r, e1, h1, k⟩ := q
    have h1' : (R.ok (e.set i (some d)) : R Sg) = .ok e1 := by
      unfold asg at h1
      exact h1
    cases h1'
    exact k _ (fun j hj => get_set_ne (by simpa [T.slots] using fun z => hj (by simp [T.slots, z]))) (by simp) (sr.setF r i)
theorem g_nil : PGs X [] (gDs X.K fl .nil) := pgs_nil.imp fun vs σ H Q q => by
  obtain ⟨G0, B, G, e, ds, sr, r, e1, h1, k⟩ := q
  cases ds with
  | nil =>
    cases r
    have h1' : (R.ok e : R Sg) = .ok e1 := by
      unfold asg at h1
      exact h1
    cases h1'
    exact ⟨rfl, k σ (fun _ _ => rfl) rfl sr⟩
  | cons d ds =>
    unfold asg at h1
    cases h1
theorem g_cons {a : Expr} {es : List Expr} {t u : T} (hs : (assignEach (a :: es) X.env).map (·.2) = assign a X.env :: (assignEach es X.env).map (·.2)) (ha : PG X a (gD X.K fl t)) (hr : PGs X es (gDs X.K (dn t.slots fl) u)) :
    PGs X (a :: es) (gDs X.K fl (.cons t u)) := (pgs_cons ha hr hs).imp fun vs σ H Q q => by
  obtain ⟨G0, B, G, e, ds, sr, r, e1, h1, k⟩ := q
  cases ds with
  | nil =>
    unfold asg at h1
    cases h1
  | cons d ds =>
    cases r with
    | cons r1 r2 =>
      have h1' : ((asg t d e).bind fun e2 => asg u (.tuple ds) e2) = .ok e1 := by
        unfold asg at h1
        exact h1
      cases h2 : asg t d e with
      | ok e2 =>
        rw [h2] at h1'
        refine ⟨_, _, rfl, G0, B, G, e, d, sr, r1, e2, h2, fun σ1 n1 l1 sr1 => ⟨G0, B, G, e2, ds, sr1, r2, e1, h1', fun σ2 n2 l2 sr2 => k σ2 (fun j hj => ?_) (l2.trans l1) (by
          show SR X.K (dn (t.slots ++ u.slots) fl) G0 B G e1 σ2 H
          rw [dn_app]
          exact sr2)⟩⟩
        have hj' : j ∉ t.slots ∧ j ∉ u.slots := by
          constructor <;> (intro z; exact hj (by simp [T.slots, z]))
        rw [n2 j hj'.2, n1 j hj'.1]
      | exc c a => rw [h2] at h1'; cases h1'
      | stuck => rw [h2] at h1'; cases h1'
theorem g_tup {es : List Expr} {k n : Nat} {ts : T} (hc : X.calm = true) (hn : (assignEach es X.env).length = n) (hst : (assignEach es X.env).findIdx? (·.1) = none) (h : PGs X es (gDs X.K fl ts)) : PG X (.Tuple es k pos) (gD X.K fl (.tup n ts)) :=
  (pg_tup hc h hn hst).imp fun v σ H Q q => by
    obtain ⟨G0, B, G, e, d, sr, r, e1, h1, k⟩ := q
    have h0 : (match unk d with
      | .tuple xs => grd (xs.length == n) (asg ts (.tuple xs) e)
      | _ => .stuck) = .ok e1 := by
      unfold asg at h1
      exact h1
    have aw := Av.unk sr.gh (.inl r)
    generalize unk d = u at h0 aw
    cases u with
    | tuple ds =>
      obtain ⟨hb, h2⟩ := grd_ok h0
      obtain ⟨a, vs, rfl, hs, rl⟩ := aw.tuple sr.gh
      exact ⟨_, _, rfl, hs, by rw [rl.length]; exact eq_of_beq hb, G0, B, G, e, ds, sr, rl, e1, h2, k⟩
    | _ => cases h0
end

/-! ### what is walked -/
/-- what an iterator yields: as data, or a dict's key -/
def Yl (K : PySem.W.Frag) (G H H' : Hp) (v : V) (d : D) : Prop := Res K false G H H' v d ∨ KyR H' v d
theorem settleK {K : PySem.W.Frag} {fl : List Bool} {G0 B G H H' : Hp} {e : Sg} {σ : L2.St} {v : V} {d : D} (r : SR K fl G0 B G e σ H) (s : Same H H') (h : Yl K G H H' v d) : ∃ G', Same G G' ∧ SR K fl G0 B G' e σ H' ∧ RsE K false fl B G' H' e σ v d := by
  rcases h with h | h
  · exact settle (own := false) r s h fun z => nomatch z
  · obtain ⟨G', g, gh, tp, rl⟩ := keys_in (K := K) (us := [v]) (es := [d]) (r.gh.trans s) (.cons h .nil)
    cases rl with
    | cons h1 _ => exact ⟨G', g, (r.grow s).tups g gh tp, by unfold RsE; rw [if_neg (by decide)]; exact h1⟩
structure ItOk (K : PySem.W.Frag) (J : It) (G H : Hp) (its : List D) : Prop where
  go : ∀ i G2 H2, i < its.length → Same G G2 → Same G2 H2 → Same H H2 → J.go i H2
  yld : ∀ i d G2 H2 x H3, its[i]? = some d → Same G G2 → Same G2 H2 → Same H H2 → J.yld i H2 x H3 → Same H2 H3 ∧ Yl K G2 H2 H3 x d
  stop : ∀ i G2 H2, its.length ≤ i → Same G G2 → Same G2 H2 → Same H H2 → J.stop i H2
structure ItF (K : PySem.W.Frag) (J : It) (G : Hp) (its : List D) : Prop where
  go : ∀ i G2 H2, i < its.length → Same G G2 → Same G2 H2 → J.go i H2
  yld : ∀ i d G2 H2 x H3, its[i]? = some d → Same G G2 → Same G2 H2 → J.yld i H2 x H3 → Same H2 H3 ∧ Yl K G2 H2 H3 x d
  stop : ∀ i G2 H2, its.length ≤ i → Same G G2 → Same G2 H2 → J.stop i H2
theorem ItF.ok {K : PySem.W.Frag} {J : It} {G : Hp} {its : List D} (h : ItF K J G its) (H : Hp) : ItOk K J G H its :=
  ⟨fun i G2 H2 a b c _ => h.go i G2 H2 a b c, fun i d G2 H2 x H3 a b c _ e => h.yld i d G2 H2 x H3 a b c e, fun i G2 H2 a b c _ => h.stop i G2 H2 a b c⟩
def tI (K : PySem.W.Frag) (cl : Cls) (W : WX) (fl fl' : List Bool) (bor : Bool) (g : Sg → R (List D)) : TI := fun σ H Q => ∃ G0 B G e, SR K fl G0 B G e σ H ∧
  Pst K cl W G0 B G e σ H (g e) fun its => ∀ G' H' J, Same G G' → Same H H' → SR K fl' G0 B G' e σ H' → ItOk K J G' H' its → (bor = false → ItF K J G' its) → Q J H'
section
variable {X : Cx} {cl : Cls} {W : WX} {fl fl1 : List Bool} {pos p2 : Pos} {a tg : Expr} {o1 b1 : Bool} {f g : Sg → R D}
theorem itd_nx (k : ItK) : ∀ (xs : List D) (c : Str) (a : D), itD k xs ≠ .exc c a := by
  intro xs c a h
  unfold itD at h
  split at h <;> first
    | (cases h; done)
    | (unfold seqD at h; split at h <;> (cases h; done))
    | (rename_i n; cases hb : small n <;> rw [hb] at h <;> cases h)
    | (rename_i n m; cases hb : (small n && small m) <;> rw [hb] at h <;> cases h)
theorem itl_frz {K : PySem.W.Frag} {a : Addr} {vs : List V} {its : List D} {G : Hp} (h : SqL K G a vs) (r : RpL K G vs its) : ItF K (Itl K a) G its where
  go := fun i G2 H2 hi g gh => by
    have hv : i < vs.length := by rw [r.length]; exact hi
    exact ⟨vs, vs[i], Same.sqL gh (Same.sqL g h), by simp [hv]⟩
  yld := fun i d G2 H2 x H3 hd g gh hy => by
    obtain ⟨rfl, hy⟩ := hy
    obtain ⟨v, hv, rv⟩ := r.getD hd
    have e := hy vs (Same.sqL gh (Same.sqL g h))
    rw [hv] at e
    cases e
    exact ⟨Same.refl _, .inl (.of (rv.mono g) fun z => nomatch z)⟩
  stop := fun i G2 H2 hi g gh => ⟨vs, Same.sqL gh (Same.sqL g h), by rw [r.length]; exact hi⟩
theorem itt_frz {K : PySem.W.Frag} {a : Addr} {vs : List V} {its : List D} {G : Hp} (h : SqT K G a vs) (r : RpL K G vs its) : ItF K (Itt K a) G its where
  go := fun i G2 H2 hi g gh => by
    have hv : i < vs.length := by rw [r.length]; exact hi
    exact ⟨vs, vs[i], Same.sqT gh (Same.sqT g h), by simp [hv]⟩
  yld := fun i d G2 H2 x H3 hd g gh hy => by
    obtain ⟨rfl, hy⟩ := hy
    obtain ⟨v, hv, rv⟩ := r.getD hd
    have e := hy vs (Same.sqT gh (Same.sqT g h))
    rw [hv] at e
    cases e
    exact ⟨Same.refl _, .inl (.of (rv.mono g) fun z => nomatch z)⟩
  stop := fun i G2 H2 hi g gh => ⟨vs, Same.sqT gh (Same.sqT g h), by rw [r.length]; exact hi⟩
theorem itl_own {K : PySem.W.Frag} {a : Addr} {vs : List V} {its : List D} {G H : Hp} (h : H a = some (.lst vs)) (r : RpL K G vs its) : ItOk K (Itl K a) G H its where
  go := fun i G2 H2 hi g gh hh => by
    have hv : i < vs.length := by rw [r.length]; exact hi
    exact ⟨vs, vs[i], SqL.of (hh _ _ h), by simp [hv]⟩
  yld := fun i d G2 H2 x H3 hd g gh hh hy => by
    obtain ⟨rfl, hy⟩ := hy
    obtain ⟨v, hv, rv⟩ := r.getD hd
    have e := hy vs (SqL.of (hh _ _ h))
    rw [hv] at e
    cases e
    exact ⟨Same.refl _, .inl (.of (rv.mono g) fun z => nomatch z)⟩
  stop := fun i G2 H2 hi g gh hh => ⟨vs, SqL.of (hh _ _ h), by rw [r.length]; exact hi⟩
theorem itr_frz {K : PySem.W.Frag} {lo : Int} {n : Nat} {G : Hp} : ItF K (Itr lo n) G ((List.range n).map fun i : Nat => .int (lo + i)) where
  go := fun i G2 H2 hi g gh => by simpa [Itr] using hi
  yld := fun i d G2 H2 x H3 hd g gh hy => by
    obtain ⟨rfl, rfl⟩ := hy
    rw [List.getElem?_map] at hd
    cases hr : (List.range n)[i]? with
    | none => rw [hr] at hd; cases hd
    | some j =>
      rw [hr] at hd
      have hj : j = i := by
        have hl := (List.getElem?_eq_some_iff.mp hr)
        obtain ⟨h1, h2⟩ := hl
        rw [List.getElem_range] at h2
        exact h2.symm
      subst hj
      cases hd
      exact ⟨Same.refl _, .inl (.of (.int _) fun z => nomatch z)⟩
  stop := fun i G2 H2 hi g gh => by simpa [Itr] using hi

theorem its_frz {K : PySem.W.Frag} {z : Str} {G : Hp} : ItF K (Its z) G (z.cps.toList.map fun c => .str ⟨#[c]⟩) where
  go := fun i G2 H2 hi g gh => by simpa [Its] using hi
  yld := fun i d G2 H2 x H3 hd g gh hy => by
    obtain ⟨rfl, c, hc, rfl⟩ := hy
    rw [List.getElem?_map, Array.getElem?_toList, hc] at hd
    cases hd
    exact ⟨Same.refl _, .inl (.of (.str _) fun z => nomatch z)⟩
  stop := fun i G2 H2 hi g gh => by simpa [Its] using hi
/-- over a list, a tuple, a text -/
theorem i_seq (ha : PE X a (tE X.K cl W fl fl1 o1 b1 f)) : PI X tg a (tI X.K cl W fl fl1 b1 fun e => (f e).bind fun x => itD .seq [x]) := ⟨fun pins s σ H Q I q => by
  obtain ⟨G0, B, G, e, sr, p⟩ := q
  have p' := p.bind
  cases hf : f e with
  | ok d =>
    rw [hf] at p'
    have p1 : Pst X.K cl W G0 B G e σ H (itD .seq [d]) (fun its => ∀ G' H' J, Same G G' → Same H H' → SR X.K fl1 G0 B G' e σ H' → ItOk X.K J G' H' its → (b1 = false → ItF X.K J G' its) → Q J H') := p'
    cases d with
    | list its =>
      refine (pi_list ha).run pins s σ H Q I ⟨G0, B, G, e, sr, ?_⟩
      rw [hf]
      intro G1 H1 x g1 s1 sr1 ax rx
      cases b1 with
      | false =>
        obtain ⟨G2, g2, sr2, r2⟩ := (rx rfl).frz sr1
        cases r2 with
        | lst h r =>
          exact ⟨_, rfl, ⟨_, Same.sqL sr2.gh h⟩, p1 G2 H1 _ (g1.trans g2) s1 sr2 ((itl_frz h r).ok H1) fun _ => itl_frz h r⟩
      | true =>
        rcases ax with h | ⟨pp, rfl, vs, h, r⟩
        · cases h with
          | lst h r => exact ⟨_, rfl, ⟨_, Same.sqL sr1.gh h⟩, p1 G1 H1 _ g1 s1 sr1 ((itl_frz h r).ok H1) fun z => nomatch z⟩
        · exact ⟨pp, rfl, ⟨vs, SqL.of h⟩, p1 G1 H1 _ g1 s1 sr1 (itl_own h r) fun z => nomatch z⟩
    | tuple its =>
      refine (pi_tup ha).run pins s σ H Q I ⟨G0, B, G, e, sr, ?_⟩
      rw [hf]
      intro G1 H1 x g1 s1 sr1 ax rx
      rcases ax with h | ⟨pp, rfl, h⟩
      · cases h with
        | tup h r => exact ⟨_, rfl, ⟨_, .of (sr1.gh _ _ h)⟩, p1 G1 H1 _ g1 s1 sr1 ((itt_frz (.of h) r).ok H1) fun _ => itt_frz (.of h) r⟩
      · exact h.elim
    | str z =>
      refine (pi_str ha).run pins s σ H Q I ⟨G0, B, G, e, sr, ?_⟩
      rw [hf]
      intro G1 H1 x g1 s1 sr1 ax rx
      exact ⟨z, ax.str, p1 G1 H1 _ g1 s1 sr1 (its_frz.ok H1) fun _ => its_frz⟩
    | dict kvs =>
      rcases unk_cases (.dict kvs) with e1 | ⟨its, e1, e2⟩
      · have z : itD .seq [.dict kvs] = .stuck := by
          show seqD (unk (.dict kvs)) = _
          rw [e1]
          rfl
        rw [z] at p1
        exact p1.elim
      · rw [e1] at p1 hf
        refine (pi_tup ha).run pins s σ H Q I ⟨G0, B, G, e, sr, ?_⟩
        rw [hf]
        intro G1 H1 x g1 s1 sr1 ax rx
        rcases ax with h | ⟨pp, rfl, h⟩
        · obtain ⟨a, vs, rfl, h, r⟩ := h.ktI
          exact ⟨_, rfl, ⟨_, Same.sqT sr1.gh h⟩, p1 G1 H1 _ g1 s1 sr1 ((itt_frz h r).ok H1) fun _ => itt_frz h r⟩
        · exact h.ktI.elim
    | _ => exact p1.elim
  | exc c a =>
    rw [hf] at p'
    refine (pi_list ha).run pins s σ H Q I ⟨G0, B, G, e, sr, ?_⟩
    rw [hf]
    exact p'
  | stuck =>
    rw [hf] at p'
    exact p'.elim⟩
theorem enumL_get : ∀ {xs : List D} {n i : Nat}, (enumL n xs)[i]? = (xs[i]?).map fun x => .tuple [.int ((n + i : Nat) : Int), x]
  | [], _, _ => by simp [enumL]
  | x :: r, n, 0 => by simp [enumL]
  | x :: r, n, i + 1 => by
    show (enumL (n + 1) r)[i]? = _
    rw [enumL_get, show n + 1 + i = n + (i + 1) by omega]
    rfl
theorem enumL_len : ∀ {xs : List D} {n : Nat}, (enumL n xs).length = xs.length
  | [], _ => rfl
  | x :: r, n => congrArg Nat.succ (enumL_len (xs := r) (n := n + 1))
theorem ite_frz {K : PySem.W.Frag} {a : Addr} {vs : List V} {its : List D} {G : Hp} (h : SqL K G a vs) (r : RpL K G vs its) : ItF K (Ite K a) G (enumL 0 its) where
  go := fun i G2 H2 hi g gh => by
    have hv : i < vs.length := by rw [r.length]; rwa [enumL_len] at hi
    exact ⟨vs, vs[i], Same.sqL gh (Same.sqL g h), by simp [hv]⟩
  yld := fun i d G2 H2 x H3 hd g gh hy => by
    obtain ⟨T, y, rfl, hT, rfl, hy⟩ := hy
    rw [enumL_get, Nat.zero_add] at hd
    cases he : its[i]? with
    | none => rw [he] at hd; cases hd
    | some dd =>
      rw [he] at hd
      cases hd
      obtain ⟨v, hv, rv⟩ := r.getD he
      have e := hy vs (Same.sqL gh (Same.sqL g h))
      rw [hv] at e
      have e := Option.some.inj e
      subst e
      have rs : Res K true G2 H2 (upd H2 T (.tup [.int (i : Nat), v])) (.ref T) (.tuple [.int ((i : Nat) : Int), dd]) := .tup hT (.cons (.int _) (.cons (rv.mono g) .nil))
      exact ⟨same_upd hT, .inl ⟨(fun z => nomatch z), rs.2⟩⟩
  stop := fun i G2 H2 hi g gh => ⟨vs, Same.sqL gh (Same.sqL g h), by rw [r.length]; rwa [enumL_len] at hi⟩
theorem i_enum {bor : Bool} {elts : List Expr} {kk : Nat} {tpos : Pos} (hg : Gl X "enumerate") (hm : X.mg "enumerate" = none) (hs : starEach [a] X.env = [(false, eval a X.env)]) (ha : PA X [a] (tA X.K cl W fl fl1 bor f)) (hb : bor = false) :
    PI X (.Tuple elts kk tpos) (.Call (.Name "enumerate" p2) [a] [] pos) (tI X.K cl W fl fl1 false fun e => ((f e).bind unL).bind (itD .enum)) := ⟨fun pins s σ H Q I q => by
  obtain ⟨G0, B, G, e, sr, p⟩ := q
  refine (pi_enum hg hm ha hs).run pins s σ H Q I ⟨G0, B, G, e, sr, p.bind.imp fun ds p1 G1 H1 vs g1 s1 sr1 al rl => ?_⟩
  obtain ⟨its, hi, kk⟩ := Pst.of p1 (itd_nx .enum ds)
  have rl := rl hb
  match ds, rl, hi with
  | [.list xs], rl, hi =>
    cases hi
    cases rl with
    | cons r rs =>
      cases rs
      cases r with
      | lst h r => exact ⟨_, _, rfl, Same.sqL sr1.gh h, kk G1 H1 _ g1 s1 sr1 ((ite_frz h r).ok H1) fun _ => ite_frz h r⟩⟩
theorem itz_frz {K : PySem.W.Frag} {a b : Addr} {vs us : List V} {xs ys : List D} {G : Hp} (h : SqL K G a vs) (r : RpL K G vs xs) (h2 : SqL K G b us) (r2 : RpL K G us ys) : ItF K (Itz K a b) G (List.zipWith (fun x y => .tuple [x, y]) xs ys) where
  go := fun i G2 H2 hi g gh => by
    rw [List.length_zipWith] at hi
    have h1 : i < vs.length := by rw [r.length]; omega
    have h3 : i < us.length := by rw [r2.length]; omega
    exact ⟨vs, us, vs[i], us[i], Same.sqL gh (Same.sqL g h), Same.sqL gh (Same.sqL g h2), by simp [h1], by simp [h3]⟩
  yld := fun i d G2 H2 x H3 hd g gh hy => by
    obtain ⟨T, x1, y1, rfl, hT, rfl, hx, hy⟩ := hy
    rw [List.getElem?_zipWith] at hd
    cases e1 : xs[i]? with
    | none => rw [e1] at hd; cases hd
    | some d1 =>
      cases e2 : ys[i]? with
      | none => rw [e1, e2] at hd; cases hd
      | some d2 =>
        rw [e1, e2] at hd
        cases hd
        obtain ⟨v, hv, rv⟩ := r.getD e1
        obtain ⟨u, hu, ru⟩ := r2.getD e2
        have k1 := hx vs (Same.sqL gh (Same.sqL g h))
        have k2 := hy us (Same.sqL gh (Same.sqL g h2))
        rw [hv] at k1
        rw [hu] at k2
        cases k1
        cases k2
        have rs : Res K true G2 H2 (upd H2 T (.tup [x1, y1])) (.ref T) (.tuple [d1, d2]) := .tup hT (.cons (rv.mono g) (.cons (ru.mono g) .nil))
        exact ⟨same_upd hT, .inl ⟨(fun z => nomatch z), rs.2⟩⟩
  stop := fun i G2 H2 hi g gh => ⟨vs, us, Same.sqL gh (Same.sqL g h), Same.sqL gh (Same.sqL g h2), by
    rw [List.length_zipWith] at hi
    rw [r.length, r2.length]
    omega⟩
theorem i_zip {bor : Bool} {b : Expr} {elts : List Expr} {kk : Nat} {tpos : Pos} (hg : Gl X "zip") (hm : X.mg "zip" = none) (hs : starEach [a, b] X.env = (false, eval a X.env) :: starEach [b] X.env) (hpl : (backTo pos (starEach [b] X.env)).any (·.1) = false) (ha : PA X [a, b] (tA X.K cl W fl fl1 bor f)) (hb : bor = false) :
    PI X (.Tuple elts kk tpos) (.Call (.Name "zip" p2) [a, b] [] pos) (tI X.K cl W fl fl1 false fun e => ((f e).bind unL).bind (itD .zip)) := ⟨fun pins s σ H Q I q => by
  obtain ⟨G0, B, G, e, sr, p⟩ := q
  refine (pi_zip hg hm ha hs hpl).run pins s σ H Q I ⟨G0, B, G, e, sr, p.bind.imp fun ds p1 G1 H1 vs g1 s1 sr1 al rl => ?_⟩
  obtain ⟨its, hi, kk⟩ := Pst.of p1 (itd_nx .zip ds)
  have rl := rl hb
  match ds, rl, hi with
  | [.list xs, .list ys], rl, hi =>
    cases hi
    cases rl with
    | cons r rs =>
      cases rs with
      | cons r2 rs =>
        cases rs
        cases r with
        | lst h r =>
          cases r2 with
          | lst h2 r2 => exact ⟨_, _, _, _, rfl, Same.sqL sr1.gh h, Same.sqL sr1.gh h2, kk G1 H1 _ g1 s1 sr1 ((itz_frz h r h2 r2).ok H1) fun _ => itz_frz h r h2 r2⟩⟩
theorem small_ok {i : Int} (h : small i = true) : -(2 ^ 62) ≤ i ∧ i < 2 ^ 62 := by
  unfold small at h
  rw [Bool.and_eq_true] at h
  exact ⟨of_decide_eq_true h.1, of_decide_eq_true h.2⟩
theorem i_rng1 {bor : Bool} (hg : Gl X "range") (hm : X.mg "range" = none) (hs : starEach [a] X.env = [(false, eval a X.env)]) (ha : PA X [a] (tA X.K cl W fl fl1 bor f)) :
    PI X tg (.Call (.Name "range" p2) [a] [] pos) (tI X.K cl W fl fl1 false fun e => ((f e).bind unL).bind (itD .rng1)) := ⟨fun pins s σ H Q I q => by
  obtain ⟨G0, B, G, e, sr, p⟩ := q
  refine (pi_range1 hg hm ha hs).run pins s σ H Q I ⟨G0, B, G, e, sr, p.bind.imp fun ds p1 G1 H1 vs g1 s1 sr1 al _ => ?_⟩
  obtain ⟨its, hi, kk⟩ := Pst.of p1 (itd_nx .rng1 ds)
  match ds, al, hi with
  | [.int n], al, hi =>
    obtain ⟨hb, e2⟩ := grd_ok (show grd (small n) (.ok ((List.range n.toNat).map fun i : Nat => PyData.int i)) = .ok its from hi)
    cases e2
    obtain ⟨v, rfl, hv⟩ := al.one
    refine ⟨n, by rw [hv.int], (small_ok hb).1, (small_ok hb).2, ?_⟩
    have z : ((List.range n.toNat).map fun i : Nat => PyData.int i) = (List.range n.toNat).map fun i : Nat => PyData.int (0 + i) := by
      refine List.map_congr_left fun j _ => ?_
      rw [Int.zero_add]
    exact kk G1 H1 _ g1 s1 sr1 (by rw [z]; exact itr_frz.ok H1) fun _ => by rw [z]; exact itr_frz⟩
theorem i_rng2 {bor : Bool} {b : Expr} (hg : Gl X "range") (hm : X.mg "range" = none) (hs : starEach [a, b] X.env = [(false, eval a X.env), (false, eval b X.env)]) (hs2 : starEach [b] X.env = [(false, eval b X.env)]) (ha : PA X [a, b] (tA X.K cl W fl fl1 bor f)) :
    PI X tg (.Call (.Name "range" p2) [a, b] [] pos) (tI X.K cl W fl fl1 false fun e => ((f e).bind unL).bind (itD .rng2)) := ⟨fun pins s σ H Q I q => by
  obtain ⟨G0, B, G, e, sr, p⟩ := q
  refine (pi_range2 hg hm ha hs hs2).run pins s σ H Q I ⟨G0, B, G, e, sr, p.bind.imp fun ds p1 G1 H1 vs g1 s1 sr1 al _ => ?_⟩
  obtain ⟨its, hi, kk⟩ := Pst.of p1 (itd_nx .rng2 ds)
  match ds, al, hi with
  | [.int n, .int m], al, hi =>
    obtain ⟨hb, e2⟩ := grd_ok (show grd (small n && small m) (.ok ((List.range (m - n).toNat).map fun i : Nat => PyData.int (n + i))) = .ok its from hi)
    cases e2
    rw [Bool.and_eq_true] at hb
    obtain ⟨v, u, rfl, hv, hu⟩ := al.two
    exact ⟨n, m, by rw [hv.int, hu.int], ⟨(small_ok hb.1).1, (small_ok hb.1).2, (small_ok hb.2).1, (small_ok hb.2).2⟩, kk G1 H1 _ g1 s1 sr1 (itr_frz.ok H1) fun _ => itr_frz⟩⟩
end
end Mt
/-! Part H: list comprehensions. -/
namespace Mt
open PySem PySem.Spec PyProof.Rows L2

/-! ### the evaluator's own loop -/
theorem lcGo_take {F : D → R (List D)} : ∀ {xs : List D} {ys : List D} {i : Nat} {x : D}, lcGo F xs = .ok ys → xs[i]? = some x →
    ∃ p z, lcGo F (xs.take i) = .ok p ∧ F x = .ok z ∧ lcGo F (xs.take (i + 1)) = .ok (p ++ z)
  | [], _, _, _, _, h => by simp at h
  | x :: xs, ys, 0, y, e, h => by
    simp at h
    subst h
    unfold lcGo at e
    cases hx : F x with
    | ok z =>
      refine ⟨[], z, rfl, rfl, ?_⟩
      show ((F x).bind fun ys => (R.ok [] : R (List D)).bind fun zs => .ok (ys ++ zs)) = _
      rw [hx]
      simp
    | exc c a => rw [hx] at e; cases e
    | stuck => rw [hx] at e; cases e
  | x :: xs, ys, i + 1, y, e, h => by
    unfold lcGo at e
    cases hx : F x with
    | ok z =>
      rw [hx] at e
      simp only [R.bind_ok] at e
      cases hr : lcGo F xs with
      | ok zs =>
        obtain ⟨p, q, h1, h2, h3⟩ := lcGo_take hr (by simpa using h)
        refine ⟨z ++ p, q, ?_, h2, ?_⟩
        · show ((F x).bind fun ys => (lcGo F (xs.take i)).bind fun zs => .ok (ys ++ zs)) = _
          rw [hx, h1]
          rfl
        · show ((F x).bind fun ys => (lcGo F (xs.take (i + 1))).bind fun zs => .ok (ys ++ zs)) = _
          rw [hx, h3, List.append_assoc]
          rfl
      | exc c a => rw [hr] at e; cases e
      | stuck => rw [hr] at e; cases e
    | exc c a => rw [hx] at e; cases e
    | stuck => rw [hx] at e; cases e
theorem lcGo_nx {F : D → R (List D)} (h : ∀ x c a, F x ≠ .exc c a) : ∀ (xs : List D) (c : Str) (a : D), lcGo F xs ≠ .exc c a
  | [], _, _, e => by cases e
  | x :: xs, c, a, e => by
    unfold lcGo at e
    cases hx : F x with
    | ok z =>
      rw [hx] at e
      simp only [R.bind_ok] at e
      cases hr : lcGo F xs with
      | ok zs => rw [hr] at e; cases e
      | exc c' a' => exact lcGo_nx h xs c' a' hr
      | stuck => rw [hr] at e; cases e
    | exc c' a' => exact h x c' a' hx
    | stuck => rw [hx] at e; cases e
theorem nox_nx {α : Type} (x : R α) (c : Str) (a : D) : nox x ≠ .exc c a := by
  cases x <;> (intro h; cases h)
theorem nox_inv {α : Type} {x : R α} {a : α} (h : nox x = .ok a) : x = .ok a := by
  cases x with
  | ok b => exact h
  | exc c b => cases h
  | stuck => cases h

/-! ### slots forgotten -/
theorem clr_length : ∀ (own : List Nat) (e : Sg), (clr own e).length = e.length
  | [], _ => rfl
  | i :: own, e => by
    show (clr own (e.set i none)).length = _
    rw [clr_length own]
    simp
theorem clr_out : ∀ {own : List Nat} {e : Sg} {j : Nat}, j ∉ own → (clr own e)[j]? = e[j]?
  | [], _, _, _ => rfl
  | i :: own, e, j, h => by
    show (clr own (e.set i none))[j]? = _
    rw [clr_out (fun z => h (by simp [z])), get_set_ne (fun z => h (by simp [z]))]
theorem clr_none : ∀ {own : List Nat} {e : Sg} {j : Nat} {d : D}, e[j]? = some none → (clr own e)[j]? ≠ some (some d)
  | [], e, j, d, h => by
    show e[j]? ≠ _
    rw [h]
    exact fun z => nomatch z
  | i :: own, e, j, d, h => by
    refine clr_none (own := own) (e := e.set i none) ?_
    by_cases hj : i = j
    · subst hj
      have hl : i < e.length := (List.getElem?_eq_some_iff.mp h).1
      rw [List.getElem?_set_self hl]
    · rw [get_set_ne hj]
      exact h
theorem clr_in : ∀ {own : List Nat} {e : Sg} {j : Nat} {d : D}, j ∈ own → (clr own e)[j]? ≠ some (some d)
  | i :: own, e, j, d, h => by
    by_cases hl : i < e.length
    · rcases List.mem_cons.mp h with rfl | h
      · exact clr_none (own := own) (e := e.set j none) (List.getElem?_set_self hl)
      · exact clr_in (own := own) (e := e.set i none) h
    · rcases List.mem_cons.mp h with rfl | h
      · rw [List.getElem?_eq_none (by rw [clr_length]; omega)]
        exact fun z => nomatch z
      · exact clr_in (own := own) (e := e.set i none) h
theorem wipe_in : ∀ {vs : List Nat} {σ : L2.St} {j : Nat}, j ∈ vs → j < σ.length → (wipe σ vs)[j]? = some none
  | i :: vs, σ, j, h, hl => by
    unfold wipe
    by_cases hj : i = j
    · subst hj
      rw [List.getElem?_set_self (by rw [wipe_length]; exact hl)]
    · rw [get_set_ne hj]
      rcases List.mem_cons.mp h with e | h
      · exact absurd e.symm hj
      · exact wipe_in h hl
theorem wipe_eq {vs : List Nat} {σ σ' : L2.St} (h : ∀ j, j ∉ vs → σ'[j]? = σ[j]?) (hl : σ'.length = σ.length) : wipe σ' vs = wipe σ vs := by
  apply List.ext_getElem?
  intro j
  by_cases hj : j ∈ vs
  · by_cases hlt : j < σ.length
    · rw [wipe_in hj hlt, wipe_in hj (by omega)]
    · rw [List.getElem?_eq_none (by rw [wipe_length]; omega), List.getElem?_eq_none (by rw [wipe_length]; omega)]
  · rw [wipe_out hj, wipe_out hj]
    exact h j hj
theorem asg_out : ∀ {t : T} {d : D} {e e1 : Sg}, asg t d e = .ok e1 → e1.length = e.length ∧ ∀ j, j ∉ t.slots → e1[j]? = e[j]?
  | .nm i, d, e, e1, h => by
    have h' : (R.ok (e.set i (some d)) : R Sg) = .ok e1 := by unfold asg at h; exact h
    cases h'
    exact ⟨by simp, fun j hj => get_set_ne (fun z => hj (by simp [T.slots, z]))⟩
  | .nil, d, e, e1, h => by
    unfold asg at h
    split at h <;> first
      | (cases h; exact ⟨rfl, fun _ _ => rfl⟩)
      | (rename_i q; cases q; done)
      | skip
    all_goals first | (rename_i q _; cases q) | (rename_i q; cases q) | cases h
  | .cons a b, d, e, e1, h => by
    cases d with
    | tuple ds =>
      cases ds with
      | nil => unfold asg at h; cases h
      | cons x r =>
        have h' : ((asg a x e).bind fun e2 => asg b (.tuple r) e2) = .ok e1 := by unfold asg at h; exact h
        cases h2 : asg a x e with
        | ok e2 =>
          rw [h2] at h'
          obtain ⟨l1, o1⟩ := asg_out h2
          obtain ⟨l2, o2⟩ := asg_out (show asg b (.tuple r) e2 = .ok e1 from h')
          refine ⟨l2.trans l1, fun j hj => ?_⟩
          rw [o2 j (fun z => hj (by simp [T.slots, z])), o1 j (fun z => hj (by simp [T.slots, z]))]
        | exc c q => rw [h2] at h'; cases h'
        | stuck => rw [h2] at h'; cases h'
    | _ => unfold asg at h; cases h
  | .tup n ts, d, e, e1, h => by
    have h0 : (match unk d with
      | .tuple xs => grd (xs.length == n) (asg ts (.tuple xs) e)
      | _ => .stuck) = .ok e1 := by unfold asg at h; exact h
    split at h0
    · exact asg_out (t := ts) (grd_ok h0).2
    · cases h0
theorem clr_asg {own : List Nat} {t : T} {d : D} {e e1 : Sg} (h : asg t d (clr own e) = .ok e1) (hs : ∀ j ∈ t.slots, j ∈ own) : ∀ (j : Nat) d', (clr own e1)[j]? = some (some d') → e[j]? = some (some d') ∧ j ∉ own := fun j d' hj => by
  by_cases ho : j ∈ own
  · exact absurd hj (clr_in ho)
  · rw [clr_out ho, (asg_out h).2 j (fun z => ho (hs j z)), clr_out ho] at hj
    exact ⟨hj, ho⟩

section
variable {K : PySem.W.Frag} {fl : List Bool} {G0 B G G' : Hp} {e e1 : Sg} {σ σ' : L2.St} {H H' : Hp}
/-- fewer claims, on slots that stay -/
theorem SR.less (r : SR K fl G0 B G e σ H) (hl : e1.length = σ'.length) (h : ∀ (j : Nat) d, e1[j]? = some (some d) → e[j]? = some (some d) ∧ σ'[j]? = σ[j]?) : SR K fl G0 B G e1 σ' H where
  g0 := r.g0
  gh := r.gh
  bh := r.bh
  nw := r.nw
  len := hl
  fro := fun i d hd f => by
    obtain ⟨h1, h2⟩ := h i d hd
    rw [h2]
    exact r.fro i d h1 f
  own := fun i d hd f => by
    obtain ⟨h1, h2⟩ := h i d hd
    rw [h2]
    exact r.own i d h1 f
  dis := fun i j d d' p hn f1 f2 e1 e2 b1 b2 s1 s2 => by
    obtain ⟨h1, h2⟩ := h i d e1
    obtain ⟨h3, h4⟩ := h j d' e2
    rw [h2] at s1
    rw [h4] at s2
    exact r.dis i j d d' p hn f1 f2 h1 h3 b1 b2 s1 s2
/-- an object that is nobody's changes -/
theorem SR.upd (r : SR K fl G0 B G e σ H) {p : Addr} {o : HO} (gp : G p = none) (bp : B p = none) (ns : ∀ (i : Nat) d, fl[i]? = some true → e[i]? = some (some d) → box d = true → σ[i]? ≠ some (some (.ref p))) :
    SR K fl G0 B G e σ (upd H p o) where
  g0 := r.g0
  gh := fun b x q => by
    rw [upd_ne (ne_of_none q gp)]
    exact r.gh _ _ q
  bh := fun b x q => by
    rw [upd_ne (ne_of_none q bp)]
    exact r.bh _ _ q
  nw := r.nw
  len := r.len
  fro := r.fro
  own := fun i d h f => by
    obtain ⟨v, h1, h2⟩ := r.own i d h f
    refine ⟨v, h1, ?_⟩
    unfold Own at h2 ⊢
    split
    · rename_i hb
      rw [if_pos hb] at h2
      obtain ⟨q, rfl, e2, e3, h3⟩ := h2
      have hq : q ≠ p := fun z => ns i d f h hb (by rw [← z]; exact h1)
      exact ⟨q, rfl, e2, e3, h3.mono (Same.refl G) fun o x => by rw [upd_ne hq]; exact x⟩
    · rename_i hb
      rw [if_neg hb] at h2
      exact h2
  dis := r.dis
/-- back to the slots as they were ahead of a block -/
theorem SR.back {G1 H1 : Hp} {own : List Nat} (r0 : SR K fl G0 B G1 e σ H1) (r : SR K fl G0 B G (clr own e) (wipe σ own) H) (g : Same G1 G) (fo : ∀ i ∈ own, fl[i]? ≠ some true) : SR K fl G0 B G e σ H where
  g0 := r.g0
  gh := r.gh
  bh := r.bh
  nw := r.nw
  len := r0.len
  fro := fun i d hd f => by
    obtain ⟨v, h1, h2⟩ := r0.fro i d hd f
    exact ⟨v, h1, h2.mono g⟩
  own := fun i d hd f => by
    have ho : i ∉ own := fun z => fo i z f
    obtain ⟨v, h1, h2⟩ := r.own i d (by rw [clr_out ho]; exact hd) f
    rw [wipe_out ho] at h1
    exact ⟨v, h1, h2⟩
  dis := r0.dis
end

theorem list_take_succ {α : Type} : ∀ {l : List α} {i : Nat}, l.length ≤ i → l.take i = l
  | _, _, h => List.take_of_length_le h

section
variable {X : Cx} {cl : Cls} {W : WX}
/-- the tests of a clause: none, or one -/
theorem pts_none {fl : List Bool} : PTs X [] (tT X.K cl W fl fl fun _ => .ok true) := ⟨fun pins s σ H Q I q => pts_nil.run pins s σ H Q I (by
  obtain ⟨G0, B, G, e, sr, p⟩ := q
  exact p G H (Same.refl G) (Same.refl H) sr)⟩


end
theorem lcGo_le {F : D → R (List D)} : ∀ {xs ys : List D} {i : Nat} {p : List D}, lcGo F xs = .ok ys → lcGo F (xs.take i) = .ok p → p.length ≤ ys.length
  | xs, ys, 0, p, _, e => by
    rw [List.take_zero] at e
    cases e
    simp
  | [], ys, i + 1, p, _, e => by
    rw [List.take_nil] at e
    cases e
    simp
  | x :: xs, ys, i + 1, p, h, e => by
    rw [List.take_succ_cons] at e
    unfold lcGo at h e
    cases hx : F x with
    | ok z =>
      rw [hx] at h e
      simp only [R.bind_ok] at h e
      cases hr : lcGo F xs with
      | ok zs =>
        rw [hr] at h
        cases hr2 : lcGo F (xs.take i) with
        | ok q =>
          rw [hr2] at e
          cases h
          cases e
          have := lcGo_le hr hr2
          simp only [List.length_append]
          omega
        | exc c a => rw [hr2] at e; cases e
        | stuck => rw [hr2] at e; cases e
      | exc c a => rw [hr] at h; cases h
      | stuck => rw [hr] at h; cases h
    | exc c a => rw [hx] at h; cases h
    | stuck => rw [hx] at h; cases h

/-! ### a new list at D, that is one's own while it grows -/
section
variable {K : PySem.W.Frag} {cl : Cls} {W : WX} {fl fl1 : List Bool} {G0 B G G' : Hp} {e e1 : Sg} {σ σ' : L2.St} {H H' : Hp} {D : Addr} {o o' : HO}
theorem SR.inB (r : SR K fl G0 B G e σ H) (hD : H D = none) : SR K fl G0 (L2.upd B D o) G e σ (L2.upd H D o) where
  g0 := r.g0
  gh := r.gh.trans (same_upd hD)
  bh := fun b x q => by
    by_cases hb : b = D
    · subst hb
      rw [upd_same] at q ⊢
      exact q
    · rw [upd_ne hb] at q ⊢
      exact r.bh _ _ q
  nw := fun p h1 h2 => by
    by_cases hb : p = D
    · subst hb
      exact r.gh.free hD
    · exact r.nw p h1 (h2.off hb)
  len := r.len
  fro := r.fro
  own := fun i d h f => by
    obtain ⟨v, h1, h2⟩ := r.own i d h f
    refine ⟨v, h1, ?_⟩
    unfold Own at h2 ⊢
    split
    · rename_i hb
      rw [if_pos hb] at h2
      obtain ⟨q, rfl, e2, e3, h3⟩ := h2
      obtain ⟨o2, ho2⟩ := h3.there
      have hq : q ≠ D := fun z => by rw [z, hD] at ho2; cases ho2
      exact ⟨q, rfl, e2, by rw [upd_ne hq]; exact e3, h3.mono (Same.refl G) fun o x => by rw [upd_ne hq]; exact x⟩
    · rename_i hb
      rw [if_neg hb] at h2
      exact h2
  dis := r.dis
theorem SR.gB (r : SR K fl G0 (L2.upd B D o) G e σ H) (g0 : G0 D = none) (ho : hardO o := by exact True.intro) : G D = none := r.nw D g0 ⟨o, upd_same, ho⟩
theorem SR.hB (r : SR K fl G0 (L2.upd B D o) G e σ H) : H D = some o := r.bh _ _ upd_same
theorem SR.nsB (r : SR K fl G0 (L2.upd B D o) G e σ H) : ∀ (i : Nat) d, fl[i]? = some true → e[i]? = some (some d) → box d = true → σ[i]? ≠ some (some (.ref D)) := fun i d f h hb z => by
  obtain ⟨v, k1, k2⟩ := r.own i d h f
  rw [k1] at z
  cases z
  unfold Own at k2
  rw [if_pos hb] at k2
  obtain ⟨p, e1, _, e3, _⟩ := k2
  cases e1
  rw [upd_same] at e3
  cases e3
theorem SR.swB (r : SR K fl G0 (L2.upd B D o) G e σ H) (g0 : G0 D = none) (ho : hardO o := by exact True.intro) : SR K fl G0 (L2.upd B D o') G e σ (L2.upd H D o') where
  g0 := r.g0
  gh := fun b x q => by
    rw [upd_ne (ne_of_none q (r.gB g0 ho))]
    exact r.gh _ _ q
  bh := fun b x q => by
    by_cases hb : b = D
    · subst hb
      rw [upd_same] at q ⊢
      exact q
    · rw [upd_ne hb] at q ⊢
      exact r.bh _ _ (by rw [upd_ne hb]; exact q)
  nw := fun p h1 h2 => by
    by_cases hb : p = D
    · subst hb
      exact r.gB g0 ho
    · obtain ⟨o2, k1, k2⟩ := h2.off hb
      exact r.nw p h1 ⟨o2, by rw [upd_ne hb]; exact k1, k2⟩
  len := r.len
  fro := r.fro
  own := fun i d h f => by
    have ns := r.nsB i d f h
    obtain ⟨v, h1, h2⟩ := r.own i d h f
    refine ⟨v, h1, ?_⟩
    unfold Own at h2 ⊢
    split
    · rename_i hb
      rw [if_pos hb] at h2
      obtain ⟨q, rfl, e2, e3, h3⟩ := h2
      have hq : q ≠ D := fun z => ns hb (by rw [← z]; exact h1)
      rw [upd_ne hq] at e3
      exact ⟨q, rfl, e2, by rw [upd_ne hq]; exact e3, h3.mono (Same.refl G) fun o x => by rw [upd_ne hq]; exact x⟩
    · rename_i hb
      rw [if_neg hb] at h2
      exact h2
  dis := r.dis
theorem SR.outB (r : SR K fl G0 (L2.upd B D o) G e σ H) (bD : B D = none) : SR K fl G0 B G e σ H where
  g0 := r.g0
  gh := r.gh
  bh := (same_upd bD).trans r.bh
  nw := fun p h1 h2 => r.nw p h1 (by
    obtain ⟨o2, k1, k2⟩ := h2
    have hb : p ≠ D := fun z => by rw [z, bD] at k1; cases k1
    exact ⟨o2, by rw [upd_ne hb]; exact k1, k2⟩)
  len := r.len
  fro := r.fro
  own := fun i d h f => by
    have ns := r.nsB i d f h
    obtain ⟨v, h1, h2⟩ := r.own i d h f
    refine ⟨v, h1, ?_⟩
    unfold Own at h2 ⊢
    split
    · rename_i hb
      rw [if_pos hb] at h2
      obtain ⟨q, rfl, e2, e3, h3⟩ := h2
      have hq : q ≠ D := fun z => ns hb (by rw [← z]; exact h1)
      rw [upd_ne hq] at e3
      exact ⟨q, rfl, e2, e3, h3⟩
    · rename_i hb
      rw [if_neg hb] at h2
      exact h2
  dis := r.dis
/-- a heap without D does not see what becomes of D -/
def Past (D : Addr) (H H' : Hp) : Prop := ∀ H1 : Hp, H1 D = none → Same H1 H → Same H1 H'
theorem Past.of (s : Same H H') : Past D H H' := fun _ _ h => h.trans s
theorem Past.trans {H2 : Hp} (a : Past D H H') (b : Past D H' H2) : Past D H H2 := fun H1 n h => b H1 n (a H1 n h)
theorem Past.upd : Past D H (L2.upd H D o) := fun H1 n h b x q => by
  rw [upd_ne (ne_of_none q n)]
  exact h _ _ q

/-- a turn of the last clause -/
theorem lc_turn {t : T} {fc : Sg → R Bool} {fe : Sg → R PyData} {o1 : Bool} {x : PyData} {v : V} {acc : List V} {z : List PyData} {P : L2.St → Prop} {Nx : Hp → Prop} (g0D : G0 D = none) (sr : SR K fl G0 (L2.upd B D (.lst acc)) G e σ H) (rx : Rp K G v x)
    (ft : dn t.slots fl = fl) (ho : ∀ j ∈ t.slots, ∀ d, e[j]? ≠ some (some d)) (hP : ∀ σ2 : L2.St, (∀ j, j ∉ t.slots → σ2[j]? = σ[j]?) → σ2.length = σ.length → P σ2)
    (hz : ((asg t x e).bind fun e1 => (fc e1).bind fun t => if t = true then (fe e1).bind fun y => (.ok [y] : R (List PyData)) else .ok []) = .ok z) (hl : acc.length + z.length ≤ sizeLine)
    (nx : ∀ G' H' acc', SR K fl G0 (L2.upd B D (.lst (acc ++ acc'))) G' e σ H' → Same G G' → Past D H H' → RpL K G' acc' z → Nx H') :
    gD K fl t v σ H fun σ2 H2 => P σ2 ∧ tT K cl W fl fl fc σ2 H2 fun b H3 => if b = true then tE K cl W fl fl o1 false fe σ2 H3 fun y H4 => ∃ acc, H4 D = some (.lst acc) ∧ acc.length < sizeLine ∧ Nx (L2.upd H4 D (.lst (acc ++ [y]))) else Nx H3 := by
  cases ha : asg t x e with
  | ok e1 =>
    rw [ha] at hz
    simp only [R.bind_ok] at hz
    refine ⟨G0, _, G, e, x, sr, rx, e1, ha, fun σ2 n2 l2 sr2 => ⟨hP σ2 n2 l2, G0, _, G, e1, by rw [ft] at sr2; exact sr2, ?_⟩⟩
    -- back to the state ahead
    have back : ∀ {G' H' : Hp} {B' : Hp}, SR K fl G0 B' G' e1 σ2 H' → SR K fl G0 B' G' e σ H' := fun {G' H' B'} r => r.less (by rw [sr.len]) fun j d hj => by
      have hjs : j ∉ t.slots := fun q => ho j q d hj
      exact ⟨by rw [(asg_out ha).2 j hjs]; exact hj, (n2 j hjs).symm⟩
    cases hc : fc e1 with
    | ok b =>
      rw [hc] at hz
      simp only [R.bind_ok] at hz
      intro G3 H3 g3 s3 sr3
      cases b with
      | false =>
        rw [if_neg Bool.false_ne_true] at hz ⊢
        cases hz
        exact nx G3 H3 [] (by rw [List.append_nil]; exact back sr3) g3 (.of s3) .nil
      | true =>
        rw [if_pos rfl] at hz ⊢
        refine ⟨G0, _, G3, e1, sr3, ?_⟩
        cases hf : fe e1 with
        | ok y =>
          rw [hf] at hz
          cases hz
          intro G4 H4 w g4 s4 sr4 _ rw4
          obtain ⟨G5, g5, sr5, rw5⟩ := (rw4 rfl).frz sr4
          exact ⟨acc, sr4.hB, by simp at hl; omega, nx G5 _ [w] ((back sr5).swB g0D) ((g3.trans g4).trans g5) (.trans (.of (s3.trans s4)) .upd) (.cons rw5 .nil)⟩
        | exc c a => rw [hf] at hz; cases hz
        | stuck => rw [hf] at hz; cases hz
    | exc c a => rw [hc] at hz; cases hz
    | stuck => rw [hc] at hz; cases hz
  | exc c a => rw [ha] at hz; cases hz
  | stuck => rw [ha] at hz; cases hz
end

section
variable {X : Cx} {cl : Cls} {W : WX}
def fLc (own : List Nat) (tg : T) (cond : Sg → R Bool) (elt : Sg → R D) (e : Sg) (x : D) : R (List D) :=
  nox ((asg tg x (clr own e)).bind fun e1 => (cond e1).bind fun t => if t = true then (elt e1).bind fun y => .ok [y] else .ok [])

theorem lc_imp {K : PySem.W.Frag} {own : List Nat} {fl fl1 : List Bool} {b1 o1 : Bool} {t : T} {its : Sg → R (List D)} {fc : Sg → R Bool} {fe : Sg → R D} {σ : L2.St} {H : Hp} {Q : VK}
    (ho : ∀ j ∈ t.slots, j ∈ own) (fo : ∀ i ∈ own, fl1[i]? ≠ some true) (ft : dn t.slots fl1 = fl1)
    (q : tE K cl W fl fl1 true false (fun e => (its e).bind fun l => (lcGo (fLc own t fc fe e) l).bind fun ys => grd (fitL ys.length) (.ok (.list ys))) σ H Q) :
    tLc (tI K cl W fl fl1 b1 its) (gD K fl1 t) (tT K cl (fun _ _ _ _ => False) fl1 fl1 fc) (tE K cl (fun _ _ _ _ => False) fl1 fl1 o1 false fe) own σ H Q := by
  obtain ⟨G0, B, G, e, sr, p⟩ := q
  refine ⟨G0, B, G, e, sr, p.bind.imp fun l p1 G1 H1 J g1 s1 sr1 itok _ D hD => ?_⟩
  generalize hF : fLc own t fc fe e = F at p1
  have Fnx : ∀ x c a, F x ≠ .exc c a := fun x c a => by
    rw [← hF]
    exact nox_nx _ c a
  obtain ⟨ys, hys, k⟩ := Pst.of p1.bind (lcGo_nx Fnx l)
  cases hfit : fitL ys.length with
  | false => rw [hfit] at k; exact k.elim
  | true =>
  rw [hfit] at k
  have hle : ys.length ≤ sizeLine := fitL_le hfit
  have gD1 : G1 D = none := sr1.gh.free hD
  have g0D : G0 D = none := sr1.g0.free gD1
  have bD : B D = none := sr1.bh.free hD
  have wl : (clr own e).length = (wipe σ own).length := by rw [clr_length, wipe_length]; exact sr1.len
  have lessE : ∀ (j : Nat) d, (clr own e)[j]? = some (some d) → e[j]? = some (some d) ∧ (wipe σ own)[j]? = σ[j]? := fun j d hj => by
    by_cases hjo : j ∈ own
    · exact absurd hj (clr_in hjo)
    · rw [clr_out hjo] at hj
      exact ⟨hj, wipe_out hjo⟩
  refine ⟨fun i m H2 => m = l.length - i ∧ i ≤ l.length ∧ ∃ G2 acc zs, SR K fl1 G0 (upd B D (.lst acc)) G2 (clr own e) (wipe σ own) H2 ∧ Same G1 G2 ∧ Same H1 H2 ∧
    RpL K G2 acc zs ∧ lcGo F (l.take i) = .ok zs, ⟨l.length, by simp, Nat.zero_le _, G1, [], [], (sr1.less wl lessE).inB hD, Same.refl G1, same_upd hD, .nil, rfl⟩, ?_⟩
  rintro i m H2 ⟨rfl, hi2, G2, acc, zs, sr2, g2, s2, ra, hz⟩
  by_cases hlt : i < l.length
  · obtain ⟨x, hx⟩ : ∃ x, l[i]? = some x := ⟨l[i], by simp [hlt]⟩
    obtain ⟨p, z, hp, hz2, hz3⟩ := lcGo_take hys hx
    rw [hz] at hp
    cases hp
    have hle2 : acc.length + z.length ≤ sizeLine := by
      have := lcGo_le hys hz3
      rw [List.length_append] at this
      rw [ra.length]
      omega
    rw [← hF] at hz2
    refine .inr ⟨itok.go i G2 H2 hlt g2 sr2.gh s2, fun H4 => ∃ G2 acc zs, SR K fl1 G0 (upd B D (.lst acc)) G2 (clr own e) (wipe σ own) H4 ∧ Same G1 G2 ∧ Same H1 H4 ∧
      RpL K G2 acc zs ∧ lcGo F (l.take (i + 1)) = .ok zs, fun H' h => ⟨l.length - (i + 1), by omega, rfl, hlt, h⟩, fun v H3 hy => ?_⟩
    obtain ⟨s3, rs⟩ := itok.yld i x G2 H2 v H3 hx g2 sr2.gh s2 hy
    obtain ⟨G3, g3, sr3, rs3⟩ := settleK sr2 s3 rs
    refine lc_turn g0D sr3 rs3.frozen ft (fun j hj d => clr_in (ho j hj)) (fun σ2 n2 l2 => wipe_eq (fun j hj => (n2 j fun z => hj (ho j z)).trans (wipe_out hj)) (l2.trans (wipe_length _ _))) (nox_inv hz2) hle2 fun G4 H4 acc' sr4 g4 s4 r4 => ?_
    exact ⟨G4, _, _, sr4, g2.trans (g3.trans g4), s4 H1 hD (s2.trans s3), (ra.mono (g3.trans g4)).append r4, hz3⟩
  · have e2 : i = l.length := by omega
    subst e2
    refine .inl ⟨itok.stop _ G2 H2 (Nat.le_refl _) g2 sr2.gh s2, ?_⟩
    rw [List.take_length, hys] at hz
    cases hz
    have gD2 := sr2.gB g0D
    have ns := (sr1.back (sr2.outB bD) g2 fo)
    have hacc := sr2.hB
    have own' : RsE K true fl1 B G2 H2 e σ (.ref D) (.list ys) := by
      unfold RsE
      rw [if_pos rfl]
      refine ⟨?_, fun _ i d f h hb z => ?_⟩
      · unfold Own
        rw [if_pos (show box (PyData.list ys) = true from rfl)]
        exact ⟨D, rfl, gD2, bD, acc, hacc, ra⟩
      · obtain ⟨v, k1, k2⟩ := sr1.own i d h f
        rw [k1] at z
        cases z
        unfold Own at k2
        rw [if_pos hb] at k2
        obtain ⟨p, e1, _, _, k3⟩ := k2
        cases e1
        obtain ⟨o, k4⟩ := k3.there
        rw [hD] at k4
        cases k4
    exact k G2 H2 _ (g1.trans g2) (s1.trans s2) ns own'.av fun _ => own'
/-- a comprehension's reading t -/
structure LcOk (X : Cx) (e : Expr) (t : TE) : Prop where
  pe : PE X e t
  st : ∀ (i : Nat) (y : Str) (py spos : Pos), X.N[i]? = some y → X.env.scope.names.lookup y = some .local → swapsWith e (some (.Name y py)) spos.line X.env = pure true → PS X (.Assign [.Name y py] e spos) (tAsg t (gName i))
theorem _root_.L2.PS.imp {X : Cx} {a : Stmt} {t t' : TS} (h : PS X a t) (i : ∀ D σ H, t' D σ H → t D σ H) : PS X a t' := ⟨fun pins s σ H D I q => h.run pins s σ H D I (i D σ H q)⟩
theorem _root_.L2.PSs.imp {X : Cx} {a : List Stmt} {t t' : TS} (h : PSs X a t) (i : ∀ D σ H, t' D σ H → t D σ H) : PSs X a t' := ⟨fun pins s σ H D I q => h.run pins s σ H D I (i D σ H q)⟩
theorem s_lc {elt tg iter : Expr} {ifs : List Expr} {scope : Scope} {own : List (Str × Nat)} {pos : Pos} {fl fl1 : List Bool} {b1 o1 : Bool} {t : T} {its : Sg → R (List D)} {fc : Sg → R Bool} {fe : Sg → R D}
    (hc : X.calm = true) (hN : X.N.Nodup) (hi : PI X tg iter (tI X.K cl W fl fl1 b1 its)) (ok : BlkOk X.N X.env.scope scope own) (hs : ∀ x, foldedSetIterable iter X.env x = pure x)
    (ho : ∀ j ∈ t.slots, j ∈ own.map (·.2)) (fo : ∀ i ∈ own.map (·.2), fl1[i]? ≠ some true) (ft : dn t.slots fl1 = fl1)
    (hg : ∀ (s : Shared) (H : Hp) (C : Addr) (cc : List (Str × Addr)) (fp : List Addr), PG (X.blk s H scope (compEnvC scope cc C X.env) fp) tg (gD X.K fl1 t))
    (ht : ∀ (s : Shared) (H : Hp) (C : Addr) (cc : List (Str × Addr)) (fp : List Addr), PTs (X.blk s H scope (compEnvC scope cc C X.env) fp) ifs (tT X.K cl (fun _ _ _ _ => False) fl1 fl1 fc))
    (he : ∀ (s : Shared) (H : Hp) (C : Addr) (cc : List (Str × Addr)) (fp : List Addr), PE (X.blk s H scope (compEnvC scope cc C X.env) fp) elt (tE X.K cl (fun _ _ _ _ => False) fl1 fl1 o1 false fe)) :
    LcOk X (.ListComp elt [⟨tg, iter, ifs, 0⟩] scope pos) (tE X.K cl W fl fl1 true false fun e => (its e).bind fun l => (lcGo (fLc (own.map (·.2)) t fc fe e) l).bind fun ys => grd (fitL ys.length) (.ok (.list ys))) := by
  have imp : ∀ σ H Q, (tE X.K cl W fl fl1 true false fun e => (its e).bind fun l => (lcGo (fLc (own.map (·.2)) t fc fe e) l).bind fun ys => grd (fitL ys.length) (.ok (.list ys))) σ H Q →
      tLc (tI X.K cl W fl fl1 b1 its) (gD X.K fl1 t) (tT X.K cl (fun _ _ _ _ => False) fl1 fl1 fc) (tE X.K cl (fun _ _ _ _ => False) fl1 fl1 o1 false fe) (own.map (·.2)) σ H Q := fun σ H Q q => lc_imp ho fo ft q
  exact ⟨(pe_lc hc hN hi ok hg ht he hs).imp imp, fun i y py spos h1 h2 h3 => (ps_setLc hc hN h1 h2 h3 hi ok hg ht he hs).imp fun D σ H q => imp _ _ _ q⟩
end
end Mt
/-! Part H2: dicts written and comprehended, the keys tuples. -/
namespace Mt
open PySem PySem.Spec PyProof.Rows L2
/-! ### the evaluator's own loop -/
theorem putG_le {κ β : Type} [DecidableEq κ] (l : List (κ × β)) (k : κ) (v : β) : l.length ≤ (putG l k v).length := by
  unfold putG
  split
  · rw [List.length_map]; exact Nat.le_refl _
  · rw [List.length_append]; exact Nat.le_add_right _ _
theorem putO_le (m : List (List Key × D)) (o : Option (List Key × D)) : m.length ≤ (putO m o).length := by
  cases o with
  | none => exact Nat.le_refl _
  | some p => exact putG_le _ _ _
theorem dcGo_app {F : D → R (Option (List Key × D))} : ∀ (xs ys : List D) (m : List (List Key × D)), dcGo F (xs ++ ys) m = (dcGo F xs m).bind (dcGo F ys)
  | [], ys, m => rfl
  | x :: xs, ys, m => by
    show (F x).bind (fun o => dcGo F (xs ++ ys) (putO m o)) = ((F x).bind fun o => dcGo F xs (putO m o)).bind (dcGo F ys)
    rw [R.bind_assoc]
    congr 1
    funext o
    exact dcGo_app xs ys _
theorem dcGo_len {F : D → R (Option (List Key × D))} : ∀ {xs : List D} {m m' : List (List Key × D)}, dcGo F xs m = .ok m' → m.length ≤ m'.length
  | [], m, m', h => by cases h; exact Nat.le_refl _
  | x :: xs, m, m', h => by
    have h : (F x).bind (fun o => dcGo F xs (putO m o)) = .ok m' := h
    cases hx : F x with
    | ok o =>
      rw [hx] at h
      exact Nat.le_trans (putO_le m o) (dcGo_len h)
    | exc c a => rw [hx] at h; cases h
    | stuck => rw [hx] at h; cases h
theorem dcGo_at {F : D → R (Option (List Key × D))} {xs : List D} {m0 m mi : List (List Key × D)} {i : Nat} {x : D} (h : dcGo F xs m0 = .ok m) (hx : xs[i]? = some x) (hi : dcGo F (xs.take i) m0 = .ok mi) :
    ∃ o, F x = .ok o ∧ dcGo F (xs.take (i + 1)) m0 = .ok (putO mi o) ∧ (putO mi o).length ≤ m.length := by
  obtain ⟨hlt, e⟩ := List.getElem?_eq_some_iff.mp hx
  have sp : xs = xs.take i ++ (x :: xs.drop (i + 1)) := by
    rw [← e, List.getElem_cons_drop hlt, List.take_append_drop]
  have tk : xs.take (i + 1) = xs.take i ++ [x] := by rw [List.take_succ, hx]; rfl
  rw [sp, dcGo_app, hi] at h
  have h : (F x).bind (fun o => dcGo F (xs.drop (i + 1)) (putO mi o)) = .ok m := h
  cases hf : F x with
  | ok o =>
    rw [hf] at h
    refine ⟨o, rfl, ?_, dcGo_len h⟩
    rw [tk, dcGo_app, hi]
    show (F x).bind (fun o => dcGo F [] (putO mi o)) = _
    rw [hf]
    rfl
  | exc c a => rw [hf] at h; cases h
  | stuck => rw [hf] at h; cases h
theorem dcGo_nx {F : D → R (Option (List Key × D))} (h : ∀ x c a, F x ≠ .exc c a) : ∀ (xs : List D) (m : List (List Key × D)) (c : Str) (a : D), dcGo F xs m ≠ .exc c a
  | [], _, _, _, e => by cases e
  | x :: xs, m, c, a, e => by
    have e : (F x).bind (fun o => dcGo F xs (putO m o)) = .exc c a := e
    cases hx : F x with
    | ok o => rw [hx] at e; exact dcGo_nx h xs _ c a e
    | exc c' a' => exact h x c' a' hx
    | stuck => rw [hx] at e; cases e
section
variable {K : PySem.W.Frag} {cl : Cls} {W : WX} {fl fl1 : List Bool} {G0 B G G' : Hp} {e e1 : Sg} {σ σ' : L2.St} {H H' : Hp} {D : Addr} {o o' : HO}
/-- a turn -/
theorem dc_turn {t : T} {fc : Sg → R Bool} {fk fv : Sg → R PyData} {o1 o2 : Bool} {x : PyData} {v : V} {kvs : List (List Key × V)} {m : List (List Key × PyData)} {z : Option (List Key × PyData)} {P : L2.St → Prop} {Nx : Hp → Prop} (g0D : G0 D = none) (sr : SR K fl G0 (L2.upd B D (.dT kvs)) G e σ H) (rx : Rp K G v x)
    (zd : Zd K G kvs m) (ft : dn t.slots fl = fl) (ho : ∀ j ∈ t.slots, ∀ d, e[j]? ≠ some (some d)) (hP : ∀ σ2 : L2.St, (∀ j, j ∉ t.slots → σ2[j]? = σ[j]?) → σ2.length = σ.length → P σ2)
    (hz : ((asg t x e).bind fun e1 => (fc e1).bind fun t => if t = true then (fk e1).bind fun a => (fv e1).bind fun b => keyB a b else .ok none) = .ok z) (hl : (putO m z).length < sizeLine)
    (nx : ∀ G' H' kvs', SR K fl G0 (L2.upd B D (.dT kvs')) G' e σ H' → Same G G' → Past D H H' → Zd K G' kvs' (putO m z) → Nx H') :
    gD K fl t v σ H fun σ2 H2 => P σ2 ∧ tT K cl W fl fl fc σ2 H2 fun b H3 => if b = true then tE K cl W fl fl o1 false fk σ2 H3 fun y H4 => tE K cl W fl fl o2 false fv σ2 H4 fun w H5 => ∃ kvs k a, y = .ref a ∧ H5 a = some (.tup (k.map kV)) ∧ H5 D = some (.dT kvs) ∧ kvs.length < sizeLine ∧ Nx (L2.upd H5 D (.dT (putK kvs k w))) else Nx H3 := by
  cases ha : asg t x e with
  | ok e1 =>
    rw [ha] at hz
    simp only [R.bind_ok] at hz
    refine ⟨G0, _, G, e, x, sr, rx, e1, ha, fun σ2 n2 l2 sr2 => ⟨hP σ2 n2 l2, G0, _, G, e1, by rw [ft] at sr2; exact sr2, ?_⟩⟩
    have back : ∀ {G' H' : Hp} {B' : Hp}, SR K fl G0 B' G' e1 σ2 H' → SR K fl G0 B' G' e σ H' := fun {G' H' B'} r => r.less (by rw [sr.len]) fun j d hj => by
      have hjs : j ∉ t.slots := fun q => ho j q d hj
      exact ⟨by rw [(asg_out ha).2 j hjs]; exact hj, (n2 j hjs).symm⟩
    cases hc : fc e1 with
    | ok b =>
      rw [hc] at hz
      simp only [R.bind_ok] at hz
      intro G3 H3 g3 s3 sr3
      cases b with
      | false =>
        rw [if_neg Bool.false_ne_true] at hz ⊢
        cases hz
        exact nx G3 H3 kvs (back sr3) g3 (.of s3) (zd.mono g3)
      | true =>
        rw [if_pos rfl] at hz ⊢
        refine ⟨G0, _, G3, e1, sr3, ?_⟩
        cases hk : fk e1 with
        | ok a =>
          rw [hk] at hz
          cases hv : fv e1 with
          | ok b =>
            simp only [hv, R.bind_ok] at hz
            unfold keyB at hz
            cases hkt : keyT a with
            | none => rw [hkt] at hz; cases hz
            | some k =>
              rw [hkt] at hz
              cases hz
              cases keyT_inv hkt
              intro G4 H4 y g4 s4 sr4 _ rw4
              obtain ⟨G5, g5, sr5, rw5⟩ := (rw4 rfl).frz sr4
              obtain ⟨ka, rfl, hka⟩ := key_of_kT rw5
              refine ⟨G0, _, G5, e1, sr5, ?_⟩
              rw [hv]
              intro G6 H6 w g6 s6 sr6 _ rw6
              obtain ⟨G7, g7, sr7, rw7⟩ := (rw6 rfl).frz sr6
              have gg : Same G G7 := (((g3.trans g4).trans g5).trans g6).trans g7
              have lk : kvs.length < sizeLine := by
                have a := zd.len
                have b : m.length ≤ (putO m (some (k, b))).length := putO_le _ _
                omega
              exact ⟨kvs, k, ka, rfl, sr7.gh _ _ ((g6.trans g7) _ _ hka), sr7.hB, lk, nx G7 _ _ ((back sr7).swB g0D) gg (.trans (.of ((s3.trans s4).trans s6)) .upd) ((zd.mono gg).put rw7)⟩
          | exc c a => simp only [hv, R.bind_ok] at hz; cases hz
          | stuck => simp only [hv, R.bind_ok] at hz; cases hz
        | exc c a => rw [hk] at hz; cases hz
        | stuck => rw [hk] at hz; cases hz
    | exc c a => rw [hc] at hz; cases hz
    | stuck => rw [hc] at hz; cases hz
  | exc c a => rw [ha] at hz; cases hz
  | stuck => rw [ha] at hz; cases hz
end
section
variable {X : Cx} {cl : Cls} {W : WX}
def fDc (own : List Nat) (tg : T) (cond : Sg → R Bool) (fk fv : Sg → R D) (e : Sg) (x : D) : R (Option (List Key × D)) :=
  nox ((asg tg x (clr own e)).bind fun e1 => (cond e1).bind fun t => if t = true then (fk e1).bind fun a => (fv e1).bind fun b => keyB a b else .ok none)
def fDcc (own : List Nat) (tg : T) (its : Sg → R (List D)) (fc : Sg → R Bool) (fk fv : Sg → R D) (e : Sg) : R D :=
  (its e).bind fun l => (dcGo (fDc own tg fc fk fv e) l []).bind fun m => grd (fitL (m.length + 1)) (.ok (.dict (encT m)))
theorem dc_imp {K : PySem.W.Frag} {own : List Nat} {fl fl1 : List Bool} {b1 o1 o2 : Bool} {t : T} {its : Sg → R (List D)} {fc : Sg → R Bool} {fk fv : Sg → R D} {σ : L2.St} {H : Hp} {Q : VK}
    (ho : ∀ j ∈ t.slots, j ∈ own) (fo : ∀ i ∈ own, fl1[i]? ≠ some true) (ft : dn t.slots fl1 = fl1)
    (q : tE K cl W fl fl1 true false (fDcc own t its fc fk fv) σ H Q) :
    tDcT (tI K cl W fl fl1 b1 its) (gD K fl1 t) (tT K cl (fun _ _ _ _ => False) fl1 fl1 fc) (tE K cl (fun _ _ _ _ => False) fl1 fl1 o1 false fk) (tE K cl (fun _ _ _ _ => False) fl1 fl1 o2 false fv) own σ H Q := by
  obtain ⟨G0, B, G, e, sr, p⟩ := q
  unfold fDcc at p
  refine ⟨G0, B, G, e, sr, p.bind.imp fun l p1 G1 H1 J g1 s1 sr1 itok _ D hD => ?_⟩
  generalize hF : fDc own t fc fk fv e = F at p1
  have Fnx : ∀ x c a, F x ≠ .exc c a := fun x c a => by
    rw [← hF]
    exact nox_nx _ c a
  obtain ⟨m, hm, k⟩ := Pst.of p1.bind (dcGo_nx Fnx l [])
  cases hfit : fitL (m.length + 1) with
  | false => rw [hfit] at k; exact k.elim
  | true =>
  rw [hfit] at k
  have hle : m.length + 1 ≤ sizeLine := fitL_le hfit
  have gD1 : G1 D = none := sr1.gh.free hD
  have g0D : G0 D = none := sr1.g0.free gD1
  have bD : B D = none := sr1.bh.free hD
  have wl : (clr own e).length = (wipe σ own).length := by rw [clr_length, wipe_length]; exact sr1.len
  have lessE : ∀ (j : Nat) d, (clr own e)[j]? = some (some d) → e[j]? = some (some d) ∧ (wipe σ own)[j]? = σ[j]? := fun j d hj => by
    by_cases hjo : j ∈ own
    · exact absurd hj (clr_in hjo)
    · rw [clr_out hjo] at hj
      exact ⟨hj, wipe_out hjo⟩
  let I : Nat → Hp → Prop := fun i H2 => ∃ G2 kvs mi, SR K fl1 G0 (upd B D (.dT kvs)) G2 (clr own e) (wipe σ own) H2 ∧ Same G1 G2 ∧ Same H1 H2 ∧ Zd K G2 kvs mi ∧ dcGo F (l.take i) [] = .ok mi
  refine ⟨fun i n H2 => n = l.length - i ∧ i ≤ l.length ∧ I i H2, ⟨l.length, by simp, Nat.zero_le _, G1, [], [], (sr1.less wl lessE).inB hD, Same.refl G1, same_upd hD, .nil, rfl⟩, ?_⟩
  rintro i n H2 ⟨rfl, hi2, G2, kvs, mi, sr2, g2, s2, zd, hz⟩
  by_cases hlt : i < l.length
  · obtain ⟨x, hx⟩ : ∃ x, l[i]? = some x := ⟨l[i], by simp [hlt]⟩
    obtain ⟨o, ho2, hz3, hle2⟩ := dcGo_at hm hx hz
    rw [← hF] at ho2
    refine .inr ⟨itok.go i G2 H2 hlt g2 sr2.gh s2, I (i + 1), fun H' h => ⟨l.length - (i + 1), by omega, rfl, hlt, h⟩, fun v H3 hy => ?_⟩
    obtain ⟨s3, rs⟩ := itok.yld i x G2 H2 v H3 hx g2 sr2.gh s2 hy
    obtain ⟨G3, g3, sr3, rs3⟩ := settleK sr2 s3 rs
    refine dc_turn g0D sr3 rs3.frozen (zd.mono g3) ft (fun j hj d => clr_in (ho j hj)) (fun σ2 n2 l2 => wipe_eq (fun j hj => (n2 j fun z => hj (ho j z)).trans (wipe_out hj)) (l2.trans (wipe_length _ _))) (nox_inv ho2) (by omega) fun G4 H4 kvs' sr4 g4 s4 z4 => ?_
    exact ⟨G4, kvs', _, sr4, g2.trans (g3.trans g4), s4 H1 hD (s2.trans s3), z4, hz3⟩
  · have e2 : i = l.length := by omega
    subst e2
    refine .inl ⟨itok.stop _ G2 H2 (Nat.le_refl _) g2 sr2.gh s2, ?_⟩
    rw [List.take_length, hm] at hz
    cases hz
    have gD2 := sr2.gB g0D
    have ns := (sr1.back (sr2.outB bD) g2 fo)
    have own' : RsE K true fl1 B G2 H2 e σ (.ref D) (.dict (encT m)) := by
      unfold RsE
      rw [if_pos rfl]
      refine ⟨?_, fun _ i d f h hb z => ?_⟩
      · unfold Own
        rw [if_pos (show box (PyData.dict (encT m)) = true from rfl)]
        exact ⟨D, rfl, gD2, bD, ownT_mk sr2.hB zd⟩
      · obtain ⟨v, k1, k2⟩ := sr1.own i d h f
        rw [k1] at z
        cases z
        unfold Own at k2
        rw [if_pos hb] at k2
        obtain ⟨p, e1, _, _, k3⟩ := k2
        cases e1
        obtain ⟨o, k4⟩ := k3.there
        rw [hD] at k4
        cases k4
    exact k G2 H2 _ (g1.trans g2) (s1.trans s2) ns own'.av fun _ => own'
theorem s_dcc {kx vx tg iter : Expr} {ifs : List Expr} {scope : Scope} {own : List (Str × Nat)} {pos : Pos} {fl fl1 : List Bool} {b1 o1 o2 : Bool} {t : T} {its : Sg → R (List D)} {fc : Sg → R Bool} {fk fv : Sg → R D}
    (hu : X.A.units + 65 < cLine) (hc : X.calm = true) (hN : X.N.Nodup) (hi : PI X tg iter (tI X.K cl W fl fl1 b1 its)) (ok : BlkOk X.N X.env.scope scope own) (hs : ∀ x, foldedSetIterable iter X.env x = pure x)
    (ho : ∀ j ∈ t.slots, j ∈ own.map (·.2)) (fo : ∀ i ∈ own.map (·.2), fl1[i]? ≠ some true) (ft : dn t.slots fl1 = fl1)
    (hg : ∀ (s : Shared) (H : Hp) (C : Addr) (cc : List (Str × Addr)) (fp : List Addr), PG (X.blk s H scope (compEnvC scope cc C X.env) fp) tg (gD X.K fl1 t))
    (ht : ∀ (s : Shared) (H : Hp) (C : Addr) (cc : List (Str × Addr)) (fp : List Addr), PTs (X.blk s H scope (compEnvC scope cc C X.env) fp) ifs (tT X.K cl (fun _ _ _ _ => False) fl1 fl1 fc))
    (hk : ∀ (s : Shared) (H : Hp) (C : Addr) (cc : List (Str × Addr)) (fp : List Addr), PE (X.blk s H scope (compEnvC scope cc C X.env) fp) kx (tE X.K cl (fun _ _ _ _ => False) fl1 fl1 o1 false fk))
    (hv : ∀ (s : Shared) (H : Hp) (C : Addr) (cc : List (Str × Addr)) (fp : List Addr), PE (X.blk s H scope (compEnvC scope cc C X.env) fp) vx (tE X.K cl (fun _ _ _ _ => False) fl1 fl1 o2 false fv)) :
    PE X (.DictComp kx vx [⟨tg, iter, ifs, 0⟩] scope pos) (tE X.K cl W fl fl1 true false (fDcc (own.map (·.2)) t its fc fk fv)) :=
  (pe_dcT (by omega) hc hN hi ok hg ht hk hv hs).imp fun σ H Q q => dc_imp ho fo ft q
/-! ### one entry, written -/
theorem s_dc1 {fl fl1 fl2 : List Bool} {o1 o2 : Bool} {fk fv : Sg → R D} {kx vx : Expr} {pos : Pos} (hu : X.A.units + 65 < cLine) (hk : PE X kx (tE X.K cl W fl fl1 o1 false fk)) (hv : PE X vx (tE X.K cl W fl1 fl2 o2 false fv)) :
    PE X (.Dict [some kx] [vx] pos) (tE X.K cl W fl fl2 true false fun e => nox ((fk e).bind fun a => (fv e).bind fun b => dc1D a b)) :=
  (pe_dispT (by omega) (pps_cons hk hv pps_nil) rfl rfl (fun z => by cases z) (by simp)).imp fun σ H Q q p hp => by
  obtain ⟨G0, B, G, e, sr, q⟩ := q
  obtain ⟨d, hd, k⟩ := Pst.of q (nox_nx _)
  have hd := nox_inv hd
  cases h1 : fk e with
  | exc c a => rw [h1] at hd; cases hd
  | stuck => rw [h1] at hd; cases hd
  | ok a =>
  cases h2 : fv e with
  | exc c b => simp only [h1, h2, R.bind_ok] at hd; cases hd
  | stuck => simp only [h1, h2, R.bind_ok] at hd; cases hd
  | ok b =>
  simp only [h1, h2, R.bind_ok] at hd
  unfold dc1D at hd
  cases hkt : keyT a with
  | none => rw [hkt] at hd; cases hd
  | some kk =>
  rw [hkt] at hd
  cases hd
  cases keyT_inv hkt
  have gp : G p = none := sr.gh.free hp
  have g0p : G0 p = none := sr.g0.free gp
  have bp : B p = none := sr.bh.free hp
  refine ⟨G0, _, G, e, sr.inB hp, ?_⟩
  rw [h1]
  intro G1 H1 x g1 s1 sr1 _ rx
  obtain ⟨G2, g2, sr2, rx2⟩ := (rx rfl).frz sr1
  obtain ⟨ka, rfl, hka⟩ := key_of_kT rx2
  refine ⟨G0, _, G2, e, sr2, ?_⟩
  rw [h2]
  intro G3 H3 y g3 s3 sr3 _ ry
  obtain ⟨G4, g4, sr4, ry4⟩ := (ry rfl).frz sr3
  refine ⟨sr4.hB, [(kk, ka, y)], rfl, fun t ht => ?_, by simp, ?_⟩
  · cases List.mem_singleton.mp ht
    exact sr4.gh _ _ ((g3.trans g4) _ _ hka)
  · have sw := (sr4.swB (o' := .dT (putsT [] [(kk, ka, y)])) g0p)
    have out := sw.outB bp
    have z : Zd X.K G4 (putsT [] [(kk, ka, y)]) [(kk, b)] := .cons ⟨rfl, ry4⟩ .nil
    have sH : Same H (upd H3 p (.dT (putsT [] [(kk, ka, y)]))) := fun c u hu => by
      rw [upd_ne (ne_of_none hu hp)]
      exact s3 _ _ (s1 _ _ (by rw [upd_ne (ne_of_none hu hp)]; exact hu))
    have gg : Same G G4 := ((g1.trans g2).trans g3).trans g4
    have gp4 := sr4.gB g0p
    have own' : RsE X.K true fl2 B G4 (upd H3 p (.dT (putsT [] [(kk, ka, y)]))) e σ (.ref p) (.dict (encT [(kk, b)])) := by
      unfold RsE
      rw [if_pos rfl]
      refine ⟨?_, fun _ i d f h hb z => ?_⟩
      · unfold Own
        rw [if_pos (show box (PyData.dict (encT [(kk, b)])) = true from rfl)]
        exact ⟨p, rfl, gp4, bp, ownT_mk upd_same z⟩
      · exact (sw.nsB i d f h hb) z
    exact k G4 _ _ gg sH out own'.av fun _ => own'
end
end Mt
/-! Part I: list comprehensions of two clauses. -/
namespace Mt
open PySem PySem.Spec PyProof.Rows L2
section
variable {X : Cx} {cl : Cls} {W : WX}
def fIn (own2 : List Nat) (tg2 : T) (cond : Sg → R Bool) (elt : Sg → R D) (e1 : Sg) (x2 : D) : R (List D) :=
  (asg tg2 x2 (clr own2 e1)).bind fun e2 => (cond e2).bind fun t => if t = true then (elt e2).bind fun y => .ok [y] else .ok []
def fLc2 (own : List Nat) (tg : T) (its2 : Sg → R (List D)) (own2 : List Nat) (tg2 : T) (cond : Sg → R Bool) (elt : Sg → R D) (e : Sg) (x : D) : R (List D) :=
  nox ((asg tg x (clr own e)).bind fun e1 => (its2 e1).bind fun l => lcGo (fIn own2 tg2 cond elt e1) l)
theorem less_wipe {K : PySem.W.Frag} {fl : List Bool} {G0 B G : Hp} {e : Sg} {σ : L2.St} {H : Hp} (r : SR K fl G0 B G e σ H) (own : List Nat) : SR K fl G0 B G (clr own e) (wipe σ own) H :=
  r.less (by rw [clr_length, wipe_length]; exact r.len) fun j d hj => by
    by_cases hjo : j ∈ own
    · exact absurd hj (clr_in hjo)
    · rw [clr_out hjo] at hj
      exact ⟨hj, wipe_out hjo⟩
theorem lc2_imp {K : PySem.W.Frag} {own own2 : List Nat} {fl fl1 : List Bool} {b1 o1 : Bool} {t t2 : T} {its its2 : Sg → R (List D)} {fc : Sg → R Bool} {fe : Sg → R D} {σ : L2.St} {H : Hp} {Q : VK}
    (ho : ∀ j ∈ t.slots, j ∈ own) (ho2 : ∀ j ∈ t2.slots, j ∈ own2) (hv : ∀ i ∈ own2, i ∈ own) (fo : ∀ i ∈ own, fl1[i]? ≠ some true) (ft : dn t.slots fl1 = fl1) (ft2 : dn t2.slots fl1 = fl1)
    (q : tE K cl W fl fl1 true false (fun e => (its e).bind fun l => (lcGo (fLc2 own t its2 own2 t2 fc fe e) l).bind fun ys => grd (fitL ys.length) (.ok (.list ys))) σ H Q) :
    tLc2 (tI K cl W fl fl1 b1 its) (gD K fl1 t) (tT K cl (fun _ _ _ _ => False) fl1 fl1 fun _ => .ok true) (tI K cl (fun _ _ _ _ => False) fl1 fl1 false its2) (gD K fl1 t2) (tT K cl (fun _ _ _ _ => False) fl1 fl1 fc) (tE K cl (fun _ _ _ _ => False) fl1 fl1 o1 false fe) own own2 σ H Q := by
  obtain ⟨G0, B, G, e, sr, p⟩ := q
  refine ⟨G0, B, G, e, sr, p.bind.imp fun l p1 G1 H1 J g1 s1 sr1 itok _ D hD => ?_⟩
  generalize hF : fLc2 own t its2 own2 t2 fc fe e = F at p1
  have Fnx : ∀ x c a, F x ≠ .exc c a := fun x c a => by
    rw [← hF]
    exact nox_nx _ c a
  obtain ⟨ys, hys, k⟩ := Pst.of p1.bind (lcGo_nx Fnx l)
  cases hfit : fitL ys.length with
  | false => rw [hfit] at k; exact k.elim
  | true =>
  rw [hfit] at k
  have hle : ys.length ≤ sizeLine := fitL_le hfit
  have gD1 : G1 D = none := sr1.gh.free hD
  have g0D : G0 D = none := sr1.g0.free gD1
  have bD : B D = none := sr1.bh.free hD
  refine ⟨fun i m H2 => m = l.length - i ∧ i ≤ l.length ∧ ∃ G2 acc zs, SR K fl1 G0 (upd B D (.lst acc)) G2 (clr own e) (wipe σ own) H2 ∧ Same G1 G2 ∧ Same H1 H2 ∧
    RpL K G2 acc zs ∧ lcGo F (l.take i) = .ok zs, ⟨l.length, by simp, Nat.zero_le _, G1, [], [], (less_wipe sr1 _).inB hD, Same.refl G1, same_upd hD, .nil, rfl⟩, ?_⟩
  rintro i m H2 ⟨rfl, hi2, G2, acc, zs, sr2, g2, s2, ra, hz⟩
  by_cases hlt : i < l.length
  · obtain ⟨x, hx⟩ : ∃ x, l[i]? = some x := ⟨l[i], by simp [hlt]⟩
    obtain ⟨p, z, hp, hz2, hz3⟩ := lcGo_take hys hx
    rw [hz] at hp
    cases hp
    have hle2 : acc.length + z.length ≤ sizeLine := by
      have := lcGo_le hys hz3
      rw [List.length_append] at this
      rw [ra.length]
      omega
    rw [← hF] at hz2
    replace hz2 := nox_inv hz2
    refine .inr ⟨itok.go i G2 H2 hlt g2 sr2.gh s2, fun H4 => ∃ G2 acc zs, SR K fl1 G0 (upd B D (.lst acc)) G2 (clr own e) (wipe σ own) H4 ∧ Same G1 G2 ∧ Same H1 H4 ∧
      RpL K G2 acc zs ∧ lcGo F (l.take (i + 1)) = .ok zs, fun H' h => ⟨l.length - (i + 1), by omega, rfl, hlt, h⟩, fun v H3 hy => ?_⟩
    obtain ⟨s3, rs⟩ := itok.yld i x G2 H2 v H3 hx g2 sr2.gh s2 hy
    obtain ⟨G3, g3, sr3, rs3⟩ := settleK sr2 s3 rs
    cases ha : asg t x (clr own e) with
    | ok e1 =>
      rw [ha] at hz2
      simp only [R.bind_ok] at hz2
      refine ⟨G0, _, G3, _, x, sr3, rs3.frozen, e1, ha, fun σ2 n2 l2 sr4 => ⟨wipe_eq (fun j hj => (n2 j fun z => hj (ho j z)).trans (wipe_out hj)) (l2.trans (wipe_length _ _)), G0, _, G3, e1, by rw [ft] at sr4; exact sr4, ?_⟩⟩
      intro G4 H4 g4 s4 sr5
      rw [if_pos rfl]
      -- back to the state ahead
      have back : ∀ {G' H' : Hp} {B' : Hp}, SR K fl1 G0 B' G' (clr own2 e1) (wipe σ2 own2) H' → SR K fl1 G0 B' G' (clr own e) (wipe σ own) H' := fun {G' H' B'} r => r.less (by rw [clr_length, wipe_length]; exact sr1.len) fun j d hj => by
        have hjo : j ∉ own := fun q => clr_in q hj
        have hjs : j ∉ t.slots := fun q => hjo (ho j q)
        have hj2 : j ∉ own2 := fun q => hjo (hv j q)
        exact ⟨by rw [clr_out hj2, (asg_out ha).2 j hjs]; exact hj, by rw [wipe_out hj2]; exact (n2 j hjs).symm⟩
      refine ⟨G0, _, G4, e1, sr5, ?_⟩
      cases hi2 : its2 e1 with
      | ok l' =>
        rw [hi2] at hz2
        simp only [R.bind_ok] at hz2
        intro G5 H5 J1 g5 s5 sr6 _ itf
        have itf := itf rfl
        refine ⟨fun j m H6 => m = l'.length - j ∧ j ≤ l'.length ∧ ∃ G6 acc2 zs2, SR K fl1 G0 (upd B D (.lst (acc ++ acc2))) G6 (clr own2 e1) (wipe σ2 own2) H6 ∧ Same G5 G6 ∧ Past D H5 H6 ∧
          RpL K G6 acc2 zs2 ∧ lcGo (fIn own2 t2 fc fe e1) (l'.take j) = .ok zs2, ⟨l'.length, by simp, Nat.zero_le _, G5, [], [], by rw [List.append_nil]; exact less_wipe sr6 _, Same.refl G5, fun _ _ h => h, .nil, rfl⟩, ?_⟩
        rintro j m H6 ⟨rfl, hj2, G6, acc2, zs2, sr7, g6, s6, ra2, hzz⟩
        by_cases hlt2 : j < l'.length
        · obtain ⟨x', hx'⟩ : ∃ x, l'[j]? = some x := ⟨l'[j], by simp [hlt2]⟩
          obtain ⟨p', z', hp', hz2', hz3'⟩ := lcGo_take hz2 hx'
          rw [hzz] at hp'
          cases hp'
          have hle3 : (acc ++ acc2).length + z'.length ≤ sizeLine := by
            have := lcGo_le hz2 hz3'
            rw [List.length_append] at this ⊢
            rw [ra2.length]
            omega
          refine .inr ⟨itf.go j G6 H6 hlt2 g6 sr7.gh, fun H7 => ∃ G6 acc2 zs2, SR K fl1 G0 (upd B D (.lst (acc ++ acc2))) G6 (clr own2 e1) (wipe σ2 own2) H7 ∧ Same G5 G6 ∧ Past D H5 H7 ∧
            RpL K G6 acc2 zs2 ∧ lcGo (fIn own2 t2 fc fe e1) (l'.take (j + 1)) = .ok zs2, fun H' h => ⟨l'.length - (j + 1), by omega, rfl, hlt2, h⟩, fun v H7 hy => ?_⟩
          obtain ⟨s7, rs⟩ := itf.yld j x' G6 H6 v H7 hx' g6 sr7.gh hy
          obtain ⟨G7, g7, sr8, rs8⟩ := settleK sr7 s7 rs
          refine lc_turn g0D sr8 rs8.frozen ft2 (fun j hj d => clr_in (ho2 j hj)) (fun σ3 n3 l3 => wipe_eq (fun j hj => (n3 j fun z => hj (ho2 j z)).trans (wipe_out hj)) (l3.trans (wipe_length _ _))) hz2' hle3 fun G8 H8 acc' sr9 g8 s8 r8 => ?_
          exact ⟨G8, acc2 ++ acc', _, by rw [← List.append_assoc]; exact sr9, g6.trans (g7.trans g8), s6.trans ((Past.of s7).trans s8), (ra2.mono (g7.trans g8)).append r8, hz3'⟩
        · have e2 : j = l'.length := by omega
          subst e2
          refine .inl ⟨itf.stop _ G6 H6 (Nat.le_refl _) g6 sr7.gh, ?_⟩
          rw [List.take_length, hz2] at hzz
          cases hzz
          have gg : Same G2 G6 := g3.trans (g4.trans (g5.trans g6))
          exact ⟨G6, acc ++ acc2, _, back sr7, g2.trans gg, s6 H1 hD (((s2.trans s3).trans s4).trans s5), (ra.mono gg).append ra2, hz3⟩
      | exc c a => rw [hi2] at hz2; cases hz2
      | stuck => rw [hi2] at hz2; cases hz2
    | exc c a => rw [ha] at hz2; cases hz2
    | stuck => rw [ha] at hz2; cases hz2
  · have e2 : i = l.length := by omega
    subst e2
    refine .inl ⟨itok.stop _ G2 H2 (Nat.le_refl _) g2 sr2.gh s2, ?_⟩
    rw [List.take_length, hys] at hz
    cases hz
    have gD2 := sr2.gB g0D
    have ns := (sr1.back (sr2.outB bD) g2 fo)
    have hacc := sr2.hB
    have own' : RsE K true fl1 B G2 H2 e σ (.ref D) (.list ys) := by
      unfold RsE
      rw [if_pos rfl]
      refine ⟨?_, fun _ i d f h hb z => ?_⟩
      · unfold Own
        rw [if_pos (show box (PyData.list ys) = true from rfl)]
        exact ⟨D, rfl, gD2, bD, acc, hacc, ra⟩
      · obtain ⟨v, k1, k2⟩ := sr1.own i d h f
        rw [k1] at z
        cases z
        unfold Own at k2
        rw [if_pos hb] at k2
        obtain ⟨p, e1, _, _, k3⟩ := k2
        cases e1
        obtain ⟨o, k4⟩ := k3.there
        rw [hD] at k4
        cases k4
    exact k G2 H2 _ (g1.trans g2) (s1.trans s2) ns own'.av fun _ => own'
theorem s_lc2 {elt tg iter tg2 iter2 : Expr} {ifs : List Expr} {scope : Scope} {own : List (Str × Nat)} {own2 : List Nat} {pos : Pos} {fl fl1 : List Bool} {b1 o1 : Bool} {t t2 : T} {its its2 : Sg → R (List D)} {fc : Sg → R Bool} {fe : Sg → R D}
    (hc : X.calm = true) (hN : X.N.Nodup) (hi : PI X tg iter (tI X.K cl W fl fl1 b1 its)) (ok : BlkOk X.N X.env.scope scope own) (hs : ∀ x, foldedSetIterable iter X.env x = pure x) (hs2 : ∀ env x, foldedSetIterable iter2 env x = pure x)
    (ho : ∀ j ∈ t.slots, j ∈ own.map (·.2)) (ho2 : ∀ j ∈ t2.slots, j ∈ own2) (hv : ∀ i ∈ own2, i ∈ own.map (·.2)) (fo : ∀ i ∈ own.map (·.2), fl1[i]? ≠ some true) (ft : dn t.slots fl1 = fl1) (ft2 : dn t2.slots fl1 = fl1)
    (hg : ∀ (s : Shared) (H : Hp) (C : Addr) (cc : List (Str × Addr)) (fp : List Addr), PG (X.blk s H scope (compEnvC scope cc C X.env) fp) tg (gD X.K fl1 t))
    (hi2 : ∀ (s : Shared) (H : Hp) (C : Addr) (cc : List (Str × Addr)) (fp : List Addr), PI (X.blk s H scope (compEnvC scope cc C X.env) fp) tg2 iter2 (tI X.K cl (fun _ _ _ _ => False) fl1 fl1 false its2))
    (hg2 : ∀ (s : Shared) (H : Hp) (C : Addr) (cc : List (Str × Addr)) (fp : List Addr), PG (X.blk s H scope (compEnvC scope cc C X.env) fp) tg2 (gD X.K fl1 t2))
    (ht : ∀ (s : Shared) (H : Hp) (C : Addr) (cc : List (Str × Addr)) (fp : List Addr), PTs (X.blk s H scope (compEnvC scope cc C X.env) fp) ifs (tT X.K cl (fun _ _ _ _ => False) fl1 fl1 fc))
    (he : ∀ (s : Shared) (H : Hp) (C : Addr) (cc : List (Str × Addr)) (fp : List Addr), PE (X.blk s H scope (compEnvC scope cc C X.env) fp) elt (tE X.K cl (fun _ _ _ _ => False) fl1 fl1 o1 false fe)) :
    LcOk X (.ListComp elt [⟨tg, iter, [], 0⟩, ⟨tg2, iter2, ifs, 0⟩] scope pos) (tE X.K cl W fl fl1 true false fun e => (its e).bind fun l => (lcGo (fLc2 (own.map (·.2)) t its2 own2 t2 fc fe e) l).bind fun ys => grd (fitL ys.length) (.ok (.list ys))) := by
  have imp : ∀ σ H Q, (tE X.K cl W fl fl1 true false fun e => (its e).bind fun l => (lcGo (fLc2 (own.map (·.2)) t its2 own2 t2 fc fe e) l).bind fun ys => grd (fitL ys.length) (.ok (.list ys))) σ H Q →
      tLc2 (tI X.K cl W fl fl1 b1 its) (gD X.K fl1 t) (tT X.K cl (fun _ _ _ _ => False) fl1 fl1 fun _ => .ok true) (tI X.K cl (fun _ _ _ _ => False) fl1 fl1 false its2) (gD X.K fl1 t2) (tT X.K cl (fun _ _ _ _ => False) fl1 fl1 fc) (tE X.K cl (fun _ _ _ _ => False) fl1 fl1 o1 false fe) (own.map (·.2)) own2 σ H Q := fun σ H Q q => lc2_imp ho ho2 hv fo ft ft2 q
  exact ⟨(pe_lc2 hc hN hi ok hv hg (fun s H C cc fp => (show PTs (X.blk s H scope (compEnvC scope cc C X.env) fp) [] (tT X.K cl (fun _ _ _ _ => False) fl1 fl1 fun _ => .ok true) from pts_none)) hi2 hg2 ht he hs hs2).imp imp, fun i y py spos h1 h2 h3 => (ps_setLc2 hc hN h1 h2 h3 hi ok hv hg (fun s H C cc fp => (show PTs (X.blk s H scope (compEnvC scope cc C X.env) fp) [] (tT X.K cl (fun _ _ _ _ => False) fl1 fl1 fun _ => .ok true) from pts_none)) hi2 hg2 ht he hs hs2).imp fun D σ H q => imp _ _ _ q⟩
end
end Mt
/-! Part J: an expression's tree against its reading, and what that gives. -/
namespace Mt
open PySem PySem.Spec PyProof.Rows L2

inductive Nd where
  | e (a : Expr)
  | l (es : List Expr)
/-- the errors of a text: their base, the classes that are raised, the def that names them, its slots, its words -/
structure XT where
  on : Bool := false
  base : Str := ""
  cls : List Str := []
  nm : Str := ""
  nsl : List Str := []
  ws : List (Str × Str) := []
structure SC where
  N : List Str
  sc : Scope
  fn : Str → Bool
  cs : List (Str × D)
  fs : List (Str × Nat × Bool)
  gc : Bool := false
  xt : XT := {}

/-! ### what a reading reads, owns, lends -/
def rds : E → List Nat
  | .var i => [i]
  | .bin _ a b => rds a ++ rds b
  | .neg a => rds a
  | .cmp _ a b => rds a ++ rds b
  | .chn _ a b _ c => (rds a ++ rds b) ++ rds c
  | .and a b => rds a ++ rds b
  | .or a b => rds a ++ rds b
  | .one a => rds a
  | .not a => rds a
  | .ite c a b => rds c ++ (rds a ++ rds b)
  | .cons a r => rds a ++ rds r
  | .tup es => rds es
  | .lst es => rds es
  | .lsts a es => rds a ++ rds es
  | .idx a b => rds a ++ rds b
  | .slc a l h => (rds a ++ rds l) ++ rds h
  | .call _ es => rds es
  | .blt _ es => rds es
  | .dsp _ a es => rds a ++ rds es
  | .rep a b => rds a ++ rds b
  | .gcd es => rds es
  | .sidx a b => rds a ++ rds b
  | .lidx a b => rds a ++ rds b
  | .lst1s a b => rds a ++ rds b
  | .lens a => rds a
  | .sset a => rds a
  | .rev a => rds a
  | .dg _ a => rds a
  | .chn3 _ a b _ c _ d => ((rds a ++ rds b) ++ rds c) ++ rds d
  | .lc _ src _ cond elt own => rds src ++ (own ++ (rds cond ++ rds elt))
  | .lc2 _ src _ _ src2 _ cond elt own _ => rds src ++ (own ++ (rds src2 ++ (rds cond ++ rds elt)))
  | .dc1 a b => rds a ++ rds b
  | .dcc _ src _ cond kx vx own => rds src ++ (own ++ (rds cond ++ (rds kx ++ rds vx)))
  | _ => []
def borE : E → Bool
  | .bor _ => true
  | .one a => borE a
  | .cons a r => borE a || borE r
  | _ => false
def dspO (fs : List (Str × Nat × Bool)) : List Nat → Bool
  | [] => false
  | j :: _ => match fs[j]? with
    | some p => p.2.2
    | none => false
def ownE (fs : List (Str × Nat × Bool)) : E → Bool
  | .int _ => true
  | .str _ => true
  | .bl _ => true
  | .non => true
  | .bin _ _ _ => true
  | .neg _ => true
  | .cmp _ _ _ => true
  | .chn _ _ _ _ _ => true
  | .not _ => true
  | .one a => ownE fs a
  | .tup _ => true
  | .lst _ => true
  | .lsts _ _ => true
  | .emp => true
  | .slc _ _ _ => true
  | .blt _ _ => true
  | .rep _ _ => true
  | .gcd _ => true
  | .sidx _ _ => true
  | .lidx _ _ => true
  | .lst1s _ _ => true
  | .lens _ => true
  | .sset _ => true
  | .rev _ => true
  | .dsp js _ _ => dspO fs js
  | .dg _ _ => true
  | .chn3 _ _ _ _ _ _ _ => true
  | .call f _ => match fs[f]? with
    | some p => p.2.2
    | none => false
  | .lc _ _ _ _ _ _ => true
  | .lc2 _ _ _ _ _ _ _ _ _ _ => true
  | .dc1 _ _ => true
  | .dcc _ _ _ _ _ _ _ => true
  | _ => false

/-! ### the checks -/
def dbg (x : Str) : Bool := !(x == ("__debug__" : Str)) && !(x == ("__classdict__" : Str))
def SC.vis (c : SC) (i : Nat) (x : Str) : Bool := c.N[i]? == some x && (c.sc.names.lookup x == some .local || (c.sc.names.lookup x == some .cell || c.sc.names.lookup x == some .free)) && dbg x
def SC.loc (c : SC) (i : Nat) (x : Str) : Bool := c.N[i]? == some x && (c.sc.names.lookup x == some .local || c.sc.names.lookup x == some .cell) && (c.fn x || c.sc.names.lookup x == some .local)
def SC.gl (c : SC) (x : Str) : Bool := c.sc.names.lookup x == some .globalImplicit && dbg x
def noStar : Expr → Bool
  | .Starred .. => false
  | _ => true
def noSlice : Expr → Bool
  | .Slice .. => false
  | .Name .. => true
  | .Constant .. => true
  | .BinOp .. => true
  | .UnaryOp .. => true
  | .Subscript .. => true
  | .Call .. => true
  | _ => false
def noCall : Expr → Bool
  | .Call .. => false
  | _ => true
def noSet : Expr → Bool
  | .Set .. => false
  | _ => true
def testy : Expr → Bool
  | .UnaryOp .. => false
  | .BoolOp .. => false
  | .IfExp .. => false
  | .Compare .. => false
  | _ => true
def isComp : Expr → Bool
  | .ListComp .. => true
  | .SetComp .. => true
  | .DictComp .. => true
  | _ => false
/-- name = e on one line -/
def setOk (c : SC) (y : Str) (py : Pos) : Expr → Bool
  | .ListComp _ _ scope pos => decide (c.sc.kind = .function) && ((c.sc.names.lookup y == some .local && py.line == pos.line && !(scope.names.any fun (n, k) => n == y && (k == .local || k == .cell))) || c.sc.names.lookup y == some .cell)
  | e => !isComp e
def isBool : Expr → Bool
  | .BoolOp .. => true
  | _ => false
def SC.blk (c : SC) (scope : Scope) : SC := { c with sc := relS scope c.sc, fn := fun x => scope.names.lookup x == some .cell }
def ownN (N : List Str) (own : List Nat) : List (Str × Nat) := own.map fun i => (match N[i]? with | some x => x | none => "", i)
def SC.blkOk (c : SC) (scope : Scope) (own : List Nat) : Bool :=
  decide (scope.kind = .function) && scope.names.all (fun y => scope.names.lookup y.1 == some y.2) && own.all (fun i => decide (i < c.N.length)) &&
  scope.names.all (fun y => !(y.2 == .free) || (c.sc.names.lookup y.1 == some .cell || c.sc.names.lookup y.1 == some .free)) &&
  scope.names.all (fun y => !(y.2 == .local || y.2 == .cell) || (own.any (fun i => c.N[i]? == some y.1) || !c.N.contains y.1))
def sub (l m : List Nat) : Bool := l.all fun i => m.contains i
mutual
def chkT (c : SC) : T → Expr → Bool
  | .nm i, .Name x _ => c.loc i x
  | .tup n ts, .Tuple xs _ _ => xs.length == n && chkTs c ts xs
  | _, _ => false
def chkTs (c : SC) : T → List Expr → Bool
  | .nil, [] => true
  | .cons a b, x :: xs => noStar x && chkT c a x && chkTs c b xs
  | _, _ => false
end
def optOk (lo : E) (l : Option Expr) (ch : Nd → Bool) : Bool := match l with
  | none => lo.isNo
  | some l => !lo.isNo && ch (.e l)
def isTup : Expr → Bool
  | .Tuple .. => true
  | _ => false
def itOk (c : SC) (k : ItK) (t it : Expr) (bo : Bool) (ch : Nd → Bool) : Bool := noSet it && match k, it with
  | .seq, it => ch (.l [it])
  | .rng1, .Call (.Name r _) [a1] [] _ => r == "range" && c.gl r && noStar a1 && ch (.l [a1])
  | .enum, .Call (.Name r _) [a1] [] _ => r == "enumerate" && !bo && isTup t && c.gl r && noStar a1 && ch (.l [a1])
  | .zip, .Call (.Name r _) [a1, a2] [] _ => r == "zip" && !bo && isTup t && c.gl r && noStar a1 && noStar a2 && ch (.l [a1, a2])
  | .rng2, .Call (.Name r _) [a1, a2] [] _ => r == "range" && c.gl r && noStar a1 && noStar a2 && ch (.l [a1, a2])
  | _, _ => false
def isYes : E → Bool
  | .bl true => true
  | _ => false
def ifsOk (cond : E) (ifs : List Expr) (ch : Nd → Bool) : Bool := match ifs with
  | [] => isYes cond
  | [f] => ch (.e f)
  | _ => false
def SC.blt (c : SC) (b : Blt) (x : Str) : Bool := x == b.nm && c.gl x
def SC.fun_ (c : SC) (f : Nat) (x : Str) : Bool := (match c.fs[f]? with
    | some p => p.1 == x
    | none => false) && c.gl x
def SC.dsps (c : SC) (o : Bool) : List Nat → List Expr → Bool
  | [], [] => true
  | j :: js, .Name x _ :: xs => c.fun_ j x && (match c.fs[j]? with
    | some p => p.2.2 == o
    | none => false) && c.dsps o js xs
  | _, _ => false
def SC.con (c : SC) (j : Nat) (x : Str) : Bool := (match c.cs[j]? with
    | some p => p.1 == x
    | none => false) && c.gl x
def chk : E → SC → Nd → Bool
  | .int i, _, .e (.Constant (.int j) _ _) => i == j
  | .str s, _, .e (.Constant (.str t) _ _) => s == t
  | .bl b, _, .e (.Constant (.bool t) _ _) => b == t
  | .non, _, .e (.Constant .none _ _) => true
  | .var i, c, .e (.Name x _) => c.vis i x
  | .bor i, c, .e (.Name x _) => c.vis i x
  | .glb j, c, .e (.Name x _) => c.con j x
  | .bin o a b, c, .e (.BinOp x op y _) => decide (op = o.op) && chk a c (.e x) && chk b c (.e y)
  | .neg a, c, .e (.UnaryOp .USub x _) => chk a c (.e x)
  | .cmp o a b, c, .e (.Compare x [op] [y] _) => decide (op = o.op) && !behindInMarks op y && chk a c (.e x) && chk b c (.e y)
  | .chn o a b o2 d, c, .e (.Compare x [p, q] [y, z] _) => decide (p = o.op) && decide (q = o2.op) && !lastMarks [p, q] [y, z] && chk a c (.e x) && chk b c (.e y) && chk d c (.e z)
  | .and a b, c, .e (.BoolOp .And (x :: y :: r) pos) => !borE a && !borE b && chk a c (.e x) && chk b c (.e (.BoolOp .And (y :: r) pos))
  | .or a b, c, .e (.BoolOp .Or (x :: y :: r) pos) => !borE a && !borE b && chk a c (.e x) && chk b c (.e (.BoolOp .Or (y :: r) pos))
  | .one a, c, .e (.BoolOp _ [x] _) => chk a c (.e x)
  | .not a, c, .e (.UnaryOp .Not x _) => chk a c (.e x)
  | .ite t a b, c, .e (.IfExp x y z _) => !borE a && !borE b && chk t c (.e x) && chk a c (.e y) && chk b c (.e z)
  | .nil, _, .l [] => true
  | .cons a r, c, .l (x :: es) => noStar x && chk a c (.e x) && chk r c (.l es)
  | .tup es, c, .e (.Tuple xs _ _) => !borE es && chk es c (.l xs)
  | .lst es, c, .e (.List xs _) => !borE es && chk es c (.l xs)
  | .lsts a es, c, .e (.List (.Starred x _ :: xs) _) => !borE es && chk a c (.e x) && chk es c (.l xs)
  | .emp, _, .e (.Dict [] [] _) => true
  | .idx a b, c, .e (.Subscript x y _) => noSlice y && chk a c (.e x) && chk b c (.e y)
  | .slc a lo hi, c, .e (.Subscript x (.Slice l h none _) _) => chk a c (.e x) && optOk lo l (fun n => chk lo c n) && optOk hi h (fun n => chk hi c n)
  | .call f es, c, .e (.Call (.Name x _) (y :: ys) [] _) => c.fun_ f x && !borE es && chk es c (.l (y :: ys))
  | .blt b es, c, .e (.Call (.Name x _) (y :: ys) [] _) => c.blt b x && chk es c (.l (y :: ys))
  | .dsp js a es, c, .e (.Call (.Subscript (.List xs _) x _) (y :: ys) [] _) => c.dsps (dspO c.fs js) js xs && decide (js.length ≤ 1000) && noSlice x && !borE es && chk a c (.e x) && chk es c (.l (y :: ys))
  | .rep a b, c, .e (.BinOp x .Mult y _) => ownE c.fs a && !borE a && chk a c (.e x) && chk b c (.e y)
  | .gcd es, c, .e (.Call (.Name x _) (y :: ys) [] _) => x == "gcd" && c.gc && c.gl x && chk es c (.l (y :: ys))
  | .sidx a b, c, .e (.Call (.Attribute x m ap) [y] [] pos) => m == "index" && noCall x && ap.endLine == pos.line && noStar y && chk a c (.e x) && chk b c (.e y)
  | .lidx a b, c, .e (.Call (.Attribute x m ap) [y] [] pos) => m == "index" && noCall x && ap.endLine == pos.line && noStar y && chk a c (.e x) && chk b c (.e y)
  | .lst1s a b, c, .e (.List [x, .Starred y _] _) => noStar x && !borE a && chk a c (.e x) && chk b c (.e y)
  | .lens a, c, .e (.Call (.Name l _) [.Call (.Name s _) [x] [] _] [] _) => l == "len" && s == "set" && c.gl l && c.gl s && noStar x && chk a c (.e x)
  | .sset a, c, .e (.Call (.Name l _) [.Call (.Name s _) [x] [] _] [] _) => l == "sorted" && s == "set" && c.gl l && c.gl s && noStar x && chk a c (.e x)
  | .rev a, c, .e (.Subscript x (.Slice none none (some (.UnaryOp .USub (.Constant (.int 1) _ _) _)) _) _) => chk a c (.e x)
  | .dg kvs b, c, .e (.Call (.Attribute (.Dict ks vs dp) m ap) [y] [] pos) => m == "get" && dgOk kvs ks vs && !kvs.isEmpty && decide (kvs.length ≤ 15) && ap.endLine == pos.line && noStar y && chk b c (.e y)
  | .chn3 o1 a b o2 d o3 g, c, .e (.Compare x [p1, p2, p3] [y, z, w] _) => decide (p1 = o1.op) && decide (p2 = o2.op) && decide (p3 = o3.op) && !lastMarks [p1, p2, p3] [y, z, w] && chk a c (.e x) && chk b c (.e y) && chk d c (.e z) && chk g c (.e w)
  | .lc k src tg cond elt own, c, .e (.ListComp x [⟨t, it, ifs, 0⟩] scope _) => itOk c k t it (borE src) (fun n => chk src c n) && c.blkOk scope own && sub tg.slots own && chkT (c.blk scope) tg t && ifsOk cond ifs (fun n => chk cond (c.blk scope) n) && !borE elt && chk elt (c.blk scope) (.e x)
  | .lc2 k src tg k2 src2 tg2 cond elt own own2, c, .e (.ListComp x [⟨t, it, [], 0⟩, ⟨t2, it2, ifs, 0⟩] scope _) => itOk c k t it (borE src) (fun n => chk src c n) && itOk (c.blk scope) k2 t2 it2 (borE src2) (fun n => chk src2 (c.blk scope) n) && !borE src2 && c.blkOk scope own &&
      sub tg.slots own && sub tg2.slots own2 && sub own2 own && chkT (c.blk scope) tg t && chkT (c.blk scope) tg2 t2 && ifsOk cond ifs (fun n => chk cond (c.blk scope) n) && !borE elt && chk elt (c.blk scope) (.e x)
  | .dc1 a b, c, .e (.Dict [some x] [y] _) => !borE a && !borE b && chk a c (.e x) && chk b c (.e y)
  | .dcc k src tg cond kx vx own, c, .e (.DictComp x y [⟨t, it, ifs, 0⟩] scope _) => itOk c k t it (borE src) (fun n => chk src c n) && c.blkOk scope own && sub tg.slots own && chkT (c.blk scope) tg t && ifsOk cond ifs (fun n => chk cond (c.blk scope) n) && !borE kx && !borE vx && chk kx (c.blk scope) (.e x) && chk vx (c.blk scope) (.e y)
  | _, _, _ => false

structure CtxOk (X : Cx) (cl : Cls) (W : WX) (c : SC) (cal : Nat → List D → R D) : Prop where
  hN : X.N = c.N
  nd : c.N.Nodup
  calm : X.calm = true
  sc : X.env.scope = c.sc
  fn : X.fn = c.fn
  un : X.A.units + 65 < cLine
  gd : X.A.guards = some []
  tk : L2N.Takes X W
  fs : ∀ (j : Nat) (x : Str) n own, c.fs[j]? = some (x, n, own) → FnIn X cl x own n (cal j) ∧ (∀ ds d, cal j ds = .ok d → ds.length = n) ∧ (∀ ds c a, cal j ds = .exc c a → ds.length = n)
  cs : ∀ (j : Nat) (x : Str) d, c.cs[j]? = some (x, d) → ∃ v u, X.mg x = some u ∧ RelV v u ∧ ∀ G, Rp X.K G v d
  bt : ∀ b : Blt, X.mg b.nm = none
  rg : X.mg "range" = none
  en : X.mg "enumerate" = none
  zp : X.mg "zip" = none
  gc : c.gc = true → X.mg "gcd" = some (.builtin "math.gcd")
def Good (X : Cx) (cl : Cls) (W : WX) (c : SC) (cal : Nat → List D → R D) (e : E) : Nd → Prop
  | .e a => (∀ fl, PE X a (tE X.K cl W fl (dn (rds e) fl) (ownE c.fs e) (borE e) (evE (c.cs.map (·.2)) cal e))) ∧
      (∀ fl, PT X a (tT X.K cl W fl (dn (rds e) fl) fun s => (evE (c.cs.map (·.2)) cal e s).bind truthy)) ∧
      (isBool a = true → ∀ fl, PW X a (tT X.K cl W fl (dn (rds e) fl) fun s => (evE (c.cs.map (·.2)) cal e s).bind truthy)) ∧
      ∀ fl i y py spos, c.loc i y = true → setOk c y py a = true → PS X (.Assign [.Name y py] a spos) (tAsg (tE X.K cl W fl (dn (rds e) fl) (ownE c.fs e) (borE e) (evE (c.cs.map (·.2)) cal e)) (gName i))
  | .l es => (∀ fl, PA X es (tA X.K cl W fl (dn (rds e) fl) (borE e) (evE (c.cs.map (·.2)) cal e))) ∧
      ∀ x, es = [x] → ∃ o b, (∀ fl, PE X x (tE X.K cl W fl (dn (rds e) fl) o (borE e) b)) ∧ ∀ s, (evE (c.cs.map (·.2)) cal e s).bind unL = (b s).bind fun d => .ok [d]
theorem takesNo {X : Cx} : L2N.Takes X (fun _ _ _ _ => False) := fun _ _ ⟨_, _, _, _, _, _, _, _, _, _, _, _, _, _, _, _, z⟩ => z.elim
theorem CtxOk.blk {X : Cx} {cl : Cls} {W : WX} {c : SC} {cal : Nat → List D → R D} (h : CtxOk X cl W c cal) (s : Shared) (H : Hp) (scope : Scope) (cc : List (Str × Addr)) (C : Addr) (fp : List Addr) :
    CtxOk (X.blk s H scope (compEnvC scope cc C X.env) fp) cl (fun _ _ _ _ => False) (c.blk scope) cal where
  hN := h.hN
  nd := h.nd
  calm := h.calm
  sc := by
    show relS scope X.env.scope = relS scope c.sc
    rw [h.sc]
  fn := rfl
  un := h.un
  gd := h.gd
  tk := takesNo
  fs := h.fs
  cs := h.cs
  bt := h.bt
  rg := h.rg
  en := h.en
  zp := h.zp
  gc := h.gc
theorem vis_ok {X : Cx} {cl : Cls} {W : WX} {c : SC} {cal : Nat → List D → R D} (h : CtxOk X cl W c cal) {i : Nat} {x : Str} (e : c.vis i x = true) {pos : Pos} : PE X (.Name x pos) (tVar i) := by
  unfold SC.vis dbg at e
  simp only [Bool.and_eq_true, Bool.or_eq_true, beq_iff_eq, Bool.not_eq_true'] at e
  obtain ⟨⟨e1, e2⟩, e3, e4⟩ := e
  exact pe_var (by rw [h.hN]; exact e1) (by rw [h.sc]; exact e2) e3 e4
theorem gl_ok {X : Cx} {cl : Cls} {W : WX} {c : SC} {cal : Nat → List D → R D} (h : CtxOk X cl W c cal) {x : Str} (e : c.gl x = true) : Gl X x ∧ (x == ("__debug__" : Str)) = false := by
  unfold SC.gl dbg at e
  simp only [Bool.and_eq_true, beq_iff_eq, Bool.not_eq_true'] at e
  exact ⟨by unfold Gl Env.kindOf; rw [h.sc]; exact e.1, e.2.1⟩
theorem loc_ok {X : Cx} {cl : Cls} {W : WX} {c : SC} {cal : Nat → List D → R D} (x : CtxOk X cl W c cal) {i : Nat} {y : Str} (h : c.loc i y = true) : X.N[i]? = some y ∧ L2.Loc X.env.scope y ∧ (X.fn y = true ∨ X.env.scope.names.lookup y = some .local) := by
  unfold SC.loc at h
  simp only [Bool.and_eq_true, Bool.or_eq_true, beq_iff_eq] at h
  obtain ⟨⟨h1, h2⟩, h3⟩ := h
  exact ⟨by rw [x.hN]; exact h1, by unfold L2.Loc; rw [x.sc]; exact h2, by rw [x.fn, x.sc]; exact h3⟩
theorem sw_none {e : Expr} (h : isComp e = false) (t : Option Expr) (l : Nat) (env : Env) : swapsWith e t l env = pure false := by
  cases e <;> first | rfl | cases h
theorem st_plain {X : Cx} {cl : Cls} {W : WX} {c : SC} {cal : Nat → List D → R D} (x : CtxOk X cl W c cal) {a : Expr} {t : TE} (h : PE X a t) (hc : isComp a = false) (i : Nat) (y : Str) (py spos : Pos) (hl : c.loc i y = true) : PS X (.Assign [.Name y py] a spos) (tAsg t (gName i)) := by
  obtain ⟨h1, h2, h3⟩ := loc_ok x hl
  exact ps_set (by rw [x.hN]; exact x.nd) h1 h2 h (sw_none hc _ _ _) h3
end Mt
/-! Part K: a checked reading is a reading. -/
namespace Mt
open PySem PySem.Spec PyProof.Rows L2

theorem and_of {a b : Bool} (h : (a && b) = true) : a = true ∧ b = true := by rwa [Bool.and_eq_true] at h
theorem not_of' {a : Bool} (h : (!a) = true) : a = false := by
  cases a
  · rfl
  · cases h
theorem dn_comm (is js : List Nat) (fl : List Bool) : dn is (dn js fl) = dn (js ++ is) fl := (dn_app js is fl).symm
theorem dn_get : ∀ {is : List Nat} {fl : List Bool} {i : Nat}, (dn is fl)[i]? = if i ∈ is then (fl[i]?).map (fun _ => false) else fl[i]?
  | [], _, _ => by simp [dn]
  | j :: is, fl, i => by
    show (dn is (fl.set j false))[i]? = _
    rw [dn_get]
    by_cases hj : j = i
    · subst hj
      rw [List.getElem?_set_self']
      by_cases hi : j ∈ is
      · rw [if_pos hi, if_pos (by simp)]
        cases fl[j]? <;> rfl
      · rw [if_neg hi, if_pos (by simp)]
        cases fl[j]? <;> rfl
    · rw [List.getElem?_set_ne hj]
      by_cases hi : i ∈ is
      · rw [if_pos hi, if_pos (by simp [hi])]
      · rw [if_neg hi, if_neg (by simp [hi]; exact fun z => hj z.symm)]
theorem dn_ext {is js : List Nat} {fl : List Bool} (h : ∀ i, i ∈ is ↔ i ∈ js) : dn is fl = dn js fl := by
  apply List.ext_getElem?
  intro i
  rw [dn_get, dn_get]
  by_cases hi : i ∈ is
  · rw [if_pos hi, if_pos ((h i).mp hi)]
  · rw [if_neg hi, if_neg fun z => hi ((h i).mpr z)]
theorem dn_swap (is js : List Nat) (fl : List Bool) : dn (is ++ js) fl = dn (js ++ is) fl := dn_ext fun i => by simp [or_comm]
theorem sub_ok {l m : List Nat} (h : sub l m = true) : ∀ i ∈ l, i ∈ m := fun i hi => by
  unfold sub at h
  rw [List.all_eq_true] at h
  simpa using h i hi
theorem testy_ok {a : Expr} (h : testy a = true) (env : Env) : ∀ whole, isTrue a env whole = (do let v ← whole; standAt a.pos; holding [v] (PySem.truthy v)) := by
  intro whole
  cases a <;> first | rfl | cases h
theorem noStar_ok {a : Expr} (h : noStar a = true) (es : List Expr) (env : Env) : starEach (a :: es) env = (false, eval a env) :: starEach es env := by
  cases a <;> first | rfl | cases h
theorem stars_ok : ∀ {e : E} {c : SC} {es : List Expr}, chk e c (.l es) = true → ∀ (pos : Pos) (env : Env), (backTo pos (starEach es env)).any (·.1) = false
  | .nil, c, [], h, pos, env => rfl
  | .cons a r, c, x :: es, h, pos, env => by
    have h : (noStar x && chk a c (.e x) && chk r c (.l es)) = true := h
    obtain ⟨h1, h3⟩ := and_of h
    rw [noStar_ok (and_of h1).1]
    show (false || (backTo pos (starEach es env)).any (·.1)) = false
    rw [stars_ok h3 pos env]
    rfl
  | .nil, c, x :: es, h, _, _ => by cases h
  | .cons a r, c, [], h, _, _ => by cases h
  | .int _, _, _, h, _, _ => by cases h
  | .str _, _, _, h, _, _ => by cases h
  | .bl _, _, _, h, _, _ => by cases h
  | .non, _, _, h, _, _ => by cases h
  | .noE, _, _, h, _, _ => by cases h
  | .var _, _, _, h, _, _ => by cases h
  | .bor _, _, _, h, _, _ => by cases h
  | .glb _, _, _, h, _, _ => by cases h
  | .bin _ _ _, _, _, h, _, _ => by cases h
  | .neg _, _, _, h, _, _ => by cases h
  | .cmp _ _ _, _, _, h, _, _ => by cases h
  | .chn _ _ _ _ _, _, _, h, _, _ => by cases h
  | .and _ _, _, _, h, _, _ => by cases h
  | .or _ _, _, _, h, _, _ => by cases h
  | .one _, _, _, h, _, _ => by cases h
  | .not _, _, _, h, _, _ => by cases h
  | .ite _ _ _, _, _, h, _, _ => by cases h
  | .tup _, _, _, h, _, _ => by cases h
  | .lst _, _, _, h, _, _ => by cases h
  | .idx _ _, _, _, h, _, _ => by cases h
  | .slc _ _ _, _, _, h, _, _ => by cases h
  | .call _ _, _, _, h, _, _ => by cases h
  | .blt _ _, _, _, h, _, _ => by cases h
  | .rep _ _, _, _, h, _, _ => by cases h
  | .gcd _, _, _, h, _, _ => by cases h
  | .sidx _ _, _, _, h, _, _ => by cases h
  | .lidx _ _, _, _, h, _, _ => by cases h
  | .lst1s _ _, _, _, h, _, _ => by cases h
  | .lens _, _, _, h, _, _ => by cases h
  | .sset _, _, _, h, _, _ => by cases h
  | .rev _, _, _, h, _, _ => by cases h
  | .dg _ _, _, _, h, _, _ => by cases h
  | .chn3 _ _ _ _ _ _ _, _, _, h, _, _ => by cases h
  | .lc _ _ _ _ _ _, _, _, h, _, _ => by cases h
  | .lc2 _ _ _ _ _ _ _ _ _ _, _, _, h, _, _ => by cases h
  | .dc1 _ _, _, _, h, _, _ => by cases h
  | .dcc _ _ _ _ _ _ _, _, _, h, _, _ => by cases h
theorem tail_ok {e : E} {c : SC} {y : Expr} {ys : List Expr} (h : chk e c (.l (y :: ys)) = true) (pos : Pos) (env : Env) : starEach (y :: ys) env = (false, eval y env) :: starEach ys env ∧ (backTo pos (starEach ys env)).any (·.1) = false := by
  cases e with
  | cons a r =>
    have h : (noStar y && chk a c (.e y) && chk r c (.l ys)) = true := h
    obtain ⟨h1, h3⟩ := and_of h
    exact ⟨noStar_ok (and_of h1).1 _ _, stars_ok h3 _ _⟩
  | _ => cases h

section
variable {X : Cx} {cl : Cls} {W : WX} {c : SC} {cal : Nat → List D → R D}
theorem ok_e {e : E} {a : Expr} (k : CtxOk X cl W c cal) (hp : ∀ fl, PE X a (tE X.K cl W fl (dn (rds e) fl) (ownE c.fs e) (borE e) (evE (c.cs.map (·.2)) cal e))) (ht : testy a = true) (hc : isComp a = false) : Good X cl W c cal e (.e a) :=
  ⟨hp, fun fl => t_val (hp fl) (testy_ok ht X.env), fun hb => by cases a <;> first | (cases hb; done) | (cases ht; done), fun fl i y py spos hl _ => st_plain k (hp fl) hc i y py spos hl⟩
theorem ok_t {e : E} {a : Expr} (k : CtxOk X cl W c cal) (hp : ∀ fl, PE X a (tE X.K cl W fl (dn (rds e) fl) (ownE c.fs e) (borE e) (evE (c.cs.map (·.2)) cal e)))
    (ht : ∀ fl, PT X a (tT X.K cl W fl (dn (rds e) fl) fun s => (evE (c.cs.map (·.2)) cal e s).bind truthy)) (hn : isBool a = false) (hc : isComp a = false) : Good X cl W c cal e (.e a) := ⟨hp, ht, (fun hb => by rw [hn] at hb; cases hb), fun fl i y py spos hl _ => st_plain k (hp fl) hc i y py spos hl⟩
theorem ok_b {e : E} {a : Expr} (k : CtxOk X cl W c cal) (hp : ∀ fl, PE X a (tE X.K cl W fl (dn (rds e) fl) (ownE c.fs e) (borE e) (evE (c.cs.map (·.2)) cal e)))
    (hw : ∀ fl, PW X a (tT X.K cl W fl (dn (rds e) fl) fun s => (evE (c.cs.map (·.2)) cal e s).bind truthy)) (hc : isComp a = false) : Good X cl W c cal e (.e a) := ⟨hp, fun fl => (hw fl).pt, fun _ => hw, fun fl i y py spos hl _ => st_plain k (hp fl) hc i y py spos hl⟩
/-- a comprehension -/
theorem ok_l {e : E} {a : Expr} (hp : ∀ fl, LcOk X a (tE X.K cl W fl (dn (rds e) fl) (ownE c.fs e) (borE e) (evE (c.cs.map (·.2)) cal e))) (ht : testy a = true) (x : CtxOk X cl W c cal)
    (hs : ∀ y py spos, setOk c y py a = true → (X.env.scope.names.lookup y = some .local ∧ swapsWith a (some (.Name y py)) spos X.env = pure true) ∨ swapsWith a (some (.Name y py)) spos X.env = pure false) : Good X cl W c cal e (.e a) :=
  ⟨fun fl => (hp fl).pe, fun fl => t_val (hp fl).pe (testy_ok ht X.env), fun hb => by cases a <;> first | (cases hb; done) | (cases ht; done), fun fl i y py spos hl hk => by
    rcases hs y py spos.line hk with ⟨h1, h2⟩ | h2
    · exact (hp fl).st i y py spos (loc_ok x hl).1 h1 h2
    · obtain ⟨l1, l2, l3⟩ := loc_ok x hl
      exact ps_set (by rw [x.hN]; exact x.nd) l1 l2 (hp fl).pe h2 l3⟩
theorem lc_sw {x : Expr} {gs : List Comprehension} {scope : Scope} {pos : Pos} (k : CtxOk X cl W c cal) : ∀ y py spos, setOk c y py (.ListComp x gs scope pos) = true →
    (X.env.scope.names.lookup y = some .local ∧ swapsWith (.ListComp x gs scope pos) (some (.Name y py)) spos X.env = pure true) ∨ swapsWith (.ListComp x gs scope pos) (some (.Name y py)) spos X.env = pure false := fun y py spos h => by
  obtain ⟨h1, h⟩ := and_of (show (decide (c.sc.kind = .function) && ((c.sc.names.lookup y == some .local && py.line == pos.line && !(scope.names.any fun (n, k) => n == y && (k == .local || k == .cell))) || c.sc.names.lookup y == some .cell)) = true from h)
  have h1 := of_decide_eq_true h1
  rcases Bool.or_eq_true_iff.mp h with h | h
  · simp only [Bool.and_eq_true, beq_iff_eq, Bool.not_eq_true'] at h
    obtain ⟨⟨h2, h3⟩, h4⟩ := h
    exact .inl ⟨by rw [k.sc]; exact h2, sw_true (by rw [k.sc]; exact h1) (by rw [k.sc]; exact h2) (by rw [h3]; exact beq_self_eq_true _) h4⟩
  · refine .inr ?_
    have ky : X.env.kindOf y = some .cell := by unfold Env.kindOf; rw [k.sc]; exact eq_of_beq h
    have hb : X.env.blockKind = .function := by unfold Env.blockKind; rw [k.sc, h1]; rfl
    unfold swapsWith
    simp only [hb, ky]
    rfl
end
section
variable {X : Cx} {cl : Cls} {W : WX} {c : SC} {cal : Nat → List D → R D}
theorem one_of {a : E} {x : Expr} (h : Good X cl W c cal a (.e x)) (r : E) (hr : r = .nil) : ∃ o b, (∀ fl, PE X x (tE X.K cl W fl (dn (rds (.cons a r)) fl) o (borE (.cons a r)) b)) ∧ ∀ s, (evE (c.cs.map (·.2)) cal (.cons a r) s).bind unL = (b s).bind fun d => .ok [d] := by
  subst hr
  refine ⟨ownE c.fs a, evE (c.cs.map (·.2)) cal a, fun fl => ?_, fun s => ?_⟩
  · have := h.1 fl
    rw [show rds (.cons a .nil) = rds a from List.append_nil _, show borE (.cons a .nil) = borE a from Bool.or_false _]
    exact this
  · show ((evE (c.cs.map (·.2)) cal a s).bind fun x => ((R.ok (PyData.list []) : R D).bind unL).bind fun xs => R.ok (PyData.list (x :: xs))).bind unL = _
    cases evE (c.cs.map (·.2)) cal a s <;> rfl
end
theorem plain_ok {y : Expr} (h : noSlice y = true) : PlainIx y := by
  intro o i
  cases y <;> first | rfl | cases h
section
variable {cl : Cls} {cal : Nat → List D → R D} {W : WX} {X : Cx} {c : SC}
abbrev Mo (cl : Cls) (cal : Nat → List D → R D) (e : E) (c : SC) (n : Nd) : Prop := chk e c n = true → ∀ (X : Cx) (W : WX), CtxOk X cl W c cal → Good X cl W c cal e n

/-! ### targets -/
theorem asgEach_ok {a : Expr} (h : noStar a = true) (es : List Expr) (env : Env) : assignEach (a :: es) env = (false, assign a env) :: assignEach es env := by
  cases a <;> first | rfl | cases h
theorem asgLen : ∀ {ts : T} {es : List Expr}, chkTs c ts es = true → ∀ env : Env, (assignEach es env).length = es.length ∧ (assignEach es env).findIdx? (·.1) = none
  | .nil, [], _, env => ⟨rfl, rfl⟩
  | .cons a b, x :: xs, h, env => by
    have h : (noStar x && chkT c a x && chkTs c b xs) = true := h
    obtain ⟨h1, h3⟩ := and_of h
    rw [asgEach_ok (and_of h1).1]
    obtain ⟨l, f⟩ := asgLen h3 env
    refine ⟨by simp [l], ?_⟩
    rw [List.findIdx?_cons, f]
    rfl
  | .nil, _ :: _, h, _ => by cases h
  | .cons _ _, [], h, _ => by cases h
  | .nm _, [], h, _ => by cases h
  | .nm _, _ :: _, h, _ => by cases h
  | .tup _ _, [], h, _ => by cases h
  | .tup _ _, _ :: _, h, _ => by cases h
mutual
theorem chkT_ok (x : CtxOk X cl W c cal) : ∀ {t : T} {a : Expr}, chkT c t a = true → ∀ fl, PG X a (gD X.K fl t)
  | .nm i, .Name y _, h, fl => by
    obtain ⟨h1, h2, h3⟩ := loc_ok x (show c.loc i y = true from h)
    exact g_nm (by rw [x.hN]; exact x.nd) h1 h2 h3
  | .tup n ts, .Tuple xs _ _, h, fl => by
    obtain ⟨h1, h2⟩ := and_of (show (xs.length == n && chkTs c ts xs) = true from h)
    obtain ⟨l, f⟩ := asgLen h2 X.env
    exact g_tup x.calm (by rw [l]; exact eq_of_beq h1) f (chkTs_ok x h2 fl)
theorem chkTs_ok (x : CtxOk X cl W c cal) : ∀ {t : T} {es : List Expr}, chkTs c t es = true → ∀ fl, PGs X es (gDs X.K fl t)
  | .nil, [], _, fl => g_nil
  | .cons a b, y :: xs, h, fl => by
    obtain ⟨h1, h3⟩ := and_of (show (noStar y && chkT c a y && chkTs c b xs) = true from h)
    obtain ⟨h1, h2⟩ := and_of h1
    exact g_cons (by rw [asgEach_ok h1]; rfl) (chkT_ok x h2 fl) (chkTs_ok x h3 _)
end

/-! ### each case -/
theorem k_bin {o : BinO} {a b : E} {x y : Expr} {op : Operator} {pos : Pos} (iha : Mo cl cal a c (.e x)) (ihb : Mo cl cal b c (.e y)) : Mo cl cal (.bin o a b) c (.e (.BinOp x op y pos)) := fun h X W k => by
  obtain ⟨h1, h3⟩ := and_of (show (decide (op = o.op) && chk a c (.e x) && chk b c (.e y)) = true from h)
  obtain ⟨h1, h2⟩ := and_of h1
  cases of_decide_eq_true h1
  refine ok_e k (fun fl => ?_) rfl rfl
  rw [show dn (rds (.bin o a b)) fl = _ from dn_app _ _ _]
  exact s_bin o ((iha h2 X W k).1 fl) ((ihb h3 X W k).1 _)
theorem k_neg {a : E} {x : Expr} {pos : Pos} (iha : Mo cl cal a c (.e x)) : Mo cl cal (.neg a) c (.e (.UnaryOp .USub x pos)) := fun h X W k => by
  have g := iha (show chk a c (.e x) = true from h) X W k
  exact ⟨fun fl => s_neg (g.1 fl), fun fl => t_val (o1 := true) (b1 := false) (s_neg (g.1 fl)) (fun _ => rfl), (fun z => nomatch z), fun fl i y py spos hl _ => st_plain k (s_neg (g.1 fl)) rfl i y py spos hl⟩
theorem k_cmp {o : CmpO} {a b : E} {x y : Expr} {op : CmpOp} {pos : Pos} (iha : Mo cl cal a c (.e x)) (ihb : Mo cl cal b c (.e y)) : Mo cl cal (.cmp o a b) c (.e (.Compare x [op] [y] pos)) := fun h X W k => by
  obtain ⟨h1, h3⟩ := and_of (show (decide (op = o.op) && !behindInMarks op y && chk a c (.e x) && chk b c (.e y)) = true from h)
  obtain ⟨h1, h2⟩ := and_of h1
  obtain ⟨h0, h1⟩ := and_of h1
  cases of_decide_eq_true h0
  refine ok_t k (fun fl => ?_) (fun fl => ?_) rfl rfl <;> rw [show dn (rds (.cmp o a b)) fl = _ from dn_app _ _ _]
  · exact s_cmp o k.un (not_of' h1) ((iha h2 X W k).1 fl) ((ihb h3 X W k).1 _)
  · exact t_cmp o k.un (not_of' h1) ((iha h2 X W k).1 fl) ((ihb h3 X W k).1 _)
theorem k_chn {o o2 : CmpO} {a b d : E} {x y z : Expr} {p q : CmpOp} {pos : Pos} (iha : Mo cl cal a c (.e x)) (ihb : Mo cl cal b c (.e y)) (ihd : Mo cl cal d c (.e z)) : Mo cl cal (.chn o a b o2 d) c (.e (.Compare x [p, q] [y, z] pos)) := fun h X W k => by
  obtain ⟨h1, h4⟩ := and_of (show (decide (p = o.op) && decide (q = o2.op) && !lastMarks [p, q] [y, z] && chk a c (.e x) && chk b c (.e y) && chk d c (.e z)) = true from h)
  obtain ⟨h1, h3⟩ := and_of h1
  obtain ⟨h1, h2⟩ := and_of h1
  obtain ⟨h0, h1⟩ := and_of h1
  obtain ⟨hp, hq⟩ := and_of h0
  cases of_decide_eq_true hp
  cases of_decide_eq_true hq
  refine ok_t k (fun fl => ?_) (fun fl => ?_) rfl rfl <;> rw [show dn (rds (.chn o a b o2 d)) fl = dn (rds d) (dn (rds b) (dn (rds a) fl)) from by show dn ((rds a ++ rds b) ++ rds d) fl = _; rw [dn_app, dn_app]]
  · exact s_chn o o2 k.un (not_of' h1) ((iha h2 X W k).1 fl) ((ihb h3 X W k).1 _) ((ihd h4 X W k).1 _)
  · exact t_chn o o2 k.un (not_of' h1) ((iha h2 X W k).1 fl) ((ihb h3 X W k).1 _) ((ihd h4 X W k).1 _)
theorem noBor {fl fl' : List Bool} {own bor : Bool} {f : Sg → R D} {a : Expr} (h : PE X a (tE X.K cl W fl fl' own bor f)) (e : bor = false) : PE X a (tE X.K cl W fl fl' own false f) := by
  subst e
  exact h
theorem noBorA {fl fl' : List Bool} {bor : Bool} {f : Sg → R D} {a : List Expr} (h : PA X a (tA X.K cl W fl fl' bor f)) (e : bor = false) : PA X a (tA X.K cl W fl fl' false f) := by
  subst e
  exact h
theorem k_and {a b : E} {x y : Expr} {r : List Expr} {pos : Pos} (iha : Mo cl cal a c (.e x)) (ihb : Mo cl cal b c (.e (.BoolOp .And (y :: r) pos))) : Mo cl cal (.and a b) c (.e (.BoolOp .And (x :: y :: r) pos)) := fun h X W k => by
  obtain ⟨h1, h4⟩ := and_of (show (!borE a && !borE b && chk a c (.e x) && chk b c (.e (.BoolOp .And (y :: r) pos))) = true from h)
  obtain ⟨h1, h3⟩ := and_of h1
  obtain ⟨h1, h2⟩ := and_of h1
  have ga := iha h3 X W k
  have gb := ihb h4 X W k
  refine ok_b k (fun fl => ?_) (fun fl => ?_) rfl <;> rw [show dn (rds (.and a b)) fl = _ from dn_app _ _ _]
  · exact s_and (noBor (ga.1 fl) (not_of' h1)) (noBor (gb.1 _) (not_of' h2))
  · exact t_and (ga.2.1 fl) (gb.2.2.1 rfl _)
theorem k_or {a b : E} {x y : Expr} {r : List Expr} {pos : Pos} (iha : Mo cl cal a c (.e x)) (ihb : Mo cl cal b c (.e (.BoolOp .Or (y :: r) pos))) : Mo cl cal (.or a b) c (.e (.BoolOp .Or (x :: y :: r) pos)) := fun h X W k => by
  obtain ⟨h1, h4⟩ := and_of (show (!borE a && !borE b && chk a c (.e x) && chk b c (.e (.BoolOp .Or (y :: r) pos))) = true from h)
  obtain ⟨h1, h3⟩ := and_of h1
  obtain ⟨h1, h2⟩ := and_of h1
  have ga := iha h3 X W k
  have gb := ihb h4 X W k
  refine ok_b k (fun fl => ?_) (fun fl => ?_) rfl <;> rw [show dn (rds (.or a b)) fl = _ from dn_app _ _ _]
  · exact s_or (noBor (ga.1 fl) (not_of' h1)) (noBor (gb.1 _) (not_of' h2))
  · exact t_or (ga.2.1 fl) (gb.2.2.1 rfl _)
theorem k_one {a : E} {op : BoolOp} {x : Expr} {pos : Pos} (iha : Mo cl cal a c (.e x)) : Mo cl cal (.one a) c (.e (.BoolOp op [x] pos)) := fun h X W k => by
  have g := iha (show chk a c (.e x) = true from h) X W k
  refine ok_b k (fun fl => ⟨fun pins s σ H Q I q => BoolOp_one ((g.1 fl).run pins s σ H Q I q)⟩) (fun fl => ?_) rfl
  cases op with
  | And => exact pw_and1 (g.2.1 fl)
  | Or => exact pw_or1 (g.2.1 fl)
theorem k_not {a : E} {x : Expr} {pos : Pos} (iha : Mo cl cal a c (.e x)) : Mo cl cal (.not a) c (.e (.UnaryOp .Not x pos)) := fun h X W k => by
  have g := iha (show chk a c (.e x) = true from h) X W k
  exact ok_t k (fun fl => s_not (g.1 fl)) (fun fl => t_not (g.2.1 fl)) rfl rfl
theorem isTrue_if {x y z : Expr} {pos : Pos} {fl : List Bool} {t a b : E} (gt : Good X cl W c cal t (.e x)) (ga : Good X cl W c cal a (.e y)) (gb : Good X cl W c cal b (.e z)) :
    PT X (.IfExp x y z pos) (tT X.K cl W fl (dn (rds (.ite t a b)) fl) fun s => (evE (c.cs.map (·.2)) cal (.ite t a b) s).bind truthy) := ⟨fun pins s σ H Q I q => by
  obtain ⟨G0, B, G, e, sr, p⟩ := q
  show wpAny _ _ (do if ← isTrue x X.env (eval x X.env) then isTrue y X.env (eval y X.env) else isTrue z X.env (eval z X.env)) _ _ _
  refine wpAny_bind (thn ((gt.2.1 fl).run pins s σ H (fun u H1 => if u = true then tT X.K cl W (dn (rds t) fl) (dn (rds a) (dn (rds t) fl)) (fun s => (evE (c.cs.map (·.2)) cal a s).bind truthy) σ H1 Q else tT X.K cl W (dn (rds t) fl) (dn (rds b) (dn (rds t) fl)) (fun s => (evE (c.cs.map (·.2)) cal b s).bind truthy) σ H1 Q) I ⟨G0, B, G, e, sr, ?_⟩) fun u s1 ⟨H1, I1, q1⟩ => ?_)
  · have p : Pst X.K cl W G0 B G e σ H ((((evE (c.cs.map (·.2)) cal t e).bind fun x => (truthy x).bind fun t => if t = true then evE (c.cs.map (·.2)) cal a e else evE (c.cs.map (·.2)) cal b e)).bind truthy) (fun t_1 => ∀ G' H', Same G G' → Same H H' → SR X.K (dn (rds (.ite t a b)) fl) G0 B G' e σ H' → Q t_1 H') := p
    show Pst X.K cl W G0 B G e σ H ((evE (c.cs.map (·.2)) cal t e).bind truthy) _
    cases hk : evE (c.cs.map (·.2)) cal t e with
    | ok x1 =>
      rw [hk] at p
      have p2 : Pst X.K cl W G0 B G e σ H (((truthy x1).bind fun u => if u = true then evE (c.cs.map (·.2)) cal a e else evE (c.cs.map (·.2)) cal b e).bind truthy) (fun t_1 => ∀ G' H', Same G G' → Same H H' → SR X.K (dn (rds (.ite t a b)) fl) G0 B G' e σ H' → Q t_1 H') := p
      show Pst X.K cl W G0 B G e σ H (truthy x1) _
      cases ht : truthy x1 with
      | ok u =>
        rw [ht] at p2
        intro G1 H1 g1 s1 sr1
        cases u with
        | true =>
          rw [if_pos rfl]
          have p3 : Pst X.K cl W G0 B G e σ H ((evE (c.cs.map (·.2)) cal a e).bind truthy) (fun t_1 => ∀ G' H', Same G G' → Same H H' → SR X.K (dn (rds (.ite t a b)) fl) G0 B G' e σ H' → Q t_1 H') := p2
          refine ⟨G0, B, G1, e, sr1, p3.grow g1 s1 fun t1 k2 G2 H2 g2 s2 sr2 => ?_⟩
          obtain ⟨G3, g3, sr3⟩ := sr2.dn (rds b)
          refine k2 G3 H2 ((g1.trans g2).trans g3) (s1.trans s2) ?_
          rw [show dn (rds (.ite t a b)) fl = dn (rds b) (dn (rds a) (dn (rds t) fl)) from by show dn (rds t ++ (rds a ++ rds b)) fl = _; rw [dn_app, dn_app]]
          exact sr3
        | false =>
          rw [if_neg Bool.false_ne_true]
          have p3 : Pst X.K cl W G0 B G e σ H ((evE (c.cs.map (·.2)) cal b e).bind truthy) (fun t_1 => ∀ G' H', Same G G' → Same H H' → SR X.K (dn (rds (.ite t a b)) fl) G0 B G' e σ H' → Q t_1 H') := p2
          refine ⟨G0, B, G1, e, sr1, p3.grow g1 s1 fun t1 k2 G2 H2 g2 s2 sr2 => ?_⟩
          obtain ⟨G3, g3, sr3⟩ := sr2.dn (rds a)
          refine k2 G3 H2 ((g1.trans g2).trans g3) (s1.trans s2) ?_
          rw [show dn (rds (.ite t a b)) fl = dn (rds a) (dn (rds b) (dn (rds t) fl)) from by show dn (rds t ++ (rds a ++ rds b)) fl = _; rw [dn_app, dn_swap, dn_app]]
          exact sr3
      | exc c a => exact absurd ht (truthy_nx x1 c a)
      | stuck => rw [ht] at p2; exact p2.elim
    | exc c a => rw [hk] at p; exact p
    | stuck => rw [hk] at p; exact p.elim
  · cases u with
    | true => exact (ga.2.1 _).run pins s1 σ H1 Q I1 q1
    | false => exact (gb.2.1 _).run pins s1 σ H1 Q I1 q1⟩
theorem k_ite {t a b : E} {x y z : Expr} {pos : Pos} (iht : Mo cl cal t c (.e x)) (iha : Mo cl cal a c (.e y)) (ihb : Mo cl cal b c (.e z)) : Mo cl cal (.ite t a b) c (.e (.IfExp x y z pos)) := fun h X W k => by
  obtain ⟨h1, h5⟩ := and_of (show (!borE a && !borE b && chk t c (.e x) && chk a c (.e y) && chk b c (.e z)) = true from h)
  obtain ⟨h1, h4⟩ := and_of h1
  obtain ⟨h1, h3⟩ := and_of h1
  obtain ⟨h1, h2⟩ := and_of h1
  have gt := iht h3 X W k
  have ga := iha h4 X W k
  have gb := ihb h5 X W k
  refine ok_t k (fun fl => ?_) (fun fl => isTrue_if gt ga gb) rfl rfl
  rw [show dn (rds (.ite t a b)) fl = dn (rds a ++ rds b) (dn (rds t) fl) from dn_app _ _ _]
  exact s_ite (gt.2.1 fl) (noBor (ga.1 _) (not_of' h1)) (noBor (gb.1 _) (not_of' h2)) (by rw [dn_app]) (by rw [dn_swap, dn_app])
theorem k_cons {a r : E} {x : Expr} {es : List Expr} (iha : Mo cl cal a c (.e x)) (ihr : Mo cl cal r c (.l es)) : Mo cl cal (.cons a r) c (.l (x :: es)) := fun h X W k => by
  obtain ⟨h1, h3⟩ := and_of (show (noStar x && chk a c (.e x) && chk r c (.l es)) = true from h)
  obtain ⟨h1, h2⟩ := and_of h1
  have ga := iha h2 X W k
  have gr := ihr h3 X W k
  refine ⟨fun fl => ?_, fun y e => ?_⟩
  · rw [show dn (rds (.cons a r)) fl = _ from dn_app _ _ _]
    exact s_cons (noStar_ok h1 _ _) (ga.1 fl) (gr.1 _)
  · cases e
    refine one_of ga r ?_
    cases r <;> first | rfl | cases h3
theorem k_tup {es : E} {xs : List Expr} {q : Nat} {pos : Pos} (ih : Mo cl cal es c (.l xs)) : Mo cl cal (.tup es) c (.e (.Tuple xs q pos)) := fun h X W k => by
  obtain ⟨h1, h2⟩ := and_of (show (!borE es && chk es c (.l xs)) = true from h)
  exact ok_e k (fun fl => s_tup (noBorA ((ih h2 X W k).1 fl) (not_of' h1))) rfl rfl
theorem k_lst {es : E} {xs : List Expr} {pos : Pos} (ih : Mo cl cal es c (.l xs)) : Mo cl cal (.lst es) c (.e (.List xs pos)) := fun h X W k => by
  obtain ⟨h1, h2⟩ := and_of (show (!borE es && chk es c (.l xs)) = true from h)
  exact ok_e k (fun fl => s_lst (noBorA ((ih h2 X W k).1 fl) (not_of' h1))) rfl rfl
theorem k_lsts {a es : E} {x : Expr} {xs : List Expr} {sp pos : Pos} (iha : Mo cl cal a c (.e x)) (ih : Mo cl cal es c (.l xs)) : Mo cl cal (.lsts a es) c (.e (.List (.Starred x sp :: xs) pos)) := fun h X W k => by
  obtain ⟨h, h3⟩ := and_of (show (!borE es && chk a c (.e x) && chk es c (.l xs)) = true from h)
  obtain ⟨h1, h2⟩ := and_of h
  refine ok_e k (fun fl => ?_) rfl rfl
  rw [show dn (rds (.lsts a es)) fl = dn (rds es) (dn (rds a) fl) from dn_app _ _ _]
  exact s_lsts ((iha h2 X W k).1 fl) (noBorA ((ih h3 X W k).1 _) (not_of' h1))
theorem k_emp {pos : Pos} : Mo cl cal .emp c (.e (.Dict [] [] pos)) := fun h X W k => ok_e k (fun fl => s_emp) rfl rfl
theorem k_idx {a b : E} {x y : Expr} {pos : Pos} (iha : Mo cl cal a c (.e x)) (ihb : Mo cl cal b c (.e y)) : Mo cl cal (.idx a b) c (.e (.Subscript x y pos)) := fun h X W k => by
  obtain ⟨h1, h3⟩ := and_of (show (noSlice y && chk a c (.e x) && chk b c (.e y)) = true from h)
  obtain ⟨h1, h2⟩ := and_of h1
  refine ok_e k (fun fl => ?_) rfl rfl
  rw [show dn (rds (.idx a b)) fl = _ from dn_app _ _ _]
  exact s_idx k.un (plain_ok h1) ((iha h2 X W k).1 fl) ((ihb h3 X W k).1 _)
theorem opt_ok {lo : E} {l : Option Expr} (k : CtxOk X cl W c cal) (ih : ∀ n, Mo cl cal lo c n) (h : optOk lo l (fun n => chk lo c n) = true) (hr : lo.isNo = true → rds lo = []) :
    ∀ fl, PO X l (tP X.K cl W fl (dn (rds lo) fl) fun e => if lo.isNo = true then .ok none else (evE (c.cs.map (·.2)) cal lo e).bind intO) := fun fl => by
  cases l with
  | none =>
    have h : lo.isNo = true := h
    rw [hr h, show (fun e => if lo.isNo = true then (R.ok none : R (Option Int)) else (evE (c.cs.map (·.2)) cal lo e).bind intO) = fun _ => .ok none from funext fun e => if_pos h]
    exact s_po0
  | some a =>
    obtain ⟨h1, h2⟩ := and_of (show (!lo.isNo && chk lo c (.e a)) = true from h)
    rw [show (fun e => if lo.isNo = true then (R.ok none : R (Option Int)) else (evE (c.cs.map (·.2)) cal lo e).bind intO) = fun e => (evE (c.cs.map (·.2)) cal lo e).bind intO from funext fun e => if_neg (by rw [not_of' h1]; decide)]
    exact s_po1 ((ih _ h2 X W k).1 fl)
theorem isNo_rds {lo : E} (h : lo.isNo = true) : rds lo = [] := by
  cases lo <;> first | rfl | cases h
theorem k_slc {a lo hi : E} {x : Expr} {l h : Option Expr} {p q : Pos} (iha : Mo cl cal a c (.e x)) (ihl : ∀ n, Mo cl cal lo c n) (ihh : ∀ n, Mo cl cal hi c n) : Mo cl cal (.slc a lo hi) c (.e (.Subscript x (.Slice l h none p) q)) := fun h X W k => by
  obtain ⟨h1, h3⟩ := and_of (show (chk a c (.e x) && optOk lo l (fun n => chk lo c n) && optOk hi _ (fun n => chk hi c n)) = true from h)
  obtain ⟨h1, h2⟩ := and_of h1
  refine ok_e k (fun fl => ?_) rfl rfl
  rw [show dn (rds (.slc a lo hi)) fl = dn (rds hi) (dn (rds lo) (dn (rds a) fl)) from by show dn ((rds a ++ rds lo) ++ rds hi) fl = _; rw [dn_app, dn_app]]
  exact s_slc ((iha h1 X W k).1 fl) (opt_ok k ihl h2 isNo_rds _) (opt_ok k ihh h3 isNo_rds _)
theorem k_call {f : Nat} {es : E} {x : Str} {p q : Pos} {y : Expr} {ys : List Expr} (ih : Mo cl cal es c (.l (y :: ys))) : Mo cl cal (.call f es) c (.e (.Call (.Name x p) (y :: ys) [] q)) := fun h X W k => by
  obtain ⟨h1, h3⟩ := and_of (show (c.fun_ f x && !borE es && chk es c (.l (y :: ys))) = true from h)
  obtain ⟨h1, h2⟩ := and_of h1
  unfold SC.fun_ at h1
  obtain ⟨h0, h1⟩ := and_of h1
  obtain ⟨g, d⟩ := gl_ok k h1
  obtain ⟨t1, t2⟩ := tail_ok h3 q X.env
  cases hf : c.fs[f]? with
  | none => rw [hf] at h0; cases h0
  | some P =>
    rw [hf] at h0
    obtain ⟨n1, n, own⟩ := P
    cases eq_of_beq h0
    obtain ⟨F, hn, hx⟩ := k.fs f _ n own hf
    refine ok_e k (fun fl => ?_) rfl rfl
    rw [show ownE c.fs (.call f es) = own from by show (match c.fs[f]? with | some p => p.2.2 | none => false) = _; rw [hf]]
    exact s_call F k.gd g k.tk hn hx (noBorA ((ih h3 X W k).1 fl) (not_of' h2)) d t1 t2
/-! ### [f, g, ..][i](e, ..) -/
def DF (X : Cx) (cl : Cls) (o : Bool) (fa : Addr) (run : List D → R D) : Prop := ∃ (k : Nat) (fd : FuncData) (ps : List Str) (n : Nat), PySem.W.keepIn X.K (.ref fa) = true ∧ Binds X.K fd ps [] ∧ Room k X.A ∧ FnG X.prog X.w X.K X.mg X.base (L2N.CX X.prog X.w) k fa fd ps (spF X.K cl o n run) ∧
  (∀ ds d, run ds = .ok d → ds.length = n) ∧ ∀ ds c a, run ds = .exc c a → ds.length = n
theorem dsps_ok {o : Bool} (kx : CtxOk X cl W c cal) : ∀ {js : List Nat} {xs : List Expr}, c.dsps o js xs = true → ∃ fas : List Addr, fas.length = js.length ∧ PA X xs (fun _ H Q => Q (fas.map V.ref) H) ∧ ∀ (i : Nat) fa j, fas[i]? = some fa → js[i]? = some j → DF X cl o fa (cal j)
  | [], [], _ => ⟨[], rfl, pa_nil, fun i fa j h _ => by simp at h⟩
  | j :: js, .Name x p :: xs, h => by
    obtain ⟨h1, h3⟩ := and_of (show (c.fun_ j x && (match c.fs[j]? with
      | some p => p.2.2 == o
      | none => false) && c.dsps o js xs) = true from h)
    obtain ⟨h1, h2⟩ := and_of h1
    obtain ⟨fas, hl, hp, hf⟩ := dsps_ok kx h3
    unfold SC.fun_ at h1
    obtain ⟨h0, h1⟩ := and_of h1
    obtain ⟨g, d⟩ := gl_ok kx h1
    cases hc : c.fs[j]? with
    | none => rw [hc] at h0; cases h0
    | some P =>
      rw [hc] at h0 h2
      obtain ⟨n1, n, own⟩ := P
      cases eq_of_beq h0
      have h2 : own = o := eq_of_beq h2
      subst h2
      obtain ⟨⟨k, fa, fd, ps, m1, m2, m3, m4, m5⟩, hn, hx⟩ := kx.fs j _ n _ hc
      refine ⟨fa :: fas, congrArg Nat.succ hl, pa_cons (pe_glob (v := .ref fa) g m1 rfl d) hp, fun i fa' j' e1 e2 => ?_⟩
      cases i with
      | zero =>
        simp at e1 e2
        subst e1 e2
        exact ⟨k, fd, ps, n, m2, m3, m4, m5, hn, hx⟩
      | succ i => exact hf i fa' j' (by simpa using e1) (by simpa using e2)
theorem dspD_ok {js : List Nat} {d : D} {j : Nat} (h : dspD js d = .ok j) : ∃ i, d = .int i ∧ L2.atI js i = some j := by
  cases d with
  | int i =>
    refine ⟨i, rfl, ?_⟩
    unfold dspD at h
    dsimp only at h
    split at h
    · rename_i e
      cases h
      exact e
    · cases h
  | _ => cases h
theorem dspD_nx {js : List Nat} {d : D} {cn : Str} {a : D} : dspD js d ≠ .exc cn a := by
  intro h
  cases d with
  | int i =>
    unfold dspD at h
    dsimp only at h
    split at h <;> cases h
  | _ => cases h
theorem s_dsp {js : List Nat} {xs ys : List Expr} {x y : Expr} {lp sp pos : Pos} {f g : Sg → R D} {fl1 fl2 : List Bool} {o o1 b1 : Bool} (kx : CtxOk X cl W c cal) (hd : c.dsps o js xs = true) (hl : js.length ≤ 1000) (hp : PlainIx x) (ha : PE X x (tE X.K cl W fl fl1 o1 b1 f)) (hb : PA X (y :: ys) (tA X.K cl W fl1 fl2 false g))
    (st : starEach (y :: ys) X.env = (false, eval y X.env) :: starEach ys X.env) (pl : (backTo pos (starEach ys X.env)).any (·.1) = false) :
    PE X (.Call (.Subscript (.List xs lp) x sp) (y :: ys) [] pos) (tE X.K cl W fl fl2 o false fun e => (f e).bind fun i => (dspD js i).bind fun j => ((g e).bind unL).bind fun ds => cal j ds) := by
  obtain ⟨fas, fl_, hP, hF⟩ := dsps_ok kx hd
  constructor
  rintro pins s σ H Q I ⟨G0, B, G, e, sr, p⟩
  refine PyProof.Rows.Call_ (thn ((pe_ix (ix_list (X := X)) (pe_lst hP) ha hp).run pins s σ H (fun v H1 => ∃ fa j G1, v = .ref fa ∧ DF X cl o fa (cal j) ∧ Same G G1 ∧ Same H H1 ∧ SR X.K fl1 G0 B G1 e σ H1 ∧
    Pst X.K cl W G0 B G e σ H (((g e).bind unL).bind fun ds => cal j ds) fun d => ∀ G' H' v, Same G G' → Same H H' → SR X.K fl2 G0 B G' e σ H' → Av X.K G' H' v d → (false = false → RsE X.K o fl2 B G' H' e σ v d) → Q v H') I ?_) fun u s1 ⟨v, H1, I1, rv, fa, j, G1, ev, hdf, g1, s1', sr1, q⟩ => ?_) rfl
  · refine ⟨by rw [List.length_map, fl_, sizeLine_eq]; omega, fun b hb => ⟨G0, B, G, e, sr.grow (same_upd hb), p.bind.grow (Same.refl G) (same_upd hb) fun di p1 G2 H2 w g2 s2 sr2 aw _ => ?_⟩⟩
    obtain ⟨j, hj, p2⟩ := Pst.of p1.bind fun _ _ => dspD_nx
    obtain ⟨i, ed, hi⟩ := dspD_ok hj
    subst ed
    have nl : (fas.map V.ref).length = js.length := by rw [List.length_map, fl_]
    have hk : ∃ k fa, L2.ixN js.length i = some k ∧ js[k]? = some j ∧ fas[k]? = some fa := by
      unfold L2.atI at hi
      cases hz : L2.ixN js.length i with
      | none => rw [hz] at hi; cases hi
      | some k =>
        rw [hz] at hi
        have hi : js[k]? = some j := hi
        have lt : k < fas.length := by rw [fl_]; exact (List.getElem?_eq_some_iff.mp hi).1
        exact ⟨k, fas[k], rfl, hi, by simp [lt]⟩
    obtain ⟨k, fa, e1, e2, e3⟩ := hk
    refine ⟨b, fas.map V.ref, i, .ref fa, rfl, aw.int, .inl (.inl (s2 _ _ (upd_same ..))), ?_, fa, j, G2, rfl, hF k fa j e3 e2, g2, (same_upd hb).trans s2, sr2, p2⟩
    unfold L2.atI
    rw [nl, e1]
    show (fas.map V.ref)[k]? = _
    rw [List.getElem?_map, e3]
    rfl
  · subst ev
    cases (show u = Value.ref fa from rv)
    obtain ⟨k, fd, ps, n, m2, m3, m4, m5, hn, hx⟩ := hdf
    have q2 := call_fin (own := o) (n := n) (run := cal j) (fl := fl1) (fl1 := fl2) (f := g) hn hx (Q := Q) (σ := σ) (H := H1) ⟨G0, B, G1, e, sr1, q.grow g1 s1' fun d hq G' H' v a1 a2 => hq G' H' v (g1.trans a1) (s1'.trans a2)⟩
    exact PySem.W.callWith_K (h₀ := X.base) I1.ok.mod.kin m2 (thn (hb.run pos pins s1 σ H1 _ I1 q2) fun us s2 ⟨vs, H2, I2, rel, q3⟩ => ⟨I2.kIn, m5.call m4 kx.gd m3 (fun pins H s e s' I c => L2N.passAt kx.tk σ pins H s e s' I c) I2 rel q3⟩) st pl
theorem k_dsp {js : List Nat} {a es : E} {xs : List Expr} {x : Expr} {lp sp q : Pos} {y : Expr} {ys : List Expr} (iha : Mo cl cal a c (.e x)) (ih : Mo cl cal es c (.l (y :: ys))) : Mo cl cal (.dsp js a es) c (.e (.Call (.Subscript (.List xs lp) x sp) (y :: ys) [] q)) := fun h X W k => by
  obtain ⟨h, h6⟩ := and_of (show (c.dsps (dspO c.fs js) js xs && decide (js.length ≤ 1000) && noSlice x && !borE es && chk a c (.e x) && chk es c (.l (y :: ys))) = true from h)
  obtain ⟨h, h5⟩ := and_of h
  obtain ⟨h, h4⟩ := and_of h
  obtain ⟨h, h3⟩ := and_of h
  obtain ⟨h1, h2⟩ := and_of h
  obtain ⟨t1, t2⟩ := tail_ok h6 q X.env
  refine ok_e k (fun fl => ?_) rfl rfl
  rw [show dn (rds (.dsp js a es)) fl = dn (rds es) (dn (rds a) fl) from dn_app _ _ _]
  exact s_dsp k h1 (of_decide_eq_true h2) (plain_ok h3) ((iha h5 X W k).1 fl) (noBorA ((ih h6 X W k).1 _) (not_of' h4)) t1 t2
theorem k_blt {b : Blt} {es : E} {x : Str} {p q : Pos} {y : Expr} {ys : List Expr} (ih : Mo cl cal es c (.l (y :: ys))) : Mo cl cal (.blt b es) c (.e (.Call (.Name x p) (y :: ys) [] q)) := fun h X W k => by
  obtain ⟨h1, h3⟩ := and_of (show (c.blt b x && chk es c (.l (y :: ys))) = true from h)
  unfold SC.blt at h1
  obtain ⟨h0, h1⟩ := and_of h1
  cases eq_of_beq h0
  obtain ⟨g, d⟩ := gl_ok k h1
  obtain ⟨t1, t2⟩ := tail_ok h3 q X.env
  exact ok_e k (fun fl => s_blt b k.calm k.un k.gd g (k.bt b) ((ih h3 X W k).1 fl) t1 t2) rfl rfl
theorem k_con {v : V} {d : D} {e : E} {a : Expr} (hp : ∀ (X : Cx), PE X a (tC v)) (hr : ∀ K G, Rp K G v d) (hb : box d = false) (ht : testy a = true) (he : ∀ s, evE (c.cs.map (·.2)) cal e s = .ok d) (h0 : rds e = []) (hbo : borE e = false) (hcp : isComp a = false) (k : CtxOk X cl W c cal) : Good X cl W c cal e (.e a) := by
  refine ok_e k (fun fl => ?_) ht hcp
  rw [show evE (c.cs.map (·.2)) cal e = fun _ => .ok d from funext he, h0, hbo]
  exact s_con (hp X) (hr X.K) hb
theorem s_glb {a : Expr} {v : V} {d : D} {fl : List Bool} (h : PE X a (tC v)) (r : ∀ G, Rp X.K G v d) : PE X a (tE X.K cl W fl fl false false fun _ => .ok d) := h.imp fun σ H Q q => by
  obtain ⟨G0, B, G, e, sr, p⟩ := q
  exact p G H v (Same.refl G) (Same.refl H) sr (.inl (r G)) fun _ => .of (r G)
theorem k_glb {j : Nat} {x : Str} {pos : Pos} : Mo cl cal (.glb j) c (.e (.Name x pos)) := fun h X W k => by
  obtain ⟨h0, h1⟩ := and_of (show ((match c.cs[j]? with | some p => p.1 == x | none => false) && c.gl x) = true from h)
  obtain ⟨g, d⟩ := gl_ok k h1
  cases hf : c.cs[j]? with
  | none => rw [hf] at h0; cases h0
  | some P =>
    rw [hf] at h0
    obtain ⟨n1, dd⟩ := P
    cases eq_of_beq h0
    obtain ⟨v, u, h2, h3, h4⟩ := k.cs j _ dd hf
    refine ok_e k (fun fl => ?_) rfl rfl
    have hj : (c.cs.map (·.2))[j]? = some dd := by rw [List.getElem?_map, hf]; rfl
    rw [show evE (c.cs.map (·.2)) cal (.glb j) = fun _ => .ok dd from funext fun s => by show (match (c.cs.map (·.2))[j]? with | some d => R.ok d | none => .stuck) = _; rw [hj]]
    exact s_glb (pe_glob g h2 h3 d) h4
theorem owned {fl fl' : List Bool} {own bor : Bool} {f : Sg → R D} {a : Expr} (h : PE X a (tE X.K cl W fl fl' own bor f)) (e : own = true) (e2 : bor = false) : PE X a (tE X.K cl W fl fl' true false f) := by
  subst e e2
  exact h
theorem k_rep {a b : E} {x y : Expr} {pos : Pos} (iha : Mo cl cal a c (.e x)) (ihb : Mo cl cal b c (.e y)) : Mo cl cal (.rep a b) c (.e (.BinOp x .Mult y pos)) := fun h X W k => by
  obtain ⟨h1, h4⟩ := and_of (show (ownE c.fs a && !borE a && chk a c (.e x) && chk b c (.e y)) = true from h)
  obtain ⟨h1, h3⟩ := and_of h1
  obtain ⟨h1, h2⟩ := and_of h1
  refine ok_e k (fun fl => ?_) rfl rfl
  rw [show dn (rds (.rep a b)) fl = _ from dn_app _ _ _]
  exact s_rep (owned ((iha h3 X W k).1 fl) h1 (not_of' h2)) ((ihb h4 X W k).1 _)
theorem k_gcd {es : E} {x : Str} {p q : Pos} {y : Expr} {ys : List Expr} (ih : Mo cl cal es c (.l (y :: ys))) : Mo cl cal (.gcd es) c (.e (.Call (.Name x p) (y :: ys) [] q)) := fun h X W k => by
  obtain ⟨h1, h4⟩ := and_of (show (x == "gcd" && c.gc && c.gl x && chk es c (.l (y :: ys))) = true from h)
  obtain ⟨h1, h3⟩ := and_of h1
  obtain ⟨h1, h2⟩ := and_of h1
  cases eq_of_beq h1
  obtain ⟨g, d⟩ := gl_ok k h3
  obtain ⟨t1, t2⟩ := tail_ok h4 q X.env
  exact ok_e k (fun fl => s_gcd g (k.gc h2) ((ih h4 X W k).1 fl) d t1 t2) rfl rfl
theorem noCall_ok {x : Expr} (h : noCall x = true) (m : Str) (env : Env) (w : Sem Value) : attributeBase x m env w = w := by
  cases x <;> first | rfl | cases h
theorem k_sidx {a b : E} {x y : Expr} {m : Str} {ap pos : Pos} (iha : Mo cl cal a c (.e x)) (ihb : Mo cl cal b c (.e y)) : Mo cl cal (.sidx a b) c (.e (.Call (.Attribute x m ap) [y] [] pos)) := fun h X W k => by
  obtain ⟨h, h6⟩ := and_of (show (m == "index" && noCall x && ap.endLine == pos.line && noStar y && chk a c (.e x) && chk b c (.e y)) = true from h)
  obtain ⟨h, h5⟩ := and_of h
  obtain ⟨h, h4⟩ := and_of h
  obtain ⟨h, h3⟩ := and_of h
  obtain ⟨h1, h2⟩ := and_of h
  cases eq_of_beq h1
  refine ok_e k (fun fl => ?_) rfl rfl
  rw [show dn (rds (.sidx a b)) fl = _ from dn_app _ _ _]
  exact s_sidx ((iha h5 X W k).1 fl) ((ihb h6 X W k).1 _) (noStar_ok h4 _ _) (noCall_ok h2 _ _ _) h3
theorem k_lidx {a b : E} {x y : Expr} {m : Str} {ap pos : Pos} (iha : Mo cl cal a c (.e x)) (ihb : Mo cl cal b c (.e y)) : Mo cl cal (.lidx a b) c (.e (.Call (.Attribute x m ap) [y] [] pos)) := fun h X W k => by
  obtain ⟨h, h6⟩ := and_of (show (m == "index" && noCall x && ap.endLine == pos.line && noStar y && chk a c (.e x) && chk b c (.e y)) = true from h)
  obtain ⟨h, h5⟩ := and_of h
  obtain ⟨h, h4⟩ := and_of h
  obtain ⟨h, h3⟩ := and_of h
  obtain ⟨h1, h2⟩ := and_of h
  cases eq_of_beq h1
  refine ok_e k (fun fl => ?_) rfl rfl
  rw [show dn (rds (.lidx a b)) fl = _ from dn_app _ _ _]
  exact s_lidx k.un ((iha h5 X W k).1 fl) ((ihb h6 X W k).1 _) (noStar_ok h4 _ _) (noCall_ok h2 _ _ _) h3
theorem k_lst1s {a b : E} {x y : Expr} {sp p : Pos} (iha : Mo cl cal a c (.e x)) (ihb : Mo cl cal b c (.e y)) : Mo cl cal (.lst1s a b) c (.e (.List [x, .Starred y sp] p)) := fun h X W k => by
  obtain ⟨h, h4⟩ := and_of (show (noStar x && !borE a && chk a c (.e x) && chk b c (.e y)) = true from h)
  obtain ⟨h, h3⟩ := and_of h
  obtain ⟨h1, h2⟩ := and_of h
  refine ok_e k (fun fl => ?_) rfl rfl
  rw [show dn (rds (.lst1s a b)) fl = _ from dn_app _ _ _]
  exact s_lst1s (noBor ((iha h3 X W k).1 fl) (not_of' h2)) ((ihb h4 X W k).1 _) (noStar_ok h1 _ _)
theorem k_lens {a : E} {l s : Str} {lp sp p q : Pos} {x : Expr} (iha : Mo cl cal a c (.e x)) : Mo cl cal (.lens a) c (.e (.Call (.Name l lp) [.Call (.Name s sp) [x] [] p] [] q)) := fun h X W k => by
  obtain ⟨h, h6⟩ := and_of (show (l == "len" && s == "set" && c.gl l && c.gl s && noStar x && chk a c (.e x)) = true from h)
  obtain ⟨h, h5⟩ := and_of h
  obtain ⟨h, h4⟩ := and_of h
  obtain ⟨h, h3⟩ := and_of h
  obtain ⟨h1, h2⟩ := and_of h
  cases eq_of_beq h1
  cases eq_of_beq h2
  exact ok_e k (fun fl => s_lens' k.calm (k.bt .len) (k.bt .set) (gl_ok k h3).1 (gl_ok k h4).1 ((iha h6 X W k).1 fl) (noStar_ok h5 _ _)) rfl rfl
theorem k_sset {a : E} {l s : Str} {lp sp p q : Pos} {x : Expr} (iha : Mo cl cal a c (.e x)) : Mo cl cal (.sset a) c (.e (.Call (.Name l lp) [.Call (.Name s sp) [x] [] p] [] q)) := fun h X W k => by
  obtain ⟨h, h6⟩ := and_of (show (l == "sorted" && s == "set" && c.gl l && c.gl s && noStar x && chk a c (.e x)) = true from h)
  obtain ⟨h, h5⟩ := and_of h
  obtain ⟨h, h4⟩ := and_of h
  obtain ⟨h, h3⟩ := and_of h
  obtain ⟨h1, h2⟩ := and_of h
  cases eq_of_beq h1
  cases eq_of_beq h2
  exact ok_e k (fun fl => s_sset' k.calm k.un (k.bt .sorted) (k.bt .set) (gl_ok k h3).1 (gl_ok k h4).1 ((iha h6 X W k).1 fl) (noStar_ok h5 _ _)) rfl rfl
theorem k_rev {a : E} {k : Nat} {q1 q2 q3 q : Pos} {x : Expr} (iha : Mo cl cal a c (.e x)) : Mo cl cal (.rev a) c (.e (.Subscript x (.Slice none none (some (.UnaryOp .USub (.Constant (.int 1) k q1) q2)) q3) q)) := fun h X W kx =>
  ok_e kx (fun fl => s_rev ((iha (show chk a c (.e x) = true from h) X W kx).1 fl)) rfl rfl
theorem k_dg {kvs : List (Int × Str)} {b : E} {ks : List (Option Expr)} {vs : List Expr} {dp : Pos} {y : Expr} {m : Str} {ap pos : Pos} (ihb : Mo cl cal b c (.e y)) : Mo cl cal (.dg kvs b) c (.e (.Call (.Attribute (.Dict ks vs dp) m ap) [y] [] pos)) := fun h X W k => by
  obtain ⟨h, h7⟩ := and_of (show (m == "get" && dgOk kvs ks vs && !kvs.isEmpty && decide (kvs.length ≤ 15) && ap.endLine == pos.line && noStar y && chk b c (.e y)) = true from h)
  obtain ⟨h, h6⟩ := and_of h
  obtain ⟨h, h5⟩ := and_of h
  obtain ⟨h, h4⟩ := and_of h
  obtain ⟨h, h3⟩ := and_of h
  obtain ⟨h1, h2⟩ := and_of h
  cases eq_of_beq h1
  refine ok_e k (fun fl => ?_) rfl rfl
  exact s_dg k.un h2 (fun e => by subst e; cases h3) (of_decide_eq_true h4) ((ihb h7 X W k).1 fl) (noStar_ok h6 _ _) h5
theorem k_chn3 {o1 o2 o3 : CmpO} {a b d g : E} {x y z w : Expr} {p q r : CmpOp} {pos : Pos} (iha : Mo cl cal a c (.e x)) (ihb : Mo cl cal b c (.e y)) (ihd : Mo cl cal d c (.e z)) (ihg : Mo cl cal g c (.e w)) : Mo cl cal (.chn3 o1 a b o2 d o3 g) c (.e (.Compare x [p, q, r] [y, z, w] pos)) := fun h X W k => by
  obtain ⟨h, h8⟩ := and_of (show (decide (p = o1.op) && decide (q = o2.op) && decide (r = o3.op) && !lastMarks [p, q, r] [y, z, w] && chk a c (.e x) && chk b c (.e y) && chk d c (.e z) && chk g c (.e w)) = true from h)
  obtain ⟨h, h7⟩ := and_of h
  obtain ⟨h, h6⟩ := and_of h
  obtain ⟨h, h5⟩ := and_of h
  obtain ⟨h, h4⟩ := and_of h
  obtain ⟨h, h3⟩ := and_of h
  obtain ⟨h1, h2⟩ := and_of h
  cases of_decide_eq_true h1
  cases of_decide_eq_true h2
  cases of_decide_eq_true h3
  refine ok_t k (fun fl => ?_) (fun fl => ?_) rfl rfl <;> rw [show dn (rds (.chn3 o1 a b o2 d o3 g)) fl = dn (rds g) (dn (rds d) (dn (rds b) (dn (rds a) fl))) from by show dn (((rds a ++ rds b) ++ rds d) ++ rds g) fl = _; rw [dn_app, dn_app, dn_app]]
  · exact s_chn3 o1 o2 o3 k.un (not_of' h4) ((iha h5 X W k).1 fl) ((ihb h6 X W k).1 _) ((ihd h7 X W k).1 _) ((ihg h8 X W k).1 _)
  · exact t_chn3 o1 o2 o3 k.un (not_of' h4) ((iha h5 X W k).1 fl) ((ihb h6 X W k).1 _) ((ihd h7 X W k).1 _) ((ihg h8 X W k).1 _)
end
end Mt
/-! Part L: comprehensions; the whole. -/
namespace Mt
open PySem PySem.Spec PyProof.Rows L2
section
variable {cl : Cls} {cal : Nat → List D → R D} {W : WX} {X : Cx} {c : SC} {fl fl1 : List Bool}
theorem pi_any {tg it : Expr} {g : Sg → R (List D)} (b : Bool) (h : PI X tg it (tI X.K cl W fl fl1 false g)) : PI X tg it (tI X.K cl W fl fl1 b g) := ⟨fun pins s σ H Q I q => h.run pins s σ H Q I (by
  obtain ⟨G0, B, G, e, sr, p⟩ := q
  exact ⟨G0, B, G, e, sr, p.imp fun its k G' H' J g s sr a f => k G' H' J g s sr a fun _ => f rfl⟩)⟩
theorem pi_dn {tg it : Expr} {g : Sg → R (List D)} {b : Bool} (is : List Nat) (h : PI X tg it (tI X.K cl W fl fl1 b g)) : PI X tg it (tI X.K cl W fl (dn is fl1) b g) := ⟨fun pins s σ H Q I q => h.run pins s σ H Q I (by
  obtain ⟨G0, B, G, e, sr, p⟩ := q
  refine ⟨G0, B, G, e, sr, p.imp fun its k G' H' J g s sr a f => ?_⟩
  obtain ⟨G2, g2, sr2⟩ := sr.dn is
  exact k G2 H' J (g.trans g2) s sr2 ⟨fun i G3 H3 hi g3 => a.go i G3 H3 hi (g2.trans g3), fun i d G3 H3 x H4 hi g3 => a.yld i d G3 H3 x H4 hi (g2.trans g3), fun i G3 H3 hi g3 => a.stop i G3 H3 hi (g2.trans g3)⟩
    fun z => ⟨fun i G3 H3 hi g3 => (f z).go i G3 H3 hi (g2.trans g3), fun i d G3 H3 x H4 hi g3 => (f z).yld i d G3 H3 x H4 hi (g2.trans g3), fun i G3 H3 hi g3 => (f z).stop i G3 H3 hi (g2.trans g3)⟩)⟩
theorem noSet_ok {it : Expr} (h : noSet it = true) (env : Env) : ∀ x, foldedSetIterable it env x = pure x := by
  intro x
  cases it <;> first | rfl | cases h
theorem it_ok {tg it : Expr} {k : ItK} {src : E} (kx : CtxOk X cl W c cal) (ih : ∀ n, Mo cl cal src c n) (h : itOk c k tg it (borE src) (fun n => chk src c n) = true) :
    (∀ fl, PI X tg it (tI X.K cl W fl (dn (rds src) fl) (borE src) fun e => ((evE (c.cs.map (·.2)) cal src e).bind unL).bind (itD k))) ∧ ∀ env x, foldedSetIterable it env x = pure x := by
  unfold itOk at h
  obtain ⟨h0, h'⟩ := and_of h
  clear h
  refine ⟨fun fl => ?_, noSet_ok h0⟩
  split at h'
  · have h := h'
    have g := ih _ h X W kx
    obtain ⟨o, b, hp, hb⟩ := g.2 _ rfl
    rw [show (fun e => ((evE (c.cs.map (·.2)) cal src e).bind unL).bind (itD .seq)) = fun e => (b e).bind fun x => itD .seq [x] from funext fun e => by rw [hb, R.bind_assoc]; rfl]
    exact i_seq (hp fl)
  · rename_i r p a1 q
    obtain ⟨h, h4⟩ := and_of h'
    obtain ⟨h, h3⟩ := and_of h
    obtain ⟨h1, h2⟩ := and_of h
    cases eq_of_beq h1
    exact pi_any _ (i_rng1 (gl_ok kx h2).1 kx.rg (noStar_ok h3 _ _) ((ih _ h4 X W kx).1 fl))
  · rename_i r p a1 q
    obtain ⟨h, h5⟩ := and_of h'
    obtain ⟨h, h4⟩ := and_of h
    obtain ⟨h, h3⟩ := and_of h
    obtain ⟨h, h2⟩ := and_of h
    obtain ⟨h1, hbo⟩ := and_of h
    cases eq_of_beq h1
    cases tg with
    | Tuple es n tp => exact pi_any _ (i_enum (gl_ok kx h3).1 kx.en (noStar_ok h4 _ _) ((ih _ h5 X W kx).1 fl) (not_of' hbo))
    | _ => cases h2
  · rename_i r p a1 a2 q
    obtain ⟨h, h7⟩ := and_of h'
    obtain ⟨h, h6⟩ := and_of h
    obtain ⟨h, h5⟩ := and_of h
    obtain ⟨h, h4⟩ := and_of h
    obtain ⟨h, h3⟩ := and_of h
    obtain ⟨h1, hbo⟩ := and_of h
    cases eq_of_beq h1
    cases tg with
    | Tuple es n tp => exact pi_any _ (i_zip (gl_ok kx h4).1 kx.zp (noStar_ok h5 _ _) (by rw [noStar_ok h6]; rfl) ((ih _ h7 X W kx).1 fl) (not_of' hbo))
    | _ => cases h3
  · rename_i r p a1 a2 q
    obtain ⟨h, h5⟩ := and_of h'
    obtain ⟨h, h4⟩ := and_of h
    obtain ⟨h, h3⟩ := and_of h
    obtain ⟨h1, h2⟩ := and_of h
    cases eq_of_beq h1
    exact pi_any _ (i_rng2 (gl_ok kx h2).1 kx.rg (by rw [noStar_ok h3, noStar_ok h4]; rfl) (noStar_ok h4 _ _) ((ih _ h5 X W kx).1 fl))
  · cases h'
theorem ownN_map (N : List Str) (own : List Nat) : (ownN N own).map (·.2) = own := by
  unfold ownN
  rw [List.map_map]
  conv => rhs; rw [← List.map_id own]
  rfl
theorem blkOk_okG {scope : Scope} {own : List Nat} (hN : X.N = c.N) (hS : X.env.scope = c.sc) (h : c.blkOk scope own = true) : BlkOk X.N X.env.scope scope (ownN c.N own) := by
  unfold SC.blkOk at h
  obtain ⟨h, h5⟩ := and_of h
  obtain ⟨h, h4⟩ := and_of h
  obtain ⟨h, h3⟩ := and_of h
  obtain ⟨h1, h2⟩ := and_of h
  rw [hN, hS]
  have nm : ∀ i ∈ own, ∃ x, c.N[i]? = some x ∧ (x, i) ∈ ownN c.N own := fun i hi => by
    have hl := of_decide_eq_true (List.all_eq_true.mp h3 i hi)
    refine ⟨c.N[i], by simp [hl], ?_⟩
    unfold ownN
    exact List.mem_map.mpr ⟨i, hi, by simp [hl]⟩
  refine ⟨of_decide_eq_true h1, fun y hy => eq_of_beq (List.all_eq_true.mp h2 y hy), fun p hp => ?_, fun y hy e => ?_, fun y hy e => ?_⟩
  · unfold ownN at hp
    obtain ⟨i, hi, rfl⟩ := List.mem_map.mp hp
    obtain ⟨x, hx, _⟩ := nm i hi
    show c.N[i]? = some (match c.N[i]? with | some x => x | none => "")
    rw [hx]
  · have z := List.all_eq_true.mp h4 y hy
    simp only [e, beq_self_eq_true, Bool.not_true, Bool.false_or, Bool.or_eq_true, beq_iff_eq] at z
    exact z
  · have z := List.all_eq_true.mp h5 y hy
    have z2 : (own.any (fun i => c.N[i]? == some y.1) || !c.N.contains y.1) = true := by
      rcases e with e | e <;> simpa [e] using z
    rcases Bool.or_eq_true_iff.mp z2 with q | q
    · obtain ⟨i, hi, e⟩ := List.any_eq_true.mp q
      obtain ⟨x, hx, hm⟩ := nm i hi
      have e' := eq_of_beq e
      rw [hx] at e'
      cases e'
      exact .inl (List.mem_map.mpr ⟨_, hm, rfl⟩)
    · refine .inr fun hm => ?_
      rw [List.contains_iff_mem.mpr hm] at q
      cases q
theorem blkOk_ok {scope : Scope} {own : List Nat} (kx : CtxOk X cl W c cal) (h : c.blkOk scope own = true) : BlkOk X.N X.env.scope scope (ownN c.N own) := blkOk_okG kx.hN kx.sc h
theorem ifs_ok {ifs : List Expr} {cond : E} (kx : CtxOk X cl W c cal) (ih : ∀ n, Mo cl cal cond c n) (h : ifsOk cond ifs (fun n => chk cond c n) = true) (hd : dn (rds cond) fl = fl) : PTs X ifs (tT X.K cl W fl fl fun s => (evE (c.cs.map (·.2)) cal cond s).bind truthy) := by
  unfold ifsOk at h
  split at h
  · cases cond with
    | bl b =>
      cases b with
      | true => exact pts_none
      | false => cases h
    | _ => cases h
  · have := (ih _ h X W kx).2.1 fl
    rw [hd] at this
    exact pts_one this
  · cases h
theorem fLc_eq {own : List Nat} {tg : T} {cond elt : E} (cs : List D) (e : Sg) :
    (fun x => nox ((asg tg x (clr own e)).bind fun e1 => (evE cs cal cond e1).bind fun c => (truthy c).bind fun t => if t = true then (evE cs cal elt e1).bind fun y => (.ok [y] : R (List D)) else .ok [])) = fLc own tg (fun s => (evE cs cal cond s).bind truthy) (evE cs cal elt) e := by
  funext x
  unfold fLc
  congr 1
  congr 1
  funext e1
  rw [R.bind_assoc]
theorem k_lc {k : ItK} {src : E} {tg : T} {cond elt : E} {own : List Nat} {x t it : Expr} {ifs : List Expr} {scope : Scope} {pos : Pos} (ihs : ∀ n, Mo cl cal src c n) (ihc : ∀ n, Mo cl cal cond (c.blk scope) n) (ihe : Mo cl cal elt (c.blk scope) (.e x)) :
    Mo cl cal (.lc k src tg cond elt own) c (.e (.ListComp x [⟨t, it, ifs, 0⟩] scope pos)) := fun h X W kx => by
  obtain ⟨h, h7⟩ := and_of (show (itOk c k t it (borE src) (fun n => chk src c n) && c.blkOk scope own && sub tg.slots own && chkT (c.blk scope) tg t && ifsOk cond ifs (fun n => chk cond (c.blk scope) n) && !borE elt && chk elt (c.blk scope) (.e x)) = true from h)
  obtain ⟨h, h6⟩ := and_of h
  obtain ⟨h, h5⟩ := and_of h
  obtain ⟨h, h4⟩ := and_of h
  obtain ⟨h, h3⟩ := and_of h
  obtain ⟨h1, h2⟩ := and_of h
  obtain ⟨hi, hs⟩ := it_ok (tg := t) kx ihs h1
  have kb := fun s H C cc fp => kx.blk s H scope cc C fp
  refine ok_l (fun fl => ?_) rfl kx (lc_sw kx)
  have mem : ∀ {l : List Nat}, (∀ i ∈ l, i ∈ own ++ (rds cond ++ rds elt)) → dn l (dn (own ++ (rds cond ++ rds elt)) (dn (rds src) fl)) = dn (own ++ (rds cond ++ rds elt)) (dn (rds src) fl) := fun h => dn_dn h
  rw [show dn (rds (.lc k src tg cond elt own)) fl = _ from dn_app _ _ _]
  have hom : ∀ i ∈ own, (dn (own ++ (rds cond ++ rds elt)) (dn (rds src) fl))[i]? ≠ some true := fun i hi => dn_mem (by simp [hi])
  have main := s_lc (W := W) kx.calm (by rw [kx.hN]; exact kx.nd) (pi_dn (own ++ (rds cond ++ rds elt)) (hi fl)) (blkOk_ok kx h2) (hs X.env)
    (by rw [ownN_map]; exact sub_ok h3) (by rw [ownN_map]; exact hom) (mem fun i hi => by simp [sub_ok h3 i hi])
    (fun s H C cc fp => chkT_ok (kb s H C cc fp) h4 _) (fun s H C cc fp => ifs_ok (kb s H C cc fp) ihc h5 (mem fun i hi => by simp [hi])) (elt := x) (pos := pos) (o1 := ownE c.fs elt) (fe := evE (c.cs.map (·.2)) cal elt) (fun s H C cc fp => by
      have := noBor ((ihe h7 _ _ (kb s H C cc fp)).1 (dn (own ++ (rds cond ++ rds elt)) (dn (rds src) fl))) (not_of' h6)
      rw [mem fun i hi => by simp [hi]] at this
      exact this)
  rw [ownN_map] at main
  have e : evE (c.cs.map (·.2)) cal (.lc k src tg cond elt own) = fun e => (((evE (c.cs.map (·.2)) cal src e).bind unL).bind (itD k)).bind fun l => (lcGo (fLc own tg (fun s => (evE (c.cs.map (·.2)) cal cond s).bind truthy) (evE (c.cs.map (·.2)) cal elt) e) l).bind fun ys => grd (fitL ys.length) (.ok (.list ys)) := funext fun e => by
    rw [← fLc_eq]
    rfl
  rw [e]
  exact main
theorem fDc_eq {own : List Nat} {tg : T} {cond kx vx : E} (cs : List D) (e : Sg) :
    (fun x => nox ((asg tg x (clr own e)).bind fun e1 => (evE cs cal cond e1).bind fun c => (truthy c).bind fun t => if t = true then (evE cs cal kx e1).bind fun a => (evE cs cal vx e1).bind fun b => keyB a b else .ok none)) = fDc own tg (fun s => (evE cs cal cond s).bind truthy) (evE cs cal kx) (evE cs cal vx) e := by
  funext x
  unfold fDc
  congr 1
  congr 1
  funext e1
  rw [R.bind_assoc]
theorem k_dcc {k : ItK} {src : E} {tg : T} {cond kx vx : E} {own : List Nat} {x y t it : Expr} {ifs : List Expr} {scope : Scope} {pos : Pos} (ihs : ∀ n, Mo cl cal src c n) (ihc : ∀ n, Mo cl cal cond (c.blk scope) n) (ihk : Mo cl cal kx (c.blk scope) (.e x)) (ihv : Mo cl cal vx (c.blk scope) (.e y)) :
    Mo cl cal (.dcc k src tg cond kx vx own) c (.e (.DictComp x y [⟨t, it, ifs, 0⟩] scope pos)) := fun h X W kc => by
  obtain ⟨h, g8⟩ := and_of (show (itOk c k t it (borE src) (fun n => chk src c n) && c.blkOk scope own && sub tg.slots own && chkT (c.blk scope) tg t && ifsOk cond ifs (fun n => chk cond (c.blk scope) n) && !borE kx && !borE vx && chk kx (c.blk scope) (.e x) && chk vx (c.blk scope) (.e y)) = true from h)
  obtain ⟨h, g7⟩ := and_of h
  obtain ⟨h, h7⟩ := and_of h
  obtain ⟨h, h6⟩ := and_of h
  obtain ⟨h, h5⟩ := and_of h
  obtain ⟨h, h4⟩ := and_of h
  obtain ⟨h, h3⟩ := and_of h
  obtain ⟨h1, h2⟩ := and_of h
  obtain ⟨hi, hs⟩ := it_ok (tg := t) kc ihs h1
  have kb := fun s H C cc fp => kc.blk s H scope cc C fp
  have pe : ∀ fl, PE X (.DictComp x y [⟨t, it, ifs, 0⟩] scope pos) (tE X.K cl W fl (dn (rds (.dcc k src tg cond kx vx own)) fl) true false (evE (c.cs.map (·.2)) cal (.dcc k src tg cond kx vx own))) := fun fl => by
    have mem : ∀ {l : List Nat}, (∀ i ∈ l, i ∈ own ++ (rds cond ++ (rds kx ++ rds vx))) → dn l (dn (own ++ (rds cond ++ (rds kx ++ rds vx))) (dn (rds src) fl)) = dn (own ++ (rds cond ++ (rds kx ++ rds vx))) (dn (rds src) fl) := fun h => dn_dn h
    rw [show dn (rds (.dcc k src tg cond kx vx own)) fl = _ from dn_app _ _ _]
    have hom : ∀ i ∈ own, (dn (own ++ (rds cond ++ (rds kx ++ rds vx))) (dn (rds src) fl))[i]? ≠ some true := fun i hi => dn_mem (by simp [hi])
    have main := s_dcc (W := W) (pos := pos) kc.un kc.calm (by rw [kc.hN]; exact kc.nd) (pi_dn (own ++ (rds cond ++ (rds kx ++ rds vx))) (hi fl)) (blkOk_ok kc h2) (hs X.env)
      (by rw [ownN_map]; exact sub_ok h3) (by rw [ownN_map]; exact hom) (mem fun i hi => by simp [sub_ok h3 i hi])
      (fun s H C cc fp => chkT_ok (kb s H C cc fp) h4 _) (fun s H C cc fp => ifs_ok (kb s H C cc fp) ihc h5 (mem fun i hi => by simp [hi])) (kx := x) (vx := y) (o1 := ownE c.fs kx) (o2 := ownE c.fs vx) (fk := evE (c.cs.map (·.2)) cal kx) (fv := evE (c.cs.map (·.2)) cal vx) (fun s H C cc fp => by
        have := noBor ((ihk g7 _ _ (kb s H C cc fp)).1 (dn (own ++ (rds cond ++ (rds kx ++ rds vx))) (dn (rds src) fl))) (not_of' h6)
        rw [mem fun i hi => by simp [hi]] at this
        exact this) (fun s H C cc fp => by
        have := noBor ((ihv g8 _ _ (kb s H C cc fp)).1 (dn (own ++ (rds cond ++ (rds kx ++ rds vx))) (dn (rds src) fl))) (not_of' h7)
        rw [mem fun i hi => by simp [hi]] at this
        exact this)
    rw [ownN_map] at main
    have e : evE (c.cs.map (·.2)) cal (.dcc k src tg cond kx vx own) = fDcc own tg (fun e => ((evE (c.cs.map (·.2)) cal src e).bind unL).bind (itD k)) (fun s => (evE (c.cs.map (·.2)) cal cond s).bind truthy) (evE (c.cs.map (·.2)) cal kx) (evE (c.cs.map (·.2)) cal vx) := funext fun e => by
      unfold fDcc
      rw [← fDc_eq]
      rfl
    rw [e]
    exact main
  exact ⟨pe, fun fl => t_val (pe fl) (testy_ok rfl X.env), (fun hb => by cases hb), fun fl i y py spos hl hk => by cases hk⟩
theorem k_dc1 {a b : E} {x y : Expr} {pos : Pos} (iha : Mo cl cal a c (.e x)) (ihb : Mo cl cal b c (.e y)) : Mo cl cal (.dc1 a b) c (.e (.Dict [some x] [y] pos)) := fun h X W k => by
  obtain ⟨h, h4⟩ := and_of (show (!borE a && !borE b && chk a c (.e x) && chk b c (.e y)) = true from h)
  obtain ⟨h, h3⟩ := and_of h
  obtain ⟨h1, h2⟩ := and_of h
  refine ok_e k (fun fl => ?_) rfl rfl
  rw [show dn (rds (.dc1 a b)) fl = _ from dn_app _ _ _]
  exact s_dc1 k.un (noBor ((iha h3 X W k).1 fl) (not_of' h1)) (noBor ((ihb h4 X W k).1 _) (not_of' h2))
theorem fLc2_eq {own own2 : List Nat} {tg tg2 : T} {k2 : ItK} {src2 cond elt : E} (cs : List D) (e : Sg) :
    (fun x => nox ((asg tg x (clr own e)).bind fun e1 => (((evE cs cal src2 e1).bind unL).bind (itD k2)).bind fun its2 =>
        lcGo (fun x2 => (asg tg2 x2 (clr own2 e1)).bind fun e2 => (evE cs cal cond e2).bind fun c => (truthy c).bind fun t => if t = true then (evE cs cal elt e2).bind fun y => (.ok [y] : R (List D)) else .ok []) its2)) =
      fLc2 own tg (fun e1 => ((evE cs cal src2 e1).bind unL).bind (itD k2)) own2 tg2 (fun s => (evE cs cal cond s).bind truthy) (evE cs cal elt) e := by
  funext x
  unfold fLc2
  congr 1
  congr 1
  funext e1
  congr 1
  funext its2
  congr 1
  funext x2
  unfold fIn
  congr 1
  funext e2
  rw [R.bind_assoc]
theorem k_lc2 {k k2 : ItK} {src src2 : E} {tg tg2 : T} {cond elt : E} {own own2 : List Nat} {x t it t2 it2 : Expr} {ifs : List Expr} {scope : Scope} {pos : Pos} (ihs : ∀ n, Mo cl cal src c n) (ihs2 : ∀ n, Mo cl cal src2 (c.blk scope) n) (ihc : ∀ n, Mo cl cal cond (c.blk scope) n) (ihe : Mo cl cal elt (c.blk scope) (.e x)) :
    Mo cl cal (.lc2 k src tg k2 src2 tg2 cond elt own own2) c (.e (.ListComp x [⟨t, it, [], 0⟩, ⟨t2, it2, ifs, 0⟩] scope pos)) := fun h X W kx => by
  obtain ⟨h, h12⟩ := and_of (show (itOk c k t it (borE src) (fun n => chk src c n) && itOk (c.blk scope) k2 t2 it2 (borE src2) (fun n => chk src2 (c.blk scope) n) && !borE src2 && c.blkOk scope own &&
      sub tg.slots own && sub tg2.slots own2 && sub own2 own && chkT (c.blk scope) tg t && chkT (c.blk scope) tg2 t2 && ifsOk cond ifs (fun n => chk cond (c.blk scope) n) && !borE elt && chk elt (c.blk scope) (.e x)) = true from h)
  obtain ⟨h, h11⟩ := and_of h
  obtain ⟨h, h10⟩ := and_of h
  obtain ⟨h, h9⟩ := and_of h
  obtain ⟨h, h8⟩ := and_of h
  obtain ⟨h, h7⟩ := and_of h
  obtain ⟨h, h6⟩ := and_of h
  obtain ⟨h, h5⟩ := and_of h
  obtain ⟨h, h4⟩ := and_of h
  obtain ⟨h, h3⟩ := and_of h
  obtain ⟨h1, h2⟩ := and_of h
  obtain ⟨hi, hs⟩ := it_ok (tg := t) kx ihs h1
  have kb := fun s H C cc fp => kx.blk s H scope cc C fp
  have hi2 := fun s H C cc fp => it_ok (tg := t2) (kb s H C cc fp) ihs2 h2
  have hs2 : ∀ env x, foldedSetIterable it2 env x = pure x := noSet_ok (and_of h2).1
  refine ok_l (fun fl => ?_) rfl kx (lc_sw kx)
  have mem : ∀ {l : List Nat}, (∀ i ∈ l, i ∈ own ++ (rds src2 ++ (rds cond ++ rds elt))) → dn l (dn (own ++ (rds src2 ++ (rds cond ++ rds elt))) (dn (rds src) fl)) = dn (own ++ (rds src2 ++ (rds cond ++ rds elt))) (dn (rds src) fl) := fun h => dn_dn h
  rw [show dn (rds (.lc2 k src tg k2 src2 tg2 cond elt own own2)) fl = _ from dn_app _ _ _]
  have hom : ∀ i ∈ own, (dn (own ++ (rds src2 ++ (rds cond ++ rds elt))) (dn (rds src) fl))[i]? ≠ some true := fun i hi => dn_mem (by simp [hi])
  have main := s_lc2 (W := W) kx.calm (by rw [kx.hN]; exact kx.nd) (pi_dn (own ++ (rds src2 ++ (rds cond ++ rds elt))) (hi fl)) (blkOk_ok kx h4) (hs X.env) hs2
    (by rw [ownN_map]; exact sub_ok h5) (sub_ok h6) (by rw [ownN_map]; exact sub_ok h7) (by rw [ownN_map]; exact hom) (mem fun i hi => by simp [sub_ok h5 i hi]) (mem fun i hi => by simp [sub_ok h7 i (sub_ok h6 i hi)])
    (fun s H C cc fp => chkT_ok (kb s H C cc fp) h8 _) (fun s H C cc fp => by
      have := (hi2 s H C cc fp).1 (dn (own ++ (rds src2 ++ (rds cond ++ rds elt))) (dn (rds src) fl))
      rw [mem fun i hi => by simp [hi], not_of' h3] at this
      exact this)
    (fun s H C cc fp => chkT_ok (kb s H C cc fp) h9 _) (fun s H C cc fp => ifs_ok (kb s H C cc fp) ihc h10 (mem fun i hi => by simp [hi])) (elt := x) (pos := pos) (o1 := ownE c.fs elt) (fe := evE (c.cs.map (·.2)) cal elt) (fun s H C cc fp => by
      have := noBor ((ihe h12 _ _ (kb s H C cc fp)).1 (dn (own ++ (rds src2 ++ (rds cond ++ rds elt))) (dn (rds src) fl))) (not_of' h11)
      rw [mem fun i hi => by simp [hi]] at this
      exact this)
  rw [ownN_map] at main
  have e : evE (c.cs.map (·.2)) cal (.lc2 k src tg k2 src2 tg2 cond elt own own2) = fun e => (((evE (c.cs.map (·.2)) cal src e).bind unL).bind (itD k)).bind fun l => (lcGo (fLc2 own tg (fun e1 => ((evE (c.cs.map (·.2)) cal src2 e1).bind unL).bind (itD k2)) own2 tg2 (fun s => (evE (c.cs.map (·.2)) cal cond s).bind truthy) (evE (c.cs.map (·.2)) cal elt) e) l).bind fun ys => grd (fitL ys.length) (.ok (.list ys)) := funext fun e => by
    rw [← fLc2_eq]
    rfl
  rw [e]
  exact main
end

theorem chk_ok {cl : Cls} {cal : Nat → List D → R D} (e : E) (c : SC) (n : Nd) : Mo cl cal e c n := by
  induction e, c, n using chk.induct with
  | case1 i x j k pos =>
    intro h X W kx
    cases eq_of_beq (show (i == j) = true from h)
    exact k_con (fun _ => pe_int) (fun _ _ => .int _) rfl rfl (fun _ => rfl) rfl rfl rfl kx
  | case2 s x t k pos =>
    intro h X W kx
    cases eq_of_beq (show (s == t) = true from h)
    exact k_con (fun _ => pe_str) (fun _ _ => .str _) rfl rfl (fun _ => rfl) rfl rfl rfl kx
  | case3 b x t k pos =>
    intro h X W kx
    cases eq_of_beq (show (b == t) = true from h)
    exact k_con (fun _ => pe_bl) (fun _ _ => .bl _) rfl rfl (fun _ => rfl) rfl rfl rfl kx
  | case4 x k pos => exact fun h X W kx => k_con (fun _ => pe_non) (fun _ _ => .non) rfl rfl (fun _ => rfl) rfl rfl rfl kx
  | case5 i c x pos => exact fun h X W kx => ok_e kx (fun fl => s_var (vis_ok kx h)) rfl rfl
  | case6 i c x pos => exact fun h X W kx => ok_e kx (fun fl => s_bor (vis_ok kx h)) rfl rfl
  | case7 j c x pos => exact k_glb
  | case8 o a b c x op y pos iha ihb => exact k_bin iha ihb
  | case9 a c x pos ih => exact k_neg ih
  | case10 o a b c x op y pos iha ihb => exact k_cmp iha ihb
  | case11 o a b o2 d c x p q y z pos iha ihb ihd => exact k_chn iha ihb ihd
  | case12 a b c x y r pos iha ihb => exact k_and iha ihb
  | case13 a b c x y r pos iha ihb => exact k_or iha ihb
  | case14 a c op x pos ih => exact k_one ih
  | case15 a c x pos ih => exact k_not ih
  | case16 t a b c x y z pos iht iha ihb => exact k_ite iht iha ihb
  | case17 x => exact fun h X W kx => ⟨fun fl => s_nil, fun y e => nomatch e⟩
  | case18 a r c x es iha ihr => exact k_cons iha ihr
  | case19 es c xs k pos ih => exact k_tup ih
  | case20 es c xs pos ih => exact k_lst ih
  | case21 a es c x sp xs pos iha ih => exact k_lsts iha ih
  | case22 c pos => exact k_emp
  | case23 a b c x y pos iha ihb => exact k_idx iha ihb
  | case24 a lo hi c x l h p q iha ihl ihh => exact k_slc iha ihl ihh
  | case25 f es c x p y ys q ih => exact k_call ih
  | case26 b es c x p y ys q ih => exact k_blt ih
  | case27 js a es c xs lp x sp y ys q iha ih => exact k_dsp iha ih
  | case28 a b c x y pos iha ihb => exact k_rep iha ihb
  | case29 es c x p y ys q ih => exact k_gcd ih
  | case30 a b c x m ap y pos iha ihb => exact k_sidx iha ihb
  | case31 a b c x m ap y pos iha ihb => exact k_lidx iha ihb
  | case32 a b c x y sp p iha ihb => exact k_lst1s iha ihb
  | case33 a c l lp s sp x p q iha => exact k_lens iha
  | case34 a c l lp s sp x p q iha => exact k_sset iha
  | case35 a c x k q1 q2 q3 q iha => exact k_rev iha
  | case36 kvs b c ks vs dp m ap y pos ihb => exact k_dg ihb
  | case37 o1 a b o2 d o3 g c x p q r y z w pos iha ihb ihd ihg => exact k_chn3 iha ihb ihd ihg
  | case38 k src tg cond elt own c x t it ifs scope pos ihs ihc ihe => exact k_lc ihs ihc ihe
  | case39 k src tg k2 src2 tg2 cond elt own own2 c x t it t2 it2 ifs scope pos ihs ihs2 ihc ihe => exact k_lc2 ihs ihs2 ihc ihe
  | case40 a b c x y pos iha ihb => exact k_dc1 iha ihb
  | case41 k src tg cond kx vx own c x y t it ifs scope pos ihs ihc ihk ihv => exact k_dcc ihs ihc ihk ihv
  | case42 t x n =>
    intro h
    rw [chk.eq_42 t x n (by assumption) (by assumption) (by assumption) (by assumption) (by assumption) (by assumption) (by assumption) (by assumption) (by assumption) (by assumption) (by assumption) (by assumption) (by assumption) (by assumption) (by assumption) (by assumption) (by assumption) (by assumption) (by assumption) (by assumption) (by assumption) (by assumption) (by assumption) (by assumption) (by assumption) (by assumption) (by assumption) (by assumption) (by assumption) (by assumption) (by assumption) (by assumption) (by assumption) (by assumption) (by assumption) (by assumption) (by assumption) (by assumption) (by assumption) (by assumption) (by assumption)] at h
    cases h
end Mt
/-! Part M: statements. -/
namespace Mt
open PySem PySem.Spec PyProof.Rows L2

/-! ### what a statement touches, how it leaves the flags -/
def NB.tch : NB → List Nat
  | .ext ix x => rds ix ++ rds x
  | .loop _ src tg b => rds src ++ (tg.slots ++ b.tch)
def nestT (i : Nat) (src : E) (own : List Nat) (nb : NB) : List Nat := rds src ++ (own ++ (i :: nb.tch))
def ends : S → Bool
  | .seq a b => ends a || ends b
  | .ite _ a b => ends a && ends b
  | .ret _ => true
  | .stop => true
  | .raise _ _ => true
  | .tryN _ _ _ b => ends b
  | .nest _ _ _ _ _ _ b => ends b
  | _ => false
def tch : S → List Nat
  | .seq a b => tch a ++ tch b
  | .set tg x => rds x ++ tg.slots
  | .par i j es => rds es ++ [i, j]
  | .ite t a b => rds t ++ (tch a ++ tch b)
  | .for_ _ src tg body => rds src ++ (tg.slots ++ tch body)
  | .while_ t body => rds t ++ tch body
  | .ret x => rds x
  | .drop x => rds x
  | .app _ x => rds x
  | .ext _ x => rds x
  | .raise _ x => rds x
  | .put _ k v => rds v ++ rds k
  | .puti _ k v => rds v ++ rds k
  | .tryN _ _ _ b => tch b
  | .nest i _ src _ own nb b => nestT i src own nb ++ tch b
  | .forK i tg body => i :: (tg.slots ++ tch body)
  | _ => []
def meet (fa fb : List Bool) : List Bool := List.zipWith (fun a b => a && b) fa fb
def setFl (fs : List (Str × Nat × Bool)) (tg : T) (x : E) (fl : List Bool) : List Bool := match tg with
  | .nm i => if (ownE fs x && !borE x) = true then (dn (rds x) fl).set i true else (dn (rds x) fl).set i false
  | tg => dn tg.slots (dn (rds x) fl)
def flS (fs : List (Str × Nat × Bool)) : S → List Bool → List Bool
  | .seq a b, fl => flS fs b (flS fs a fl)
  | .set tg x, fl => setFl fs tg x fl
  | .par i j es, fl => dn [i, j] (dn (rds es) fl)
  | .ite t a b, fl => if ends a = true then flS fs b (dn (rds t) fl) else if ends b = true then flS fs a (dn (rds t) fl) else meet (flS fs a (dn (rds t) fl)) (flS fs b (dn (rds t) fl))
  | .for_ _ src tg body, fl => dn (tg.slots ++ tch body) (dn (rds src) fl)
  | .while_ t body, fl => dn (rds t ++ tch body) fl
  | .drop x, fl => dn (rds x) fl
  | .app _ x, fl => dn (rds x) fl
  | .ext _ x, fl => dn (rds x) fl
  | .tryN _ _ _ b, fl => flS fs b fl
  | .nest i _ src _ own nb b, fl => flS fs b (dn (nestT i src own nb) fl)
  | .forK i tg body, fl => dn (i :: (tg.slots ++ tch body)) fl
  | .put _ k v, fl => dn (rds k) (dn (rds v) fl)
  | .puti _ k v, fl => dn (rds k) (dn (rds v) fl)
  | _, fl => fl
theorem dn_length : ∀ (is : List Nat) (fl : List Bool), (dn is fl).length = fl.length
  | [], _ => rfl
  | i :: is, fl => by
    show (dn is (fl.set i false)).length = _
    rw [dn_length is]
    simp
theorem meet_length {fa fb : List Bool} (h : fa.length = fb.length) : (meet fa fb).length = fa.length := by
  unfold meet
  rw [List.length_zipWith, h, Nat.min_self]
theorem setFl_length (fs : List (Str × Nat × Bool)) (tg : T) (x : E) (fl : List Bool) : (setFl fs tg x fl).length = fl.length := by
  unfold setFl
  split
  · split <;> simp [dn_length]
  · simp [dn_length]
theorem flS_length (fs : List (Str × Nat × Bool)) : ∀ (s : S) (fl : List Bool), (flS fs s fl).length = fl.length
  | .skip, _ => rfl
  | .seq a b, fl => by
    show (flS fs b (flS fs a fl)).length = _
    rw [flS_length fs b, flS_length fs a]
  | .set tg x, fl => setFl_length ..
  | .par i j es, fl => by simp [flS, dn_length]
  | .ite t a b, fl => by
    unfold flS
    split
    · rw [flS_length fs b, dn_length]
    · split
      · rw [flS_length fs a, dn_length]
      · rw [meet_length (by rw [flS_length fs a, flS_length fs b]), flS_length fs a, dn_length]
  | .for_ _ src tg body, fl => by simp [flS, dn_length]
  | .while_ t body, fl => by simp [flS, dn_length]
  | .ret _, _ => rfl
  | .drop x, fl => by simp [flS, dn_length]
  | .app _ x, fl => by simp [flS, dn_length]
  | .ext _ x, fl => by simp [flS, dn_length]
  | .stop, _ => rfl
  | .raise _ _, _ => rfl
  | .put _ k v, fl => by simp [flS, dn_length]
  | .puti _ k v, fl => by simp [flS, dn_length]
  | .tryN _ _ _ b, fl => flS_length fs b fl
  | .nest i _ src _ own nb b, fl => by
    show (flS fs b (dn (nestT i src own nb) fl)).length = _
    rw [flS_length fs b, dn_length]
  | .forK i tg body, fl => by simp [flS, dn_length]
theorem dn_out {is : List Nat} {fl : List Bool} {i : Nat} (h : i ∉ is) : (dn is fl)[i]? = fl[i]? := by rw [dn_get, if_neg h]
theorem meet_get {fa fb : List Bool} {i : Nat} : (meet fa fb)[i]? = match fa[i]?, fb[i]? with
    | some a, some b => some (a && b)
    | _, _ => none := by
  unfold meet
  rw [List.getElem?_zipWith]
  cases fa[i]? <;> cases fb[i]? <;> rfl
theorem flS_out (fs : List (Str × Nat × Bool)) : ∀ (s : S) (fl : List Bool) (i : Nat), i ∉ tch s → (flS fs s fl)[i]? = fl[i]?
  | .skip, _, _, _ => rfl
  | .seq a b, fl, i, h => by
    have h : i ∉ tch a ++ tch b := h
    rw [List.mem_append, not_or] at h
    show (flS fs b (flS fs a fl))[i]? = _
    rw [flS_out fs b _ i h.2, flS_out fs a _ i h.1]
  | .set tg x, fl, i, h => by
    have h : i ∉ rds x ++ tg.slots := h
    rw [List.mem_append, not_or] at h
    show (setFl fs tg x fl)[i]? = _
    cases tg with
    | nm j =>
      have hj : j ≠ i := fun z => h.2 (by simp [T.slots, z])
      unfold setFl
      dsimp only
      split <;> rw [List.getElem?_set_ne hj, dn_out h.1]
    | _ =>
      show (dn _ (dn (rds x) fl))[i]? = _
      rw [dn_out h.2, dn_out h.1]
  | .par a b es, fl, i, h => by
    have h : i ∉ rds es ++ [a, b] := h
    rw [List.mem_append, not_or] at h
    show (dn [a, b] (dn (rds es) fl))[i]? = _
    rw [dn_out h.2, dn_out h.1]
  | .ite t a b, fl, i, h => by
    have h : i ∉ rds t ++ (tch a ++ tch b) := h
    rw [List.mem_append, not_or, List.mem_append, not_or] at h
    have ea := flS_out fs a (dn (rds t) fl) i h.2.1
    have eb := flS_out fs b (dn (rds t) fl) i h.2.2
    unfold flS
    split
    · rw [eb, dn_out h.1]
    · split
      · rw [ea, dn_out h.1]
      · rw [meet_get, ea, eb, dn_out h.1]
        cases fl[i]? with
        | none => rfl
        | some v => cases v <;> rfl
  | .for_ _ src tg body, fl, i, h => by
    have h : i ∉ rds src ++ (tg.slots ++ tch body) := h
    rw [List.mem_append, not_or] at h
    show (dn (tg.slots ++ tch body) (dn (rds src) fl))[i]? = _
    rw [dn_out h.2, dn_out h.1]
  | .while_ t body, fl, i, h => dn_out h
  | .ret _, _, _, _ => rfl
  | .drop x, fl, i, h => dn_out h
  | .app _ x, fl, i, h => dn_out h
  | .ext _ x, fl, i, h => dn_out h
  | .stop, _, _, _ => rfl
  | .raise _ _, _, _, _ => rfl
  | .put _ k v, fl, i, h => by
    have h : i ∉ rds v ++ rds k := h
    rw [List.mem_append, not_or] at h
    show (dn (rds k) (dn (rds v) fl))[i]? = _
    rw [dn_out h.2, dn_out h.1]
  | .puti _ k v, fl, i, h => by
    have h : i ∉ rds v ++ rds k := h
    rw [List.mem_append, not_or] at h
    show (dn (rds k) (dn (rds v) fl))[i]? = _
    rw [dn_out h.2, dn_out h.1]
  | .tryN _ _ _ b, fl, i, h => flS_out fs b fl i h
  | .nest i' _ src _ own nb b, fl, i, h => by
    have h : i ∉ nestT i' src own nb ++ tch b := h
    rw [List.mem_append, not_or] at h
    show (flS fs b (dn (nestT i' src own nb) fl))[i]? = _
    rw [flS_out fs b _ i h.2, dn_out h.1]
  | .forK i' tg body, fl, i, h => dn_out h
theorem dn_flS (fs : List (Str × Nat × Bool)) (s : S) (fl : List Bool) {is : List Nat} (h : ∀ i ∈ tch s, i ∈ is) : dn is (flS fs s fl) = dn is fl := by
  apply List.ext_getElem?
  intro i
  rw [dn_get, dn_get]
  by_cases hi : i ∈ is
  · rw [if_pos hi, if_pos hi]
    by_cases hl : i < fl.length
    · have hl' : i < (flS fs s fl).length := by rw [flS_length]; exact hl
      simp [hl, hl']
    · have hl' : ¬i < (flS fs s fl).length := by rw [flS_length]; exact hl
      rw [List.getElem?_eq_none (by omega), List.getElem?_eq_none (by omega)]
  · rw [if_neg hi, if_neg hi]
    exact flS_out fs s fl i fun z => hi (h i z)
def offs (fb : List Bool) : List Nat := (List.range fb.length).filter fun i => fb[i]? != some true
theorem meet_dn {fa fb : List Bool} (h : fa.length = fb.length) : meet fa fb = dn (offs fb) fa := by
  apply List.ext_getElem?
  intro i
  rw [meet_get, dn_get]
  by_cases hl : i < fa.length
  · have hl' : i < fb.length := by omega
    have e1 : fa[i]? = some fa[i] := by simp [hl]
    have e2 : fb[i]? = some fb[i] := by simp [hl']
    rw [e1, e2]
    by_cases hb : fb[i] = true
    · rw [hb, if_neg (by simp [offs, hl', hb])]
      simp
    · have hb : fb[i] = false := by simpa using hb
      rw [hb, if_pos (by simp [offs, hl', hb])]
      simp
  · rw [List.getElem?_eq_none (show fa.length ≤ i by omega)]
    simp
theorem meet_comm {fa fb : List Bool} : meet fa fb = meet fb fa := by
  unfold meet
  exact List.zipWith_comm_of_comm fun a b => Bool.and_comm a b
theorem SR.meetL {K : PySem.W.Frag} {fa fb : List Bool} {G0 B G : Hp} {e : Sg} {σ : L2.St} {H : Hp} (r : SR K fa G0 B G e σ H) (h : fa.length = fb.length) : ∃ G', Same G G' ∧ SR K (meet fa fb) G0 B G' e σ H := by
  rw [meet_dn h]
  exact r.dn _
theorem SR.meetR {K : PySem.W.Frag} {fa fb : List Bool} {G0 B G : Hp} {e : Sg} {σ : L2.St} {H : Hp} (r : SR K fb G0 B G e σ H) (h : fa.length = fb.length) : ∃ G', Same G G' ∧ SR K (meet fa fb) G0 B G' e σ H := by
  rw [meet_comm]
  exact r.meetL h.symm

def nodupB : List Str → Bool
  | [] => true
  | x :: r => !r.contains x && nodupB r
theorem nodupB_ok : ∀ {l : List Str}, nodupB l = true → l.Nodup
  | [], _ => List.nodup_nil
  | x :: r, h => by
    obtain ⟨h1, h2⟩ := and_of (show (!r.contains x && nodupB r) = true from h)
    rw [List.nodup_cons]
    refine ⟨fun hm => ?_, nodupB_ok h2⟩
    rw [List.contains_iff_mem.mpr hm] at h1
    cases h1
/-! ### the reading of a statement -/
def Pso (K : PySem.W.Frag) (cl : Cls) (W : WX) (own : Bool) (D : Ends) (G0 B G : Hp) (flo : List Bool) : O → Prop
  | .nx e1 => ∀ G' σ' H', Same G G' → SR K flo G0 B G' e1 σ' H' → D.nx σ' H'
  | .rt d => ∀ G' H' v, Same G0 G' → (∀ p, G0 p = none → Hard B p → G' p = none) → Same G' H' → Same B H' → (if own = true then Own K B G' H' v d else Rp K G' v d) → D.rt v H'
  | .ex c a e1 => ∀ G' σ' H' dd va, Same G G' → SR K [] G0 B G' e1 σ' H' → H' dd = some (.xd [(Str.ofString "at", va)]) → Rp K G' va a → W (cl c) (some dd) σ' H'
  | .stk => False
def tS (K : PySem.W.Frag) (cl : Cls) (W : WX) (own : Bool) (fl flo : List Bool) (f : Sg → O) : TS := fun D σ H => ∃ G0 B G e, SR K fl G0 B G e σ H ∧ Pso K cl W own D G0 B G flo (f e)
section
variable {K : PySem.W.Frag} {cl : Cls} {W : WX} {own : Bool} {D D' : Ends} {G0 B G G' H H' : Hp} {fl flo fl1 fl2 : List Bool} {e : Sg} {σ : L2.St}
theorem Pso.grow {o : O} (h : Pso K cl W own D G0 B G flo o) (g : Same G G') : Pso K cl W own D G0 B G' flo o := by
  cases o with
  | nx e1 => exact fun G2 σ' H' g2 sr => h G2 σ' H' (g.trans g2) sr
  | rt d => exact h
  | ex c a e1 => exact fun G2 σ' H' dd va g2 => h G2 σ' H' dd va (g.trans g2)
  | stk => exact h
/-- to other flags, another way on -/
theorem Pso.to {o : O} (h : Pso K cl W own D G0 B G flo o) (hr : D'.rt = D.rt) (hn : ∀ e1, o = .nx e1 → ∀ G' σ' H', Same G G' → SR K fl1 G0 B G' e1 σ' H' → D'.nx σ' H') : Pso K cl W own D' G0 B G fl1 o := by
  cases o with
  | nx e1 => exact hn e1 rfl
  | rt d =>
    show ∀ G' H' v, _ → _ → _ → _ → _ → D'.rt v H'
    rw [hr]
    exact h
  | ex c a e1 => exact h
  | stk => exact h
/-- an expression ahead -/
theorem Pso.of_go {α : Type} {r : R α} {f : α → O} (h : Pso K cl W own D G0 B G flo (r.go e f)) : Pst K cl W G0 B G e σ H r fun a => Pso K cl W own D G0 B G flo (f a) := by
  cases r with
  | ok a => exact h
  | exc c a => exact fun G' H' dd va g s sr hd hv => h G' σ H' dd va g sr hd hv
  | stuck => exact h.elim
theorem Pso.seq {o : O} {g : Sg → O} (h : Pso K cl W own D G0 B G flo (o.seq g)) : Pso K cl W own { D with nx := tS K cl W own fl1 flo g D } G0 B G fl1 o := by
  cases o with
  | nx e1 => exact fun G' σ' H' gg sr => ⟨G0, B, G', e1, sr, Pso.grow h gg⟩
  | rt d => exact h
  | ex c a e1 => exact h
  | stk => exact h.elim
end
end Mt
/-! Part N: each statement's rule. -/
namespace Mt
open PySem PySem.Spec PyProof.Rows L2

theorem mask_length : ∀ (a b : Sg), (mask a b).length = b.length
  | _, [] => by simp [mask]
  | [], x :: s => by simp [mask]
  | none :: r, _ :: s => by simp [mask, mask_length r s]
  | some _ :: r, x :: s => by simp [mask, mask_length r s]
theorem mask_le : ∀ {a b : Sg} {j : Nat} {d : D}, (mask a b)[j]? = some (some d) → b[j]? = some (some d)
  | _, [], j, d, h => by simp [mask] at h
  | [], x :: s, j, d, h => by simpa [mask] using h
  | none :: r, _ :: s, 0, d, h => by simp [mask] at h
  | none :: r, _ :: s, j + 1, d, h => by
    have := mask_le (a := r) (b := s) (j := j) (d := d) (by simpa [mask] using h)
    simpa using this
  | some _ :: r, x :: s, 0, d, h => by simpa [mask] using h
  | some _ :: r, x :: s, j + 1, d, h => by
    have := mask_le (a := r) (b := s) (j := j) (d := d) (by simpa [mask] using h)
    simpa using this
theorem asg_nx : ∀ {t : T} {d : D} {e : Sg} {c : Str} {a : D}, asg t d e ≠ .exc c a
  | .nm i, d, e, c, a, h => by unfold asg at h; cases h
  | .nil, d, e, c, a, h => by
    unfold asg at h
    split at h <;> first
      | (cases h; done)
      | skip
    all_goals first | (rename_i q _; cases q; done) | (rename_i q; cases q; done) | (cases h; done)
  | .cons p q, d, e, c, a, h => by
    cases d with
    | tuple ds =>
      cases ds with
      | nil => unfold asg at h; cases h
      | cons x r =>
        have h' : ((asg p x e).bind fun e2 => asg q (.tuple r) e2) = .exc c a := by unfold asg at h; exact h
        cases h2 : asg p x e with
        | ok e2 =>
          rw [h2] at h'
          exact asg_nx (show asg q (.tuple r) e2 = .exc c a from h')
        | exc c' a' => exact asg_nx h2
        | stuck => rw [h2] at h'; cases h'
    | _ => unfold asg at h; cases h
  | .tup n ts, d, e, c, a, h => by
    have h0 : (match unk d with
      | .tuple xs => grd (xs.length == n) (asg ts (.tuple xs) e)
      | _ => .stuck) = .exc c a := by unfold asg at h; exact h
    split at h0
    · rename_i xs _
      cases hb : (xs.length == n) with
      | true => rw [hb] at h0; exact asg_nx (t := ts) h0
      | false => rw [hb] at h0; cases h0
    · cases h0

section
variable {X : Cx} {cl : Cls} {W : WX} {own : Bool} {fl fl1 fl2 flb : List Bool} {f g : Sg → O} {st : Stmt} {rest : List Stmt}
theorem st_skip : PSs X [] (tS X.K cl W own fl fl .nx) := pss_nil.imp fun D σ H q => by
  obtain ⟨G0, B, G, e, sr, p⟩ := q
  exact p G σ H (Same.refl G) sr
theorem st_seq (h1 : PS X st (tS X.K cl W own fl fl1 f)) (h2 : PSs X rest (tS X.K cl W own fl1 fl2 g)) : PSs X (st :: rest) (tS X.K cl W own fl fl2 fun e => (f e).seq g) := (pss_cons h1 h2).imp fun D σ H q => by
  obtain ⟨G0, B, G, e, sr, p⟩ := q
  exact ⟨G0, B, G, e, sr, p.seq⟩
theorem st_stop : PS X st (tS X.K cl W own fl fl1 fun _ => .stk) := ps_never.imp fun D σ H q => by
  obtain ⟨G0, B, G, e, sr, p⟩ := q
  exact p
theorem sts_stop {sts : List Stmt} : PSs X sts (tS X.K cl W own fl fl1 fun _ => .stk) := pss_never.imp fun D σ H q => by
  obtain ⟨G0, B, G, e, sr, p⟩ := q
  exact p
variable {fe : Sg → R D} {a : Expr} {y : Str} {py pos : Pos} {i : Nat} {oe : Bool}
theorem go_nm (d : D) (e : Sg) : (asg (.nm i) d e).go e O.nx = .nx (e.set i (some d)) := by
  unfold asg
  rfl
theorem st_setF {bor : Bool} (hb : bor = false) (h : PS X (.Assign [.Name y py] a pos) (tAsg (tE X.K cl W fl fl1 oe bor fe) (gName i))) :
    PS X (.Assign [.Name y py] a pos) (tS X.K cl W own fl (fl1.set i false) fun e => (fe e).go e fun d => (asg (.nm i) d e).go e .nx) := h.imp fun D σ H q => by
  obtain ⟨G0, B, G, e, sr, p⟩ := q
  refine ⟨G0, B, G, e, sr, p.of_go.imp fun d p1 G1 H1 x g1 s1 sr1 ax rx => ?_⟩
  rw [go_nm] at p1
  obtain ⟨G2, g2, sr2, r2⟩ := (rx hb).frz sr1
  exact p1 G2 _ H1 (g1.trans g2) (sr2.setF r2 i)
theorem st_setO {bor : Bool} (hb : bor = false) (ho : oe = true) (hi : i < fl1.length) (h : PS X (.Assign [.Name y py] a pos) (tAsg (tE X.K cl W fl fl1 oe bor fe) (gName i))) :
    PS X (.Assign [.Name y py] a pos) (tS X.K cl W own fl (fl1.set i true) fun e => (fe e).go e fun d => (asg (.nm i) d e).go e .nx) := h.imp fun D σ H q => by
  obtain ⟨G0, B, G, e, sr, p⟩ := q
  refine ⟨G0, B, G, e, sr, p.of_go.imp fun d p1 G1 H1 x g1 s1 sr1 ax rx => ?_⟩
  rw [go_nm] at p1
  have r := rx hb
  rw [ho] at r
  exact p1 G1 _ H1 g1 (sr1.setO r hi)
theorem st_asg {tg : Expr} {t : T} {bor : Bool} (hb : bor = false) (he : PE X a (tE X.K cl W fl fl1 oe bor fe)) (hg : PG X tg (gD X.K fl1 t)) (hs : swapsWithSole [tg] a pos.line X.env = pure false) (hw : swappedStores [tg] a X.env = pure none)
    (h1 : (assignEach [tg] X.env).map (·.2) = [assign tg X.env]) : PS X (.Assign [tg] a pos) (tS X.K cl W own fl (dn t.slots fl1) fun e => (fe e).go e fun d => (asg t d e).go e .nx) := (ps_asg he hg hs hw h1).imp fun D σ H q => by
  obtain ⟨G0, B, G, e, sr, p⟩ := q
  refine ⟨G0, B, G, e, sr, p.of_go.imp fun d p1 G1 H1 x g1 s1 sr1 ax rx => ?_⟩
  obtain ⟨G2, g2, sr2, r2⟩ := (rx hb).frz sr1
  cases ha : asg t d e with
  | ok e1 =>
    rw [ha] at p1
    exact ⟨G0, B, G2, e, d, sr2, r2, e1, ha, fun σ' _ _ sr3 => p1 G2 σ' H1 (g1.trans g2) sr3⟩
  | exc c a => exact absurd ha asg_nx
  | stuck => rw [ha] at p1; exact p1.elim
theorem st_par {j : Nat} {x : Str} {b : Expr} {px pt pt2 : Pos} {kt k2 : Nat} (hc : X.calm = true) (hN : X.N.Nodup) (hi : X.N[i]? = some x) (hj : X.N[j]? = some y) (hij : i ≠ j)
    (hx : X.env.scope.names.lookup x = some .local) (hy : X.env.scope.names.lookup y = some .local) (ha : PA X [a, b] (tA X.K cl W fl fl1 false fe))
    (hw : swappedStores [.Tuple [.Name x px, .Name y py] kt pt] (.Tuple [a, b] k2 pt2) X.env = pure (some [x, y])) :
    PS X (.Assign [.Tuple [.Name x px, .Name y py] kt pt] (.Tuple [a, b] k2 pt2) pos) (tS X.K cl W own fl (dn [i, j] fl1) fun e => ((fe e).bind unL).go e fun l => match l with
      | [x, y] => .nx ((e.set i (some x)).set j (some y))
      | _ => .stk) := (ps_par hc hN hi hj hij hx hy ha hw rfl).imp fun D σ H q => by
  obtain ⟨G0, B, G, e, sr, p⟩ := q
  refine ⟨G0, B, G, e, sr, p.of_go.imp fun ds p1 G1 H1 vs g1 s1 sr1 _ rl => ?_⟩
  have r := rl rfl
  match ds, vs, r, p1 with
  | [d1, d2], _, .cons r1 (.cons r2 .nil), p1 =>
    exact ⟨_, _, rfl, p1 G1 _ H1 g1 ((sr1.setF r1 i).setF r2 j)⟩
  | [], _, _, p1 => exact p1.elim
  | [_], _, _, p1 => exact p1.elim
  | _ :: _ :: _ :: _, _, _, p1 => exact p1.elim
theorem st_drop {bor : Bool} (he : PE X a (tE X.K cl W fl fl1 oe bor fe)) (hs : swapsWith a none pos.line X.env = pure false) : PS X (.Expr a pos) (tS X.K cl W own fl fl1 fun e => (fe e).go e fun _ => .nx e) := (ps_expr he hs).imp fun D σ H q => by
  obtain ⟨G0, B, G, e, sr, p⟩ := q
  exact ⟨G0, B, G, e, sr, p.of_go.imp fun d p1 G1 H1 x g1 s1 sr1 ax rx => p1 G1 σ H1 g1 sr1⟩
theorem st_ret {bor : Bool} (hb : bor = false) (ho : own = true → oe = true) (he : PE X a (tE X.K cl W fl fl1 oe bor fe)) : PS X (.Return (some a) pos) (tS X.K cl W own fl fl2 fun e => (fe e).go e .rt) := (ps_ret he).imp fun D σ H q => by
  obtain ⟨G0, B, G, e, sr, p⟩ := q
  refine ⟨G0, B, G, e, sr, p.of_go.imp fun d p1 G1 H1 x g1 s1 sr1 ax rx => ?_⟩
  by_cases hw : own = true
  · have r := rx hb
    rw [ho hw] at r
    unfold RsE at r
    rw [if_pos rfl] at r
    exact p1 G1 H1 x sr1.g0 sr1.nw sr1.gh sr1.bh (by rw [if_pos hw]; exact r.1)
  · obtain ⟨G2, g2, sr2, r2⟩ := (rx hb).frz sr1
    exact p1 G2 H1 x sr2.g0 sr2.nw sr2.gh sr2.bh (by rw [if_neg hw]; exact r2)
theorem st_retB (hf : fl[i]? = some true) (h : PE X a (tVar i)) : PS X (.Return (some a) pos) (tS X.K cl W own fl fl2 fun e => (getS e i).go e .rt) := (ps_ret h).imp fun D σ H q => by
  obtain ⟨G0, B, G, e, sr, p⟩ := q
  have p := p.of_go (σ := σ) (H := H)
  obtain ⟨d, hd, k⟩ := Pst.of p fun _ _ => getS_nx
  obtain ⟨v, h1, h2⟩ := sr.own i d (getS_ok hd) hf
  by_cases hw : own = true
  · exact ⟨v, h1, k G H v sr.g0 sr.nw sr.gh sr.bh (by rw [if_pos hw]; exact h2)⟩
  · obtain ⟨G1, g1, sr1⟩ := sr.frz i
    obtain ⟨v', h1', h2'⟩ := sr1.fro i d (getS_ok hd) (by
      rw [List.getElem?_set_self']
      cases fl[i]? <;> simp)
    rw [h1] at h1'
    cases h1'
    exact ⟨v, h1, k G1 H v sr1.g0 sr1.nw sr1.gh sr1.bh (by rw [if_neg hw]; exact h2')⟩
theorem st_ret0 : PS X (.Return none pos) (tS X.K cl W own fl fl2 fun e => .rt .none) := ps_retN.imp fun D σ H q => by
  obtain ⟨G0, B, G, e, sr, p⟩ := q
  refine p G H .non sr.g0 sr.nw sr.gh sr.bh ?_
  split
  · unfold Own
    rw [if_neg (by decide)]
    exact .non
  · exact .non
theorem st_ite {c : Expr} {sa sb : List Stmt} {fc : Sg → R D} {fa fb : List Bool} (hc : PT X c (tT X.K cl W fl fl1 fun e => (fc e).bind truthy)) (ha : PSs X sa (tS X.K cl W own fl1 fa f)) (hb : PSs X sb (tS X.K cl W own fl1 fb g))
    (ta : ∀ e e1, f e = .nx e1 → ∀ {G0 B G : Hp} {σ : L2.St} {H : Hp}, SR X.K fa G0 B G e1 σ H → ∃ G', Same G G' ∧ SR X.K fl2 G0 B G' e1 σ H) (tb : ∀ e e1, g e = .nx e1 → ∀ {G0 B G : Hp} {σ : L2.St} {H : Hp}, SR X.K fb G0 B G e1 σ H → ∃ G', Same G G' ∧ SR X.K fl2 G0 B G' e1 σ H) :
    PS X (.If c sa sb pos) (tS X.K cl W own fl fl2 fun e => (fc e).go e fun x => (truthy x).go e fun t => if t = true then f e else g e) := (ps_if hc ha hb).imp fun D σ H q => by
  obtain ⟨G0, B, G, e, sr, p⟩ := q
  have p' := p.of_go (σ := σ) (H := H)
  refine ⟨G0, B, G, e, sr, ?_⟩
  show Pst X.K cl W G0 B G e σ H ((fc e).bind truthy) _
  cases hk : fc e with
  | ok x =>
    rw [hk] at p'
    have p2 : Pso X.K cl W own D G0 B G fl2 ((truthy x).go e fun t => if t = true then f e else g e) := p'
    show Pst X.K cl W G0 B G e σ H (truthy x) _
    refine p2.of_go.imp fun t p3 G1 H1 g1 s1 sr1 => ?_
    cases t with
    | true =>
      rw [if_pos rfl] at p3 ⊢
      refine ⟨G0, B, G1, e, sr1, (p3.grow g1).to rfl fun e1 he G' σ' H' gg srr => ?_⟩
      obtain ⟨G2, g2, sr2⟩ := ta e e1 he srr
      rw [he] at p3
      exact p3 G2 σ' H' ((g1.trans gg).trans g2) sr2
    | false =>
      rw [if_neg Bool.false_ne_true] at p3 ⊢
      refine ⟨G0, B, G1, e, sr1, (p3.grow g1).to rfl fun e1 he G' σ' H' gg srr => ?_⟩
      obtain ⟨G2, g2, sr2⟩ := tb e e1 he srr
      rw [he] at p3
      exact p3 G2 σ' H' ((g1.trans gg).trans g2) sr2
  | exc c a => rw [hk] at p'; exact p'
  | stuck => rw [hk] at p'; exact p'.elim
theorem for_imp {K : PySem.W.Frag} {t : T} {its : Sg → R (List D)} {fb : Sg → O} {L : List Nat} {fl fl2 flb : List Bool} {D : Ends} {σ : L2.St} {H : Hp} (e1 : dn t.slots fl2 = fl2) (e2 : dn L flb = fl2)
    (q : tS K cl W own fl fl2 (fun e => (its e).go e fun l => forGo (fun x e => (asg t x e).go e fun e1 => fb e1) l e) D σ H) : tFor (tI K cl W fl fl2 false its) (gD K fl2 t) (tS K cl W own fl2 flb fb) D σ H := by
  obtain ⟨G0, B, G, e, sr, p⟩ := q
  refine ⟨G0, B, G, e, sr, p.of_go.imp fun l p1 G1 H1 J g1 s1 sr1 _ itf => ?_⟩
  have itf := itf rfl
  generalize hF : (fun (x : PyData) (e : Sg) => (asg t x e).go e fun e1 => fb e1) = F at p1
  have p1 := p1.grow g1
  refine ⟨fun i m σ' H' => m = l.length - i ∧ i ≤ l.length ∧ ∃ G2 e2, SR K fl2 G0 B G2 e2 σ' H' ∧ Same G1 G2 ∧ forGo F (l.drop i) e2 = forGo F l e, ⟨l.length, by simp, Nat.zero_le _, G1, e, sr1, Same.refl G1, rfl⟩, ?_⟩
  rintro i m σ2 H2 ⟨rfl, hi2, G2, e2', sr2, g2, ho⟩
  by_cases hlt : i < l.length
  · have hx : l[i]? = some l[i] := by simp [hlt]
    rw [List.drop_eq_getElem_cons hlt] at ho
    have ho : ((F l[i] e2').seq fun e1 => forGo F (l.drop (i + 1)) (mask e2' e1)) = forGo F l e := ho
    refine .inr ⟨itf.go i G2 H2 hlt g2 sr2.gh, fun σ' H' => ∃ G3 e3, SR K fl2 G0 B G3 e3 σ' H' ∧ Same G1 G3 ∧ forGo F (l.drop (i + 1)) e3 = forGo F l e, fun σ' H' h => ⟨l.length - (i + 1), by omega, rfl, hlt, h⟩, fun v H3 hy => ?_⟩
    obtain ⟨s3, rs⟩ := itf.yld i l[i] G2 H2 v H3 hx g2 sr2.gh hy
    obtain ⟨G3, g3, sr3, rs3⟩ := settleK sr2 s3 rs
    have hFx : F l[i] e2' = (asg t l[i] e2').go e2' fun e1 => fb e1 := by rw [← hF]
    cases ha : asg t l[i] e2' with
    | ok e4 =>
      rw [ha] at hFx
      have hFx : F l[i] e2' = fb e4 := hFx
      rw [hFx] at ho
      refine ⟨G0, B, G3, e2', l[i], sr3, rs3.frozen, e4, ha, fun σ4 _ _ sr4 => ?_⟩
      rw [e1] at sr4
      refine ⟨G0, B, G3, e4, sr4, ?_⟩
      cases hb2 : fb e4 with
      | nx e5 =>
        rw [hb2] at ho
        intro G5 σ5 H5 g5 sr5
        obtain ⟨G6, g6, sr6⟩ := sr5.dn L
        rw [e2] at sr6
        exact ⟨G6, mask e2' e5, sr6.less (by rw [mask_length]; exact sr6.len) fun j d hj => ⟨mask_le hj, rfl⟩, ((g2.trans g3).trans g5).trans g6, ho⟩
      | rt d =>
        rw [hb2] at ho
        have ho : O.rt d = forGo F l e := ho
        rw [← ho] at p1
        exact p1
      | ex c a e5 =>
        rw [hb2] at ho
        have ho : O.ex c a e5 = forGo F l e := ho
        rw [← ho] at p1
        exact fun G' σ' H' dd va g => p1 G' σ' H' dd va ((g2.trans g3).trans g)
      | stk =>
        rw [hb2] at ho
        have ho : O.stk = forGo F l e := ho
        rw [← ho] at p1
        exact p1.elim
    | exc c a => exact absurd ha asg_nx
    | stuck =>
      rw [ha] at hFx
      rw [hFx] at ho
      have ho : O.stk = forGo F l e := ho
      rw [← ho] at p1
      exact p1.elim
  · have e3 : i = l.length := by omega
    subst e3
    rw [List.drop_length] at ho
    have ho : O.nx e2' = forGo F l e := ho
    rw [← ho] at p1
    exact .inl ⟨itf.stop _ G2 H2 (Nat.le_refl _) g2 sr2.gh, p1 G2 σ2 H2 g2 sr2⟩
theorem st_for {tg it : Expr} {t : T} {body : List Stmt} {its : Sg → R (List D)} {fb : Sg → O} {L : List Nat} (hp : PassesOwn (model X.prog X.w) X.A X.env X.xe) (hc : X.calm = true) (hi : PI X tg it (tI X.K cl W fl fl2 false its)) (hg : PG X tg (gD X.K fl2 t))
    (hb : PSs X body (tS X.K cl W own fl2 flb fb)) (hs : ∀ x, foldedSetIterable it X.env x = pure x) (e1 : dn t.slots fl2 = fl2) (e2 : dn L flb = fl2) :
    PS X (.For tg it body [] pos) (tS X.K cl W own fl fl2 fun e => (its e).go e fun l => forGo (fun x e => (asg t x e).go e fun e1 => fb e1) l e) := (ps_for hp hc hi hg hb hs).imp fun D σ H q => for_imp e1 e2 q
theorem st_while {c : Expr} {body : List Stmt} {fc : Sg → R Bool} {fb : Sg → O} {L : List Nat} {n : Nat} (hp : PassesOwn (model X.prog X.w) X.A X.env X.xe) (hc : PT X c (tT X.K cl W fl2 fl2 fc)) (hb : PSs X body (tS X.K cl W own fl2 flb fb))
    (e0 : dn L fl = fl2) (e2 : dn L flb = fl2) : PS X (.While c body [] pos) (tS X.K cl W own fl fl2 fun e => whileGo fc fb n e) := (ps_while hp hc hb).imp fun D σ H q => by
  obtain ⟨G0, B, G, e, sr, p⟩ := q
  obtain ⟨G1, g1, sr1⟩ := sr.dn L
  rw [e0] at sr1
  have p1 := p.grow g1
  refine ⟨fun m σ' H' => ∃ G2 e2, SR X.K fl2 G0 B G2 e2 σ' H' ∧ Same G1 G2 ∧ whileGo fc fb m e2 = whileGo fc fb n e, ⟨n, G1, e, sr1, Same.refl G1, rfl⟩, ?_⟩
  rintro m σ2 H2 ⟨G2, e2', sr2, g2, ho⟩
  have p2 := p1.grow g2
  dsimp only at p2
  rw [← ho] at p2
  cases m with
  | zero => exact p2.elim
  | succ m =>
    have p2 : Pso X.K cl W own D G0 B G2 fl2 ((fc e2').go e2' fun t => if t = true then (fb e2').seq fun e1 => whileGo fc fb m (mask e2' e1) else .nx e2') := p2
    have ho : ((fc e2').go e2' fun t => if t = true then (fb e2').seq fun e1 => whileGo fc fb m (mask e2' e1) else .nx e2') = whileGo fc fb n e := ho
    refine ⟨G0, B, G2, e2', sr2, ?_⟩
    cases hcv : fc e2' with
    | ok t =>
      rw [hcv] at p2 ho
      intro G3 H3 g3 s3 sr3
      cases t with
      | false =>
        have p3 : Pso X.K cl W own D G0 B G2 fl2 (.nx e2') := p2
        exact p3 G3 σ2 H3 g3 sr3
      | true =>
        rw [if_pos rfl]
        have p3 : Pso X.K cl W own D G0 B G2 fl2 ((fb e2').seq fun e1 => whileGo fc fb m (mask e2' e1)) := p2
        have ho : ((fb e2').seq fun e1 => whileGo fc fb m (mask e2' e1)) = whileGo fc fb n e := ho
        refine ⟨fun σ' H' => ∃ G4 e4, SR X.K fl2 G0 B G4 e4 σ' H' ∧ Same G1 G4 ∧ whileGo fc fb m e4 = whileGo fc fb n e, fun σ' H' h => ⟨m, Nat.lt_succ_self m, h⟩, G0, B, G3, e2', sr3, ?_⟩
        cases hbv : fb e2' with
        | nx e5 =>
          rw [hbv] at ho
          intro G5 σ5 H5 g5 sr5
          obtain ⟨G6, g6, sr6⟩ := sr5.dn L
          rw [e2] at sr6
          exact ⟨G6, mask e2' e5, sr6.less (by rw [mask_length]; exact sr6.len) fun j d hj => ⟨mask_le hj, rfl⟩, ((g2.trans g3).trans g5).trans g6, ho⟩
        | rt d =>
          rw [hbv] at p3
          exact p3
        | ex c a e5 =>
          rw [hbv] at p3
          exact Pso.grow (o := .ex c a e5) p3 g3
        | stk =>
          rw [hbv] at p3
          exact p3.elim
    | exc c a => rw [hcv] at p2; exact fun G' H' dd va g s srr hd hv => p2 G' σ2 H' dd va g srr hd hv
    | stuck => rw [hcv] at p2; exact p2.elim
end
end Mt
/-! Part N2: a dict's keys walked: `for k in d`, d a name that is not owned. -/
namespace Mt
open PySem PySem.Spec PyProof.Rows L2
theorem keysD_ok {d : D} {l : List D} (h : keysD d = .ok l) : ∃ kds m, d = .dict kds ∧ decG keyT kds = some m ∧ l = m.map fun p => kT p.1 := by
  unfold keysD at h
  split at h
  · rename_i kds
    split at h
    · rename_i m hm
      cases h
      exact ⟨kds, m, rfl, hm, rfl⟩
    · cases h
  · cases h
theorem keysD_nx (d : D) (c : Str) (a : D) : keysD d ≠ .exc c a := by
  intro h
  unfold keysD at h
  split at h
  · split at h <;> cases h
  · cases h
/-- a locked dict in slot i -/
def LkAt (i : Nat) (σ : L2.St) (H : Hp) : Prop := ∃ p od kvs, σ[i]? = some (some (.ref p)) ∧ H p = some (.frz od (.dT kvs))
section
variable {K : PySem.W.Frag} {G H : Hp} {p : Addr} {kds : List (D × D)} {m : List (List Key × D)}
/-- where a dict stands -/
theorem dict_at {v : V} (h : Rp K G v (.dict kds)) (e : decG keyT kds = some m) : ∃ p l, v = .ref p ∧ Rd G p (.dT l) ∧ Zd K G l m := by
  generalize ed : PyData.dict kds = d at h
  cases h with
  | ktp _ _ => rw [(kt_noT ed).1] at e; cases e
  | dcK hl hr r =>
    cases ed
    exfalso
    have := decG_bad (h := kT) keyT_kD e
    have l2 := r.length
    rename_i a ks vs ds
    cases ks with
    | nil => exact hl.1 rfl
    | cons k ks =>
      cases ds with
      | nil => cases hl.2.trans l2
      | cons d ds => cases this
  | dcT hl hr r =>
    cases ed
    rw [decG_zip keyT_kT] at e
    cases e
    exact ⟨_, _, rfl, hr, Zd.zip r⟩
  | _ => cases ed
theorem zd_keys {l : List (List Key × V)} (z : Zd K G l m) : (m.map fun p => kT p.1) = l.map fun p => kT p.1 := by
  have e1 : (l.map fun p => kT p.1) = (l.map (·.1)).map kT := by rw [List.map_map]; rfl
  have e2 : (m.map fun p => kT p.1) = (m.map (·.1)).map kT := by rw [List.map_map]; rfl
  rw [e1, e2, z.keys]
theorem itk_frz {od : Obj} {kvs : List (List Key × V)} (h : G p = some (.frz od (.dT kvs))) : ItF K (Itkt p od kvs) G (kvs.map fun p => kT p.1) where
  go := fun i G2 H2 hi g gh => ⟨gh _ _ (g _ _ h), by simpa using hi⟩
  yld := fun i d G2 H2 x H3 hd g gh hy => by
    obtain ⟨rfl, k, v, q, e1, rfl, e3⟩ := hy
    rw [List.getElem?_map, e1] at hd
    cases hd
    exact ⟨Same.refl _, .inr ⟨q, k, rfl, rfl, e3⟩⟩
  stop := fun i G2 H2 hi g gh => ⟨gh _ _ (g _ _ h), by simpa using hi⟩
end
section
variable {X : Cx} {cl : Cls} {W : WX} {fl fl2 flb : List Bool} {own : Bool} {i : Nat}
theorem i_keys {tg a : Expr} (hf : fl[i]? ≠ some true) (ha : PE X a (tVar i)) : PI X tg a (fun σ H R => tI X.K cl W fl fl false (fun e => (getS e i).bind keysD) σ H R ∧ LkAt i σ H) := ⟨fun pins s σ H Q I q => by
  obtain ⟨⟨G0, B, G, e, sr, p⟩, a, od, kvs, hs, hk⟩ := q
  refine (pi_keys ha).run pins s σ H Q I ⟨.ref a, hs, a, od, rfl, .inr ⟨kvs, hk, ?_⟩⟩
  have p : Pst X.K cl W G0 B G e σ H ((getS e i).bind keysD) _ := p
  obtain ⟨its, hi, k⟩ := Pst.of p (bind_nx (fun c a => getS_nx) keysD_nx)
  cases hg : getS e i with
  | exc c b => rw [hg] at hi; cases hi
  | stuck => rw [hg] at hi; cases hi
  | ok d =>
    rw [hg] at hi
    obtain ⟨kds, m, rfl, hm, rfl⟩ := keysD_ok (show keysD d = .ok its from hi)
    have he : e[i]? = some (some (.dict kds)) := getS_ok hg
    obtain ⟨v, h1, h2⟩ := sr.fro i _ he hf
    obtain ⟨p', l, rfl, h3, z⟩ := dict_at h2 hm
    rw [hs] at h1
    cases h1
    have ga : G a = some (.frz od (.dT kvs)) ∧ l = kvs := by
      rcases h3 with h3 | ⟨o', h3⟩
      · have := sr.gh _ _ h3
        rw [hk] at this
        cases this
      · have := sr.gh _ _ h3
        rw [hk] at this
        cases this
        exact ⟨h3, rfl⟩
    obtain ⟨ga, rfl⟩ := ga
    rw [zd_keys z] at k
    exact k G H _ (Same.refl G) (Same.refl H) sr ((itk_frz ga).ok H) fun _ => itk_frz ga⟩
/-- the loop, the dict locked -/
theorem st_forK {tg a : Expr} {t : T} {body : List Stmt} {fb : Sg → O} {L : List Nat} {pos : Pos} (hp : PassesOwn (model X.prog X.w) X.A X.env X.xe) (hc : X.calm = true) (hf : fl[i]? ≠ some true) (ha : PE X a (tVar i)) (hg : PG X tg (gD X.K fl t))
    (hb : PSs X body (tS X.K cl W own fl flb fb)) (hs : ∀ x, foldedSetIterable a X.env x = pure x) (e1 : dn t.slots fl = fl) (e2 : dn L flb = fl) :
    PS X (.For tg a body [] pos) (fun D σ H => tS X.K cl W own fl fl (fun e => ((getS e i).bind keysD).go e fun l => forGo (fun x e => (asg t x e).go e fun e1 => fb e1) l e) D σ H ∧ LkAt i σ H) :=
  (ps_for hp hc (i_keys hf ha) hg hb hs).imp fun D σ H q => ⟨for_imp (flb := flb) e1 e2 q.1, q.2⟩
theorem same_ul {p : Addr} {kvs : List (List Key × V)} {od : Obj} {G G' : Hp} (g : Same (Lk p (.dT kvs) od G) G') (gp : ∀ o, G p = some o → o = .dT kvs) : Same G (Ul p (.dT kvs) od G') := fun q o h => by
  by_cases e : q = p
  · subst e
    cases gp _ h
    exact Ul.at (g _ _ (Lk.at h))
  · rw [Ul.off e]
    exact g _ _ (by rw [Lk.off e]; exact h)
/-- a statement that asks for a locked dict in slot i runs where the dict is not locked -/
theorem st_locked {st : Stmt} {f : Sg → O} {flo : List Bool} (hf : fl[i]? ≠ some true) (h : PS X st (fun D σ H => tS X.K cl W own fl flo f D σ H ∧ LkAt i σ H)) :
    PS X st (tS X.K cl W own fl flo fun e => ((getS e i).bind keysD).go e fun _ => (f e).calm) := ⟨fun pins s σ H D I q => by
  obtain ⟨G0, B, G, e, sr, p⟩ := q
  have p : Pso X.K cl W own D G0 B G flo (((getS e i).bind keysD).go e fun _ => (f e).calm) := p
  cases hd : (getS e i).bind keysD with
  | exc c a => exact absurd hd (bind_nx (fun c a => getS_nx) keysD_nx c a)
  | stuck => rw [hd] at p; exact p.elim
  | ok l =>
  rw [hd] at p
  have p : Pso X.K cl W own D G0 B G flo (f e).calm := p
  cases hg : getS e i with
  | exc c b => rw [hg] at hd; cases hd
  | stuck => rw [hg] at hd; cases hd
  | ok d =>
  rw [hg] at hd
  obtain ⟨kds, m, rfl, hm, _⟩ := keysD_ok (show keysD d = .ok l from hd)
  obtain ⟨v, h1, h2⟩ := sr.fro i _ (getS_ok hg) hf
  obtain ⟨a, kvs, rfl, h3, z⟩ := dict_at h2 hm
  rcases h3 with h3 | ⟨od, h3⟩
  · -- it is locked now
    refine (ps_lock h).run pins s σ H D I ⟨a, .dT kvs, sr.gh _ _ h3, trivial, fun od => ?_⟩
    rw [← Lk.upd (od := od) (sr.gh _ _ h3)]
    refine ⟨⟨_, _, _, e, sr.lock h3, ?_⟩, a, od, kvs, h1, Lk.at (sr.gh _ _ h3)⟩
    have only : ∀ o, G a = some o → o = .dT kvs := fun o ho => by rw [h3] at ho; cases ho; rfl
    have only0 : ∀ o, G0 a = some o → o = .dT kvs := fun o ho => only o (sr.g0 _ _ ho)
    have onlyB : ∀ o, B a = some o → o = .dT kvs := fun o ho => by
      have := sr.bh _ _ ho
      rw [sr.gh _ _ h3] at this
      cases this
      rfl
    cases ho : f e with
    | nx e1 =>
      rw [ho] at p
      intro G' σ' H' g sr'
      have gp' := g _ _ (Lk.at h3)
      have un := SR.unlock sr' sr h3 gp'
      refine ⟨sr'.gh _ _ gp', ?_⟩
      show D.nx σ' (L2.upd H' a (.dT kvs))
      rw [← Ul.upd (od := od) (sr'.gh _ _ gp')]
      exact p _ _ _ (same_ul g only) un
    | rt d =>
      rw [ho] at p
      intro G' H' v g nw gh bh ov
      have hp' : H' a = some (.frz od (.dT kvs)) := bh _ _ upd_same
      refine ⟨hp', ?_⟩
      show D.rt v (L2.upd H' a (.dT kvs))
      rw [← Ul.upd (od := od) hp']
      refine p (Ul a (.dT kvs) od G') _ v (same_ul g only0) (fun q z1 z2 => ?_) (Ul.same gh) (fun q o h => ?_) ?_
      · by_cases eq : q = a
        · subst eq
          have := sr.nw _ z1 z2
          rw [h3] at this
          cases this
        · rw [Ul.off eq]
          obtain ⟨o, k1, k2⟩ := z2
          exact nw q (by rw [Lk.off eq]; exact z1) ⟨o, by rw [upd_ne eq, Lk.off eq]; exact k1, k2⟩
      · by_cases eq : q = a
        · subst eq
          cases onlyB _ h
          exact Ul.at hp'
        · rw [Ul.off eq]
          exact bh _ _ (by rw [upd_ne eq, Lk.off eq]; exact h)
      · split
        · rename_i hw
          rw [if_pos hw] at ov
          unfold Own at ov ⊢
          split
          · rename_i hb
            rw [if_pos hb] at ov
            obtain ⟨q, e1, e2, e3, h4⟩ := ov
            have hq : q ≠ a := fun zz => by rw [zz, upd_same] at e3; cases e3
            rw [upd_ne hq, Lk.off hq] at e3
            exact ⟨q, e1, Ul.none e2, e3, h4.lk ul_lk2 fun o x => by rw [Ul.off hq]; exact x⟩
          · rename_i hb
            rw [if_neg hb] at ov
            exact ul_lk2.rp ov
        · rename_i hw
          rw [if_neg hw] at ov
          exact ul_lk2.rp ov
    | ex c b e1 => rw [ho] at p; exact p.elim
    | stk => rw [ho] at p; exact p.elim
  · -- it is locked already
    refine h.run pins s σ H D I ⟨⟨G0, B, G, e, sr, ?_⟩, a, od, kvs, h1, sr.gh _ _ h3⟩
    cases ho : f e with
    | nx e1 => rw [ho] at p; exact p
    | rt d => rw [ho] at p; exact p
    | ex c b e1 => rw [ho] at p; exact p.elim
    | stk => rw [ho] at p; exact p.elim⟩
end
end Mt
/-! Part O: append, extend. -/
namespace Mt
open PySem PySem.Spec PyProof.Rows L2
section
variable {K : PySem.W.Frag} {fl : List Bool} {G0 B G : Hp} {e : Sg} {σ : L2.St} {H : Hp}
/-- an owned object changes -/
theorem SR.mut (r : SR K fl G0 B G e σ H) {i : Nat} {p : Addr} {d0 d' : D} {o : HO} (hf : fl[i]? = some true) (hs : σ[i]? = some (some (.ref p))) (he : e[i]? = some (some d0)) (b0 : box d0 = true) (b' : box d' = true) (ho : OwnAt K G (L2.upd H p o) p d') :
    SR K fl G0 B G (e.set i (some d')) σ (L2.upd H p o) := by
  have hil : i < e.length := (List.getElem?_eq_some_iff.mp he).1
  obtain ⟨v, h1, h2⟩ := r.own i d0 he hf
  rw [hs] at h1
  cases h1
  unfold Own at h2
  rw [if_pos b0] at h2
  obtain ⟨q, e1, gp, bp, _⟩ := h2
  cases e1
  refine ⟨r.g0, fun b x z => ?_, fun b x z => ?_, r.nw, by simp [r.len], fun j d hd f => ?_, fun j d hd f => ?_, fun a b d1 d2 q hn f1 f2 e1 e2 c1 c2 s1 s2 => ?_⟩
  · rw [upd_ne (ne_of_none z gp)]
    exact r.gh _ _ z
  · rw [upd_ne (ne_of_none z bp)]
    exact r.bh _ _ z
  · by_cases hji : i = j
    · subst hji
      exact absurd hf f
    · rw [get_set_ne hji] at hd
      exact r.fro j d hd f
  · by_cases hji : i = j
    · subst hji
      rw [List.getElem?_set_self hil] at hd
      cases hd
      refine ⟨_, hs, ?_⟩
      unfold Own
      rw [if_pos b']
      exact ⟨p, rfl, gp, bp, ho⟩
    · rw [get_set_ne hji] at hd
      obtain ⟨v, k1, k2⟩ := r.own j d hd f
      refine ⟨v, k1, ?_⟩
      unfold Own at k2 ⊢
      split
      · rename_i hb
        rw [if_pos hb] at k2
        obtain ⟨q, rfl, e2, e3, h3⟩ := k2
        have hq : q ≠ p := fun z => r.dis i j d0 d p hji hf f he hd b0 hb hs (by rw [← z]; exact k1)
        exact ⟨q, rfl, e2, e3, h3.mono (Same.refl G) fun o x => by rw [upd_ne hq]; exact x⟩
      · rename_i hb
        rw [if_neg hb] at k2
        exact k2
  · have back : ∀ {j : Nat} {d : D}, (e.set i (some d'))[j]? = some (some d) → box d = true → ∃ d2, e[j]? = some (some d2) ∧ box d2 = true := fun {j d} hd hb => by
      by_cases hji : i = j
      · subst hji
        exact ⟨d0, he, b0⟩
      · rw [get_set_ne hji] at hd
        exact ⟨d, hd, hb⟩
    obtain ⟨d3, e3, c3⟩ := back e1 c1
    obtain ⟨d4, e4, c4⟩ := back e2 c2
    exact r.dis a b d3 d4 q hn f1 f2 e3 e4 c3 c4 s1 s2
end
section
variable {X : Cx} {cl : Cls} {W : WX} {own oe : Bool} {fl fl1 : List Bool} {y : Str} {yp ap cp pos : Pos} {v : Expr} {fe : Sg → R D} {i : Nat}
theorem own_lst {K : PySem.W.Frag} {G0 B G : Hp} {e : Sg} {σ : L2.St} {H : Hp} (r : SR K fl G0 B G e σ H) (hf : fl[i]? = some true) {xs : List D} (he : e[i]? = some (some (.list xs))) :
    ∃ p vs, σ[i]? = some (some (.ref p)) ∧ G p = none ∧ B p = none ∧ H p = some (.lst vs) ∧ RpL K G vs xs := by
  obtain ⟨v, h1, h2⟩ := r.own i _ he hf
  unfold Own at h2
  rw [if_pos (show box (PyData.list xs) = true from rfl)] at h2
  obtain ⟨p, rfl, gp, bp, vs, h3, h4⟩ := h2
  exact ⟨p, vs, h1, gp, bp, h3, h4⟩
theorem getL_ok {e : Sg} {i : Nat} {xs : List D} (h : (getS e i).bind unL = .ok xs) : e[i]? = some (some (.list xs)) := by
  cases hg : getS e i with
  | ok d =>
    rw [hg] at h
    have h : unL d = .ok xs := h
    rw [unL_ok h] at hg
    exact getS_ok hg
  | exc c a => exact absurd hg getS_nx
  | stuck => rw [hg] at h; cases h
theorem getL_nx {e : Sg} {i : Nat} (c : Str) (a : D) : (getS e i).bind unL ≠ .exc c a := by
  intro h
  cases hg : getS e i with
  | ok d =>
    rw [hg] at h
    exact unL_nx d c a h
  | exc c a => exact absurd hg getS_nx
  | stuck => rw [hg] at h; cases h
theorem grd_nx {α : Type} {b : Bool} {x : α} (c : Str) (a : D) : grd b (R.ok x) ≠ .exc c a := by
  cases b <;> (intro h; cases h)
theorem st_app (hv : PE X (.Name y yp) (tVar i)) (he : PE X v (tE X.K cl W fl fl1 oe false fe)) (f0 : fl[i]? = some true) (f1 : fl1[i]? = some true) (hst : noStar v = true) (hline : (ap.endLine == cp.line) = true) :
    PS X (.Expr (.Call (.Attribute (.Name y yp) "append" ap) [v] [] cp) pos) (tS X.K cl W own fl fl1 fun e => ((getS e i).bind unL).go e fun xs => (fe e).go e fun d => (grd (fitL (xs.length + 1)) (.ok (e.set i (some (.list (xs ++ [d]))))) : R Sg).go e .nx) :=
  (ps_expr (pe_bm PySem.F.plainAttrs_list PySem.F.slot_list_append PySem.F.type_list_append mt_append hv (pa_cons he pa_nil (noStar_ok hst _ _)) rfl (by rw [noStar_ok hst]; rfl) hline (noStar_ok hst _ _) rfl) rfl).imp fun D σ H q => by
  obtain ⟨G0, B, G, e, sr, p⟩ := q
  have p := p.of_go (σ := σ) (H := H)
  obtain ⟨xs, hx, p⟩ := Pst.of p getL_nx
  have hi := getL_ok hx
  obtain ⟨a, vs, h1, gp, bp, h2, h3⟩ := own_lst sr f0 hi
  refine ⟨.ref a, h1, .inl ⟨rfl, vs, SqL.of h2⟩, G0, B, G, e, sr, p.of_go.imp fun d p1 G1 H1 w g1 s1 sr1 aw rw' => ?_⟩
  obtain ⟨G2, g2, sr2, r2⟩ := (rw' rfl).frz sr1
  obtain ⟨a', vs1, h1', _, _, h2', h3'⟩ := own_lst sr2 f1 hi
  rw [h1] at h1'
  cases h1'
  cases hb : fitL (xs.length + 1) with
  | false => rw [hb] at p1; exact p1.elim
  | true =>
    rw [hb] at p1
    have hle := fitL_le hb
    refine ⟨a, vs1, w, rfl, rfl, h2', by rw [h3'.length]; omega, ?_⟩
    refine p1 G2 σ _ (g1.trans g2) (sr2.mut (d' := .list (xs ++ [d])) f1 h1 hi rfl rfl ?_)
    exact ⟨vs1 ++ [w], upd_same, h3'.append (.cons r2 .nil)⟩

theorem list_extend_any (l : Addr) (items : Array Value) (n : Nat) (b : Addr) (items2 : Array Value) (n2 : Nat) (dc : Option Addr) (sl : Array (Option Value)) (hc0 : ¬(!items.isEmpty && Builtin.List.listTooLong (items.size + items2.size)) = true) (hc1 : items.size ≤ sizeLine) (hs2 : items.size + items2.size ≤ sizeLine + 1) :
    Meets (Builtin.«list.extend» ⟨[.ref l, .ref b], []⟩) (fun _ R s => s.heap.get? l = some { cls := .type "list", dict := none, data := .seq items n, slots := #[] } ∧ s.heap.get? b = some { cls := .type "list", dict := dc, data := .seq items2 n2, slots := sl } ∧ R (.ok (.ret Value.none)) { s with heap := s.heap.update l (Obj.mapSeq fun x => x ++ items2), toks := s.toks }) :=
  .of_wp fun prog w A R s h => by
    obtain ⟨hp, g, d, tk, os⟩ := s; obtain ⟨hl, hb, h⟩ := h; have f1 := AutoSeq1.idx_int; have f2 := AutoSeq1.sub_tuple_tuple; have f3 := AutoSeq1.sub_list_list; have f4 := AutoSeq1.sub_tuple_list; have f5 := AutoSeq1.sub_list_tuple;
    have hz' : (items ++ items2).size ≤ sizeLine + 1 := by rw [Array.size_append]; exact hs2
    wp_walk using (wpAny_updateSeq hl rfl (hz := hc1) (_hz' := hz')), AutoSeq1.wpAny_loadPart' hl, AutoSeq1.wpAny_loadPart' hb; exact ⟨_, rfl, h⟩
/-- xs.extend(ys), ys a list of the heap or of the written part -/
def rExtendL (K : PySem.W.Frag) : V → List V → Hp → VK → Prop := fun x vs H Q => ∃ l b xs zs, x = .ref l ∧ vs = [.ref b] ∧ H l = some (.lst xs) ∧ SqL K H b zs ∧ xs.length + zs.length ≤ sizeLine ∧ Q .non (upd H l (.lst (xs ++ zs)))
theorem mt_extendL : MtM X "list.extend" (rExtendL X.K) := by
  intro pins s σ H x vs v us Q I rx rv h
  obtain ⟨l, b, xs, zs, rfl, rfl, hH, hB, hz, q⟩ := h
  cases rx
  obtain ⟨u, rfl, ru⟩ := rv.one
  cases ru
  obtain ⟨z, its, n, r, hl, e⟩ := I.lstM hH
  obtain ⟨its2, r2, ⟨⟨oc, od, oa, os⟩, n2, e2, h1, h2, h3⟩, z2⟩ := I.list hB
  have hl2 := r2.length
  cases h1
  cases h3
  have hsz : its.toArray.size + its2.toArray.size ≤ sizeLine := by rw [List.size_toArray, List.size_toArray]; omega
  have hlong : ¬ (!its.toArray.isEmpty && Builtin.List.listTooLong (its.toArray.size + its2.toArray.size)) = true := by
    rw [notLongL hsz, Bool.and_false]
    exact Bool.false_ne_true
  refine call_meets PySem.F.slot_list_extend ⟨_, e, rfl⟩ PySem.F.entry_list_extend (PySem.F.args_list_extend_2 _ _)
    (list_extend_any l its.toArray n b its2.toArray n2 od os hlong (by rw [List.size_toArray]; omega) (by omega)) ⟨e, e2, ?_⟩
  refine ⟨.non, _, I.lset (its' := its ++ its2) hH e (by simp) (r.append r2) ?_, rfl, q⟩
  rw [List.length_append]
  omega
theorem st_ext (hv : PE X (.Name y yp) (tVar i)) (he : PE X v (tE X.K cl W fl fl1 oe false fe)) (f0 : fl[i]? = some true) (f1 : fl1[i]? = some true) (hst : noStar v = true) (hline : (ap.endLine == cp.line) = true) :
    PS X (.Expr (.Call (.Attribute (.Name y yp) "extend" ap) [v] [] cp) pos) (tS X.K cl W own fl fl1 fun e => ((getS e i).bind unL).go e fun xs => ((fe e).bind unL).go e fun ys => (grd (fitL (xs.length + ys.length)) (.ok (e.set i (some (.list (xs ++ ys))))) : R Sg).go e .nx) :=
  (ps_expr (pe_bm PySem.F.plainAttrs_list PySem.F.slot_list_extend PySem.F.type_list_extend mt_extendL hv (pa_cons he pa_nil (noStar_ok hst _ _)) rfl (by rw [noStar_ok hst]; rfl) hline (noStar_ok hst _ _) rfl) rfl).imp fun D σ H q => by
  obtain ⟨G0, B, G, e, sr, p⟩ := q
  have p := p.of_go (σ := σ) (H := H)
  obtain ⟨xs, hx, p⟩ := Pst.of p getL_nx
  have hi := getL_ok hx
  obtain ⟨a, vs, h1, gp, bp, h2, h3⟩ := own_lst sr f0 hi
  refine ⟨.ref a, h1, .inl ⟨rfl, vs, SqL.of h2⟩, G0, B, G, e, sr, p.of_go.bind.imp fun d p1 G1 H1 w g1 s1 sr1 aw rw' => ?_⟩
  obtain ⟨ys, hy, p2⟩ := Pst.of p1 (unL_nx d)
  clear p1
  cases unL_ok hy
  obtain ⟨b, ws, rfl, h5, h6⟩ := aw.list sr1.gh
  obtain ⟨a', vs1, h1', _, _, h2', h3'⟩ := own_lst sr1 f1 hi
  rw [h1] at h1'
  cases h1'
  cases hb : fitL (xs.length + ys.length) with
  | false => rw [hb] at p2; exact p2.elim
  | true =>
    rw [hb] at p2
    have hle := fitL_le hb
    refine ⟨a, b, vs1, ws, rfl, rfl, h2', h5, by rw [h3'.length, h6.length]; exact hle, ?_⟩
    refine p2 G1 σ _ g1 (sr1.mut (d' := .list (xs ++ ys)) f1 h1 hi rfl rfl ?_)
    exact ⟨vs1 ++ ws, upd_same, h3'.append h6⟩
theorem own_dct {K : PySem.W.Frag} {G0 B G : Hp} {e : Sg} {σ : L2.St} {H : Hp} (r : SR K fl G0 B G e σ H) (hf : fl[i]? = some true) {kds : List (D × D)} (he : e[i]? = some (some (.dict kds))) :
    ∃ p, σ[i]? = some (some (.ref p)) ∧ OwnAt K G H p (.dict kds) := by
  obtain ⟨v, h1, h2⟩ := r.own i _ he hf
  unfold Own at h2
  rw [if_pos (show box (PyData.dict kds) = true from rfl)] at h2
  obtain ⟨p, rfl, _, _, h3⟩ := h2
  exact ⟨p, h1, h3⟩
theorem unDc_ok {d : D} {kds : List (D × D)} (h : unDc d = .ok kds) : d = .dict kds := by
  cases d <;> cases h <;> rfl
theorem getDc_ok {e : Sg} {kds : List (D × D)} (h : (getS e i).bind unDc = .ok kds) : e[i]? = some (some (.dict kds)) := by
  cases hg : getS e i with
  | ok d =>
    rw [hg] at h
    have h : unDc d = .ok kds := h
    rw [unDc_ok h] at hg
    exact getS_ok hg
  | exc c a => exact absurd hg getS_nx
  | stuck => rw [hg] at h; cases h
theorem getDc_nx {e : Sg} (c : Str) (a : D) : (getS e i).bind unDc ≠ .exc c a := by
  intro h
  cases hg : getS e i with
  | ok d =>
    rw [hg] at h
    cases d <;> cases h
  | exc c a => exact absurd hg getS_nx
  | stuck => rw [hg] at h; cases h
theorem putD_ok {kds : List (D × D)} {k x d : D} (h : putD kds k x = .ok d) : ∃ kk m, k = kT kk ∧ decG keyT kds = some m ∧ m.length + 1 ≤ sizeLine ∧ d = .dict (encT (putG m kk x)) := by
  unfold putD at h
  split at h
  · rename_i kk hk
    split at h
    · rename_i m hm
      obtain ⟨hb, e⟩ := grd_ok h
      cases e
      exact ⟨kk, m, keyT_inv hk, hm, fitL_le hb, rfl⟩
    · cases h
  · cases h
theorem putD_nx {kds : List (D × D)} {k x : D} (c : Str) (a : D) : putD kds k x ≠ .exc c a := by
  intro h
  unfold putD at h
  split at h
  · split at h
    · exact grd_nx c a h
    · cases h
  · cases h
/-- d[k] = v -/
theorem st_put {fl2 : List Bool} {ok : Bool} {fk : Sg → R D} {kx : Expr} {sp : Pos} (hu : X.A.units + 65 < cLine) (hv : PE X (.Name y yp) (tVar i)) (hx : PE X v (tE X.K cl W fl fl1 oe false fe)) (hk : PE X kx (tE X.K cl W fl1 fl2 ok false fk)) (hs : NoSl kx)
    (f0 : fl[i]? = some true) (f2 : fl2[i]? = some true) (sw : swapsWith v (some (.Subscript (.Name y yp) kx sp)) pos.line X.env = pure false) :
    PS X (.Assign [.Subscript (.Name y yp) kx sp] v pos) (tS X.K cl W own fl fl2 fun e => ((getS e i).bind unDc).go e fun kds => (fe e).go e fun x => (fk e).go e fun kk => (putD kds kk x).go e fun d => .nx (e.set i (some d))) :=
  (ps_dput (by omega) hv hk hx sw).imp fun D σ H q => by
  obtain ⟨G0, B, G, e, sr, p⟩ := q
  have p := p.of_go (σ := σ) (H := H)
  obtain ⟨kds, hd, p⟩ := Pst.of p getDc_nx
  have hi := getDc_ok hd
  obtain ⟨a, h1, _⟩ := own_dct sr f0 hi
  refine ⟨G0, B, G, e, sr, p.of_go.imp fun x p1 G1 H1 w g1 s1 sr1 aw rw' => ?_⟩
  obtain ⟨G2, g2, sr2, r2⟩ := (rw' rfl).frz sr1
  refine ⟨.ref a, h1, G0, B, G2, e, sr2, p1.of_go.grow (g1.trans g2) s1 fun kk p2 G3 H3 z g3 s3 sr3 az rz => ?_⟩
  obtain ⟨G4, g4, sr4, r4⟩ := (rz rfl).frz sr3
  have p2 := p2.of_go (σ := σ) (H := H3)
  obtain ⟨d, hp, p3⟩ := Pst.of p2 putD_nx
  obtain ⟨k0, m, rfl, hm, hl, rfl⟩ := putD_ok hp
  obtain ⟨a', h1', o4⟩ := own_dct sr4 f2 hi
  rw [h1] at h1'
  cases h1'
  obtain ⟨l, hL, zl⟩ := ownT_inv o4 hm
  obtain ⟨b, rfl, hb⟩ := key_of_kT r4
  refine ⟨a, _, rfl, .inr ⟨l, k0, b, hL, rfl, sr4.gh _ _ hb, by rw [zl.len]; omega, rfl⟩, ?_⟩
  exact p3 G4 σ _ (((g1.trans g2).trans g3).trans g4) (sr4.mut (d' := .dict (encT (putG m k0 x))) f2 h1 hi rfl rfl (ownT_mk upd_same (zl.put (r2.mono (g3.trans g4)))))
theorem putI_ok {xs : List D} {k x d : D} (h : putI xs k x = .ok d) : ∃ i j, k = .int i ∧ ixN xs.length i = some j ∧ d = .list (xs.set j x) := by
  unfold putI at h
  split at h
  · rename_i i
    split at h
    · rename_i j e
      cases h
      exact ⟨i, j, rfl, e, rfl⟩
    · cases h
  · cases h
theorem putI_nx {xs : List D} {k x : D} (c : Str) (a : D) : putI xs k x ≠ .exc c a := by
  intro h
  unfold putI at h
  split at h
  · split at h <;> cases h
  · cases h
theorem rpl_set {K : PySem.W.Frag} {G : Hp} {v : V} {d : D} (h : Rp K G v d) : ∀ {vs : List V} {ds : List D} (j : Nat), RpL K G vs ds → RpL K G (vs.set j v) (ds.set j d)
  | _, _, _, .nil => .nil
  | _, _, 0, .cons _ r => .cons h r
  | _, _, j + 1, .cons q r => .cons q (rpl_set h j r)
theorem asg_sub {o kx : Expr} {sp : Pos} (h : noSlice kx = true) (env : Env) : ∀ v, assign (.Subscript o kx sp) env v = (do
      let ov ← holding [v] (eval o env)
      let iv ← holding [v, ov] (eval kx env)
      standAt sp
      holding [v, ov, iv] (setItem ov iv v)
      release [v, ov, iv] []) := by
  intro v
  cases kx <;> first | rfl | cases h
theorem st_puti {fl2 : List Bool} {ok : Bool} {fk : Sg → R D} {kx : Expr} {sp : Pos} (hs : noSlice kx = true) (hv : PE X (.Name y yp) (tVar i)) (hx : PE X v (tE X.K cl W fl fl1 oe false fe)) (hk : PE X kx (tE X.K cl W fl1 fl2 ok false fk))
    (f0 : fl[i]? = some true) (f2 : fl2[i]? = some true) (sw : swapsWith v (some (.Subscript (.Name y yp) kx sp)) pos.line X.env = pure false) :
    PS X (.Assign [.Subscript (.Name y yp) kx sp] v pos) (tS X.K cl W own fl fl2 fun e => ((getS e i).bind unL).go e fun xs => (fe e).go e fun x => (fk e).go e fun kk => (putI xs kk x).go e fun d => .nx (e.set i (some d))) :=
  (ps_asg hx (pg_sub hv hk set_list (asg_sub hs X.env)) sw).imp fun D σ H q => by
  obtain ⟨G0, B, G, e, sr, p⟩ := q
  have p := p.of_go (σ := σ) (H := H)
  obtain ⟨xs, hd, p⟩ := Pst.of p getL_nx
  have hi := getL_ok hd
  obtain ⟨a, vs0, h1, _⟩ := own_lst sr f0 hi
  refine ⟨G0, B, G, e, sr, p.of_go.imp fun x p1 G1 H1 w g1 s1 sr1 aw rw' => ?_⟩
  obtain ⟨G2, g2, sr2, r2⟩ := (rw' rfl).frz sr1
  refine ⟨.ref a, h1, G0, B, G2, e, sr2, p1.of_go.grow (g1.trans g2) s1 fun kk p2 G3 H3 z g3 s3 sr3 az rz => ?_⟩
  obtain ⟨G4, g4, sr4, r4⟩ := (rz rfl).frz sr3
  have p2 := p2.of_go (σ := σ) (H := H3)
  obtain ⟨d, hp, p3⟩ := Pst.of p2 putI_nx
  obtain ⟨k0, j, rfl, hj, rfl⟩ := putI_ok hp
  obtain ⟨a', vs, h1', _, _, hL, zl⟩ := own_lst sr4 f2 hi
  rw [h1] at h1'
  cases h1'
  refine ⟨a, vs, k0, j, rfl, (by cases r4; rfl), hL, by rw [zl.length]; exact hj, ?_⟩
  exact p3 G4 σ _ (((g1.trans g2).trans g3).trans g4) (sr4.mut (d' := .list (xs.set j x)) f2 h1 hi rfl rfl ⟨_, upd_same, rpl_set (r2.mono (g3.trans g4)) j zl⟩)
end
end Mt
/-! Part T: the base error's own __init__ (super().__init__(at); self.at = at), and a raise of a class below it. -/
namespace Mt
open PySem PySem.Spec PySem.Calls PyProof.Rows L2

/-- what the written part says of a class C below the base CE -/
structure ExT (K : PySem.W.Frag) (CE C fI : Addr) : Prop where
  ox : OexC K C
  ini : PySem.W.findIn K (.ref C) "__init__" = some (some (.ref fI))
  att : PySem.W.findIn K (.ref C) "at" = some none
  mro : PySem.W.mroIn K C (.ref CE) = some true
  sup : PySem.W.ks_superIn K C CE "__init__" = some (some (.builtin "ValueError.__init__"))
  sub : PySem.W.subIn K (.ref C) (.type "ValueError") = some true
/-- the scope of such an __init__, without its cell -/
def gsc (sc : Scope) : Scope := { sc with names := [("self", .local), ("at", .local)] }
structure InT (P : Program) (K : PySem.W.Frag) (mg : Str → Option Value) (CE fI : Addr) (fd : FuncData) : Prop where
  fun_ : ∃ (nm qual : Str) (params : Arguments) (p0 p1 p2 p3 p4 p5 p6 p7 p8 p9 : Pos) (scope : Scope) (dV kV doc pm : Value) (an : Option Addr) (cda : Addr) (ct oc : Value) (od : Option Addr) (osl : Array (Option Value)) (cc : Addr) (ccl : Value) (cdd : Option Addr) (vs : Array Value) (ccs : Array (Option Value)) (file : Str) (tf : Tok) (cl : Value) (cld : Option Addr) (csl : Array (Option Value)) (cdD : ClassData) (ar : Arg),
    fd = PySem.W.ksFn nm qual params [.Expr (.Call (.Attribute (.Call (.Name "super" p0) [] [] p1) "__init__" p2) [.Name "at" p3] [] p4) p5, .Assign [.Attribute (.Name "self" p6) "at" p7] (.Name "at" p8) p9] scope dV kV doc pm an (.ref cda) ct cc ∧
    K.lookup fI = some ⟨oc, od, .func fd, osl⟩ ∧ PySem.W.codeIn K (.ref cda) qual = true ∧ (params.posonlyargs ++ params.args).head? = some ar ∧ ar.arg = "self" ∧
    K.lookup cda = some ⟨ccl, cdd, .fields vs, ccs⟩ ∧ vs[2]? = some (.str file tf) ∧ ((P.main.file : Str) == file) = true ∧ K.lookup cc = some ⟨cl, cld, .cell (some (.ref CE)), csl⟩ ∧ PySem.W.clsIn K CE = some cdD ∧
    scope.names.lookup ("super" : Str) = some .globalImplicit ∧ scope.names.lookup ("__class__" : Str) = some .free ∧ scope.names.lookup ("self" : Str) = some .local ∧ scope.names.lookup ("at" : Str) = some .local ∧ scope.kind = .function ∧ scope.isCoroutine = false ∧ scope.isGenerator = false ∧
    (∀ x ∈ scope.names, x.2 ≠ .cell) ∧ (p2.endLine == p4.line) = true
  top : (P.main.scope.names.lookup ("super" : Str)).isSome = false
  opq : PySem.W.nsIn K cStatics "thirdparty.any" = some none
  sup : mg "super" = none
  kp : PySem.W.keepIn K (.ref fI) = true
  ty : PySem.W.typeIn K (.ref fI) = some (.type "function")
  bind : ∀ (s : Shared) (us : List Value), us.length = 2 → BindsTo s fd ⟨us, []⟩ ((["self", "at"] : List Str).zip us)
def spI (K : PySem.W.Frag) (CE fI : Addr) : Sp := fun vs H Q E => ∃ a C v, vs = [.ref a, v] ∧ ExT K CE C fI ∧ H a = some (exo a C none) ∧ ∀ d, H d = none → d ≠ a → Q .non (upd (upd H d (exd d [("at", v)])) a (exo a C (some d)))
theorem gS (sc : Scope) (hk : sc.kind = .function) (hc : sc.isCoroutine = false) (hg : sc.isGenerator = false) : FnScope ["self", "at"] ["self", "at"] (gsc sc) := ⟨hk, hc, hg, by decide, rfl, fun x hx => by
  rcases List.mem_cons.mp hx with e | e
  · subst e; exact .inl rfl
  · rw [List.mem_singleton] at e
    subst e; exact .inl rfl, fun y hy => by
  rcases List.mem_cons.mp hy with e | e
  · subst e; exact fun z => nomatch z
  · rw [List.mem_singleton] at e
    subst e; exact fun z => nomatch z⟩
theorem ns_of {h : Heap} {L : Addr} {m n : Str → Option Value} (e : m = n) (hn : h.Ns L m) : h.Ns L n := e ▸ hn
theorem he_line {o : Expr} {name : Str} {apos pos : Pos} {e : Expr} {env : Env} (hl : (apos.endLine == pos.line) = true) (hst : starEach [e] env = [(false, eval e env)]) :
    eval (.Call (.Attribute o name apos) [e] [] pos) env = (do
      let ov ← attributeBase o name env (eval o env)
      standAt apos.atName
      let (f, first) ← holding [ov] (getMethod ov name (do return (← importBound o env).getD true))
      callWith pos f first (backTo pos (starEach [e] env)) []) := by
  rw [arm_eval_Call]
  have form : methodCallForm (([e] : List Expr).length + ([] : List Keyword).length) (backTo pos (starEach [e] env)) (backToKw pos (keywordEach [] env)) = true := by rw [hst]; rfl
  have ps : methodCallPos true o env apos pos = pure pos := by
    unfold methodCallPos
    simp [hl]
  unfold methodCall
  rw [form, ps]
  simp only [pure_bind]
  rfl
section
variable {P : Program} {w : World} {K : PySem.W.Frag} {mg : Str → Option Value} {base : Heap} {CE fI : Addr} {fd : FuncData}
theorem init_ok (T : InT P K mg CE fI fd) : FnOk P w K mg base (L2N.CX P w) 1 fI fd ["self", "at"] (spI K CE fI) := by
  obtain ⟨nm, qual, params, p0, p1, p2, p3, p4, p5, p6, p7, p8, p9, scope, dV, kV, doc, pm, an, cda, ct, oc, od, osl, cc, ccl, cdd, vsc, ccs, file, tf, cl, cld, csl, cdD, ar, efd, lk, hcd, har, harn, hcode, hvs, hfile, hcell, hD, hks, hkc, hself, hat, hk, hco, hgen, hnc, hln⟩ := T.fun_
  refine ⟨fun vs H Q E hs => by obtain ⟨a, C, v, rfl, _⟩ := hs; rfl, ?_⟩
  intro A outer s H args us vs Q E room e0 bt rel hs
  obtain ⟨a, C, v, rfl, X1, ea, q⟩ := hs
  cases rel with
  | cons ra rel =>
    cases rel with
    | cons rv rel =>
      cases rel
      rename_i u1 u
      obtain rfl : u1 = Value.ref a := ra
      have kin : K.In s.heap := e0.mod.kin.keeps fun b o e => (e0.bs b o e).1
      have nolim := e0.mod.nolimit.keeps fun b o e => (e0.bs b o e).1
      subst efd
      refine PySem.ks_codeAny_call_defAt (binds := (["self", "at"] : List Str).zip [.ref a, u]) room.depth (kin _ _ lk) rfl nolim (PySem.W.codeRec_of kin hcd) rfl bt hnc (fun x hx => ?_) (fun h₀ hns hk0 => ?_) hco hgen hk
      · rcases List.mem_cons.mp hx with e | e
        · subst e; exact hself
        · rw [List.mem_singleton.mp e]; exact hat
      · have hns2 := ns_of (n := bindL (envOfC qual (gsc scope) s.heap.objs.size fI (.ref cda)).kindOf ((["self", "at"] : List Str).zip [.ref a, u]) fun _ => none) (by
          funext y
          have k1 : (envOfC qual (gsc scope) s.heap.objs.size fI (.ref cda)).kindOf "self" = some .local := rfl
          have k2 : (envOfC qual (gsc scope) s.heap.objs.size fI (.ref cda)).kindOf "at" = some .local := rfl
          show (([(("at" : Str), u), (("self" : Str), Value.ref a)] : List (Str × Value)).lookup y) = bindL _ [(("self" : Str), Value.ref a), (("at" : Str), u)] (fun _ => none) y
          unfold bindL bindL bindL
          rw [if_pos k1, if_pos k2]
          by_cases q1 : y = ("at" : Str)
          · subst q1; rfl
          · have b1 : (y == ("at" : Str)) = false := beq_eq_false_iff_ne.mpr q1
            rw [if_neg q1]
            by_cases q2 : y = ("self" : Str)
            · subst q2; rfl
            · have b2 : (y == ("self" : Str)) = false := beq_eq_false_iff_ne.mpr q2
              rw [if_neg q2]
              simp [List.lookup, b1, b2]) hns
        have I0 := inv_start (CX := L2N.CX P w) (qual := qual) (f := fI) (cd := .ref cda) (E := E) (N := ["self", "at"]) (gS scope hk hco hgen) room.hd e0 rfl (Paired.cons (show RelV (V.ref a) (Value.ref a) from rfl) (.cons rv .nil))
          (s1 := { s with heap := h₀, toks := s.toks + 2 }) ⟨⟨⟨_, _, rfl⟩, hns2, hk0, Nat.le_refl _⟩, (fun n c h => by simp [gsc, cellsFrom] at h), (by simp [gsc, cellsFrom]), fun n c h => by simp [gsc, cellsFrom] at h⟩
        have kinH : K.In h₀ := kin.keeps hk0
        obtain ⟨t1, hex⟩ := exo_at I0.hok ea
        obtain ⟨mb, hbl, hbb⟩ := e0.mod.blt
        have up0 : ∀ b o, base.get? b = some o → h₀.get? b = some o := fun b o e => hk0 b o (e0.bs b o e).1
        obtain ⟨ocl, hD1, hD2⟩ : ∃ oD, h₀.get? CE = some oD ∧ oD.data = .cls cdD := by
          unfold PySem.W.clsIn at hD
          split at hD
          · rename_i c d cd' sl ho
            cases hD
            exact ⟨_, kinH _ _ ho, rfl⟩
          · cases hD
        have nss : h₀.Ns s.heap.objs.size (fun x => ((["self", "at"] : List Str).zip [Value.ref a, u]).reverse.lookup x) := hns
        refine PySem.ks_wpAt_execs_cons (PySem.ks_wpAt_Expr_any (PySem.ks_wpAt_MethodCall ?_ (he_line hln rfl)) (by show ((scope.kind == .module) && _) = false; rw [hk]; rfl))
        refine PySem.ks_wpAt_super_base (env := PySem.W.ksEnv qual scope s.heap.objs.size fI (.ref cda) cc) hks hkc (by decide) rfl (kinH _ _ lk) rfl har rfl (kinH _ _ hcode) rfl hvs hfile T.top ?_
        refine PySem.W.ks_loadName_global hk hks (loadGlobal_builtin (e0.mod.glob.keeps up0) T.sup (hbl.keeps up0) ((hbb _ (by decide +kernel)).trans (by decide +kernel : bootBuiltins "super" = some (.type "super"))) ⟨rfl, ?_⟩)
        refine wpAny_loadName_free hk hkc rfl ⟨_, kinH _ _ hcell, rfl⟩ ?_
        refine wpAny_loadName_local hk (by rw [harn]; exact hself) nss (v := .ref a) (by rw [harn]; rfl) ?_
        refine PySem.ks_wpAny_isType_cls hD1 hD2 ⟨rfl, ?_⟩
        refine PySem.ks_wpAny_call_super hD1 hD2 hex rfl (fun c => nofun) (PySem.W.looks_mroIn kinH X1.mro) (fun h1 so k1 => ?_)
        have kin1 : K.In h1 := kinH.keeps k1
        have hex1 := k1 _ _ hex
        have IA : PySem.W.InstAt h1 a { cls := .ref C, dict := none, data := .fields #[.ref t1, .none, .none, .none, .bool false, .none] } C none := ⟨hex1, rfl, rfl, trivial⟩
        cases hc : PySem.W.clsIn K C with
        | none => have z := X1.sup; unfold PySem.W.ks_superIn at z; rw [hc] at z; cases z
        | some cd =>
          have hal := X1.sup
          unfold PySem.W.ks_superIn at hal
          rw [hc] at hal
          refine PySem.W.kxs_getMethod PySem.W.kxs_ValueError so (PySem.W.looks_opaque kin1 T.opq) (l₀ := cd.mro) (fun A Q E s k q => wpAny_bind ((PySem.W.looks_clsIn kin1 hc) A _ E s k (wpAny_pure q))) rfl kin1 hal (IA.type.andThen (PySem.W.looks_subIn kin1 X1.sub)) (PySem.W.ks_ne kin1 IA hc) (by decide) ?_
          -- the bound __init__, called with at
          have nss1 : (h1.push (PySem.W.kxs_mw "ValueError.__init__" a)).Ns s.heap.objs.size (fun x => ((["self", "at"] : List Str).zip [Value.ref a, u]).reverse.lookup x) := nss.at fun o e => Heap.get?_push_of_some _ (k1 _ _ e)
          refine PySem.W.kxs_callWith (i := "ValueError.__init__") (x := a) (by rfl) ?_
          refine evalArgs_plain (spliced_cons (wpAny_Name (wpAny_loadName_local hk hat nss1 (v := u) rfl ?_) (by decide)))
          refine spliced_nil ⟨Heap.get?_push_size _ rfl, ?_⟩
          obtain ⟨nm2, q2, N2, bs, bm, sn, sub, ab, col, dd, j0, j1, j2, j3, j5, hC, hbm⟩ := X1.ox.cls
          refine wpAny_call (codeAny_of_tree ?_)
          show wpAny _ _ (callAny (.ref _) ⟨[u], []⟩) _ _ _
          simp only [callAny]
          refine wpAny_bind (wpAny_load (Heap.get?_push_size _ rfl) ?_)
          show wpAny _ _ (if _ = true then _ else _) _ _ _
          rw [if_pos (by dsimp only [PySem.W.kxs_mw]; decide)]
          show wpAny _ _ (if _ = true then _ else _) _ _ _
          rw [if_pos (by dsimp only [PySem.W.kxs_mw]; decide)]
          have up2 : ∀ b o, h1.get? b = some o → (h1.push (PySem.W.kxs_mw "ValueError.__init__" a)).get? b = some o := fun b o e => Heap.get?_push_of_some _ e
          refine wpAny_bind (PySem.W.check_bound_init F.excBase_ValueError.toExcCallFacts (up2 _ _ (kin1 _ _ hC)) (up2 _ _ hex1) rfl ?_)
          refine wpAny_pure ⟨plainId_quiet F.excBase_ValueError.init.plain _, codeAny_builtin F.excBase_ValueError.initEntry ?_⟩
          refine PySem.W.exc_init_tree (cls := .ref C) (t0 := t1) (dv := none) (c2 := .none) (c3 := .none) (b4 := .bool false) (up2 _ _ hex1) (by show 1 ≤ sizeLine; rw [sizeLine_eq]; decide) fun h2 k2 ex2 _ => ?_
          have I1 := I0.kept (t' := s.toks) (h' := h1.push (PySem.W.kxs_mw "ValueError.__init__" a)) fun b o e => up2 b o (k1 b o e)
          have I2 := I1.write (t' := s.toks) (x := a) (e := a) (o := exo a C none) (by rw [ea]; exact True.intro) (.inl rfl) k2 ⟨_, ex2⟩ (exo_ok ex2)
          have eu : upd H a (exo a C none) = H := by
            funext b
            by_cases hb : b = a
            · rw [hb, upd_same, ea]
            · rw [upd_ne hb]
          rw [eu] at I2
          have nss2 : h2.Ns s.heap.objs.size (fun x => ((["self", "at"] : List Str).zip [Value.ref a, u]).reverse.lookup x) := nss1.at fun o e => k2 _ _ (fun z => by
            rw [z] at e
            have := nss
            obtain ⟨oL, es, ep, hL, hd, _⟩ := this
            rw [z, hex] at hL
            cases hL
            cases hd) e
          refine PySem.ks_wpAt_execs_cons (wpAt_of_wpAny (plainObj_wpAny_Assign_Attribute (wpAny_Name (wpAny_loadName_local hk hat nss2 (v := u) rfl (wpAny_Name (wpAny_loadName_local hk hself nss2 (v := .ref a) rfl ?_) (by decide))) (by decide))))
          refine ost_new X1.ox (I2.kept (t' := _) fun _ _ e => e) ea X1.att rv fun dx s' nd ne J => wpAt_of_wpAny (wpAny_execs_nil ?_)
          exact ⟨V.non, _, J.os, J.bare, J.base, J.hok, rfl, q dx nd ne⟩
end
end Mt
/-! Part U: where an error is handled: a list comprehension over a list, isinstance and the field at of the error. -/
namespace Mt
open PySem PySem.Spec PySem.Calls PyProof.Rows L2 L2H HotX

theorem next_end_hot {prog : Program} {w : World} {A : Around} {E : Value → Shared → Prop} {s : Shared} {ir la x1 : Addr} {i : Nat} {xs0 : Array Value} {Q : Option Value → Shared → Prop} (hot : HotAt A x1 s.heap) (hit : s.heap.IsListIter ir la i) (hl : s.heap.IsList la xs0) (hx : xs0[i]? = none)
    (fin : ∀ h', (∀ b o, b ≠ ir → s.heap.get? b = some o → h'.get? b = some o) → Q none { s with heap := h' }) : wpAny (model prog w) A (pyNext (.ref ir)) Q E s := by
  obtain ⟨o, ho, hc, hd⟩ := id hit
  obtain ⟨ol, hol, _, nl, hdl⟩ := hl
  obtain ⟨hh, o1, vs1, h1, d1, c1⟩ := hot
  have nx : x1 ≠ ir := fun z => by
    rw [z, ho] at h1
    have e := Option.some.inj h1
    subst e
    rw [hd] at d1
    cases d1
    cases c1
  unfold pyNext
  apply wpAny_bind
  apply wpAny_attempt
  apply wpAny_callSpecial?_slot (name := Str.ofString "__next__") hit.typeIs slot_listiter_next
  refine wpAny_call_entry slot_listiter_next hit.typeIs entry_listiter_next ?_ (args_listiter_next _)
  show wpAny _ _ (field (.ref ir) 0 >>= _) _ _ _
  apply wpAny_bind
  refine wpAny_field ho hd (x := .ref la) rfl ?_
  show wpAny _ _ (if (Value.ref la == Value.none) = true then _ else _) _ _ _
  rw [if_neg (show ¬ ((Value.ref la == Value.none) = true) from nofun)]
  show wpAny _ _ (field (.ref ir) 1 >>= _) _ _ _
  apply wpAny_bind
  refine wpAny_field ho hd (x := .int i 0) rfl ?_
  show wpAny _ _ (seqItems? (.ref la) >>= _) _ _ _
  apply wpAny_bind
  refine wpAny_seqItems hol hdl ?_
  simp only [hx, Int.toNat_natCast]
  apply wpAny_bind
  refine wpAny_rule (wpAny_bind (wpAny_setField ho hd (by simp) ?_))
  apply wpAny_bind
  show wpAny _ _ (newExc (.type "StopIteration") [] >>= _) _ _ _
  apply wpAny_bind
  simp only [newTuple, newExc]
  apply wpAny_bind
  refine wpAny_newObj_type ?_ (by size_fits)
  apply wpAny_bind (m := firstArgMember _ _)
  refine wpAny_of_eq (a := Value.none) (by first | rfl | (simp only [firstArgMember]; rfl)) ?_
  refine wpAny_newObj_type ?_ (by size_fits)
  have h1' : (s.heap.update ir (Obj.mapFields fun x => x.setIfInBounds 0 Value.none)).get? x1 = some o1 := by rw [Heap.get?_update_other _ _ (Ne.symm nx)]; exact h1
  have h2' := Heap.get?_push_of_some { cls := .type "tuple", data := .seq #[] } h1'
  apply wpAny_pure
  refine raiseNew_hot ⟨hh, o1, vs1, Heap.get?_push_of_some _ h2', d1, c1⟩ (Nat.ne_of_lt (Heap.lt_size h2')) (Heap.get?_push_size _ rfl) rfl (by first | (simp; done) | (simp; omega)) ?_
  apply wpAny_bind
  refine wpAny_isInstance (T := "StopIteration") (b := true) ⟨_, Heap.get?_update_self _ (Heap.get?_push_size _ rfl) rfl, rfl⟩ isSubtype_stop (wpAny_pure (fin _ fun b ob hb e => ?_))
  have e1 : (s.heap.update ir (Obj.mapFields fun x => x.setIfInBounds 0 Value.none)).get? b = some ob := by rw [Heap.get?_update_other _ _ (Ne.symm hb)]; exact e
  have e2 := Heap.get?_push_of_some { cls := .type "tuple", data := .seq #[] } e1
  rw [Heap.get?_update_other _ _ (Nat.ne_of_gt (Heap.lt_size e2))]
  exact Heap.get?_push_of_some _ e2
/-- in every state of the context an error is handled, its context None -/
def HotI (X : Cx) : Prop := ∀ (pins : List (Addr × Obj)) (σ : L2.St) (H : Hp) (s : Shared), Inv X pins σ H s → ∃ x1, HotAt X.A x1 s.heap
theorem next_item {prog : Program} {w : World} {tg : Expr} {X : Cx} {pins : List (Addr × Obj)} {σ : L2.St} {H : Hp} {s : Shared} {ir la : Addr} {i : Nat} {xs : List V} {x : V} {E : Value → Shared → Prop} (hP : X.prog = prog) (hW : X.w = w) (I : Inv X pins σ H s) (fp : FpOk X pins H ir) (st : s.heap.IsListIter ir la i) (hq : SqL X.K H la xs) (hx : xs[i]? = some x) :
    wpAny (model prog w) X.A (pyNext (.ref ir)) (fun r s1 => ∃ u, r = some u ∧ wpAny (model prog w) X.A (letOwnedTupleGo tg (.ref ir) u) (fun _ s2 => Inv X pins σ H s2 ∧ RelV x u ∧ s2.heap.IsListIter ir la (i + 1)) E s1) E s := by
  obtain ⟨its, rv, pl, hz⟩ := I.list hq
  obtain ⟨u, hu, ru⟩ := rv.get hx
  obtain ⟨f0, f1, f2, f3, f4, f5⟩ := fp
  refine wpAny_pyNext_list_item st pl.isList (x := u) (by simpa using hu) fun h2 st2 sb => ⟨u, rfl, ?_⟩
  obtain ⟨o, e, c, d⟩ := id st2
  exact go_of (s := { s with heap := h2 }) e c d (by decide) ⟨I.turned (t' := s.toks) (fun b o hb e => (sb.2 b hb).trans e) f0 f1 f3 f4 f5, ru, st2⟩
/-! ### a tuple taken apart there -/
theorem nextT_end_hot {prog : Program} {w : World} {A : Around} {E : Value → Shared → Prop} {s : Shared} {ir la x1 : Addr} {i : Nat} {xs0 : Array Value} {Q : Option Value → Shared → Prop} (hot : HotAt A x1 s.heap) (hit : IsTupIter s.heap ir la i) (hl : IsTup s.heap la xs0) (hx : xs0[i]? = none)
    (fin : ∀ h', (∀ b o, b ≠ ir → s.heap.get? b = some o → h'.get? b = some o) → Q none { s with heap := h' }) : wpAny (model prog w) A (pyNext (.ref ir)) Q E s := by
  obtain ⟨o, ho, hc, hd⟩ := id hit
  obtain ⟨ol, hol, _, nl, hdl⟩ := hl
  obtain ⟨hh, o1, vs1, h1, d1, c1⟩ := hot
  have nx : x1 ≠ ir := fun z => by
    rw [z, ho] at h1
    have e := Option.some.inj h1
    subst e
    rw [hd] at d1
    cases d1
    cases c1
  unfold pyNext
  apply wpAny_bind
  apply wpAny_attempt
  apply wpAny_callSpecial?_slot (name := Str.ofString "__next__") hit.typeIs slot_tupleiter_next
  refine wpAny_call_entry slot_tupleiter_next hit.typeIs entry_tupleiter_next ?_ (args_tupleiter_next _)
  show wpAny _ _ (field (.ref ir) 0 >>= _) _ _ _
  apply wpAny_bind
  refine wpAny_field ho hd (x := .ref la) rfl ?_
  show wpAny _ _ (if (Value.ref la == Value.none) = true then _ else _) _ _ _
  rw [if_neg (show ¬ ((Value.ref la == Value.none) = true) from nofun)]
  show wpAny _ _ (field (.ref ir) 1 >>= _) _ _ _
  apply wpAny_bind
  refine wpAny_field ho hd (x := .int i 0) rfl ?_
  show wpAny _ _ (seqItems? (.ref la) >>= _) _ _ _
  apply wpAny_bind
  refine wpAny_seqItems hol hdl ?_
  simp only [hx, Int.toNat_natCast]
  apply wpAny_bind
  refine wpAny_rule (wpAny_bind (wpAny_setField ho hd (by simp) ?_))
  apply wpAny_bind
  show wpAny _ _ (newExc (.type "StopIteration") [] >>= _) _ _ _
  apply wpAny_bind
  simp only [newTuple, newExc]
  apply wpAny_bind
  refine wpAny_newObj_type ?_ (by size_fits)
  apply wpAny_bind (m := firstArgMember _ _)
  refine wpAny_of_eq (a := Value.none) (by first | rfl | (simp only [firstArgMember]; rfl)) ?_
  refine wpAny_newObj_type ?_ (by size_fits)
  have h1' : (s.heap.update ir (Obj.mapFields fun x => x.setIfInBounds 0 Value.none)).get? x1 = some o1 := by rw [Heap.get?_update_other _ _ (Ne.symm nx)]; exact h1
  have h2' := Heap.get?_push_of_some { cls := .type "tuple", data := .seq #[] } h1'
  apply wpAny_pure
  refine raiseNew_hot ⟨hh, o1, vs1, Heap.get?_push_of_some _ h2', d1, c1⟩ (Nat.ne_of_lt (Heap.lt_size h2')) (Heap.get?_push_size _ rfl) rfl (by first | (simp; done) | (simp; omega)) ?_
  apply wpAny_bind
  refine wpAny_isInstance (T := "StopIteration") (b := true) ⟨_, Heap.get?_update_self _ (Heap.get?_push_size _ rfl) rfl, rfl⟩ isSubtype_stop (wpAny_pure (fin _ fun b ob hb e => ?_))
  have e1 : (s.heap.update ir (Obj.mapFields fun x => x.setIfInBounds 0 Value.none)).get? b = some ob := by rw [Heap.get?_update_other _ _ (Ne.symm hb)]; exact e
  have e2 := Heap.get?_push_of_some { cls := .type "tuple", data := .seq #[] } e1
  rw [Heap.get?_update_other _ _ (Nat.ne_of_gt (Heap.lt_size e2))]
  exact Heap.get?_push_of_some _ e2
theorem unpack_hot {prog : Program} {w : World} {A : Around} {E : Value → Shared → Prop} {s : Shared} {ta x1 : Addr} {xs0 : Array Value} {tgs : List (Bool × (Value → Sem Unit))} {Q : Unit → Shared → Prop} (hot : HotAt A x1 s.heap) (ht : IsTup s.heap ta xs0) (hn : tgs.length = xs0.size) (hst : tgs.findIdx? (·.1) = none)
    (fin : ∀ h', (∀ b o, s.heap.get? b = some o → h'.get? b = some o) → wpAny (model prog w) A (assignInOrder (tgs.map (·.2)) xs0.toList) Q E { s with heap := h' }) : wpAny (model prog w) A (unpack (.ref ta) tgs) Q E s := by
  have ne : ta ≠ s.heap.objs.size := by
    obtain ⟨o, ho, _⟩ := ht
    exact Nat.ne_of_lt (Heap.lt_size ho)
  unfold unpack
  rw [hn, hst]
  refine wpAny_bind (wpAny_holding ?_)
  unfold unpackItems
  apply wpAny_bind
  unfold notIterableAtAll
  apply wpAny_bind
  refine wpAny_specialOf ht.typeIs slot_tuple_iter.lookup (wpAny_pure ?_)
  rw [if_neg (by decide)]
  apply wpAny_bind
  refine wpAny_holding (iter_tuple ht ?_)
  apply wpAny_bind
  refine wpAny_holding (draw_tuple ne xs0.size 0 _ _ ⟨_, Heap.get?_push_size _ rfl, rfl, rfl⟩ (ht.push _) (by omega) fun h4 it4 s4 => ?_)
  have whole : List.take xs0.size (List.drop 0 xs0.toList) = xs0.toList := by
    rw [List.drop_zero]
    exact List.take_of_length_le (by simp)
  rw [whole, if_neg (by simp)]
  have t4 : IsTup h4 ta xs0 := (ht.push _).extBut s4.extBut ne
  have keep4 : ∀ b o, s.heap.get? b = some o → h4.get? b = some o := fun b o e => s4.extBut b o (Nat.ne_of_lt (Heap.lt_size e)) (Heap.get?_push_of_some _ e)
  obtain ⟨hh, o1, vs1, g1, d1, c1⟩ := hot
  apply wpAny_bind
  refine wpAny_holding (nextT_end_hot (s := { s with heap := h4 }) (x1 := x1) ⟨hh, o1, vs1, keep4 _ _ g1, d1, c1⟩ it4 t4 (by simp) fun h5 k5 => ?_)
  rw [if_neg (by decide)]
  exact wpAny_pure (fin h5 fun b o e => k5 b o (Nat.ne_of_lt (Heap.lt_size e)) (keep4 b o e))
theorem pg_tupH {X : Cx} {es : List Expr} {k : Nat} {pos : Pos} {t : TGs} {n : Nat} (hot : HotI X) (h : PGs X es t) (hn : (assignEach es X.env).length = n) (hst : (assignEach es X.env).findIdx? (·.1) = none) : PG X (.Tuple es k pos) (gTup X.K n t) := by
  constructor
  intro pins s σ H v u Q I r ⟨a, xs, e1, hq, hl, hw⟩
  subst e1
  cases r
  obtain ⟨its, rv, ht, hz⟩ := I.tuple hq
  obtain ⟨x1, hx⟩ := hot pins σ H s I
  rw [PyProof.Rows.assign_Tuple]
  refine wpAny_bind (wpAny_standAt (unpack_hot hx ht (by simp [hn, ← hl, rv.length]) hst fun h' kk => ?_))
  exact h.run pins _ σ H xs _ Q (I.kept (t' := s.toks) kk) (by simpa using rv) hw
theorem pe_lcH {X : Cx} {elt tg l : Expr} {ifs : List Expr} {scope : Scope} {own : List (Str × Nat)} {pos : Pos} {tl : TE} {g : TG} {tt : TT} {te : TE} (hot : HotC X) (hN : X.N.Nodup) (hl : PE X l tl) (ok : BlkOk X.N X.env.scope scope own)
    (hg : ∀ (s : Shared) (H : Hp) (C : Addr) (cl : List (Str × Addr)) (fp : List Addr), HotI (X.blk s H scope (compEnvC scope cl C X.env) fp) → PG (X.blk s H scope (compEnvC scope cl C X.env) fp) tg g) (ht : ∀ (s : Shared) (H : Hp) (C : Addr) (cl : List (Str × Addr)) (fp : List Addr), PTs (X.blk s H scope (compEnvC scope cl C X.env) fp) ifs tt)
    (he : ∀ (s : Shared) (H : Hp) (C : Addr) (cl : List (Str × Addr)) (fp : List Addr), PE (X.blk s H scope (compEnvC scope cl C X.env) fp) elt te) (hs : ∀ x, foldedSetIterable l X.env x = pure x) :
    PE X (.ListComp elt [⟨tg, l, ifs, 0⟩] scope pos) (tLc (iList X.K tl) g tt te (own.map (·.2))) := by
  constructor
  intro pins s σ H Q I h
  rw [eval_ListComp]
  have cap : ∀ y ∈ scope.names, y.2 = .free → ∃ c, X.env.cells.lookup y.1 = some c := fun y hy e => (ok.free y hy e).elim (fun k => I.ok.has _ (.inl k)) fun k => I.ok.has _ (.inr k)
  apply wpAny_comprehension_free (use := none) rfl hs (closure_ok cap) ok.kind (fun y hy e => by rw [ok.uniq y hy, e])
  refine thn (hl.run pins s σ H _ I h) fun xv s1 ⟨x, H1, I1, rx, a, ex, ⟨xs, hq⟩, turns⟩ => ?_
  subst ex
  cases (show xv = Value.ref a from rx)
  obtain ⟨its, rv, pl, hz⟩ := I1.list hq
  refine wpAny_pyIter_list pl.isList ?_
  -- the iterator, then the new list
  generalize hi : s1.heap.objs.size = ir
  generalize hs2 : ({ s1 with heap := s1.heap.push { cls := .type "list_iterator", data := .fields #[.ref a, .int 0 0] } } : Shared) = s2
  have I2 : Inv X pins σ H1 s2 := by
    rw [← hs2]
    exact I1.kept (t' := s1.toks) fun b o e => Heap.get?_push_of_some _ e
  have st2 : s2.heap.IsListIter ir a 0 := by
    rw [← hs2, ← hi]
    exact ⟨_, Heap.get?_push_size _ rfl, rfl, rfl⟩
  have fi2 : FpOk X pins H1 ir := by
    rw [← hi]
    exact I1.fpOk (Nat.le_refl _) (I1.hok.fresh (Nat.le_refl _))
  refine wpAny_newObj_type (newEnv_comp ?_) (Nat.zero_le _)
  generalize hD : s2.heap.objs.size = D
  have freeD : H1 D = none := I2.hok.fresh (Nat.le_of_eq hD)
  obtain ⟨Wt, ⟨m0, w0⟩, turn⟩ := turns D freeD
  generalize hs3 : ({ s2 with heap := s2.heap.push { cls := .type "list", data := .seq ([] : List Value).toArray } } : Shared) = s3
  have up3 : ∀ b o, s2.heap.get? b = some o → s3.heap.get? b = some o := fun b o e => by rw [← hs3]; exact Heap.get?_push_of_some _ e
  have I3 : Inv X pins σ (upd H1 D (.lst [])) s3 := by
    have at_ : s3.heap.get? D = some { cls := .type "list", data := .seq ([] : List Value).toArray } := by rw [← hs3, ← hD]; exact Heap.get?_push_size _ rfl
    have z := I2.laid (t' := s2.toks) (h' := s3.heap) (o := .lst []) up3 (Nat.le_of_eq hD) ⟨Nat.zero_le _, [], 0, .nil, at_⟩
    rw [← hs3] at z ⊢
    exact z
  have st3 : s3.heap.IsListIter ir a 0 := st2.at fun o e => up3 _ _ e
  have lt3 : ir < s3.heap.objs.size := by
    obtain ⟨o, e, _⟩ := st3
    exact Heap.lt_size e
  have nD : ir ≠ D := fun z => by
    obtain ⟨o, e, _⟩ := st2
    have k := Heap.lt_size e
    rw [z, hD] at k
    exact Nat.lt_irrefl _ k
  have fi3 : FpOk X pins (upd H1 D (.lst [])) ir := ⟨by rw [upd_ne nD]; exact fi2.1, fi2.2⟩
  have fis : ∀ b ∈ [ir], FpOk X pins (upd H1 D (.lst [])) b ∧ b < s3.heap.objs.size := fun b hb => by
    cases List.mem_singleton.mp hb
    exact ⟨fi3, lt3⟩
  have I4 := block_start I3 ok hN fis
  have pg := hg s3 (upd H1 D (.lst [])) s3.heap.objs.size (cellsFrom (s3.heap.objs.size + 1) scope.names (cloFrom X.env.cells scope.names [])) [ir]
  have pt := ht s3 (upd H1 D (.lst [])) s3.heap.objs.size (cellsFrom (s3.heap.objs.size + 1) scope.names (cloFrom X.env.cells scope.names [])) [ir]
  have pe := he s3 (upd H1 D (.lst [])) s3.heap.objs.size (cellsFrom (s3.heap.objs.size + 1) scope.names (cloFrom X.env.cells scope.names [])) [ir]
  show codeAny _ _ (.compStart (.ListComp elt [⟨tg, l, ifs, 0⟩] scope pos) 0 (.ref ir) (.ref D) (compEnvC scope (cellsFrom (s3.heap.objs.size + 1) scope.names (cloFrom X.env.cells scope.names [])) s3.heap.objs.size X.env)) (compPost (model X.prog X.w) X.A X.xe none _ (.ref D) s3.heap.objs.size) { s3 with heap := pushCells (s3.heap.push { cls := .type "dict", data := .dict #[] }) scope.names }
  generalize hB : compEnvC scope (cellsFrom (s3.heap.objs.size + 1) scope.names (cloFrom X.env.cells scope.names [])) s3.heap.objs.size X.env = bn at I4 pg pt pe ⊢
  have bL : bn.locals = s3.heap.objs.size := by rw [← hB]; rfl
  generalize hH3 : upd H1 D (.lst []) = H3 at I3 I4 pg pt pe w0 fi3 fis
  generalize hs4 : ({ s3 with heap := pushCells (s3.heap.push { cls := .type "dict", data := .dict #[] }) scope.names } : Shared) = s4 at I4 ⊢
  have st4 : s4.heap.IsListIter ir a 0 := st3.at fun o e => by rw [← hs4]; exact pushCells_keeps _ _ _ _ (Heap.get?_push_of_some _ e)
  -- the error that is handled stands through the block
  obtain ⟨p, ⟨hh, vs1, d1, c1⟩, hp⟩ := hot
  have pin3 := I3.pin p (List.mem_append_left _ hp)
  have pne : p.1 ≠ ir := fi3.2.2.2.2.2 p (List.mem_append_left _ hp)
  have hotAt : ∀ {pl : List (Addr × Obj)} {σ' : L2.St} {H' : Hp} {s' : Shared}, Inv (X.blk s3 H3 scope bn [ir]) pl σ' H' s' → HotAt X.A p.1 s'.heap := fun {pl σ' H' s'} J => by
    have hfs : p.1 ∉ (X.blk s3 H3 scope bn [ir]).fs := fun z => by
      rcases List.mem_cons.mp (I3.stkSub p.1 z) with e | e
      · exact pin3.2.2.1 e
      · exact pin3.2.2.2.1 e
    exact ⟨hh, p.2, vs1, J.base.keep p.1 p.2 pin3.1 pin3.2.1 hfs (fun z => pne (List.mem_singleton.mp z)), d1, c1⟩
  have pg := pg fun pl σ' H' s' J => ⟨p.1, hotAt J⟩
  have fpB : ∀ {σ' : L2.St} {H' : Hp} {s' : Shared}, Inv (X.blk s3 H3 scope bn [ir]) [] σ' H' s' → H' ir = none → FpOk (X.blk s3 H3 scope bn [ir]) [] H' ir := fun {σ' H' s'} J hn =>
    ⟨hn, (J.ok.exf ir (List.mem_singleton.mpr rfl)).1, J.ok.exfs ir (List.mem_singleton.mpr rfl), .inl (List.mem_singleton.mpr rfl), fun x c e => (J.ok.exf ir (List.mem_singleton.mpr rfl)).2 x c e, fun q hq => absurd (show q ∈ ([] : List (Addr × Obj)) ++ [] from hq) (by simp)⟩
  have loop : codeAny (model X.prog X.w) X.A (.compLoop (.ListComp elt [⟨tg, l, ifs, 0⟩] scope pos) 0 (.ref ir) (.ref D) bn) (compPost (model X.prog X.w) X.A X.xe none (EP X pins σ Q) (.ref D) s3.heap.objs.size) s4 := by
    refine compLoop_any (fun n s' => ∃ i H', Inv (X.blk s3 H3 scope bn [ir]) [] (wipe σ (own.map (·.2))) H' s' ∧ s'.heap.IsListIter ir a i ∧ H' ir = none ∧ Wt i n H') ?_ m0 ⟨0, H3, I4, st4, fi3.1, w0⟩
    rintro n s5 ⟨i, H5, I5, st5, n5, w5⟩
    rcases turn i n H5 w5 with ⟨⟨xs5, q5, l5⟩, qq⟩ | ⟨⟨xs5, x5, q5, e5⟩, Nx, hNx, step⟩
    · -- the end
      obtain ⟨its5, rv5, pl5, _⟩ := I5.list q5
      have fp5 := fpB I5 n5
      obtain ⟨f0, f1, f2, f3, f4, f5⟩ := fp5
      refine next_end_hot (hotAt I5) st5 pl5.isList (by have := rv5.length; simp; omega) fun h6 k6 => ?_
      have I6 : Inv (X.blk s3 H3 scope bn [ir]) [] (wipe σ (own.map (·.2))) H5 { s5 with heap := h6 } := I5.turned (t' := s5.toks) k6 f0 f1 f3 f4 f5
      have I7 : Inv X pins σ H5 { s5 with heap := h6 } := I3.call' (ch := [ir]) I6.os I6.base I6.hok I6.bare fun b hb => by
        obtain ⟨⟨_, g1, _, g3, g4, g5⟩, _⟩ := fis b hb
        exact ⟨g3, g1, g4, g5⟩
      have nC : H5 s3.heap.objs.size = none := by
        have z : H5 bn.locals = none := I6.free
        rw [bL] at z
        exact z
      obtain ⟨m, hn, _⟩ := I6.loc
      have hn : ({ s5 with heap := h6 } : Shared).heap.Ns bn.locals m := hn
      rw [bL] at hn
      refine ⟨m, hn, fun h8 sb => ?_⟩
      obtain ⟨g0, g1, g2, g3, g4, g5⟩ := I3.fpOk (Nat.le_refl _) nC
      exact ⟨.ref D, H5, I7.turned (t' := s5.toks) (fun b o hb e => (sb.2 b hb).trans e) g0 g1 g3 g4 g5, rfl, qq⟩
    · -- a turn
      refine thnF (next_item (X := X.blk s3 H3 scope bn [ir]) (tg := tg) rfl rfl I5 (fpB I5 n5) st5 q5 e5) fun r s6 ⟨u, hr, h6⟩ => ?_
      subst hr
      refine thnF h6 fun _ s7 ⟨I7, r7, st7⟩ => ?_
      have here : ∀ b ∈ [ir], ∃ o, s7.heap.get? b = some o ∧ ∀ v, o.data ≠ .cell v := fun b hb => by
        cases List.mem_singleton.mp hb
        obtain ⟨o, e, c, d⟩ := st7
        exact ⟨o, e, fun v z => by rw [d] at z; cases z⟩
      have J7 := I7.pinned (fp := [ir]) (fun b hb => by
        cases List.mem_singleton.mp hb
        exact fpB I7 n5) here
      refine thnF (pg.run _ s7 _ H5 x5 u _ J7 r7 (step x5 H5 ⟨rfl, fun ys hy => by rw [I5.list_inj hy q5]; exact e5⟩)) fun _ s8 ⟨σ8, H8, I8, w8, q8⟩ => ?_
      refine thnF (pt.run _ s8 σ8 H8 _ I8 q8) fun b s9 ⟨H9, I9, q9⟩ => ?_
      have fin : ∀ {s' : Shared} {H' : Hp}, Inv (X.blk s3 H3 scope bn [ir]) ([] ++ pinsAt [ir] s7.heap) σ8 H' s' → Nx H' → ∃ m, m < n ∧ ∃ i H', Inv (X.blk s3 H3 scope bn [ir]) [] (wipe σ (own.map (·.2))) H' s' ∧ s'.heap.IsListIter ir a i ∧ H' ir = none ∧ Wt i m H' := fun {s' H'} J nx => by
        obtain ⟨m', hm, w'⟩ := hNx H' nx
        have still : ∀ o, s7.heap.get? ir = some o → s'.heap.get? ir = some o ∧ H' ir = none := fun o e =>
          have z := J.pin (ir, o) (List.mem_append_right _ (List.mem_append_right _ (mem_pinsAt (List.mem_singleton.mpr rfl) e)))
          ⟨z.1, z.2.1⟩
        refine ⟨m', hm, i + 1, H', (J.unpinned (pins := [])).weak (by rw [← w8, wipe_length]) (fun j v e => ?_), st7.at fun o e => (still o e).1, ?_, w'⟩
        · rw [← w8] at e
          exact (wipe_some e).1
        · obtain ⟨o, e, _⟩ := st7
          exact (still o e).2
      cases b with
      | false => exact fin I9 (by simpa using q9)
      | true =>
        have q9 : te σ8 H9 fun y H4 => ∃ acc, H4 D = some (.lst acc) ∧ acc.length < sizeLine ∧ Nx (upd H4 D (.lst (acc ++ [y]))) := by simpa using q9
        refine thnF (pe.run _ s9 σ8 H9 _ I9 q9) fun z s10 ⟨yv, H10, I10, r10, acc, hD10, hz10, nx⟩ => ?_
        exact app_ok (X := X.blk s3 H3 scope bn [ir]) I10 hD10 hz10 r10 fun s11 I11 => fin I11 nx
  exact codeAny_compStart_list loop (wpAny_pyIter_listiter st4 loop)
end Mt
/-! Part V: what is asked of the error that is handled; the def that names it. -/
namespace Mt
open PySem PySem.Spec PySem.Calls PyProof.Rows L2 L2H HotX

/-- the error at a: of the class C, its dict at dd -/
structure ErAt (X : Cx) (a C dd : Addr) (oe : Obj) : Prop where
  mem : (a, oe) ∈ X.pn
  cls : oe.cls = .ref C
  dict : oe.dict = some dd
  dat : ∃ vs, oe.data = .fields vs
theorem ErAt.inst {X : Cx} {a C dd : Addr} {oe : Obj} (T : ErAt X a C dd oe) {pins : List (Addr × Obj)} {σ : L2.St} {H : Hp} {s : Shared} {fs : List (Str × V)} (I : Inv X pins σ H s) (hd : H dd = some (.xd fs)) :
    ∃ od m, PySem.W.InstAt s.heap a oe C (some od) ∧ s.heap.Ns1 dd m ∧ s.heap.get? dd = some od ∧ ∀ f, RelO (fs.lookup f) (m f) := by
  obtain ⟨m, hns, hr⟩ : ObjOk X.prog X.w H s.heap dd (.xd fs) := I.hok dd _ hd
  obtain ⟨od, es, ep, ho, r⟩ := id hns
  obtain ⟨vs, hv⟩ := T.dat
  exact ⟨od, m, ⟨(I.pin (a, oe) (List.mem_append_left _ T.mem)).1, T.cls, by unfold PySem.W.notCls; rw [hv] <;> rfl, by rw [T.dict]; exact ho⟩, hns, ho, hr⟩
/-- isinstance(e, c) -/
def rIsJ (K : PySem.W.Frag) (a C dd : Addr) : List V → Hp → VK → Prop := fun xs H Q => ∃ (c : V) (cv : Value) (b : Bool) (fs : List (Str × V)), xs = [.ref a, c] ∧ (∀ u, RelV c u → u = cv) ∧ PySem.W.kitOne K (.ref C) cv = some b ∧ H dd = some (.xd fs) ∧ Q (.bl b) H
theorem call_isJ {X : Cx} {a C dd : Addr} {oe : Obj} (E : ExcC X.K C) (T : ErAt X a C dd oe) : CallR X (.builtin "isinstance") (rIsJ X.K a C dd) := by
  intro pins s σ H xs us Q I r ⟨c, cv, b, fs, ex, hcv, hk, hd, q⟩
  subst ex
  cases r with
  | cons rx r =>
    cases r with
    | cons rt r =>
      cases r
      cases rx
      cases hcv _ rt
      obtain ⟨od, m, J, _⟩ := T.inst I hd
      have hcl : (PySem.W.clsIn X.K C).isSome = true := by
        obtain ⟨cd, h1, _⟩ := PySem.W.any_some E.hd
        rw [h1]
        rfl
      exact PySem.W.kia_one (PySem.W.kitx_exc hcl E.hg E.hk E.hs E.ha E.hn E.ht E.hm) I.kIn J hk (fun z => nomatch z) fun tk => ⟨.bl b, H, I.kept (t' := tk) fun _ _ z => z, rfl, q⟩
/-- e.at -/
theorem pe_atJ {X : Cx} {a C dd : Addr} {oe : Obj} {e : Expr} {te : TE} {pos : Pos} {n : Str} (T : ErAt X a C dd oe) (E : XfC X.K C) (hno : PySem.W.findIn X.K (.ref C) n = some none) (he : PE X e te) (hb : attributeBase e n X.env (eval e X.env) = eval e X.env) :
    PE X (.Attribute e n pos) (fun σ H Q => te σ H fun x H1 => x = .ref a ∧ ∃ fs v, H1 dd = some (.xd fs) ∧ fs.lookup n = some v ∧ Q v H1) := by
  constructor
  intro pins s σ H Q I h
  refine attr_of hb (thn (he.run pins s σ H _ I h) fun u s1 ⟨x, H1, I1, rx, ex, fs, v, hd, hv, q⟩ => ?_)
  subst ex
  cases (show u = Value.ref a from rx)
  obtain ⟨od, m, J, hns, ho, hr⟩ := T.inst I1 hd
  obtain ⟨od2, ho2, hl⟩ := lookIn_ns hns
  rw [ho] at ho2
  cases ho2
  obtain ⟨u, hu, ru⟩ := RelO.some_of (v := v) (o := m n) (by rw [← hv]; exact hr n)
  exact HandSPX.exc_get I1.kIn J E.ga E.gg E.exC (PySem.W.findObj_own E.hdC hno rfl (by rw [hl, hu])) (handed_of ru) ⟨v, H1, I1.tok _, ru, q⟩

/-! ### a def that is called with the error -/
structure FnJ (P : Program) (w : World) (K : PySem.W.Frag) (mg : Str → Option Value) (base : Heap) (C : CXT) (k : Nat) (f : Addr) (fd : FuncData) (ps : List Str) (sp : Addr × Obj → Sp) : Prop where
  len : ∀ {p vs H Q E}, sp p vs H Q E → vs.length = ps.length
  run : ∀ {A : Around} {outer : List Env} {s : Shared} {H : Hp} {args : Args} {us : List Value} {vs : List V} {Q : VK} {E : XK} {p : Addr × Obj}, RoomH k A → Hot1 A p → PinOk outer H s p → Env0 P w K mg base A outer s H → BindsTo s fd args (ps.zip us) →
    Vals vs us → sp p vs H Q E → codeAny (model P w) A (.call (.ref f) args) (CR C outer P w H s Q E) s
theorem fnJ_of {C : CXT} {P : Program} {w : World} {K : PySem.W.Frag} {mg : Str → Option Value} {base : Heap} {k : Nat} {f : Addr} {x qual : Str} {params : Arguments} {body : List Stmt} {scope : Scope} {fd : FuncData} {N ps : List Str} {sp : Addr × Obj → Sp}
    (F : FunD K x qual params body scope [] [] f fd) (S : FnScope N ps scope) (len : ∀ p vs H Q E, sp p vs H Q E → vs.length = ps.length)
    (bod : ∀ (cdv : Value) (A : Around) (outer : List Env) (s : Shared) (H : Hp) (vs : List V) (Q : VK) (E : XK) (p : Addr × Obj), RoomH k (A.deeper (envOfC qual scope s.heap.objs.size f cdv)) → Hot1 A p → sp p vs H Q E →
      ∃ t, PSs (cxH C P w K mg base N qual scope f cdv A outer s H E p) body t ∧ t { nx := fun _ H' => Q .non H', rt := Q } (L2.start N vs) H) : FnJ P w K mg base C (k + 1) f fd ps sp := by
  obtain ⟨oc, od, dV, kV, doc, pm, an, cdv, ct, osl, rfl, lk, cd, _, _⟩ := F.ex
  refine ⟨fun h => len _ _ _ _ _ h, ?_⟩
  intro A outer s H args us vs Q E p room hot pin e0 bt rel hs
  have n := len p vs H Q E hs
  have kin : K.In s.heap := e0.mod.kin.keeps fun b o e => (e0.bs b o e).1
  have nolim := e0.mod.nolimit.keeps fun b o e => (e0.bs b o e).1
  have kinds : ∀ y ∈ ps.zip us, scope.names.lookup y.1 = some .local ∨ (scope.names.lookup y.1 = some .cell ∧ ((cellsFrom (s.heap.objs.size + 1) scope.names []).lookup y.1).isSome = true) := by
    rintro ⟨y, u⟩ hy
    cases S.par y (List.of_mem_zip hy).1 with
    | inl q => exact Or.inl q
    | inr q => exact Or.inr ⟨q, PySem.W.cellsFrom_some _ _ _ (Or.inl q)⟩
  apply codeAny_call_function room.depth (kin _ _ lk) rfl S.co S.gen rfl (PySem.W.codeRec_of kin cd)
  apply bt
  apply wpAny_newFunctionEnv_cells S.kind kinds
  rintro env rfl s1 inn
  refine ⟨nolim.keeps inn.toInCall.keep, codeAny_func ?_⟩
  obtain ⟨t, rd, q⟩ := bod cdv A outer s H vs Q E p (room.deeper _) hot hs
  have I := inv_startH (CX := C) (E := E) S pin e0 n rel inn
  refine wpAny_mono (rd.run [] s1 _ H _ I q) ?_ fun e s' z => z
  intro fl s' z
  match fl, z with
  | .ret u, ⟨v, _, H', J, rv, qq⟩ => exact ⟨v, H', J.os, J.bare, J.base, J.hok, rv, qq⟩
  | .next, ⟨_, H', J, qq⟩ => exact ⟨V.non, H', J.os, J.bare, J.base, J.hok, rfl, qq⟩
  | .brk, ⟨_, _, _, qq⟩ => exact qq.elim
  | .cont, ⟨_, _, _, qq⟩ => exact qq.elim
/-- f(e) in the suite of the error -/
theorem pe_callJ {X : Cx} {C : CXT} {k : Nat} {f : Addr} {fd : FuncData} {ps : List Str} {sp : Addr × Obj → Sp} {E : L2.St → XK} {x : Str} {q pos : Pos} {a : Expr} {es : List Expr} {t : TA} {p : Addr × Obj} (F : FnJ X.prog X.w X.K X.mg X.base C k f fd ps sp) (room : RoomH k X.A) (hot : Hot1 X.A p) (hp : p ∈ X.pn)
    (g : Gl X x) (m : X.mg x = some (.ref f)) (kp : PySem.W.keepIn X.K (.ref f) = true) (bi : Binds X.K fd ps []) (out : ∀ σ, PassesAt C X σ (E σ)) (ha : PA X (a :: es) t) (nd : (x == ("__debug__" : Str)) = false)
    (st : starEach (a :: es) X.env = (false, eval a X.env) :: starEach es X.env) (pl : (backTo pos (starEach es X.env)).any (·.1) = false) : PE X (.Call (.Name x q) (a :: es) [] pos) (fun σ H Q => t σ H fun vs H1 => sp p vs H1 Q (E σ)) := by
  constructor
  intro pins s σ H Q I h
  apply wpAny_Call_Name_kw
  apply ld_glob I g m _ nd
  refine PySem.W.callWith_K (h₀ := X.base) I.ok.mod.kin kp (thn (ha.run pos pins s σ H _ I h) fun us s1 ⟨vs, H1, I1, r, hs⟩ => ⟨I1.kIn, ?_⟩) st pl
  have hl : us.length = ps.length := r.length.symm.trans (F.len hs)
  have b := bi s1 us I1.kIn (by simpa using hl)
  simp only [List.append_nil] at b
  have P1 := I1.pin p (List.mem_append_left _ hp)
  have hpin : PinOk X.stack H1 s1 p := ⟨P1.1, P1.2.1, fun hm => (List.mem_cons.mp (I1.stkSub p.1 hm)).elim P1.2.2.1 P1.2.2.2.1, P1.2.2.2.2⟩
  refine wpAny_call (codeAny_mono (F.run room hot hpin I1.env0 b r hs) ?_)
  intro r' s' got
  match r', got with
  | .error e, got => exact out σ pins H1 s1 e s' I1 got
  | .ok (.ret u), got => exact I1.after got
  | .ok .next, got => exact got.elim
  | .ok .brk, got => exact got.elim
  | .ok .cont, got => exact got.elim
end Mt
/-! Part W: the def that names the handled error: words = [(word, isinstance(e, C)), ..], then (' '.join([..]), e.at). -/
namespace Mt
open PySem PySem.Spec PySem.Calls PyProof.Rows L2 L2H HotX

structure CtxN (X : Cx) (c : SC) : Prop where
  hN : X.N = c.N
  sc : X.env.scope = c.sc
  fn : X.fn = c.fn
theorem CtxN.blk {X : Cx} {c : SC} (h : CtxN X c) (s : Shared) (H : Hp) (scope : Scope) (cc : List (Str × Addr)) (C : Addr) (fp : List Addr) : CtxN (X.blk s H scope (compEnvC scope cc C X.env) fp) (c.blk scope) where
  hN := h.hN
  sc := by
    show relS scope X.env.scope = relS scope c.sc
    rw [h.sc]
  fn := rfl
theorem CtxN.vis {X : Cx} {c : SC} (h : CtxN X c) {i : Nat} {x : Str} (e : c.vis i x = true) {pos : Pos} : PE X (.Name x pos) (tVar i) := by
  unfold SC.vis dbg at e
  simp only [Bool.and_eq_true, Bool.or_eq_true, beq_iff_eq, Bool.not_eq_true'] at e
  obtain ⟨⟨e1, e2⟩, e3, e4⟩ := e
  exact pe_var (by rw [h.hN]; exact e1) (by rw [h.sc]; exact e2) e3 e4
theorem CtxN.gl {X : Cx} {c : SC} (h : CtxN X c) {x : Str} (e : c.gl x = true) : Gl X x ∧ (x == ("__debug__" : Str)) = false := by
  unfold SC.gl dbg at e
  simp only [Bool.and_eq_true, beq_iff_eq, Bool.not_eq_true'] at e
  exact ⟨by unfold Gl Env.kindOf; rw [h.sc]; exact e.1, e.2.1⟩
theorem CtxN.loc {X : Cx} {c : SC} (x : CtxN X c) {i : Nat} {y : Str} (h : c.loc i y = true) : X.N[i]? = some y ∧ L2.Loc X.env.scope y ∧ (X.fn y = true ∨ X.env.scope.names.lookup y = some .local) := by
  unfold SC.loc at h
  simp only [Bool.and_eq_true, Bool.or_eq_true, beq_iff_eq] at h
  obtain ⟨⟨h1, h2⟩, h3⟩ := h
  exact ⟨by rw [x.hN]; exact h1, by unfold L2.Loc; rw [x.sc]; exact h2, by rw [x.fn, x.sc]; exact h3⟩

/-! ### the words in the heap -/
def Its (H : Hp) : List V → List (Str × Bool) → Prop
  | [], [] => True
  | v :: vs, w :: ws => (∃ q, v = .ref q ∧ H q = some (.tup [.str w.1, .bl w.2])) ∧ Its H vs ws
  | _, _ => False
theorem Its.same {H H' : Hp} (s : Same H H') : ∀ {vs : List V} {ws : List (Str × Bool)}, Its H vs ws → Its H' vs ws
  | [], [], _ => True.intro
  | _ :: _, _ :: _, ⟨⟨q, e, h⟩, r⟩ => ⟨⟨q, e, s _ _ h⟩, Its.same s r⟩
theorem Its.append {H : Hp} : ∀ {vs us : List V} {ws xs : List (Str × Bool)}, Its H vs ws → Its H us xs → Its H (vs ++ us) (ws ++ xs)
  | [], _, [], _, _, q => q
  | _ :: _, _, _ :: _, _, ⟨h, r⟩, q => ⟨h, Its.append r q⟩
theorem Its.length {H : Hp} : ∀ {vs : List V} {ws : List (Str × Bool)}, Its H vs ws → vs.length = ws.length
  | [], [], _ => rfl
  | _ :: _, _ :: _, ⟨_, r⟩ => congrArg Nat.succ (Its.length r)
theorem Its.get {H : Hp} : ∀ {vs : List V} {ws : List (Str × Bool)} {i : Nat} {v : V}, Its H vs ws → vs[i]? = some v → ∃ w q, ws[i]? = some w ∧ v = .ref q ∧ H q = some (.tup [.str w.1, .bl w.2])
  | [], [], _, _, _, e => by simp at e
  | _ :: _, w :: _, 0, _, ⟨⟨q, e, h⟩, _⟩, z => by
    simp at z
    subst z
    exact ⟨w, q, rfl, e, h⟩
  | _ :: _, _ :: _, i + 1, _, ⟨_, r⟩, z => by
    obtain ⟨w, q, h1, h2, h3⟩ := Its.get (i := i) r (by simpa using z)
    exact ⟨w, q, by simpa using h1, h2, h3⟩
theorem picked_snoc {ws : List (Str × Bool)} {i : Nat} {w : Str × Bool} (h : ws[i]? = some w) : picked (ws.take (i + 1)) = if w.2 = true then picked (ws.take i) ++ [w.1] else picked (ws.take i) := by
  unfold picked
  rw [List.take_succ, h]
  simp only [Option.toList_some, List.filter_append, List.map_append]
  cases hw : w.2 <;> simp [hw]
theorem picked_le (ws : List (Str × Bool)) : ((picked ws).map (·.length)).sum + (picked ws).length ≤ (ws.map fun w => w.1.length + 1).sum := by
  unfold picked
  induction ws with
  | nil => simp
  | cons w ws ih =>
    rw [List.filter_cons]
    split
    · simp only [List.map_cons, List.sum_cons, List.length_cons]
      omega
    · simp only [List.map_cons, List.sum_cons]
      omega
theorem picked_len (ws : List (Str × Bool)) : (picked ws).length ≤ ws.length := by
  unfold picked
  rw [List.length_map]
  exact List.length_filter_le _ _

section
variable {X : Cx} {c : SC} {a C dd : Addr} {oe : Obj} {va : V}
/-- the error's dict, the error in the first slot -/
structure ErSt (X : Cx) (a dd : Addr) (va : V) (σ : L2.St) (H : Hp) : Prop where
  len : σ.length = 4
  var : σ[0]? = some (some (.ref a))
  at_ : H dd = some (.xd [(Str.ofString "at", va)])
theorem ErSt.same {σ : L2.St} {H H' : Hp} (h : ErSt X a dd va σ H) (s : Same H H') : ErSt X a dd va σ H' := ⟨h.len, h.var, s _ _ h.at_⟩
def WordK (X : Cx) (C : Addr) (cn : Str) (b : Bool) : Prop := ∃ D, X.mg cn = some (.ref D) ∧ PySem.W.kitOne X.K (.ref C) (.ref D) = some b
theorem pe_word {w cn : Str} {b : Bool} {x : Str} {j k : Nat} {p1 p2 p3 p4 p5 p6 : Pos} (N : CtxN X c) (T : ErAt X a C dd oe) (E : ExcC X.K C) (hv : c.vis 0 x = true) (hi : c.gl "isinstance" = true) (hm : X.mg "isinstance" = none) (hc : c.gl cn = true) (W : WordK X C cn b) :
    PE X (.Tuple [.Constant (.str w) j p1, .Call (.Name "isinstance" p2) [.Name x p3, .Name cn p4] [] p5] k p6) (fun σ H Q => ErSt X a dd va σ H ∧ ∀ q, H q = none → Q (.ref q) (upd H q (.tup [.str w, .bl b]))) := by
  obtain ⟨D, h1, h2⟩ := W
  refine (pe_tup (pa_cons pe_str (pa_cons (pe_callB (call_isJ E T) (N.gl hi).1 hm (by decide +kernel : bootBuiltins "isinstance" = some (.builtin "isinstance")) (pa_cons (N.vis hv) (pa_cons (pe_glob (v := .ref D) (N.gl hc).1 h1 rfl (N.gl hc).2) pa_nil)) ) pa_nil))).imp fun σ H Q q => ?_
  exact ⟨.ref a, q.1.var, .ref D, .ref D, b, _, rfl, fun u r => r, h2, q.1.at_, by rw [sizeLine_eq]; exact (by decide : 2 ≤ 16777216), fun p hp => q.2 p hp⟩
def wordB (c : SC) (en : Str) (p : Str × Str) : Expr → Bool
  | .Tuple [.Constant (.str w) _ _, .Call (.Name f _) [.Name x _, .Name cn _] [] _] _ _ => w == p.1 && cn == p.2 && f == "isinstance" && x == en && c.gl f && c.gl cn
  | _ => false
def wordsB (c : SC) (en : Str) : List (Str × Str) → List Expr → Bool
  | [], [] => true
  | p :: ps, e :: es => wordB c en p e && wordsB c en ps es
  | _, _ => false
theorem words_ok {cn en : Str} (N : CtxN X c) (T : ErAt X a C dd oe) (E : ExcC X.K C) (hv : c.vis 0 en = true) (hm : X.mg "isinstance" = none) : ∀ {ws : List (Str × Str)} {es : List Expr}, wordsB c en ws es = true → (∀ p ∈ ws, WordK X C p.2 (p.2 == cn)) →
    PA X es (fun σ H Q => ErSt X a dd va σ H ∧ ∀ H' vs, Same H H' → Its H' vs (wbs cn ws) → Q vs H')
  | [], [], _, _ => pa_nil.imp fun σ H Q q => q.2 H [] (Same.refl H) True.intro
  | p :: ps, e :: es, h, W => by
    obtain ⟨h1, h2⟩ := and_of (show (wordB c en p e && wordsB c en ps es) = true from h)
    have ih := words_ok N T E hv hm h2 fun q hq => W q (List.mem_cons_of_mem _ hq)
    have W1 := W p List.mem_cons_self
    unfold wordB at h1
    split at h1
    · simp only [Bool.and_eq_true, beq_iff_eq] at h1
      obtain ⟨⟨⟨⟨⟨e1, e2⟩, e3⟩, e4⟩, e5⟩, e6⟩ := h1
      subst e1 e2 e3 e4
      refine (pa_cons (pe_word N T E hv e5 hm e6 W1) ih).imp fun σ H Q q => ⟨q.1, fun p hp => ⟨q.1.same (same_upd hp), fun H' vs s t => q.2 H' _ ((same_upd hp).trans s) ⟨⟨p, rfl, s _ _ (upd_same ..)⟩, t⟩⟩⟩
    · cases h1
  | [], _ :: _, h, _ => by cases h
  | _ :: _, [], h, _ => by cases h
/-- the words so far in the second slot -/
structure NmSt (X : Cx) (a dd : Addr) (va : V) (ws : List (Str × Bool)) (σ : L2.St) (H : Hp) : Prop extends ErSt X a dd va σ H where
  so : ∃ p vs, σ[1]? = some (some (.ref p)) ∧ H p = some (.lst vs) ∧ Its H vs ws

/-- words = words + [(word, isinstance(e, C)), ..] -/
theorem st_more {cn en : Str} {y z : Str} {ws : List (Str × Str)} {es : List Expr} {wb : List (Str × Bool)} {py pz pl pb ps : Pos} (N : CtxN X c) (nd : c.N.Nodup) (T : ErAt X a C dd oe) (E : ExcC X.K C) (hv : c.vis 0 en = true) (hm : X.mg "isinstance" = none) (hy : c.loc 1 y = true) (hz : c.vis 1 z = true)
    (h : wordsB c en ws es = true) (W : ∀ p ∈ ws, WordK X C p.2 (p.2 == cn)) (hl : wb.length + ws.length ≤ 1000) :
    PS X (.Assign [.Name y py] (.BinOp (.Name z pz) .Add (.List es pl) pb) ps) (fun D σ H => NmSt X a dd va wb σ H ∧ ∀ σ' H', Same H H' → NmSt X a dd va (wb ++ wbs cn ws) σ' H' → D.nx σ' H') := by
  obtain ⟨l1, l2, l3⟩ := N.loc hy
  have nN : X.N.Nodup := by rw [N.hN]; exact nd
  refine (ps_set nN l1 l2 (pe_op op_cat2 (N.vis hz) (pe_lst (words_ok (va := va) (ws := ws) (cn := cn) N T E hv hm h W))) (by rfl) l3).imp fun D σ H q => ?_
  obtain ⟨⟨er, p, vs, hs, hp, it⟩, q⟩ := q
  refine ⟨.ref p, hs, er, fun H1 us s1 it1 => ?_⟩
  have n1 := it.length
  have n2 := it1.length
  have n3 : (wbs cn ws).length = ws.length := by unfold wbs; simp
  refine ⟨by rw [sizeLine_eq]; omega, fun b hb => ?_⟩
  have sb : Same H1 (upd H1 b (.lst us)) := same_upd hb
  refine ⟨p, b, vs, us, rfl, rfl, .inl (.inl (sb _ _ (s1 _ _ hp))), .inl (.inl (upd_same ..)), by rw [sizeLine_eq]; omega, fun g hg => ?_⟩
  have sg := same_upd (o := .lst (vs ++ us)) hg
  have s := (s1.trans sb).trans sg
  have lt : 1 < σ.length := (List.getElem?_eq_some_iff.mp hs).1
  refine q _ _ s ⟨⟨by rw [List.length_set]; exact er.len, by rw [List.getElem?_set_ne (by decide)]; exact er.var, s _ _ er.at_⟩, g, vs ++ us, by rw [List.getElem?_set_self lt], upd_same .., (it.same s).append (it1.same (sb.trans sg))⟩
/-- words = [(word, isinstance(e, C)), ..] -/
theorem st_first {cn en : Str} {y : Str} {ws : List (Str × Str)} {es : List Expr} {py pl ps : Pos} (N : CtxN X c) (nd : c.N.Nodup) (T : ErAt X a C dd oe) (E : ExcC X.K C) (hv : c.vis 0 en = true) (hm : X.mg "isinstance" = none) (hy : c.loc 1 y = true)
    (h : wordsB c en ws es = true) (W : ∀ p ∈ ws, WordK X C p.2 (p.2 == cn)) (hl : ws.length ≤ 1000) :
    PS X (.Assign [.Name y py] (.List es pl) ps) (fun D σ H => ErSt X a dd va σ H ∧ ∀ σ' H', Same H H' → NmSt X a dd va (wbs cn ws) σ' H' → D.nx σ' H') := by
  obtain ⟨l1, l2, l3⟩ := N.loc hy
  have nN : X.N.Nodup := by rw [N.hN]; exact nd
  refine (ps_set nN l1 l2 (pe_lst (words_ok (va := va) (ws := ws) (cn := cn) N T E hv hm h W)) (by rfl) l3).imp fun D σ H q => ?_
  obtain ⟨er, q⟩ := q
  have lt : 1 < σ.length := by rw [er.len]; decide
  refine ⟨er, fun H1 us s1 it1 => ?_⟩
  have n2 := it1.length
  have n3 : (wbs cn ws).length = ws.length := by unfold wbs; simp
  refine ⟨by rw [sizeLine_eq]; omega, fun b hb => ?_⟩
  have sb : Same H1 (upd H1 b (.lst us)) := same_upd hb
  have s := s1.trans sb
  exact q _ _ s ⟨⟨by rw [List.length_set]; exact er.len, by rw [List.getElem?_set_ne (by decide)]; exact er.var, s _ _ er.at_⟩, b, us, by rw [List.getElem?_set_self lt], upd_same .., it1.same sb⟩
/-- [word for word, is_it in words if is_it] -/
def pickB (c : SC) (z y1 y2 y3 y4 : Str) (scope : Scope) : Bool := c.vis 1 z && c.blkOk scope [2, 3] && (c.blk scope).loc 2 y1 && (c.blk scope).loc 3 y2 && (c.blk scope).vis 3 y3 && (c.blk scope).vis 2 y4
theorem lpick {wb : List (Str × Bool)} {σ : L2.St} {H1 : Hp} {p D : Addr} {vs : List V} {Qd : Hp → Prop} {K : PySem.W.Frag} (h2 : 3 < σ.length) (hp : H1 p = some (.lst vs)) (it : Its H1 vs wb) (hD : H1 D = none) (hn : wb.length ≤ 1000)
    (hd : ∀ H, Same H1 H → H D = some (.lst ((picked wb).map V.str)) → Qd H) :
    ∃ Wt : Nat → Nat → Hp → Prop, (∃ m, Wt 0 m (upd H1 D (.lst []))) ∧ ∀ i m H, Wt i m H →
      ((Itl K p).stop i H ∧ Qd H) ∨ ((Itl K p).go i H ∧ ∃ Nx : Hp → Prop, (∀ H', Nx H' → ∃ m', m' < m ∧ Wt (i + 1) m' H') ∧ ∀ x H', (Itl K p).yld i H x H' → gTup K 2 (gCons (gName 2) (gCons (gName 3) gNil)) x (wipe σ [2, 3]) H' fun σ2 H2 => wipe σ2 [2, 3] = wipe σ [2, 3] ∧ tB (tVar 3) σ2 H2 fun b H3 =>
        if b = true then tVar 2 σ2 H3 fun y H4 => ∃ acc, H4 D = some (.lst acc) ∧ acc.length < sizeLine ∧ Nx (upd H4 D (.lst (acc ++ [y]))) else Nx H3) := by
  have nl := it.length
  refine lc_list (xs := vs) (fun i H => (∀ b o, b ≠ D → H1 b = some o → H b = some o) ∧ H D = some (.lst ((picked (wb.take i)).map V.str))) ⟨fun b o nb e => by rw [upd_ne nb]; exact e, by rw [upd_same]; rfl⟩ (fun i H hi h => .inl (.inl (h.1 _ _ (fun z => by rw [z, hD] at hp; cases hp) hp))) (fun i x H hx h => ?_) (fun H h => hd H (fun b o e => h.1 b o (fun z => by rw [z, hD] at e; cases e) e) (by
    have := h.2
    rw [nl, List.take_length] at this
    exact this))
  obtain ⟨w, q, hw, rfl, hq⟩ := it.get hx
  refine ⟨q, _, rfl, .inl (.inl (h.1 _ _ (fun z => by rw [z, hD] at hq; cases hq) hq)), rfl, .str w.1, [.bl w.2], rfl, .bl w.2, [], rfl, rfl, ?_, .bl w.2, ?_, w.2, rfl, ?_⟩
  · show (((wipe σ [2, 3]).set 2 _).set 3 _ |>.set 3 none).set 2 none = ((σ.set 3 none).set 2 none)
    apply List.ext_getElem?
    intro i
    simp only [wipe]
    by_cases e2 : i = 2
    · subst e2
      simp [List.getElem?_set]
    · by_cases e3 : i = 3
      · subst e3
        simp [List.getElem?_set]
      · simp [List.getElem?_set, Ne.symm e2, Ne.symm e3]
  · rw [List.getElem?_set_self]
    simp [wipe, h2]
  · have hs := picked_snoc hw
    cases hb : w.2 with
    | true =>
      rw [hb] at hs
      rw [if_pos rfl] at hs
      show (if true = true then _ else _)
      rw [if_pos rfl]
      refine ⟨.str w.1, ?_, _, h.2, ?_, fun b o nb e => ?_, ?_⟩
      · rw [List.getElem?_set_ne (by decide), List.getElem?_set_self]
        simp [wipe]
        omega
      · have := picked_len (wb.take i)
        have : (wb.take i).length ≤ wb.length := by rw [List.length_take]; omega
        rw [List.length_map, sizeLine_eq]
        omega
      · rw [upd_ne nb]
        exact h.1 b o nb e
      · rw [upd_same, hs]
        simp
    | false =>
      rw [hb] at hs
      rw [if_neg Bool.false_ne_true] at hs
      show (if false = true then _ else _)
      rw [if_neg Bool.false_ne_true]
      exact ⟨h.1, by rw [hs]; exact h.2⟩
theorem pe_pick {z y1 y2 y3 y4 : Str} {scope : Scope} {k : Nat} {p1 p2 p3 p4 p5 p6 pos : Pos} {wb : List (Str × Bool)} (hot : HotC X) (N : CtxN X c) (nd : c.N.Nodup) (hN : c.N.length = 4) (h : pickB c z y1 y2 y3 y4 scope = true) (hl : wb.length ≤ 1000) :
    PE X (.ListComp (.Name y4 p1) [⟨.Tuple [.Name y1 p2, .Name y2 p3] k p4, .Name z p5, [.Name y3 p6], 0⟩] scope pos)
      (fun σ H Q => NmSt X a dd va wb σ H ∧ ∀ D H', Same H H' → H' D = some (.lst ((picked wb).map V.str)) → Q (.ref D) H') := by
  unfold pickB at h
  obtain ⟨h, h6⟩ := and_of h
  obtain ⟨h, h5⟩ := and_of h
  obtain ⟨h, h4⟩ := and_of h
  obtain ⟨h, h3⟩ := and_of h
  obtain ⟨h1, h2⟩ := and_of h
  have nN : X.N.Nodup := by rw [N.hN]; exact nd
  have bo := blkOk_okG N.hN N.sc h2
  refine (pe_lcH (g := gTup X.K 2 (gCons (gName 2) (gCons (gName 3) gNil))) (tt := tB (tVar 3)) (te := tVar 2) hot nN (N.vis h1) bo (fun s H C cl fp hi => ?_) (fun s H C cl fp => ?_) (fun s H C cl fp => ?_) (fun _ => rfl)).imp fun σ H Q q => ?_
  · have B := N.blk s H scope cl C fp
    obtain ⟨a1, a2, a3⟩ := B.loc h3
    obtain ⟨b1, b2, b3⟩ := B.loc h4
    have nB : (X.blk s H scope (compEnvC scope cl C X.env) fp).N.Nodup := nN
    exact pg_tupH hi (pgs_cons (pg_name nB a1 a2 a3) (pgs_cons (pg_name nB b1 b2 b3) pgs_nil)) rfl rfl
  · exact pts_one (pt_val ((N.blk s H scope cl C fp).vis h5))
  · exact (N.blk s H scope cl C fp).vis h6
  · obtain ⟨⟨er, p, vs, hs, hp, it⟩, q⟩ := q
    have len := er.len
    rw [ownN_map]
    exact ⟨.ref p, hs, p, rfl, ⟨vs, .inl (.inl hp)⟩, fun D hD => lpick (by omega) hp it hD hl fun H' s e => q D H' s e⟩

/-- (' '.join([..]), e.at) -/
theorem pe_told {en z y1 y2 y3 y4 : Str} {scope : Scope} {k k2 j : Nat} {p1 p2 p3 p4 p5 p6 p7 p8 p9 p10 p11 p12 pos : Pos} {wb : List (Str × Bool)} (hot : HotC X) (N : CtxN X c) (nd : c.N.Nodup) (hN : c.N.length = 4) (T : ErAt X a C dd oe) (E : XfC X.K C) (hno : PySem.W.findIn X.K (.ref C) "at" = some none)
    (hv : c.vis 0 en = true) (h : pickB c z y1 y2 y3 y4 scope = true) (hl : wb.length ≤ 1000) (hz : (wb.map fun w => w.1.length + 1).sum ≤ 16777216) (hline : (p8.endLine == p9.line) = true) :
    PE X (.Tuple [.Call (.Attribute (.Constant (.str " ") j p7) "join" p8) [.ListComp (.Name y4 p1) [⟨.Tuple [.Name y1 p2, .Name y2 p3] k p4, .Name z p5, [.Name y3 p6], 0⟩] scope pos] [] p9, .Attribute (.Name en p10) "at" p11] k2 p12)
      (fun σ H Q => NmSt X a dd va wb σ H ∧ ∀ q H', Same H H' → H q = none → H' q = some (.tup [.str (Txt.join " " (picked wb)), va]) → Q (.ref q) H') := by
  refine (pe_tup (pa_cons (pe_m1 PySem.F.slot_str_join PySem.F.type_str_join mt_join pe_str (pe_pick (a := a) (dd := dd) (va := va) hot N nd hN h hl) rfl rfl hline) (pa_cons (pe_atJ T E hno (N.vis hv) rfl) pa_nil))).imp fun σ H Q q => ?_
  obtain ⟨st, q⟩ := q
  refine ⟨⟨_, rfl⟩, st, fun D H1 s1 hD => ⟨" ", D, picked wb, rfl, rfl, .inl (.inl (.inl hD)), ?_, .ref a, st.var, rfl, _, va, s1 _ _ st.at_, rfl, by rw [sizeLine_eq]; exact (by decide : 2 ≤ 16777216), fun p hp => q p _ (s1.trans (same_upd hp)) (s1.free hp) (upd_same ..)⟩⟩
  have := picked_le wb
  have e1 : ((" " : Str)).length = 1 := by decide +kernel
  rw [e1]
  omega
end

/-! ### the def's tree -/
def restB (c : SC) (en wn : Str) : List Stmt → List (Str × Str) → Bool
  | [.Return (some (.Tuple [.Call (.Attribute (.Constant (.str sp) _ _) m ap) [.ListComp (.Name y4 _) [⟨.Tuple [.Name y1 _, .Name y2 _] _ _, .Name z _, [.Name y3 _], 0⟩] scope _] [] cp, .Attribute (.Name x _) at_ _] _ _)) _], ws =>
      ws.isEmpty && sp == " " && m == "join" && ap.endLine == cp.line && at_ == "at" && x == en && pickB c z y1 y2 y3 y4 scope
  | .Assign [.Name y _] (.BinOp (.Name z _) .Add (.List es _) _) _ :: rest, ws => c.loc 1 y && c.vis 1 z && wordsB c en (ws.take es.length) es && restB c en wn rest (ws.drop es.length)
  | _, _ => false
def nmB (c : SC) (ws : List (Str × Str)) (body : List Stmt) : Bool := match body, c.N with
  | .Assign [.Name y _] (.List es _) _ :: rest, [en, wn, _, _] => nodupB c.N && c.vis 0 en && c.loc 1 y && c.gl "isinstance" && wordsB c en (ws.take es.length) es && restB c en wn rest (ws.drop es.length) && decide (ws.length ≤ 1000) && decide ((ws.map fun w => w.1.length + 1).sum ≤ 16777216)
  | _, _ => false
section
variable {X : Cx} {c : SC} {a C dd : Addr} {oe : Obj} {va : V}
theorem wbs_append (cn : Str) (xs ys : List (Str × Str)) : wbs cn (xs ++ ys) = wbs cn xs ++ wbs cn ys := by unfold wbs; rw [List.map_append]
theorem wordsB_len {en : Str} : ∀ {ws : List (Str × Str)} {es : List Expr}, wordsB c en ws es = true → ws.length = es.length
  | [], [], _ => rfl
  | _ :: _, _ :: _, h => congrArg Nat.succ (wordsB_len (and_of (show (_ && wordsB c en _ _) = true from h)).2)
  | [], _ :: _, h => by cases h
  | _ :: _, [], h => by cases h
theorem rest_ok {cn en wn : Str} (hot : HotC X) (N : CtxN X c) (nd : c.N.Nodup) (hN : c.N.length = 4) (T : ErAt X a C dd oe) (E : ExcC X.K C) (F : XfC X.K C) (hno : PySem.W.findIn X.K (.ref C) "at" = some none) (hv : c.vis 0 en = true) (hm : X.mg "isinstance" = none) :
    ∀ {body : List Stmt} {ws done : List (Str × Str)}, restB c en wn body ws = true → (∀ p ∈ ws, WordK X C p.2 (p.2 == cn)) → (done ++ ws).length ≤ 1000 → ((done ++ ws).map fun w => w.1.length + 1).sum ≤ 16777216 →
    PSs X body (fun D σ H => NmSt X a dd va (wbs cn done) σ H ∧ ∀ q H', Same H H' → H q = none → H' q = some (.tup [.str (Txt.join " " (picked (wbs cn (done ++ ws)))), va]) → D.rt (.ref q) H')
  | body, ws, done, h, W, hl, hz => by
    have len : ∀ l : List (Str × Str), (wbs cn l).length = l.length := fun l => by unfold wbs; simp
    have sum : ∀ l : List (Str × Str), ((wbs cn l).map fun w => w.1.length + 1).sum = (l.map fun w => w.1.length + 1).sum := fun l => by
      unfold wbs
      rw [List.map_map]
      rfl
    unfold restB at h
    split at h
    · simp only [Bool.and_eq_true, beq_iff_eq, List.isEmpty_iff] at h
      obtain ⟨⟨⟨⟨⟨⟨e1, e2⟩, e3⟩, e4⟩, e5⟩, e6⟩, e7⟩ := h
      subst e1 e2 e3 e5 e6
      rw [List.append_nil] at hl hz
      refine (pss_cons (ps_ret (pe_told (dd := dd) (va := va) (wb := wbs cn done) hot N nd hN T F hno hv e7 (by rw [len]; exact hl) (by rw [sum]; exact hz) (by rw [e4]; exact beq_self_eq_true _))) pss_nil).imp fun D σ H q => ?_
      rw [List.append_nil] at q
      exact q
    · rename_i y _ z _ es _ _ _ rest
      obtain ⟨h, h4⟩ := and_of h
      obtain ⟨h, h3⟩ := and_of h
      obtain ⟨h1, h2⟩ := and_of h
      have ih := rest_ok (done := done ++ ws.take es.length) hot N nd hN T E F hno hv hm h4 (fun p hp => W p (List.mem_of_mem_drop hp)) (by rw [List.append_assoc, List.take_append_drop]; exact hl) (by rw [List.append_assoc, List.take_append_drop]; exact hz)
      rw [List.append_assoc, List.take_append_drop] at ih
      have hle : (wbs cn done).length + (ws.take es.length).length ≤ 1000 := by
        rw [len]
        rw [List.length_append] at hl
        have : (ws.take es.length).length ≤ ws.length := by rw [List.length_take]; omega
        omega
      refine (pss_cons (st_more (va := va) (dd := dd) (wb := wbs cn done) (ws := ws.take es.length) (cn := cn) N nd T E hv hm h1 h2 h3 (fun p hp => W p (List.mem_of_mem_take hp)) hle) ih).imp fun D σ H q => ?_
      obtain ⟨st, q⟩ := q
      refine ⟨st, fun σ' H' s st' => ⟨?_, fun q' H2 s2 n e => q q' H2 (s.trans s2) (s.free n) e⟩⟩
      rw [wbs_append]
      exact st'
    · cases h

theorem nm_ok {cn en wn x2 x3 : Str} {y : Str} {es : List Expr} {rest : List Stmt} {py pl ps : Pos} {ws : List (Str × Str)} (hcN : c.N = [en, wn, x2, x3]) (hot : HotC X) (N : CtxN X c) (T : ErAt X a C dd oe) (E : ExcC X.K C) (F : XfC X.K C) (hno : PySem.W.findIn X.K (.ref C) "at" = some none) (hm : X.mg "isinstance" = none)
    (h : nmB c ws (.Assign [.Name y py] (.List es pl) ps :: rest) = true) (W : ∀ p ∈ ws, WordK X C p.2 (p.2 == cn)) :
    PSs X (.Assign [.Name y py] (.List es pl) ps :: rest) (fun D σ H => ErSt X a dd va σ H ∧ ∀ q H', Same H H' → H q = none → H' q = some (.tup [.str (Txt.join " " (picked (wbs cn ws))), va]) → D.rt (.ref q) H') := by
  unfold nmB at h
  rw [hcN] at h
  dsimp only at h
  rw [← hcN] at h
  obtain ⟨h, h8⟩ := and_of h
  obtain ⟨h, h7⟩ := and_of h
  obtain ⟨h, h6⟩ := and_of h
  obtain ⟨h, h5⟩ := and_of h
  obtain ⟨h, h4⟩ := and_of h
  obtain ⟨h, h3⟩ := and_of h
  obtain ⟨h1, h2⟩ := and_of h
  have nd := nodupB_ok h1
  have hl := of_decide_eq_true h7
  have hz := of_decide_eq_true h8
  have ih := rest_ok (a := a) (dd := dd) (va := va) (cn := cn) (done := ws.take es.length) hot N nd (by rw [hcN]; rfl) T E F hno h2 hm h6 (fun p hp => W p (List.mem_of_mem_drop hp)) (by rw [List.take_append_drop]; exact hl) (by rw [List.take_append_drop]; exact hz)
  rw [List.take_append_drop] at ih
  refine (pss_cons (st_first (va := va) (dd := dd) (ws := ws.take es.length) (cn := cn) N nd T E h2 hm h3 h5 (fun p hp => W p (List.mem_of_mem_take hp)) (by
    have : (ws.take es.length).length ≤ ws.length := by rw [List.length_take]; omega
    omega)) ih).imp fun D σ H q => ?_
  obtain ⟨st, q⟩ := q
  exact ⟨st, fun σ' H' s st' => ⟨st', fun q' H2 s2 n e => q q' H2 (s.trans s2) (s.free n) e⟩⟩
end
/-! ### the classes, the def -/
/-- what the written part says of a class named cn below the base named bn; ws: the classes that the def asks for -/
structure ClsOk (K : PySem.W.Frag) (mg : Str → Option Value) (CE fI : Addr) (ws : List (Str × Str)) (cn : Str) (C : Addr) : Prop where
  nm : mg cn = some (.ref C)
  ex : ExT K CE C fI
  ec : ExcC K C
  xf : XfC K C
  exm : PySem.W.exmOne K (.ref C) (.ref CE) = some true
  ws : ∀ p ∈ ws, ∃ D, mg p.2 = some (.ref D) ∧ PySem.W.kitOne K (.ref C) (.ref D) = some (p.2 == cn)
def spJ (K : PySem.W.Frag) (mg : Str → Option Value) (CE fI : Addr) (ws : List (Str × Str)) (p : Addr × Obj) : Sp := fun vs H Q E => ∃ (cn : Str) (C dd : Addr) (va : V), vs = [.ref p.1] ∧ ClsOk K mg CE fI ws cn C ∧ p.2.cls = .ref C ∧ p.2.dict = some dd ∧ (∃ fs, p.2.data = .fields fs) ∧ H dd = some (.xd [(Str.ofString "at", va)]) ∧
  ∀ q H', Same H H' → H q = none → H' q = some (.tup [.str (Txt.join " " (picked (wbs cn ws))), va]) → Q (.ref q) H'
/-- the def that names: its slots, its words, its tree -/
def scN (nsl : List Str) (scope : Scope) : SC := ⟨nsl, scope, fun _ => true, [], [], false, {}⟩
def nmChk (nsl : List Str) (ws : List (Str × Str)) (d : He.DefD) : Bool :=
  nodupB nsl && decide (d.scope.kind = .function) && !d.scope.isCoroutine && !d.scope.isGenerator && nsl.length == 4 &&
    (nsl.take 1).all (fun x => d.scope.names.lookup x == some .local || d.scope.names.lookup x == some .cell) && d.scope.names.all (fun y => !(y.2 == .free)) && nmB (scN nsl d.scope) ws d.body
theorem nm_fn {P : Program} {w : World} {K : PySem.W.Frag} {mg : Str → Option Value} {base : Heap} {CE fI : Addr} {nsl : List Str} {ws : List (Str × Str)} {d : He.DefD} {fa : Addr} {fd : FuncData} {k : Nat} (hc : nmChk nsl ws d = true) (hm : mg "isinstance" = none)
    (F : FunD K d.name d.qual d.params d.body d.scope [] [] fa fd) : FnJ P w K mg base (L2N.CX P w) (k + 1) fa fd (nsl.take 1) (spJ K mg CE fI ws) := by
  unfold nmChk at hc
  obtain ⟨hc, h8⟩ := and_of hc
  obtain ⟨hc, h7⟩ := and_of hc
  obtain ⟨hc, h6⟩ := and_of hc
  obtain ⟨hc, h5⟩ := and_of hc
  obtain ⟨hc, h4⟩ := and_of hc
  obtain ⟨hc, h3⟩ := and_of hc
  obtain ⟨h1, h2⟩ := and_of hc
  have nd := nodupB_ok h1
  have n4 : nsl.length = 4 := eq_of_beq h5
  have hpl : (nsl.take 1).length = 1 := by rw [List.length_take, n4]; rfl
  have S : FnScope nsl (nsl.take 1) d.scope := ⟨of_decide_eq_true h2, not_of' h3, not_of' h4, nd, by rw [hpl], fun x hx => by
    have := List.all_eq_true.mp h6 x hx
    simpa using this, fun y hy => by
    have := List.all_eq_true.mp h7 y hy
    simpa using this⟩
  refine fnJ_of F S (fun p vs H Q E hs => ?_) fun cdv A outer s H vs Q E p hr hot hs => ?_
  · obtain ⟨cn, C, dd, va, e, _⟩ := hs
    rw [e, hpl]
    rfl
  · obtain ⟨cn, C, dd, va, rfl, T, k1, k2, k3, hd, q⟩ := hs
    have N : CtxN (cxH (L2N.CX P w) P w K mg base nsl d.qual d.scope fa cdv A outer s H E p) (scN nsl d.scope) := ⟨rfl, rfl, rfl⟩
    obtain ⟨a, oe⟩ := p
    have er : ErAt (cxH (L2N.CX P w) P w K mg base nsl d.qual d.scope fa cdv A outer s H E (a, oe)) a C dd oe := ⟨List.mem_singleton.mpr rfl, k1, k2, k3⟩
    match nsl, n4, h8 with
    | [en, wn, x2, x3], _, h8 =>
      match hb : d.body, h8 with
      | .Assign [.Name y py] (.List es pl) ps :: rest, h8 =>
        refine ⟨_, nm_ok (a := a) (dd := dd) (va := va) (cn := cn) rfl ⟨(a, oe), ⟨hot.1, hot.2⟩, List.mem_singleton.mpr rfl⟩ N er T.ec T.xf T.ex.att hm h8 T.ws, ⟨rfl, rfl, hd⟩, fun q' H' s' n e => q q' H' s' n e⟩
end Mt
/-! Part X: raise C(e), and a try whose errors are named by the def. -/
namespace Mt
open PySem PySem.Spec PySem.Calls PyProof.Rows L2 L2H HotX

/-- the text's errors, where defs run: the base and its __init__, the classes, the def that names -/
structure XOk (P : Program) (w : World) (K : PySem.W.Frag) (mg : Str → Option Value) (base : Heap) (cl : Cls) (t : XT) : Prop where
  ex : ∃ (CE fI : Addr) (fd : FuncData), mg t.base = some (.ref CE) ∧ FnOk P w K mg base (L2N.CX P w) 1 fI fd ["self", "at"] (spI K CE fI) ∧ PySem.W.typeIn K (.ref fI) = some (.type "function") ∧ Binds K fd ["self", "at"] [] ∧
    (∀ cn ∈ t.cls, ∃ C, ClsOk K mg CE fI t.ws cn C ∧ cl cn = .ref C) ∧
    ∃ (fa : Addr) (fn : FuncData), mg t.nm = some (.ref fa) ∧ PySem.W.keepIn K (.ref fa) = true ∧ Binds K fn (t.nsl.take 1) [] ∧ FnJ P w K mg base (L2N.CX P w) 1 fa fn (t.nsl.take 1) (spJ K mg CE fI t.ws)

section
variable {X : Cx} {cl : Cls} {W : WX} {own : Bool} {fl fl1 fl2 : List Bool}
/-- C(e) in a context where nothing is handled: the new error's context is None -/
theorem mk_new {fI C : Addr} {fd : FuncData} {ps : List Str} {sp : Sp} {x : Str} {e : Expr} {es : List Expr} {tt : TA} {p0 pos : Pos} {k : Nat} {CT : CXT} (O : OexC X.K C) (fi : PySem.W.findIn X.K (.ref C) "__init__" = some (some (.ref fI))) (ty : PySem.W.typeIn X.K (.ref fI) = some (.type "function"))
    (F : FnOk X.prog X.w X.K X.mg X.base CT k fI fd ps sp) (room : Room (k + 1) X.A) (bi : Binds X.K fd ps []) (no : Passes CT X (fun _ _ _ => False)) (gl : Gl X x) (nm : X.mg x = some (.ref C)) (ha : PA X (e :: es) tt) (nd : (x == ("__debug__" : Str)) = false)
    (st : starEach (e :: es) X.env = (false, eval e X.env) :: starEach es X.env) (pl : (backTo pos (starEach es X.env)).any (·.1) = false) : L2N.PMk X (.Call (.Name x p0) (e :: es) [] pos) (tMkO C sp [] tt) := by
  intro pins s σ H Q I h
  obtain ⟨n1, n2, n3, n4, bm, n6, n7, n8, n9, n10, n11, n12, n13, n14, n15, lk, refs⟩ := O.cls
  apply wpAny_Call_Name_kw
  apply ld_glob I gl nm _ nd
  refine PySem.W.callWith_K (h₀ := X.base) I.ok.mod.kin O.kC (thn (ha.run pos pins s σ H _ I h) fun us s1 ⟨vs, H1, J, rel, short, q⟩ => ⟨J.kIn, ?_⟩) st pl
  obtain ⟨hp, gs, dr, tk, os⟩ := s1
  -- the tuple of the arguments, the error ahead of its __init__
  generalize ha1 : hp.objs.size + 1 = a
  have above : hp.objs.size ≤ a := by omega
  have free : H1 a = none := J.hok.fresh above
  have qa := q a free
  rw [List.append_nil] at qa
  generalize hh2 : (hp.push (PySem.W.kdv_tup us)).push (PySem.HandSPX.excO C hp.objs.size) = hp2
  have up : ∀ b o, hp.get? b = some o → hp2.get? b = some o := fun b o z => by
    rw [← hh2]
    exact Heap.get?_push_of_some _ (Heap.get?_push_of_some _ z)
  have here : hp2.get? a = some (PySem.HandSPX.excO C hp.objs.size) := by
    rw [← hh2, ← ha1]
    heap_get
  have J2 : Inv X pins σ (upd H1 a (exo a C none)) ⟨hp2, gs, dr, tk, os⟩ := J.laid (t' := tk) (o := exo a C none) up above (exo_ok here)
  have rel2 : Vals (V.ref a :: vs) (Value.ref a :: us) := .cons rfl rel
  have len : (Value.ref a :: us).length = ps.length := by
    rw [← rel2.length]
    exact F.len _ _ _ _ qa
  have fits : us.length ≤ sizeLine := by
    rw [← rel.length, sizeLine_eq]
    omega
  have bt := bi ⟨hp2, gs, dr, tk, os⟩ (Value.ref a :: us) J2.kIn (by rw [List.append_nil]; exact len)
  rw [List.append_nil] at bt
  have run := F.run _ X.stack _ _ ⟨Value.ref a :: us, []⟩ (Value.ref a :: us) _ _ (fun _ _ _ => False) (room.make C us []) (J2.env0.make C us []) bt rel2 qa
  have goal : codeAny (model X.prog X.w) X.A (.call (.ref C) ⟨us, []⟩) (fun r s' => match r with
      | .error er => X.xe er s'
      | .ok (.ret u) => L2N.MkP X pins σ Q u s'
      | .ok _ => False) ⟨hp, gs, dr, tk, os⟩ := by
    subst ha1
    subst hh2
    refine PySem.HandSPX.call_own PySem.F.excBase_ValueError (fun Y => PySem.HandSPX.refsVE_contains Y bm refs) (J.kIn _ _ lk) (PySem.W.looks_findIn J.kIn fi) (fun self => PySem.W.bind_fn J.kIn self ty) fits (codeAny_mono run fun r s' got => ?_)
    match r, got with
    | .error er, got => exact no pins σ _ _ er s' J2 got
    | .ok .next, got => exact got.elim
    | .ok .brk, got => exact got.elim
    | .ok .cont, got => exact got.elim
    | .ok (.ret u), ⟨v, H2, os2, bare, un, hok, rv, ev, d, fs, ea, ed, hd1, q2⟩ =>
      subst ev
      obtain ⟨h2, g2, d2, t2, os'⟩ := s'
      obtain ⟨t0, G, J3, kG, nG, at_, na⟩ := mk_end0 (d2 := d2) (t2 := t2) J above up un hok os2 bare ea ed hd1
      refine ⟨rv, hp.objs.size + 1, _, _, ⟨G, g2, d2, t2, os'⟩, _, .ref C, some d, rfl, J3, kG, nG, at_, ⟨rfl, rfl, fun ws hv => ?_⟩, rfl, rfl, na, rfl, bare, raises_own O.exC O.tyC, q2⟩
      cases hv
      rfl
  refine wpAny_call (codeAny_mono goal fun r s' got => ?_)
  match r, got with
  | .error er, got => exact got
  | .ok (.ret u), got => exact got

theorem passNo : Passes (L2N.CX X.prog X.w) X (fun _ _ _ => False) := fun _ _ _ _ _ _ _ ⟨_, _, _, _, _, _, _, _, _, _, _, _, z⟩ => z.elim
/-- raise C(e) -/
theorem st_raise {t : XT} {cn : Str} {fe : Sg → R D} {oe : Bool} {a : Expr} {p0 p1 p2 : Pos} (hx : XOk X.prog X.w X.K X.mg X.base cl t) (hc : t.cls.contains cn = true) (calm : X.calm = true) (tk : L2N.Takes X W) (room : Room 2 X.A) (gl : Gl X cn) (nd : (cn == ("__debug__" : Str)) = false)
    (he : PE X a (tE X.K cl W fl fl1 oe false fe)) (st : starEach [a] X.env = (false, eval a X.env) :: starEach [] X.env) :
    PS X (.Raise (some (.Call (.Name cn p0) [a] [] p1)) none p2) (tS X.K cl W own fl fl2 fun e => (fe e).go e fun d => .ex cn d e) := by
  obtain ⟨CE, fI, fd, h1, F, ty, bi, cls, _⟩ := hx.ex
  obtain ⟨C, T, hcl⟩ := cls cn (List.contains_iff_mem.mp hc)
  refine (L2N.ps_raise calm tk (mk_new (pos := p1) (p0 := p0) T.ex.ox T.ex.ini ty F room bi passNo gl T.nm (pa_cons he pa_nil st) nd st rfl)).imp fun D σ H q => ?_
  obtain ⟨G0, B, G, e, sr, p⟩ := q
  refine ⟨G0, B, G, e, sr, p.of_go.imp fun d p1 G1 H1 x g1 s1 sr1 ax rx => ?_⟩
  obtain ⟨G2, g2, sr2, r2⟩ := (rx rfl).frz sr1
  obtain ⟨G3, g3, sr3⟩ := sr2.allFro
  refine ⟨by show 1 ≤ 1000; decide, fun b hb => ⟨b, C, x, rfl, T.ex, upd_same .., fun dd hd ne => ⟨rfl, dd, [("at", x)], upd_same .., ?_, ?_, ?_⟩⟩⟩
  · rw [upd_ne ne, upd_same]
  · rw [upd_ne ne] at hd
    exact hd
  · rw [upd_ne ne] at hd
    have eq : upd (del (upd (upd (upd H1 b (exo b C none)) dd (exd dd [("at", x)])) b (exo b C (some dd))) b) dd (.xd [("at", x)]) = upd H1 dd (.xd [("at", x)]) := by
      funext z
      by_cases z1 : z = dd
      · subst z1
        rw [upd_same, upd_same]
      · rw [upd_ne z1, upd_ne z1]
        by_cases z2 : z = b
        · subst z2
          rw [del_same, hb]
        · rw [del_ne z2, upd_ne z2, upd_ne z1, upd_ne z2]
    have := p1 G3 σ (upd H1 dd (.xd [(Str.ofString "at", x)])) dd x ((g1.trans g2).trans g3) (sr3.grow (same_upd hd)) (upd_same ..) (r2.mono g3)
    rw [hcl] at this
    show W (.ref C) (some dd) σ _
    rw [eq]
    exact this

/-! ### try: body / except base as n: return name(n) -/
/-- the suite's reading: the error by its class, its dict -/
def tNm (K : PySem.W.Frag) (mg : Str → Option Value) (CE fI : Addr) (ws : List (Str × Str)) (i : Nat) (a : Addr) (cls : Value) (d : Option Addr) : TS := fun D σ H => (i < σ.length → σ[i]? = some (some (.ref a))) ∧ ∃ (cn : Str) (C dd : Addr) (va : V), cls = .ref C ∧ d = some dd ∧ ClsOk K mg CE fI ws cn C ∧
  H dd = some (.xd [(Str.ofString "at", va)]) ∧ ∀ q H', Same H H' → H q = none → H' q = some (.tup [.str (Txt.join " " (picked (wbs cn ws))), va]) → D.rt (.ref q) H'
theorem pss_len {sts : List Stmt} {t : TS} (h : PSs X sts t) : PSs X sts (fun D σ H => σ.length = X.N.length → t D σ H) := ⟨fun pins s σ H D I q => h.run pins s σ H D I (q I.len)⟩
theorem su_nm {c : SC} {CE fI fa : Addr} {fn : FuncData} {ps : List Str} {ws : List (Str × Str)} {i : Nat} {nm y : Str} {p1 p2 p3 p4 : Pos} {k : Nat} (N : CtxN X c) (F : FnJ X.prog X.w X.K X.mg X.base (L2N.CX X.prog X.w) k fa fn ps (spJ X.K X.mg CE fI ws)) (m : X.mg nm = some (.ref fa)) (kp : PySem.W.keepIn X.K (.ref fa) = true) (bi : Binds X.K fn ps [])
    (room : Room k X.A) (g : c.gl nm = true) (v : c.vis i y = true) (a : Addr) (oe : Obj) (cls : Value) (d : Option Addr) (pn : List (Addr × Obj)) (hz : L2N.Zn cls d oe) (hf : ∃ vs, oe.data = .fields vs) :
    PSs (X.suite a ((a, oe) :: pn)) [.Return (some (.Call (.Name nm p1) [.Name y p2] [] p3)) p4] (tNm X.K X.mg CE fI ws i a cls d) := by
  have NS : CtxN (X.suite a ((a, oe) :: pn)) c := ⟨N.hN, N.sc, N.fn⟩
  obtain ⟨vs, hv⟩ := hf
  have hot : Hot1 (X.suite a ((a, oe) :: pn)).A (a, oe) := ⟨rfl, vs, hv, hz.2.2 vs hv⟩
  have out : ∀ σ, PassesAt (L2N.CX (X.suite a ((a, oe) :: pn)).prog (X.suite a ((a, oe) :: pn)).w) (X.suite a ((a, oe) :: pn)) σ (fun _ _ _ => False) := fun σ _ _ _ _ _ _ ⟨_, _, _, _, _, _, _, _, _, _, _, _, z⟩ => z.elim
  refine (pss_len (pss_cons (ps_ret (pe_callJ (X := X.suite a ((a, oe) :: pn)) (E := fun _ _ _ _ => False) (p := (a, oe)) (pos := p3) (q := p1) (a := .Name y p2) (es := []) F (roomH_mark room (some (.ref a))) hot (List.mem_cons_self ..) (NS.gl g).1 m kp bi out (pa_cons (NS.vis v) pa_nil) (NS.gl g).2 rfl rfl)) pss_nil)).imp fun D σ H q len => ?_
  obtain ⟨hs, cn, C, dd, va, e1, e2, T, hd, q⟩ := q
  subst e1 e2
  have lt : i < σ.length := by
    rw [len]
    show i < X.N.length
    rw [N.hN]
    unfold SC.vis at v
    obtain ⟨v, _⟩ := and_of v
    obtain ⟨v, _⟩ := and_of v
    exact (List.getElem?_eq_some_iff.mp (eq_of_beq v)).1
  exact ⟨.ref a, hs lt, cn, C, dd, va, rfl, T, hz.1, hz.2.1, ⟨vs, hv⟩, hd, q⟩
theorem st_try {c : SC} {t : XT} {i : Nat} {n y : Str} {f : Sg → O} {body : List Stmt} {np q1 q2 q3 q4 q5 pos : Pos} (hx : XOk X.prog X.w X.K X.mg X.base cl t) (N : CtxN X c) (nd : c.N.Nodup) (tk : L2N.Takes X W) (room : Room 2 X.A) (hs : X.stack = X.env :: X.outer) (hf : X.env.frame = some X.env.locals)
    (hi : c.N[i]? = some n) (hl : c.sc.names.lookup n = some .local) (gb : c.gl t.base = true) (gn : c.gl t.nm = true) (v : c.vis i y = true)
    (hb : ∀ (W' : WX) (pn : List (Addr × Obj)) (xe : Value → Shared → Prop), L2N.Takes (X.tr pn xe) W' → PassesOwn (model X.prog X.w) X.A X.env xe → PSs (X.tr pn xe) body (tS X.K cl W' own fl fl1 f)) :
    PS X (.Try body [.ExceptHandler (some (.Name t.base np)) (some n) [.Return (some (.Call (.Name t.nm q1) [.Name y q2] [] q3)) q4] q5] [] [] pos) (tS X.K cl W own fl fl1 fun e => named t.cls t.ws (f e)) := by
  obtain ⟨CE, fI, fd, h1, F, ty, bi, cls, fa, fn, h2, h3, h4, h5⟩ := hx.ex
  have nN : X.N.Nodup := by rw [N.hN]; exact nd
  refine (L2N.ps_try_as (c := .ref CE) (ts := tNm X.K X.mg CE fI t.ws i) (tb := fun W' => tS X.K cl W' own fl fl1 f) hs hf nN (by rw [N.hN]; exact hi) (by unfold Env.kindOf; rw [N.sc]; exact hl) ⟨(N.gl gb).1, (N.gl gb).2, .inl h1⟩ tk hb
    (fun a oe cl' d pn hz hv => su_nm N h5 h2 h3 h4 (room.mono (by decide)) gn v a oe cl' d pn hz hv)).imp fun D σ H q => ?_
  obtain ⟨G0, B, G, e, sr, p⟩ := q
  refine ⟨G0, B, G, e, sr, ?_⟩
  have p : Pso X.K cl W own D G0 B G fl1 (named t.cls t.ws (f e)) := p
  generalize f e = o at p ⊢
  cases o with
  | nx e1 => exact p
  | rt d => exact p
  | stk => exact p.elim
  | ex cn a e1 =>
    intro G' σ' H' dd va g sr' hd hv
    rw [named_ex] at p
    unfold told at p
    by_cases hm : t.cls.contains cn = true
    · rw [if_pos hm] at p
      obtain ⟨C, T, hcl⟩ := cls cn (List.contains_iff_mem.mp hm)
      refine ⟨true, by rw [hcl]; exact T.exm, fun _ b hb' => ?_, fun z => by cases z⟩
      refine ⟨fun lt => by rw [List.getElem?_set_self (by simpa using lt)], cn, C, dd, va, hcl, rfl, T, hd, fun q H2 s2 nq e2 => ?_⟩
      have gq : G' q = none := sr'.gh.free nq
      have g3 : Same G' (upd G' q (.tup [.str (Txt.join " " (picked (wbs cn t.ws))), va])) := same_upd gq
      have gh : Same (upd G' q (.tup [.str (Txt.join " " (picked (wbs cn t.ws))), va])) H2 := fun b o z => by
        by_cases hbq : b = q
        · subst hbq
          rw [upd_same] at z
          cases z
          exact e2
        · rw [upd_ne hbq] at z
          exact s2 _ _ (sr'.gh _ _ z)
      have rp : Rp X.K (upd G' q (.tup [.str (Txt.join " " (picked (wbs cn t.ws))), va])) (.ref q) (.tuple [.str (Txt.join " " (picked (wbs cn t.ws))), a]) := .tup (upd_same ..) (.cons (.str _) (.cons (hv.mono g3) .nil))
      refine p _ H2 (.ref q) (sr'.g0.trans g3) (fun b z1 z2 => ?_) gh (sr'.bh.trans s2) ?_
      · by_cases hbq : b = q
        · subst hbq
          exact absurd rfl (z2.ne (sr'.bh.free nq))
        · rw [upd_ne hbq]
          exact sr'.nw b z1 z2
      · split
        · unfold Own
          rw [if_neg (fun z => by cases z)]
          exact rp
        · exact rp
    · rw [if_neg hm] at p
      exact p.elim
end
end Mt
/-! Part Z: a list of lists that grow in place. -/
namespace Mt
open PySem PySem.Spec PyProof.Rows L2

theorem rpl_of {K : PySem.W.Frag} {G : Hp} : ∀ {vs : List V} {ds : List D}, vs.length = ds.length → (∀ (j : Nat) v d, vs[j]? = some v → ds[j]? = some d → Rp K G v d) → RpL K G vs ds
  | [], [], _, _ => .nil
  | [], _ :: _, h, _ => by simp at h
  | _ :: _, [], h, _ => by simp at h
  | v :: vs, d :: ds, h, k => .cons (k 0 v d rfl rfl) (rpl_of (by simpa using h) fun j v' d' h1 h2 => k (j + 1) v' d' (by simpa using h1) (by simpa using h2))
theorem rpl_int {K : PySem.W.Frag} {G G' : Hp} : ∀ {vs : List V} {ds : List D}, RpL K G vs ds → ds.all isI = true → RpL K G' vs ds
  | _, _, .nil, _ => .nil
  | _, _, .cons (d := d) h r, e => by
    obtain ⟨e1, e2⟩ := and_of (show (isI d && _) = true from e)
    cases d with
    | int i => cases h with
      | int => exact .cons (.int i) (rpl_int r e2)
    | _ => cases e1
theorem dn_F {fl : List Bool} (hf : ∀ q : Nat, fl[q]? ≠ some true) (is : List Nat) : dn is fl = fl := by
  apply List.ext_getElem?
  intro q
  rw [dn_get]
  split
  · have := hf q
    cases h : fl[q]? with
    | none => rfl
    | some b => cases b with
      | false => rfl
      | true => exact absurd h this
  · rfl
theorem clr_le {own : List Nat} {e : Sg} {j : Nat} {d : D} (h : (clr own e)[j]? = some (some d)) : j ∉ own ∧ e[j]? = some (some d) := by
  by_cases hj : j ∈ own
  · exact absurd h (clr_in hj)
  · rw [clr_out hj] at h
    exact ⟨hj, h⟩

/-- the list at p, of lists at as; all of it changes in place -/
structure Nst (K : PySem.W.Frag) (G0 B B' G : Hp) (p : Addr) (as : List Addr) (L : List (List D)) : Prop where
  bb : Same B B'
  bp : B' p = some (.lst (as.map .ref))
  len : as.length = L.length
  el : ∀ (j : Nat) a l, as[j]? = some a → L[j]? = some l → ∃ xs, B' a = some (.lst xs) ∧ RpL K G xs l
  pn : ∀ a ∈ as, a ≠ p
  nd : as.Nodup
  gp : G0 p = none
  ga : ∀ a ∈ as, G0 a = none
  b0 : B p = none
  ba : ∀ a ∈ as, B a = none

section
variable {K : PySem.W.Frag} {fl : List Bool} {G0 B B' B2 G G' : Hp} {e : Sg} {σ : L2.St} {H H2 : Hp} {p : Addr} {as : List Addr} {L : List (List D)} {i : Nat}
theorem Nst.mono (n : Nst K G0 B B' G p as L) (g : Same G G') : Nst K G0 B B' G' p as L :=
  ⟨n.bb, n.bp, n.len, fun j a l h1 h2 => by
      obtain ⟨xs, h3, h4⟩ := n.el j a l h1 h2
      exact ⟨xs, h3, h4.mono g⟩, n.pn, n.nd, n.gp, n.ga, n.b0, n.ba⟩
theorem SR.reB (r : SR K fl G0 B G e σ H) (hf : ∀ q : Nat, fl[q]? ≠ some true) (gh : Same G H2) (bh : Same B2 H2) (nw : ∀ q, G0 q = none → Hard B2 q → G q = none) : SR K fl G0 B2 G e σ H2 where
  g0 := r.g0
  gh := gh
  bh := bh
  nw := nw
  len := r.len
  fro := r.fro
  own := fun i d _ f => absurd f (hf i)
  dis := fun i j d d' p _ f => absurd f (hf i)
open Classical in
theorem Nst.frz (n : Nst K G0 B B' G p as L) (r : SR K fl G0 B' G e σ H) (hf : ∀ q : Nat, fl[q]? ≠ some true) (hs : σ[i]? = some (some (.ref p))) :
    ∃ G', Same G G' ∧ SR K fl G0 B G' (e.set i (some (nestD L))) σ H ∧ H p = some (.lst (as.map .ref)) := by
  have gp : G p = none := r.nw p n.gp ⟨_, n.bp, True.intro⟩
  have ba : ∀ a ∈ as, ∃ xs l j, as[j]? = some a ∧ L[j]? = some l ∧ B' a = some (.lst xs) ∧ RpL K G xs l := fun a ha => by
    obtain ⟨j, hj⟩ := List.mem_iff_getElem?.mp ha
    have hl : j < L.length := by rw [← n.len]; exact (List.getElem?_eq_some_iff.mp hj).1
    have hlj : L[j]? = some L[j] := List.getElem?_eq_getElem hl
    obtain ⟨xs, h1, h2⟩ := n.el j a L[j] hj hlj
    exact ⟨xs, L[j], j, hj, hlj, h1, h2⟩
  have ga : ∀ a ∈ as, G a = none := fun a ha => by
    obtain ⟨xs, l, j, _, _, h1, _⟩ := ba a ha
    exact r.nw a (n.ga a ha) ⟨_, h1, True.intro⟩
  have hp : H p = some (.lst (as.map .ref)) := r.bh _ _ n.bp
  have sm : Same G (fun q => if q = p ∨ q ∈ as then H q else G q) := fun q o ho => by
      show (if q = p ∨ q ∈ as then H q else G q) = _
      rw [if_neg]
      · exact ho
      · rintro (z | z)
        · rw [z, gp] at ho
          cases ho
        · rw [ga q z] at ho
          cases ho
  refine ⟨_, sm, ?_, hp⟩
  · have rp : Rp K (fun q => if q = p ∨ q ∈ as then H q else G q) (.ref p) (nestD L) := by
      refine .lst (.of (xs := as.map .ref) ?_) (rpl_of (by rw [List.length_map, List.length_map]; exact n.len) fun j v d h1 h2 => ?_)
      · show (if p = p ∨ p ∈ as then H p else G p) = _
        rw [if_pos (.inl rfl)]
        exact hp
      · rw [List.getElem?_map] at h1 h2
        cases ha : as[j]? with
        | none => rw [ha] at h1; cases h1
        | some a =>
          cases hl : L[j]? with
          | none => rw [hl] at h2; cases h2
          | some l =>
            rw [ha] at h1
            rw [hl] at h2
            cases h1
            cases h2
            obtain ⟨xs, h3, h4⟩ := n.el j a l ha hl
            refine .lst (.of (xs := xs) ?_) (h4.mono sm)
            show (if a = p ∨ a ∈ as then H a else G a) = _
            rw [if_pos (.inr (List.mem_iff_getElem?.mpr ⟨j, ha⟩))]
            exact r.bh _ _ h3
    refine ⟨r.g0.trans sm, fun q o ho => ?_, n.bb.trans r.bh, fun q h1 h2 => ?_, ?_, fun j d hd _ => ?_, fun j d _ f => absurd f (hf j), fun i j d d' p _ f => absurd f (hf i)⟩
    · have ho : (if q = p ∨ q ∈ as then H q else G q) = some o := ho
      by_cases hq : q = p ∨ q ∈ as
      · rw [if_pos hq] at ho
        exact ho
      · rw [if_neg hq] at ho
        exact r.gh _ _ ho
    · have hq : ¬(q = p ∨ q ∈ as) := by
        rintro (z | z)
        · exact h2.ne n.b0 z
        · exact h2.ne (n.ba q z) rfl
      show (if q = p ∨ q ∈ as then H q else G q) = none
      rw [if_neg hq]
      exact r.nw q h1 (h2.mono n.bb)
    · rw [List.length_set]
      exact r.len
    · by_cases hj : i = j
      · subst hj
        by_cases hl : i < e.length
        · rw [List.getElem?_set_self hl] at hd
          cases hd
          exact ⟨_, hs, rp⟩
        · rw [List.getElem?_eq_none (by rw [List.length_set]; omega)] at hd
          cases hd
      · rw [get_set_ne hj] at hd
        obtain ⟨v, h1, h2⟩ := r.fro j d hd (hf j)
        exact ⟨v, h1, h2.mono sm⟩

/-- a loop that fills the lists -/
def tN (K : PySem.W.Frag) (fl : List Bool) (i : Nat) (sl : List Nat) (f : Sg → List (List D) → R (List (List D))) : TS := fun D σ H =>
  ∃ G0 B B' G e p as L L', SR K fl G0 B' G e σ H ∧ Nst K G0 B B' G p as L ∧ σ[i]? = some (some (.ref p)) ∧ f e L = .ok L' ∧
    ∀ G2 B2 σ2 H2, Same G G2 → SR K fl G0 B2 G2 (clr sl e) σ2 H2 → Nst K G0 B B2 G2 p as L' → σ2[i]? = some (some (.ref p)) → D.nx σ2 H2
end
theorem extN_ok {L L' : List (List D)} {q : D} {ys : List D} (h : extN L q ys = .ok L') : ∃ j l, q = .int (j : Nat) ∧ L[j]? = some l ∧ l.length + ys.length ≤ sizeLine ∧ ys.all isI = true ∧ L' = L.set j (l ++ ys) := by
  unfold extN at h
  split at h
  · rename_i z
    split at h
    · rename_i l hl
      obtain ⟨h1, h2⟩ := grd_ok h
      obtain ⟨h1, h3⟩ := and_of h1
      obtain ⟨h1, h4⟩ := and_of h1
      cases h2
      refine ⟨z.toNat, l, ?_, hl, fitL_le h4, h3, rfl⟩
      rw [Int.toNat_of_nonneg (of_decide_eq_true h1)]
    · cases h
  · cases h
theorem atI_natZ {α : Type} {xs : List α} {j : Nat} {x : α} (h : xs[j]? = some x) : atI xs (j : Int) = some x := by
  unfold atI ixN
  have hl : j < xs.length := (List.getElem?_eq_some_iff.mp h).1
  rw [if_pos (by omega), if_pos (by omega)]
  simpa using h
section
variable {X : Cx} {cl : Cls} {W : WX} {fl : List Bool} {i : Nat} {y : Str} {yp sp ap cp pos : Pos} {kx v : Expr} {fi fx : Sg → R D} {oi bi ox bx : Bool}
theorem n_ext (hf : ∀ q : Nat, fl[q]? ≠ some true) (hv : PE X (.Name y yp) (tVar i)) (hi : PE X kx (tE X.K cl W fl fl oi bi fi)) (hx : PE X v (tE X.K cl W fl fl ox bx fx)) (hns : noSlice kx = true) (hst : noStar v = true) (hline : (ap.endLine == cp.line) = true) :
    PS X (.Expr (.Call (.Attribute (.Subscript (.Name y yp) kx sp) "extend" ap) [v] [] cp) pos) (tN X.K fl i [] fun e L => (fi (e.set i (some (nestD L)))).bind fun q => ((fx (e.set i (some (nestD L)))).bind unL).bind fun ys => extN L q ys) :=
  (ps_expr (pe_bm PySem.F.plainAttrs_list PySem.F.slot_list_extend PySem.F.type_list_extend mt_extendL (pe_ix ix_list hv hi (plain_ok hns)) (pa_cons hx pa_nil (noStar_ok hst _ _)) rfl (by rw [noStar_ok hst]; rfl) hline (noStar_ok hst _ _) rfl) rfl).imp fun D σ H q => by
  obtain ⟨G0, B, B', G, e, p, as, L, L', r, n, hs, hL, k⟩ := q
  dsimp only at hL
  obtain ⟨G1, g1, r1, hp⟩ := n.frz r hf hs
  cases h1 : fi (e.set i (some (nestD L))) with
  | exc c a => rw [h1] at hL; cases hL
  | stuck => rw [h1] at hL; cases hL
  | ok q =>
  rw [h1] at hL
  cases h2 : fx (e.set i (some (nestD L))) with
  | exc c a => rw [h2] at hL; cases hL
  | stuck => rw [h2] at hL; cases hL
  | ok d =>
  rw [h2] at hL
  cases hd : unL d with
  | exc c a => exact absurd hd (unL_nx d c a)
  | stuck => rw [R.bind_ok, R.bind_ok, hd] at hL; cases hL
  | ok ys =>
  rw [R.bind_ok, R.bind_ok, hd, R.bind_ok] at hL
  cases unL_ok hd
  obtain ⟨j, l, rfl, hj, hle, hall, rfl⟩ := extN_ok hL
  have hja : j < as.length := by rw [n.len]; exact (List.getElem?_eq_some_iff.mp hj).1
  obtain ⟨a, ha⟩ : ∃ a, as[j]? = some a := ⟨as[j], by simp [hja]⟩
  have ham : a ∈ as := List.mem_iff_getElem?.mpr ⟨j, ha⟩
  obtain ⟨xs, hxa, hxr⟩ := n.el j a l ha hj
  have gaN : G a = none := r.nw a (n.ga a ham) ⟨_, hxa, True.intro⟩
  refine ⟨.ref p, hs, G0, B, G1, _, r1, ?_⟩
  rw [h1]
  intro G2 H2 w g2 s2 r2 aw _
  refine ⟨p, as.map .ref, (j : Nat), .ref a, rfl, aw.int, SqL.of (s2 _ _ hp), atI_natZ (by rw [List.getElem?_map, ha]; rfl), .inl ⟨rfl, xs, SqL.of (s2 _ _ (r.bh _ _ hxa))⟩, G0, B, G2, _, r2, ?_⟩
  rw [h2]
  intro G3 H3 w3 g3 s3 r3 aw3 _
  obtain ⟨b, ws, rfl, h5, h6⟩ := aw3.list r3.gh
  have sH : Same H H3 := s2.trans s3
  refine ⟨a, b, xs, ws, rfl, rfl, sH _ _ (r.bh _ _ hxa), h5, by rw [hxr.length, h6.length]; exact hle, ?_⟩
  refine k G (upd B' a (.lst (xs ++ ws))) σ _ (Same.refl G) (r.reB hf (fun q o ho => ?_) (fun q o ho => ?_) fun q h1 h2 => ?_) ⟨fun q o ho => ?_, ?_, ?_, fun j' a' l' e1 e2 => ?_, n.pn, n.nd, n.gp, n.ga, n.b0, n.ba⟩ hs
  · rw [upd_ne (ne_of_none ho gaN)]
    exact sH _ _ (r.gh _ _ ho)
  · by_cases hq : q = a
    · subst hq
      rw [upd_same] at ho ⊢
      exact ho
    · rw [upd_ne hq] at ho ⊢
      exact sH _ _ (r.bh _ _ ho)
  · by_cases hq : q = a
    · rw [hq]; exact gaN
    · exact r.nw q h1 (h2.off hq)
  · rw [upd_ne (ne_of_none ho (n.ba a ham))]
    exact n.bb _ _ ho
  · rw [upd_ne (fun z => n.pn a ham z.symm)]
    exact n.bp
  · rw [List.length_set]
    exact n.len
  · by_cases hjj : j = j'
    · subst hjj
      rw [ha] at e1
      cases e1
      rw [List.getElem?_set_self (by rw [← n.len]; exact hja)] at e2
      cases e2
      exact ⟨_, upd_same, hxr.append (rpl_int h6 hall)⟩
    · rw [get_set_ne hjj] at e2
      obtain ⟨xs', h7, h8⟩ := n.el j' a' l' e1 e2
      refine ⟨xs', ?_, h8⟩
      rw [upd_ne fun z => hjj ?_]
      · exact h7
      · subst z
        exact (List.getElem?_inj hja n.nd).mp (ha.trans e1.symm)

theorem n_for {tg it : Expr} {t : T} {st : Stmt} {its : Sg → R (List D)} {fb : Sg → List (List D) → R (List (List D))} {sl : List Nat} (hf : ∀ q : Nat, fl[q]? ≠ some true) (hp : PassesOwn (model X.prog X.w) X.A X.env X.xe) (hc : X.calm = true) (hi : PI X tg it (tI X.K cl W fl fl false its)) (hg : PG X tg (gD X.K fl t))
    (hb : PS X st (tN X.K fl i sl fb)) (hs : ∀ x, foldedSetIterable it X.env x = pure x) (hit : i ∉ t.slots) :
    PS X (.For tg it [st] [] pos) (tN X.K fl i (t.slots ++ sl) fun e L => (its (clr (t.slots ++ sl) e)).bind fun l => nGo (fun x L => (asg t x (clr (t.slots ++ sl) e)).bind fun e1 => fb e1 L) l L) :=
  (ps_for hp hc hi hg (pss_cons hb pss_nil) hs).imp fun D σ H q => by
  obtain ⟨G0, B, B', G, e0, p, as, L, L', r0, n, hσ, hL, k⟩ := q
  dsimp only at hL
  have r : SR X.K fl G0 B' G (clr (t.slots ++ sl) e0) σ H := r0.less (by rw [clr_length]; exact r0.len) fun j d hj => ⟨(clr_le hj).2, rfl⟩
  have hcl : ∀ (j : Nat) d, (clr (t.slots ++ sl) e0)[j]? = some (some d) → j ∉ t.slots ∧ j ∉ sl := fun j d hj => by
    have := (clr_le hj).1
    rw [List.mem_append, not_or] at this
    exact this
  generalize clr (t.slots ++ sl) e0 = e at r hL k hcl
  cases hl : its e with
  | exc c a => rw [hl] at hL; cases hL
  | stuck => rw [hl] at hL; cases hL
  | ok l =>
  rw [hl, R.bind_ok] at hL
  generalize hF : (fun (x : PyData) (L : List (List PyData)) => (asg t x e).bind fun e1 => fb e1 L) = F at hL
  refine ⟨G0, B', G, e, r, ?_⟩
  rw [hl]
  intro G1 H1 J g1 s1 r1 _ itf
  have itf := itf rfl
  refine ⟨fun m w σ' H' => w = l.length - m ∧ m ≤ l.length ∧ ∃ G2 B2 L2, SR X.K fl G0 B2 G2 e σ' H' ∧ Same G1 G2 ∧ Nst X.K G0 B B2 G2 p as L2 ∧ σ'[i]? = some (some (.ref p)) ∧ nGo F (l.drop m) L2 = .ok L', ⟨l.length, by simp, Nat.zero_le _, G1, B', L, r1, Same.refl G1, n.mono g1, hσ, hL⟩, ?_⟩
  rintro m w σ2 H2 ⟨rfl, hm, G2, B2, L2, r2, g2, n2, hσ2, hL2⟩
  by_cases hlt : m < l.length
  · have hx : l[m]? = some l[m] := by simp [hlt]
    rw [List.drop_eq_getElem_cons hlt] at hL2
    have hL2 : (F l[m] L2).bind (fun L1 => nGo F (l.drop (m + 1)) L1) = .ok L' := hL2
    refine .inr ⟨itf.go m G2 H2 hlt g2 r2.gh, fun σ' H' => ∃ G3 B3 L3, SR X.K fl G0 B3 G3 e σ' H' ∧ Same G1 G3 ∧ Nst X.K G0 B B3 G3 p as L3 ∧ σ'[i]? = some (some (.ref p)) ∧ nGo F (l.drop (m + 1)) L3 = .ok L', fun σ' H' h => ⟨l.length - (m + 1), by omega, rfl, hlt, h⟩, fun v H3 hy => ?_⟩
    obtain ⟨s3, rs⟩ := itf.yld m l[m] G2 H2 v H3 hx g2 r2.gh hy
    obtain ⟨G3, g3, r3, rs3⟩ := settleK r2 s3 rs
    have hFx : F l[m] L2 = (asg t l[m] e).bind fun e1 => fb e1 L2 := by rw [← hF]
    cases ha : asg t l[m] e with
    | exc c a => exact absurd ha asg_nx
    | stuck => rw [hFx, ha] at hL2; cases hL2
    | ok e4 =>
      rw [ha, R.bind_ok] at hFx
      refine ⟨G0, B2, G3, e, l[m], r3, rs3.frozen, e4, ha, fun σ4 o4 l4 r4 => ?_⟩
      rw [dn_F hf] at r4
      cases hb2 : fb e4 L2 with
      | exc c a => rw [hFx, hb2] at hL2; cases hL2
      | stuck => rw [hFx, hb2] at hL2; cases hL2
      | ok L4 =>
        rw [hFx, hb2, R.bind_ok] at hL2
        refine ⟨G0, B, B2, G3, e4, p, as, L2, L4, r4, n2.mono g3, by rw [o4 i hit]; exact hσ2, hb2, fun G5 B5 σ5 H5 g5 r5 n5 hσ5 => ?_⟩
        refine ⟨G5, B5, L4, r5.less (by rw [← r5.len, clr_length, (asg_out ha).1]) fun j d hj => ⟨?_, rfl⟩, (g2.trans g3).trans g5, n5, hσ5, hL2⟩
        obtain ⟨q1, q2⟩ := hcl j d hj
        rw [clr_out q2, (asg_out ha).2 j q1]
        exact hj
  · have e3 : m = l.length := by omega
    subst e3
    rw [List.drop_length] at hL2
    have hL2 : R.ok L2 = R.ok L' := hL2
    cases hL2
    exact .inl ⟨itf.stop _ G2 H2 (Nat.le_refl _) g2 r2.gh, k G2 B2 σ2 H2 (g1.trans g2) r2 n2 hσ2⟩

theorem n_top {st1 st2 : Stmt} {more : List Stmt} {o : Bool} {flN flo : List Bool} {own sl : List Nat} {j : Nat} {its : Sg → R (List D)} {fn : Sg → List (List D) → R (List (List D))} {fr : Sg → O}
    (hf : ∀ q : Nat, flN[q]? ≠ some true) (hj : j ∈ own) (hio : i ∉ own)
    (h1 : PS X st1 (tAsg (tLc (tI X.K cl W fl flN false its) (gD X.K flN (.nm j)) tYes (tLst tNil) own) (gName i))) (h2 : PS X st2 (tN X.K flN i sl fn)) (h3 : PSs X more (tS X.K cl W o flN flo fr)) :
    PSs X (st1 :: st2 :: more) (tS X.K cl W o fl flo fun e => (nox ((its e).bind fun l => grd (fitL l.length && decide (i < e.length)) (fn (e.set i none) (l.map fun _ => [])))).go e fun L => fr ((clr sl (e.set i none)).set i (some (nestD L)))) :=
  (pss_cons h1 (pss_cons h2 h3)).imp fun D σ H q => by
  obtain ⟨G0, B, G, e, sr, q⟩ := q
  dsimp only at q
  cases hl : its e with
  | exc c a => rw [hl] at q; exact q.elim
  | stuck => rw [hl] at q; exact q.elim
  | ok l =>
  rw [hl, R.bind_ok] at q
  cases hfit : (fitL l.length && decide (i < e.length)) with
  | false => rw [hfit] at q; exact q.elim
  | true =>
  rw [hfit, grd_true] at q
  cases hn : fn (e.set i none) (l.map fun _ => []) with
  | exc c a => rw [hn] at q; exact q.elim
  | stuck => rw [hn] at q; exact q.elim
  | ok L =>
  rw [hn] at q
  have q : Pso X.K cl W o D G0 B G flo (fr ((clr sl (e.set i none)).set i (some (nestD L)))) := q
  have hle : l.length ≤ sizeLine := fitL_le (and_of hfit).1
  have hie : i < e.length := of_decide_eq_true (and_of hfit).2
  refine ⟨G0, B, G, e, sr, ?_⟩
  rw [hl]
  intro G1 H1 J g1 s1 r1 _ itf P hP
  have itf := itf rfl
  have gP : G1 P = none := r1.gh.free hP
  have g0P : G0 P = none := r1.g0.free gP
  have bP : B P = none := r1.bh.free hP
  have wl : (clr own e).length = (wipe σ own).length := by rw [clr_length, wipe_length]; exact r1.len
  have lessE : ∀ (j : Nat) d, (clr own e)[j]? = some (some d) → e[j]? = some (some d) ∧ (wipe σ own)[j]? = σ[j]? := fun j d h => ⟨(clr_le h).2, wipe_out (clr_le h).1⟩
  refine ⟨fun m w H2 => w = l.length - m ∧ m ≤ l.length ∧ ∃ G2 B2 as, SR X.K flN G0 B2 G2 (clr own e) (wipe σ own) H2 ∧ Same G1 G2 ∧ Nst X.K G0 B B2 G2 P as (List.replicate m []), ⟨l.length, by simp, Nat.zero_le _, G1, upd B P (.lst []), [], ?_, Same.refl G1, ?_⟩, ?_⟩
  · refine (r1.less wl lessE).reB hf (r1.gh.trans (same_upd hP)) (fun q o ho => ?_) fun q h1 h2 => ?_
    · by_cases hq : q = P
      · subst hq
        rw [upd_same] at ho ⊢
        exact ho
      · rw [upd_ne hq] at ho ⊢
        exact r1.bh _ _ ho
    · by_cases hq : q = P
      · rw [hq]; exact gP
      · exact r1.nw q h1 (h2.off hq)
  · exact ⟨same_upd bP, upd_same, rfl, (fun j a l h _ => by cases h), (fun a h => by cases h), List.nodup_nil, g0P, (fun a h => by cases h), bP, (fun a h => by cases h)⟩
  · rintro m w H2 ⟨rfl, hm, G2, B2, as, r2, g2, n2⟩
    by_cases hlt : m < l.length
    · have hx : l[m]? = some l[m] := by simp [hlt]
      refine .inr ⟨itf.go m G2 H2 hlt g2 r2.gh, fun H' => ∃ G3 B3 as, SR X.K flN G0 B3 G3 (clr own e) (wipe σ own) H' ∧ Same G1 G3 ∧ Nst X.K G0 B B3 G3 P as (List.replicate (m + 1) []), fun H' h => ⟨l.length - (m + 1), by omega, rfl, hlt, h⟩, fun v H3 hy => ?_⟩
      obtain ⟨s3, rs⟩ := itf.yld m l[m] G2 H2 v H3 hx g2 r2.gh hy
      obtain ⟨G3, g3, r3, rs3⟩ := settleK r2 s3 rs
      refine ⟨G0, B2, G3, _, l[m], r3, rs3.frozen, (clr own e).set j (some l[m]), by unfold asg; rfl, fun σ4 o4 l4 _ => ⟨wipe_eq (fun q hq => (o4 q fun z => hq (by have := List.mem_singleton.mp z; subst this; exact hj)).trans (wipe_out hq)) (l4.trans (wipe_length _ _)), ?_⟩⟩
      unfold tYes
      dsimp only
      rw [if_pos rfl]
      refine ⟨Nat.zero_le _, fun A hA => ?_⟩
      have n3 := n2.mono g3
      have hal : as.length = m := by rw [n2.len, List.length_replicate]
      have hPA : P ≠ A := fun z => by
        have := r3.bh _ _ n3.bp
        rw [z, hA] at this
        cases this
      have hAas : A ∉ as := fun z => by
        obtain ⟨k', hk⟩ := List.mem_iff_getElem?.mp z
        have hkl : k' < m := by rw [← hal]; exact (List.getElem?_eq_some_iff.mp hk).1
        obtain ⟨xs, h4, _⟩ := n3.el k' A [] hk (by rw [List.getElem?_replicate, if_pos hkl])
        have := r3.bh _ _ h4
        rw [hA] at this
        cases this
      have bA : B A = none := n3.bb.free (r3.bh.free hA)
      have g3A : G3 A = none := r3.gh.free hA
      have g0A : G0 A = none := r3.g0.free g3A
      have b2A : B2 A = none := r3.bh.free hA
      have g3P : G3 P = none := r3.nw P g0P ⟨_, n3.bp, True.intro⟩
      refine ⟨as.map .ref, ?_, by rw [List.length_map, hal]; omega, G3, upd (upd B2 A (.lst [])) P (.lst ((as ++ [A]).map .ref)), as ++ [A], ?_, g2.trans g3, ?_⟩
      · rw [upd_ne hPA]
        exact r3.bh _ _ n3.bp
      · refine r3.reB hf (fun q o ho => ?_) (fun q o ho => ?_) fun q h1 h2 => ?_
        · rw [upd_ne (ne_of_none ho g3P), upd_ne (ne_of_none ho g3A)]
          exact r3.gh _ _ ho
        · by_cases hq : q = P
          · subst hq
            rw [upd_same] at ho ⊢
            rw [List.map_append] at ho
            exact ho
          · rw [upd_ne hq] at ho ⊢
            by_cases hq2 : q = A
            · subst hq2
              rw [upd_same] at ho ⊢
              exact ho
            · rw [upd_ne hq2] at ho ⊢
              exact r3.bh _ _ ho
        · by_cases hq : q = P
          · rw [hq]; exact g3P
          · by_cases hq2 : q = A
            · rw [hq2]; exact g3A
            · exact r3.nw q h1 ((h2.off hq).off hq2)
      · refine ⟨fun q o ho => ?_, upd_same, by rw [List.length_append, List.length_replicate, hal]; rfl, fun k' a l' e1 e2 => ?_, fun a ha => ?_, ?_, g0P, fun a ha => ?_, bP, fun a ha => ?_⟩
        · rw [upd_ne (ne_of_none ho bP), upd_ne (ne_of_none ho bA)]
          exact n3.bb _ _ ho
        · have el' : l' = [] := by
            rw [List.getElem?_replicate] at e2
            split at e2
            · cases e2; rfl
            · cases e2
          subst el'
          by_cases hk : k' < as.length
          · rw [List.getElem?_append_left hk] at e1
            have haas : a ∈ as := List.mem_iff_getElem?.mpr ⟨k', e1⟩
            obtain ⟨xs, h4, h5⟩ := n3.el k' a [] e1 (by rw [List.getElem?_replicate, if_pos (by omega)])
            refine ⟨xs, ?_, h5⟩
            rw [upd_ne (n3.pn a haas), upd_ne (fun z => hAas (by rw [← z]; exact haas))]
            exact h4
          · have hk2 : k' = as.length := by
              have := (List.getElem?_eq_some_iff.mp e1).1
              rw [List.length_append, List.length_singleton] at this
              omega
            subst hk2
            rw [List.getElem?_append_right (Nat.le_refl _), Nat.sub_self] at e1
            cases e1
            refine ⟨[], ?_, .nil⟩
            rw [upd_ne (fun z => hPA z.symm), upd_same]
        · rcases List.mem_append.mp ha with z | z
          · exact n3.pn a z
          · rw [List.mem_singleton.mp z]
            exact fun z => hPA z.symm
        · refine List.nodup_append.mpr ⟨n3.nd, by simp, fun a ha b hb z => ?_⟩
          rw [List.mem_singleton.mp hb] at z
          exact hAas (by rw [← z]; exact ha)
        · rcases List.mem_append.mp ha with z | z
          · exact n3.ga a z
          · rw [List.mem_singleton.mp z]
            exact g0A
        · rcases List.mem_append.mp ha with z | z
          · exact n3.ba a z
          · rw [List.mem_singleton.mp z]
            exact bA
    · have e3 : m = l.length := by omega
      subst e3
      refine .inl ⟨itf.stop _ G2 H2 (Nat.le_refl _) g2 r2.gh, ?_⟩
      have rE : SR X.K flN G0 B2 G2 (e.set i none) (σ.set i (some (.ref P))) H2 := by
        refine ⟨r2.g0, r2.gh, r2.bh, r2.nw, by rw [List.length_set, List.length_set]; exact r1.len, fun k' d hd _ => ?_, fun q d _ f => absurd f (hf q), fun q j d d' p _ f => absurd f (hf q)⟩
        by_cases hk : i = k'
        · subst hk
          by_cases hl : i < e.length
          · rw [List.getElem?_set_self hl] at hd
            cases hd
          · rw [List.getElem?_eq_none (by rw [List.length_set]; omega)] at hd
            cases hd
        · rw [get_set_ne hk] at hd ⊢
          obtain ⟨v, h1, h2⟩ := r1.fro k' d hd (hf k')
          exact ⟨v, h1, h2.mono g2⟩
      have hLm : (l.map fun _ => ([] : List PyData)) = List.replicate l.length [] := by
        apply List.ext_getElem?
        intro q
        rw [List.getElem?_map, List.getElem?_replicate]
        by_cases hq : q < l.length
        · rw [if_pos hq, List.getElem?_eq_getElem hq]
          rfl
        · rw [if_neg hq, List.getElem?_eq_none (by omega)]
          rfl
      rw [hLm] at hn
      refine ⟨G0, B, B2, G2, e.set i none, P, as, _, L, rE, n2, List.getElem?_set_self (by rw [← r1.len]; exact hie), hn, fun G3 B3 σ3 H3 g3 r3 n3 hσ3 => ?_⟩
      obtain ⟨G4, g4, r4, _⟩ := n3.frz r3 hf hσ3
      exact ⟨G0, B, G4, _, r4, Pso.grow q (((g1.trans g2).trans g3).trans g4)⟩
end
end Mt
/-! Part P: a statement's tree against its reading. -/
namespace Mt
open PySem PySem.Spec PyProof.Rows L2

inductive Sd where
  | s (st : Stmt)
  | l (sts : List Stmt)
def offLocal (c : SC) : Expr → Bool
  | .Name x _ => !(c.sc.names.lookup x == some .local)
  | _ => false
def swNone (c : SC) : Expr → Expr → Bool
  | .Tuple ts _ _, .Tuple vs _ _ => (vs.all (foldedForSure 8) || (ts.length != 2 && ts.length != 3)) || ts.any (offLocal c)
  | .List _ _, .Tuple _ _ _ => false
  | _, _ => true
def setT (c : SC) (tg : T) (x : E) (fl : List Bool) (t v : Expr) : Bool := match tg, t with
  | .nm i, .Name y py => c.loc i y && setOk c y py v && decide (i < fl.length)
  | .tup n ts, t => chkT c (.tup n ts) t && !isComp v && swNone c t v && noStar t
  | _, _ => false
def parOk (c : SC) (i j : Nat) (x y : Str) (px py : Pos) (a b : Expr) : Bool :=
  i != j && c.N[i]? == some x && c.N[j]? == some y && c.sc.names.lookup x == some .local && c.sc.names.lookup y == some .local && decide (c.sc.kind = .function) && px.line == py.line && x != y && noStar a && noStar b &&
    !(foldedForSure 8 a && foldedForSure 8 b) && !(constantsAlone 8 a && constantsAlone 8 b)
def retOk (c : SC) (o : Bool) (fl : List Bool) (x : E) : Bool := match x with
  | .bor i => fl[i]? == some true
  | x => !borE x && (!o || ownE c.fs x)
def appOk (c : SC) (i : Nat) (x : E) (fl : List Bool) (y : Str) (v : Expr) (ap cp : Pos) : Bool := c.vis i y && fl[i]? == some true && (dn (rds x) fl)[i]? == some true && !borE x && noStar v && ap.endLine == cp.line
def putOk (c : SC) (i : Nat) (k v : E) (fl : List Bool) (y : Str) (kx vx : Expr) : Bool := c.vis i y && fl[i]? == some true && (dn (rds k) (dn (rds v) fl))[i]? == some true && !borE v && !borE k && noSlice kx && !isComp vx
def tryOk (c : SC) (i : Nat) (cls : List Str) (ws : List (Str × Str)) (b n f y : Str) : Bool :=
  b == c.xt.base && f == c.xt.nm && cls == c.xt.cls && ws == c.xt.ws && c.xt.on && c.gl b && c.gl f && c.vis i y && c.N[i]? == some n && c.sc.names.lookup n == some .local
def nestOk (c : SC) (i : Nat) (k : ItK) (src : E) (j : Nat) (own : List Nat) (nb : NB) (fl : List Bool) (y : Str) (py lp : Pos) (t it : Expr) (scope : Scope) (pos : Pos) : Bool :=
  itOk c k t it (borE src) (fun n => chk src c n) && !borE src && c.blkOk scope own && own.contains j && chkT (c.blk scope) (.nm j) t && c.loc i y && setOk c y py (.ListComp (.List [] lp) [⟨t, it, [], 0⟩] scope pos) && !(dn (nestT i src own nb) fl).contains true && !own.contains i
def chkN (i : Nat) : NB → SC → Stmt → Bool
  | .ext ix x, c, .Expr (.Call (.Attribute (.Subscript (.Name y _) kx _) m ap) [v] [] cp) _ => m == "extend" && c.vis i y && noSlice kx && noStar v && ap.endLine == cp.line && chk ix c (.e kx) && chk x c (.e v)
  | .loop k src tg b, c, .For t it [s] [] _ => itOk c k t it (borE src) (fun n => chk src c n) && !borE src && chkT c tg t && !tg.slots.contains i && chkN i b c s
  | _, _, _ => false
def chkS : S → List Bool → SC → Bool → Sd → Bool
  | .skip, _, _, _, .l [] => true
  | .skip, _, _, _, .s (.Pass _) => true
  | .seq a b, fl, c, o, .l (st :: rest) => chkS a fl c o (.s st) && chkS b (flS c.fs a fl) c o (.l rest)
  | .set tg x, fl, c, o, .s (.Assign [t] v _) => !borE x && chk x c (.e v) && setT c tg x fl t v
  | .par i j es, fl, c, o, .s (.Assign [.Tuple [.Name x px, .Name y py] _ _] (.Tuple [a, b] _ _) _) => parOk c i j x y px py a b && !borE es && chk es c (.l [a, b])
  | .ite t a b, fl, c, o, .s (.If e sa sb _) => chk t c (.e e) && chkS a (dn (rds t) fl) c o (.l sa) && chkS b (dn (rds t) fl) c o (.l sb)
  | .for_ k src tg body, fl, c, o, .s (.For t it sb [] _) => itOk c k t it (borE src) (fun n => chk src c n) && !borE src && chkT c tg t && chkS body (dn (tg.slots ++ tch body) (dn (rds src) fl)) c o (.l sb)
  | .while_ t body, fl, c, o, .s (.While e sb [] _) => chk t c (.e e) && chkS body (dn (rds t ++ tch body) fl) c o (.l sb)
  | .ret x, fl, c, o, .s (.Return (some e) _) => retOk c o fl x && chk x c (.e e)
  | .drop x, fl, c, o, .s (.Expr e _) => chk x c (.e e) && !isComp e
  | .app i x, fl, c, o, .s (.Expr (.Call (.Attribute (.Name y _) m ap) [v] [] cp) _) => m == "append" && appOk c i x fl y v ap cp && chk x c (.e v)
  | .ext i x, fl, c, o, .s (.Expr (.Call (.Attribute (.Name y _) m ap) [v] [] cp) _) => m == "extend" && appOk c i x fl y v ap cp && chk x c (.e v)
  | .stop, _, _, _, _ => true
  | .put i k v, fl, c, o, .s (.Assign [.Subscript (.Name y _) kx _] vx _) => putOk c i k v fl y kx vx && chk v c (.e vx) && chk k c (.e kx)
  | .puti i k v, fl, c, o, .s (.Assign [.Subscript (.Name y _) kx _] vx _) => putOk c i k v fl y kx vx && chk v c (.e vx) && chk k c (.e kx)
  | .raise cn x, fl, c, o, .s (.Raise (some (.Call (.Name y _) [v] [] _)) none _) => y == cn && c.xt.on && c.xt.cls.contains cn && c.gl cn && noStar v && !borE x && chk x c (.e v)
  | .tryN i cls ws body, fl, c, o, .s (.Try sb [.ExceptHandler (some (.Name b _)) (some n) [.Return (some (.Call (.Name f _) [.Name y _] [] _)) _] _] [] [] _) => tryOk c i cls ws b n f y && chkS body fl c o (.l sb)
  | .nest i k src j own nb rest, fl, c, o, .l (.Assign [.Name y py] (.ListComp (.List [] lp) [⟨t, it, [], 0⟩] scope pos) spos :: st2 :: more) =>
      nestOk c i k src j own nb fl y py lp t it scope pos && chkN i nb c st2 && chkS rest (dn (nestT i src own nb) fl) c o (.l more)
  | .forK i tg body, fl, c, o, .s (.For t (.Name y _) sb [] _) => c.vis i y && chkT c tg t && chkS body (dn (i :: (tg.slots ++ tch body)) fl) c o (.l sb)
  | _, _, _, _, _ => false

theorem blockKind_fn {env : Env} (h : env.scope.kind = .function) : env.blockKind = .function := by unfold Env.blockKind; rw [h]; rfl
theorem sw_par {c : SC} {i j : Nat} {x y : Str} {px py pt pt2 : Pos} {kt k2 : Nat} {a b : Expr} {env : Env} (hsc : env.scope = c.sc) (h : parOk c i j x y px py a b = true) :
    swappedStores [.Tuple [.Name x px, .Name y py] kt pt] (.Tuple [a, b] k2 pt2) env = pure (some [x, y]) := by
  unfold parOk at h
  simp only [Bool.and_eq_true, beq_iff_eq, bne_iff_ne, ne_eq, decide_eq_true_eq, Bool.not_eq_true'] at h
  obtain ⟨⟨⟨⟨⟨⟨⟨⟨⟨⟨⟨h1, h2⟩, h3⟩, h4⟩, h5⟩, h6⟩, h7⟩, h8⟩, h9⟩, h10⟩, h11⟩, h12⟩ := h
  have k := blockKind_fn (env := env) (by rw [hsc]; exact h6)
  have kx : env.kindOf x = some .local := by unfold Env.kindOf; rw [hsc]; exact h4
  have ky : env.kindOf y = some .local := by unfold Env.kindOf; rw [hsc]; exact h5
  have ed : ([x, y] : List Str).eraseDups = [x, y] := by
    have : (y == x) = false := by simpa using fun z => h8 z.symm
    simp [List.eraseDups_cons, this]
  unfold swappedStores
  simp only [List.length_cons, List.length_nil, k, List.head?_cons, Option.map_some, Option.getD_some, Expr.pos, List.filterMap_cons, List.filterMap_nil, kx, ky, h7, beq_self_eq_true, Bool.and_self, if_true, ed, List.all_cons, List.all_nil, Bool.and_true, h11, h12, List.any_cons, List.any_nil, Bool.or_false]
  split
  · rename_i z
    exact absurd z (by decide)
  · split
    · cases h9
    · split
      · cases h10
      · rfl
theorem fm_short {α β : Type} {f : α → Option β} : ∀ {l : List α} {x : α}, x ∈ l → f x = none → (l.filterMap f).length ≠ l.length := by
  intro l x hx hf h
  have le : ∀ l : List α, (l.filterMap f).length ≤ l.length := fun l => List.length_filterMap_le f l
  induction l with
  | nil => cases hx
  | cons y l ih =>
    rw [List.filterMap_cons] at h
    have := le l
    rcases List.mem_cons.mp hx with e | hx
    · subst e
      rw [hf] at h
      simp only [List.length_cons] at h
      omega
    · cases hy : f y with
      | none =>
        rw [hy] at h
        simp only [List.length_cons] at h
        omega
      | some b =>
        rw [hy] at h
        simp only [List.length_cons] at h
        exact ih hx (by omega)
theorem sw_no {c : SC} {t v : Expr} {env : Env} (hsc : env.scope = c.sc) (h : swNone c t v = true) : swappedStores [t] v env = pure none := by
  unfold swNone at h
  split at h
  · rename_i ts k1 p1 vs k2 p2
    rcases Bool.or_eq_true_iff.mp h with h | h
    · rcases Bool.or_eq_true_iff.mp h with h | h
      · unfold swappedStores
        simp only [h, if_true]
        repeat' (first | rfl | split)
      · simp only [Bool.and_eq_true, bne_iff_ne, ne_eq] at h
        have : (!(ts.length == 2 || ts.length == 3)) = true := by simp [h.1, h.2]
        unfold swappedStores
        simp only [this, Bool.true_or, if_true]
    · obtain ⟨x, hx, ho⟩ := List.any_eq_true.mp h
      unfold swappedStores
      dsimp only
      split
      · rfl
      · split
        · rfl
        · rw [if_pos (Bool.or_eq_true_iff.mpr (.inl (bne_iff_ne.mpr (fm_short hx ?_))))]
          cases x with
          | Name y p =>
            have hk : (env.kindOf y == some .local) = false := by
              unfold Env.kindOf
              rw [hsc]
              exact not_of' ho
            dsimp only
            rw [hk]
            rfl
          | _ => cases ho
  · cases h
  · rename_i h1 h2
    unfold swappedStores
    split
    · rename_i ts vs heq
      exfalso
      split at heq
      · rename_i q
        exact h1 _ _ _ _ _ _ (List.cons.inj q).1 rfl
      · rename_i q
        exact h2 _ _ _ _ _ (List.cons.inj q).1 rfl
      · cases heq
    · rfl
end Mt
/-! Part Q: a checked statement is a reading. -/
namespace Mt
open PySem PySem.Spec PyProof.Rows L2
theorem O.seq_nx_inv {o : O} {g : Sg → O} {e1 : Sg} (h : o.seq g = .nx e1) : ∃ e2, o = .nx e2 ∧ g e2 = .nx e1 := by
  cases o with
  | nx e2 => exact ⟨e2, rfl, h⟩
  | rt d => cases h
  | ex c a e => cases h
  | stk => cases h
theorem R.go_nx_inv {α : Type} {r : R α} {e : Sg} {f : α → O} {e1 : Sg} (h : r.go e f = .nx e1) : ∃ a, r = .ok a ∧ f a = .nx e1 := by
  cases r with
  | ok a => exact ⟨a, rfl, h⟩
  | exc c a => cases h
  | stuck => cases h
theorem ends_ok {cs : List D} {cal : Nat → List D → R D} {n : Nat} : ∀ {s : S} {e e1 : Sg}, ends s = true → evS cs cal n s e ≠ .nx e1
  | .seq a b, e, e1, h, q => by
    obtain ⟨e2, h1, h2⟩ := O.seq_nx_inv (show (evS cs cal n a e).seq (fun e1 => evS cs cal n b e1) = .nx e1 from q)
    rcases Bool.or_eq_true_iff.mp (show (ends a || ends b) = true from h) with h | h
    · exact ends_ok h h1
    · exact ends_ok h h2
  | .ite t a b, e, e1, h, q => by
    obtain ⟨ha, hb⟩ := and_of (show (ends a && ends b) = true from h)
    obtain ⟨x, h1, q1⟩ := R.go_nx_inv (show (evE cs cal t e).go e (fun x => (truthy x).go e fun t => if t = true then evS cs cal n a e else evS cs cal n b e) = .nx e1 from q)
    obtain ⟨u, h2, q2⟩ := R.go_nx_inv q1
    cases u with
    | true => exact ends_ok ha q2
    | false => exact ends_ok hb q2
  | .ret x, e, e1, h, q => by
    obtain ⟨d, h1, q1⟩ := R.go_nx_inv (show (evE cs cal x e).go e .rt = .nx e1 from q)
    cases q1
  | .stop, e, e1, h, q => by cases q
  | .put _ _ _, _, _, h, _ => by cases h
  | .puti _ _ _, _, _, h, _ => by cases h
  | .raise c x, e, e1, h, q => by
    obtain ⟨d, h1, q1⟩ := R.go_nx_inv (show (evE cs cal x e).go e (fun d => .ex c d e) = .nx e1 from q)
    cases q1
  | .tryN i cls ws b, e, e1, h, q => by
    have q : named cls ws (evS cs cal n b e) = .nx e1 := q
    cases hb : evS cs cal n b e with
    | nx e2 => exact ends_ok (s := b) h hb
    | rt d => rw [hb] at q; cases q
    | stk => rw [hb] at q; cases q
    | ex c a e2 =>
      rw [hb, named_ex] at q
      unfold told at q
      split at q <;> cases q
  | .nest i k src j own nb b, e, e1, h, q => by
    obtain ⟨L, h1, q1⟩ := R.go_nx_inv (show (evNest cs cal i k src nb e).go e (fun L => evS cs cal n b ((clr nb.slots (e.set i none)).set i (some (nestD L)))) = .nx e1 from q)
    exact ends_ok (s := b) h q1
  | .skip, _, _, h, _ => by cases h
  | .set _ _, _, _, h, _ => by cases h
  | .par _ _ _, _, _, h, _ => by cases h
  | .for_ _ _ _ _, _, _, h, _ => by cases h
  | .forK _ _ _, _, _, h, _ => by cases h
  | .while_ _ _, _, _, h, _ => by cases h
  | .drop _, _, _, h, _ => by cases h
  | .app _ _, _, _, h, _ => by cases h
  | .ext _ _, _, _, h, _ => by cases h

structure CtxS (X : Cx) (cl : Cls) (W : WX) (c : SC) (cal : Nat → List D → R D) : Prop extends CtxOk X cl W c cal where
  ps : PassesOwn (model X.prog X.w) X.A X.env X.xe
  xo : c.xt.on = true → XOk X.prog X.w X.K X.mg X.base cl c.xt
  rm : Room 2 X.A
  hs : X.stack = X.env :: X.outer
  hf : X.env.frame = some X.env.locals
theorem CtxS.tr {X : Cx} {cl : Cls} {W W' : WX} {c : SC} {cal : Nat → List D → R D} (k : CtxS X cl W c cal) {pn : List (Addr × Obj)} {xe : Value → Shared → Prop} (tk : L2N.Takes (X.tr pn xe) W') (ps : PassesOwn (model X.prog X.w) X.A X.env xe) : CtxS (X.tr pn xe) cl W' c cal :=
  { hN := k.hN, nd := k.nd, calm := k.calm, sc := k.sc, fn := k.fn, un := k.un, gd := k.gd, tk := tk, fs := k.fs, cs := k.cs, bt := k.bt, rg := k.rg, en := k.en, zp := k.zp, gc := k.gc, ps := ps, xo := k.xo, rm := k.rm, hs := k.hs, hf := k.hf }
def GoodS (X : Cx) (cl : Cls) (W : WX) (c : SC) (cal : Nat → List D → R D) (n : Nat) (o : Bool) (s : S) (fl : List Bool) : Sd → Prop
  | .s st => PS X st (tS X.K cl W o fl (flS c.fs s fl) (evS (c.cs.map (·.2)) cal n s))
  | .l sts => PSs X sts (tS X.K cl W o fl (flS c.fs s fl) (evS (c.cs.map (·.2)) cal n s))
abbrev MoS (cl : Cls) (cal : Nat → List D → R D) (n : Nat) (s : S) (fl : List Bool) (c : SC) (o : Bool) (d : Sd) : Prop := chkS s fl c o d = true → ∀ (X : Cx) (W : WX), CtxS X cl W c cal → GoodS X cl W c cal n o s fl d
section
variable {cl : Cls} {cal : Nat → List D → R D} {n : Nat} {fl : List Bool} {c : SC} {o : Bool}
theorem q_set {tg : T} {x : E} {t v : Expr} {pos : Pos} : MoS cl cal n (.set tg x) fl c o (.s (.Assign [t] v pos)) := fun h X W k => by
  obtain ⟨h, h3⟩ := and_of (show (!borE x && chk x c (.e v) && setT c tg x fl t v) = true from h)
  obtain ⟨h1, h2⟩ := and_of h
  have g := chk_ok x c (.e v) h2 X W k.toCtxOk
  unfold setT at h3
  split at h3
  · rename_i i y py
    obtain ⟨h3, h5⟩ := and_of h3
    obtain ⟨h3, h4⟩ := and_of h3
    have st := g.2.2.2 fl i y py pos h3 h4
    show PS X _ (tS X.K cl W o fl (if (ownE c.fs x && !borE x) = true then (dn (rds x) fl).set i true else (dn (rds x) fl).set i false) _)
    by_cases ho : (ownE c.fs x && !borE x) = true
    · rw [if_pos ho]
      exact st_setO (not_of' h1) (and_of ho).1 (by rw [dn_length]; exact of_decide_eq_true h5) st
    · rw [if_neg ho]
      exact st_setF (not_of' h1) st
  · rename_i n' ts t
    obtain ⟨h3, h7⟩ := and_of h3
    obtain ⟨h3, h6⟩ := and_of h3
    obtain ⟨h4, h5⟩ := and_of h3
    exact st_asg (not_of' h1) (g.1 fl) (chkT_ok k.toCtxOk h4 _) (sw_none (not_of' h5) _ _ _) (sw_no k.sc h6) (by rw [asgEach_ok h7]; rfl)
  · cases h3
theorem q_par {i j : Nat} {es : E} {x y : Str} {px py p1 p2 pos : Pos} {k1 k2 : Nat} {a b : Expr} : MoS cl cal n (.par i j es) fl c o (.s (.Assign [.Tuple [.Name x px, .Name y py] k1 p1] (.Tuple [a, b] k2 p2) pos)) := fun h X W k => by
  obtain ⟨h, h3⟩ := and_of (show (parOk c i j x y px py a b && !borE es && chk es c (.l [a, b])) = true from h)
  obtain ⟨h1, h2⟩ := and_of h
  have g := chk_ok es c (.l [a, b]) h3 X W k.toCtxOk
  have hw := sw_par (pt := p1) (pt2 := p2) (kt := k1) (k2 := k2) k.sc h1
  unfold parOk at h1
  simp only [Bool.and_eq_true, beq_iff_eq, bne_iff_ne, ne_eq, decide_eq_true_eq, Bool.not_eq_true'] at h1
  obtain ⟨⟨⟨⟨⟨⟨⟨⟨⟨⟨⟨e1, e2⟩, e3⟩, e4⟩, e5⟩, e6⟩, e7⟩, e8⟩, e9⟩, e10⟩, e11⟩, e12⟩ := h1
  exact st_par k.calm (by rw [k.hN]; exact k.nd) (by rw [k.hN]; exact e2) (by rw [k.hN]; exact e3) e1 (by rw [k.sc]; exact e4) (by rw [k.sc]; exact e5) (noBorA (g.1 fl) (not_of' h2)) hw
theorem q_ite {t : E} {a b : S} {e : Expr} {sa sb : List Stmt} {pos : Pos} (iha : MoS cl cal n a (dn (rds t) fl) c o (.l sa)) (ihb : MoS cl cal n b (dn (rds t) fl) c o (.l sb)) : MoS cl cal n (.ite t a b) fl c o (.s (.If e sa sb pos)) := fun h X W k => by
  obtain ⟨h, h3⟩ := and_of (show (chk t c (.e e) && chkS a (dn (rds t) fl) c o (.l sa) && chkS b (dn (rds t) fl) c o (.l sb)) = true from h)
  obtain ⟨h1, h2⟩ := and_of h
  have g := chk_ok t c (.e e) h1 X W k.toCtxOk
  have hl : (flS c.fs a (dn (rds t) fl)).length = (flS c.fs b (dn (rds t) fl)).length := by rw [flS_length, flS_length]
  refine st_ite (g.2.1 fl) (iha h2 X W k) (ihb h3 X W k) (fun s s1 q => ?_) (fun s s1 q => ?_)
  · intro G0 B G σ H sr
    unfold flS
    split
    · rename_i he
      exact absurd q (ends_ok he)
    · split
      · exact ⟨G, Same.refl G, sr⟩
      · exact sr.meetL hl
  · intro G0 B G σ H sr
    unfold flS
    split
    · exact ⟨G, Same.refl G, sr⟩
    · split
      · rename_i he
        exact absurd q (ends_ok he)
      · exact sr.meetR hl
theorem q_for {k : ItK} {src : E} {tg : T} {body : S} {t it : Expr} {sb : List Stmt} {pos : Pos} (ih : MoS cl cal n body (dn (tg.slots ++ tch body) (dn (rds src) fl)) c o (.l sb)) : MoS cl cal n (.for_ k src tg body) fl c o (.s (.For t it sb [] pos)) := fun h X W kx => by
  obtain ⟨h, h4⟩ := and_of (show (itOk c k t it (borE src) (fun n => chk src c n) && !borE src && chkT c tg t && chkS body (dn (tg.slots ++ tch body) (dn (rds src) fl)) c o (.l sb)) = true from h)
  obtain ⟨h, h3⟩ := and_of h
  obtain ⟨h1, h2⟩ := and_of h
  obtain ⟨hi, hs⟩ := it_ok (tg := t) kx.toCtxOk (fun nd => chk_ok src c nd) h1
  have hi2 := pi_dn (tg.slots ++ tch body) (hi fl)
  rw [not_of' h2] at hi2
  exact st_for (L := tg.slots ++ tch body) kx.ps kx.calm hi2 (chkT_ok kx.toCtxOk h3 _) (ih h4 X W kx) (hs X.env) (dn_dn fun i hi => by simp [hi]) (by rw [dn_flS c.fs body _ fun i hi => by simp [hi]]; exact dn_dn fun i hi => hi)
theorem ps_dn {X : Cx} {W : WX} {o : Bool} {st : Stmt} {flo : List Bool} {f : Sg → O} (is : List Nat) (h : PS X st (tS X.K cl W o (dn is fl) flo f)) : PS X st (tS X.K cl W o fl flo f) :=
  h.imp fun D σ H ⟨G0, B, G, e, sr, p⟩ => by
    obtain ⟨G', g, sr'⟩ := sr.dn is
    exact ⟨G0, B, G', e, sr', p.grow g⟩
theorem q_forK {i : Nat} {tg : T} {body : S} {t : Expr} {y : Str} {yp pos : Pos} {sb : List Stmt} (ih : MoS cl cal n body (dn (i :: (tg.slots ++ tch body)) fl) c o (.l sb)) : MoS cl cal n (.forK i tg body) fl c o (.s (.For t (.Name y yp) sb [] pos)) := fun h X W kx => by
  obtain ⟨h, h3⟩ := and_of (show (c.vis i y && chkT c tg t && chkS body (dn (i :: (tg.slots ++ tch body)) fl) c o (.l sb)) = true from h)
  obtain ⟨h1, h2⟩ := and_of h
  have hf : (dn (i :: (tg.slots ++ tch body)) fl)[i]? ≠ some true := by
    rw [dn_get, if_pos List.mem_cons_self]
    cases fl[i]? <;> simp
  have b := ih h3 X W kx
  have st := st_forK (a := .Name y yp) (L := i :: (tg.slots ++ tch body)) (pos := pos) (own := o) kx.ps kx.calm hf (vis_ok kx.toCtxOk h1) (chkT_ok kx.toCtxOk h2 _) b (fun x => rfl) (dn_dn fun i hi => by simp [hi]) (by rw [dn_flS c.fs body _ fun i hi => by simp [hi]]; exact dn_dn fun i hi => hi)
  exact ps_dn _ (st_locked hf st)
theorem q_while {t : E} {body : S} {e : Expr} {sb : List Stmt} {pos : Pos} (ih : MoS cl cal n body (dn (rds t ++ tch body) fl) c o (.l sb)) : MoS cl cal n (.while_ t body) fl c o (.s (.While e sb [] pos)) := fun h X W k => by
  obtain ⟨h1, h2⟩ := and_of (show (chk t c (.e e) && chkS body (dn (rds t ++ tch body) fl) c o (.l sb)) = true from h)
  have g := (chk_ok t c (.e e) h1 X W k.toCtxOk).2.1 (dn (rds t ++ tch body) fl)
  rw [dn_dn fun i hi => by simp [hi]] at g
  exact st_while (L := rds t ++ tch body) k.ps g (ih h2 X W k) rfl (by rw [dn_flS c.fs body _ fun i hi => by simp [hi]]; exact dn_dn fun i hi => hi)
theorem q_ret {x : E} {e : Expr} {pos : Pos} : MoS cl cal n (.ret x) fl c o (.s (.Return (some e) pos)) := fun h X W k => by
  obtain ⟨h1, h2⟩ := and_of (show (retOk c o fl x && chk x c (.e e)) = true from h)
  have gen : (!borE x && (!o || ownE c.fs x)) = true → GoodS X cl W c cal n o (.ret x) fl (.s (.Return (some e) pos)) := fun h1 => by
    obtain ⟨h3, h4⟩ := and_of h1
    have g := chk_ok x c (.e e) h2 X W k.toCtxOk
    refine st_ret (not_of' h3) (fun ho => ?_) (g.1 fl)
    rw [ho] at h4
    exact h4
  cases x with
  | bor i =>
    cases e with
    | Name y p => exact st_retB (eq_of_beq h1) (vis_ok k.toCtxOk h2)
    | _ => cases h2
  | _ => exact gen h1
theorem q_drop {x : E} {e : Expr} {pos : Pos} : MoS cl cal n (.drop x) fl c o (.s (.Expr e pos)) := fun h X W k => by
  obtain ⟨h1, h2⟩ := and_of (show (chk x c (.e e) && !isComp e) = true from h)
  exact st_drop ((chk_ok x c (.e e) h1 X W k.toCtxOk).1 fl) (sw_none (not_of' h2) _ _ _)
theorem q_app {i : Nat} {x : E} {y m : Str} {yp ap cp pos : Pos} {v : Expr} : MoS cl cal n (.app i x) fl c o (.s (.Expr (.Call (.Attribute (.Name y yp) m ap) [v] [] cp) pos)) := fun h X W k => by
  obtain ⟨h, h3⟩ := and_of (show (m == "append" && appOk c i x fl y v ap cp && chk x c (.e v)) = true from h)
  obtain ⟨h1, h2⟩ := and_of h
  cases eq_of_beq h1
  unfold appOk at h2
  obtain ⟨h2, e6⟩ := and_of h2
  obtain ⟨h2, e5⟩ := and_of h2
  obtain ⟨h2, e4⟩ := and_of h2
  obtain ⟨h2, e3⟩ := and_of h2
  obtain ⟨e1, e2⟩ := and_of h2
  exact st_app (vis_ok k.toCtxOk e1) (noBor ((chk_ok x c (.e v) h3 X W k.toCtxOk).1 fl) (not_of' e4)) (eq_of_beq e2) (eq_of_beq e3) e5 e6
theorem q_ext {i : Nat} {x : E} {y m : Str} {yp ap cp pos : Pos} {v : Expr} : MoS cl cal n (.ext i x) fl c o (.s (.Expr (.Call (.Attribute (.Name y yp) m ap) [v] [] cp) pos)) := fun h X W k => by
  obtain ⟨h, h3⟩ := and_of (show (m == "extend" && appOk c i x fl y v ap cp && chk x c (.e v)) = true from h)
  obtain ⟨h1, h2⟩ := and_of h
  cases eq_of_beq h1
  unfold appOk at h2
  obtain ⟨h2, e6⟩ := and_of h2
  obtain ⟨h2, e5⟩ := and_of h2
  obtain ⟨h2, e4⟩ := and_of h2
  obtain ⟨h2, e3⟩ := and_of h2
  obtain ⟨e1, e2⟩ := and_of h2
  exact st_ext (vis_ok k.toCtxOk e1) (noBor ((chk_ok x c (.e v) h3 X W k.toCtxOk).1 fl) (not_of' e4)) (eq_of_beq e2) (eq_of_beq e3) e5 e6
theorem q_put {i : Nat} {k v : E} {y : Str} {yp sp pos : Pos} {kx vx : Expr} : MoS cl cal n (.put i k v) fl c o (.s (.Assign [.Subscript (.Name y yp) kx sp] vx pos)) := fun h X W kc => by
  obtain ⟨h, h3⟩ := and_of (show (putOk c i k v fl y kx vx && chk v c (.e vx) && chk k c (.e kx)) = true from h)
  obtain ⟨h1, h2⟩ := and_of h
  unfold putOk at h1
  obtain ⟨h1, e7⟩ := and_of h1
  obtain ⟨h1, e6⟩ := and_of h1
  obtain ⟨h1, e5⟩ := and_of h1
  obtain ⟨h1, e4⟩ := and_of h1
  obtain ⟨h1, e3⟩ := and_of h1
  obtain ⟨e1, e2⟩ := and_of h1
  exact st_put kc.un (vis_ok kc.toCtxOk e1) (noBor ((chk_ok v c (.e vx) h2 X W kc.toCtxOk).1 fl) (not_of' e4)) (noBor ((chk_ok k c (.e kx) h3 X W kc.toCtxOk).1 _) (not_of' e5)) (plain_ok e6) (eq_of_beq e2) (eq_of_beq e3) (sw_none (not_of' e7) _ _ _)
theorem q_puti {i : Nat} {k v : E} {y : Str} {yp sp pos : Pos} {kx vx : Expr} : MoS cl cal n (.puti i k v) fl c o (.s (.Assign [.Subscript (.Name y yp) kx sp] vx pos)) := fun h X W kc => by
  obtain ⟨h, h3⟩ := and_of (show (putOk c i k v fl y kx vx && chk v c (.e vx) && chk k c (.e kx)) = true from h)
  obtain ⟨h1, h2⟩ := and_of h
  unfold putOk at h1
  obtain ⟨h1, e7⟩ := and_of h1
  obtain ⟨h1, e6⟩ := and_of h1
  obtain ⟨h1, e5⟩ := and_of h1
  obtain ⟨h1, e4⟩ := and_of h1
  obtain ⟨h1, e3⟩ := and_of h1
  obtain ⟨e1, e2⟩ := and_of h1
  exact st_puti e6 (vis_ok kc.toCtxOk e1) (noBor ((chk_ok v c (.e vx) h2 X W kc.toCtxOk).1 fl) (not_of' e4)) (noBor ((chk_ok k c (.e kx) h3 X W kc.toCtxOk).1 _) (not_of' e5)) (eq_of_beq e2) (eq_of_beq e3) (sw_none (not_of' e7) _ _ _)
theorem q_raise {cn y : Str} {x : E} {v : Expr} {p0 p1 p2 : Pos} : MoS cl cal n (.raise cn x) fl c o (.s (.Raise (some (.Call (.Name y p0) [v] [] p1)) none p2)) := fun h X W k => by
  obtain ⟨h, h7⟩ := and_of (show (y == cn && c.xt.on && c.xt.cls.contains cn && c.gl cn && noStar v && !borE x && chk x c (.e v)) = true from h)
  obtain ⟨h, h6⟩ := and_of h
  obtain ⟨h, h5⟩ := and_of h
  obtain ⟨h, h4⟩ := and_of h
  obtain ⟨h, h3⟩ := and_of h
  obtain ⟨h1, h2⟩ := and_of h
  cases eq_of_beq h1
  obtain ⟨g, d⟩ := gl_ok k.toCtxOk h4
  exact st_raise (k.xo h2) h3 k.calm k.tk k.rm g d (noBor ((chk_ok x c (.e v) h7 X W k.toCtxOk).1 fl) (not_of' h6)) (noStar_ok h5 _ _)
theorem q_try {i : Nat} {cls : List Str} {ws : List (Str × Str)} {body : S} {sb : List Stmt} {b m f y : Str} {np q1 q2 q3 q4 q5 pos : Pos} (ih : MoS cl cal n body fl c o (.l sb)) :
    MoS cl cal n (.tryN i cls ws body) fl c o (.s (.Try sb [.ExceptHandler (some (.Name b np)) (some m) [.Return (some (.Call (.Name f q1) [.Name y q2] [] q3)) q4] q5] [] [] pos)) := fun h X W k => by
  obtain ⟨h, hb⟩ := and_of (show (tryOk c i cls ws b m f y && chkS body fl c o (.l sb)) = true from h)
  unfold tryOk at h
  simp only [Bool.and_eq_true, beq_iff_eq] at h
  obtain ⟨⟨⟨⟨⟨⟨⟨⟨⟨e1, e2⟩, e3⟩, e4⟩, e5⟩, e6⟩, e7⟩, e8⟩, e9⟩, e10⟩ := h
  subst e1 e2 e3 e4
  exact st_try (c := c) (k.xo e5) ⟨k.hN, k.sc, k.fn⟩ k.nd k.tk k.rm k.hs k.hf e9 e10 e6 e7 e8 fun W' pn xe tk ps => ih hb _ W' (k.tr tk ps)
abbrev MoN (cl : Cls) (cal : Nat → List D → R D) (i : Nat) (nb : NB) (c : SC) (st : Stmt) : Prop := chkN i nb c st = true → ∀ (fl : List Bool), (∀ q : Nat, fl[q]? ≠ some true) → ∀ (X : Cx) (W : WX), CtxS X cl W c cal → PS X st (tN X.K fl i nb.slots (evN (c.cs.map (·.2)) cal i nb))
theorem qn_ext {i : Nat} {ix x : E} {y m : Str} {yp sp ap cp pos : Pos} {kx v : Expr} : MoN cl cal i (.ext ix x) c (.Expr (.Call (.Attribute (.Subscript (.Name y yp) kx sp) m ap) [v] [] cp) pos) := fun h fl hf X W k => by
  obtain ⟨h, h7⟩ := and_of (show (m == "extend" && c.vis i y && noSlice kx && noStar v && ap.endLine == cp.line && chk ix c (.e kx) && chk x c (.e v)) = true from h)
  obtain ⟨h, h6⟩ := and_of h
  obtain ⟨h, h5⟩ := and_of h
  obtain ⟨h, h4⟩ := and_of h
  obtain ⟨h, h3⟩ := and_of h
  obtain ⟨h1, h2⟩ := and_of h
  cases eq_of_beq h1
  have g1 := (chk_ok ix c _ h6 X W k.toCtxOk).1 fl
  have g2 := (chk_ok x c _ h7 X W k.toCtxOk).1 fl
  rw [dn_F hf] at g1 g2
  exact n_ext hf (vis_ok k.toCtxOk h2) g1 g2 h3 h4 h5
theorem qn_for {i : Nat} {k : ItK} {src : E} {tg : T} {b : NB} {t it : Expr} {s : Stmt} {pos : Pos} (ih : MoN cl cal i b c s) : MoN cl cal i (.loop k src tg b) c (.For t it [s] [] pos) := fun h fl hf X W kx => by
  obtain ⟨h, h5⟩ := and_of (show (itOk c k t it (borE src) (fun n => chk src c n) && !borE src && chkT c tg t && !tg.slots.contains i && chkN i b c s) = true from h)
  obtain ⟨h, h4⟩ := and_of h
  obtain ⟨h, h3⟩ := and_of h
  obtain ⟨h1, h2⟩ := and_of h
  obtain ⟨hi, hs⟩ := it_ok (tg := t) kx.toCtxOk (fun nd => chk_ok src c nd) h1
  have hi2 := hi fl
  rw [dn_F hf, not_of' h2] at hi2
  exact n_for hf kx.ps kx.calm hi2 (chkT_ok kx.toCtxOk h3 _) (ih h5 fl hf X W kx) (hs X.env) (fun z => by
    have h4 := not_of' h4
    rw [List.contains_iff_mem.mpr z] at h4
    cases h4)
theorem chkN_ok (i : Nat) (nb : NB) (c : SC) (st : Stmt) : MoN cl cal i nb c st := by
  induction nb, c, st using chkN.induct with
  | case1 => exact qn_ext
  | case2 k src tg b c t it s pos ih => exact qn_for ih
  | case3 nb c st h1 h2 =>
    intro h
    rw [chkN.eq_3 i nb c st (by assumption) (by assumption)] at h
    cases h
theorem q_nest {i : Nat} {k : ItK} {src : E} {j : Nat} {own : List Nat} {nb : NB} {rest : S} {y : Str} {py lp pos spos : Pos} {t it : Expr} {scope : Scope} {st2 : Stmt} {more : List Stmt} (ih : MoS cl cal n rest (dn (nestT i src own nb) fl) c o (.l more)) :
    MoS cl cal n (.nest i k src j own nb rest) fl c o (.l (.Assign [.Name y py] (.ListComp (.List [] lp) [⟨t, it, [], 0⟩] scope pos) spos :: st2 :: more)) := fun h X W kx => by
  obtain ⟨h, h3⟩ := and_of (show (nestOk c i k src j own nb fl y py lp t it scope pos && chkN i nb c st2 && chkS rest (dn (nestT i src own nb) fl) c o (.l more)) = true from h)
  obtain ⟨h, h2⟩ := and_of h
  unfold nestOk at h
  obtain ⟨h, e9⟩ := and_of h
  obtain ⟨h, e8⟩ := and_of h
  obtain ⟨h, e7⟩ := and_of h
  obtain ⟨h, e6⟩ := and_of h
  obtain ⟨h, e5⟩ := and_of h
  obtain ⟨h, e4⟩ := and_of h
  obtain ⟨h, e3⟩ := and_of h
  obtain ⟨e1, e2⟩ := and_of h
  have hf : ∀ q : Nat, (dn (nestT i src own nb) fl)[q]? ≠ some true := fun q z => by
    have e8 := not_of' e8
    rw [List.contains_iff_mem.mpr (List.mem_iff_getElem?.mpr ⟨q, z⟩)] at e8
    cases e8
  obtain ⟨hi, hs⟩ := it_ok (tg := t) kx.toCtxOk (fun nd => chk_ok src c nd) e1
  have hi2 := pi_dn (own ++ (i :: nb.tch)) (hi fl)
  rw [not_of' e2, ← dn_app] at hi2
  have hi2 : PI X t it (tI X.K cl W fl (dn (nestT i src own nb) fl) false fun e => ((evE (c.cs.map (·.2)) cal src e).bind unL).bind (itD k)) := hi2
  have hN : X.N.Nodup := by rw [kx.hN]; exact kx.nd
  have blk := blkOk_ok kx.toCtxOk e3
  have hg := fun s H C cc fp => chkT_ok (kx.toCtxOk.blk s H scope cc C fp) e5 (dn (nestT i src own nb) fl)
  obtain ⟨l1, l2, l3⟩ := loc_ok kx.toCtxOk e6
  have st1 : PS X (.Assign [.Name y py] (.ListComp (.List [] lp) [⟨t, it, [], 0⟩] scope pos) spos) (tAsg (tLc (tI X.K cl W fl (dn (nestT i src own nb) fl) false fun e => ((evE (c.cs.map (·.2)) cal src e).bind unL).bind (itD k)) (gD X.K (dn (nestT i src own nb) fl) (.nm j)) tYes (tLst tNil) own) (gName i)) := by
    rw [← ownN_map c.N own]
    rcases lc_sw kx.toCtxOk y py spos.line e7 with ⟨q1, q2⟩ | q2
    · exact ps_setLc kx.calm hN l1 q1 q2 (by rw [ownN_map]; exact hi2) blk (fun s H C cc fp => by rw [ownN_map]; exact hg s H C cc fp) (fun s H C cc fp => pts_nil) (fun s H C cc fp => pe_lst pa_nil) (hs X.env)
    · exact ps_set hN l1 l2 (pe_lc kx.calm hN (by rw [ownN_map]; exact hi2) blk (fun s H C cc fp => by rw [ownN_map]; exact hg s H C cc fp) (fun s H C cc fp => pts_nil) (fun s H C cc fp => pe_lst pa_nil) (hs X.env)) q2 l3
  exact n_top hf (List.contains_iff_mem.mp e4) (fun z => by
    have e9 := not_of' e9
    rw [List.contains_iff_mem.mpr z] at e9
    cases e9) st1 (chkN_ok i nb c st2 h2 _ hf X W kx) (ih h3 X W kx)
end
theorem chkS_ok {cl : Cls} {cal : Nat → List D → R D} {n : Nat} (s : S) (fl : List Bool) (c : SC) (o : Bool) (d : Sd) : MoS cl cal n s fl c o d := by
  induction s, fl, c, o, d using chkS.induct with
  | case1 => exact fun h X W k => st_skip
  | case2 => exact fun h X W k => ps_pass.imp fun D σ H ⟨G0, B, G, e, sr, p⟩ => p G σ H (Same.refl G) sr
  | case3 a b fl c o st rest iha ihb =>
    intro h X W k
    obtain ⟨h1, h2⟩ := and_of (show (chkS a fl c o (.s st) && chkS b (flS c.fs a fl) c o (.l rest)) = true from h)
    exact st_seq (iha h1 X W k) (ihb h2 X W k)
  | case4 => exact q_set
  | case5 => exact q_par
  | case6 t a b fl c o e sa sb pos iha ihb => exact q_ite iha ihb
  | case7 k src tg body fl c o t it sb pos ih => exact q_for ih
  | case8 t body fl c o e sb pos ih => exact q_while ih
  | case9 => exact q_ret
  | case10 => exact q_drop
  | case11 => exact q_app
  | case12 => exact q_ext
  | case13 fl c o d =>
    intro h X W k
    cases d with
    | s st => exact st_stop
    | l sts => exact sts_stop
  | case14 => exact q_put
  | case15 => exact q_puti
  | case16 => exact q_raise
  | case17 i cls ws body fl c o sb b np n f p y p2 p3 p4 p5 p6 ih => exact q_try ih
  | case18 i k src j own nb rest fl c o y py lp t it scope pos spos st2 more ih => exact q_nest ih
  | case19 i tg body fl c o t y yp sb pos ih => exact q_forK ih
  | case20 t fl c o d h1 h2 h3 h4 h5 h6 h7 h8 h9 h10 h11 h12 h13 h14 h15 h16 h17 h18 h19 =>
    intro h
    rw [chkS.eq_20 t fl c o d (by assumption) (by assumption) (by assumption) (by assumption) (by assumption) (by assumption) (by assumption) (by assumption) (by assumption) (by assumption) (by assumption) (by assumption) (by assumption) (by assumption) (by assumption) (by assumption) (by assumption) (by assumption) (by assumption)] at h
    cases h
end Mt
/-! Part R: defs. -/
namespace Mt
open PySem PySem.Spec PyProof.Rows L2

/-! ### binding: plain parameters, each given -/
def plainArgs (a : Arguments) (ps : List Str) : Bool := a.posonlyargs.isEmpty && a.args.map (·.arg) == ps && a.vararg.isNone && a.kwonlyargs.isEmpty && a.kwarg.isNone
theorem zip_look : ∀ {ps : List Str} {us : List Value}, us.length = ps.length → ∀ n ∈ ps, ((ps.zip us).lookup n).isSome = true
  | p :: ps, u :: us, hl, n, hn => by
    rw [List.zip_cons_cons, List.lookup_cons]
    cases h : n == p with
    | true => rfl
    | false =>
      have hn' : n ∈ ps := by
        rcases List.mem_cons.mp hn with e | e
        · rw [e] at h
          simp at h
        · exact e
      exact zip_look (by simpa using hl) n hn'
  | p :: ps, [], hl, n, hn => by simp at hl
theorem fm_congr {α β : Type} {f g : α → Option β} : ∀ {l : List α}, (∀ x ∈ l, f x = g x) → l.filterMap f = l.filterMap g
  | [], _ => rfl
  | x :: l, h => by
    rw [List.filterMap_cons, List.filterMap_cons, h x (by simp), fm_congr fun y hy => h y (by simp [hy])]
theorem zip_bind : ∀ {ps : List Str} {us : List Value}, ps.Nodup → us.length = ps.length → (ps.filterMap fun n => ((ps.zip us).lookup n).map (n, ·)) = ps.zip us
  | [], _, _, _ => by simp
  | p :: ps, [], _, hl => by simp at hl
  | p :: ps, u :: us, nd, hl => by
    rw [List.nodup_cons] at nd
    rw [List.zip_cons_cons, List.filterMap_cons, List.lookup_cons, beq_self_eq_true]
    have e : (ps.filterMap fun n => (((p, u) :: ps.zip us).lookup n).map (n, ·)) = ps.filterMap fun n => ((ps.zip us).lookup n).map (n, ·) := by
      refine fm_congr fun n hn => ?_
      have h : (n == p) = false := by
        have : n ≠ p := fun z => nd.1 (z ▸ hn)
        simpa using this
      rw [List.lookup_cons, h]
    rw [e, zip_bind nd.2 (by simpa using hl)]
    rfl
theorem bind_plain {x qual : Str} {params : Arguments} {body : List Stmt} {scope : Scope} {kV doc pm : Value} {an : Option Addr} {cdv ct : Value} {ps : List Str} (hp : plainArgs params ps = true) (nd : ps.Nodup) {us : List Value} (hl : us.length = ps.length) :
    bindArgs (PySem.W.fnOf x qual params body scope .none kV doc pm an cdv ct) ⟨us, []⟩ = pure (ps.zip us) := by
  obtain ⟨po, ar, va, ko, kd, kw, df⟩ := params
  unfold plainArgs at hp
  simp only [Bool.and_eq_true, List.isEmpty_iff, beq_iff_eq, Option.isNone_iff_eq_none] at hp
  obtain ⟨⟨⟨⟨h1, h2⟩, h3⟩, h4⟩, h5⟩ := hp
  subst h1 h3 h4 h5
  have hm : (ps.filter fun n => ((ps.zip us).lookup n).isNone) = [] := by
    rw [List.filter_eq_nil_iff]
    intro n hn
    have := zip_look hl n hn
    rw [Option.isSome_iff_ne_none] at this
    simpa using this
  unfold bindArgs PySem.W.fnOf
  simp only [List.map_nil, List.nil_append, List.append_nil, h2]
  have hs : seqItems? Value.none = pure none := rfl
  have hg : decide (us.length > ps.length) = false := decide_eq_false (by omega)
  rw [List.forIn_nil, hs]
  simp only [pure_bind, Option.getD_none, List.toList_toArray, List.length_nil, List.drop_nil, Nat.sub_zero, List.take_length, hg, hm, Bool.false_and, Bool.false_eq_true, if_false, List.isEmpty_nil, Bool.not_true, List.drop_length, List.zip_nil_left, List.forIn_nil, zip_bind nd hl]

/-! ### the defs of a text -/
def sigs (fs : List Fn) : List (Str × Nat × Bool) := fs.map fun f => (f.name, f.pars, f.own)
def scF (gc : Bool) (xt : XT) (cs : List (Str × D)) (fs : List Fn) (f : Fn) (scope : Scope) : SC := ⟨f.slots, scope, fun _ => true, cs, sigs fs, gc, xt⟩
def fnChk (gc : Bool) (xt : XT) (cs : List (Str × D)) (fs : List Fn) (f : Fn) (d : He.DefD) : Bool :=
  nodupB f.slots && decide (d.scope.kind = .function) && !d.scope.isCoroutine && !d.scope.isGenerator && decide (f.pars ≤ f.slots.length) &&
    (f.slots.take f.pars).all (fun x => d.scope.names.lookup x == some .local || d.scope.names.lookup x == some .cell) && d.scope.names.all (fun y => !(y.2 == .free)) && plainArgs d.params (f.slots.take f.pars) &&
    chkS f.body (List.replicate f.slots.length false) (scF gc xt cs fs f d.scope) f.own (.l d.body)
structure FnTab (gc : Bool) (xt : XT) (K : PySem.W.Frag) (mg : Str → Option Value) (cs : List (Str × D)) (fs : List Fn) : Prop where
  fn : ∀ (j : Nat) f, fs[j]? = some f → ∃ (d : He.DefD) (fa : Addr) (fd : FuncData), fnChk gc xt cs fs f d = true ∧ mg f.name = some (.ref fa) ∧ FunD K d.name d.qual d.params d.body d.scope [] [] fa fd
  cs : ∀ (j : Nat) (x : Str) d, cs[j]? = some (x, d) → ∃ v u, mg x = some u ∧ RelV v u ∧ ∀ G, Rp K G v d
  bt : ∀ b : Blt, mg b.nm = none
  rg : mg "range" = none
  en : mg "enumerate" = none
  zp : mg "zip" = none
  gc : gc = true → mg "gcd" = some (.builtin "math.gcd")
theorem O.end_nx {o : O} {d : D} (h : o.end_ = .ok d) : (∃ e, o = .nx e ∧ d = .none) ∨ o = .rt d := by
  cases o with
  | nx e => cases h; exact .inl ⟨e, rfl, rfl⟩
  | rt d => cases h; exact .inr rfl
  | ex c a e => cases h
  | stk => cases h
theorem callN_len {fs : List Fn} {csv : List D} {n k j : Nat} {f : Fn} (hf : fs[j]? = some f) (ds : List D) : (∀ d, callN fs csv n k j ds = .ok d → ds.length = f.pars) ∧ ∀ c a, callN fs csv n k j ds = .exc c a → ds.length = f.pars := by
  cases k with
  | zero => exact ⟨(fun d h => by cases h), (fun c a h => by cases h)⟩
  | succ k =>
    have e : callN fs csv n (k + 1) j ds = runF csv n (callN fs csv n k) f ds := by
      show (match fs[j]? with | some f => runF csv n (callN fs csv n k) f ds | none => .stuck) = _
      rw [hf]
    rw [e]
    unfold runF
    cases hb : ds.length == f.pars with
    | true => exact ⟨fun _ _ => eq_of_beq hb, fun _ _ _ => eq_of_beq hb⟩
    | false => exact ⟨(fun d h => by cases h), (fun c a h => by cases h)⟩
theorem RpL.get2 {K : PySem.W.Frag} {G : Hp} {vs : List V} {ds : List D} (r : RpL K G vs ds) {m : Nat} {i : Nat} {d : D} (h : (ds.map some ++ List.replicate m none)[i]? = some (some d)) :
    ∃ v, (vs.map some ++ List.replicate m none)[i]? = some (some v) ∧ Rp K G v d := by
  by_cases hi : i < ds.length
  · rw [List.getElem?_append_left (by simpa using hi), List.getElem?_map] at h
    have hv : i < vs.length := by rw [r.length]; exact hi
    obtain ⟨d', h1, h2⟩ := r.get (i := i) (v := vs[i]) (by simp [hv])
    rw [h1] at h
    cases h
    exact ⟨vs[i], by rw [List.getElem?_append_left (by simpa using hv), List.getElem?_map]; simp [hv], h2⟩
  · rw [List.getElem?_append_right (by simpa using hi)] at h
    rw [List.getElem?_replicate] at h
    split at h <;> cases h
/-- a def's body, at its entry -/
theorem body_run {K : PySem.W.Frag} {cl : Cls} {own : Bool} {N : List Str} {n : Nat} {f : Sg → O} {flo : List Bool} {vs : List V} {ds : List D} {G H : Hp} {Q : VK} {E : XK} (g : Same G H) (r : RpL K G vs ds) (hn : vs.length = n)
    (h : match (f (ds.map some ++ List.replicate (N.length - n) none)).end_ with
      | .ok d => ∀ G' H' v, Same G G' → (∀ p, G p = none → Hard H p → G' p = none) → Same G' H' → Same H H' → (if own = true then Own K H G' H' v d else Rp K G' v d) → Q v H'
      | .exc c a => ∀ G' H' dd va, Same G G' → (∀ p, G p = none → Hard H p → G' p = none) → Same G' H' → Same H H' → H' dd = some (.xd [(Str.ofString "at", va)]) → Rp K G' va a → E (cl c) (some dd) H'
      | .stuck => False) :
    tS K cl (fun cls d _ H => E cls d H) own (List.replicate N.length false) flo f { nx := fun _ H' => Q .non H', rt := Q } (L2.start N vs) H := by
  have fls : ∀ i : Nat, (List.replicate N.length false)[i]? ≠ some true := fun i z => by
    rw [List.getElem?_replicate] at z
    split at z <;> cases z
  refine ⟨G, H, G, ds.map some ++ List.replicate (N.length - n) none, ⟨Same.refl G, g, Same.refl H, fun p h _ => h, ?_, fun i d hd _ => ?_, fun i d hd f => absurd f (fls i), fun i j d d' p _ f => absurd f (fls i)⟩, ?_⟩
  · unfold L2.start
    simp [← hn, r.length]
  · unfold L2.start
    rw [hn]
    exact r.get2 hd
  · generalize hF : f (ds.map some ++ List.replicate (N.length - n) none) = o at h ⊢
    cases o with
    | nx e1 =>
      intro G' σ' H' gg sr
      refine h G' H' .non gg sr.nw sr.gh sr.bh ?_
      split
      · unfold Own
        rw [if_neg (by decide)]
        exact .non
      · exact .non
    | rt d => exact h
    | ex c a e1 => exact fun G' σ' H' dd va gg sr hd hv => h G' H' dd va gg sr.nw sr.gh sr.bh hd hv
    | stk => exact h.elim
/-- a def by its body (as fn_of, where no container is being shown) -/
theorem fnG_of {C : CXT} {P : Program} {w : World} {K : PySem.W.Frag} {mg : Str → Option Value} {base : Heap} {k : Nat} {f : Addr} {x qual : Str} {params : Arguments} {body : List Stmt} {scope : Scope} {fd : FuncData} {N ps : List Str} {sp : Sp}
    (F : FunD K x qual params body scope [] [] f fd) (S : FnScope N ps scope) (len : ∀ vs H Q E, sp vs H Q E → vs.length = ps.length)
    (bod : ∀ (cdv : Value) (A : Around) (outer : List Env) (s : Shared) (H : Hp) (vs : List V) (Q : VK) (E : XK), Room k (A.deeper (envOfC qual scope s.heap.objs.size f cdv)) → A.guards = some [] → sp vs H Q E →
      ∃ t, PSs (cxOf C P w K mg base N qual scope f cdv A outer s H E) body t ∧ t { nx := fun _ H' => Q .non H', rt := Q } (L2.start N vs) H) : FnG P w K mg base C (k + 1) f fd ps sp := by
  obtain ⟨oc, od, dV, kV, doc, pm, an, cdv, ct, osl, rfl, lk, cd, _, _⟩ := F.ex
  refine ⟨fun h => len _ _ _ _ h, ?_⟩
  intro A outer s H args us vs Q E room gd e0 bt rel hs
  have n := len vs H Q E hs
  have kin : K.In s.heap := e0.mod.kin.keeps fun b o e => (e0.bs b o e).1
  have nolim := e0.mod.nolimit.keeps fun b o e => (e0.bs b o e).1
  have kinds : ∀ y ∈ ps.zip us, scope.names.lookup y.1 = some .local ∨ (scope.names.lookup y.1 = some .cell ∧ ((cellsFrom (s.heap.objs.size + 1) scope.names []).lookup y.1).isSome = true) := by
    rintro ⟨y, u⟩ hy
    cases S.par y (List.of_mem_zip hy).1 with
    | inl q => exact Or.inl q
    | inr q => exact Or.inr ⟨q, PySem.W.cellsFrom_some _ _ _ (Or.inl q)⟩
  apply codeAny_call_function room.depth (kin _ _ lk) rfl S.co S.gen rfl (PySem.W.codeRec_of kin cd)
  apply bt
  apply wpAny_newFunctionEnv_cells S.kind kinds
  rintro env rfl s1 inn
  refine ⟨nolim.keeps inn.toInCall.keep, codeAny_func ?_⟩
  obtain ⟨t, rd, q⟩ := bod cdv A outer s H vs Q E (room.deeper _) gd hs
  have I := inv_start (CX := C) (E := E) S room.hd e0 n rel inn
  refine wpAny_mono (rd.run [] s1 _ H _ I q) ?_ fun e s' z => z
  intro fl s' z
  match fl, z with
  | .ret u, ⟨v, _, H', J, rv, qq⟩ => exact ⟨v, H', J.os, J.bare, J.base, J.hok, rv, qq⟩
  | .next, ⟨_, H', J, qq⟩ => exact ⟨V.non, H', J.os, J.bare, J.base, J.hok, rfl, qq⟩
  | .brk, ⟨_, _, _, qq⟩ => exact qq.elim
  | .cont, ⟨_, _, _, qq⟩ => exact qq.elim
def FnAt (P : Program) (w : World) (K : PySem.W.Frag) (mg : Str → Option Value) (base : Heap) (cl : Cls) (cs : List (Str × D)) (fs : List Fn) (n k : Nat) (j : Nat) (f : Fn) (fa : Addr) (fd : FuncData) : Prop :=
  mg f.name = some (.ref fa) ∧ PySem.W.keepIn K (.ref fa) = true ∧ Binds K fd (f.slots.take f.pars) [] ∧ (∀ (s : Shared) (us : List Value), us.length = f.pars → BindsTo s fd ⟨us, []⟩ ((f.slots.take f.pars).zip us)) ∧
      FnG P w K mg base (L2N.CX P w) (k + 2) fa fd (f.slots.take f.pars) (spF K cl f.own f.pars (callN fs (cs.map fun (p : Str × Mt.D) => p.2) n k j))
section
variable {gc : Bool} {xt : XT} {P : Program} {w : World} {K : PySem.W.Frag} {mg : Str → Option Value} {base : Heap} {cl : Cls} {cs : List (Str × D)} {fs : List Fn} {n k j : Nat} {f : Fn} {d : He.DefD} {fa : Addr} {fd : FuncData}
theorem fn_zero (hc : fnChk gc xt cs fs f d = true) (hm : mg f.name = some (.ref fa)) (F : FunD K d.name d.qual d.params d.body d.scope [] [] fa fd) : FnAt P w K mg base cl cs fs n 0 j f fa fd := by
  unfold fnChk at hc
  obtain ⟨hc, h9⟩ := and_of hc
  obtain ⟨hc, h8⟩ := and_of hc
  obtain ⟨hc, h7⟩ := and_of hc
  obtain ⟨hc, h6⟩ := and_of hc
  obtain ⟨hc, h5⟩ := and_of hc
  obtain ⟨hc, h4⟩ := and_of hc
  obtain ⟨hc, h3⟩ := and_of hc
  obtain ⟨h1, h2⟩ := and_of hc
  have nd := nodupB_ok h1
  have hpl : (f.slots.take f.pars).length = f.pars := by rw [List.length_take]; have := of_decide_eq_true h5; omega
  have bp := fun (kV doc pm : Value) (an : Option Addr) (cdv ct : Value) (us : List Value) (hl : us.length = (f.slots.take f.pars).length) => bind_plain (x := d.name) (qual := d.qual) (body := d.body) (scope := d.scope) (kV := kV) (doc := doc) (pm := pm) (an := an) (cdv := cdv) (ct := ct) h8 (nd.sublist (List.take_sublist _ _)) hl
  refine ⟨hm, F.kp, F.bindsN bp, fun s us hl => F.bindsA bp s us (by rw [hpl]; exact hl), fun hs => ?_, fun _ _ _ _ _ hs => ?_⟩
  · obtain ⟨G, ds, _, _, hl, _⟩ := hs
    rw [hpl]
    exact hl
  · obtain ⟨G, ds, _, _, hl, hh⟩ := hs
    exact hh.elim
theorem fn_step (T : FnTab gc xt K mg cs fs) (hx : xt.on = true → XOk P w K mg base cl xt) (ih : ∀ (j : Nat) (f : Fn), fs[j]? = some f → ∃ (fa : Addr) (fd : FuncData), FnAt P w K mg base cl cs fs n k j f fa fd) (hf : fs[j]? = some f)
    (hc : fnChk gc xt cs fs f d = true) (hm : mg f.name = some (.ref fa)) (F : FunD K d.name d.qual d.params d.body d.scope [] [] fa fd) : FnAt P w K mg base cl cs fs n (k + 1) j f fa fd := by
  unfold fnChk at hc
  obtain ⟨hc, h9⟩ := and_of hc
  obtain ⟨hc, h8⟩ := and_of hc
  obtain ⟨hc, h7⟩ := and_of hc
  obtain ⟨hc, h6⟩ := and_of hc
  obtain ⟨hc, h5⟩ := and_of hc
  obtain ⟨hc, h4⟩ := and_of hc
  obtain ⟨hc, h3⟩ := and_of hc
  obtain ⟨h1, h2⟩ := and_of hc
  have nd := nodupB_ok h1
  have hpl : (f.slots.take f.pars).length = f.pars := by rw [List.length_take]; have := of_decide_eq_true h5; omega
  have bp := fun (kV doc pm : Value) (an : Option Addr) (cdv ct : Value) (us : List Value) (hl : us.length = (f.slots.take f.pars).length) => bind_plain (x := d.name) (qual := d.qual) (body := d.body) (scope := d.scope) (kV := kV) (doc := doc) (pm := pm) (an := an) (cdv := cdv) (ct := ct) h8 (nd.sublist (List.take_sublist _ _)) hl
  have S : FnScope f.slots (f.slots.take f.pars) d.scope := ⟨of_decide_eq_true h2, not_of' h3, not_of' h4, nd, by rw [hpl], fun x hx => by
    have := List.all_eq_true.mp h6 x hx
    simpa using this, fun y hy => by
    have := List.all_eq_true.mp h7 y hy
    simpa using this⟩
  have ec : ∀ ds : List Mt.D, callN fs (cs.map fun (p : Str × Mt.D) => p.2) n (k + 1) j ds = runF (cs.map fun (p : Str × Mt.D) => p.2) n (callN fs (cs.map fun (p : Str × Mt.D) => p.2) n k) f ds := fun ds => by
    show (match fs[j]? with | some f => runF (cs.map fun (p : Str × Mt.D) => p.2) n (callN fs (cs.map fun (p : Str × Mt.D) => p.2) n k) f ds | none => .stuck) = _
    rw [hf]
  refine ⟨hm, F.kp, F.bindsN bp, fun s us hl => F.bindsA bp s us (by rw [hpl]; exact hl), fnG_of F S (fun vs H Q E hs => ?_) fun cdv A outer s H vs Q E hr hgd hs => ?_⟩
  · obtain ⟨G, ds, _, _, hl, _⟩ := hs
    rw [hpl]
    exact hl
  · obtain ⟨G, ds, g, r, hl, hh⟩ := hs
    rw [ec] at hh
    have cx : CtxS (cxOf (L2N.CX P w) P w K mg base f.slots d.qual d.scope fa cdv A outer s H E) cl (fun cls d _ H => E cls d H) (scF gc xt cs fs f d.scope) (callN fs (cs.map fun (p : Str × Mt.D) => p.2) n k) := {
      hN := rfl
      nd := nd
      calm := rfl
      sc := rfl
      fn := rfl
      un := by
        have := hr.un
        show (A.deeper (envOfC d.qual d.scope s.heap.objs.size fa cdv)).units + 65 < cLine
        omega
      gd := hgd
      tk := L2N.takes_of rfl rfl rfl rfl
      fs := fun j x m own hj => by
        have hj : (sigs fs)[j]? = some (x, m, own) := hj
        unfold sigs at hj
        rw [List.getElem?_map] at hj
        cases hf2 : fs[j]? with
        | none => rw [hf2] at hj; cases hj
        | some f2 =>
          rw [hf2] at hj
          cases hj
          obtain ⟨fa2, fd2, i1, i2, i3, _, i4⟩ := ih j f2 hf2
          exact ⟨⟨k + 2, fa2, fd2, _, i1, i2, i3, hr, i4⟩, fun ds => (callN_len hf2 ds).1, fun ds => (callN_len hf2 ds).2⟩
      cs := T.cs
      bt := T.bt
      rg := T.rg
      en := T.en
      zp := T.zp
      gc := T.gc
      ps := passes_of rfl
      xo := hx
      rm := hr.mono (by omega)
      hs := rfl
      hf := rfl }
    refine ⟨_, chkS_ok (n := n) f.body (List.replicate f.slots.length false) (scF gc xt cs fs f d.scope) f.own (.l d.body) h9 _ _ cx, body_run g r hl ?_⟩
    have hg : (ds.length == f.pars) = true := by rw [← r.length, hl]; exact beq_self_eq_true _
    unfold runF at hh
    rw [hg] at hh
    exact hh
theorem fn_ok (T : FnTab gc xt K mg cs fs) (hx : xt.on = true → XOk P w K mg base cl xt) : ∀ (k j : Nat) (f : Fn), fs[j]? = some f → ∃ (fa : Addr) (fd : FuncData), FnAt P w K mg base cl cs fs n k j f fa fd := by
  intro k
  induction k with
  | zero =>
    intro j f hf
    obtain ⟨d, fa, fd, hc, hm, F⟩ := T.fn j f hf
    exact ⟨fa, fd, fn_zero hc hm F⟩
  | succ k ih =>
    intro j f hf
    obtain ⟨d, fa, fd, hc, hm, F⟩ := T.fn j f hf
    exact ⟨fa, fd, fn_step T hx ih hf hc hm F⟩
theorem fn_at (T : FnTab gc xt K mg cs fs) (hx : xt.on = true → XOk P w K mg base cl xt) (hf : fs[j]? = some f) (hc : fnChk gc xt cs fs f d = true) (hm : mg f.name = some (.ref fa)) (F : FunD K d.name d.qual d.params d.body d.scope [] [] fa fd) : FnAt P w K mg base cl cs fs n k j f fa fd := by
  cases k with
  | zero => exact fn_zero hc hm F
  | succ k => exact fn_step T hx (fn_ok T hx k) hf hc hm F
end
end Mt
/-! Part Y: the text's classes and the base's __init__, as a boolean of the written part. -/
namespace Mt
open PySem PySem.Spec PySem.Calls PyProof.Rows L2 L2H HotX

def oneO (a b : Option Bool) : Bool := decide (a = b)
def tyO (a b : Option Value) : Bool := decide (a = b)
def oexB (K : PySem.W.Frag) (C : Addr) : Bool := (match K.lookup C with
    | some ⟨.type t, _, .cls cd, sl⟩ => (match cd.mro, sl.toList with
      | .ref C' :: bm, [_, _, _, _, some (.builtin n), _] => t == "type" && C' == C && PySem.HandSPX.refsVE bm && cd.hasDict && !cd.hasDel && n == "ValueError.__new__"
      | _, _ => false)
    | _ => false) && He.eqO (PySem.W.findIn K (.ref C) "__setattr__") (some (some (.builtin "object.__setattr__"))) && oneO (PySem.W.subIn K (.ref C) (.type "BaseException")) (some true) && tyO (PySem.W.typeIn K (.ref C)) (some (.type "type")) && PySem.W.keepIn K (.ref C)
theorem oexB_ok {K : PySem.W.Frag} {C : Addr} (h : oexB K C = true) : OexC K C := by
  unfold oexB at h
  obtain ⟨h, h5⟩ := and_of h
  obtain ⟨h, h4⟩ := and_of h
  obtain ⟨h, h3⟩ := and_of h
  obtain ⟨h1, h2⟩ := and_of h
  refine ⟨?_, He.eqO_ok h2, of_decide_eq_true h3, of_decide_eq_true h4, h5⟩
  split at h1
  · rename_i t dd cd sl lk
    split at h1
    · rename_i C' bm k0 k1 k2 k3 n k5 e1 e2
      simp only [Bool.and_eq_true, beq_iff_eq, Bool.not_eq_true'] at h1
      obtain ⟨⟨⟨⟨⟨z1, z2⟩, z3⟩, z4⟩, z5⟩, z6⟩ := h1
      obtain ⟨nm, bs, mro, N, q, hd, sn, sub, ab, col, del⟩ := cd
      dsimp only at e1 z4 z5
      subst z1 z2 z4 z5 z6 e1
      obtain ⟨l⟩ := sl
      have e2 : l = _ := e2
      subst e2
      exact ⟨nm, q, N, bs, bm, sn, sub, ab, col, dd, k0, k1, k2, k3, k5, lk, z3⟩
    · cases h1
  · cases h1
def extB (K : PySem.W.Frag) (CE C fI : Addr) : Bool := oexB K C && He.eqO (PySem.W.findIn K (.ref C) "__init__") (some (some (.ref fI))) && He.eqO (PySem.W.findIn K (.ref C) "at") (some none) && oneO (PySem.W.mroIn K C (.ref CE)) (some true) &&
  He.eqO (PySem.W.ks_superIn K C CE "__init__") (some (some (.builtin "ValueError.__init__"))) && oneO (PySem.W.subIn K (.ref C) (.type "ValueError")) (some true)
theorem extB_ok {K : PySem.W.Frag} {CE C fI : Addr} (h : extB K CE C fI = true) : ExT K CE C fI := by
  unfold extB at h
  obtain ⟨h, h6⟩ := and_of h
  obtain ⟨h, h5⟩ := and_of h
  obtain ⟨h, h4⟩ := and_of h
  obtain ⟨h, h3⟩ := and_of h
  obtain ⟨h1, h2⟩ := and_of h
  exact ⟨oexB_ok h1, He.eqO_ok h2, He.eqO_ok h3, of_decide_eq_true h4, He.eqO_ok h5, of_decide_eq_true h6⟩
def excB (K : PySem.W.Frag) (C : Addr) : Bool := He.eqO (PySem.W.findIn K (.ref C) "__getattribute__") (some (some (.builtin "BaseException.__getattribute__"))) && He.eqO (PySem.W.findIn K (.ref C) "__getattr__") (some none) && oneO (PySem.W.subIn K (.ref C) (.type "BaseException")) (some true) && PySem.W.hasDictIn K C &&
  He.eqO (PySem.W.findIn K (.ref C) "__class__") (some (some (.builtin "object.__class__"))) && He.eqO (PySem.W.specialIn K (.builtin "object.__class__") "__get__") (some (some (.builtin "getset_descriptor.__get__"))) && oneO (PySem.W.takesIn K (.builtin "object.__class__")) (some true) && oneO (PySem.W.mroIn K C (.type "object")) (some true)
theorem excB_ok {K : PySem.W.Frag} {C : Addr} (h : excB K C = true) : ExcC K C ∧ XfC K C := by
  unfold excB at h
  obtain ⟨h, h8⟩ := and_of h
  obtain ⟨h, h7⟩ := and_of h
  obtain ⟨h, h6⟩ := and_of h
  obtain ⟨h, h5⟩ := and_of h
  obtain ⟨h, h4⟩ := and_of h
  obtain ⟨h, h3⟩ := and_of h
  obtain ⟨h1, h2⟩ := and_of h
  exact ⟨⟨He.eqO_ok h1, He.eqO_ok h2, of_decide_eq_true h3, h4, He.eqO_ok h5, He.eqO_ok h6, of_decide_eq_true h7, of_decide_eq_true h8⟩, ⟨He.eqO_ok h1, He.eqO_ok h2, of_decide_eq_true h3, h4⟩⟩
def gloB (K : PySem.W.Frag) (x : Str) : Bool := He.eqO (PySem.W.nsIn K mainGlobals x) (some (some (.ref (He.ga K x))))
def clsB (K : PySem.W.Frag) (CE fI : Addr) (ws : List (Str × Str)) (cn : Str) : Bool := gloB K cn && extB K CE (He.ga K cn) fI && excB K (He.ga K cn) && oneO (PySem.W.exmOne K (.ref (He.ga K cn)) (.ref CE)) (some true) &&
  ws.all fun p => gloB K p.2 && oneO (PySem.W.kitOne K (.ref (He.ga K cn)) (.ref (He.ga K p.2))) (some (p.2 == cn))
theorem clsB_ok {K : PySem.W.Frag} {h : Heap} {mg : Str → Option Value} {CE fI : Addr} {ws : List (Str × Str)} {cn : Str} (X : K.In h) (G : h.Ns mainGlobals mg) (c : clsB K CE fI ws cn = true) : ClsOk K mg CE fI ws cn (He.ga K cn) := by
  unfold clsB at c
  obtain ⟨c, h5⟩ := and_of c
  obtain ⟨c, h4⟩ := and_of c
  obtain ⟨c, h3⟩ := and_of c
  obtain ⟨h1, h2⟩ := and_of c
  refine ⟨He.glo_ok X G h1, extB_ok h2, (excB_ok h3).1, (excB_ok h3).2, of_decide_eq_true h4, fun p hp => ?_⟩
  obtain ⟨k1, k2⟩ := and_of (List.all_eq_true.mp h5 p hp)
  exact ⟨_, He.glo_ok X G k1, of_decide_eq_true k2⟩

/-! ### the base's __init__ -/
def fileB (P : Program) (K : PySem.W.Frag) (a : Addr) : Bool := match K.lookup a with
  | some ⟨_, _, .fields vs, _⟩ => (match (vs[2]? : Option Value) with
    | some (.str f _) => (P.main.file : Str) == f
    | _ => false)
  | _ => false
def cellB (K : PySem.W.Frag) (a CE : Addr) : Bool := match K.lookup a with
  | some ⟨_, _, .cell (some (.ref b)), _⟩ => b == CE
  | _ => false
def scB (s : Scope) : Bool := s.names.lookup ("super" : Str) == some .globalImplicit && s.names.lookup ("__class__" : Str) == some .free && s.names.lookup ("self" : Str) == some .local && s.names.lookup ("at" : Str) == some .local && decide (s.kind = .function) && !s.isCoroutine && !s.isGenerator && s.names.all fun x => !(x.2 == .cell)
def treeB : List Stmt → Bool
  | [.Expr (.Call (.Attribute (.Call (.Name s1 _) [] [] _) m1 p2) [.Name n1 _] [] p4) _, .Assign [.Attribute (.Name n2 _) f1 _] (.Name n3 _) _] => s1 == "super" && m1 == "__init__" && n1 == "at" && n2 == "self" && f1 == "at" && n3 == "at" && p2.endLine == p4.line
  | _ => false
def initB (P : Program) (K : PySem.W.Frag) (CE fI : Addr) : Bool := (match K.lookup fI with
  | some ⟨_, _, .func ⟨_, q, ps, .stmts body, sc, gl, [(cn, cc)], .none, _, _, _, _, .ref cda, _, bn⟩, _⟩ =>
      treeB body && decide (gl = mainGlobals) && decide (bn = builtinsNs) && cn == "__class__" && PySem.W.codeIn K (.ref cda) q && fileB P K cda && cellB K cc CE && scB sc && plainArgs ps ["self", "at"]
  | _ => false) && (PySem.W.clsIn K CE).isSome && !(P.main.scope.names.lookup ("super" : Str)).isSome && He.eqO (PySem.W.nsIn K cStatics "thirdparty.any") (some none) && (He.Fa.free "super").ok K && PySem.W.keepIn K (.ref fI) && tyO (PySem.W.typeIn K (.ref fI)) (some (.type "function"))
theorem bind_self {nm q : Str} {ps : Arguments} {body : List Stmt} {sc : Scope} {cc : Addr} {kV doc pm : Value} {an : Option Addr} {cdv ct : Value} (h : plainArgs ps ["self", "at"] = true) (us : List Value) (hl : us.length = 2) :
    bindArgs (PySem.W.ksFn nm q ps body sc .none kV doc pm an cdv ct cc) ⟨us, []⟩ = pure ((["self", "at"] : List Str).zip us) := by
  have e := bind_plain (x := nm) (qual := q) (body := body) (scope := sc) (kV := kV) (doc := doc) (pm := pm) (an := an) (cdv := cdv) (ct := ct) h (by decide) (us := us) hl
  rw [← e]
  rfl
theorem initB_ok {P : Program} {K : PySem.W.Frag} {h : Heap} {mg : Str → Option Value} {CE fI : Addr} (X : K.In h) (G : h.Ns mainGlobals mg) (c : initB P K CE fI = true) : ∃ fd, InT P K mg CE fI fd ∧ Binds K fd ["self", "at"] [] := by
  unfold initB at c
  obtain ⟨c, h7⟩ := and_of c
  obtain ⟨c, h6⟩ := and_of c
  obtain ⟨c, h5⟩ := and_of c
  obtain ⟨c, h4⟩ := and_of c
  obtain ⟨c, h3⟩ := and_of c
  obtain ⟨h1, h2⟩ := and_of c
  split at h1
  · rename_i oc od nm q ps body sc gl cn cc kV doc pm an cda ct bn osl lk
    simp only [Bool.and_eq_true, beq_iff_eq, decide_eq_true_eq] at h1
    obtain ⟨⟨⟨⟨⟨⟨⟨⟨t, z1⟩, z2⟩, z3⟩, z4⟩, z5⟩, z6⟩, z7⟩, z8⟩ := h1
    subst z1 z2 z3
    unfold treeB at t
    split at t
    · rename_i s1 p0 p1 m1 p2 n1 p3 p4 p5 n2 p6 f1 p7 n3 p8 p9
      simp only [Bool.and_eq_true, beq_iff_eq] at t
      obtain ⟨⟨⟨⟨⟨⟨y1, y2⟩, y3⟩, y4⟩, y5⟩, y6⟩, y7⟩ := t
      subst y1 y2 y3 y4 y5 y6
      unfold fileB at z5
      split at z5
      · rename_i ccl cdd vs ccs lk2
        split at z5
        · rename_i f tf hv
          unfold cellB at z6
          split at z6
          · rename_i cl cld b csl lk3
            have eb := eq_of_beq z6
            subst eb
            obtain ⟨cdD, hD⟩ := Option.isSome_iff_exists.mp h2
            unfold scB at z7
            simp only [Bool.and_eq_true, beq_iff_eq, decide_eq_true_eq, Bool.not_eq_true'] at z7
            obtain ⟨⟨⟨⟨⟨⟨⟨x1, x2⟩, x3⟩, x4⟩, x5⟩, x6⟩, x7⟩, x8⟩ := z7
            have har : ∃ ar, (ps.posonlyargs ++ ps.args).head? = some ar ∧ ar.arg = "self" := by
              obtain ⟨po, ar, va, ko, kd, kw, df⟩ := ps
              unfold plainArgs at z8
              simp only [Bool.and_eq_true, List.isEmpty_iff, beq_iff_eq] at z8
              obtain ⟨⟨⟨⟨w1, w2⟩, _⟩, _⟩, _⟩ := z8
              subst w1
              cases ar with
              | nil => cases w2
              | cons a r => exact ⟨a, rfl, (List.cons.inj w2).1⟩
            obtain ⟨ar, ha1, ha2⟩ := har
            have y7' : (p2.endLine == p4.line) = true := by rw [y7]; exact beq_self_eq_true _
            refine ⟨_, ⟨⟨nm, q, ps, p0, p1, p2, p3, p4, p5, p6, p7, p8, p9, sc, .none, kV, doc, pm, an, cda, ct, oc, od, osl, cc, ccl, cdd, vs, ccs, f, tf, cl, cld, csl, cdD, ar, rfl, lk, z4, ha1, ha2, lk2, hv, z5, lk3, hD, x1, x2, x3, x4, x5, x6, x7, ?_, y7'⟩,
              not_of' h3 |> fun z => by simpa using z, He.eqO_ok h4, He.free_ok X G h5, h6, of_decide_eq_true h7, fun s us hl => .of_eq (bind_self z8 us hl)⟩, .all fun us hl => bind_self z8 us hl⟩
            intro x hx e
            have := List.all_eq_true.mp x8 x hx
            rw [e] at this
            cases this
          · cases z6
        · cases z5
      · cases z5
    · cases t
  · cases h1
end Mt
/-! Part S: the head's facts; the end. -/
namespace Mt
open PySem PySem.Spec PyProof.Rows L2

/-! ### a module's constant -/
mutual
def rdK (K : PySem.W.Frag) : Nat → Value → D → Bool
  | _, .int i _, .int j => i == j
  | _, .str x _, .str y => x == y
  | _, .bool a, .bool b => a == b
  | _, .none, .none => true
  | n + 1, .ref a, .dict [(.none, .tuple ds)] => (match K.lookup a with
    | some ⟨.type c, _, .seq its _, _⟩ => decide (c = "tuple") && decide (its.size ≤ sizeLine) && rdKs K n its.toList ds
    | _ => false)
  | n + 1, .ref a, .list ds => (match K.lookup a with
    | some ⟨.type c, none, .seq its _, _⟩ => decide (c = "list") && decide (its.size ≤ sizeLine) && rdKs K n its.toList ds
    | _ => false)
  | _, _, _ => false
def rdKs (K : PySem.W.Frag) : Nat → List Value → List D → Bool
  | _, [], [] => true
  | 0, _ :: _, _ :: _ => false
  | n + 1, v :: vs, d :: ds => rdK K n v d && rdKs K n vs ds
  | _, _, _ => false
end
theorem rdT {K : PySem.W.Frag} {a : Addr} {b : List Value → Bool} (h : (match K.lookup a with
      | some ⟨.type c, _, .seq its _, _⟩ => decide (c = "tuple") && decide (its.size ≤ sizeLine) && b its.toList
      | _ => false) = true) : ∃ us, b us = true ∧ ∀ (vs : List V), Vals vs us → ∀ G, SqT K G a vs := by
  cases q : K.lookup a with
  | none => rw [q] at h; cases h
  | some o =>
    obtain ⟨oc, od, dt, osl⟩ := o
    rw [q] at h
    cases oc with
    | type c =>
      cases dt with
      | seq its m =>
        obtain ⟨h1, h3⟩ := and_of (show (decide (c = "tuple") && decide (its.size ≤ sizeLine) && b its.toList) = true from h)
        obtain ⟨h1, h2⟩ := and_of h1
        exact ⟨its.toList, h3, fun vs r1 G => .inr ⟨_, its, m, q, congrArg Value.type (of_decide_eq_true h1), rfl, of_decide_eq_true h2, r1⟩⟩
      | _ => cases h
    | _ => cases dt <;> cases h
theorem rdL {K : PySem.W.Frag} {a : Addr} {b : List Value → Bool} (h : (match K.lookup a with
      | some ⟨.type c, none, .seq its _, _⟩ => decide (c = "list") && decide (its.size ≤ sizeLine) && b its.toList
      | _ => false) = true) : ∃ us, b us = true ∧ ∀ (vs : List V), Vals vs us → ∀ G, SqL K G a vs := by
  cases q : K.lookup a with
  | none => rw [q] at h; cases h
  | some o =>
    obtain ⟨oc, od, dt, osl⟩ := o
    rw [q] at h
    cases oc with
    | type c =>
      cases od with
      | none =>
        cases dt with
        | seq its m =>
          obtain ⟨h1, h3⟩ := and_of (show (decide (c = "list") && decide (its.size ≤ sizeLine) && b its.toList) = true from h)
          obtain ⟨h1, h2⟩ := and_of h1
          exact ⟨its.toList, h3, fun vs r1 G => .inr ⟨_, its, m, q, congrArg Value.type (of_decide_eq_true h1), rfl, rfl, of_decide_eq_true h2, r1⟩⟩
        | _ => cases h
      | some b => cases dt <;> cases h
    | _ => cases od <;> cases dt <;> cases h
theorem rd_ok {K : PySem.W.Frag} : ∀ n : Nat, (∀ (u : Value) (d : D), rdK K n u d = true → ∃ v, RelV v u ∧ ∀ G, Rp K G v d) ∧ ∀ (us : List Value) (ds : List D), rdKs K n us ds = true → ∃ vs, Vals vs us ∧ ∀ G, RpL K G vs ds := by
  have flat : ∀ (n : Nat) (u : Value) (d : D), (∀ a ds, u = .ref a → d ≠ kt ds ∧ d ≠ .list ds) → rdK K n u d = true → ∃ v, RelV v u ∧ ∀ G, Rp K G v d := fun n u d hn h => by
    unfold rdK at h
    split at h
    · cases eq_of_beq h
      exact ⟨.int _, ⟨_, rfl⟩, fun _ => .int _⟩
    · cases eq_of_beq h
      exact ⟨.str _, ⟨_, rfl⟩, fun _ => .str _⟩
    · cases eq_of_beq h
      exact ⟨.bl _, rfl, fun _ => .bl _⟩
    · exact ⟨.non, rfl, fun _ => .non⟩
    · exact absurd rfl (hn _ _ rfl).1
    · exact absurd rfl (hn _ _ rfl).2
    · cases h
  intro n
  induction n with
  | zero =>
    refine ⟨fun u d h => ?_, fun us ds h => ?_⟩
    · refine flat 0 u d (fun a ds e => ?_) h
      subst e
      exact ⟨fun e => (by subst e; unfold rdK at h; cases h), fun e => (by subst e; unfold rdK at h; cases h)⟩
    · cases us with
      | nil =>
        cases ds with
        | nil => exact ⟨[], .nil, fun _ => .nil⟩
        | cons d ds => unfold rdKs at h; cases h
      | cons u us => cases ds <;> (unfold rdKs at h; cases h)
  | succ n ih =>
    refine ⟨fun u d h => ?_, fun us ds h => ?_⟩
    · by_cases hn : ∀ a ds, u = .ref a → d ≠ kt ds ∧ d ≠ .list ds
      · exact flat _ u d hn h
      · have hn : ∃ a ds, u = .ref a ∧ (d = kt ds ∨ d = .list ds) := by
          refine Classical.byContradiction fun z => hn fun a ds e => ⟨fun q => z ⟨a, ds, e, .inl q⟩, fun q => z ⟨a, ds, e, .inr q⟩⟩
        obtain ⟨a, ds, rfl, rfl | rfl⟩ := hn
        · unfold rdK at h
          obtain ⟨us, h1, h2⟩ := rdT (b := fun us => rdKs K n us ds) h
          obtain ⟨vs, r1, r2⟩ := ih.2 us ds h1
          exact ⟨.ref a, rfl, fun G => .ktp (h2 vs r1 G) (r2 G)⟩
        · unfold rdK at h
          obtain ⟨us, h1, h2⟩ := rdL (b := fun us => rdKs K n us ds) h
          obtain ⟨vs, r1, r2⟩ := ih.2 us ds h1
          exact ⟨.ref a, rfl, fun G => .lst (h2 vs r1 G) (r2 G)⟩
    · cases us with
      | nil =>
        cases ds with
        | nil => exact ⟨[], .nil, fun _ => .nil⟩
        | cons d ds => unfold rdKs at h; cases h
      | cons u us =>
        cases ds with
        | nil => unfold rdKs at h; cases h
        | cons d ds =>
          obtain ⟨h1, h2⟩ := and_of (show (rdK K n u d && rdKs K n us ds) = true from by unfold rdKs at h; exact h)
          obtain ⟨v, r1, r2⟩ := ih.1 u d h1
          obtain ⟨vs, r3, r4⟩ := ih.2 us ds h2
          exact ⟨v :: vs, .cons r1 r3, fun G => .cons (r2 G) (r4 G)⟩
def conOk (K : PySem.W.Frag) (p : Str × D) : Bool := match PySem.W.nsIn K mainGlobals p.1 with
  | some (some v) => rdK K 1000 v p.2
  | _ => false

/-! ### the Hook -/
def frees : List Str := ["len", "int", "abs", "min", "max", "sum", "all", "any", "list", "tuple", "repr", "sorted", "range", "enumerate", "zip", "set"]
/-- what the text's errors ask of the written part -/
def xtB (P : Program) (xt : XT) (K : PySem.W.Frag) : Bool := gloB K xt.base && initB P K (He.ga K xt.base) (He.ma K (He.ga K xt.base) "__init__") && (He.Fa.free "isinstance").ok K && xt.cls.all fun cn => clsB K (He.ga K xt.base) (He.ma K (He.ga K xt.base) "__init__") xt.ws cn
def okM (gc : Bool) (xt : XT) (P : Program) (fn : List He.DefD) (cs : List (Str × D)) (K : PySem.W.Frag) : Bool := (fn.all fun d => (He.Fa.glo d.at_.1).ok K && d.ok K) && (frees.all fun x => (He.Fa.free x).ok K) && cs.all (conOk K) && (!gc || He.eqO (PySem.W.nsIn K mainGlobals "gcd") (some (some (.builtin "math.gcd")))) && (!xt.on || xtB P xt K)
def obsM (gc : Bool) (xt : XT) (P : Program) (fn : List He.DefD) (cs : List (Str × D)) (K : PySem.W.Frag) : He.AlD := (okM gc xt P fn cs K, fn.map fun d => He.fnW K d.at_)
def obsMG (gc : Bool) (xt : XT) (P : Program) (n : Nat) (fn : List He.DefD) (cs : List (Str × D)) (g : Addr → Option Obj) : He.AlD := obsM gc xt P fn cs (He.frG g (if xt.on = true then cStatics :: He.asD g n else He.asD g n))
def SaysM (gc : Bool) (xt : XT) (P : Program) (fn : List He.DefD) (cs : List (Str × D)) (K : PySem.W.Frag) : Prop := obsM gc xt P fn cs K = He.valD fn
def hookM (gc : Bool) (xt : XT) (P : Program) (n : Nat) (fn : List He.DefD) (cs : List (Str × D)) : PySem.W.Hook where
  α := He.AlD
  obs := fun s => obsMG gc xt P n fn cs s.heap.get?
  val := fun _ => He.valD fn
  says := fun _ h => ∃ K : PySem.W.Frag, K.In h ∧ SaysM gc xt P fn cs K
  of := fun _ _ e => ⟨_, He.frG_in, e⟩
  keeps := fun _ _ _ ⟨K, hK, c⟩ k => ⟨K, PySem.W.Frag.In.keeps hK k, c⟩
theorem obsMG_eq {gc : Bool} {xt : XT} {P : Program} {n : Nat} {fn : List He.DefD} {cs : List (Str × D)} {g : Addr → Option Obj} {s : Shared} (h : ∀ a, g a = s.heap.get? a) : obsMG gc xt P n fn cs g = (hookM gc xt P n fn cs).obs s := by
  have e : g = s.heap.get? := funext h
  rw [e] <;> rfl
def plainD (d : He.DefD) : Bool := d.at_.2.isNone && d.dfl.isEmpty && d.kwd.isEmpty
def nmD (xt : XT) (d : He.DefD) : Bool := d.at_.1 == xt.nm && plainD d && nmChk xt.nsl xt.ws d && plainArgs d.params (xt.nsl.take 1)
def fsOk (gc : Bool) (xt : XT) (cs : List (Str × D)) (fs : List Fn) (fn : List He.DefD) : Bool :=
  fs.length == fn.length && ((fs.zip fn).all fun p => p.1.name == p.2.at_.1 && plainD p.2 && fnChk gc xt cs fs p.1 p.2) && (!xt.on || fn.any (nmD xt))
section
variable {gc : Bool} {xt : XT} {P : Program} {fn : List He.DefD} {cs : List (Str × D)} {fs : List Fn} {K : PySem.W.Frag} {h : Heap} {mg : Str → Option Value}
theorem def_of (X : K.In h) (G : h.Ns mainGlobals mg) (c : SaysM gc xt P fn cs K) {d : He.DefD} (hd : d ∈ fn) (hp : plainD d = true) : ∃ (fa : Addr) (fd : FuncData), mg d.at_.1 = some (.ref fa) ∧ FunD K d.name d.qual d.params d.body d.scope [] [] fa fd := by
  have c0 : okM gc xt P fn cs K = true := congrArg (fun z : He.AlD => z.1) c
  have ce : fn.map (fun d => He.fnW K d.at_) = fn.map He.DefD.val := congrArg (fun z : He.AlD => z.2) c
  unfold okM at c0
  obtain ⟨c0, _⟩ := and_of c0
  obtain ⟨c0, _⟩ := and_of c0
  obtain ⟨c0, _⟩ := and_of c0
  obtain ⟨c1, _⟩ := and_of c0
  unfold plainD at hp
  obtain ⟨hp, h5⟩ := and_of hp
  obtain ⟨h3, h4⟩ := and_of hp
  obtain ⟨g1, g2⟩ := and_of (List.all_eq_true.mp c1 _ hd)
  have e1 : He.fnW K d.at_ = d.val := by
    obtain ⟨j, hj, e⟩ := List.getElem_of_mem hd
    have e2 := congrArg (fun l : List He.FnW => l[j]?) ce
    simp [hj] at e2
    rw [← e]
    exact e2
  obtain ⟨fd, F⟩ := He.DefD.funD e1 g2
  have a1 : d.at_ = (d.at_.1, none) := Prod.ext rfl (Option.isNone_iff_eq_none.mp h3)
  refine ⟨He.fAd K d.at_, fd, ?_, ?_⟩
  · rw [a1]
    exact He.glo_ok X G g1
  · have z1 : d.dvs K = [] := by
      unfold He.DefD.dvs
      rw [List.isEmpty_iff.mp h4]
      rfl
    have z2 : d.kws K = [] := by
      unfold He.DefD.kws
      rw [List.isEmpty_iff.mp h5]
      rfl
    rw [z1, z2] at F
    exact F
theorem tab_of (ok : fsOk gc xt cs fs fn = true) (X : K.In h) (G : h.Ns mainGlobals mg) (c : SaysM gc xt P fn cs K) : FnTab gc xt K mg cs fs := by
  have c0 : okM gc xt P fn cs K = true := congrArg (fun z : He.AlD => z.1) c
  unfold okM at c0
  obtain ⟨c0, c8⟩ := and_of c0
  obtain ⟨c0, c9⟩ := and_of c0
  obtain ⟨c0, c3⟩ := and_of c0
  obtain ⟨c1, c2⟩ := and_of c0
  unfold fsOk at ok
  obtain ⟨ok, ok3⟩ := and_of ok
  obtain ⟨ok1, ok2⟩ := and_of ok
  have hl := eq_of_beq ok1
  have fr : ∀ x ∈ frees, mg x = none := fun x hx => He.free_ok X G (List.all_eq_true.mp c2 x hx)
  refine ⟨fun j f hf => ?_, fun j x d hj => ?_, fun b => fr _ (by cases b <;> decide), fr _ (by decide), fr _ (by decide), fr _ (by decide), fun hg => by
    rw [hg] at c9
    exact PySem.W.mg_of X G (He.eqO_ok c9)⟩
  · have hj : j < fn.length := by rw [← hl]; exact (List.getElem?_eq_some_iff.mp hf).1
    have hd : fn[j]? = some fn[j] := by simp [hj]
    have hz : (f, fn[j]) ∈ fs.zip fn := by
      refine List.mem_of_getElem? (i := j) ?_
      rw [List.getElem?_zip_eq_some]
      exact ⟨hf, hd⟩
    obtain ⟨o, h6⟩ := and_of (List.all_eq_true.mp ok2 _ hz)
    obtain ⟨h1, h2⟩ := and_of o
    obtain ⟨fa, fd, m, F⟩ := def_of X G c (List.getElem_mem hj) h2
    exact ⟨fn[j], fa, fd, h6, by rw [show f.name = fn[j].at_.1 from eq_of_beq h1]; exact m, F⟩
  · have hm : (x, d) ∈ cs := List.mem_of_getElem? hj
    have c4 := List.all_eq_true.mp c3 _ hm
    unfold conOk at c4
    cases q : PySem.W.nsIn K mainGlobals x with
    | none => rw [q] at c4; cases c4
    | some o =>
      rw [q] at c4
      cases o with
      | none => cases c4
      | some u =>
        obtain ⟨v, r1, r2⟩ := (rd_ok 1000).1 u d (show rdK K 1000 u d = true from c4)
        exact ⟨v, u, PySem.W.mg_of X G q, r1, r2⟩
/-- a class by its name -/
def clOf (mg : Str → Option Value) : Cls := fun x => (mg x).getD .none
theorem xo_of {w : World} {base : Heap} (ok : fsOk gc xt cs fs fn = true) (X : K.In h) (G : h.Ns mainGlobals mg) (c : SaysM gc xt P fn cs K) (on : xt.on = true) : XOk P w K mg base (clOf mg) xt := by
  have c0 : okM gc xt P fn cs K = true := congrArg (fun z : He.AlD => z.1) c
  unfold okM at c0
  obtain ⟨_, c8⟩ := and_of c0
  rw [on] at c8
  have c8 : xtB P xt K = true := c8
  unfold xtB at c8
  obtain ⟨c8, x4⟩ := and_of c8
  obtain ⟨c8, x3⟩ := and_of c8
  obtain ⟨x1, x2⟩ := and_of c8
  unfold fsOk at ok
  obtain ⟨_, ok3⟩ := and_of ok
  rw [on] at ok3
  obtain ⟨d, hd, hn⟩ := List.any_eq_true.mp (show fn.any (nmD xt) = true from ok3)
  unfold nmD at hn
  obtain ⟨hn, n4⟩ := and_of hn
  obtain ⟨hn, n3⟩ := and_of hn
  obtain ⟨n1, n2⟩ := and_of hn
  obtain ⟨fa, fd, m, F⟩ := def_of X G c hd n2
  obtain ⟨fd0, T, B0⟩ := initB_ok X G x2
  have nd : (xt.nsl.take 1).Nodup := by
    match xt.nsl with
    | [] => exact List.nodup_nil
    | a :: r => simp
  refine ⟨He.ga K xt.base, He.ma K (He.ga K xt.base) "__init__", fd0, He.glo_ok X G x1, init_ok T, T.ty, B0, fun cn hcn => ?_, fa, fd, by rw [← eq_of_beq n1]; exact m, F.kp, F.bindsN fun kV doc pm an cdv ct us hl => bind_plain n4 nd hl, nm_fn (k := 0) n3 (He.free_ok X G x3) F⟩
  have k := clsB_ok X G (List.all_eq_true.mp x4 cn hcn)
  exact ⟨_, k, by unfold clOf; rw [k.nm]; rfl⟩
end
/-- defs that are reached by another name: by their place -/
def aliased : List (Nat × Str) → List He.DefD → List He.DefD := fun al ds => (List.range ds.length).zip ds |>.map fun p => match al.lookup p.1 with
  | some x => { p.2 with at_ := (x, none) }
  | none => p.2
theorem rpInts {K : PySem.W.Frag} {G : Hp} : ∀ ns : List Int, RpL K G (ns.map V.int) (ns.map PyData.int)
  | [] => .nil
  | n :: r => .cons (.int n) (rpInts r)
/-! ### the call of a law, from the state behind the top -/
section
variable {P : Program} {w : World} {K : PySem.W.Frag} {mg mb : Str → Option Value} {k : Nat} {fa a : Addr} {fd : FuncData} {x : Str} {sp : Sp} {s1 : Shared} {vs : List Value} {ns : List Int}
/-- with H the heap of what is tracked: the script at most -/
theorem run_law {H : Hp} (kin : K.In s1.heap) (gl : s1.heap.Ns mainGlobals mg) (bl : s1.heap.Ns builtinsNs mb) (bb : ∀ x : Str, x ≠ "__name__" → mb x = bootBuiltins x) (lim : s1.heap.NoLimit) (gens : s1.gens = #[])
    (scr : s1.heap.get? a = some { cls := .type "list", data := .seq vs.toArray }) (room : Room k callerA) (F : ∀ base : Heap, FnG P w K mg base (L2N.CX P w) k fa fd [x] sp) (bind : ∀ (s : Shared) (u : Value), BindsTo s fd ⟨[u], []⟩ [(x, u)])
    (one : ∀ b u, H b = some u → b = a ∧ (∃ o xs, u = .frz o (.lst xs)) ∧ K.lookup a = none) (hok : HOk P w H s1.heap) (pr : sp [.ref a] H (fun v _ => v = .bl true) fun _ _ _ => False) :
    codeAny (model P w) callerA (.call (.ref fa) ⟨[.ref a], []⟩) (fun r s' => r = .ok (.ret (.bool true)) ∧ OldK s1.heap s'.heap ∧ s'.os = s1.os ∧ AllBare s'.gens) s1 := by
  -- what is no list is not tracked
  have dict : ∀ {b : Addr} {o : Obj} {es : Array DictEntry} {n : Nat}, s1.heap.get? b = some o → o.data = .dict es n → H b = none := by
    intro b o es n hb hd
    refine Option.eq_none_iff_forall_not_mem.mpr fun u hu => ?_
    obtain ⟨rfl, _⟩ := one b u hu
    rw [scr] at hb
    cases hb
    cases hd
  have spaces : ∀ {b : Addr} {m : Str → Option Value}, s1.heap.Ns b m → (hidT s1.heap H).Ns b m := by
    rintro b m ⟨o, es, n, h1, h2, h3⟩
    exact ⟨o, es, n, hidT_get h1 (dict h1 h2), h2, h3⟩
  have kin2 : K.In (hidT s1.heap H) := by
    intro b o hb
    refine hidT_get (kin b o hb) (Option.eq_none_iff_forall_not_mem.mpr fun u hu => ?_)
    obtain ⟨rfl, _, hn⟩ := one b u hu
    rw [hn] at hb
    cases hb
  have md : Mod K mg (hidT s1.heap H) := by
    refine ⟨kin2, spaces gl, ⟨mb, spaces bl, bb⟩, ?_⟩
    obtain ⟨mc, l1, l2⟩ := lim
    exact ⟨mc, spaces l1, l2⟩
  have e0 : Env0 P w K mg (hidT s1.heap H) callerA [] s1 H :=
    { frames := rfl, mod := md, bs := fun b o => of_hidT, bsz := Nat.le_of_eq (hidT_size s1.heap H), funs := trivial, frf := (by intro b hb; cases hb), hok := hok, bare := AllBare.of_eq gens }
  refine codeAny_mono ((F (hidT s1.heap H)).run (us := [.ref a]) (vs := [.ref a]) room rfl e0 (bind s1 (.ref a)) (.cons rfl .nil) pr) ?_
  intro r s' got
  match r, got with
  | .error e, got =>
    obtain ⟨_, _, _, _, _, _, _, _, _, _, _, _, z⟩ := got
    exact z.elim
  | .ok .next, got => exact got.elim
  | .ok .brk, got => exact got.elim
  | .ok .cont, got => exact got.elim
  | .ok (.ret u), ⟨v, H2, os, bare, un, ok2, rel, q⟩ =>
    cases (show v = V.bl true from q)
    cases (show u = Value.bool true from rel)
    refine ⟨rfl, OldK.of_keep fun b o hb => ?_, os, bare⟩
    cases hHb : H b with
    | none => exact un.keep b o hb hHb (by intro z; cases z) (by intro z; cases z)
    | some u =>
      obtain ⟨_, ⟨ob, xs, rfl⟩, _⟩ := one b u hHb
      have was := (hok b _ hHb).1
      rw [hb] at was
      cases was
      exact (ok2 b _ (un.frzs b _ _ hHb)).1
theorem law_callG (kin : K.In s1.heap) (gl : s1.heap.Ns mainGlobals mg) (bl : s1.heap.Ns builtinsNs mb) (bb : ∀ x : Str, x ≠ "__name__" → mb x = bootBuiltins x) (lim : s1.heap.NoLimit) (gens : s1.gens = #[])
    (scr : s1.heap.get? a = some { cls := .type "list", data := .seq vs.toArray }) (are : IntsAre vs ns) (few : ns.length ≤ sizeLine) (room : Room k callerA) (F : ∀ base : Heap, FnG P w K mg base (L2N.CX P w) k fa fd [x] sp)
    (bind : ∀ (s : Shared) (u : Value), BindsTo s fd ⟨[u], []⟩ [(x, u)]) (pr : ∀ H : Hp, SqL K H a (ns.map V.int) → sp [.ref a] H (fun v _ => v = .bl true) fun _ _ _ => False) :
    codeAny (model P w) callerA (.call (.ref fa) ⟨[.ref a], []⟩) (fun r s' => r = .ok (.ret (.bool true)) ∧ OldK s1.heap s'.heap ∧ s'.os = s1.os ∧ AllBare s'.gens) s1 := by
  have rel := vals_ints are
  have n : vs.length = ns.length := are.length
  by_cases hk : K.lookup a = none
  · -- the script is tracked, as it stands
    let H : Hp := fun b => if b = a then some (.frz { cls := .type "list", data := .seq vs.toArray } (.lst (ns.map V.int))) else none
    have at_ : ∀ b u, H b = some u → b = a ∧ u = .frz { cls := .type "list", data := .seq vs.toArray } (.lst (ns.map V.int)) := by
      intro b u hu
      by_cases hb : b = a
      · have e : H b = _ := if_pos hb
        rw [e] at hu
        exact ⟨hb, (Option.some.inj hu).symm⟩
      · have e : H b = none := if_neg hb
        rw [e] at hu
        cases hu
    have sq : SqL K H a (ns.map V.int) := Or.inl (Or.inr ⟨_, if_pos rfl⟩)
    refine run_law (H := H) kin gl bl bb lim gens scr room F bind (fun b u hu => ?_) (fun b u hu => ?_) (pr H sq)
    · obtain ⟨rfl, rfl⟩ := at_ b u hu
      exact ⟨rfl, ⟨_, _, rfl⟩, hk⟩
    · obtain ⟨rfl, rfl⟩ := at_ b u hu
      exact ⟨scr, by simpa using few, vs, _, rel, scr⟩
  · -- it is one of the module's own
    obtain ⟨o, ho⟩ := Option.ne_none_iff_exists'.mp hk
    have e := kin a o ho
    rw [scr] at e
    cases e
    have sq : SqL K (fun _ => none) a (ns.map V.int) := Or.inr ⟨_, vs.toArray, _, ho, rfl, rfl, rfl, by simpa [n] using few, by simpa using rel⟩
    exact run_law (H := fun _ => none) kin gl bl bb lim gens scr room F bind (fun b u hu => by cases hu) (fun b u hu => by cases hu) (pr _ sq)
end
/-- the end of a law -/
theorem law_walk {gc : Bool} {xt : XT} {l : PySem.W.OpenLaw} {fn : List He.DefD} {cs : List (Str × D)} {fs : List Fn} {m k j W n : Nat} {q : Program} {loose : List Str} {XP : (Str → Option Value) → Heap → Prop} {d : DefRec} {x : Str} {f : Fn}
    (ok : fsOk gc xt cs fs fn = true) (hn : l.most = some n) (hn2 : n ≤ sizeLine) (hdf : d.params.defaults = []) (hr : Room (k + 2) callerA) (hf : fs[j]? = some f) (hd : d.name = f.name) (hp : f.pars = 1) (hx : f.slots.take 1 = [x])
    (law : ∀ ns : List Int, ns.length ≤ n → callN fs (cs.map (·.2)) W k j [.list (ns.map .int)] = .ok (.bool true)) :
    PySem.W.WalkO q loose XP (hookM gc xt l.prog m fn cs).says l.row.toRowW d [] (fun f vs => PySem.call f vs) := by
  refine Att.attach_call hn hdf ?_
  intro w s₀ s₁ mg mb fa o pm cd doc a vs ns G Y ho hd2 hcd hmg hobj hints hlen hg
  obtain ⟨K, KX, c⟩ := Y
  have T := tab_of ok KX G.T.g c
  obtain ⟨d2, fa2, fd, hc, hm, F⟩ := T.fn j f hf
  rw [hd, hm] at hmg
  cases hmg
  have A := fun base => fn_at (P := l.prog) (w := w) (base := base) (cl := clOf mg) (n := W) (k := k) T (xo_of ok KX G.T.g c) hf hc hm F
  refine law_callG (fd := fd) (sp := spF K (clOf mg) f.own 1 (callN fs (cs.map fun (p : Str × Mt.D) => p.2) W k j)) (x := x) (k := k + 2) KX G.T.g G.T.b G.T.builtins G.T.nolimit hg hobj hints (Nat.le_trans hlen hn2) hr (fun base => ?_) (fun s u => ?_) (fun H hS => ?_)
  · have e := (A base).2.2.2.2
    rw [hp, hx] at e
    exact e
  · have e := (A s₁.heap).2.2.2.1 s [u] (by rw [hp]; rfl)
    rw [hp, hx] at e
    exact e
  · refine ⟨H, [.list (ns.map .int)], Same.refl H, .cons (.lst hS (rpInts ns)) .nil, rfl, ?_⟩
    rw [law ns hlen]
    intro G' H' v _ _ _ _ hv
    split at hv
    · unfold Own at hv
      rw [if_neg (by decide)] at hv
      cases hv
      rfl
    · cases hv
      rfl
end Mt
/-! Plain laws, base: rules by which a reading is run by hand. -/
namespace Mt
open PySem
section
variable (cs : List D) (cal : Nat → List D → R D) (W : Nat)
@[simp] theorem ev_int (i : Int) (e : Sg) : evE cs cal (.int i) e = .ok (.int i) := (rfl)
@[simp] theorem ev_str (s : Str) (e : Sg) : evE cs cal (.str s) e = .ok (.str s) := (rfl)
@[simp] theorem ev_bl (b : Bool) (e : Sg) : evE cs cal (.bl b) e = .ok (.bool b) := (rfl)
@[simp] theorem ev_non (e : Sg) : evE cs cal .non e = .ok .none := (rfl)
@[simp] theorem ev_var (i : Nat) (e : Sg) : evE cs cal (.var i) e = getS e i := (rfl)
@[simp] theorem ev_bor (i : Nat) (e : Sg) : evE cs cal (.bor i) e = getS e i := (rfl)
@[simp] theorem ev_bin (o : BinO) (a b : E) (e : Sg) : evE cs cal (.bin o a b) e = (evE cs cal a e).bind fun x => (evE cs cal b e).bind fun y => binD o (unk x) (unk y) := (rfl)
@[simp] theorem ev_cmp (o : CmpO) (a b : E) (e : Sg) : evE cs cal (.cmp o a b) e = (evE cs cal a e).bind fun x => (evE cs cal b e).bind fun y => (cmpD o x (unk y)).bind fun t => .ok (.bool t) := (rfl)
@[simp] theorem ev_chn (o o2 : CmpO) (a b c : E) (e : Sg) : evE cs cal (.chn o a b o2 c) e = (evE cs cal a e).bind fun x => (evE cs cal b e).bind fun y => (cmpD o x (unk y)).bind fun t =>
      if t = true then (evE cs cal c e).bind fun z => (cmpD o2 y (unk z)).bind fun t2 => .ok (.bool t2) else .ok (.bool false) := (rfl)
theorem ev_chn3 (o o2 o3 : CmpO) (a b c d : E) (e : Sg) : evE cs cal (.chn3 o a b o2 c o3 d) e = (evE cs cal a e).bind fun x => (evE cs cal b e).bind fun y => (cmpD o x (unk y)).bind fun t =>
      if t = true then (evE cs cal c e).bind fun z => (cmpD o2 y (unk z)).bind fun t2 => if t2 = true then (evE cs cal d e).bind fun w => (cmpD o3 z (unk w)).bind fun t3 => .ok (.bool t3) else .ok (.bool false) else .ok (.bool false) := (rfl)
@[simp] theorem ev_and (a b : E) (e : Sg) : evE cs cal (.and a b) e = (evE cs cal a e).bind fun x => (truthy x).bind fun t => if t = true then evE cs cal b e else .ok x := (rfl)
@[simp] theorem ev_or (a b : E) (e : Sg) : evE cs cal (.or a b) e = (evE cs cal a e).bind fun x => (truthy x).bind fun t => if t = true then .ok x else evE cs cal b e := (rfl)
@[simp] theorem ev_one (a : E) (e : Sg) : evE cs cal (.one a) e = evE cs cal a e := (rfl)
@[simp] theorem ev_not (a : E) (e : Sg) : evE cs cal (.not a) e = (evE cs cal a e).bind fun x => (truthy x).bind fun t => .ok (.bool (!t)) := (rfl)
@[simp] theorem ev_ite (c a b : E) (e : Sg) : evE cs cal (.ite c a b) e = (evE cs cal c e).bind fun x => (truthy x).bind fun t => if t = true then evE cs cal a e else evE cs cal b e := (rfl)
@[simp] theorem ev_nil (e : Sg) : evE cs cal .nil e = .ok (.list []) := (rfl)
@[simp] theorem ev_cons (a r : E) (e : Sg) : evE cs cal (.cons a r) e = (evE cs cal a e).bind fun x => ((evE cs cal r e).bind unL).bind fun xs => .ok (.list (x :: xs)) := (rfl)
@[simp] theorem ev_tup (a : E) (e : Sg) : evE cs cal (.tup a) e = ((evE cs cal a e).bind unL).bind fun xs => grd (fitL xs.length) (.ok (.tuple xs)) := (rfl)
@[simp] theorem ev_lst (a : E) (e : Sg) : evE cs cal (.lst a) e = ((evE cs cal a e).bind unL).bind fun xs => grd (fitL xs.length) (.ok (.list xs)) := (rfl)
@[simp] theorem ev_idx (a b : E) (e : Sg) : evE cs cal (.idx a b) e = (evE cs cal a e).bind fun x => (evE cs cal b e).bind fun y => idxD (unk x) y := (rfl)
@[simp] theorem ev_call (f : Nat) (es : E) (e : Sg) : evE cs cal (.call f es) e = ((evE cs cal es e).bind unL).bind fun xs => cal f xs := (rfl)
@[simp] theorem ev_blt (b : Blt) (es : E) (e : Sg) : evE cs cal (.blt b es) e = ((evE cs cal es e).bind unL).bind fun xs => bltD b xs := (rfl)
theorem ev_rep (a b : E) (e : Sg) : evE cs cal (.rep a b) e = (evE cs cal a e).bind fun x => (evE cs cal b e).bind fun y => repD x y := (rfl)
theorem ev_gcd (es : E) (e : Sg) : evE cs cal (.gcd es) e = ((evE cs cal es e).bind unL).bind gcdD := (rfl)
theorem ev_sidx (a b : E) (e : Sg) : evE cs cal (.sidx a b) e = (evE cs cal a e).bind fun x => (asStr x).bind fun z => (evE cs cal b e).bind fun y => sidxD z y := (rfl)
@[simp] theorem ev_neg (a : E) (e : Sg) : evE cs cal (.neg a) e = (evE cs cal a e).bind fun x => match x with
    | .int i => .ok (.int (-i))
    | _ => .stuck := (rfl)
theorem ev_glb (j : Nat) (e : Sg) : evE cs cal (.glb j) e = match cs[j]? with
    | some d => .ok d
    | none => .stuck := (rfl)
@[simp] theorem getS_0 (d : D) (r : Sg) : getS (some d :: r) 0 = .ok d := (rfl)
@[simp] theorem getS_s (x : Option D) (r : Sg) (i : Nat) : getS (x :: r) (i + 1) = getS r i := (rfl)
@[simp] theorem unL_l (l : List D) : unL (.list l) = .ok l := (rfl)
/-! statements -/
@[simp] theorem es_skip (e : Sg) : evS cs cal W .skip e = .nx e := (rfl)
@[simp] theorem es_seq (a b : S) (e : Sg) : evS cs cal W (.seq a b) e = (evS cs cal W a e).seq fun e1 => evS cs cal W b e1 := (rfl)
@[simp] theorem es_set (tg : T) (x : E) (e : Sg) : evS cs cal W (.set tg x) e = (evE cs cal x e).go e fun d => (asg tg d e).go e fun e1 => .nx e1 := (rfl)
@[simp] theorem es_ite (c : E) (a b : S) (e : Sg) : evS cs cal W (.ite c a b) e = (evE cs cal c e).go e fun x => (truthy x).go e fun t => if t = true then evS cs cal W a e else evS cs cal W b e := (rfl)
@[simp] theorem es_par (i j : Nat) (es : E) (e : Sg) : evS cs cal W (.par i j es) e = ((evE cs cal es e).bind unL).go e fun l => match l with
    | [x, y] => .nx ((e.set i (some x)).set j (some y))
    | _ => .stk := (rfl)
@[simp] theorem es_ret (x : E) (e : Sg) : evS cs cal W (.ret x) e = (evE cs cal x e).go e fun d => .rt d := (rfl)
@[simp] theorem es_drop (x : E) (e : Sg) : evS cs cal W (.drop x) e = (evE cs cal x e).go e fun _ => .nx e := (rfl)
@[simp] theorem es_app (i : Nat) (x : E) (e : Sg) : evS cs cal W (.app i x) e = ((getS e i).bind unL).go e fun xs => (evE cs cal x e).go e fun d => (grd (fitL (xs.length + 1)) (.ok (e.set i (some (.list (xs ++ [d]))))) : R Sg).go e .nx := (rfl)
theorem es_for (k : ItK) (src : E) (tg : T) (body : S) (e : Sg) : evS cs cal W (.for_ k src tg body) e = (((evE cs cal src e).bind unL).bind (itD k)).go e fun its => forGo (fun x e => (asg tg x e).go e fun e1 => evS cs cal W body e1) its e := (rfl)
theorem es_while (c : E) (body : S) (e : Sg) : evS cs cal W (.while_ c body) e = whileGo (fun e => (evE cs cal c e).bind truthy) (fun e => evS cs cal W body e) W e := (rfl)
@[simp] theorem asg_nm (i : Nat) (d : D) (e : Sg) : asg (.nm i) d e = .ok (e.set i (some d)) := by unfold asg; rfl
theorem asg_t2 (a b : T) (x y : D) (e : Sg) : asg (.tup 2 (.cons a (.cons b .nil))) (.tuple [x, y]) e = (asg a x e).bind fun e1 => asg b y e1 := by
  show grd (2 == 2) (asg (.cons a (.cons b .nil)) (.tuple [x, y]) e) = _
  show asg (.cons a (.cons b .nil)) (.tuple [x, y]) e = _
  rw [show asg (.cons a (.cons b .nil)) (.tuple [x, y]) e = ((asg a x e).bind fun e1 => asg (.cons b .nil) (.tuple [y]) e1) from by rw [asg]]
  congr 1
  funext e1
  rw [show asg (.cons b .nil) (.tuple [y]) e1 = ((asg b y e1).bind fun e2 => asg .nil (.tuple []) e2) from by rw [asg]]
  cases h : asg b y e1 with
  | ok e2 => show asg .nil (.tuple []) e2 = _; rw [asg]
  | exc c a => rfl
  | stuck => rfl
/-! one clause, no test -/
theorem lcGo_map {F : D → R (List D)} {g : D → D} : ∀ {xs : List D}, (∀ x ∈ xs, F x = .ok [g x]) → lcGo F xs = .ok (xs.map g)
  | [], _ => rfl
  | x :: xs, h => by
    unfold lcGo
    rw [h x (by simp), lcGo_map fun y hy => h y (by simp [hy])]
    rfl
theorem ev_lc {k : ItK} {src elt : E} {tg : T} {own : List Nat} {e : Sg} {xs : List D} (g : D → D) (h1 : ((evE cs cal src e).bind unL).bind (itD k) = .ok xs) (h2 : ∀ x ∈ xs, ((asg tg x (clr own e)).bind fun e1 => evE cs cal elt e1) = .ok (g x)) (h3 : xs.length ≤ 16777216) :
    evE cs cal (.lc k src tg (.bl true) elt own) e = .ok (.list (xs.map g)) := by
  have turn : ∀ x ∈ xs, nox ((asg tg x (clr own e)).bind fun e1 => (evE cs cal (.bl true) e1).bind fun c => (truthy c).bind fun t => if t = true then (evE cs cal elt e1).bind fun y => (.ok [y] : R (List D)) else .ok []) = .ok [g x] := by
    intro x hx
    have h := h2 x hx
    cases ha : asg tg x (clr own e) with
    | ok e1 =>
      rw [ha] at h
      have h : evE cs cal elt e1 = .ok (g x) := h
      show nox ((evE cs cal elt e1).bind fun y => (.ok [y] : R (List D))) = _
      rw [h]
      rfl
    | exc c a => rw [ha] at h; cases h
    | stuck => rw [ha] at h; cases h
  have fit : fitL (xs.map g).length = true := decide_eq_true (by simpa using h3)
  have lp := lcGo_map turn
  have e1 : evE cs cal (.lc k src tg (.bl true) elt own) e = (((evE cs cal src e).bind unL).bind (itD k)).bind (fun its => (lcGo (fun x => nox ((asg tg x (clr own e)).bind fun e1 => (evE cs cal (.bl true) e1).bind fun c => (truthy c).bind fun t => if t = true then (evE cs cal elt e1).bind fun y => (.ok [y] : R (List D)) else .ok [])) its).bind fun ys => grd (fitL ys.length) (.ok (PyData.list ys))) := rfl
  rw [e1, h1]
  simp only [R.bind_ok]
  rw [lp]
  simp only [R.bind_ok, fit, grd_true]
/-! a loop with a word that stays -/
theorem forGo_inv {f : D → Sg → O} (I : Sg → Prop) : ∀ {xs : List D} {e : Sg}, (∀ x ∈ xs, ∀ e, I e → ∃ e1, f x e = .nx e1 ∧ I (mask e e1)) → I e → ∃ e', forGo f xs e = .nx e' ∧ I e'
  | [], e, _, h => ⟨e, rfl, h⟩
  | x :: xs, e, hs, h => by
    obtain ⟨e1, h1, h2⟩ := hs x (by simp) e h
    obtain ⟨e', h3, h4⟩ := forGo_inv I (xs := xs) (e := mask e e1) (fun y hy => hs y (by simp [hy])) h2
    refine ⟨e', ?_, h4⟩
    show (f x e).seq (fun e1 => forGo f xs (mask e e1)) = _
    rw [h1]
    exact h3
/-- .. by the turn -/
theorem forGo_ix {f : D → Sg → O} (I : Nat → Sg → Prop) : ∀ {xs : List D} {n : Nat} {e : Sg}, (∀ (t : Nat) x, xs[t]? = some x → ∀ e, I (n + t) e → ∃ e1, f x e = .nx e1 ∧ I (n + t + 1) (mask e e1)) → I n e → ∃ e', forGo f xs e = .nx e' ∧ I (n + xs.length) e'
  | [], n, e, _, h => ⟨e, rfl, h⟩
  | x :: xs, n, e, hs, h => by
    obtain ⟨e1, h1, h2⟩ := hs 0 x rfl e h
    obtain ⟨e', h3, h4⟩ := forGo_ix I (xs := xs) (n := n + 1) (e := mask e e1) (fun t y hy e he => by
      have := hs (t + 1) y (by simpa using hy) e (by rw [show n + (t + 1) = n + 1 + t by omega]; exact he)
      rw [show n + (t + 1) = n + 1 + t by omega] at this
      exact this) h2
    refine ⟨e', ?_, by rw [show n + (x :: xs).length = n + 1 + xs.length by simp; omega]; exact h4⟩
    show (f x e).seq (fun e1 => forGo f xs (mask e e1)) = _
    rw [h1]
    exact h3
end
/-! values -/
@[simp] theorem cmp_eqI (i j : Int) : cmpD .eq (.int i) (.int j) = .ok (decide (i = j)) := by
  simp [cmpD, flat, SeqAt.shaped, PyData.canLay0, PyData.depth, PyData.eqv]
  exact Bool.eq_iff_iff.mpr (by simp)
@[simp] theorem cmp_neI (i j : Int) : cmpD .ne (.int i) (.int j) = .ok (!decide (i = j)) := by
  simp [cmpD, flat, SeqAt.shaped, PyData.canLay0, PyData.depth, PyData.eqv]
  exact Bool.eq_iff_iff.mpr (by simp)
theorem cmp_eqS {i j : Str} (hi : PyData.strOk i = true) (hj : PyData.strOk j = true) : cmpD .eq (.str i) (.str j) = .ok (i == j) := by
  simp [cmpD, flat, SeqAt.shaped, PyData.canLay0, PyData.depth, PyData.eqv, hi, hj]
theorem cmp_neS {i j : Str} (hi : PyData.strOk i = true) (hj : PyData.strOk j = true) : cmpD .ne (.str i) (.str j) = .ok (!(i == j)) := by
  simp [cmpD, flat, SeqAt.shaped, PyData.canLay0, PyData.depth, PyData.eqv, hi, hj]
@[simp] theorem cmp_lt (i j : Int) : cmpD .lt (.int i) (.int j) = .ok (decide (i < j)) := (rfl)
@[simp] theorem cmp_le (i j : Int) : cmpD .le (.int i) (.int j) = .ok (decide (i ≤ j)) := (rfl)
@[simp] theorem cmp_gt (i j : Int) : cmpD .gt (.int i) (.int j) = .ok (decide (j < i)) := (rfl)
@[simp] theorem cmp_ge (i j : Int) : cmpD .ge (.int i) (.int j) = .ok (decide (j ≤ i)) := (rfl)
@[simp] theorem trB (b : Bool) : truthy (.bool b) = .ok b := (rfl)
def mx (a b : Int) : Int := if a < b then b else a
def mn (a b : Int) : Int := if b < a then b else a
theorem blt_max (a b : Int) : bltD .max [.int a, .int b] = .ok (.int (mx a b)) := (rfl)
theorem blt_min (a b : Int) : bltD .min [.int a, .int b] = .ok (.int (mn a b)) := (rfl)
@[simp] theorem blt_int (a : Int) : bltD .int [.int a] = .ok (.int a) := (rfl)
@[simp] theorem blt_intB (b : Bool) : bltD .int [.bool b] = .ok (.int (if b = true then 1 else 0)) := (rfl)
@[simp] theorem blt_abs (a : Int) : bltD .abs [.int a] = .ok (.int (if a < 0 then -a else a)) := (rfl)
@[simp] theorem blt_len (l : List D) : bltD .len [.list l] = .ok (.int l.length) := (rfl)
@[simp] theorem bin_add (i j : Int) : binD .add (.int i) (.int j) = .ok (.int (i + j)) := (rfl)
@[simp] theorem bin_sub (i j : Int) : binD .sub (.int i) (.int j) = .ok (.int (i - j)) := (rfl)
theorem bin_mul {i j : Int} (h : mulOk i j = true) : binD .mul (.int i) (.int j) = .ok (.int (i * j)) := by
  show grd (mulOk i j) _ = _
  rw [h]
  rfl
theorem mulOk_of {a b : Int} (ha : a.natAbs < 2 ^ 64) (hb : b.natAbs < 2 ^ 64) : mulOk a b = true := by
  unfold mulOk
  have h1 : a.natAbs.log2 ≤ 64 := by
    by_cases z : a.natAbs = 0
    · rw [z]; decide
    · exact Nat.le_of_lt ((Nat.log2_lt z).mpr ha)
  have h2 : b.natAbs.log2 ≤ 64 := by
    by_cases z : b.natAbs = 0
    · rw [z]; decide
    · exact Nat.le_of_lt ((Nat.log2_lt z).mpr hb)
  exact decide_eq_true (by omega)
theorem ints_map : ∀ ns : List Int, intsOf (ns.map PyData.int) = .ok ns
  | [] => rfl
  | n :: ns => by
    show ((intsOf (ns.map PyData.int)).bind fun m => (R.ok (n :: m) : R (List Int))) = _
    rw [ints_map ns]
    rfl
theorem blt_sum (ns : List Int) : bltD .sum [.list (ns.map PyData.int)] = .ok (.int ns.sum) := by
  show (intsOf (ns.map PyData.int)).bind sumL = _
  rw [ints_map]
  rfl
end Mt
/-! Plain laws: the two defs that every law has, _law_draws and _law_mix. -/
namespace Mt
open PySem
def bMix : S := (.seq (.set (.nm 3) (.int 0))
  (.seq (.ite (.cmp .gt (.blt .len (.cons (.var 0) .nil)) (.int 0)) (.seq (.set (.nm 3) (.idx (.var 0) (.bin .mod (.blt .int (.cons (.var 1) .nil)) (.blt .len (.cons (.var 0) .nil)))))
  .skip)
  .skip)
  (.seq (.ite (.cmp .lt (.var 1) (.blt .len (.cons (.var 0) .nil))) (.seq (.ret (.bin .mod (.blt .int (.cons (.var 3) .nil)) (.var 2)))
  .skip)
  .skip)
  (.seq (.ret (.bin .mod (.blt .int (.cons (.bin .fdiv (.blt .int (.cons (.bin .add (.bin .mul (.var 3) (.int 7919)) (.bin .mul (.var 1) (.int 104729))) .nil)) (.int 3)) .nil)) (.var 2)))
  .skip))))
/-- draws that may stand -/
structure Dr (ds : List Int) : Prop where
  few : ds.length ≤ 100000
  rg : ∀ x ∈ ds, 0 ≤ x ∧ x < 65536
theorem bin_mod {i j : Int} (h : 0 < j) : binD .mod (.int i) (.int j) = .ok (.int (i % j)) := by
  show grd (decide (0 < j)) _ = _
  rw [decide_eq_true h]
  rfl
theorem bin_fdiv {i j : Int} (h : 0 < j) (k : j.natAbs < 2 ^ 64) : binD .fdiv (.int i) (.int j) = .ok (.int (i / j)) := by
  have : j.natAbs.log2 < 9000 := by
    by_cases z : j.natAbs = 0
    · rw [z]; decide
    · have := (Nat.log2_lt z).mpr k
      omega
  show grd (decide (0 < j) && decide (j.natAbs.log2 < 9000)) _ = _
  rw [decide_eq_true h, decide_eq_true this]
  rfl
theorem idx_at {ds : List Int} {i : Int} (h0 : 0 ≤ i) (h1 : i < ds.length) : ∃ x ∈ ds, idxD (.list (ds.map PyData.int)) (.int i) = .ok (.int x) := by
  have hi : i.toNat < ds.length := by omega
  refine ⟨ds[i.toNat], List.getElem_mem hi, ?_⟩
  show atD (ds.map PyData.int) i = _
  have e : L2.atI (ds.map PyData.int) i = some (.int ds[i.toNat]) := by
    unfold L2.atI L2.ixN
    rw [List.length_map, if_pos h0, if_pos h1]
    simp [hi]
  unfold atD
  rw [e]
section
variable {cs : List D} {cal : Nat → List D → R D} {W : Nat}
theorem mix_ok {nm : Str} {sl : List Str} (hs : sl.length = 4) {ds : List Int} (hd : Dr ds) {k many : Int} (k0 : 0 ≤ k) (k1 : k ≤ 1000000) (m0 : 0 < many) :
    ∃ m, runF cs W cal ⟨nm, 3, sl, bMix, false⟩ [.list (ds.map PyData.int), .int k, .int many] = .ok (.int m) ∧ 0 ≤ m ∧ m < many := by
  have fin : ∀ x : Int, 0 ≤ x % many ∧ x % many < many := fun x => ⟨Int.emod_nonneg _ (by omega), Int.emod_lt_of_pos _ m0⟩
  have len : bltD .len [.list (ds.map PyData.int)] = .ok (.int ds.length) := by rw [blt_len, List.length_map]
  -- the cell
  have cell : ∃ c : Int, 0 ≤ c ∧ c < 65536 ∧ evS cs cal W bMix [some (.list (ds.map PyData.int)), some (.int k), some (.int many), none] =
      (if k < ds.length then O.rt (.int (c % many)) else O.rt (.int ((c * 7919 + k * 104729) / 3 % many))) := by
    by_cases hl : (0 : Int) < ds.length
    · obtain ⟨x, hx, e⟩ := idx_at (ds := ds) (i := k % ds.length) (Int.emod_nonneg _ (by omega)) (Int.emod_lt_of_pos _ hl)
      obtain ⟨x0, x1⟩ := hd.rg x hx
      refine ⟨x, x0, x1, ?_⟩
      have m1 : mulOk x 7919 = true := mulOk_of (by omega) (by omega)
      have m2 : mulOk k 104729 = true := mulOk_of (by omega) (by omega)
      have f3 : (0 : Int) < 3 := by omega
      have hl' : 0 < ds.length := by omega
      by_cases hk : k < ds.length
      · simp [bMix, es_seq, es_set, es_ite, es_ret, es_skip, ev_int, ev_cmp, ev_blt, ev_cons, ev_nil, ev_var, ev_idx, ev_bin, getS_0, getS_s, unL_l, len, asg_nm, cmp_gt, cmp_lt, trB, hl', bin_mod hl, blt_int, e, hk, bin_mod m0]
      · simp [bMix, es_seq, es_set, es_ite, es_ret, es_skip, ev_int, ev_cmp, ev_blt, ev_cons, ev_nil, ev_var, ev_idx, ev_bin, getS_0, getS_s, unL_l, len, asg_nm, cmp_gt, cmp_lt, trB, hl', bin_mod hl, blt_int, e, hk, bin_mod m0, bin_mul m1, bin_mul m2, bin_add, bin_fdiv f3]
    · refine ⟨0, by omega, by omega, ?_⟩
      have m1 : mulOk 0 7919 = true := mulOk_of (by omega) (by omega)
      have m2 : mulOk k 104729 = true := mulOk_of (by omega) (by omega)
      have f3 : (0 : Int) < 3 := by omega
      have h0 : ds = [] := by
        cases ds with
        | nil => rfl
        | cons x r => exact absurd (show (0 : Int) < ((x :: r).length : Nat) by simp) hl
      subst h0
      have hk : ¬ k < 0 := by omega
      simp [bMix, es_seq, es_set, es_ite, es_ret, es_skip, ev_int, ev_cmp, ev_blt, ev_cons, ev_nil, ev_var, ev_idx, ev_bin, getS_0, getS_s, unL_l, blt_len, asg_nm, cmp_gt, cmp_lt, trB, blt_int, hk, bin_mod m0, bin_mul m1, bin_mul m2, bin_add, bin_fdiv f3]
  obtain ⟨c, c0, c1, e⟩ := cell
  have run : runF cs W cal ⟨nm, 3, sl, bMix, false⟩ [.list (ds.map PyData.int), .int k, .int many] = (evS cs cal W bMix [some (.list (ds.map PyData.int)), some (.int k), some (.int many), none]).end_ := by
    unfold runF
    rw [hs]
    rfl
  rw [run, e]
  by_cases hk : k < ds.length
  · rw [if_pos hk]
    exact ⟨_, rfl, fin _⟩
  · rw [if_neg hk]
    exact ⟨_, rfl, fin _⟩

/-! ### the draws -/
def bBig : S := (.seq (.ite (.cmp .gt (.var 3) (.int 0)) (.seq (.app 1 (.bin .mod (.blt .int (.cons (.var 3) .nil)) (.int 65536)))
  (.seq (.set (.nm 3) (.bin .fdiv (.var 3) (.int 65536)))
  .skip))
  .skip)
  .skip)
def bSmall : S := (.seq (.set (.nm 5) (.bin .mod (.blt .int (.cons (.bin .add (.bin .mul (.var 3) (.int 48271)) (.bin .mul (.bin .add (.var 2) (.int 1)) (.int 69621))) .nil)) (.int 2147483647)))
  (.seq (.set (.nm 5) (.bin .mod (.blt .int (.cons (.bin .add (.bin .add (.bin .mul (.var 5) (.int 16807)) (.bin .mul (.int 11) (.var 2))) (.int 5)) .nil)) (.int 2147483629)))
  (.seq (.app 1 (.bin .mod (.blt .int (.cons (.var 5) .nil)) (.int 65536)))
  (.seq (.app 1 (.bin .mod (.blt .int (.cons (.bin .fdiv (.var 5) (.int 65536)) .nil)) (.int 32768)))
  .skip))))
def bTurn : S := (.seq (.set (.nm 3) (.blt .abs (.cons (.idx (.var 0) (.var 2)) .nil)))
  (.seq (.ite (.cmp .ge (.var 3) (.bin .pow (.int 10) (.int 18))) (.seq (.for_ .rng1 (.cons (.int 60) .nil) (.nm 4) bBig)
  .skip)
  bSmall)
  .skip))
def bDraws : S := (.seq (.set (.nm 1) (.lst .nil))
  (.seq (.for_ .rng1 (.cons (.blt .min (.cons (.int 63) (.cons (.blt .len (.cons (.var 0) .nil)) .nil))) .nil) (.nm 2) bTurn)
  (.seq (.ret (.var 1))
  .skip)))
theorem Dr.add {ds : List Int} (h : Dr ds) {x : Int} (hl : ds.length + 1 ≤ 100000) (h0 : 0 ≤ x) (h1 : x < 65536) : Dr (ds ++ [x]) :=
  ⟨by simpa using hl, fun y hy => by
    rcases List.mem_append.mp hy with hy | hy
    · exact h.rg y hy
    · simp at hy
      subst hy
      exact ⟨h0, h1⟩⟩
abbrev eD (sc : D) (ds : List Int) (k rest t m : Option D) : Sg := [some sc, some (.list (ds.map PyData.int)), k, rest, t, m]
theorem app1 {sc : D} {ds : List Int} {k rest t m : Option D} {x : E} {y : Int} (hx : evE cs cal x (eD sc ds k rest t m) = .ok (.int y)) (hl : ds.length + 1 ≤ 100000) : evS cs cal W (.app 1 x) (eD sc ds k rest t m) = .nx (eD sc (ds ++ [y]) k rest t m) := by
  have f : fitL (ds.length + 1) = true := decide_eq_true (by omega)
  rw [es_app]
  have g : (getS (eD sc ds k rest t m) 1).bind unL = .ok (ds.map PyData.int) := rfl
  rw [g, hx]
  simp [f]
theorem big_ok {sc k : D} : ∀ (n : Nat) {ds : List Int} {r : Int}, Dr ds → ds.length + 60 ≤ 100000 → n ≤ 60 → 0 ≤ r → ∃ ds' r', Dr ds' ∧ 0 ≤ r' ∧ ds'.length ≤ ds.length + 60 ∧
    evS cs cal W (.for_ .rng1 (.cons (.int 60) .nil) (.nm 4) bBig) (eD sc ds (some k) (some (.int r)) none none) = .nx (eD sc ds' (some k) (some (.int r')) none none) := by
  intro n ds r hd hl _ hr
  have it : ((evE cs cal (.cons (.int 60) .nil) (eD sc ds (some k) (some (.int r)) none none)).bind unL).bind (itD .rng1) = .ok ((List.range 60).map fun i : Nat => .int i) := rfl
  obtain ⟨e', h1, ds', r', h2, h3, h4, h5⟩ := forGo_ix (f := fun x e => (asg (.nm 4) x e).go e fun e1 => evS cs cal W bBig e1) (fun t e => ∃ ds' r', Dr ds' ∧ 0 ≤ r' ∧ ds'.length ≤ ds.length + t ∧ e = eD sc ds' (some k) (some (.int r')) none none)
    (xs := (List.range 60).map fun i : Nat => .int i) (n := 0) (e := eD sc ds (some k) (some (.int r)) none none) (fun t x hx e ⟨ds', r', h1, h2, h3, h4⟩ => by
      have ht : t < 60 := by
        have := (List.getElem?_eq_some_iff.mp hx).1
        simpa using this
      subst h4
      by_cases hp : 0 < r'
      · have a1 := app1 (cs := cs) (cal := cal) (W := W) (sc := sc) (ds := ds') (k := some k) (rest := some (.int r')) (t := some x) (m := none) (x := .bin .mod (.blt .int (.cons (.var 3) .nil)) (.int 65536)) (y := r' % 65536)
          (by simp [ev_bin, ev_blt, ev_cons, ev_nil, ev_var, ev_int, getS_0, getS_s, unL_l, blt_int, bin_mod (show (0 : Int) < 65536 by omega)]) (by omega)
        refine ⟨eD sc (ds' ++ [r' % 65536]) (some k) (some (.int (r' / 65536))) (some x) none, ?_, ds' ++ [r' % 65536], r' / 65536, h1.add (by omega) (Int.emod_nonneg _ (by omega)) (Int.emod_lt_of_pos _ (by omega)), Int.ediv_nonneg h2 (by omega), by simp; omega, ?_⟩
        · show (asg (.nm 4) x _).go _ (fun e1 => evS cs cal W bBig e1) = _
          rw [asg_nm]
          show evS cs cal W bBig (eD sc ds' (some k) (some (.int r')) (some x) none) = _
          unfold bBig
          simp only [unk_i, unk_l, unk_t, unk_s, unk_n, unk_b, es_seq, es_ite, es_skip, ev_cmp, ev_var, ev_int, getS_0, getS_s, R.bind_ok, R.go_ok, cmp_gt, trB, decide_eq_true hp, if_true, a1, O.seq_nx, es_set, ev_bin, bin_fdiv (show (0 : Int) < 65536 by omega) (show (65536 : Int).natAbs < 2 ^ 64 by decide), asg_nm]
          rfl
        · rfl
      · refine ⟨eD sc ds' (some k) (some (.int r')) (some x) none, ?_, ds', r', h1, h2, by omega, rfl⟩
        show (asg (.nm 4) x _).go _ (fun e1 => evS cs cal W bBig e1) = _
        rw [asg_nm]
        show evS cs cal W bBig (eD sc ds' (some k) (some (.int r')) (some x) none) = _
        unfold bBig
        simp only [unk_i, unk_l, unk_t, unk_s, unk_n, unk_b, es_seq, es_ite, es_skip, ev_cmp, ev_var, ev_int, getS_0, getS_s, R.bind_ok, R.go_ok, cmp_gt, trB, decide_eq_false hp, Bool.false_eq_true, if_false, O.seq_nx])
    ⟨ds, r, hd, hr, by omega, rfl⟩
  refine ⟨ds', r', h2, h3, by simpa using h4, ?_⟩
  rw [es_for, it]
  show forGo _ _ _ = _
  rw [h1, h5]
theorem small_ok' {sc : D} {k : Int} {ds : List Int} {r : Int} (hd : Dr ds) (hl : ds.length + 2 ≤ 100000) (hr : 0 ≤ r) (hr2 : r < 10 ^ 18) (k0 : 0 ≤ k) (k1 : k < 1000) : ∃ ds' m', Dr ds' ∧ ds'.length ≤ ds.length + 2 ∧
    evS cs cal W bSmall (eD sc ds (some (.int k)) (some (.int r)) none none) = .nx (eD sc ds' (some (.int k)) (some (.int r)) none (some m')) := by
  have m1 : mulOk r 48271 = true := mulOk_of (by omega) (by omega)
  have m2 : mulOk (k + 1) 69621 = true := mulOk_of (by omega) (by omega)
  generalize hx : (r * 48271 + (k + 1) * 69621) % 2147483647 = x
  have x0 : 0 ≤ x := by rw [← hx]; exact Int.emod_nonneg _ (by omega)
  have x1 : x < 2147483647 := by rw [← hx]; exact Int.emod_lt_of_pos _ (by omega)
  have m3 : mulOk x 16807 = true := mulOk_of (by omega) (by omega)
  have m4 : mulOk 11 k = true := mulOk_of (by omega) (by omega)
  generalize hy : (x * 16807 + 11 * k + 5) % 2147483629 = y
  have y0 : 0 ≤ y := by rw [← hy]; exact Int.emod_nonneg _ (by omega)
  have a1 := app1 (cs := cs) (cal := cal) (W := W) (sc := sc) (ds := ds) (k := some (.int k)) (rest := some (.int r)) (t := none) (m := some (.int y)) (x := .bin .mod (.blt .int (.cons (.var 5) .nil)) (.int 65536)) (y := y % 65536)
    (by simp [ev_bin, ev_blt, ev_cons, ev_nil, ev_var, ev_int, getS_0, getS_s, unL_l, blt_int, bin_mod (show (0 : Int) < 65536 by omega)]) (by omega)
  have a2 := app1 (cs := cs) (cal := cal) (W := W) (sc := sc) (ds := ds ++ [y % 65536]) (k := some (.int k)) (rest := some (.int r)) (t := none) (m := some (.int y)) (x := .bin .mod (.blt .int (.cons (.bin .fdiv (.var 5) (.int 65536)) .nil)) (.int 32768)) (y := y / 65536 % 32768)
    (by simp [ev_bin, ev_blt, ev_cons, ev_nil, ev_var, ev_int, getS_0, getS_s, unL_l, blt_int, bin_mod (show (0 : Int) < 32768 by omega), bin_fdiv (show (0 : Int) < 65536 by omega) (show (65536 : Int).natAbs < 2 ^ 64 by decide)]) (by simp; omega)
  refine ⟨(ds ++ [y % 65536]) ++ [y / 65536 % 32768], .int y, (hd.add (by omega) (Int.emod_nonneg _ (by omega)) (Int.emod_lt_of_pos _ (by omega))).add (by simp; omega) (Int.emod_nonneg _ (by omega)) (by have := Int.emod_lt_of_pos (y / 65536) (show (0 : Int) < 32768 by omega); omega), by simp, ?_⟩
  unfold bSmall
  simp only [unk_i, unk_l, unk_t, unk_s, unk_n, unk_b, es_seq, es_set, es_skip, ev_bin, ev_blt, ev_cons, ev_nil, ev_var, ev_int, getS_0, getS_s, unL_l, R.bind_ok, R.go_ok, blt_int, bin_mul m1, bin_add, bin_mul m2, bin_mod (show (0 : Int) < 2147483647 by omega), hx, asg_nm, O.seq_nx, List.set_cons_succ, List.set_cons_zero]
  simp only [unk_i, unk_l, unk_t, unk_s, unk_n, unk_b, bin_mul m3, bin_mul m4, bin_add, R.bind_ok, unL_l, blt_int, bin_mod (show (0 : Int) < 2147483629 by omega), hy, R.go_ok, asg_nm, O.seq_nx, List.set_cons_succ, List.set_cons_zero]
  rw [a1]
  simp only [unk_i, unk_l, unk_t, unk_s, unk_n, unk_b, O.seq_nx]
  rw [a2]
  rfl
def absI (x : Int) : Int := if x < 0 then -x else x
theorem turn_ok {ns : List Int} {ds : List Int} {t : Nat} (hd : Dr ds) (hl : ds.length + 60 ≤ 100000) (ht : t < ns.length) (h63 : t < 63) : ∃ ds' e1, Dr ds' ∧ ds'.length ≤ ds.length + 60 ∧
    evS cs cal W bTurn (eD (.list (ns.map PyData.int)) ds (some (.int t)) none none none) = .nx e1 ∧
    mask (eD (.list (ns.map PyData.int)) ds none none none none) e1 = eD (.list (ns.map PyData.int)) ds' none none none none := by
  obtain ⟨x, _, hx⟩ := idx_at (ds := ns) (i := (t : Int)) (by omega) (by omega)
  have a0 : 0 ≤ absI x := by unfold absI; split <;> omega
  have st : evS cs cal W (.set (.nm 3) (.blt .abs (.cons (.idx (.var 0) (.var 2)) .nil))) (eD (.list (ns.map PyData.int)) ds (some (.int t)) none none none) = .nx (eD (.list (ns.map PyData.int)) ds (some (.int t)) (some (.int (absI x))) none none) := by
    simp only [unk_i, unk_l, unk_t, unk_s, unk_n, unk_b, es_set, ev_blt, ev_cons, ev_nil, ev_idx, ev_var, getS_0, getS_s, R.bind_ok, hx, unL_l, blt_abs, R.go_ok, asg_nm, List.set_cons_succ, List.set_cons_zero]
    rfl
  have pw : binD .pow (.int 10) (.int 18) = .ok (.int (10 ^ 18)) := rfl
  unfold bTurn
  simp only [unk_i, unk_l, unk_t, unk_s, unk_n, unk_b, es_seq]
  rw [st]
  simp only [unk_i, unk_l, unk_t, unk_s, unk_n, unk_b, O.seq_nx, es_ite, ev_cmp, ev_var, ev_bin, ev_int, getS_0, getS_s, R.bind_ok, pw, cmp_ge, R.go_ok, trB]
  by_cases hb : (10 : Int) ^ 18 ≤ absI x
  · obtain ⟨ds', r', h1, h2, h3, h4⟩ := big_ok (cs := cs) (cal := cal) (W := W) (sc := .list (ns.map PyData.int)) (k := .int t) 60 hd hl (by omega) a0
    refine ⟨ds', eD (.list (ns.map PyData.int)) ds' (some (.int t)) (some (.int r')) none none, h1, h3, ?_, rfl⟩
    rw [decide_eq_true hb, if_pos rfl, es_seq, h4]
    rfl
  · obtain ⟨ds', m', h1, h2, h3⟩ := small_ok' (cs := cs) (cal := cal) (W := W) (sc := .list (ns.map PyData.int)) (k := t) hd (by omega) a0 (by omega) (by omega) (by omega)
    refine ⟨ds', eD (.list (ns.map PyData.int)) ds' (some (.int t)) (some (.int (absI x))) none (some m'), h1, by omega, ?_, rfl⟩
    rw [decide_eq_false hb, if_neg Bool.false_ne_true]
    rw [h3]
    rfl
theorem draws_ok {nm : Str} {sl : List Str} (hs : sl.length = 6) (ns : List Int) : ∃ ds, Dr ds ∧ runF cs W cal ⟨nm, 1, sl, bDraws, false⟩ [.list (ns.map PyData.int)] = .ok (.list (ds.map PyData.int)) := by
  have len : bltD .len [.list (ns.map PyData.int)] = .ok (.int ns.length) := by rw [blt_len, List.length_map]
  have m0 : 0 ≤ mn 63 ns.length ∧ mn 63 ns.length ≤ 63 ∧ mn 63 ns.length ≤ ns.length := by unfold mn; split <;> omega
  have it : ((evE cs cal (.cons (.blt .min (.cons (.int 63) (.cons (.blt .len (.cons (.var 0) .nil)) .nil))) .nil) (eD (.list (ns.map PyData.int)) [] none none none none)).bind unL).bind (itD .rng1) = .ok ((List.range (mn 63 ns.length).toNat).map fun i : Nat => .int i) := by
    simp only [unk_i, unk_l, unk_t, unk_s, unk_n, unk_b, ev_cons, ev_blt, ev_int, ev_var, ev_nil, getS_0, getS_s, R.bind_ok, unL_l, len, blt_min]
    show grd (small (mn 63 ns.length)) _ = _
    have : small (mn 63 ns.length) = true := by
      unfold small
      rw [Bool.and_eq_true]
      exact ⟨decide_eq_true (by omega), decide_eq_true (by omega)⟩
    rw [this]
    rfl
  obtain ⟨e', h1, ds', h2, h3, h4⟩ := forGo_ix (f := fun x e => (asg (.nm 2) x e).go e fun e1 => evS cs cal W bTurn e1) (fun t e => ∃ ds', Dr ds' ∧ ds'.length ≤ 60 * t ∧ e = eD (.list (ns.map PyData.int)) ds' none none none none)
    (xs := (List.range (mn 63 ns.length).toNat).map fun i : Nat => .int i) (n := 0) (e := eD (.list (ns.map PyData.int)) [] none none none none) (fun t x hx e ⟨ds', h1, h2, h3⟩ => by
      have ht : t < (mn 63 ns.length).toNat := by
        have := (List.getElem?_eq_some_iff.mp hx).1
        simpa using this
      have ex : x = .int t := by
        rw [List.getElem?_map, List.getElem?_range ht] at hx
        cases hx
        rfl
      subst ex h3
      obtain ⟨ds2, e1, k1, k2, k3, k4⟩ := turn_ok (cs := cs) (cal := cal) (W := W) (ns := ns) (t := t) h1 (by omega) (by omega) (by omega)
      refine ⟨e1, ?_, ds2, k1, by omega, k4⟩
      show (asg (.nm 2) _ _).go _ (fun e1 => evS cs cal W bTurn e1) = _
      rw [asg_nm]
      exact k3)
    ⟨[], ⟨by simp, by simp⟩, by simp, rfl⟩
  refine ⟨ds', h2, ?_⟩
  have run : runF cs W cal ⟨nm, 1, sl, bDraws, false⟩ [.list (ns.map PyData.int)] = (evS cs cal W bDraws [some (.list (ns.map PyData.int)), none, none, none, none, none]).end_ := by
    unfold runF
    rw [hs]
    rfl
  rw [run]
  unfold bDraws
  have s0 : evS cs cal W (.set (.nm 1) (.lst .nil)) [some (.list (ns.map PyData.int)), none, none, none, none, none] = .nx (eD (.list (ns.map PyData.int)) [] none none none none) := by
    simp only [unk_i, unk_l, unk_t, unk_s, unk_n, unk_b, es_set, ev_lst, ev_nil, R.bind_ok, unL_l]
    show (R.ok _ : R D).go _ _ = _
    simp only [unk_i, unk_l, unk_t, unk_s, unk_n, unk_b, R.go_ok, asg_nm]
    rfl
  simp only [unk_i, unk_l, unk_t, unk_s, unk_n, unk_b, es_seq]
  rw [s0]
  simp only [unk_i, unk_l, unk_t, unk_s, unk_n, unk_b, O.seq_nx]
  rw [es_for, it]
  simp only [unk_i, unk_l, unk_t, unk_s, unk_n, unk_b, R.go_ok]
  rw [h1, h4]
  simp only [unk_i, unk_l, unk_t, unk_s, unk_n, unk_b, O.seq_nx, es_ret, ev_var, getS_0, getS_s, R.go_ok]
  rfl
end
end Mt
/-! Plain laws: more rules by which a reading is run. -/
namespace Mt
open PySem
theorem lcGo_enc {α : Type} {F : D → R (List D)} {enc : α → D} {h : α → List D} : ∀ {l : List α}, (∀ a ∈ l, F (enc a) = .ok (h a)) → lcGo F (l.map enc) = .ok (l.flatMap h)
  | [], _ => rfl
  | a :: l, hs => by
    rw [List.map_cons]
    unfold lcGo
    rw [hs a (by simp), lcGo_enc fun b hb => hs b (by simp [hb])]
    rfl
section
variable (cs : List D) (cal : Nat → List D → R D) (W : Nat)
theorem ev_lcM {α : Type} {k : ItK} {src cond elt : E} {tg : T} {own : List Nat} {e : Sg} (enc : α → D) (l : List α) (h : α → List D) (h1 : ((evE cs cal src e).bind unL).bind (itD k) = .ok (l.map enc))
    (h2 : ∀ a ∈ l, ((asg tg (enc a) (clr own e)).bind fun e1 => (evE cs cal cond e1).bind fun c => (truthy c).bind fun t => if t = true then (evE cs cal elt e1).bind fun y => (.ok [y] : R (List D)) else .ok []) = .ok (h a)) (h3 : (l.flatMap h).length ≤ 16777216) :
    evE cs cal (.lc k src tg cond elt own) e = .ok (.list (l.flatMap h)) := by
  have e1 : evE cs cal (.lc k src tg cond elt own) e = (((evE cs cal src e).bind unL).bind (itD k)).bind (fun its => (lcGo (fun x => nox ((asg tg x (clr own e)).bind fun e1 => (evE cs cal cond e1).bind fun c => (truthy c).bind fun t => if t = true then (evE cs cal elt e1).bind fun y => (.ok [y] : R (List D)) else .ok [])) its).bind fun ys => grd (fitL ys.length) (.ok (PyData.list ys))) := rfl
  have fit : fitL (l.flatMap h).length = true := decide_eq_true h3
  rw [e1, h1]
  simp only [R.bind_ok]
  rw [lcGo_enc fun a ha => by rw [h2 a ha]; rfl]
  simp only [R.bind_ok, fit, grd_true]
end
@[simp] theorem ev_slc (cs : List D) (cal : Nat → List D → R D) (a lo hi : E) (e : Sg) : evE cs cal (.slc a lo hi) e = (evE cs cal a e).bind fun x => (if lo.isNo = true then .ok none else (evE cs cal lo e).bind intO).bind fun l => (if hi.isNo = true then .ok none else (evE cs cal hi e).bind intO).bind fun h => sliceD x l h := (rfl)
@[simp] theorem ev_lst1s (cs : List D) (cal : Nat → List D → R D) (a b : E) (e : Sg) : evE cs cal (.lst1s a b) e = (evE cs cal a e).bind fun x => (evE cs cal b e).bind fun y => (seqL (unk y)).bind fun ys => grd (fitL (ys.length + 1)) (.ok (.list (x :: ys))) := (rfl)
@[simp] theorem ev_lens (cs : List D) (cal : Nat → List D → R D) (a : E) (e : Sg) : evE cs cal (.lens a) e = (evE cs cal a e).bind lensD := (rfl)
@[simp] theorem ev_sset (cs : List D) (cal : Nat → List D → R D) (a : E) (e : Sg) : evE cs cal (.sset a) e = (evE cs cal a e).bind ssetD := (rfl)
@[simp] theorem ev_dg (cs : List D) (cal : Nat → List D → R D) (kvs : List (Int × Str)) (a : E) (e : Sg) : evE cs cal (.dg kvs a) e = (evE cs cal a e).bind (dgD kvs) := (rfl)
theorem flat_if {α : Type} (p : α → Bool) (g : α → D) : ∀ l : List α, (l.flatMap fun a => if p a = true then [g a] else []) = (l.filter p).map g
  | [] => rfl
  | a :: l => by
    rw [List.flatMap_cons, flat_if p g l]
    cases h : p a <;> simp [h]
theorem enum_get : ∀ (xs : List D) (n i : Nat), (enumL n xs)[i]? = xs[i]?.map fun x => .tuple [.int ((n + i : Nat) : Int), x]
  | [], n, i => by simp [enumL]
  | x :: xs, n, 0 => by simp [enumL]
  | x :: xs, n, i + 1 => by
    show (enumL (n + 1) xs)[i]? = _
    rw [enum_get xs (n + 1) i]
    simp only [List.getElem?_cons_succ]
    rw [show n + 1 + i = n + (i + 1) by omega]
theorem enum_range {α : Type} (enc : α → D) (z : α) (l : List α) : enumL 0 (l.map enc) = (List.range l.length).map fun i : Nat => .tuple [.int i, enc (l.getD i z)] := by
  apply List.ext_getElem?
  intro i
  rw [enum_get]
  by_cases h : i < l.length
  · simp [h]
  · simp [h]
/-- the places at which p -/
def rx {α : Type} (z : α) (p : α → Bool) (l : List α) : List Nat := (List.range l.length).filter fun i => p (l.getD i z)
theorem mem_rx {α : Type} {z : α} {p : α → Bool} {l : List α} {i : Nat} : i ∈ rx z p l ↔ i < l.length ∧ p (l.getD i z) = true := by
  unfold rx
  rw [List.mem_filter, List.mem_range]
theorem atI_nat {α : Type} (l : List α) {i : Nat} (h : i < l.length) : L2.atI l (i : Int) = l[i]? := by
  unfold L2.atI L2.ixN
  rw [if_pos (by omega), if_pos (by omega)]
  simp
theorem idx_l {α : Type} (enc : α → D) (z : α) (l : List α) {i : Nat} (h : i < l.length) : idxD (.list (l.map enc)) (.int i) = .ok (enc (l.getD i z)) := by
  show atD _ _ = _
  unfold atD
  rw [atI_nat _ (by simpa using h)]
  simp [h]
theorem idx_ln {i : Nat} (l : List D) {d : D} (h : l[i]? = some d) : idxD (.list l) (.int i) = .ok d := by
  show atD _ _ = _
  unfold atD
  rw [atI_nat _ (List.getElem?_eq_some_iff.mp h).1, h]
theorem idx_tn {i : Nat} (l : List D) {d : D} (h : l[i]? = some d) : idxD (.tuple l) (.int i) = .ok d := by
  show atD _ _ = _
  unfold atD
  rw [atI_nat _ (List.getElem?_eq_some_iff.mp h).1, h]
@[simp] theorem idx_t0 (a : D) (r : List D) : idxD (.tuple (a :: r)) (.int 0) = .ok a := idx_tn (i := 0) (a :: r) rfl
@[simp] theorem idx_t1 (a b : D) (r : List D) : idxD (.tuple (a :: b :: r)) (.int 1) = .ok b := idx_tn (i := 1) (a :: b :: r) rfl
@[simp] theorem idx_l0 (a : D) (r : List D) : idxD (.list (a :: r)) (.int 0) = .ok a := idx_ln (i := 0) (a :: r) rfl
@[simp] theorem idx_l1 (a b : D) (r : List D) : idxD (.list (a :: b :: r)) (.int 1) = .ok b := idx_ln (i := 1) (a :: b :: r) rfl
@[simp] theorem idx_l2 (a b c : D) (r : List D) : idxD (.list (a :: b :: c :: r)) (.int 2) = .ok c := idx_ln (i := 2) (a :: b :: c :: r) rfl
@[simp] theorem c_isn (a : D) : cmpD .isn a .none = .ok (isNo a) := by cases a <;> rfl
@[simp] theorem c_isnn (a : D) : cmpD .isnn a .none = .ok (!isNo a) := by cases a <;> rfl
@[simp] theorem no_n : isNo PyData.none = true := (rfl)
@[simp] theorem no_i (i : Int) : isNo (PyData.int i) = false := (rfl)
@[simp] theorem no_s (i : Str) : isNo (PyData.str i) = false := (rfl)
/-- what repr bears, and what is compared as a text -/
def okR (d : D) : Bool := showOk d && PyData.strOk (PyData.shown d)
theorem blt_repr {d : D} (h : okR d = true) : bltD .repr [d] = .ok (.str (PyData.shown d)) := by
  unfold okR at h
  rw [Bool.and_eq_true] at h
  show grd (showOk d) _ = _
  rw [h.1]
  rfl
theorem ne_repr {d : D} (h : okR d = true) : cmpD .ne (.str (PyData.shown d)) (.str (PyData.shown d)) = .ok false := by
  unfold okR at h
  rw [Bool.and_eq_true] at h
  rw [cmp_neS h.2 h.2, beq_self_eq_true]
  rfl
/-- a list that has something is not the empty list -/
theorem ne_nil (l : List D) (h : flat (.list l) = true) : cmpD .ne (.list l) (.list []) = .ok (!l.isEmpty) := by
  show grd (flat (.list l) && flat (.list [])) (.ok (!PyData.eqv (.list l) (.list []))) = _
  rw [h]
  have e : PyData.eqv (.list l) (.list []) = l.isEmpty := by cases l <;> simp [PyData.eqv, PyData.eqvAll]
  rw [e]
  rfl
theorem flat_ints (l : List Int) : flat (.list (l.map PyData.int)) = true := by
  have h1 : ∀ l : List Int, PyData.canLayAll0 (l.map PyData.int) = true := by
    intro l
    induction l with
    | nil => rfl
    | cons x l ih => simp [PyData.canLayAll0, PyData.canLay0, ih]
  have h2 : ∀ l : List Int, PyData.depthAll (l.map PyData.int) = 0 := by
    intro l
    induction l with
    | nil => rfl
    | cons x l ih => simp [PyData.depthAll, PyData.depth, ih]
  simp [flat, SeqAt.shaped, PyData.canLay0, PyData.depth, h1, h2]
/-- a list of ints that is looked through -/
theorem any_ints (i : Int) (l : List Int) : (l.map PyData.int).any (fun z => PyData.eqv z (.int i)) = decide (i ∈ l) := by
  induction l with
  | nil => rfl
  | cons x l ih =>
    rw [List.map_cons, List.any_cons, ih]
    by_cases h : i = x
    · subst h
      simp [PyData.eqv]
    · have e : PyData.eqv (.int x) (.int i) = false := by
        simp [PyData.eqv]
        exact fun z => h z.symm
      rw [e]
      simp [h]
theorem in_ints (i : Int) (l : List Int) : cmpD .inn (.int i) (.list (l.map PyData.int)) = .ok (decide (i ∈ l)) := by
  show grd (flat (.int i) && flat (.list (l.map PyData.int))) (.ok ((l.map PyData.int).any fun z => PyData.eqv z (.int i))) = _
  rw [flat_ints, any_ints]
  rfl
theorem nin_ints (i : Int) (l : List Int) : cmpD .nin (.int i) (.list (l.map PyData.int)) = .ok (!decide (i ∈ l)) := by
  show grd (flat (.int i) && flat (.list (l.map PyData.int))) (.ok (!(l.map PyData.int).any fun z => PyData.eqv z (.int i))) = _
  rw [flat_ints, any_ints]
  rfl
/-- a loop in which nothing of the state stays changed -/
theorem forGo_id {f : D → Sg → O} {xs : List D} {e : Sg} (h : ∀ x ∈ xs, ∃ e1, f x e = .nx e1 ∧ mask e e1 = e) : forGo f xs e = .nx e := by
  obtain ⟨e', h1, h2⟩ := forGo_inv (f := f) (fun e' => e' = e) (xs := xs) (e := e) (fun x hx e' he => by
    subst he
    exact h x hx) rfl
  rw [h1, h2]
end Mt
namespace Mt
open PySem
theorem bin_cat {xs ys : List D} (h : xs.length + ys.length ≤ 16777216) : binD .add (.list xs) (.list ys) = .ok (.list (xs ++ ys)) := by
  show grd (fitL (xs.length + ys.length)) _ = _
  rw [show fitL (xs.length + ys.length) = true from decide_eq_true h]
  rfl
theorem cut_take {α : Type} (enc : α → D) (l : List α) {i : Nat} (h : i < l.length) : sliceD (.list (l.map enc)) none (some (i : Int)) = .ok (.list ((l.take i).map enc)) := by
  show R.ok (PyData.list (cutD (l.map enc) none (some (i : Int)))) = _
  unfold cutD
  rw [HT.sIx_none, HT.sIx_nat]
  simp [Nat.min_eq_left (Nat.le_of_lt h), List.map_take]
theorem cut_drop {α : Type} (enc : α → D) (l : List α) {i : Nat} (h : i < l.length) : sliceD (.list (l.map enc)) (some ((i : Int) + 1)) none = .ok (.list ((l.drop (i + 1)).map enc)) := by
  show R.ok (PyData.list (cutD (l.map enc) (some ((i : Int) + 1)) none)) = _
  unfold cutD
  have e : ((i : Int) + 1) = ((i + 1 : Nat) : Int) := by omega
  rw [HT.sIx_none, e, HT.sIx_nat]
  simp [Nat.min_eq_left (show i + 1 ≤ l.length from h), List.map_drop]
  rw [List.take_of_length_le (by simp)]
/-- l with x at i, from its parts -/
theorem put_parts {α : Type} (enc : α → D) (l : List α) (x : α) {i : Nat} (h : i < l.length) (hz : l.length ≤ 1000) :
    ((binD .add (.list ((l.take i).map enc)) (.list [enc x])).bind fun a => binD .add a (.list ((l.drop (i + 1)).map enc))) = .ok (.list ((l.set i x).map enc)) := by
  rw [bin_cat (by simp; omega)]
  simp only [R.bind_ok]
  rw [bin_cat (by simp; omega), List.set_eq_take_append_cons_drop, if_pos h]
  simp
end Mt
namespace L42
open PySem Mt
def xcls : List Str := ["BadLeaper", "BadSide", "BadSquare"]
def xws : List (Str × Str) := [("leaper", "BadLeaper"), ("side", "BadSide"), ("square", "BadSquare")]
def xt : XT := ⟨true, "ChessError", xcls, "_law_name", ["e", "words", "word", "is_it"], xws⟩
def f0 : Fn := ⟨"check_leaper", 1, ["leaper"], (.seq (.ite (.or (.not (.chn3 .le (.int 0) (.idx (.var 0) (.int 0)) .le (.idx (.var 0) (.int 1)) .le (.glb 0))) (.one (.cmp .eq (.idx (.var 0) (.int 1)) (.int 0)))) (.seq (.raise "BadLeaper" (.int 0))
  .skip)
  .skip)
  .skip), false⟩
def f1_b1 : S := (.seq (.ite (.not (.chn .le (.glb 1) (.var 2) .le (.glb 2))) (.seq (.raise "BadSide" (.var 2))
  .skip)
  .skip)
  .skip)
def f1 : Fn := ⟨"check_room", 2, ["room", "leaper", "side"], (.seq (.for_ .seq (.cons (.var 0) .nil) (.nm 2) f1_b1)
  (.seq (.drop (.call 0 (.cons (.var 1) .nil)))
  .skip)), false⟩
def f2_b1 : S := (.seq (.ite (.or (.not (.chn .le (.int 0) (.var 4) .lt (.idx (.var 0) (.int 0)))) (.one (.not (.chn .le (.int 0) (.var 5) .lt (.idx (.var 0) (.int 1)))))) (.seq (.raise "BadSquare" (.var 3))
  .skip)
  .skip)
  .skip)
def f2 : Fn := ⟨"check_squares", 3, ["room", "leaper", "squares", "k", "x", "y"], (.seq (.drop (.call 1 (.cons (.var 0) (.cons (.var 1) .nil))))
  (.seq (.for_ .enum (.cons (.var 2) .nil) (.tup 2 (.cons (.nm 3) (.cons (.tup 2 (.cons (.nm 4) (.cons (.nm 5) .nil))) .nil))) f2_b1)
  .skip)), false⟩
def f3_b1 : S := (.seq (.ite (.cmp .nin (.tup (.cons (.var 6) (.cons (.var 7) .nil))) (.bor 1)) (.seq (.app 1 (.tup (.cons (.var 6) (.cons (.var 7) .nil))))
  .skip)
  .skip)
  .skip)
def f3_b2 : S := (.seq (.for_ .seq (.cons (.tup (.cons (.var 5) (.cons (.neg (.var 5)) .nil))) .nil) (.nm 7) f3_b1)
  .skip)
def f3_b3 : S := (.seq (.for_ .seq (.cons (.tup (.cons (.var 4) (.cons (.neg (.var 4)) .nil))) .nil) (.nm 6) f3_b2)
  .skip)
def f3 : Fn := ⟨"leaps_of", 1, ["leaper", "found", "a", "b", "x", "y", "one", "two"], (.seq (.set (.tup 2 (.cons (.nm 2) (.cons (.nm 3) .nil))) (.var 0))
  (.seq (.set (.nm 1) (.lst .nil))
  (.seq (.for_ .seq (.cons (.tup (.cons (.tup (.cons (.var 2) (.cons (.var 3) .nil))) (.cons (.tup (.cons (.var 3) (.cons (.var 2) .nil))) .nil))) .nil) (.tup 2 (.cons (.nm 4) (.cons (.nm 5) .nil))) f3_b3)
  (.seq (.ret (.blt .sorted (.cons (.bor 1) .nil)))
  .skip)))), false⟩
def f4 : Fn := ⟨"leaps", 1, ["leaper"], (.seq (.drop (.call 0 (.cons (.var 0) .nil)))
  (.seq (.ret (.call 3 (.cons (.var 0) .nil)))
  .skip)), false⟩
def f5 : Fn := ⟨"class_of", 2, ["leaper", "square", "by", "both_odd", "a", "b", "x", "y"], (.seq (.drop (.call 0 (.cons (.var 0) .nil)))
  (.seq (.set (.tup 2 (.cons (.nm 4) (.cons (.nm 5) .nil))) (.var 0))
  (.seq (.set (.nm 2) (.gcd (.cons (.var 4) (.cons (.var 5) .nil))))
  (.seq (.set (.tup 2 (.cons (.nm 6) (.cons (.nm 7) .nil))) (.var 1))
  (.seq (.set (.nm 3) (.and (.cmp .eq (.bin .mod (.bin .fdiv (.var 4) (.var 2)) (.int 2)) (.int 1)) (.one (.cmp .eq (.bin .mod (.bin .fdiv (.var 5) (.var 2)) (.int 2)) (.int 1)))))
  (.seq (.ret (.tup (.cons (.bin .mod (.var 6) (.var 2)) (.cons (.bin .mod (.var 7) (.var 2)) (.cons (.ite (.var 3) (.bin .mod (.bin .add (.bin .fdiv (.var 6) (.var 2)) (.bin .fdiv (.var 7) (.var 2))) (.int 2)) (.int 0)) .nil)))))
  .skip)))))), false⟩
def f6 : Fn := ⟨"can_come", 3, ["leaper", "one", "two"], (.seq (.ret (.cmp .eq (.call 5 (.cons (.var 0) (.cons (.var 1) .nil))) (.call 5 (.cons (.var 0) (.cons (.var 2) .nil)))))
  .skip), false⟩
def f7_c1 : E := (.lc .seq (.cons (.call 3 (.cons (.var 1) .nil)) .nil) (.tup 2 (.cons (.nm 5) (.cons (.nm 6) .nil))) (.bl true) (.tup (.cons (.bin .add (.idx (.var 2) (.int 0)) (.var 5)) (.cons (.bin .add (.idx (.var 2) (.int 1)) (.var 6)) .nil))) [5, 6])
def f7_c2 : E := (.lc .seq (.cons (.var 3) .nil) (.nm 4) (.and (.chn .le (.int 0) (.idx (.var 4) (.int 0)) .lt (.idx (.var 0) (.int 0))) (.one (.chn .le (.int 0) (.idx (.var 4) (.int 1)) .lt (.idx (.var 0) (.int 1))))) (.var 4) [4])
def f7 : Fn := ⟨"near_of", 3, ["room", "leaper", "square", "found", "one", "x", "y"], (.seq (.set (.nm 3) f7_c1)
  (.seq (.ret f7_c2)
  .skip)), false⟩
def f8_c1 : E := (.lc2 .rng1 (.cons (.idx (.var 0) (.int 0)) .nil) (.nm 1) .rng1 (.cons (.idx (.var 0) (.int 1)) .nil) (.nm 2) (.bl true) (.tup (.cons (.var 1) (.cons (.var 2) .nil))) [1, 2] [2])
def f8 : Fn := ⟨"squares_of", 1, ["room", "x", "y"], (.seq (.ret f8_c1)
  .skip), false⟩
def f9_t1 : E := (.cmp .lt (.var 4) (.blt .len (.cons (.bor 3) .nil)))
def f9_c1 : E := (.lc .seq (.cons (.call 7 (.cons (.var 0) (.cons (.var 1) (.cons (.idx (.bor 3) (.var 4)) .nil)))) .nil) (.nm 5) (.cmp .nin (.var 5) (.bor 3)) (.var 5) [5])
def f9_b1 : S := (.seq (.ext 3 f9_c1)
  (.seq (.set (.nm 4) (.bin .add (.var 4) (.int 1)))
  .skip))
def f9 : Fn := ⟨"piece_of", 3, ["room", "leaper", "square", "found", "at", "one"], (.seq (.set (.nm 3) (.lst (.cons (.var 2) .nil)))
  (.seq (.set (.nm 4) (.int 0))
  (.seq (.while_ f9_t1 f9_b1)
  (.seq (.ret (.blt .sorted (.cons (.bor 3) .nil)))
  .skip)))), false⟩
def f10_b1 : S := (.seq (.put 3 (.var 6) (.blt .len (.cons (.bor 2) .nil)))
  .skip)
def f10_b2 : S := (.seq (.ite (.cmp .nin (.var 4) (.bor 3)) (.seq (.set (.nm 5) (.call 9 (.cons (.var 0) (.cons (.var 1) (.cons (.var 4) .nil)))))
  (.seq (.for_ .seq (.cons (.var 5) .nil) (.nm 6) f10_b1)
  (.seq (.app 2 (.var 5))
  .skip)))
  .skip)
  .skip)
def f10 : Fn := ⟨"pieces_of", 2, ["room", "leaper", "found", "met", "square", "piece", "one"], (.seq (.set (.nm 2) (.lst .nil))
  (.seq (.set (.nm 3) .emp)
  (.seq (.for_ .seq (.cons (.call 8 (.cons (.var 0) .nil)) .nil) (.nm 4) f10_b2)
  (.seq (.ret (.var 2))
  .skip)))), false⟩
def f11 : Fn := ⟨"pieces", 2, ["room", "leaper"], (.seq (.drop (.call 1 (.cons (.var 0) (.cons (.var 1) .nil))))
  (.seq (.ret (.call 10 (.cons (.var 0) (.cons (.var 1) .nil))))
  .skip)), false⟩
def f12 : Fn := ⟨"is_joined", 2, ["room", "leaper"], (.seq (.drop (.call 1 (.cons (.var 0) (.cons (.var 1) .nil))))
  (.seq (.ret (.cmp .eq (.blt .len (.cons (.call 10 (.cons (.var 0) (.cons (.var 1) .nil))) .nil)) (.int 1)))
  .skip)), false⟩
def f13_t1 : E := (.cmp .gt (.blt .len (.cons (.var 4) .nil)) (.int 0))
def f13_b1 : S := (.seq (.ite (.cmp .nin (.var 7) (.bor 3)) (.seq (.put 3 (.var 7) (.bin .add (.idx (.bor 3) (.var 6)) (.int 1)))
  (.seq (.app 5 (.var 7))
  .skip))
  .skip)
  .skip)
def f13_b2 : S := (.seq (.for_ .seq (.cons (.call 7 (.cons (.var 0) (.cons (.var 1) (.cons (.var 6) .nil)))) .nil) (.nm 7) f13_b1)
  .skip)
def f13_b3 : S := (.seq (.set (.nm 5) (.lst .nil))
  (.seq (.for_ .seq (.cons (.var 4) .nil) (.nm 6) f13_b2)
  (.seq (.set (.nm 4) (.var 5))
  .skip)))
def f13_c1 : E := (.dcc .seq (.cons (.blt .sorted (.cons (.bor 3) .nil)) .nil) (.nm 8) (.bl true) (.var 8) (.idx (.bor 3) (.var 8)) [8])
def f13 : Fn := ⟨"distances_of", 3, ["room", "leaper", "square", "found", "row", "later", "here", "there", "one"], (.seq (.set (.nm 3) (.dc1 (.var 2) (.int 0)))
  (.seq (.set (.nm 4) (.lst (.cons (.var 2) .nil)))
  (.seq (.while_ f13_t1 f13_b3)
  (.seq (.ret f13_c1)
  .skip)))), false⟩
def f14 : Fn := ⟨"distances", 3, ["room", "leaper", "square"], (.seq (.drop (.call 2 (.cons (.var 0) (.cons (.var 1) (.cons (.lst (.cons (.var 2) .nil)) .nil)))))
  (.seq (.ret (.call 13 (.cons (.var 0) (.cons (.var 1) (.cons (.var 2) .nil)))))
  .skip)), false⟩
def f15_t1 : E := (.cmp .ne (.idx (.bor 5) (.neg (.int 1))) (.var 3))
def f15_c1 : E := (.lc .seq (.cons (.call 7 (.cons (.var 0) (.cons (.var 1) (.cons (.idx (.bor 5) (.neg (.int 1))) .nil)))) .nil) (.nm 6) (.cmp .eq (.idx (.var 4) (.var 6)) (.bin .sub (.idx (.var 4) (.idx (.bor 5) (.neg (.int 1)))) (.int 1))) (.var 6) [6])
def f15_b1 : S := (.seq (.app 5 (.idx f15_c1 (.int 0)))
  .skip)
def f15 : Fn := ⟨"way", 4, ["room", "leaper", "one", "two", "far", "found", "there"], (.seq (.drop (.call 2 (.cons (.var 0) (.cons (.var 1) (.cons (.lst (.cons (.var 2) (.cons (.var 3) .nil))) .nil)))))
  (.seq (.set (.nm 4) (.call 13 (.cons (.var 0) (.cons (.var 1) (.cons (.var 3) .nil)))))
  (.seq (.ite (.cmp .nin (.var 2) (.var 4)) (.seq (.ret .non)
  .skip)
  .skip)
  (.seq (.set (.nm 5) (.lst (.cons (.var 2) .nil)))
  (.seq (.while_ f15_t1 f15_b1)
  (.seq (.ret (.var 5))
  .skip)))))), false⟩
def f16_c1 : E := (.lc .seq (.cons (.var 2) .nil) (.tup 2 (.cons (.nm 4) (.cons (.nm 5) .nil))) (.bl true) (.and (.chn .le (.int 0) (.var 4) .lt (.idx (.var 0) (.int 0))) (.one (.chn .le (.int 0) (.var 5) .lt (.idx (.var 0) (.int 1))))) [4, 5])
def f16_c2 : E := (.lc .rng1 (.cons (.bin .sub (.blt .len (.cons (.var 2) .nil)) (.int 1)) .nil) (.nm 3) (.bl true) (.cmp .inn (.idx (.var 2) (.bin .add (.var 3) (.int 1))) (.call 7 (.cons (.var 0) (.cons (.var 1) (.cons (.idx (.var 2) (.var 3)) .nil))))) [3])
def f16 : Fn := ⟨"is_way", 3, ["room", "leaper", "told", "k", "x", "y"], (.seq (.drop (.call 1 (.cons (.var 0) (.cons (.var 1) .nil))))
  (.seq (.ite (.or (.cmp .eq (.blt .len (.cons (.var 2) .nil)) (.int 0)) (.one (.not (.blt .all (.cons f16_c1 .nil))))) (.seq (.ret (.bl false))
  .skip)
  .skip)
  (.seq (.ret (.blt .all (.cons f16_c2 .nil)))
  .skip))), false⟩
def f17_b1 : S := (.seq (.ite (.or (.cmp .isn (.var 2) .non) (.one (.cmp .gt (.idx (.var 4) (.var 5)) (.idx (.var 2) (.int 0))))) (.seq (.set (.nm 2) (.tup (.cons (.idx (.var 4) (.var 5)) (.cons (.tup (.cons (.var 3) (.cons (.var 5) .nil))) .nil))))
  .skip)
  .skip)
  .skip)
def f17_b2 : S := (.seq (.set (.nm 4) (.call 13 (.cons (.var 0) (.cons (.var 1) (.cons (.var 3) .nil)))))
  (.seq (.forK 4 (.nm 5) f17_b1)
  .skip))
def f17 : Fn := ⟨"widest", 2, ["room", "leaper", "best", "square", "far", "other"], (.seq (.drop (.call 1 (.cons (.var 0) (.cons (.var 1) .nil))))
  (.seq (.set (.nm 2) .non)
  (.seq (.for_ .seq (.cons (.call 8 (.cons (.var 0) .nil)) .nil) (.nm 3) f17_b2)
  (.seq (.ret (.var 2))
  .skip)))), false⟩
def f18 : Fn := ⟨"_law_draws", 1, ["script", "draws", "k", "rest", "turn", "mixed"], (.seq (.set (.nm 1) (.lst .nil))
  (.seq (.for_ .rng1 (.cons (.blt .min (.cons (.int 63) (.cons (.blt .len (.cons (.var 0) .nil)) .nil))) .nil) (.nm 2) (.seq (.set (.nm 3) (.blt .abs (.cons (.idx (.var 0) (.var 2)) .nil)))
  (.seq (.ite (.cmp .ge (.var 3) (.bin .pow (.int 10) (.int 18))) (.seq (.for_ .rng1 (.cons (.int 60) .nil) (.nm 4) (.seq (.ite (.cmp .gt (.var 3) (.int 0)) (.seq (.app 1 (.bin .mod (.blt .int (.cons (.var 3) .nil)) (.int 65536)))
  (.seq (.set (.nm 3) (.bin .fdiv (.var 3) (.int 65536)))
  .skip))
  .skip)
  .skip))
  .skip)
  (.seq (.set (.nm 5) (.bin .mod (.blt .int (.cons (.bin .add (.bin .mul (.var 3) (.int 48271)) (.bin .mul (.bin .add (.var 2) (.int 1)) (.int 69621))) .nil)) (.int 2147483647)))
  (.seq (.set (.nm 5) (.bin .mod (.blt .int (.cons (.bin .add (.bin .add (.bin .mul (.var 5) (.int 16807)) (.bin .mul (.int 11) (.var 2))) (.int 5)) .nil)) (.int 2147483629)))
  (.seq (.app 1 (.bin .mod (.blt .int (.cons (.var 5) .nil)) (.int 65536)))
  (.seq (.app 1 (.bin .mod (.blt .int (.cons (.bin .fdiv (.var 5) (.int 65536)) .nil)) (.int 32768)))
  .skip)))))
  .skip)))
  (.seq (.ret (.var 1))
  .skip))), false⟩
def f19 : Fn := ⟨"_law_mix", 3, ["draws", "k", "many", "cell"], (.seq (.set (.nm 3) (.int 0))
  (.seq (.ite (.cmp .gt (.blt .len (.cons (.var 0) .nil)) (.int 0)) (.seq (.set (.nm 3) (.idx (.var 0) (.bin .mod (.blt .int (.cons (.var 1) .nil)) (.blt .len (.cons (.var 0) .nil)))))
  .skip)
  .skip)
  (.seq (.ite (.cmp .lt (.var 1) (.blt .len (.cons (.var 0) .nil))) (.seq (.ret (.bin .mod (.blt .int (.cons (.var 3) .nil)) (.var 2)))
  .skip)
  .skip)
  (.seq (.ret (.bin .mod (.blt .int (.cons (.bin .fdiv (.blt .int (.cons (.bin .add (.bin .mul (.var 3) (.int 7919)) (.bin .mul (.var 1) (.int 104729))) .nil)) (.int 3)) .nil)) (.var 2)))
  .skip)))), false⟩
def f20 : Fn := ⟨"_law_name", 1, ["e"], .stop, false⟩
def f21_b1 : S := (.seq (.ite (.cmp .eq (.var 0) (.int 0)) (.seq (.drop (.call 4 (.cons (.var 2) .nil)))
  .skip)
  (.seq (.ite (.cmp .eq (.var 0) (.int 1)) (.seq (.drop (.call 5 (.cons (.var 2) (.cons (.var 3) .nil))))
  .skip)
  (.seq (.ite (.cmp .eq (.var 0) (.int 2)) (.seq (.drop (.call 6 (.cons (.var 2) (.cons (.var 3) (.cons (.var 4) .nil)))))
  .skip)
  (.seq (.ite (.cmp .lt (.var 0) (.int 6)) (.seq (.drop (.dsp [11, 12, 17] (.bin .sub (.var 0) (.int 3)) (.cons (.var 1) (.cons (.var 2) .nil))))
  .skip)
  (.seq (.ite (.cmp .eq (.var 0) (.int 6)) (.seq (.drop (.call 16 (.cons (.var 1) (.cons (.var 2) (.cons (.lst .nil) .nil)))))
  .skip)
  (.seq (.ite (.cmp .eq (.var 0) (.int 7)) (.seq (.drop (.call 14 (.cons (.var 1) (.cons (.var 2) (.cons (.var 3) .nil)))))
  .skip)
  (.seq (.drop (.call 15 (.cons (.var 1) (.cons (.var 2) (.cons (.var 3) (.cons (.var 4) .nil))))))
  .skip))
  .skip))
  .skip))
  .skip))
  .skip))
  .skip))
  .skip)
def f21 : Fn := ⟨"_law_of", 5, ["which", "room", "leaper", "one", "two", "e"], (.seq (.tryN 5 xcls xws f21_b1)
  (.seq (.ret .non)
  .skip)), false⟩
def f22_c1 : E := (.lc .seq (.cons (.var 4) .nil) (.nm 14) (.not (.chn .le (.int 1) (.var 14) .le (.int 12))) (.var 14) [14])
def f22_c2 : E := (.lc .seq (.cons (.lst (.cons (.var 6) (.cons (.var 7) .nil))) .nil) (.tup 2 (.cons (.nm 15) (.cons (.nm 16) .nil))) (.bl true) (.and (.chn .le (.int 0) (.var 15) .lt (.idx (.var 4) (.int 0))) (.one (.chn .le (.int 0) (.var 16) .lt (.idx (.var 4) (.int 1))))) [15, 16])
def f22_c3 : E := (.lc .rng1 (.cons (.int 9) .nil) (.nm 17) (.bl true) (.call 21 (.cons (.var 17) (.cons (.var 4) (.cons (.var 5) (.cons (.var 6) (.cons (.var 7) .nil)))))) [17])
def f22_b1 : S := (.seq (.set (.nm 3) (.bin .add (.int 10) (.bin .mul (.int 10) (.var 2))))
  (.seq (.set (.nm 4) (.tup (.cons (.idx (.lst (.cons (.int 1) (.cons (.int 4) (.cons (.int 12) (.cons (.int 0) (.cons (.int 13) (.cons (.neg (.int 1)) .nil))))))) (.call 19 (.cons (.var 1) (.cons (.var 3) (.cons (.int 6) .nil))))) (.cons (.idx (.lst (.cons (.int 1) (.cons (.int 3) (.cons (.int 5) (.cons (.int 0) (.cons (.int 13) .nil)))))) (.call 19 (.cons (.var 1) (.cons (.bin .add (.var 3) (.int 1)) (.cons (.int 5) .nil))))) .nil))))
  (.seq (.set (.nm 5) (.idx (.lst (.cons (.tup (.cons (.int 1) (.cons (.int 2) .nil))) (.cons (.tup (.cons (.int 0) (.cons (.int 1) .nil))) (.cons (.tup (.cons (.int 8) (.cons (.int 8) .nil))) (.cons (.tup (.cons (.int 2) (.cons (.int 1) .nil))) (.cons (.tup (.cons (.int 0) (.cons (.int 0) .nil))) (.cons (.tup (.cons (.int 1) (.cons (.int 9) .nil))) (.cons (.tup (.cons (.neg (.int 1)) (.cons (.int 2) .nil))) (.cons (.tup (.cons (.int 0) (.cons (.neg (.int 1)) .nil))) .nil))))))))) (.call 19 (.cons (.var 1) (.cons (.bin .add (.var 3) (.int 2)) (.cons (.int 8) .nil))))))
  (.seq (.set (.nm 6) (.idx (.lst (.cons (.tup (.cons (.int 0) (.cons (.int 0) .nil))) (.cons (.tup (.cons (.int 0) (.cons (.int 0) .nil))) (.cons (.tup (.cons (.int 0) (.cons (.int 12) .nil))) (.cons (.tup (.cons (.neg (.int 1)) (.cons (.int 0) .nil))) (.cons (.tup (.cons (.int 13) (.cons (.int 0) .nil))) .nil)))))) (.call 19 (.cons (.var 1) (.cons (.bin .add (.var 3) (.int 3)) (.cons (.int 5) .nil))))))
  (.seq (.set (.nm 7) (.idx (.lst (.cons (.tup (.cons (.int 0) (.cons (.int 0) .nil))) (.cons (.tup (.cons (.int 0) (.cons (.int 0) .nil))) (.cons (.tup (.cons (.int 0) (.cons (.int 12) .nil))) (.cons (.tup (.cons (.neg (.int 1)) (.cons (.int 0) .nil))) (.cons (.tup (.cons (.int 13) (.cons (.int 0) .nil))) .nil)))))) (.call 19 (.cons (.var 1) (.cons (.bin .add (.var 3) (.int 4)) (.cons (.int 5) .nil))))))
  (.seq (.set (.nm 8) f22_c1)
  (.seq (.set (.nm 9) (.idx (.lst (.cons (.tup (.cons (.str "leaper") (.cons (.int 0) .nil))) (.cons .non .nil))) (.blt .int (.cons (.and (.chn3 .le (.int 0) (.idx (.var 5) (.int 0)) .le (.idx (.var 5) (.int 1)) .le (.int 8)) (.one (.cmp .gt (.idx (.var 5) (.int 1)) (.int 0)))) .nil))))
  (.seq (.set (.nm 10) (.or (.idx (.lst (.cons .non (.cons (.tup (.cons (.str "side") (.cons (.idx (.bin .add (.var 8) (.lst (.cons (.int 0) .nil))) (.int 0)) .nil))) .nil))) (.blt .int (.cons (.cmp .ne (.var 8) (.lst .nil)) .nil))) (.one (.var 9))))
  (.seq (.set (.nm 11) f22_c2)
  (.seq (.set (.nm 12) (.or (.var 10) (.one (.idx (.lst (.cons (.tup (.cons (.str "square") (.cons (.int 0) .nil))) (.cons .non .nil))) (.blt .int (.cons (.idx (.var 11) (.int 0)) .nil))))))
  (.seq (.set (.nm 13) (.or (.var 12) (.one (.idx (.lst (.cons (.tup (.cons (.str "square") (.cons (.int 1) .nil))) (.cons .non .nil))) (.blt .int (.cons (.idx (.var 11) (.int 1)) .nil))))))
  (.seq (.ite (.cmp .ne f22_c3 (.bin .add (.bin .add (.rep (.lst (.cons (.var 9) .nil)) (.int 3)) (.rep (.lst (.cons (.var 10) .nil)) (.int 4))) (.lst (.cons (.var 12) (.cons (.var 13) .nil))))) (.seq (.ret (.bl false))
  .skip)
  .skip)
  .skip))))))))))))
def f22 : Fn := ⟨"law", 1, ["script", "draws", "turn", "at", "room", "leaper", "one", "two", "wrong", "lame", "due", "spots", "first", "second", "side", "x", "y", "which"], (.seq (.set (.nm 1) (.call 18 (.cons (.var 0) .nil)))
  (.seq (.for_ .rng1 (.cons (.int 12) .nil) (.nm 2) f22_b1)
  (.seq (.ret (.bl true))
  .skip))), false⟩
def fs : List Fn := [f0, f1, f2, f3, f4, f5, f6, f7, f8, f9, f10, f11, f12, f13, f14, f15, f16, f17, f18, f19, f20, f21, f22]
def cs : List (Str × D) := [("MOST_LEAP", (.int 8)), ("LEAST_SIDE", (.int 1)), ("MOST_SIDE", (.int 12))]
end L42
/-! Plain laws: finite pools, faults, lists of ints, lists of such. -/
namespace Mt
open PySem
def prod {α β : Type} (l : List α) (m : List β) : List (α × β) := l.flatMap fun a => m.map fun b => (a, b)
theorem prod_mem {α β : Type} {l : List α} {m : List β} {a : α} {b : β} (h : a ∈ l) (k : b ∈ m) : (a, b) ∈ prod l m := List.mem_flatMap.mpr ⟨a, h, List.mem_map.mpr ⟨b, k, rfl⟩⟩
theorem map_at {α β : Type} {f g : α → β} : ∀ {l : List α}, l.map f = l.map g → ∀ x ∈ l, f x = g x
  | y :: l, h, x, hx => by
    rw [List.map_cons, List.map_cons] at h
    rcases List.mem_cons.mp hx with e | e
    · rw [e]; exact (List.cons.inj h).1
    · exact map_at (List.cons.inj h).2 x e
section
variable (cs : List D) (cal : Nat → List D → R D) (W : Nat)
@[simp] theorem es_raise (c : Str) (x : E) (e : Sg) : evS cs cal W (.raise c x) e = (evE cs cal x e).go e fun d => .ex c d e := (rfl)
@[simp] theorem es_try (i : Nat) (cl : List Str) (ws : List (Str × Str)) (b : S) (e : Sg) : evS cs cal W (.tryN i cl ws b) e = named cl ws (evS cs cal W b e) := (rfl)
@[simp] theorem ev_dsp (js : List Nat) (a es : E) (e : Sg) : evE cs cal (.dsp js a es) e = (evE cs cal a e).bind fun i => (dspD js i).bind fun j => ((evE cs cal es e).bind unL).bind fun xs => cal j xs := (rfl)
@[simp] theorem ev_lidx (a b : E) (e : Sg) : evE cs cal (.lidx a b) e = (evE cs cal a e).bind fun x => (unL x).bind fun xs => (evE cs cal b e).bind fun y => lidxD xs y := (rfl)
@[simp] theorem ev_lsts (a es : E) (e : Sg) : evE cs cal (.lsts a es) e = (evE cs cal a e).bind fun x => (seqL (unk x)).bind fun xs => ((evE cs cal es e).bind unL).bind fun ys => grd (fitL (xs.length + ys.length)) (.ok (.list (xs ++ ys))) := (rfl)
@[simp] theorem es_ext (i : Nat) (x : E) (e : Sg) : evS cs cal W (.ext i x) e = ((getS e i).bind unL).go e fun xs => ((evE cs cal x e).bind unL).go e fun ys => (grd (fitL (xs.length + ys.length)) (.ok (e.set i (some (.list (xs ++ ys))))) : R Sg).go e .nx := (rfl)
@[simp] theorem es_puti (i : Nat) (k v : E) (e : Sg) : evS cs cal W (.puti i k v) e = ((getS e i).bind unL).go e fun xs => (evE cs cal v e).go e fun x => (evE cs cal k e).go e fun kk => (putI xs kk x).go e fun d => .nx (e.set i (some d)) := (rfl)
end
@[simp] theorem seqL_l (xs : List D) : seqL (.list xs) = .ok xs := (rfl)
/-! states -/
theorem mk_v (x : Option D) (r s : Sg) : mask (x :: r) (x :: s) = x :: mask r s := by cases x <;> rfl
theorem mk_s (x : D) (y : Option D) (r s : Sg) : mask (some x :: r) (y :: s) = y :: mask r s := rfl
theorem mk_n (y : Option D) (r s : Sg) : mask (none :: r) (y :: s) = none :: mask r s := rfl
theorem mk_0 : mask [] [] = [] := rfl
section
variable {cs : List D} {cal : Nat → List D → R D} {W : Nat}
theorem seq_nx {a b : S} {e : Sg} (e1 : Sg) {o : O} (h : evS cs cal W a e = .nx e1) (k : evS cs cal W b e1 = o) : evS cs cal W (.seq a b) e = o := by
  rw [es_seq, h, O.seq_nx]
  exact k
theorem set_ok {i : Nat} {x : E} {e : Sg} {d : D} (h : evE cs cal x e = .ok d) : evS cs cal W (.set (.nm i) x) e = .nx (e.set i (some d)) := by
  rw [es_set, h, R.go_ok, asg_nm, R.go_ok]
theorem drop_ok {x : E} {e : Sg} {d : D} (h : evE cs cal x e = .ok d) : evS cs cal W (.drop x) e = .nx e := by
  rw [es_drop, h, R.go_ok]
theorem asg_go {i : Nat} {x : D} {e e1 : Sg} {body : S} (h : evS cs cal W body (e.set i (some x)) = .nx e1) : ((asg (.nm i) x e).go e fun e1 => evS cs cal W body e1) = .nx e1 := by
  rw [asg_nm, R.go_ok]
  exact h
theorem small_n {n : Nat} (h : n ≤ 1000) : small (n : Int) = true := by
  unfold small
  rw [Bool.and_eq_true]
  exact ⟨decide_eq_true (by omega), decide_eq_true (by omega)⟩
theorem itD_r1 (n : Int) : itD .rng1 [.int n] = grd (small n) (.ok ((List.range n.toNat).map fun i : Nat => .int i)) := by simp only [itD]
theorem itD_seq (l : List D) : itD .seq [.list l] = .ok l := rfl
theorem rng_n {e : Sg} {n : Nat} {src : E} (h : ((evE cs cal src e).bind unL) = .ok [.int n]) (hz : n ≤ 1000) : ((evE cs cal src e).bind unL).bind (itD .rng1) = .ok ((List.range n).map fun i : Nat => PyData.int i) := by
  rw [h, R.bind_ok, itD_r1, small_n hz, Int.toNat_natCast, grd_true]
/-- for x in range(n), by the turn -/
theorem for_rng {src : E} {i : Nat} {body : S} {e : Sg} {n : Nat} (I : Nat → Sg → Prop) (h : ((evE cs cal src e).bind unL) = .ok [.int n]) (hz : n ≤ 1000)
    (st : ∀ t, t < n → ∀ e, I t e → ∃ e1, evS cs cal W body (e.set i (some (.int (t : Nat)))) = .nx e1 ∧ I (t + 1) (mask e e1)) (h0 : I 0 e) : ∃ e', evS cs cal W (.for_ .rng1 src (.nm i) body) e = .nx e' ∧ I n e' := by
  rw [es_for, rng_n h hz, R.go_ok]
  have := forGo_ix (f := fun x e => (asg (.nm i) x e).go e fun e1 => evS cs cal W body e1) I (xs := (List.range n).map fun i : Nat => PyData.int i) (n := 0) (e := e) (fun t x hx e he => by
    have ht : t < n := by
      have := (List.getElem?_eq_some_iff.mp hx).1
      simpa using this
    have ex : x = .int (t : Nat) := by
      rw [List.getElem?_map, List.getElem?_range ht] at hx
      exact (Option.some.inj hx).symm
    subst ex
    rw [Nat.zero_add] at he ⊢
    obtain ⟨e1, h1, h2⟩ := st t ht e he
    exact ⟨e1, asg_go h1, h2⟩) h0
  simpa using this
/-- for x in what is walked, a word that stays -/
theorem for_all {k : ItK} {src : E} {i : Nat} {body : S} {e : Sg} {l : List D} (I : Sg → Prop) (h : ((evE cs cal src e).bind unL).bind (itD k) = .ok l)
    (st : ∀ x ∈ l, ∀ e, I e → ∃ e1, evS cs cal W body (e.set i (some x)) = .nx e1 ∧ I (mask e e1)) (h0 : I e) : ∃ e', evS cs cal W (.for_ k src (.nm i) body) e = .nx e' ∧ I e' := by
  rw [es_for, h, R.go_ok]
  exact forGo_inv I (fun x hx e he => by
    obtain ⟨e1, h1, h2⟩ := st x hx e he
    exact ⟨e1, asg_go h1, h2⟩) h0
/-- .. by the turn, over what is encoded -/
theorem for_map {α : Type} {k : ItK} {src : E} {i : Nat} {body : S} {e : Sg} (enc : α → D) (l : List α) (I : Nat → Sg → Prop) (h : ((evE cs cal src e).bind unL).bind (itD k) = .ok (l.map enc))
    (st : ∀ t a, l[t]? = some a → ∀ e, I t e → ∃ e1, evS cs cal W body (e.set i (some (enc a))) = .nx e1 ∧ I (t + 1) (mask e e1)) (h0 : I 0 e) : ∃ e', evS cs cal W (.for_ k src (.nm i) body) e = .nx e' ∧ I l.length e' := by
  rw [es_for, h, R.go_ok]
  have := forGo_ix (f := fun x e => (asg (.nm i) x e).go e fun e1 => evS cs cal W body e1) I (xs := l.map enc) (n := 0) (e := e) (fun t x hx e he => by
    rw [List.getElem?_map] at hx
    cases ha : l[t]? with
    | none => rw [ha] at hx; cases hx
    | some a =>
      rw [ha] at hx
      have ex : x = enc a := (Option.some.inj hx).symm
      subst ex
      rw [Nat.zero_add] at he ⊢
      obtain ⟨e1, h1, h2⟩ := st t a ha e he
      exact ⟨e1, asg_go h1, h2⟩) h0
  simpa using this
theorem seqL_it {e : Sg} {src : E} {l : List D} (h : ((evE cs cal src e).bind unL) = .ok [.list l]) : ((evE cs cal src e).bind unL).bind (itD .seq) = .ok l := by
  rw [h, R.bind_ok, itD_seq]
theorem seqT_it {e : Sg} {src : E} {l : List D} (h : ((evE cs cal src e).bind unL) = .ok [.tuple l]) : ((evE cs cal src e).bind unL).bind (itD .seq) = .ok l := by
  rw [h, R.bind_ok]
  rfl
end
theorem cut_map {α : Type} (enc : α → D) (l : List α) (lo hi : Option Int) : ∃ m : List α, sliceD (.list (l.map enc)) lo hi = .ok (.list (m.map enc)) ∧ m.length ≤ l.length ∧ ∀ a ∈ m, a ∈ l := by
  refine ⟨(l.drop (HT.sIx (l.map enc).length 0 lo)).take (HT.sIx (l.map enc).length (l.map enc).length hi - HT.sIx (l.map enc).length 0 lo), ?_, ?_, fun a ha => List.mem_of_mem_drop (List.mem_of_mem_take ha)⟩
  · show R.ok (PyData.list (cutD (l.map enc) lo hi)) = _
    unfold cutD
    rw [List.map_take, List.map_drop]
  · rw [List.length_take, List.length_drop]
    omega
theorem idx_mem (xs : List D) {m : Int} (h0 : 0 ≤ m) (h1 : m < xs.length) : ∃ x ∈ xs, idxD (.list xs) (.int m) = .ok x := by
  have hm : m.toNat < xs.length := by omega
  refine ⟨xs[m.toNat], List.getElem_mem hm, ?_⟩
  have e := idx_ln (i := m.toNat) xs (d := xs[m.toNat]) (by simp [hm])
  rw [Int.toNat_of_nonneg h0] at e
  exact e
theorem idx_map {α : Type} (enc : α → D) (l : List α) {m : Int} (h0 : 0 ≤ m) (h1 : m < l.length) : ∃ x ∈ l, idxD (.list (l.map enc)) (.int m) = .ok (enc x) := by
  obtain ⟨x, hx, e⟩ := idx_mem (l.map enc) h0 (by simpa using h1)
  obtain ⟨a, ha, rfl⟩ := List.mem_map.mp hx
  exact ⟨a, ha, e⟩
theorem fit_le {n : Nat} (h : n ≤ 16777216) : fitL n = true := decide_eq_true h
/-! ### faults: a word and a number -/
abbrev Ft := Option (Str × Int)
def Ft.or (a b : Ft) : Ft := match a with
  | none => b
  | some p => some p
def eFt : Ft → D
  | none => .none
  | some p => .tuple [.str p.1, .int p.2]
def okF : Ft → Bool
  | none => true
  | some p => PyData.strOk p.1
theorem okF_or {a b : Ft} (ha : okF a = true) (hb : okF b = true) : okF (a.or b) = true := by cases a <;> assumption
theorem ft_flat (f : Ft) (h : okF f = true) : PyData.canLay0 (eFt f) = true ∧ PyData.depth (eFt f) ≤ 1 ∧ PyData.eqv (eFt f) (eFt f) = true := by
  cases f with
  | none => exact ⟨rfl, Nat.zero_le _, rfl⟩
  | some p =>
    have : PyData.strOk p.1 = true := h
    simp [eFt, PyData.canLay0, PyData.canLayAll0, PyData.depth, PyData.depthAll, PyData.eqv, PyData.eqvAll, this]
theorem fts_flat : ∀ (l : List Ft) (_ : ∀ f ∈ l, okF f = true), PyData.canLayAll0 (l.map eFt) = true ∧ PyData.depthAll (l.map eFt) ≤ 1 ∧ PyData.eqvAll (l.map eFt) (l.map eFt) = true
  | [], _ => ⟨rfl, Nat.zero_le _, rfl⟩
  | f :: l, h => by
    obtain ⟨h1, h2, h3⟩ := fts_flat l fun g hg => h g (by simp [hg])
    obtain ⟨k1, k2, k3⟩ := ft_flat f (h f (by simp))
    simp only [List.map_cons, PyData.canLayAll0, PyData.depthAll, PyData.eqvAll, h1, h3, k1, k3, Bool.and_self]
    exact ⟨trivial, by omega, trivial⟩
theorem ne_fts (l : List Ft) (h : ∀ f ∈ l, okF f = true) : cmpD .ne (.list (l.map eFt)) (.list (l.map eFt)) = .ok false := by
  obtain ⟨h1, h2, h3⟩ := fts_flat l h
  have hf : flat (.list (l.map eFt)) = true := by
    simp only [flat, SeqAt.shaped, PyData.canLay0, PyData.depth, h1, Bool.true_and]
    exact decide_eq_true (by omega)
  have he : PyData.eqv (.list (l.map eFt)) (.list (l.map eFt)) = true := by rw [PyData.eqv]; exact h3
  show grd (flat _ && flat _) (.ok (!PyData.eqv _ _)) = _
  rw [hf, he]
  rfl
@[simp] theorem tr_tup (x : D) (r : List D) : Mt.truthy (PyData.tuple (x :: r)) = R.ok true := (rfl)
@[simp] theorem tr_none : Mt.truthy PyData.none = R.ok false := (rfl)
theorem or_ft {cs : List D} {cal : Nat → List D → R D} {a b : E} {e : Sg} {f g : Ft} (ha : evE cs cal a e = .ok (eFt f)) (hb : f = none → evE cs cal b e = .ok (eFt g)) : evE cs cal (.or a (.one b)) e = .ok (eFt (f.or g)) := by
  rw [ev_or, ha, R.bind_ok]
  cases f with
  | none =>
    show (Mt.truthy PyData.none).bind _ = _
    rw [tr_none, R.bind_ok, if_neg (by decide), ev_one]
    exact hb rfl
  | some p =>
    show (Mt.truthy (PyData.tuple _)).bind _ = _
    rw [tr_tup, R.bind_ok, if_pos rfl]
    rfl
/-- [f(i) for i in range(n)], f gives faults -/
theorem lc_fts {cs : List D} {cal : Nat → List D → R D} {elt src : E} {i : Nat} {e : Sg} {n : Nat} (g : Nat → Ft) (hs : ((evE cs cal src e).bind unL) = .ok [.int n]) (hz : n ≤ 1000)
    (h : ∀ t, t < n → evE cs cal elt ((e.set i none).set i (some (.int (t : Nat)))) = .ok (eFt (g t))) : evE cs cal (.lc .rng1 src (.nm i) (.bl true) elt [i]) e = .ok (.list (((List.range n).map g).map eFt)) := by
  have := ev_lcM cs cal (k := .rng1) (src := src) (tg := .nm i) (cond := .bl true) (elt := elt) (own := [i]) (e := e) (fun i : Nat => PyData.int i) (List.range n) (fun t => [eFt (g t)]) (rng_n hs hz) (fun t ht => by
    simp only [asg_nm, clr, List.foldl_cons, List.foldl_nil, R.bind_ok, ev_bl, trB, if_true]
    rw [h t (List.mem_range.mp ht)]
    rfl) (by
      have : ∀ l : List Nat, (l.flatMap fun t => [eFt (g t)]).length = l.length := fun l => by induction l <;> simp_all
      rw [this, List.length_range]
      omega)
  rw [this]
  congr 2
  have : ∀ l : List Nat, (l.flatMap fun t => [eFt (g t)]) = (l.map g).map eFt := fun l => by induction l <;> simp_all
  exact this _
/-! ### lists of ints, lists of such -/
def encI (l : List Int) : D := .list (l.map .int)
def encII (L : List (List Int)) : D := .list (L.map encI)
theorem alk_ints : ∀ a b : List Int, PySem.W.alikeAll (a.map PyData.int) (b.map PyData.int) = true
  | [], _ => by cases ‹List Int› <;> rfl
  | _ :: _, [] => rfl
  | _ :: a, _ :: b => by simp [PySem.W.alikeAll, PySem.W.alike, alk_ints a b]
theorem lay_ints : ∀ l : List Int, PyData.canLayAll0 (l.map PyData.int) = true
  | [] => rfl
  | x :: l => by simp [PyData.canLayAll0, PyData.canLay0, lay_ints l]
theorem dep_ints : ∀ l : List Int, PyData.depthAll (l.map PyData.int) = 0
  | [] => rfl
  | x :: l => by simp [PyData.depthAll, PyData.depth, dep_ints l]
theorem lay_encI : ∀ L : List (List Int), PyData.canLayAll0 (L.map encI) = true
  | [] => rfl
  | l :: L => by simp [PyData.canLayAll0, encI, PyData.canLay0, lay_ints, lay_encI L]
theorem dep_encI : ∀ L : List (List Int), PyData.depthAll (L.map encI) ≤ 1
  | [] => by simp [PyData.depthAll]
  | l :: L => by
    have := dep_encI L
    simp [PyData.depthAll, encI, PyData.depth, dep_ints]
    omega
theorem alkL_encI (L : List (List Int)) : alkL (L.map encI) = true := by
  unfold alkL
  simp only [Bool.and_eq_true, List.all_eq_true, decide_eq_true_eq]
  refine ⟨⟨⟨fun x hx y hy => ?_, lay_encI L⟩, Nat.le_trans (dep_encI L) (by omega)⟩, fun x hx => ?_⟩
  · obtain ⟨a, _, rfl⟩ := List.mem_map.mp hx
    obtain ⟨b, _, rfl⟩ := List.mem_map.mp hy
    show PySem.W.alike (.list _) (.list _) = true
    rw [PySem.W.alike]
    exact alk_ints a b
  · obtain ⟨a, _, rfl⟩ := List.mem_map.mp hx
    rfl
theorem ins_encI (a : List Int) : ∀ M : List (List Int), ∃ M' : List (List Int), insD (encI a) (M.map encI) = M'.map encI ∧ ∀ l ∈ M', l = a ∨ l ∈ M
  | [] => ⟨[a], rfl, fun l h => .inl (by simpa using h)⟩
  | b :: M => by
    obtain ⟨M', h1, h2⟩ := ins_encI a M
    rw [List.map_cons]
    unfold insD
    split
    · exact ⟨a :: b :: M, rfl, fun l h => by simpa using h⟩
    · refine ⟨b :: M', by rw [h1]; rfl, fun l h => ?_⟩
      rcases List.mem_cons.mp h with h | h
      · exact .inr (by simp [h])
      · rcases h2 l h with h | h
        · exact .inl h
        · exact .inr (by simp [h])
theorem sort_encI : ∀ L : List (List Int), ∃ M : List (List Int), sortD (L.map encI) = M.map encI ∧ ∀ l ∈ M, l ∈ L
  | [] => ⟨[], rfl, fun l h => h⟩
  | a :: L => by
    obtain ⟨M, h1, h2⟩ := sort_encI L
    obtain ⟨M', h3, h4⟩ := ins_encI a M
    refine ⟨M', ?_, fun l h => ?_⟩
    · rw [List.map_cons]
      unfold sortD
      rw [h1, h3]
    · rcases h4 l h with h | h
      · simp [h]
      · simp [h2 l h]
theorem sorted_encI (L : List (List Int)) (h : L.length ≤ 16777216) : ∃ M : List (List Int), bltD .sorted [encII L] = .ok (encII M) ∧ ∀ l ∈ M, l ∈ L := by
  obtain ⟨M, h1, h2⟩ := sort_encI L
  refine ⟨M, ?_, h2⟩
  show sortA (L.map encI) = _
  unfold sortA
  have nt : (L.map encI).all noTup = true := by
    rw [List.all_eq_true]
    intro x hx
    obtain ⟨a, _, rfl⟩ := List.mem_map.mp hx
    rfl
  rw [alkL_encI, nt, fit_le (by simpa using h), h1]
  simp [encII]
/-- what is read back -/
def decI : List D → Option (List Int)
  | [] => some []
  | .int i :: r => (decI r).map (i :: ·)
  | _ :: _ => none
theorem decI_ok : ∀ {ds : List D} {l : List Int}, decI ds = some l → ds = l.map PyData.int
  | [], l, h => by cases h; rfl
  | d :: r, l, h => by
    cases d with
    | int i =>
      rw [decI] at h
      cases hr : decI r with
      | none => rw [hr] at h; cases h
      | some m =>
        rw [hr] at h
        cases h
        rw [decI_ok hr]
        rfl
    | _ => cases h
def decII : List D → Option (List (List Int))
  | [] => some []
  | .list l :: r => match decI l, decII r with
    | some a, some b => some (a :: b)
    | _, _ => none
  | _ :: _ => none
theorem decII_ok : ∀ {ds : List D} {l : List (List Int)}, decII ds = some l → ds = l.map encI
  | [], l, h => by cases h; rfl
  | d :: r, l, h => by
    cases d with
    | list xs =>
      rw [decII] at h
      split at h
      · rename_i a b h1 h2
        cases h
        rw [decI_ok h1, decII_ok h2]
        rfl
      · cases h
    | _ => cases h
end Mt
/-! Plain laws: repr of data of small ints. -/
namespace Mt
open PySem
mutual
/-- ints below 10 ** 9, None, bools, lists and tuples of such -/
def pln : D → Bool
  | .none => true
  | .bool _ => true
  | .int i => decide (-1000000000 ≤ i) && decide (i ≤ 1000000000)
  | .list xs => plnAll xs
  | .tuple xs => plnAll xs
  | _ => false
def plnAll : List D → Bool
  | [] => true
  | x :: xs => pln x && plnAll xs
end
mutual
def nds : D → Nat
  | .list xs => ndsAll xs + 1
  | .tuple xs => ndsAll xs + 1
  | _ => 1
def ndsAll : List D → Nat
  | [] => 0
  | x :: xs => nds x + ndsAll xs
end
theorem log_small {i : Int} (h0 : -1000000000 ≤ i) (h1 : i ≤ 1000000000) : i.natAbs.log2 < 30 := by
  by_cases z : i.natAbs = 0
  · rw [z]; decide
  · exact (Nat.log2_lt z).mpr (by omega)
mutual
theorem pln_show : ∀ d : D, pln d = true → PyData.showable d = true ∧ PyData.canLay0 d = true ∧ PyData.leavesShort 13 d = true ∧ PyData.weight d + 1 ≤ 32 * nds d
  | .none, _ => ⟨rfl, rfl, rfl, by decide⟩
  | .bool b, _ => ⟨rfl, rfl, rfl, by simp [PyData.weight, nds]⟩
  | .int i, h => by
    simp only [pln, Bool.and_eq_true, decide_eq_true_eq] at h
    have l := log_small h.1 h.2
    refine ⟨?_, rfl, ?_, ?_⟩
    · simp only [PyData.showable]; exact decide_eq_true (by omega)
    · simp only [PyData.leavesShort]; exact decide_eq_true (PyData.shown_int_le2 (by omega) (by omega))
    · simp only [PyData.weight, nds]
      split <;> omega
  | .str _, h => by simp [pln] at h
  | .list xs, h => by
    obtain ⟨h1, h2, h3, h4⟩ := pln_showAll xs (by simpa [pln] using h)
    refine ⟨by simpa [PyData.showable] using h1, by simpa [PyData.canLay0] using h2, by simpa [PyData.leavesShort] using h3, ?_⟩
    simp only [PyData.weight, nds]
    omega
  | .tuple xs, h => by
    obtain ⟨h1, h2, h3, h4⟩ := pln_showAll xs (by simpa [pln] using h)
    refine ⟨by simpa [PyData.showable] using h1, by simpa [PyData.canLay0] using h2, by simpa [PyData.leavesShort] using h3, ?_⟩
    simp only [PyData.weight, nds]
    omega
  | .dict _, h => by simp [pln] at h
theorem pln_showAll : ∀ xs : List D, plnAll xs = true → PyData.showableAll xs = true ∧ PyData.canLayAll0 xs = true ∧ PyData.leavesShortAll 13 xs = true ∧ PyData.weightAll xs ≤ 32 * ndsAll xs
  | [], _ => ⟨rfl, rfl, rfl, Nat.zero_le _⟩
  | x :: xs, h => by
    simp only [plnAll, Bool.and_eq_true] at h
    obtain ⟨h1, h2, h3, h4⟩ := pln_show x h.1
    obtain ⟨k1, k2, k3, k4⟩ := pln_showAll xs h.2
    refine ⟨by simp [PyData.showableAll, h1, k1], by simp [PyData.canLayAll0, h2, k2], by simp [PyData.leavesShortAll, h3, k3], ?_⟩
    simp only [PyData.weightAll, ndsAll]
    omega
end
theorem strOk_iff {x : Str} : PyData.strOk x = true ↔ ∀ c ∈ x.cps.toList, c < 1114112 := by
  unfold PyData.strOk
  rw [Array.all_eq_true_iff_forall_mem]
  constructor
  · exact fun h c hc => of_decide_eq_true (h c (Array.mem_toList_iff.mp hc))
  · exact fun h c hc => decide_eq_true (h c (Array.mem_toList_iff.mpr hc))
theorem strOk_app {x y : Str} (hx : PyData.strOk x = true) (hy : PyData.strOk y = true) : PyData.strOk (x ++ y) = true := strOk_iff.mpr fun c hc => by
  rcases PyProof.Rows.mem_cps_append.mp hc with h | h
  · exact strOk_iff.mp hx c h
  · exact strOk_iff.mp hy c h
theorem strOk_join {s : Str} (hs : PyData.strOk s = true) {ts : List Str} (ht : ∀ t ∈ ts, PyData.strOk t = true) : PyData.strOk (Str.join s ts) = true := strOk_iff.mpr fun c hc => by
  rcases (PyProof.Rows.mem_join s c ts).mp hc with ⟨t, h1, h2⟩ | ⟨_, h⟩
  · exact strOk_iff.mp (ht t h1) c h2
  · exact strOk_iff.mp hs c h
mutual
theorem pln_str : ∀ d : D, pln d = true → PyData.strOk (PyData.shown d) = true
  | .none, _ => by rw [PyData.shown_none]; decide +kernel
  | .bool b, _ => by rw [PyData.shown_bool]; cases b <;> decide +kernel
  | .int i, _ => strOk_iff.mpr fun c hc => by
    by_cases h : c < 1114112
    · exact h
    · exact absurd hc (PyProof.Rows.shown_int_free' ⟨by omega, by omega⟩ i)
  | .str _, h => by simp [pln] at h
  | .list xs, h => by
    rw [PyData.shown_list]
    exact strOk_app (strOk_app (by decide +kernel) (strOk_join (by decide +kernel) (pln_strAll xs (by simpa [pln] using h)))) (by decide +kernel)
  | .tuple xs, h => by
    rw [PyData.shown_tuple]
    refine strOk_app (strOk_app (by decide +kernel) (strOk_join (by decide +kernel) (pln_strAll xs (by simpa [pln] using h)))) ?_
    split <;> decide +kernel
  | .dict _, h => by simp [pln] at h
theorem pln_strAll : ∀ xs : List D, plnAll xs = true → ∀ t ∈ PyData.shownAll xs, PyData.strOk t = true
  | [], _, t, ht => by rw [PyData.shownAll_nil] at ht; exact nomatch ht
  | x :: xs, h, t, ht => by
    simp only [plnAll, Bool.and_eq_true] at h
    rw [PyData.shownAll_cons] at ht
    rcases List.mem_cons.mp ht with e | e
    · rw [e]; exact pln_str x h.1
    · exact pln_strAll xs h.2 t e
end
/-- repr bears it -/
theorem okR_pln {d : D} (h : pln d = true) (hn : nds d ≤ 30000) (hd : PyData.depth d ≤ 60) : okR d = true := by
  obtain ⟨h1, h2, h3, h4⟩ := pln_show d h
  have l := PyData.shown_le 13 (by decide) d h3
  unfold okR showOk
  rw [h1, h2, pln_str d h]
  simp only [Bool.true_and, Bool.and_true, Bool.and_eq_true, decide_eq_true_eq]
  exact ⟨hd, by omega⟩
theorem plnAll_map {α : Type} {f : α → D} : ∀ {l : List α}, (∀ a ∈ l, pln (f a) = true) → plnAll (l.map f) = true
  | [], _ => rfl
  | a :: l, h => by
    rw [List.map_cons]
    have k := plnAll_map (l := l) (f := f) fun b hb => h b (by simp [hb])
    simp [plnAll, h a (by simp), k]
theorem ndsAll_map {α : Type} {f : α → D} {n : Nat} : ∀ {l : List α}, (∀ a ∈ l, nds (f a) ≤ n) → ndsAll (l.map f) ≤ n * l.length
  | [], _ => by simp [ndsAll]
  | a :: l, h => by
    rw [List.map_cons]
    have := h a (by simp)
    have := ndsAll_map (l := l) fun b hb => h b (by simp [hb])
    simp only [ndsAll, List.length_cons, Nat.mul_add, Nat.mul_one]
    omega
theorem depAll_map {α : Type} {f : α → D} {n : Nat} : ∀ {l : List α}, (∀ a ∈ l, PyData.depth (f a) ≤ n) → PyData.depthAll (l.map f) ≤ n + 1
  | [], _ => by simp [PyData.depthAll]
  | a :: l, h => by
    rw [List.map_cons]
    have := h a (by simp)
    have := depAll_map (l := l) fun b hb => h b (by simp [hb])
    simp only [PyData.depthAll]
    omega
/-- repr(x) != repr(x) -/
theorem ne_repr2 {d : D} (h : okR d = true) {cs : List D} {cal : Nat → List D → R D} {a b : E} {e : Sg} (ha : evE cs cal a e = .ok d) (hb : evE cs cal b e = .ok d) : evE cs cal (.cmp .ne (.blt .repr (.cons a .nil)) (.blt .repr (.cons b .nil))) e = .ok (.bool false) := by
  have r := blt_repr h
  simp [ha, hb, r, ne_repr h]
end Mt
/-! Plain laws: states known by what stands in their slots. -/
namespace Mt
open PySem
@[simp] theorem getS_eq {e : Sg} {i : Nat} {d : D} (h : i < e.length) : getS (e.set i (some d)) i = .ok d := by
  unfold getS
  rw [List.getElem?_set_self h]
@[simp] theorem getS_ne {e : Sg} {i j : Nat} {o : Option D} (h : i ≠ j) : getS (e.set i o) j = getS e j := by
  unfold getS
  rw [List.getElem?_set_ne h]
theorem getS_some {e : Sg} {i : Nat} {d : D} (h : getS e i = .ok d) : e[i]? = some (some d) := by
  unfold getS at h
  split at h
  · rename_i d' q
    cases h
    exact q
  · cases h
theorem getS_lt {e : Sg} {i : Nat} {d : D} (h : getS e i = .ok d) : i < e.length := (List.getElem?_eq_some_iff.mp (getS_some h)).1
theorem mask_len : ∀ {e e1 : Sg}, (mask e e1).length = e1.length
  | _, [] => by cases ‹Sg› <;> rfl
  | [], _ :: _ => rfl
  | none :: r, _ :: s => by
    show (none :: mask r s).length = _
    rw [List.length_cons, List.length_cons, mask_len (e := r) (e1 := s)]
  | some _ :: r, x :: s => by
    show (x :: mask r s).length = _
    rw [List.length_cons, List.length_cons, mask_len (e := r) (e1 := s)]
theorem mask_get : ∀ {e e1 : Sg} {i : Nat} {d : D}, e[i]? = some (some d) → (mask e e1)[i]? = e1[i]?
  | [], _, i, d, h => by simp at h
  | _ :: _, [], i, d, h => by
    rename_i x r
    cases x <;> rfl
  | none :: r, y :: s, 0, d, h => by simp at h
  | some _ :: r, y :: s, 0, d, h => rfl
  | none :: r, y :: s, i + 1, d, h => by
    show (none :: mask r s)[i + 1]? = _
    simp only [List.getElem?_cons_succ] at h ⊢
    exact mask_get h
  | some _ :: r, y :: s, i + 1, d, h => by
    show (y :: mask r s)[i + 1]? = _
    simp only [List.getElem?_cons_succ] at h ⊢
    exact mask_get h
/-- e1 holds what e holds in the slots K -/
structure Keep (K : List Nat) (e e1 : Sg) : Prop where
  len : e1.length = e.length
  at_ : ∀ j ∈ K, getS e1 j = getS e j
theorem Keep.refl (K : List Nat) (e : Sg) : Keep K e e := ⟨rfl, fun _ _ => rfl⟩
theorem Keep.trans {K : List Nat} {e e1 e2 : Sg} (h : Keep K e e1) (k : Keep K e1 e2) : Keep K e e2 := ⟨k.len.trans h.len, fun j hj => (k.at_ j hj).trans (h.at_ j hj)⟩
theorem Keep.set {K : List Nat} {e e1 : Sg} (h : Keep K e e1) {i : Nat} (hi : i ∉ K) (o : Option D) : Keep K e (e1.set i o) := ⟨by rw [List.length_set]; exact h.len, fun j hj => by
  rw [getS_ne (show i ≠ j from fun z => hi (by rw [z]; exact hj))]
  exact h.at_ j hj⟩
theorem Keep.mask {K : List Nat} {e e1 : Sg} (h : Keep K e e1) (hK : ∀ j ∈ K, ∃ d, getS e j = .ok d) : Keep K e (Mt.mask e e1) := ⟨by rw [mask_len]; exact h.len, fun j hj => by
  obtain ⟨d, hd⟩ := hK j hj
  have := mask_get (e1 := e1) (getS_some hd)
  rw [← h.at_ j hj]
  unfold getS
  rw [this]⟩
section
variable {cs : List D} {cal : Nat → List D → R D} {W : Nat}
/-- a loop that leaves the slots K as they are -/
theorem forK {α : Type} {k : ItK} {src : E} {i : Nat} {body : S} {e : Sg} (enc : α → D) (l : List α) (K : List Nat) (hit : ((evE cs cal src e).bind unL).bind (itD k) = .ok (l.map enc)) (hK : ∀ j ∈ K, ∃ d, getS e j = .ok d)
    (hb : ∀ (t : Nat) (a : α), l[t]? = some a → ∀ e', Keep K e e' → ∃ e1, evS cs cal W body (e'.set i (some (enc a))) = .nx e1 ∧ Keep K e' e1) : ∃ e2, evS cs cal W (.for_ k src (.nm i) body) e = .nx e2 ∧ Keep K e e2 := by
  obtain ⟨e2, h1, h2⟩ := for_map (cs := cs) (cal := cal) (W := W) (k := k) (src := src) (i := i) (body := body) (e := e) enc l (fun _ e' => Keep K e e') hit (fun t a ha e' he' => by
    obtain ⟨e1, h1, h2⟩ := hb t a ha e' he'
    have hK' : ∀ j ∈ K, ∃ d, getS e' j = .ok d := fun j hj => by rw [he'.at_ j hj]; exact hK j hj
    exact ⟨e1, h1, he'.trans (h2.mask hK')⟩) (Keep.refl K e)
  exact ⟨e2, h1, h2⟩
/-- for i in range(n) -/
theorem forKr {src : E} {i n : Nat} {body : S} {e : Sg} (K : List Nat) (hs : ((evE cs cal src e).bind unL) = .ok [.int (n : Nat)]) (hn : n ≤ 1000) (hK : ∀ j ∈ K, ∃ d, getS e j = .ok d)
    (hb : ∀ t : Nat, t < n → ∀ e', Keep K e e' → ∃ e1, evS cs cal W body (e'.set i (some (.int (t : Nat)))) = .nx e1 ∧ Keep K e' e1) : ∃ e2, evS cs cal W (.for_ .rng1 src (.nm i) body) e = .nx e2 ∧ Keep K e e2 :=
  forK (fun t : Nat => PyData.int t) (List.range n) K (rng_n hs hn) hK fun t a ha e' he' => by
    obtain ⟨ht, hi⟩ := List.getElem?_eq_some_iff.mp ha
    rw [List.getElem_range] at hi
    rw [List.length_range] at ht
    subst hi
    exact hb t ht e' he'
/-- if a test fails, nothing -/
theorem ite_no {c : E} {a : S} {e : Sg} (h : evE cs cal c e = .ok (.bool false)) : evS cs cal W (.ite c a .skip) e = .nx e := by
  rw [es_ite, h, R.go_ok, trB, R.go_ok, if_neg (by decide), es_skip]
theorem ite_yes {c : E} {a b : S} {e : Sg} (h : evE cs cal c e = .ok (.bool true)) : evS cs cal W (.ite c a b) e = evS cs cal W a e := by
  rw [es_ite, h, R.go_ok, trB, R.go_ok, if_pos rfl]
theorem seq_ex {a b : S} {e : Sg} {P : Sg → Prop} {o : O} (h : ∃ e1, evS cs cal W a e = .nx e1 ∧ P e1) (k : ∀ e1, P e1 → evS cs cal W b e1 = o) : evS cs cal W (.seq a b) e = o := by
  obtain ⟨e1, h1, h2⟩ := h
  exact seq_nx e1 h1 (k e1 h2)
theorem or_no {a b : E} {e : Sg} (ha : evE cs cal a e = .ok (.bool false)) (hb : evE cs cal b e = .ok (.bool false)) : evE cs cal (.or a (.one b)) e = .ok (.bool false) := by
  rw [ev_or, ha, R.bind_ok, trB, R.bind_ok, if_neg (by decide), ev_one, hb]
theorem or_no' {a b : E} {e : Sg} (ha : evE cs cal a e = .ok (.bool false)) (hb : evE cs cal b e = .ok (.bool false)) : evE cs cal (.or a b) e = .ok (.bool false) := by
  rw [ev_or, ha, R.bind_ok, trB, R.bind_ok, if_neg (by decide), hb]
end
end Mt
namespace Mt
open PySem
/-- a comprehension whose items are some of a kind -/
theorem lc_ex {α β : Type} {cs : List D} {cal : Nat → List D → R D} {k : ItK} {src elt : E} {i : Nat} {e : Sg} (enc : α → D) (enc2 : β → D) (l : List α) (P : β → Prop) (hs : ((evE cs cal src e).bind unL).bind (itD k) = .ok (l.map enc)) (hz : l.length ≤ 16777216)
    (h : ∀ a ∈ l, ∃ b, P b ∧ evE cs cal elt ((e.set i none).set i (some (enc a))) = .ok (enc2 b)) : ∃ bs : List β, (∀ b ∈ bs, P b) ∧ bs.length = l.length ∧ evE cs cal (.lc k src (.nm i) (.bl true) elt [i]) e = .ok (.list (bs.map enc2)) := by
  have go : ∀ l : List α, (∀ a ∈ l, ∃ b, P b ∧ evE cs cal elt ((e.set i none).set i (some (enc a))) = .ok (enc2 b)) → ∃ bs : List β, (∀ b ∈ bs, P b) ∧ bs.length = l.length ∧ lcGo (fun x => nox ((asg (.nm i) x (clr [i] e)).bind fun e1 => (evE cs cal (.bl true) e1).bind fun c => (truthy c).bind fun t => if t = true then (evE cs cal elt e1).bind fun y => (.ok [y] : R (List D)) else .ok [])) (l.map enc) = .ok (bs.map enc2) := by
    intro l
    induction l with
    | nil => exact fun _ => ⟨[], (fun b hb => nomatch hb), rfl, rfl⟩
    | cons a l ih =>
      intro h
      obtain ⟨b, hb, eb⟩ := h a (by simp)
      obtain ⟨bs, h1, h2, h3⟩ := ih fun x hx => h x (by simp [hx])
      refine ⟨b :: bs, fun x hx => (List.mem_cons.mp hx).elim (fun z => z ▸ hb) (h1 x), by simp [h2], ?_⟩
      rw [List.map_cons]
      unfold lcGo
      rw [h3]
      have : nox ((asg (.nm i) (enc a) (clr [i] e)).bind fun e1 => (evE cs cal (.bl true) e1).bind fun c => (truthy c).bind fun t => if t = true then (evE cs cal elt e1).bind fun y => (.ok [y] : R (List D)) else .ok []) = .ok [enc2 b] := by
        rw [asg_nm, R.bind_ok]
        show nox ((evE cs cal elt ((e.set i none).set i (some (enc a)))).bind fun y => (.ok [y] : R (List D))) = _
        rw [eb]
        rfl
      rw [this]
      rfl
  obtain ⟨bs, h1, h2, h3⟩ := go l h
  refine ⟨bs, h1, h2, ?_⟩
  have e1 : evE cs cal (.lc k src (.nm i) (.bl true) elt [i]) e = (((evE cs cal src e).bind unL).bind (itD k)).bind (fun its => (lcGo (fun x => nox ((asg (.nm i) x (clr [i] e)).bind fun e1 => (evE cs cal (.bl true) e1).bind fun c => (truthy c).bind fun t => if t = true then (evE cs cal elt e1).bind fun y => (.ok [y] : R (List D)) else .ok [])) its).bind fun ys => grd (fitL ys.length) (.ok (PyData.list ys))) := rfl
  rw [e1, hs]
  simp only [R.bind_ok]
  rw [h3]
  simp only [R.bind_ok, List.length_map, h2, fit_le hz, grd_true]
/-- numbers of a mix: an item of a list -/
theorem pick_of {α : Type} {cs : List D} {cal : Nat → List D → R D} {A X M : E} {j : Nat} {e : Sg} {l : List α} {enc : α → D} {ds : D} {x m : Int} (hm : ∀ t many : Int, 0 ≤ t → t ≤ 1000000 → 0 < many → ∃ m, cal j [ds, .int t, .int many] = .ok (.int m) ∧ 0 ≤ m ∧ m < many)
    (hA : evE cs cal A e = .ok (.list (l.map enc))) (hv : getS e 1 = .ok ds) (hX : evE cs cal X e = .ok (.int x)) (x0 : 0 ≤ x) (x1 : x ≤ 1000000) (hM : evE cs cal M e = .ok (.int m)) (m0 : 0 < m) (m1 : m ≤ l.length) :
    ∃ a ∈ l, evE cs cal (.idx A (.call j (.cons (.var 1) (.cons X (.cons M .nil))))) e = .ok (enc a) := by
  obtain ⟨i, e1, i0, i1⟩ := hm x m x0 x1 m0
  obtain ⟨a, ha, e2⟩ := idx_map enc l i0 (by omega)
  exact ⟨a, ha, by simp [hA, hv, hX, hM, e1, e2]⟩
end Mt
/-! Places on a hall, and which reaches which: what the functions of guards and armies tell. A: fits, counted, longest, rest. -/
namespace Gu
open PySem Mt
/-- the row of a place -/
def row (re : List (List Int)) (p : Int) : List Int := re.getD p.toNat []
/-- a list of rows, each of places -/
structure GG (re : List (List Int)) : Prop where
  len : re.length ≤ 20
  sz : ∀ l ∈ re, l.length ≤ 20
  rng : ∀ l ∈ re, ∀ i ∈ l, 0 ≤ i ∧ i < (re.length : Int)
  nd : ∀ l ∈ re, l.Nodup
  irr : ∀ p : Int, 0 ≤ p → p < re.length → p ∉ row re p
  sym : ∀ p q : Int, 0 ≤ p → p < re.length → q ∈ row re p → p ∈ row re q
def GI (n : Nat) (l : List Int) : Prop := ∀ i ∈ l, 0 ≤ i ∧ i < (n : Int)
theorem row_mem {re : List (List Int)} {p : Int} (h0 : 0 ≤ p) (h1 : p < re.length) : row re p ∈ re := by
  unfold row
  have h : p.toNat < re.length := by omega
  rw [List.getD_eq_getElem?_getD, List.getElem?_eq_getElem h]
  exact List.getElem_mem h
theorem idx_row {re : List (List Int)} {p : Int} (h0 : 0 ≤ p) (h1 : p < re.length) : idxD (encII re) (.int p) = .ok (encI (row re p)) := by
  have h : p.toNat < re.length := by omega
  have := idx_l encI [] re h
  rw [Int.toNat_of_nonneg h0] at this
  exact this
@[simp] theorem uk_I (l : List Int) : unk (encI l) = encI l := (rfl)
@[simp] theorem uk_II (l : List (List Int)) : unk (encII l) = encII l := (rfl)
@[simp] theorem unL_I (l : List Int) : unL (encI l) = .ok (l.map PyData.int) := (rfl)
theorem len_I (l : List Int) : bltD .len [encI l] = .ok (.int (l.length : Nat)) := by
  show R.ok _ = _
  simp [encI]
theorem len_II (l : List (List Int)) : bltD .len [encII l] = .ok (.int (l.length : Nat)) := by
  show R.ok _ = _
  simp [encII]
theorem nin_I (i : Int) (l : List Int) : cmpD .nin (.int i) (encI l) = .ok (!decide (i ∈ l)) := nin_ints i l
theorem in_I (i : Int) (l : List Int) : cmpD .inn (.int i) (encI l) = .ok (decide (i ∈ l)) := in_ints i l
theorem bols_map : ∀ bs : List Bool, bolsOf (bs.map PyData.bool) = .ok bs
  | [] => rfl
  | b :: bs => by
    show ((bolsOf (bs.map PyData.bool)).bind fun m => (R.ok (b :: m) : R (List Bool))) = _
    rw [bols_map bs]
    rfl
theorem all_bs (bs : List Bool) : bltD .all [.list (bs.map PyData.bool)] = .ok (.bool (bs.all id)) := by
  show (bolsOf (bs.map PyData.bool)).bind allL = _
  rw [bols_map]
  rfl
theorem any_bs (bs : List Bool) : bltD .any [.list (bs.map PyData.bool)] = .ok (.bool (bs.any id)) := by
  show (bolsOf (bs.map PyData.bool)).bind anyL = _
  rw [bols_map]
  rfl
theorem flat_one {α β : Type} (g : α → β) : ∀ l : List α, (l.flatMap fun a => [g a]) = l.map g
  | [] => rfl
  | a :: l => by rw [List.flatMap_cons, flat_one g l]; rfl
/-- a comprehension without a test -/
theorem lc_map {α : Type} {cs : List D} {cal : Nat → List D → R D} {k : ItK} {src elt : E} {i : Nat} {e : Sg} (enc : α → D) (l : List α) (g : α → D) (hs : ((evE cs cal src e).bind unL).bind (itD k) = .ok (l.map enc)) (hz : l.length ≤ 16777216)
    (h : ∀ a ∈ l, evE cs cal elt ((e.set i none).set i (some (enc a))) = .ok (g a)) : evE cs cal (.lc k src (.nm i) (.bl true) elt [i]) e = .ok (.list (l.map g)) := by
  have := ev_lcM cs cal (k := k) (src := src) (tg := .nm i) (cond := .bl true) (elt := elt) (own := [i]) (e := e) enc l (fun a => [g a]) hs (fun a ha => by
    simp only [asg_nm, clr, List.foldl_cons, List.foldl_nil, R.bind_ok, ev_bl, trB, if_true]
    rw [h a ha]
    rfl) (by rw [flat_one, List.length_map]; exact hz)
  rw [this, flat_one]
/-- .. with one -/
theorem lc_filter {α : Type} {cs : List D} {cal : Nat → List D → R D} {k : ItK} {src elt cond : E} {i : Nat} {e : Sg} (enc : α → D) (l : List α) (p : α → Bool) (g : α → D) (hs : ((evE cs cal src e).bind unL).bind (itD k) = .ok (l.map enc)) (hz : l.length ≤ 16777216)
    (hc : ∀ a ∈ l, evE cs cal cond ((e.set i none).set i (some (enc a))) = .ok (.bool (p a))) (h : ∀ a ∈ l, p a = true → evE cs cal elt ((e.set i none).set i (some (enc a))) = .ok (g a)) : evE cs cal (.lc k src (.nm i) cond elt [i]) e = .ok (.list ((l.filter p).map g)) := by
  have := ev_lcM cs cal (k := k) (src := src) (tg := .nm i) (cond := cond) (elt := elt) (own := [i]) (e := e) enc l (fun a => if p a = true then [g a] else []) hs (fun a ha => by
    simp only [asg_nm, clr, List.foldl_cons, List.foldl_nil, R.bind_ok]
    rw [hc a ha, R.bind_ok, trB, R.bind_ok]
    cases hp : p a with
    | true => rw [if_pos rfl, if_pos rfl, h a ha hp]; rfl
    | false => rfl) (by
      rw [flat_if, List.length_map]
      exact Nat.le_trans (List.length_filter_le _ _) hz)
  rw [this, flat_if]
/-- a def in the table -/
structure Has (fs : List Fn) (j n m : Nat) (body : S) : Prop where
  at_ : ∃ f, fs[j]? = some f ∧ f.pars = n ∧ f.slots.length = m ∧ f.body = body
theorem Has.run {fs : List Fn} {j n m : Nat} {body : S} (h : Has fs j n m body) (cs : List D) (W k : Nat) (args : List D) (ha : args.length = n) : callN fs cs W (k + 1) j args = (evS cs (callN fs cs W k) W body (args.map some ++ List.replicate (m - n) none)).end_ := by
  obtain ⟨f, h1, h2, h3, h4⟩ := h.at_
  show (match fs[j]? with | some f => runF cs W (callN fs cs W k) f args | none => .stuck) = _
  rw [h1]
  show grd (args.length == f.pars) (evS cs (callN fs cs W k) W f.body (args.map some ++ List.replicate (f.slots.length - f.pars) none)).end_ = _
  rw [h2, h3, h4, ha, beq_self_eq_true, grd_true]
section
variable {fs : List Fn} {cs : List D} {W : Nat} {re : List (List Int)}
/-! ### fits -/
def fitsP (re : List (List Int)) (places : List Int) (p : Int) : Bool := places.all fun one => !decide (p = one) && !decide (p ∈ row re one)
def fitsB : S := (.seq (.ret (.blt .all (.cons (.lc .seq (.cons (.var 1) .nil) (.nm 3) (.bl true) (.and (.cmp .ne (.var 2) (.var 3)) (.one (.cmp .nin (.var 2) (.idx (.var 0) (.var 3))))) [3]) .nil))) .skip)
theorem fits_ok {j : Nat} (H : Has fs j 3 4 fitsB) (k : Nat) {ps : List Int} {p : Int} (hp : GI re.length ps) (hz : ps.length ≤ 1000) : callN fs cs W (k + 1) j [encII re, encI ps, .int p] = .ok (.bool (fitsP re ps p)) := by
  rw [H.run cs W k _ rfl]
  have lc := lc_map (cs := cs) (cal := callN fs cs W k) (k := .seq) (src := .cons (.var 1) .nil) (elt := .and (.cmp .ne (.var 2) (.var 3)) (.one (.cmp .nin (.var 2) (.idx (.var 0) (.var 3))))) (i := 3) (e := [some (encII re), some (encI ps), some (.int p), none]) PyData.int ps
    (fun one => .bool (!decide (p = one) && !decide (p ∈ row re one))) (seqL_it (by simp [encI])) (by omega) (fun one h1 => by
      obtain ⟨i0, i1⟩ := hp one h1
      have e1 := idx_row i0 i1
      have e2 := nin_I p (row re one)
      by_cases h : p = one
      · simp [h]
      · simp [h, e1, e2])
  have e0 : ([encII re, encI ps, PyData.int p].map some ++ List.replicate (4 - 3) none : Sg) = [some (encII re), some (encI ps), some (.int p), none] := rfl
  rw [e0]
  have al := all_bs (ps.map fun one => !decide (p = one) && !decide (p ∈ row re one))
  rw [List.map_map] at al
  have al2 : bltD .all [.list (ps.map fun one => PyData.bool (!decide (p = one) && !decide (p ∈ row re one)))] = .ok (.bool (fitsP re ps p)) := by
    rw [show (ps.map fun one => PyData.bool (!decide (p = one) && !decide (p ∈ row re one))) = ps.map (PyData.bool ∘ fun one => !decide (p = one) && !decide (p ∈ row re one)) from rfl, al]
    simp [fitsP, List.all_map]
  unfold fitsB
  rw [es_seq, es_ret, ev_blt, ev_cons, lc]
  simp only [R.bind_ok, ev_nil, unL_l, al2, R.go_ok, O.seq_rt]
  rfl
/-! ### rest -/
def restP (re : List (List Int)) (w : List Int) : List Int := ((List.range re.length).filter fun t : Nat => !decide ((t : Int) ∈ w ++ w.flatMap (row re))).map fun t : Nat => (t : Int)
theorem rest_mem {w : List Int} {i : Int} : i ∈ restP re w ↔ (0 ≤ i ∧ i < (re.length : Int)) ∧ i ∉ w ∧ ∀ p ∈ w, i ∉ row re p := by
  unfold restP
  simp only [List.mem_map, List.mem_filter, List.mem_range, Bool.not_eq_true', decide_eq_false_iff_not, List.mem_append, List.mem_flatMap, not_or, not_exists, not_and]
  constructor
  · rintro ⟨t, ⟨h1, h2, h3⟩, rfl⟩
    exact ⟨⟨by omega, by omega⟩, h2, h3⟩
  · rintro ⟨⟨h0, h1⟩, h2, h3⟩
    refine ⟨i.toNat, ⟨by omega, ?_, ?_⟩, Int.toNat_of_nonneg h0⟩
    · rw [Int.toNat_of_nonneg h0]; exact h2
    · rw [Int.toNat_of_nonneg h0]; exact h3
theorem rest_len (w : List Int) : (restP re w).length ≤ re.length := by
  unfold restP
  rw [List.length_map]
  refine Nat.le_trans (List.length_filter_le _ _) ?_
  rw [List.length_range]
  exact Nat.le_refl _
theorem rest_gi (w : List Int) : GI re.length (restP re w) := fun i hi => (rest_mem.mp hi).1
def metB : S := (.seq (.ext 2 (.idx (.var 0) (.var 3))) .skip)
def restB : S := (.seq (.set (.nm 2) (.blt .list (.cons (.var 1) .nil))) (.seq (.for_ .seq (.cons (.var 1) .nil) (.nm 3) metB) (.seq (.ret (.lc .rng1 (.cons (.blt .len (.cons (.var 0) .nil)) .nil) (.nm 3) (.cmp .nin (.var 3) (.bor 2)) (.var 3) [3])) .skip)))
theorem met_len (hg : ∀ l ∈ re, l.length ≤ 20) : ∀ {w : List Int}, GI re.length w → (w.flatMap (row re)).length ≤ 20 * w.length
  | [], _ => by simp
  | p :: w, h => by
    have := met_len hg (w := w) fun i hi => h i (by simp [hi])
    have h1 := hg _ (row_mem (h p (by simp)).1 (h p (by simp)).2)
    rw [List.flatMap_cons, List.length_append, List.length_cons]
    omega
theorem rest_ok {j : Nat} (H : Has fs j 2 4 restB) (k : Nat) (hn : re.length ≤ 20) (hg : ∀ l ∈ re, l.length ≤ 20) {w : List Int} (hw : GI re.length w) (hz : w.length ≤ 1000) : callN fs cs W (k + 1) j [encII re, encI w] = .ok (encI (restP re w)) := by
  rw [H.run cs W k _ rfl]
  have e0 : ([encII re, encI w].map some ++ List.replicate (4 - 2) none : Sg) = [some (encII re), some (encI w), none, none] := rfl
  rw [e0]
  obtain ⟨e', h5, he⟩ := for_map (cs := cs) (cal := callN fs cs W k) (W := W) (k := .seq) (src := .cons (.var 1) .nil) (i := 3) (body := metB) (e := [some (encII re), some (encI w), some (encI w), none]) PyData.int w
    (fun t e => e = [some (encII re), some (encI w), some (encI (w ++ (w.take t).flatMap (row re))), none]) (seqL_it (by simp [encI])) (fun t i hi e he => by
      subst he
      obtain ⟨ht, hi'⟩ := List.getElem?_eq_some_iff.mp hi
      obtain ⟨i0, i1⟩ := hw i (hi' ▸ List.getElem_mem ht)
      have e1 := idx_row i0 i1
      have l1 := met_len hg (w := w.take t) fun i hi => hw i (List.mem_of_mem_take hi)
      have l2 := hg _ (row_mem i0 i1)
      have l3 : (w.take t).length ≤ w.length := by rw [List.length_take]; omega
      have fl : fitL ((w ++ (w.take t).flatMap (row re)).length + (row re i).length) = true := fit_le (by rw [List.length_append]; omega)
      refine ⟨[some (encII re), some (encI w), some (encI (w ++ (w.take t).flatMap (row re) ++ row re i)), some (.int i)], ?_, ?_⟩
      · generalize (w.take t).flatMap (row re) = M at fl
        have fl2 : fitL (w.length + (M.length + (row re i).length)) = true := by rw [← Nat.add_assoc, ← List.length_append]; exact fl
        have fl3 : fitL (w.length + M.length + (row re i).length) = true := by rw [← List.length_append]; exact fl
        simp [metB, e1, encI, fl2, fl3]
      · have : w.take (t + 1) = w.take t ++ [i] := by rw [List.take_succ, hi]; rfl
        rw [this]
        simp [mk_s, mk_n, mk_0]) (by simp)
  rw [List.take_length] at he
  subst he
  have lc := lc_filter (cs := cs) (cal := callN fs cs W k) (k := .rng1) (src := .cons (.blt .len (.cons (.var 0) .nil)) .nil) (cond := .cmp .nin (.var 3) (.bor 2)) (elt := .var 3) (i := 3) (e := [some (encII re), some (encI w), some (encI (w ++ w.flatMap (row re))), none])
    (fun t : Nat => PyData.int t) (List.range re.length) (fun t : Nat => !decide ((t : Int) ∈ w ++ w.flatMap (row re))) (fun t : Nat => PyData.int t) (rng_n (by simp [len_II]) (by omega)) (by rw [List.length_range]; omega)
    (fun t _ => by have := nin_I t (w ++ w.flatMap (row re)); simp only [ev_cmp, ev_var, ev_bor, List.set_cons_succ, List.set_cons_zero, getS_s, getS_0, R.bind_ok, uk_I, this]) (fun t _ _ => by simp)
  unfold restB
  rw [es_seq, set_ok (d := encI w) rfl, O.seq_nx, es_seq]
  rw [show ([some (encII re), some (encI w), none, none] : Sg).set 2 (some (encI w)) = [some (encII re), some (encI w), some (encI w), none] from rfl, h5, O.seq_nx, es_seq, es_ret, lc]
  simp only [R.go_ok, O.seq_rt]
  show R.ok _ = _
  unfold restP encI
  rw [List.map_map]
  rfl
end
end Gu
/-! B: counted, longest, more guards. -/
namespace Gu
open PySem Mt
/-! ### loops -/
theorem forGo_ret {α : Type} {f : D → Sg → O} (enc : α → D) (P : D → Prop) (I : Nat → Sg → Prop) : ∀ {l : List α} {n : Nat} {e : Sg}, (∀ (t : Nat) a, l[t]? = some a → ∀ e, I (n + t) e → (∃ e1, f (enc a) e = .nx e1 ∧ I (n + t + 1) (mask e e1)) ∨ ∃ d, f (enc a) e = .rt d ∧ P d) → I n e →
    (∃ e', forGo f (l.map enc) e = .nx e' ∧ I (n + l.length) e') ∨ ∃ d, forGo f (l.map enc) e = .rt d ∧ P d
  | [], n, e, _, h => .inl ⟨e, rfl, h⟩
  | a :: l, n, e, hs, h => by
    rcases hs 0 a rfl e h with ⟨e1, h1, h2⟩ | ⟨d, h1, h2⟩
    · have := forGo_ret enc P I (l := l) (n := n + 1) (e := mask e e1) (fun t y hy e he => by
        have := hs (t + 1) y (by simpa using hy) e (by rw [show n + (t + 1) = n + 1 + t by omega]; exact he)
        rw [show n + (t + 1) = n + 1 + t by omega] at this
        exact this) h2
      rcases this with ⟨e', h3, h4⟩ | ⟨d, h3, h4⟩
      · refine .inl ⟨e', ?_, by rw [show n + (a :: l).length = n + 1 + l.length by simp; omega]; exact h4⟩
        show (f (enc a) e).seq (fun e1 => forGo f (l.map enc) (mask e e1)) = _
        rw [h1]
        exact h3
      · refine .inr ⟨d, ?_, h4⟩
        show (f (enc a) e).seq (fun e1 => forGo f (l.map enc) (mask e e1)) = _
        rw [h1]
        exact h3
    · refine .inr ⟨d, ?_, h2⟩
      show (f (enc a) e).seq (fun e1 => forGo f (l.map enc) (mask e e1)) = _
      rw [h1]
      rfl
section
variable {cs : List D} {cal : Nat → List D → R D} {W : Nat}
theorem itD_r2 (a b : Int) : itD .rng2 [.int a, .int b] = grd (small a && small b) (.ok ((List.range (b - a).toNat).map fun i : Nat => .int (a + i))) := by simp only [itD]
theorem small_i {i : Int} (h0 : -1000 ≤ i) (h1 : i ≤ 1000) : small i = true := by
  unfold small
  rw [Bool.and_eq_true]
  exact ⟨decide_eq_true (by omega), decide_eq_true (by omega)⟩
theorem for_ret {α : Type} {k : ItK} {src : E} {i : Nat} {body : S} {e : Sg} (enc : α → D) (l : List α) (P : D → Prop) (I : Nat → Sg → Prop) (h : ((evE cs cal src e).bind unL).bind (itD k) = .ok (l.map enc))
    (st : ∀ t a, l[t]? = some a → ∀ e, I t e → (∃ e1, evS cs cal W body (e.set i (some (enc a))) = .nx e1 ∧ I (t + 1) (mask e e1)) ∨ ∃ d, evS cs cal W body (e.set i (some (enc a))) = .rt d ∧ P d) (h0 : I 0 e) :
    (∃ e', evS cs cal W (.for_ k src (.nm i) body) e = .nx e' ∧ I l.length e') ∨ ∃ d, evS cs cal W (.for_ k src (.nm i) body) e = .rt d ∧ P d := by
  rw [es_for, h, R.go_ok]
  have := forGo_ret (f := fun x e => (asg (.nm i) x e).go e fun e1 => evS cs cal W body e1) enc P I (l := l) (n := 0) (e := e) (fun t a ha e he => by
    rw [Nat.zero_add] at he ⊢
    rcases st t a ha e he with ⟨e1, h1, h2⟩ | ⟨d, h1, h2⟩
    · exact .inl ⟨e1, asg_go h1, h2⟩
    · refine .inr ⟨d, ?_, h2⟩
      rw [asg_nm, R.go_ok]
      exact h1) h0
  simpa using this
theorem rng2_it {e : Sg} {src : E} {a b : Int} (h : ((evE cs cal src e).bind unL) = .ok [.int a, .int b]) (a0 : -1000 ≤ a) (a1 : a ≤ 1000) (b0 : -1000 ≤ b) (b1 : b ≤ 1000) : ((evE cs cal src e).bind unL).bind (itD .rng2) = .ok ((List.range (b - a).toNat).map fun i : Nat => PyData.int (a + i)) := by
  rw [h, R.bind_ok, itD_r2, small_i a0 a1, small_i b0 b1]
  rfl
end
/-! ### ascending places -/
def Asc (n : Nat) (l : List Int) : Prop := l.Pairwise (· < ·) ∧ GI n l
def Ind (re : List (List Int)) (l : List Int) : Prop := Asc re.length l ∧ l.Pairwise fun a b => b ∉ row re a
theorem asc_len : ∀ (l : List Int) (a n : Int), a ≤ n → l.Pairwise (· < ·) → (∀ i ∈ l, a ≤ i ∧ i < n) → (l.length : Int) ≤ n - a
  | [], a, n, h, _, _ => by simp; omega
  | x :: r, a, n, h, hp, hr => by
    obtain ⟨h1, h2⟩ := List.pairwise_cons.mp hp
    have hx := hr x (by simp)
    have := asc_len r (x + 1) n (by omega) h2 fun i hi => by
      have := h1 i hi
      have := hr i (by simp [hi])
      omega
    simp only [List.length_cons]
    push_cast
    omega
theorem Asc.len {n : Nat} {l : List Int} (h : Asc n l) : l.length ≤ n := by
  have := asc_len l 0 n (by omega) h.1 h.2
  omega
theorem Asc.snoc {n : Nat} {l : List Int} {p : Int} (h : Asc n l) (hl : ∀ i ∈ l, i < p) (p0 : 0 ≤ p) (p1 : p < n) : Asc n (l ++ [p]) := by
  refine ⟨List.pairwise_append.mpr ⟨h.1, by simp, fun a ha b hb => ?_⟩, fun i hi => ?_⟩
  · simp at hb
    subst hb
    exact hl a ha
  · rcases List.mem_append.mp hi with hi | hi
    · exact h.2 i hi
    · simp at hi
      subst hi
      exact ⟨p0, p1⟩
theorem Asc.nil (n : Nat) : Asc n [] := ⟨.nil, fun i hi => nomatch hi⟩
theorem Ind.nil (re : List (List Int)) : Ind re [] := ⟨Asc.nil _, .nil⟩
theorem fits_iff {re : List (List Int)} {ps : List Int} {p : Int} : fitsP re ps p = true ↔ ∀ one ∈ ps, p ≠ one ∧ p ∉ row re one := by
  simp [fitsP]
theorem Ind.snoc {re : List (List Int)} {l : List Int} {p : Int} (h : Ind re l) (hl : ∀ i ∈ l, i < p) (p0 : 0 ≤ p) (p1 : p < re.length) (hf : fitsP re l p = true) : Ind re (l ++ [p]) := by
  refine ⟨h.1.snoc hl p0 p1, List.pairwise_append.mpr ⟨h.2, by simp, fun a ha b hb => ?_⟩⟩
  simp at hb
  subst hb
  exact (fits_iff.mp hf a ha).2
theorem lsts_I {cs : List D} {cal : Nat → List D → R D} {e : Sg} {i j : Nat} {l : List Int} {p : Int} (h : getS e i = .ok (encI l)) (hp : getS e j = .ok (.int p)) (hz : l.length ≤ 1000) : evE cs cal (.lsts (.var i) (.cons (.var j) .nil)) e = .ok (encI (l ++ [p])) := by
  have fl : fitL (l.length + 1) = true := fit_le (by omega)
  simp [h, hp, encI, fl]
section
variable {fs : List Fn} {cs : List D} {W : Nat} {re : List (List Int)}
/-! ### counted -/
def countP (re : List (List Int)) : Nat → List Int → Nat → Int
  | 0, _, _ => 1
  | m + 1, ps, f => ((List.range (re.length - f)).map fun t : Nat => if fitsP re ps ((f : Int) + t) = true then countP re m (ps ++ [(f : Int) + t]) (f + t + 1) else 0).sum
def countB1 (jf jc : Nat) : S := (.seq (.ite (.call jf (.cons (.var 0) (.cons (.var 1) (.cons (.var 5) .nil)))) (.seq (.set (.nm 4) (.bin .add (.var 4) (.call jc (.cons (.var 0) (.cons (.lsts (.var 1) (.cons (.var 5) .nil)) (.cons (.bin .add (.var 5) (.int 1)) (.cons (.bin .sub (.var 3) (.int 1)) .nil))))))) .skip) .skip) .skip)
def countB (jf jc : Nat) : S := (.seq (.ite (.cmp .eq (.var 3) (.int 0)) (.seq (.ret (.int 1)) .skip) .skip) (.seq (.set (.nm 4) (.int 0)) (.seq (.for_ .rng2 (.cons (.var 2) (.cons (.blt .len (.cons (.var 0) .nil)) .nil)) (.nm 5) (countB1 jf jc)) (.seq (.ret (.var 4)) .skip))))
theorem counted_ok {jf jc : Nat} (Hf : Has fs jf 3 4 fitsB) (Hc : Has fs jc 4 6 (countB jf jc)) (hn : re.length ≤ 20) (k : Nat) : ∀ (m : Nat) (ps : List Int) (f : Nat), GI re.length ps → ps.length + m ≤ 100 → f ≤ re.length → callN fs cs W (k + m + 2) jc [encII re, encI ps, .int (f : Nat), .int (m : Nat)] = .ok (.int (countP re m ps f))
  | 0, ps, f, hg, hz, hf => by
    rw [Hc.run cs W (k + 0 + 1) _ rfl]
    rfl
  | m + 1, ps, f, hg, hz, hf => by
    rw [show k + (m + 1) + 2 = (k + m + 2) + 1 by omega, Hc.run cs W _ _ rfl]
    have e0 : ([encII re, encI ps, PyData.int (f : Nat), PyData.int ((m + 1 : Nat) : Int)].map some ++ List.replicate (6 - 4) none : Sg) = [some (encII re), some (encI ps), some (.int (f : Nat)), some (.int ((m + 1 : Nat) : Int)), none, none] := rfl
    rw [e0]
    let g : Nat → Int := fun t => if fitsP re ps ((f : Int) + t) = true then countP re m (ps ++ [(f : Int) + t]) (f + t + 1) else 0
    obtain ⟨e', h5, he⟩ := for_map (cs := cs) (cal := callN fs cs W (k + m + 2)) (W := W) (k := .rng2) (src := .cons (.var 2) (.cons (.blt .len (.cons (.var 0) .nil)) .nil)) (i := 5) (body := countB1 jf jc) (e := [some (encII re), some (encI ps), some (.int (f : Nat)), some (.int ((m + 1 : Nat) : Int)), some (.int 0), none]) (fun i : Nat => PyData.int ((f : Int) + i)) (List.range ((re.length : Int) - f).toNat)
      (fun t e => e = [some (encII re), some (encI ps), some (.int (f : Nat)), some (.int ((m + 1 : Nat) : Int)), some (.int ((List.range t).map g).sum), none]) (rng2_it (by simp [len_II]) (by omega) (by omega) (by omega) (by omega)) (fun t i hi e he => by
        subst he
        obtain ⟨ht, hi'⟩ := List.getElem?_eq_some_iff.mp hi
        rw [List.getElem_range] at hi'
        subst hi'
        rw [List.length_range] at ht
        have e1 := fits_ok (cs := cs) (W := W) Hf (k + m + 1) (p := (f : Int) + t) hg (by omega)
        have e2 := counted_ok Hf Hc hn k m (ps ++ [(f : Int) + t]) (f + t + 1) (fun i hi => by
          rcases List.mem_append.mp hi with hi | hi
          · exact hg i hi
          · simp at hi
            omega) (by simp; omega) (by omega)
        have e3 : ((f + t + 1 : Nat) : Int) = (f : Int) + t + 1 := by omega
        rw [e3] at e2
        have e4 := lsts_I (cs := cs) (cal := callN fs cs W (k + m + 2)) (e := [some (encII re), some (encI ps), some (.int (f : Nat)), some (.int ((m + 1 : Nat) : Int)), some (.int ((List.range t).map g).sum), some (.int ((f : Int) + t))]) (i := 1) (j := 5) (l := ps) (p := (f : Int) + t) rfl rfl (by omega)
        have e5 : ((m + 1 : Nat) : Int) - 1 = (m : Int) := by omega
        have sm : ((List.range (t + 1)).map g).sum = ((List.range t).map g).sum + g t := by
          rw [List.range_succ, List.map_append, List.sum_append]
          simp
        refine ⟨[some (encII re), some (encI ps), some (.int (f : Nat)), some (.int ((m + 1 : Nat) : Int)), some (.int ((List.range (t + 1)).map g).sum), some (.int ((f : Int) + t))], ?_, rfl⟩
        rw [sm]
        have c1 : callN fs cs W (k + m + 2) jf [encII re, encI ps, .int ((f : Int) + t)] = .ok (.bool (fitsP re ps ((f : Int) + t))) := e1
        have ev1 : evE cs (callN fs cs W (k + m + 2)) (.call jf (.cons (.var 0) (.cons (.var 1) (.cons (.var 5) .nil)))) [some (encII re), some (encI ps), some (.int (f : Nat)), some (.int ((m + 1 : Nat) : Int)), some (.int ((List.range t).map g).sum), some (.int ((f : Int) + t))] = .ok (.bool (fitsP re ps ((f : Int) + t))) := by
          simp only [ev_call, ev_cons, ev_nil, ev_var, getS_0, getS_s, R.bind_ok, unL_l, c1]
        show evS cs _ W (countB1 jf jc) [some (encII re), some (encI ps), some (.int (f : Nat)), some (.int ((m + 1 : Nat) : Int)), some (.int ((List.range t).map g).sum), some (.int ((f : Int) + t))] = _
        unfold countB1
        rw [es_seq, es_ite, ev1, R.go_ok, trB, R.go_ok]
        cases hb : fitsP re ps ((f : Int) + t) with
        | true =>
          have gt : g t = countP re m (ps ++ [(f : Int) + t]) (f + t + 1) := if_pos hb
          have ev2 : evE cs (callN fs cs W (k + m + 2)) (.bin .add (.var 4) (.call jc (.cons (.var 0) (.cons (.lsts (.var 1) (.cons (.var 5) .nil)) (.cons (.bin .add (.var 5) (.int 1)) (.cons (.bin .sub (.var 3) (.int 1)) .nil)))))) [some (encII re), some (encI ps), some (.int (f : Nat)), some (.int ((m + 1 : Nat) : Int)), some (.int ((List.range t).map g).sum), some (.int ((f : Int) + t))] = .ok (.int (((List.range t).map g).sum + g t)) := by
            rw [ev_bin, ev_call, ev_cons, ev_cons, e4]
            simp only [ev_cons, ev_nil, ev_var, ev_bin, ev_int, getS_0, getS_s, R.bind_ok, unL_l, unk_i, bin_add, bin_sub, e5, e2, gt]
          rw [if_pos rfl, es_seq, set_ok ev2, O.seq_nx]
          rfl
        | false =>
          have gt : g t = 0 := if_neg (by rw [hb]; decide)
          rw [if_neg (by decide), gt, Int.add_zero]
          rfl) rfl
    rw [List.length_range] at he
    subst he
    have en : ((re.length : Int) - f).toNat = re.length - f := by omega
    rw [en] at h5
    have ne : ¬ (((m + 1 : Nat) : Int) = 0) := by omega
    unfold countB
    rw [es_seq, es_ite]
    simp only [ev_cmp, ev_var, ev_int, getS_0, getS_s, R.bind_ok, unk_i, cmp_eqI, decide_eq_false ne, R.go_ok, trB, Bool.false_eq_true, if_false, es_skip, O.seq_nx]
    rw [es_seq, set_ok (d := .int 0) rfl, O.seq_nx, es_seq]
    show ((evS cs _ W _ [some (encII re), some (encI ps), some (.int (f : Nat)), some (.int ((m + 1 : Nat) : Int)), some (.int 0), none]).seq _).end_ = _
    rw [h5]
    rfl
/-! ### longest -/
def longB1 (jf jl : Nat) : S := (.seq (.ite (.and (.cmp .gt (.bin .sub (.bin .add (.blt .len (.cons (.var 1) .nil)) (.blt .len (.cons (.var 0) .nil))) (.var 4)) (.blt .len (.cons (.var 3) .nil))) (.one (.call jf (.cons (.var 0) (.cons (.var 1) (.cons (.var 4) .nil)))))) (.seq (.set (.nm 3) (.call jl (.cons (.var 0) (.cons (.lsts (.var 1) (.cons (.var 4) .nil)) (.cons (.bin .add (.var 4) (.int 1)) (.cons (.var 3) .nil)))))) .skip) .skip) .skip)
def longB (jf jl : Nat) : S := (.seq (.ite (.cmp .gt (.blt .len (.cons (.var 1) .nil)) (.blt .len (.cons (.var 3) .nil))) (.seq (.set (.nm 3) (.var 1)) .skip) .skip) (.seq (.for_ .rng2 (.cons (.var 2) (.cons (.blt .len (.cons (.var 0) .nil)) .nil)) (.nm 4) (longB1 jf jl)) (.seq (.ret (.var 3)) .skip)))
theorem longest_ok {jf jl : Nat} (Hf : Has fs jf 3 4 fitsB) (Hl : Has fs jl 4 5 (longB jf jl)) (hn : re.length ≤ 20) (k : Nat) : ∀ (d : Nat) (ps best : List Int) (f : Nat), re.length - f ≤ d → f ≤ re.length → Ind re ps → (∀ i ∈ ps, i < f) → Ind re best → ∃ r, callN fs cs W (k + d + 2) jl [encII re, encI ps, .int (f : Nat), encI best] = .ok (encI r) ∧ Ind re r := by
  intro d
  induction d with
  | zero =>
    intro ps best f hd hf hp hl hb
    have hfn : f = re.length := by omega
    have pre : ∃ b2, Ind re b2 ∧ evS cs (callN fs cs W (k + 0 + 1)) W (.ite (.cmp .gt (.blt .len (.cons (.var 1) .nil)) (.blt .len (.cons (.var 3) .nil))) (.seq (.set (.nm 3) (.var 1)) .skip) .skip) [some (encII re), some (encI ps), some (.int (f : Nat)), some (encI best), none] = .nx [some (encII re), some (encI ps), some (.int (f : Nat)), some (encI b2), none] := by
      by_cases h : best.length < ps.length
      · exact ⟨ps, hp, by simp [len_I, h]⟩
      · exact ⟨best, hb, by simp [len_I, h]⟩
    obtain ⟨b2, hb2, e1⟩ := pre
    refine ⟨b2, ?_, hb2⟩
    rw [Hl.run cs W (k + 0 + 1) _ rfl]
    show (evS cs _ W (longB jf jl) [some (encII re), some (encI ps), some (.int (f : Nat)), some (encI best), none]).end_ = _
    unfold longB
    rw [es_seq, e1, O.seq_nx, es_seq, es_for, rng2_it (a := f) (b := re.length) (by simp [len_II]) (by omega) (by omega) (by omega) (by omega)]
    have : ((re.length : Int) - f).toNat = 0 := by omega
    rw [this]
    rfl
  | succ d ih =>
    intro ps best f hd hf hp hl hb
    have pre : ∃ b2, Ind re b2 ∧ evS cs (callN fs cs W (k + (d + 1) + 1)) W (.ite (.cmp .gt (.blt .len (.cons (.var 1) .nil)) (.blt .len (.cons (.var 3) .nil))) (.seq (.set (.nm 3) (.var 1)) .skip) .skip) [some (encII re), some (encI ps), some (.int (f : Nat)), some (encI best), none] = .nx [some (encII re), some (encI ps), some (.int (f : Nat)), some (encI b2), none] := by
      by_cases h : best.length < ps.length
      · exact ⟨ps, hp, by simp [len_I, h]⟩
      · exact ⟨best, hb, by simp [len_I, h]⟩
    obtain ⟨b2, hb2, e1⟩ := pre
    have hpl := hp.1.len
    obtain ⟨e', h5, b3, hb3, he⟩ := for_map (cs := cs) (cal := callN fs cs W (k + (d + 1) + 1)) (W := W) (k := .rng2) (src := .cons (.var 2) (.cons (.blt .len (.cons (.var 0) .nil)) .nil)) (i := 4) (body := longB1 jf jl) (e := [some (encII re), some (encI ps), some (.int (f : Nat)), some (encI b2), none]) (fun i : Nat => PyData.int ((f : Int) + i)) (List.range ((re.length : Int) - f).toNat)
      (fun t e => ∃ b, Ind re b ∧ e = [some (encII re), some (encI ps), some (.int (f : Nat)), some (encI b), none]) (rng2_it (by simp [len_II]) (by omega) (by omega) (by omega) (by omega)) (fun t i hi e he => by
        obtain ⟨b, hb, rfl⟩ := he
        obtain ⟨ht, hi'⟩ := List.getElem?_eq_some_iff.mp hi
        rw [List.getElem_range] at hi'
        subst hi'
        rw [List.length_range] at ht
        have c1 : callN fs cs W (k + (d + 1) + 1) jf [encII re, encI ps, .int ((f : Int) + t)] = .ok (.bool (fitsP re ps ((f : Int) + t))) := fits_ok (cs := cs) (W := W) Hf (k + d + 1) hp.1.2 (by omega)
        have e4 := lsts_I (cs := cs) (cal := callN fs cs W (k + (d + 1) + 1)) (e := [some (encII re), some (encI ps), some (.int (f : Nat)), some (encI b), some (.int ((f : Int) + t))]) (i := 1) (j := 4) (l := ps) (p := (f : Int) + t) rfl rfl (by omega)
        by_cases g1 : (b.length : Int) < (ps.length : Int) + re.length - ((f : Int) + t)
        · cases g2 : fitsP re ps ((f : Int) + t) with
          | true =>
            obtain ⟨r, er, hr⟩ := ih (ps ++ [(f : Int) + t]) b (f + t + 1) (by omega) (by omega) (hp.snoc (fun i hi => by have := hl i hi; omega) (by omega) (by omega) g2) (fun i hi => by
              rcases List.mem_append.mp hi with hi | hi
              · have := hl i hi; omega
              · simp at hi; omega) hb
            have e3 : ((f + t + 1 : Nat) : Int) = (f : Int) + t + 1 := by omega
            rw [e3] at er
            have er : callN fs cs W (k + (d + 1) + 1) jl [encII re, encI (ps ++ [(f : Int) + t]), .int ((f : Int) + t + 1), encI b] = .ok (encI r) := by
              rw [show k + (d + 1) + 1 = k + d + 2 by omega]; exact er
            refine ⟨[some (encII re), some (encI ps), some (.int (f : Nat)), some (encI r), some (.int ((f : Int) + t))], ?_, r, hr, rfl⟩
            have ev2 : evE cs (callN fs cs W (k + (d + 1) + 1)) (.call jl (.cons (.var 0) (.cons (.lsts (.var 1) (.cons (.var 4) .nil)) (.cons (.bin .add (.var 4) (.int 1)) (.cons (.var 3) .nil))))) [some (encII re), some (encI ps), some (.int (f : Nat)), some (encI b), some (.int ((f : Int) + t))] = .ok (encI r) := by
              rw [ev_call, ev_cons, ev_cons, e4]
              simp only [ev_cons, ev_nil, ev_var, ev_bin, ev_int, getS_0, getS_s, R.bind_ok, unL_l, unk_i, bin_add, er]
            show evS cs _ W (longB1 jf jl) [some (encII re), some (encI ps), some (.int (f : Nat)), some (encI b), some (.int ((f : Int) + t))] = _
            unfold longB1
            rw [es_seq, es_ite]
            simp only [ev_and, ev_cmp, ev_bin, ev_blt, ev_cons, ev_nil, ev_var, ev_one, ev_call, getS_0, getS_s, R.bind_ok, unL_l, len_I, len_II, unk_i, bin_add, bin_sub, cmp_gt, decide_eq_true g1, trB, if_true, c1, g2, R.go_ok]
            rw [es_seq, set_ok ev2, O.seq_nx]
            rfl
          | false =>
            refine ⟨[some (encII re), some (encI ps), some (.int (f : Nat)), some (encI b), some (.int ((f : Int) + t))], ?_, b, hb, rfl⟩
            show evS cs _ W (longB1 jf jl) [some (encII re), some (encI ps), some (.int (f : Nat)), some (encI b), some (.int ((f : Int) + t))] = _
            unfold longB1
            rw [es_seq, es_ite]
            simp only [ev_and, ev_cmp, ev_bin, ev_blt, ev_cons, ev_nil, ev_var, ev_one, ev_call, getS_0, getS_s, R.bind_ok, unL_l, len_I, len_II, unk_i, bin_add, bin_sub, cmp_gt, decide_eq_true g1, trB, if_true, c1, g2, R.go_ok]
            rfl
        · refine ⟨[some (encII re), some (encI ps), some (.int (f : Nat)), some (encI b), some (.int ((f : Int) + t))], ?_, b, hb, rfl⟩
          show evS cs _ W (longB1 jf jl) [some (encII re), some (encI ps), some (.int (f : Nat)), some (encI b), some (.int ((f : Int) + t))] = _
          unfold longB1
          rw [es_seq, es_ite]
          simp only [ev_and, ev_cmp, ev_bin, ev_blt, ev_cons, ev_nil, ev_var, ev_one, ev_call, getS_0, getS_s, R.bind_ok, unL_l, len_I, len_II, unk_i, bin_add, bin_sub, cmp_gt, decide_eq_false g1, trB, Bool.false_eq_true, if_false, R.go_ok]
          rfl) ⟨b2, hb2, rfl⟩
    subst he
    refine ⟨b3, ?_, hb3⟩
    rw [Hl.run cs W (k + (d + 1) + 1) _ rfl]
    show (evS cs _ W (longB jf jl) [some (encII re), some (encI ps), some (.int (f : Nat)), some (encI best), none]).end_ = _
    unfold longB
    rw [es_seq, e1, O.seq_nx, es_seq, h5]
    rfl
end
end Gu
/-! C: more guards. -/
namespace Gu
open PySem Mt
theorem mostI_mem : ∀ (l : List Int) (m : Int), mostI m l = m ∨ mostI m l ∈ l
  | [], m => .inl rfl
  | i :: r, m => by
    unfold mostI
    rcases mostI_mem r (if m < i then i else m) with h | h
    · rw [h]
      split
      · exact .inr (by simp)
      · exact .inl rfl
    · exact .inr (by simp [h])
theorem mostI_ge : ∀ (l : List Int) (m : Int), m ≤ mostI m l
  | [], m => Int.le_refl _
  | i :: r, m => by
    unfold mostI
    refine Int.le_trans ?_ (mostI_ge r _)
    split <;> omega
theorem max_list (m : Int) (l : List Int) : bltD .max [.list (.int m :: l.map PyData.int)] = .ok (.int (mostI m l)) := by
  show maxA (.int m :: l.map PyData.int) = _
  unfold maxA
  have : intsOf (.int m :: l.map PyData.int) = .ok (m :: l) := ints_map (m :: l)
  rw [this]
  rfl
/-- the place behind the last one -/
def nextP (ps : List Int) : Int := match ps.getLast? with
  | some p => p + 1
  | none => 0
theorem idx_last {ps : List Int} {p : Int} (h : ps.getLast? = some p) : idxD (encI ps) (.int (-1)) = .ok (.int p) := by
  have hn : ps ≠ [] := fun z => by rw [z] at h; cases h
  have hl : 0 < ps.length := List.length_pos_iff.mpr hn
  show atD (ps.map PyData.int) (-1) = _
  unfold atD L2.atI L2.ixN
  rw [if_neg (by omega), if_pos (by simp; omega)]
  have e : (-1 + ((ps.map PyData.int).length : Int)).toNat = ps.length - 1 := by simp; omega
  rw [e]
  show (match (ps.map PyData.int)[ps.length - 1]? with | some x => R.ok x | none => .stuck) = _
  rw [List.getElem?_map, ← List.getLast?_eq_getElem?, h]
  rfl
theorem nextP_gt {n : Nat} {ps : List Int} (h : Asc n ps) : (∀ i ∈ ps, i < nextP ps) ∧ 0 ≤ nextP ps ∧ nextP ps ≤ n := by
  unfold nextP
  cases hl : ps.getLast? with
  | none =>
    have : ps = [] := by simpa using hl
    subst this
    exact ⟨(fun i hi => nomatch hi), Int.le_refl _, by show (0 : Int) ≤ n; omega⟩
  | some p =>
    have hp : p ∈ ps := List.mem_of_getLast? hl
    have hr := h.2 p hp
    obtain ⟨hr0, hr1⟩ := hr
    refine ⟨fun i hi => ?_, ?_, ?_⟩
    rotate_left
    · show 0 ≤ p + 1
      omega
    · show p + 1 ≤ (n : Int)
      omega
    show i < p + 1
    obtain ⟨l, rfl⟩ : ∃ l, ps = l ++ [p] := by
      have hn : ps ≠ [] := fun z => by rw [z] at hl; cases hl
      refine ⟨ps.dropLast, ?_⟩
      rw [List.getLast?_eq_some_getLast hn] at hl
      rw [← Option.some.inj hl]
      exact (List.dropLast_concat_getLast hn).symm
    rcases List.mem_append.mp hi with hi | hi
    · have := (List.pairwise_append.mp h.1).2.2 i hi p (by simp)
      omega
    · simp at hi
      omega
/-- 0, 1, .., q - 1 -/
def upto (q : Nat) : List Int := (List.range q).map fun i : Nat => (i : Int)
theorem upto_succ (q : Nat) : upto (q + 1) = upto q ++ [(q : Int)] := by
  unfold upto
  rw [List.range_succ, List.map_append]
  rfl
theorem upto_mem {q : Nat} {i : Int} : i ∈ upto q ↔ 0 ≤ i ∧ i < q := by
  unfold upto
  simp only [List.mem_map, List.mem_range]
  constructor
  · rintro ⟨t, h, rfl⟩
    omega
  · exact fun h => ⟨i.toNat, by omega, by omega⟩
theorem upto_next (q : Nat) : nextP (upto q) = q := by
  cases q with
  | zero => rfl
  | succ q =>
    unfold nextP
    rw [upto_succ, List.getLast?_append]
    simp
def encO : Option (List Int) → D
  | none => .none
  | some l => encI l
section
variable {fs : List Fn} {cs : List D} {W : Nat} {re : List (List Int)}
def moreB1 (j : Nat) : S := (.seq (.set (.nm 8) (.call j (.cons (.var 0) (.cons (.lsts (.var 1) (.cons (.var 4) .nil)) (.cons (.bin .sub (.var 2) (.int 1)) .nil))))) (.seq (.ite (.cmp .isnn (.var 8) .non) (.seq (.ret (.var 8)) .skip) .skip) .skip))
def moreM : S := (.seq (.ext 3 (.idx (.var 0) (.var 4))) .skip)
def moreB (j : Nat) : S := (.seq (.set (.nm 3) (.blt .list (.cons (.var 1) .nil))) (.seq (.for_ .seq (.cons (.var 1) .nil) (.nm 4) moreM) (.seq (.set (.nm 5) (.lc .rng1 (.cons (.blt .len (.cons (.var 0) .nil)) .nil) (.nm 4) (.cmp .nin (.var 4) (.bor 3)) (.var 4) [4]))
  (.seq (.ite (.cmp .eq (.blt .len (.cons (.var 5) .nil)) (.int 0)) (.seq (.ret (.var 1)) .skip) .skip) (.seq (.ite (.cmp .eq (.var 2) (.int 0)) (.seq (.ret .non) .skip) .skip)
  (.seq (.set (.nm 6) (.ite (.cmp .gt (.blt .len (.cons (.var 1) .nil)) (.int 0)) (.bin .add (.idx (.var 1) (.neg (.int 1))) (.int 1)) (.int 0)))
  (.seq (.set (.nm 7) (.blt .max (.cons (.bin .add (.lst (.cons (.idx (.var 5) (.int 0)) .nil)) (.idx (.var 0) (.idx (.var 5) (.int 0)))) .nil)))
  (.seq (.for_ .rng2 (.cons (.var 6) (.cons (.bin .add (.var 7) (.int 1)) .nil)) (.nm 4) (moreB1 j)) (.seq (.ret .non) .skip)))))))))
abbrev m9 (re : List (List Int)) (ps : List Int) (m : Nat) (a b c d e f : Option D) : Sg := [some (encII re), some (encI ps), some (.int (m : Nat)), a, b, c, d, e, f]
theorem more_met (cal : Nat → List D → R D) (hg : ∀ l ∈ re, l.length ≤ 20) {ps : List Int} (hp : GI re.length ps) (hz : ps.length ≤ 1000) (m : Nat) :
    evS cs cal W (.for_ .seq (.cons (.var 1) .nil) (.nm 4) moreM) (m9 re ps m (some (encI ps)) none none none none none) = .nx (m9 re ps m (some (encI (ps ++ ps.flatMap (row re)))) none none none none none) := by
  obtain ⟨e', h5, he⟩ := for_map (cs := cs) (cal := cal) (W := W) (k := .seq) (src := .cons (.var 1) .nil) (i := 4) (body := moreM) (e := m9 re ps m (some (encI ps)) none none none none none) PyData.int ps
    (fun t e => e = m9 re ps m (some (encI (ps ++ (ps.take t).flatMap (row re)))) none none none none none) (seqL_it (by simp [encI])) (fun t i hi e he => by
      subst he
      obtain ⟨ht, hi'⟩ := List.getElem?_eq_some_iff.mp hi
      obtain ⟨i0, i1⟩ := hp i (hi' ▸ List.getElem_mem ht)
      have e1 := idx_row i0 i1
      have l1 := met_len hg (w := ps.take t) fun i hi => hp i (List.mem_of_mem_take hi)
      have l2 := hg _ (row_mem i0 i1)
      have l3 : (ps.take t).length ≤ ps.length := by rw [List.length_take]; omega
      have fl : fitL ((ps ++ (ps.take t).flatMap (row re)).length + (row re i).length) = true := fit_le (by rw [List.length_append]; omega)
      refine ⟨m9 re ps m (some (encI (ps ++ (ps.take t).flatMap (row re) ++ row re i))) (some (.int i)) none none none none, ?_, ?_⟩
      · generalize (ps.take t).flatMap (row re) = M at fl
        have fl2 : fitL (ps.length + (M.length + (row re i).length)) = true := by rw [← Nat.add_assoc, ← List.length_append]; exact fl
        have fl3 : fitL (ps.length + M.length + (row re i).length) = true := by rw [← List.length_append]; exact fl
        simp [moreM, e1, encI, fl2, fl3]
      · have : ps.take (t + 1) = ps.take t ++ [i] := by rw [List.take_succ, hi]; rfl
        rw [this]
        simp [mk_s, mk_n, mk_0]) (by simp)
  rw [List.take_length] at he
  subst he
  exact h5
theorem more_bare (cal : Nat → List D → R D) (hn : re.length ≤ 20) (ps : List Int) (m : Nat) :
    evE cs cal (.lc .rng1 (.cons (.blt .len (.cons (.var 0) .nil)) .nil) (.nm 4) (.cmp .nin (.var 4) (.bor 3)) (.var 4) [4]) (m9 re ps m (some (encI (ps ++ ps.flatMap (row re)))) none none none none none) = .ok (encI (restP re ps)) := by
  have lc := lc_filter (cs := cs) (cal := cal) (k := .rng1) (src := .cons (.blt .len (.cons (.var 0) .nil)) .nil) (cond := .cmp .nin (.var 4) (.bor 3)) (elt := .var 4) (i := 4) (e := m9 re ps m (some (encI (ps ++ ps.flatMap (row re)))) none none none none none)
    (fun t : Nat => PyData.int t) (List.range re.length) (fun t : Nat => !decide ((t : Int) ∈ ps ++ ps.flatMap (row re))) (fun t : Nat => PyData.int t) (rng_n (by simp [len_II]) (by omega)) (by rw [List.length_range]; omega)
    (fun t _ => by have := nin_I t (ps ++ ps.flatMap (row re)); simp only [m9, ev_cmp, ev_var, ev_bor, List.set_cons_succ, List.set_cons_zero, getS_s, getS_0, R.bind_ok, uk_I, this]) (fun t _ _ => by simp)
  rw [lc]
  unfold restP encI
  rw [List.map_map]
  rfl
theorem more_ok {j : Nat} (H : Has fs j 3 9 (moreB j)) (G : GG re) (k : Nat) : ∀ (m : Nat) (ps : List Int), Asc re.length ps → ∃ o, callN fs cs W (k + m + 1) j [encII re, encI ps, .int (m : Nat)] = .ok (encO o) ∧ (∀ P, o = some P → Asc re.length P ∧ restP re P = []) ∧ ∀ q : Nat, ps = upto q → re.length ≤ q + m → o ≠ none := by
  intro m
  induction m with
  | zero =>
    intro ps hp
    have hl := hp.len
    have hG := G.len
    have e1 := more_met (cs := cs) (W := W) (callN fs cs W (k + 0)) G.sz hp.2 (by omega) 0
    have e2 := more_bare (cs := cs) (callN fs cs W (k + 0)) hG ps 0
    have run := H.run cs W (k + 0) [encII re, encI ps, .int (0 : Nat)] rfl
    have e0 : ([encII re, encI ps, PyData.int ((0 : Nat) : Int)].map some ++ List.replicate (9 - 3) none : Sg) = m9 re ps 0 none none none none none none := rfl
    rw [e0] at run
    by_cases hb : restP re ps = []
    · refine ⟨some ps, ?_, fun P e => by cases e; exact ⟨hp, hb⟩, fun q _ _ => by simp⟩
      rw [run]
      have body : evS cs (callN fs cs W (k + 0)) W (moreB j) (m9 re ps 0 none none none none none none) = .rt (encI ps) := by
        refine seq_nx (m9 re ps 0 (some (encI ps)) none none none none none) (set_ok (d := encI ps) rfl) ?_
        refine seq_nx _ e1 ?_
        refine seq_nx (m9 re ps 0 (some (encI (ps ++ ps.flatMap (row re)))) none (some (encI [])) none none none) (set_ok (d := encI []) (by rw [e2, hb])) ?_
        rfl
      rw [body]
      rfl
    · refine ⟨none, ?_, (fun P e => by cases e), fun q hq hz => ?_⟩
      · rw [run]
        have lz : ¬ (((restP re ps).length : Nat) : Int) = 0 := by
          have := List.length_pos_iff.mpr hb
          omega
        have body : evS cs (callN fs cs W (k + 0)) W (moreB j) (m9 re ps 0 none none none none none none) = .rt .none := by
          refine seq_nx (m9 re ps 0 (some (encI ps)) none none none none none) (set_ok (d := encI ps) rfl) ?_
          refine seq_nx _ e1 ?_
          refine seq_nx (m9 re ps 0 (some (encI (ps ++ ps.flatMap (row re)))) none (some (encI (restP re ps))) none none none) (set_ok (d := encI (restP re ps)) e2) ?_
          refine seq_nx (m9 re ps 0 (some (encI (ps ++ ps.flatMap (row re)))) none (some (encI (restP re ps))) none none none) ?_ ?_
          · rw [es_ite]
            simp only [m9, ev_cmp, ev_blt, ev_cons, ev_nil, ev_var, ev_int, getS_0, getS_s, R.bind_ok, unL_l, len_I, unk_i, cmp_eqI, decide_eq_false lz, R.go_ok, trB, Bool.false_eq_true, if_false, es_skip]
          · rfl
        rw [body]
        rfl
      · exfalso
        subst hq
        apply hb
        refine List.eq_nil_iff_forall_not_mem.mpr fun i hi => ?_
        obtain ⟨h1, h2, _⟩ := rest_mem.mp hi
        exact h2 (upto_mem.mpr ⟨h1.1, by omega⟩)
  | succ m ih =>
    intro ps hp
    have hl := hp.len
    have hG := G.len
    have e1 := more_met (cs := cs) (W := W) (callN fs cs W (k + (m + 1))) G.sz hp.2 (by omega) (m + 1)
    have e2 := more_bare (cs := cs) (callN fs cs W (k + (m + 1))) hG ps (m + 1)
    have run := H.run cs W (k + (m + 1)) [encII re, encI ps, .int ((m + 1 : Nat) : Int)] rfl
    have e0 : ([encII re, encI ps, PyData.int ((m + 1 : Nat) : Int)].map some ++ List.replicate (9 - 3) none : Sg) = m9 re ps (m + 1) none none none none none none := rfl
    rw [e0] at run
    cases hb : restP re ps with
    | nil =>
      refine ⟨some ps, ?_, fun P e => by cases e; exact ⟨hp, hb⟩, fun q _ _ => by simp⟩
      rw [run]
      have body : evS cs (callN fs cs W (k + (m + 1))) W (moreB j) (m9 re ps (m + 1) none none none none none none) = .rt (encI ps) := by
        refine seq_nx (m9 re ps (m + 1) (some (encI ps)) none none none none none) (set_ok (d := encI ps) rfl) ?_
        refine seq_nx _ e1 ?_
        refine seq_nx (m9 re ps (m + 1) (some (encI (ps ++ ps.flatMap (row re)))) none (some (encI [])) none none none) (set_ok (d := encI []) (by rw [e2, hb])) ?_
        rfl
      rw [body]
      rfl
    | cons b0 br =>
      have hbm : b0 ∈ restP re ps := by rw [hb]; simp
      obtain ⟨⟨b00, b01⟩, b02, _⟩ := rest_mem.mp hbm
      obtain ⟨n1, n2, n3⟩ := nextP_gt hp
      let L := mostI b0 (row re b0)
      have hL : 0 ≤ L ∧ L < re.length := by
        rcases mostI_mem (row re b0) b0 with h | h
        · show 0 ≤ mostI _ _ ∧ mostI _ _ < _
          rw [h]; exact ⟨b00, b01⟩
        · exact G.rng _ (row_mem b00 b01) _ h
      have hLb : b0 ≤ L := mostI_ge _ _
      let M := encI (ps ++ ps.flatMap (row re))
      let st (x : Option D) (y : Option D) : Sg := m9 re ps (m + 1) (some M) x (some (encI (b0 :: br))) (some (.int (nextP ps))) (some (.int L)) y
      let okD (d : D) : Prop := ∃ P, d = encI P ∧ Asc re.length P ∧ restP re P = []
      have loop := for_ret (cs := cs) (cal := callN fs cs W (k + (m + 1))) (W := W) (k := .rng2) (src := .cons (.var 6) (.cons (.bin .add (.var 7) (.int 1)) .nil)) (i := 4) (body := moreB1 j) (e := st none none) (fun i : Nat => PyData.int (nextP ps + i)) (List.range (L + 1 - nextP ps).toNat) okD
        (fun t e => e = st none none ∧ ∀ q : Nat, ps = upto q → re.length ≤ q + (m + 1) → t = 0) (rng2_it (by simp [st, m9]) (by omega) (by omega) (by omega) (by omega)) (fun t i hi e he => by
          obtain ⟨rfl, hq⟩ := he
          obtain ⟨ht, hi'⟩ := List.getElem?_eq_some_iff.mp hi
          rw [List.getElem_range] at hi'
          subst hi'
          rw [List.length_range] at ht
          obtain ⟨o, eo, h1, h2⟩ := ih (ps ++ [nextP ps + t]) (hp.snoc (fun i hi => by have := n1 i hi; omega) (by omega) (by omega))
          have e4 := lsts_I (cs := cs) (cal := callN fs cs W (k + (m + 1))) (e := st (some (.int (nextP ps + t))) none) (i := 1) (j := 4) (l := ps) (p := nextP ps + t) rfl rfl (by omega)
          have e5 : ((m + 1 : Nat) : Int) - 1 = (m : Int) := by omega
          have eo : callN fs cs W (k + (m + 1)) j [encII re, encI (ps ++ [nextP ps + t]), .int (m : Nat)] = .ok (encO o) := eo
          have ev1 : evE cs (callN fs cs W (k + (m + 1))) (.call j (.cons (.var 0) (.cons (.lsts (.var 1) (.cons (.var 4) .nil)) (.cons (.bin .sub (.var 2) (.int 1)) .nil)))) (st (some (.int (nextP ps + t))) none) = .ok (encO o) := by
            rw [ev_call, ev_cons, ev_cons, e4]
            simp only [st, m9, ev_cons, ev_nil, ev_var, ev_bin, ev_int, getS_0, getS_s, R.bind_ok, unL_l, unk_i, bin_sub, e5, eo]
          have se : (st none none).set 4 (some (.int (nextP ps + t))) = st (some (.int (nextP ps + t))) none := rfl
          rw [se]
          cases o with
          | none =>
            refine .inl ⟨st (some (.int (nextP ps + t))) (some .none), ?_, rfl, fun q hq1 hq2 => ?_⟩
            · unfold moreB1
              rw [es_seq, set_ok ev1, O.seq_nx]
              rfl
            · exfalso
              have t0 := hq q hq1 hq2
              subst t0
              have : ps ++ [nextP ps + ((0 : Nat) : Int)] = upto (q + 1) := by
                rw [upto_succ, hq1, upto_next]
                simp
              exact h2 (q + 1) this (by omega) rfl
          | some P =>
            obtain ⟨h3, h4⟩ := h1 P rfl
            refine .inr ⟨encI P, ?_, P, rfl, h3, h4⟩
            unfold moreB1
            rw [es_seq, set_ok ev1, O.seq_nx]
            rfl) ⟨rfl, fun _ _ _ => rfl⟩
      have lz : ¬ (((b0 :: br).length : Nat) : Int) = 0 := by simp; omega
      have mz : ¬ (((m + 1 : Nat) : Int) = 0) := by omega
      have x6 : evE cs (callN fs cs W (k + (m + 1))) (.ite (.cmp .gt (.blt .len (.cons (.var 1) .nil)) (.int 0)) (.bin .add (.idx (.var 1) (.neg (.int 1))) (.int 1)) (.int 0)) (m9 re ps (m + 1) (some M) none (some (encI (b0 :: br))) none none none) = .ok (.int (nextP ps)) := by
        cases hl : ps.getLast? with
        | none =>
          have : ps = [] := by simpa using hl
          subst this
          rfl
        | some p =>
          have hn : ps ≠ [] := fun z => by rw [z] at hl; cases hl
          have h0 : (0 : Int) < (ps.length : Int) := by have := List.length_pos_iff.mpr hn; omega
          have e := idx_last hl
          have en : nextP ps = p + 1 := by unfold nextP; rw [hl]
          rw [en]
          simp only [m9, ev_ite, ev_cmp, ev_blt, ev_cons, ev_nil, ev_var, ev_int, getS_0, getS_s, R.bind_ok, unL_l, len_I, unk_i, cmp_gt, decide_eq_true h0, trB, if_true, ev_bin, ev_idx, ev_neg, uk_I, e, bin_add]
      have x7 : evE cs (callN fs cs W (k + (m + 1))) (.blt .max (.cons (.bin .add (.lst (.cons (.idx (.var 5) (.int 0)) .nil)) (.idx (.var 0) (.idx (.var 5) (.int 0)))) .nil)) (m9 re ps (m + 1) (some M) none (some (encI (b0 :: br))) (some (.int (nextP ps))) none none) = .ok (.int L) := by
        have i0 : idxD (encI (b0 :: br)) (.int 0) = .ok (.int b0) := idx_l0 _ _
        have i1 := idx_row b00 b01
        have sz := G.sz _ (row_mem b00 b01)
        have ct : binD .add (.list [.int b0]) (encI (row re b0)) = .ok (.list (.int b0 :: (row re b0).map PyData.int)) := bin_cat (by simp; omega)
        have f1 : fitL ([PyData.int b0] : List D).length = true := rfl
        simp only [m9, ev_blt, ev_cons, ev_nil, ev_bin, ev_lst, ev_idx, ev_var, ev_int, getS_0, getS_s, R.bind_ok, unL_l, uk_I, uk_II, i0, i1, f1, grd_true, unk_l, ct, max_list]
        rfl
      have pre : ∀ o : O, evS cs (callN fs cs W (k + (m + 1))) W (.seq (.for_ .rng2 (.cons (.var 6) (.cons (.bin .add (.var 7) (.int 1)) .nil)) (.nm 4) (moreB1 j)) (.seq (.ret .non) .skip)) (st none none) = o → evS cs (callN fs cs W (k + (m + 1))) W (moreB j) (m9 re ps (m + 1) none none none none none none) = o := fun o ho => by
        refine seq_nx (m9 re ps (m + 1) (some (encI ps)) none none none none none) (set_ok (d := encI ps) rfl) ?_
        refine seq_nx _ e1 ?_
        refine seq_nx (m9 re ps (m + 1) (some M) none (some (encI (b0 :: br))) none none none) (set_ok (d := encI (b0 :: br)) (by rw [e2, hb])) ?_
        refine seq_nx (m9 re ps (m + 1) (some M) none (some (encI (b0 :: br))) none none none) ?_ ?_
        · rw [es_ite]
          simp only [m9, ev_cmp, ev_blt, ev_cons, ev_nil, ev_var, ev_int, getS_0, getS_s, R.bind_ok, unL_l, len_I, unk_i, cmp_eqI, decide_eq_false lz, R.go_ok, trB, Bool.false_eq_true, if_false, es_skip]
        refine seq_nx (m9 re ps (m + 1) (some M) none (some (encI (b0 :: br))) none none none) ?_ ?_
        · rw [es_ite]
          simp only [m9, ev_cmp, ev_var, ev_int, getS_0, getS_s, R.bind_ok, unk_i, cmp_eqI, decide_eq_false mz, R.go_ok, trB, Bool.false_eq_true, if_false, es_skip]
        refine seq_nx (m9 re ps (m + 1) (some M) none (some (encI (b0 :: br))) (some (.int (nextP ps))) none none) (set_ok x6) ?_
        exact seq_nx (st none none) (set_ok x7) ho
      rcases loop with ⟨e', h5, he, hq⟩ | ⟨d, h5, P, rfl, h6, h7⟩
      · subst he
        refine ⟨none, ?_, (fun P e => by cases e), fun q hq1 hq2 => ?_⟩
        · rw [run, pre (.rt .none) (by rw [es_seq, h5]; rfl)]
          rfl
        · exfalso
          have := hq q hq1 hq2
          rw [List.length_range] at this
          have nq : nextP ps = q := by rw [hq1, upto_next]
          have bq : (q : Int) ≤ b0 := by
            by_cases h : b0 < q
            · exact absurd (by rw [hq1]; exact upto_mem.mpr ⟨b00, h⟩) b02
            · omega
          omega
      · refine ⟨some P, ?_, fun P' e => by cases e; exact ⟨h6, h7⟩, fun q _ _ => by simp⟩
        rw [run, pre (.rt (encI P)) (by rw [es_seq, h5]; rfl)]
        rfl
end
end Gu
/-! D: all lists of places, even armies, the frontier, counts. -/
namespace Gu
open PySem Mt
abbrev Sq := Int × Int
def encP (p : Sq) : D := .tuple [.int p.1, .int p.2]
def encL (l : List Sq) : D := .list (l.map encP)
/-- the square of a place -/
def sqAt (S : List Sq) (p : Int) : Sq := S.getD p.toNat (0, 0)
@[simp] theorem uk_L (l : List Sq) : unk (encL l) = encL l := (rfl)
@[simp] theorem unL_L (l : List Sq) : unL (encL l) = .ok (l.map encP) := (rfl)
theorem len_L (l : List Sq) : bltD .len [encL l] = .ok (.int (l.length : Nat)) := by
  show R.ok _ = _
  simp [encL]
theorem idx_sq {S : List Sq} {p : Int} (h0 : 0 ≤ p) (h1 : p < S.length) : idxD (encL S) (.int p) = .ok (encP (sqAt S p)) := by
  have h : p.toNat < S.length := by omega
  have := idx_l encP (0, 0) S h
  rw [Int.toNat_of_nonneg h0] at this
  exact this
/-- [squares[place] for place in l] -/
theorem pick_sq {cs : List D} {cal : Nat → List D → R D} {e : Sg} {src : E} {i j : Nat} {S : List Sq} {l : List Int} (hs : ((evE cs cal src e).bind unL) = .ok [encI l]) (hl : l.length ≤ 1000) (hg : GI S.length l) (hij : j ≠ i) (hj : getS e j = .ok (encL S)) (hi : i < e.length) :
    evE cs cal (.lc .seq src (.nm i) (.bl true) (.idx (.var j) (.var i)) [i]) e = .ok (encL (l.map (sqAt S))) := by
  have := lc_map (cs := cs) (cal := cal) (k := .seq) (src := src) (elt := .idx (.var j) (.var i)) (i := i) (e := e) PyData.int l (fun p => encP (sqAt S p)) (seqL_it (l := l.map PyData.int) hs) (by omega) (fun p hp => by
    obtain ⟨h0, h1⟩ := hg p hp
    have e1 := idx_sq h0 h1
    have g1 : getS ((e.set i none).set i (some (.int p))) j = .ok (encL S) := by
      unfold getS at hj ⊢
      rw [List.getElem?_set_ne (Ne.symm hij), List.getElem?_set_ne (Ne.symm hij)]
      exact hj
    have g2 : getS ((e.set i none).set i (some (.int p))) i = .ok (.int p) := by
      unfold getS
      rw [List.getElem?_set_self (by simpa using hi)]
    rw [ev_idx, ev_var, ev_var, g1, R.bind_ok, g2, R.bind_ok, uk_L, e1])
  rw [this]
  unfold encL
  rw [List.map_map]
  rfl
/-! ### all lists of places -/
theorem ins_perm (a : List Int) : ∀ M : List (List Int), ∃ M' : List (List Int), insD (encI a) (M.map encI) = M'.map encI ∧ M'.Perm (a :: M)
  | [] => ⟨[a], rfl, .refl _⟩
  | b :: M => by
    obtain ⟨M', h1, h2⟩ := ins_perm a M
    rw [List.map_cons]
    unfold insD
    split
    · exact ⟨a :: b :: M, rfl, .refl _⟩
    · exact ⟨b :: M', by rw [h1]; rfl, (h2.cons b).trans (List.Perm.swap a b M)⟩
theorem sort_perm : ∀ L : List (List Int), ∃ M : List (List Int), sortD (L.map encI) = M.map encI ∧ M.Perm L
  | [] => ⟨[], rfl, .refl _⟩
  | a :: L => by
    obtain ⟨M, h1, h2⟩ := sort_perm L
    obtain ⟨M', h3, h4⟩ := ins_perm a M
    refine ⟨M', ?_, h4.trans (h2.cons a)⟩
    rw [List.map_cons]
    unfold sortD
    rw [h1, h3]
theorem sorted_perm (L : List (List Int)) (h : L.length ≤ 16777216) : ∃ M : List (List Int), bltD .sorted [encII L] = .ok (encII M) ∧ M.Perm L := by
  obtain ⟨M, h1, h2⟩ := sort_perm L
  refine ⟨M, ?_, h2⟩
  show sortA (L.map encI) = _
  unfold sortA
  have nt : (L.map encI).all noTup = true := by
    rw [List.all_eq_true]
    intro x hx
    obtain ⟨a, _, rfl⟩ := List.mem_map.mp hx
    rfl
  rw [alkL_encI, nt, fit_le (by simpa using h), h1]
  simp [encII]
def allSub : Nat → List (List Int)
  | 0 => [[]]
  | n + 1 => allSub n ++ (allSub n).map fun l => l ++ [(n : Int)]
theorem allSub_len : ∀ n, (allSub n).length = 2 ^ n
  | 0 => rfl
  | n + 1 => by
    unfold allSub
    rw [List.length_append, List.length_map, allSub_len n, Nat.pow_succ]
    omega
theorem allSub_asc : ∀ {n : Nat} {l : List Int}, l ∈ allSub n → Asc n l
  | 0, l, h => by
    simp [allSub] at h
    subst h
    exact Asc.nil 0
  | n + 1, l, h => by
    unfold allSub at h
    rcases List.mem_append.mp h with h | h
    · have := allSub_asc h
      exact ⟨this.1, fun i hi => by have := this.2 i hi; omega⟩
    · obtain ⟨m, hm, rfl⟩ := List.mem_map.mp h
      have := allSub_asc hm
      have h2 : Asc (n + 1) m := ⟨this.1, fun i hi => by have := this.2 i hi; omega⟩
      exact h2.snoc (fun i hi => (this.2 i hi).2) (by omega) (by omega)
theorem mem_allSub : ∀ {n : Nat} {l : List Int}, Asc n l → l ∈ allSub n
  | 0, l, h => by
    cases l with
    | nil => simp [allSub]
    | cons x r =>
      have := h.2 x (by simp)
      omega
  | n + 1, l, h => by
    unfold allSub
    by_cases hn : (n : Int) ∈ l
    · refine List.mem_append.mpr (.inr ?_)
      obtain ⟨a, b, rfl⟩ := List.append_of_mem hn
      have hb : b = [] := by
        cases b with
        | nil => rfl
        | cons y r =>
          exfalso
          have h1 := (List.pairwise_append.mp h.1).2.1
          have h2 := (List.pairwise_cons.mp h1).1 y (by simp)
          have h3 := (h.2 y (by simp)).2
          omega
      subst hb
      refine List.mem_map.mpr ⟨a, mem_allSub ⟨(List.pairwise_append.mp h.1).1, fun i hi => ⟨(h.2 i (by simp [hi])).1, ?_⟩⟩, rfl⟩
      exact (List.pairwise_append.mp h.1).2.2 i hi n (by simp)
    · refine List.mem_append.mpr (.inl (mem_allSub ⟨h.1, fun i hi => ?_⟩))
      have h1 := h.2 i hi
      have : i ≠ n := fun z => hn (z ▸ hi)
      omega
theorem sum_perm {α : Type} (f : α → Int) {l m : List α} (h : l.Perm m) : (l.map f).sum = (m.map f).sum := by
  induction h with
  | nil => rfl
  | cons x _ ih => simp [ih]
  | swap x y l => simp; omega
  | trans _ _ i1 i2 => exact i1.trans i2
theorem sum_len0 (g : List Int → Int) : ∀ n, ((allSub n).map fun l => if l.length = 0 then g l else 0).sum = g []
  | 0 => by simp [allSub]
  | n + 1 => by
    unfold allSub
    rw [List.map_append, List.sum_append, sum_len0 g n, List.map_map]
    have : ∀ L : List (List Int), (L.map ((fun l => if l.length = 0 then g l else 0) ∘ fun l => l ++ [(n : Int)])).sum = 0 := fun L => by
      induction L with
      | nil => rfl
      | cons x L ih => rw [List.map_cons, List.sum_cons, ih]; simp
    rw [this]
    omega
theorem sum_len1 (g : List Int → Int) : ∀ n, ((allSub n).map fun l => if l.length = 1 then g l else 0).sum = ((List.range n).map fun t : Nat => g [(t : Int)]).sum
  | 0 => by simp [allSub]
  | n + 1 => by
    unfold allSub
    rw [List.map_append, List.sum_append, sum_len1 g n, List.map_map, List.range_succ, List.map_append, List.sum_append]
    have : ∀ L : List (List Int), (L.map ((fun l => if l.length = 1 then g l else 0) ∘ fun l => l ++ [(n : Int)])).sum = (L.map fun l => if l.length = 0 then g (l ++ [(n : Int)]) else 0).sum := fun L => by
      induction L with
      | nil => rfl
      | cons x L ih => rw [List.map_cons, List.sum_cons, ih, List.map_cons, List.sum_cons]; simp
    rw [this, sum_len0 fun l => g (l ++ [(n : Int)])]
    simp
section
variable {fs : List Fn} {cs : List D} {W : Nat} {re : List (List Int)}
def listsB1 : S := (.seq (.set (.nm 1) (.bin .add (.var 1) (.lc .seq (.cons (.var 1) .nil) (.nm 3) (.bl true) (.lsts (.var 3) (.cons (.var 2) .nil)) [3]))) .skip)
def listsB : S := (.seq (.set (.nm 1) (.lst (.cons (.lst .nil) .nil))) (.seq (.for_ .rng1 (.cons (.var 0) .nil) (.nm 2) listsB1) (.seq (.ret (.blt .sorted (.cons (.var 1) .nil))) .skip)))
theorem lists_ok {j : Nat} (H : Has fs j 1 4 listsB) (k : Nat) {n : Nat} (hn : n ≤ 20) : ∃ M : List (List Int), callN fs cs W (k + 1) j [.int (n : Nat)] = .ok (encII M) ∧ M.Perm (allSub n) := by
  obtain ⟨e', h1, he⟩ := for_rng (cs := cs) (cal := callN fs cs W k) (W := W) (src := .cons (.var 0) .nil) (i := 2) (body := listsB1) (e := [some (.int (n : Nat)), some (encII [[]]), none, none]) (n := n)
    (fun t e => e = [some (.int (n : Nat)), some (encII (allSub t)), none, none]) (by simp) (by omega) (fun t ht e he => by
      subst he
      have hp : 2 ^ t ≤ 2 ^ 20 := Nat.pow_le_pow_right (by omega) (by omega)
      have hL := allSub_len t
      have lc := lc_map (cs := cs) (cal := callN fs cs W k) (k := .seq) (src := .cons (.var 1) .nil) (elt := .lsts (.var 3) (.cons (.var 2) .nil)) (i := 3) (e := [some (.int (n : Nat)), some (encII (allSub t)), some (.int (t : Nat)), none]) encI (allSub t) (fun l => encI (l ++ [(t : Int)]))
        (seqL_it (by simp [encII])) (by omega) (fun l hl => lsts_I rfl rfl (by have := (allSub_asc hl).len; omega))
      have cat : binD .add (encII (allSub t)) (.list ((allSub t).map fun l => encI (l ++ [(t : Int)]))) = .ok (encII (allSub (t + 1))) := by
        unfold encII
        rw [bin_cat (by simp; omega)]
        simp only [allSub, List.map_append, List.map_map]
        rfl
      refine ⟨[some (.int (n : Nat)), some (encII (allSub (t + 1))), some (.int (t : Nat)), none], ?_, rfl⟩
      show evS cs _ W listsB1 [some (.int (n : Nat)), some (encII (allSub t)), some (.int (t : Nat)), none] = _
      unfold listsB1
      refine seq_nx _ (set_ok (d := encII (allSub (t + 1))) ?_) rfl
      rw [ev_bin, lc]
      simp only [ev_var, getS_0, getS_s, R.bind_ok, uk_II, unk_l, cat]) rfl
  subst he
  have hp : 2 ^ n ≤ 2 ^ 20 := Nat.pow_le_pow_right (by omega) (by omega)
  obtain ⟨M, h2, h3⟩ := sorted_perm (allSub n) (by rw [allSub_len]; omega)
  refine ⟨M, ?_, h3⟩
  rw [H.run cs W k _ rfl]
  have body : evS cs (callN fs cs W k) W listsB [some (.int (n : Nat)), none, none, none] = .rt (encII M) := by
    refine seq_nx [some (.int (n : Nat)), some (encII [[]]), none, none] (set_ok (d := encII [[]]) rfl) ?_
    refine seq_nx _ h1 ?_
    simp [h2]
  show (evS cs _ W listsB [some (.int (n : Nat)), none, none, none]).end_ = _
  rw [body]
  rfl
/-! ### even armies -/
def evenB1 (jt : Nat) : S := (.seq (.ite (.cmp .gt (.blt .len (.cons (.var 5) .nil)) (.blt .len (.cons (.idx (.var 4) (.int 0)) .nil))) (.seq (.set (.nm 6) (.call jt (.cons (.var 3) (.cons (.var 5) .nil))))
  (.seq (.ite (.cmp .ge (.blt .len (.cons (.var 6) .nil)) (.blt .len (.cons (.var 5) .nil))) (.seq (.set (.nm 4) (.tup (.cons (.var 5) (.cons (.slc (.var 6) .noE (.blt .len (.cons (.var 5) .nil))) .nil)))) .skip) .skip) .skip)) .skip) .skip)
def evenB (jg jf jr jl jt : Nat) : S := (.seq (.drop (.call jg (.cons (.var 0) (.cons (.var 1) .nil)))) (.seq (.set (.nm 2) (.call jf (.cons (.var 0) .nil))) (.seq (.set (.nm 3) (.call jr (.cons (.var 0) (.cons (.var 1) .nil))))
  (.seq (.set (.nm 4) (.tup (.cons (.lst .nil) (.cons (.lst .nil) .nil)))) (.seq (.for_ .seq (.cons (.call jl (.cons (.blt .len (.cons (.var 2) .nil)) .nil)) .nil) (.nm 5) (evenB1 jt))
  (.seq (.ret (.tup (.cons (.lc .seq (.cons (.idx (.var 4) (.int 0)) .nil) (.nm 7) (.bl true) (.idx (.var 2) (.var 7)) [7]) (.cons (.lc .seq (.cons (.idx (.var 4) (.int 1)) .nil) (.nm 7) (.bl true) (.idx (.var 2) (.var 7)) [7]) .nil)))) .skip))))))
theorem cut_take_I (l : List Int) (n : Nat) (h : n ≤ l.length) : sliceD (encI l) none (some (n : Int)) = .ok (encI (l.take n)) := by
  show R.ok (PyData.list (cutD (l.map PyData.int) none (some (n : Int)))) = _
  unfold cutD
  rw [HT.sIx_none, HT.sIx_nat]
  simp [Nat.min_eq_left h, List.map_take, encI]
/-- what is known of the best so far, among some -/
structure EvenOk (re : List (List Int)) (X : List (List Int)) (a b : List Int) : Prop where
  asc : Asc re.length a
  b_eq : b = (restP re a).take a.length
  le : a.length ≤ (restP re a).length
  most : ∀ l ∈ X, l.length ≤ (restP re l).length → l.length ≤ a.length
theorem even_ok {j jg jf jr jl jt : Nat} (H : Has fs j 2 8 (evenB jg jf jr jl jt)) (Hl : Has fs jl 1 4 listsB) (Ht : Has fs jt 2 4 restB) (G : GG re) (k : Nat) {h kd : D} {S : List Sq} (hg : callN fs cs W (k + 1) jg [h, kd] = .ok .none) (hf : callN fs cs W (k + 1) jf [h] = .ok (encL S)) (hr : callN fs cs W (k + 1) jr [h, kd] = .ok (encII re)) (hS : S.length = re.length) :
    ∃ a b, callN fs cs W (k + 2) j [h, kd] = .ok (.tuple [encL (a.map (sqAt S)), encL (b.map (sqAt S))]) ∧ EvenOk re (allSub re.length) a b := by
  have hn := G.len
  obtain ⟨M, hM, pM⟩ := lists_ok (cs := cs) (W := W) Hl k hn
  have aM : ∀ l ∈ M, Asc re.length l := fun l hl => allSub_asc (pM.mem_iff.mp hl)
  obtain ⟨e', h5, a, b, ho, he⟩ := for_map (cs := cs) (cal := callN fs cs W (k + 1)) (W := W) (k := .seq) (src := .cons (.call jl (.cons (.blt .len (.cons (.var 2) .nil)) .nil)) .nil) (i := 5) (body := evenB1 jt) (e := [some h, some kd, some (encL S), some (encII re), some (.tuple [encI [], encI []]), none, none, none]) encI M
    (fun t e => ∃ a b, EvenOk re (M.take t) a b ∧ e = [some h, some kd, some (encL S), some (encII re), some (.tuple [encI a, encI b]), none, none, none])
    (seqL_it (by
      have : callN fs cs W (k + 1) jl [.int (S.length : Nat)] = .ok (encII M) := by rw [hS]; exact hM
      simp only [ev_cons, ev_call, ev_blt, ev_var, ev_nil, getS_0, getS_s, R.bind_ok, unL_l, len_L, this]
      rfl)) (fun t w hw e he => by
      obtain ⟨a, b, ho, rfl⟩ := he
      obtain ⟨ht, hw'⟩ := List.getElem?_eq_some_iff.mp hw
      have wA := aM w (hw' ▸ List.getElem_mem ht)
      have wl := wA.len
      have tk : M.take (t + 1) = M.take t ++ [w] := by rw [List.take_succ, hw]; rfl
      have er := rest_ok (cs := cs) (W := W) Ht k hn G.sz wA.2 (by omega)
      by_cases g : a.length < w.length
      · by_cases g2 : w.length ≤ (restP re w).length
        · refine ⟨[some h, some kd, some (encL S), some (encII re), some (.tuple [encI w, encI ((restP re w).take w.length)]), some (encI w), some (encI (restP re w)), none], ?_, w, _, ⟨wA, rfl, g2, fun l hl h => ?_⟩, rfl⟩
          · have em := cut_take_I (restP re w) w.length g2
            simp [evenB1, len_I, er, g, g2, intO, E.isNo, em, fitL]
          · rw [tk] at hl
            rcases List.mem_append.mp hl with hl | hl
            · have := ho.most l hl h
              omega
            · simp at hl
              subst hl
              exact Nat.le_refl _
        · refine ⟨[some h, some kd, some (encL S), some (encII re), some (.tuple [encI a, encI b]), some (encI w), some (encI (restP re w)), none], ?_, a, b, ⟨ho.asc, ho.b_eq, ho.le, fun l hl h => ?_⟩, rfl⟩
          · simp [evenB1, len_I, er, g, g2]
          · rw [tk] at hl
            rcases List.mem_append.mp hl with hl | hl
            · exact ho.most l hl h
            · simp at hl
              subst hl
              omega
      · refine ⟨[some h, some kd, some (encL S), some (encII re), some (.tuple [encI a, encI b]), some (encI w), none, none], ?_, a, b, ⟨ho.asc, ho.b_eq, ho.le, fun l hl h => ?_⟩, rfl⟩
        · simp [evenB1, len_I, g]
        · rw [tk] at hl
          rcases List.mem_append.mp hl with hl | hl
          · exact ho.most l hl h
          · simp at hl
            subst hl
            omega) ⟨[], [], ⟨Asc.nil _, by simp, by simp, fun l hl => by simp at hl⟩, rfl⟩
  rw [List.take_length] at ho
  subst he
  have al := ho.asc.len
  have bl : b.length ≤ 20 := by
    rw [ho.b_eq, List.length_take]
    omega
  have p1 := pick_sq (cs := cs) (cal := callN fs cs W (k + 1)) (e := [some h, some kd, some (encL S), some (encII re), some (.tuple [encI a, encI b]), none, none, none]) (src := .cons (.idx (.var 4) (.int 0)) .nil) (i := 7) (j := 2) (S := S) (l := a)
    (by simp) (by omega) (by rw [hS]; exact ho.asc.2) (by decide) rfl (by simp)
  have p2 := pick_sq (cs := cs) (cal := callN fs cs W (k + 1)) (e := [some h, some kd, some (encL S), some (encII re), some (.tuple [encI a, encI b]), none, none, none]) (src := .cons (.idx (.var 4) (.int 1)) .nil) (i := 7) (j := 2) (S := S) (l := b)
    (by simp) (by omega) (by rw [hS, ho.b_eq]; exact fun i hi => rest_gi _ i (List.mem_of_mem_take hi)) (by decide) rfl (by simp)
  refine ⟨a, b, ?_, ⟨ho.asc, ho.b_eq, ho.le, fun l hl => ho.most l (pM.mem_iff.mpr hl)⟩⟩
  rw [H.run cs W (k + 1) _ rfl]
  have body : evS cs (callN fs cs W (k + 1)) W (evenB jg jf jr jl jt) [some h, some kd, none, none, none, none, none, none] = .rt (.tuple [encL (a.map (sqAt S)), encL (b.map (sqAt S))]) := by
    refine seq_nx _ (drop_ok (d := .none) (by simp [hg])) ?_
    refine seq_nx [some h, some kd, some (encL S), none, none, none, none, none] (set_ok (d := encL S) (by simp [hf])) ?_
    refine seq_nx [some h, some kd, some (encL S), some (encII re), none, none, none, none] (set_ok (d := encII re) (by simp [hr])) ?_
    refine seq_nx [some h, some kd, some (encL S), some (encII re), some (.tuple [encI [], encI []]), none, none, none] (set_ok (d := .tuple [encI [], encI []]) (by simp [encI, fitL])) ?_
    refine seq_nx _ h5 ?_
    rw [es_seq, es_ret, ev_tup, ev_cons, p1]
    simp only [R.bind_ok, ev_cons, p2, ev_nil, unL_l]
    rfl
  show (evS cs _ W (evenB jg jf jr jl jt) [some h, some kd, none, none, none, none, none, none]).end_ = _
  rw [body]
  rfl
end
end Gu
/-! E: the frontier, counts. -/
namespace Gu
open PySem Mt
section
variable {fs : List Fn} {cs : List D} {W : Nat} {re : List (List Int)}
def frontB1 (jt : Nat) : S := (.seq (.puti 3 (.blt .len (.cons (.var 4) .nil)) (.blt .max (.cons (.idx (.bor 3) (.blt .len (.cons (.var 4) .nil))) (.cons (.blt .len (.cons (.call jt (.cons (.var 2) (.cons (.var 4) .nil))) .nil)) .nil)))) .skip)
def frontB (jg jr jl jt : Nat) : S := (.seq (.drop (.call jg (.cons (.var 0) (.cons (.var 1) .nil)))) (.seq (.set (.nm 2) (.call jr (.cons (.var 0) (.cons (.var 1) .nil)))) (.seq (.set (.nm 3) (.rep (.lst (.cons (.int 0) .nil)) (.bin .add (.blt .len (.cons (.var 2) .nil)) (.int 1))))
  (.seq (.for_ .seq (.cons (.call jl (.cons (.blt .len (.cons (.var 2) .nil)) .nil)) .nil) (.nm 4) (frontB1 jt)) (.seq (.ret (.var 3)) .skip)))))
/-- the greatest numbers so far -/
structure FrontOk (re : List (List Int)) (X : List (List Int)) (f : List Int) : Prop where
  len : f.length = re.length + 1
  ge : ∀ l ∈ X, (((restP re l).length : Nat) : Int) ≤ f.getD l.length 0
  at_ : ∀ k, k < f.length → f.getD k 0 = 0 ∨ ∃ l ∈ X, l.length = k ∧ f.getD k 0 = ((restP re l).length : Nat)
theorem putI_I {f : List Int} {k : Nat} (h : k < f.length) (y : Int) : putI (f.map PyData.int) (.int (k : Nat)) (.int y) = .ok (encI (f.set k y)) := by
  have : L2.ixN (f.map PyData.int).length (k : Nat) = some k := by
    unfold L2.ixN
    rw [if_pos (by omega), if_pos (by simp; omega)]
    simp
  rw [List.length_map] at this
  simp [putI, this, encI, List.map_set]
theorem rep_zero (n : Nat) (h : n ≤ 1000) : repD (.list [.int 0]) (.int ((n : Int) + 1)) = .ok (encI (List.replicate (n + 1) 0)) := by
  have z : (decide (-(2 ^ 63) ≤ (n : Int) + 1) && decide ((n : Int) + 1 < 2 ^ 63) && fitL (([PyData.int 0] : List D).length * ((n : Int) + 1).toNat)) = true := by
    simp only [Bool.and_eq_true, decide_eq_true_eq]
    exact ⟨⟨by omega, by omega⟩, fit_le (by simp; omega)⟩
  show grd _ _ = _
  rw [z]
  have : ((n : Int) + 1).toNat = n + 1 := by omega
  rw [this]
  have : ∀ n : Nat, (List.replicate n [PyData.int 0]).flatten = (List.replicate n (0 : Int)).map PyData.int := fun n => by
    induction n with
    | zero => rfl
    | succ n ih => rw [List.replicate_succ, List.flatten_cons, ih, List.replicate_succ]; rfl
  rw [this]
  rfl
theorem getD_set {f : List Int} {k j : Nat} {y : Int} (h : k < f.length) : (f.set k y).getD j 0 = if j = k then y else f.getD j 0 := by
  rw [List.getD_eq_getElem?_getD, List.getD_eq_getElem?_getD]
  by_cases e : j = k
  · subst e
    rw [List.getElem?_set_self h, if_pos rfl]
    rfl
  · rw [List.getElem?_set_ne (fun z => e z.symm), if_neg e]
theorem front_ok {j jg jr jl jt : Nat} (H : Has fs j 2 5 (frontB jg jr jl jt)) (Hl : Has fs jl 1 4 listsB) (Ht : Has fs jt 2 4 restB) (G : GG re) (k : Nat) {h kd : D} (hg : callN fs cs W (k + 1) jg [h, kd] = .ok .none) (hr : callN fs cs W (k + 1) jr [h, kd] = .ok (encII re)) :
    ∃ f, callN fs cs W (k + 2) j [h, kd] = .ok (encI f) ∧ FrontOk re (allSub re.length) f := by
  have hn := G.len
  obtain ⟨M, hM, pM⟩ := lists_ok (cs := cs) (W := W) Hl k hn
  have aM : ∀ l ∈ M, Asc re.length l := fun l hl => allSub_asc (pM.mem_iff.mp hl)
  obtain ⟨e', h5, f, ho, he⟩ := for_map (cs := cs) (cal := callN fs cs W (k + 1)) (W := W) (k := .seq) (src := .cons (.call jl (.cons (.blt .len (.cons (.var 2) .nil)) .nil)) .nil) (i := 4) (body := frontB1 jt) (e := [some h, some kd, some (encII re), some (encI (List.replicate (re.length + 1) 0)), none]) encI M
    (fun t e => ∃ f, FrontOk re (M.take t) f ∧ e = [some h, some kd, some (encII re), some (encI f), none])
    (seqL_it (by
      simp only [ev_cons, ev_call, ev_blt, ev_var, ev_nil, getS_0, getS_s, R.bind_ok, unL_l, len_II, hM]
      rfl)) (fun t w hw e he => by
      obtain ⟨f, ho, rfl⟩ := he
      obtain ⟨ht, hw'⟩ := List.getElem?_eq_some_iff.mp hw
      have wA := aM w (hw' ▸ List.getElem_mem ht)
      have wl := wA.len
      have tk : M.take (t + 1) = M.take t ++ [w] := by rw [List.take_succ, hw]; rfl
      have er := rest_ok (cs := cs) (W := W) Ht k hn G.sz wA.2 (by omega)
      have hk : w.length < f.length := by rw [ho.len]; omega
      have ex : idxD (encI f) (.int (w.length : Nat)) = .ok (.int (f.getD w.length 0)) := idx_l PyData.int 0 f hk
      let y : Int := if f.getD w.length 0 < ((restP re w).length : Nat) then ((restP re w).length : Nat) else f.getD w.length 0
      have pt := putI_I hk y
      have mx : bltD .max [.int (f.getD w.length 0), .int ((restP re w).length : Nat)] = .ok (.int y) := rfl
      have y1 : f.getD w.length 0 ≤ y ∧ (((restP re w).length : Nat) : Int) ≤ y := by
        show _ ≤ (if _ then _ else _) ∧ _ ≤ (if _ then _ else _)
        split <;> omega
      refine ⟨[some h, some kd, some (encII re), some (encI (f.set w.length y)), some (encI w)], ?_, f.set w.length y, ⟨by rw [List.length_set, ho.len], fun l hl => ?_, fun i hi => ?_⟩, rfl⟩
      · show evS cs _ W (frontB1 jt) [some h, some kd, some (encII re), some (encI f), some (encI w)] = _
        unfold frontB1
        rw [es_seq, es_puti]
        simp only [ev_blt, ev_cons, ev_nil, ev_var, ev_bor, ev_idx, ev_call, getS_0, getS_s, R.bind_ok, unL_l, unL_I, uk_I, len_I, er, ex, mx, R.go_ok, pt]
        rfl
      · rw [getD_set hk]
        rw [tk] at hl
        rcases List.mem_append.mp hl with hl | hl
        · have := ho.ge l hl
          split
          · rename_i e
            rw [e] at this
            omega
          · exact this
        · simp at hl
          subst hl
          rw [if_pos rfl]
          exact y1.2
      · rw [List.length_set] at hi
        rw [getD_set hk, tk]
        split
        · rename_i e
          subst e
          by_cases g : f.getD w.length 0 < ((restP re w).length : Nat)
          · exact .inr ⟨w, by simp, rfl, if_pos g⟩
          · have ye : y = f.getD w.length 0 := if_neg g
            rw [ye]
            rcases ho.at_ w.length hi with h | ⟨l, h1, h2, h3⟩
            · exact .inl h
            · exact .inr ⟨l, List.mem_append.mpr (.inl h1), h2, h3⟩
        · rcases ho.at_ i hi with h | ⟨l, h1, h2, h3⟩
          · exact .inl h
          · exact .inr ⟨l, List.mem_append.mpr (.inl h1), h2, h3⟩) ⟨_, ⟨by simp, fun l hl => by simp at hl, fun i hi => .inl (by
        rw [List.length_replicate] at hi
        rw [List.getD_eq_getElem?_getD, List.getElem?_replicate, if_pos hi]
        rfl)⟩, rfl⟩
  rw [List.take_length] at ho
  subst he
  refine ⟨f, ?_, ⟨ho.len, fun l hl => ho.ge l (pM.mem_iff.mpr hl), fun i hi => ?_⟩⟩
  · rw [H.run cs W (k + 1) _ rfl]
    have body : evS cs (callN fs cs W (k + 1)) W (frontB jg jr jl jt) [some h, some kd, none, none, none] = .rt (encI f) := by
      refine seq_nx _ (drop_ok (d := .none) (by simp [hg])) ?_
      refine seq_nx [some h, some kd, some (encII re), none, none] (set_ok (d := encII re) (by simp [hr])) ?_
      refine seq_nx [some h, some kd, some (encII re), some (encI (List.replicate (re.length + 1) 0)), none] (set_ok (d := encI (List.replicate (re.length + 1) 0)) ?_) ?_
      · have rp := rep_zero re.length (by omega)
        rw [ev_rep]
        simp [len_II, rp, fitL]
      · refine seq_nx _ h5 ?_
        simp
    show (evS cs _ W (frontB jg jr jl jt) [some h, some kd, none, none, none]).end_ = _
    rw [body]
    rfl
  · rcases ho.at_ i hi with h | ⟨l, h1, h2, h3⟩
    · exact .inl h
    · exact .inr ⟨l, pM.mem_iff.mp h1, h2, h3⟩
/-! ### counts -/
def overB1 : S := (.seq (.set (.nm 2) (.bin .fdiv (.bin .mul (.var 2) (.bin .sub (.var 0) (.var 3))) (.bin .add (.var 3) (.int 1)))) .skip)
def overB : S := (.seq (.set (.nm 2) (.int 1)) (.seq (.for_ .rng1 (.cons (.var 1) .nil) (.nm 3) overB1) (.seq (.ret (.var 2)) .skip)))
theorem over0 {j : Nat} (H : Has fs j 2 4 overB) (k m : Nat) : callN fs cs W (k + 1) j [.int (m : Nat), .int 0] = .ok (.int 1) := by
  rw [H.run cs W k _ rfl]
  rfl
theorem over1 {j : Nat} (H : Has fs j 2 4 overB) (k : Nat) {m : Nat} (hm : m ≤ 1000) : callN fs cs W (k + 1) j [.int (m : Nat), .int 1] = .ok (.int m) := by
  obtain ⟨e', h1, he⟩ := for_rng (cs := cs) (cal := callN fs cs W k) (W := W) (src := .cons (.var 1) .nil) (i := 3) (body := overB1) (e := [some (.int (m : Nat)), some (.int 1), some (.int 1), none]) (n := 1)
    (fun t e => e = [some (.int (m : Nat)), some (.int 1), some (.int (if t = 0 then 1 else (m : Int))), none]) rfl (by omega) (fun t ht e he => by
      subst he
      have t0 : t = 0 := by omega
      subst t0
      have e1 : binD .mul (.int 1) (.int ((m : Int) - ((0 : Nat) : Int))) = .ok (.int m) := by
        rw [bin_mul (mulOk_of (by decide) (by omega))]
        simp
      have e2 : binD .fdiv (.int (m : Int)) (.int (((0 : Nat) : Int) + 1)) = .ok (.int m) := by
        show grd (decide ((0 : Int) < 1) && decide ((1 : Int).natAbs.log2 < 9000)) (R.ok (PyData.int ((m : Int) / (0 + 1)))) = _
        rw [show (decide ((0 : Int) < 1) && decide ((1 : Int).natAbs.log2 < 9000)) = true from rfl]
        simp
      refine ⟨[some (.int (m : Nat)), some (.int 1), some (.int m), some (.int ((0 : Nat) : Int))], ?_, rfl⟩
      show evS cs _ W overB1 [some (.int (m : Nat)), some (.int 1), some (.int 1), some (.int ((0 : Nat) : Int))] = _
      unfold overB1
      refine seq_nx _ (set_ok (d := .int m) ?_) rfl
      simp only [ev_bin, ev_var, ev_int, getS_0, getS_s, R.bind_ok, unk_i, bin_sub, bin_add, e1, e2]) rfl
  subst he
  rw [H.run cs W k _ rfl]
  have body : evS cs (callN fs cs W k) W overB [some (.int (m : Nat)), some (.int 1), none, none] = .rt (.int m) := by
    refine seq_nx [some (.int (m : Nat)), some (.int 1), some (.int 1), none] (set_ok (d := .int 1) rfl) ?_
    refine seq_nx _ h1 ?_
    simp
  show (evS cs _ W overB [some (.int (m : Nat)), some (.int 1), none, none]).end_ = _
  rw [body]
  rfl
def cntB1 (jt jo : Nat) : S := (.seq (.ite (.cmp .eq (.blt .len (.cons (.var 7) .nil)) (.var 2)) (.seq (.set (.nm 6) (.bin .add (.var 6) (.call jo (.cons (.blt .len (.cons (.call jt (.cons (.var 5) (.cons (.var 7) .nil))) .nil)) (.cons (.var 3) .nil))))) .skip) .skip) .skip)
def cntB2 (g : Nat) (bad : S) : S := (.seq (.ite (.not (.chn .le (.int 0) (.var 4) .le (.glb g))) (.seq bad .skip) .skip) .skip)
def cntB (jg jr jl jt jo g : Nat) (bad : S) : S := (.seq (.drop (.call jg (.cons (.var 0) (.cons (.var 1) .nil)))) (.seq (.for_ .seq (.cons (.tup (.cons (.var 2) (.cons (.var 3) .nil))) .nil) (.nm 4) (cntB2 g bad)) (.seq (.set (.nm 5) (.call jr (.cons (.var 0) (.cons (.var 1) .nil))))
  (.seq (.set (.nm 6) (.int 0)) (.seq (.for_ .seq (.cons (.call jl (.cons (.blt .len (.cons (.var 5) .nil)) .nil)) .nil) (.nm 7) (cntB1 jt jo)) (.seq (.ret (.var 6)) .skip))))))
theorem count_ok {j jg jr jl jt jo jm : Nat} {bad : S} (H : Has fs j 4 8 (cntB jg jr jl jt jo jm bad)) (Hl : Has fs jl 1 4 listsB) (Ht : Has fs jt 2 4 restB) (hc : cs[jm]? = some (.int 10)) (G : GG re) (k : Nat) {h kd : D} (hg : callN fs cs W (k + 1) jg [h, kd] = .ok .none) (hr : callN fs cs W (k + 1) jr [h, kd] = .ok (encII re))
    {w b : Nat} (hw : w ≤ 10) (hb : b ≤ 10) {g : Nat → Int} (ho : ∀ m, m ≤ 20 → callN fs cs W (k + 1) jo [.int (m : Nat), .int (b : Nat)] = .ok (.int (g m))) :
    callN fs cs W (k + 2) j [h, kd, .int (w : Nat), .int (b : Nat)] = .ok (.int ((allSub re.length).map fun l => if l.length = w then g (restP re l).length else 0).sum) := by
  have hn := G.len
  obtain ⟨M, hM, pM⟩ := lists_ok (cs := cs) (W := W) Hl k hn
  have aM : ∀ l ∈ M, Asc re.length l := fun l hl => allSub_asc (pM.mem_iff.mp hl)
  let F : List Int → Int := fun l => if l.length = w then g (restP re l).length else 0
  have e10 : ∀ e, evE cs (callN fs cs W (k + 1)) (.glb jm) e = .ok (.int 10) := fun e => by rw [ev_glb, hc]
  obtain ⟨e0, h4, he0⟩ := for_map (cs := cs) (cal := callN fs cs W (k + 1)) (W := W) (k := .seq) (src := .cons (.tup (.cons (.var 2) (.cons (.var 3) .nil))) .nil) (i := 4) (body := cntB2 jm bad) (e := [some h, some kd, some (.int (w : Nat)), some (.int (b : Nat)), none, none, none, none]) (fun i : Nat => PyData.int i) [w, b]
    (fun t e => e = [some h, some kd, some (.int (w : Nat)), some (.int (b : Nat)), none, none, none, none]) (seqT_it (by simp [fitL])) (fun t a ha e he => by
      subst he
      have h10 : a ≤ 10 := by
        have := List.mem_of_getElem? ha
        simp at this
        omega
      have a10 : (a : Int) ≤ 10 := by omega
      have a0 : (0 : Int) ≤ a := by omega
      refine ⟨[some h, some kd, some (.int (w : Nat)), some (.int (b : Nat)), some (.int (a : Nat)), none, none, none], ?_, rfl⟩
      show evS cs _ W (cntB2 jm bad) [some h, some kd, some (.int (w : Nat)), some (.int (b : Nat)), some (.int (a : Nat)), none, none, none] = _
      unfold cntB2
      rw [es_seq, es_ite]
      simp only [ev_not, ev_chn, ev_int, ev_var, getS_0, getS_s, R.bind_ok, unk_i, cmp_le, decide_eq_true a0, if_true, e10, decide_eq_true a10, trB, Bool.not_true, R.go_ok, Bool.false_eq_true, if_false, es_skip]
      rfl) rfl
  subst he0
  obtain ⟨e', h5, he⟩ := for_map (cs := cs) (cal := callN fs cs W (k + 1)) (W := W) (k := .seq) (src := .cons (.call jl (.cons (.blt .len (.cons (.var 5) .nil)) .nil)) .nil) (i := 7) (body := cntB1 jt jo) (e := [some h, some kd, some (.int (w : Nat)), some (.int (b : Nat)), none, some (encII re), some (.int 0), none]) encI M
    (fun t e => e = [some h, some kd, some (.int (w : Nat)), some (.int (b : Nat)), none, some (encII re), some (.int ((M.take t).map F).sum), none])
    (seqL_it (by
      simp only [ev_cons, ev_call, ev_blt, ev_var, ev_nil, getS_0, getS_s, R.bind_ok, unL_l, len_II, hM]
      rfl)) (fun t l hl e he => by
      subst he
      obtain ⟨ht, hl'⟩ := List.getElem?_eq_some_iff.mp hl
      have lA := aM l (hl' ▸ List.getElem_mem ht)
      have ll := lA.len
      have tk : M.take (t + 1) = M.take t ++ [l] := by rw [List.take_succ, hl]; rfl
      have er := rest_ok (cs := cs) (W := W) Ht k hn G.sz lA.2 (by omega)
      have eo := ho (restP re l).length (Nat.le_trans (rest_len l) hn)
      have sm : ((M.take (t + 1)).map F).sum = ((M.take t).map F).sum + F l := by
        rw [tk, List.map_append, List.sum_append]
        simp
      refine ⟨[some h, some kd, some (.int (w : Nat)), some (.int (b : Nat)), none, some (encII re), some (.int ((M.take (t + 1)).map F).sum), some (encI l)], ?_, rfl⟩
      rw [sm]
      show evS cs _ W (cntB1 jt jo) [some h, some kd, some (.int (w : Nat)), some (.int (b : Nat)), none, some (encII re), some (.int ((M.take t).map F).sum), some (encI l)] = _
      unfold cntB1
      rw [es_seq, es_ite]
      by_cases g1 : l.length = w
      · have g2 : (l.length : Int) = w := by omega
        have fe : F l = g (restP re l).length := if_pos g1
        simp only [ev_cmp, ev_blt, ev_cons, ev_nil, ev_var, getS_0, getS_s, R.bind_ok, unL_l, len_I, unk_i, cmp_eqI, decide_eq_true g2, R.go_ok, trB, if_true]
        rw [es_seq, set_ok (d := .int (((M.take t).map F).sum + F l)) (by
          rw [fe]
          simp only [ev_bin, ev_blt, ev_call, ev_cons, ev_nil, ev_var, getS_0, getS_s, R.bind_ok, unL_l, len_I, unk_i, er, eo, bin_add])]
        rfl
      · have g2 : ¬ (l.length : Int) = w := by omega
        have fe : F l = 0 := if_neg g1
        simp only [ev_cmp, ev_blt, ev_cons, ev_nil, ev_var, getS_0, getS_s, R.bind_ok, unL_l, len_I, unk_i, cmp_eqI, decide_eq_false g2, R.go_ok, trB, Bool.false_eq_true, if_false, fe, Int.add_zero]
        rfl) rfl
  rw [List.take_length] at he
  subst he
  rw [H.run cs W (k + 1) _ rfl]
  have sp := sum_perm F pM
  have body : evS cs (callN fs cs W (k + 1)) W (cntB jg jr jl jt jo jm bad) [some h, some kd, some (.int (w : Nat)), some (.int (b : Nat)), none, none, none, none] = .rt (.int ((allSub re.length).map F).sum) := by
    refine seq_nx _ (drop_ok (d := .none) (by simp [hg])) ?_
    refine seq_nx _ h4 ?_
    refine seq_nx [some h, some kd, some (.int (w : Nat)), some (.int (b : Nat)), none, some (encII re), none, none] (set_ok (d := encII re) (by simp [hr])) ?_
    refine seq_nx [some h, some kd, some (.int (w : Nat)), some (.int (b : Nat)), none, some (encII re), some (.int 0), none] (set_ok (d := .int 0) (by simp)) ?_
    refine seq_nx _ h5 ?_
    rw [← sp]
    simp
  show (evS cs _ W (cntB jg jr jl jt jo jm bad) [some h, some kd, some (.int (w : Nat)), some (.int (b : Nat)), none, none, none, none]).end_ = _
  rw [body]
  rfl
end
end Gu
/-! F: squares as pairs: order, membership, places, sorting. -/
namespace Gu
open PySem Mt
def ltP (p q : Sq) : Bool := decide (p.1 < q.1) || (decide (p.1 = q.1) && decide (p.2 < q.2))
theorem ltP_iff {p q : Sq} : ltP p q = true ↔ p.1 < q.1 ∨ (p.1 = q.1 ∧ p.2 < q.2) := by
  unfold ltP
  simp
theorem ltP_irr (p : Sq) : ltP p p = false := by
  cases h : ltP p p with
  | false => rfl
  | true =>
    have := ltP_iff.mp h
    omega
theorem ltP_trans {p q r : Sq} (h : ltP p q = true) (k : ltP q r = true) : ltP p r = true := by
  rw [ltP_iff] at *
  omega
theorem ltP_tri {p q : Sq} (h : ltP p q = false) (hn : p ≠ q) : ltP q p = true := by
  have h1 : ¬ (p.1 < q.1 ∨ (p.1 = q.1 ∧ p.2 < q.2)) := fun z => by rw [ltP_iff.mpr z] at h; cases h
  rw [ltP_iff]
  by_cases e : p.1 = q.1
  · have : p.2 ≠ q.2 := fun z => hn (Prod.ext e z)
    omega
  · omega
theorem ltP_ne {p q : Sq} (h : ltP p q = true) : p ≠ q := fun z => by
  subst z
  rw [ltP_irr] at h
  cases h
theorem dataLt_P (p q : Sq) : PySem.W.dataLt (encP p) (encP q) = ltP p q := by
  show PyProof.Rows.lexLt PyProof.Rows.itemOrd [.inl 1, .inl p.1, .inl 1, .inl p.2, .inl 0] [.inl 1, .inl q.1, .inl 1, .inl q.2, .inl 0] = _
  rw [PyProof.Rows.lex_self (O := PyProof.Rows.itemOrd)]
  by_cases h1 : p.1 = q.1
  · rw [h1, PyProof.Rows.lex_self (O := PyProof.Rows.itemOrd), PyProof.Rows.lex_self (O := PyProof.Rows.itemOrd)]
    by_cases h2 : p.2 = q.2
    · rw [h2, PyProof.Rows.lex_self (O := PyProof.Rows.itemOrd), PyProof.Rows.lex_self (O := PyProof.Rows.itemOrd)]
      unfold ltP
      simp [h1, h2, PyProof.Rows.lexLt]
    · rw [PyProof.Rows.lex_diff (O := PyProof.Rows.itemOrd) (by intro z; exact h2 (Sum.inl.inj z))]
      unfold ltP
      simp [h1]
      rfl
  · rw [PyProof.Rows.lex_diff (O := PyProof.Rows.itemOrd) (by intro z; exact h1 (Sum.inl.inj z))]
    unfold ltP
    simp [h1]
    rfl
theorem ge_P (p q : Sq) : cmpD .ge (encP p) (encP q) = .ok (!ltP p q) := by
  show grd (ordOk (encP p) (encP q)) (.ok (!PySem.W.dataLt (encP p) (encP q))) = _
  rw [dataLt_P]
  rfl
theorem eqv_P (p q : Sq) : PyData.eqv (encP p) (encP q) = decide (p = q) := by
  unfold encP
  simp only [PyData.eqv, PyData.eqvAll, Bool.and_true]
  by_cases h : p = q
  · subst h
    simp
  · rw [decide_eq_false h]
    cases e : ((p.1 == q.1) && (p.2 == q.2)) with
    | false => rfl
    | true =>
      simp at e
      exact absurd (Prod.ext e.1 e.2) h
theorem flat_P (p : Sq) : flat (encP p) = true := rfl
theorem lay_Ps : ∀ l : List Sq, PyData.canLayAll0 (l.map encP) = true
  | [] => rfl
  | p :: l => by simp [PyData.canLayAll0, encP, PyData.canLay0, lay_Ps l]
theorem dep_Ps : ∀ l : List Sq, PyData.depthAll (l.map encP) ≤ 1
  | [] => by simp [PyData.depthAll]
  | p :: l => by
    have := dep_Ps l
    simp [PyData.depthAll, encP, PyData.depth]
    omega
theorem flat_L (l : List Sq) : flat (encL l) = true := by
  have := dep_Ps l
  simp only [flat, encL, SeqAt.shaped, PyData.canLay0, PyData.depth, lay_Ps, Bool.true_and]
  exact decide_eq_true (by omega)
theorem any_P (p : Sq) (l : List Sq) : ((l.map encP).any fun z => PyData.eqv z (encP p)) = decide (p ∈ l) := by
  induction l with
  | nil => rfl
  | cons x l ih =>
    rw [List.map_cons, List.any_cons, ih, eqv_P]
    by_cases h : x = p
    · simp [h]
    · have : ¬ p = x := fun z => h z.symm
      simp [h, this]
theorem in_P (p : Sq) (l : List Sq) : cmpD .inn (encP p) (encL l) = .ok (decide (p ∈ l)) := by
  show grd (flat (encP p) && flat (encL l)) (.ok ((l.map encP).any fun z => PyData.eqv z (encP p))) = _
  rw [flat_P, flat_L, any_P]
  rfl
theorem nin_P (p : Sq) (l : List Sq) : cmpD .nin (encP p) (encL l) = .ok (!decide (p ∈ l)) := by
  show grd (flat (encP p) && flat (encL l)) (.ok (!(l.map encP).any fun z => PyData.eqv z (encP p))) = _
  rw [flat_P, flat_L, any_P]
  rfl
theorem eq_P (p q : Sq) : cmpD .eq (encP p) (encP q) = .ok (decide (p = q)) := by
  show grd (flat (encP p) && flat (encP q)) (.ok (PyData.eqv (encP p) (encP q))) = _
  rw [flat_P, flat_P, eqv_P]
  rfl
theorem ne_P (p q : Sq) : cmpD .ne (encP p) (encP q) = .ok (!decide (p = q)) := by
  show grd (flat (encP p) && flat (encP q)) (.ok (!PyData.eqv (encP p) (encP q))) = _
  rw [flat_P, flat_P, eqv_P]
  rfl
theorem eqv_Ls : ∀ l m : List Sq, PyData.eqvAll (l.map encP) (m.map encP) = decide (l = m)
  | [], [] => rfl
  | [], _ :: _ => rfl
  | _ :: _, [] => rfl
  | p :: l, q :: m => by
    rw [List.map_cons, List.map_cons, PyData.eqvAll, eqv_P, eqv_Ls l m]
    by_cases h : p = q <;> by_cases k : l = m <;> simp [h, k]
theorem ne_L (l m : List Sq) : cmpD .ne (encL l) (encL m) = .ok (!decide (l = m)) := by
  show grd (flat (encL l) && flat (encL m)) (.ok (!PyData.eqv (encL l) (encL m))) = _
  rw [flat_L, flat_L]
  show R.ok (!PyData.eqv (.list (l.map encP)) (.list (m.map encP))) = _
  rw [PyData.eqv, eqv_Ls]
theorem ne_L0 (l : List Sq) : cmpD .ne (encL l) (.list []) = .ok (!decide (l = [])) := ne_L l []
/-- the place of a square -/
theorem lidx_P {S : List Sq} (hd : S.Nodup) {i : Nat} {p : Sq} (h : S[i]? = some p) : lidxD (S.map encP) (encP p) = .ok (.int (i : Nat)) := by
  have hi : i < S.length := (List.getElem?_eq_some_iff.mp h).1
  have he : S[i] = p := (List.getElem?_eq_some_iff.mp h).2
  have f : (S.map encP).findIdx? (fun z => PyData.eqv z (encP p)) = some i := by
    rw [List.findIdx?_eq_some_iff_getElem]
    refine ⟨by simpa using hi, by simp [eqv_P, he], fun j hj => ?_⟩
    simp only [List.getElem_map, eqv_P, he]
    intro z
    have z := of_decide_eq_true z
    have := (List.pairwise_iff_getElem.mp hd) j i (by omega) hi hj
    exact this (z.trans he.symm)
  unfold lidxD
  rw [show flat (.list (S.map encP)) = true from flat_L S, flat_P, f]
  rfl
theorem sqAt_get {S : List Sq} {p : Int} (h0 : 0 ≤ p) (h1 : p < S.length) : S[p.toNat]? = some (sqAt S p) := by
  have h : p.toNat < S.length := by omega
  unfold sqAt
  rw [List.getD_eq_getElem?_getD, List.getElem?_eq_getElem h]
  rfl
theorem lidx_at {S : List Sq} (hd : S.Nodup) {p : Int} (h0 : 0 ≤ p) (h1 : p < S.length) : lidxD (S.map encP) (encP (sqAt S p)) = .ok (.int p) := by
  have := lidx_P hd (sqAt_get h0 h1)
  rw [Int.toNat_of_nonneg h0] at this
  exact this
theorem sqAt_inj {S : List Sq} (hd : S.Nodup) {p q : Int} (p0 : 0 ≤ p) (p1 : p < S.length) (q0 : 0 ≤ q) (q1 : q < S.length) (h : sqAt S p = sqAt S q) : p = q := by
  have e1 := lidx_at hd p0 p1
  have e2 := lidx_at hd q0 q1
  rw [h, e2] at e1
  exact (PyData.int.inj (R.ok.inj e1)).symm
theorem sqAt_mem {S : List Sq} {p : Int} (h0 : 0 ≤ p) (h1 : p < S.length) : sqAt S p ∈ S := List.mem_of_getElem? (sqAt_get h0 h1)
theorem mem_sqAt {S : List Sq} {x : Sq} (h : x ∈ S) : ∃ p : Int, 0 ≤ p ∧ p < S.length ∧ sqAt S p = x := by
  obtain ⟨i, hi, e⟩ := List.mem_iff_getElem.mp h
  refine ⟨i, by omega, by omega, ?_⟩
  unfold sqAt
  rw [List.getD_eq_getElem?_getD, Int.toNat_natCast, List.getElem?_eq_getElem hi, e]
  rfl
/-! ### ascending squares -/
def AscS (S : List Sq) : Prop := S.Pairwise fun a b => ltP a b = true
theorem AscS.nodup {S : List Sq} (h : AscS S) : S.Nodup := h.imp fun k => ltP_ne k
theorem sqAt_lt {S : List Sq} (h : AscS S) {p q : Int} (p0 : 0 ≤ p) (hpq : p < q) (q1 : q < S.length) : ltP (sqAt S p) (sqAt S q) = true := by
  have hp : p.toNat < S.length := by omega
  have hq : q.toNat < S.length := by omega
  have := (List.pairwise_iff_getElem.mp h) p.toNat q.toNat hp hq (by omega)
  unfold sqAt
  rw [List.getD_eq_getElem?_getD, List.getD_eq_getElem?_getD, List.getElem?_eq_getElem hp, List.getElem?_eq_getElem hq]
  exact this
/-- those of S that stand in the list of some ascending places, are that list -/
theorem filter_sub {S : List Sq} : ∀ (T : List Sq), AscS S → AscS T → (∀ x ∈ T, x ∈ S) → S.filter (fun x => decide (x ∈ T)) = T := by
  induction S with
  | nil =>
    intro T _ _ h
    cases T with
    | nil => rfl
    | cons x T => exact absurd (h x (by simp)) (by simp)
  | cons s S ih =>
    intro T hS hT hm
    obtain ⟨h1, h2⟩ := List.pairwise_cons.mp hS
    cases T with
    | nil => simp
    | cons t T =>
      obtain ⟨k1, k2⟩ := List.pairwise_cons.mp hT
      by_cases e : s = t
      · subst e
        have st : ∀ x ∈ T, x ∈ S := fun x hx => by
          rcases List.mem_cons.mp (hm x (by simp [hx])) with z | z
          · exact absurd z.symm (ltP_ne (k1 x hx))
          · exact z
        rw [List.filter_cons, if_pos (by simp)]
        have : S.filter (fun x => decide (x ∈ s :: T)) = S.filter fun x => decide (x ∈ T) := List.filter_congr fun x hx => by
          have : x ≠ s := fun z => ltP_ne (h1 x hx) z.symm
          simp [this]
        rw [this, ih T h2 k2 st]
      · have tS : t ∈ S := by
          rcases List.mem_cons.mp (hm t (by simp)) with z | z
          · exact absurd z.symm e
          · exact z
        have sT : s ∉ t :: T := fun z => by
          rcases List.mem_cons.mp z with z | z
          · exact e z
          · have a := h1 t tS
            have b := k1 s z
            have := ltP_trans a b
            rw [ltP_irr] at this
            cases this
        rw [List.filter_cons, if_neg (by simpa using sT)]
        exact ih (t :: T) h2 hT fun x hx => by
          rcases List.mem_cons.mp (hm x hx) with z | z
          · exact absurd (z ▸ hx) sT
          · exact z
theorem asc_sub {S : List Sq} (h : AscS S) {l : List Int} (hl : Asc S.length l) : AscS (l.map (sqAt S)) ∧ ∀ x ∈ l.map (sqAt S), x ∈ S := by
  refine ⟨?_, fun x hx => ?_⟩
  · have : ∀ l : List Int, Asc S.length l → AscS (l.map (sqAt S)) := fun l => by
      induction l with
      | nil => exact fun _ => .nil
      | cons p l ih =>
        intro hl
        obtain ⟨h1, h2⟩ := List.pairwise_cons.mp hl.1
        have h3 : Asc S.length l := ⟨h2, fun i hi => hl.2 i (by simp [hi])⟩
        rw [List.map_cons]
        refine List.pairwise_cons.mpr ⟨fun y hy => ?_, ih h3⟩
        obtain ⟨q, hq, rfl⟩ := List.mem_map.mp hy
        exact sqAt_lt h (hl.2 p (by simp)).1 (h1 q hq) (h3.2 q hq).2
    exact this l hl
  · obtain ⟨p, hp, rfl⟩ := List.mem_map.mp hx
    exact sqAt_mem (hl.2 p hp).1 (hl.2 p hp).2
/-! ### sorting -/
theorem insP (a : Sq) : ∀ M : List Sq, AscS M → a ∉ M → ∃ M' : List Sq, insD (encP a) (M.map encP) = M'.map encP ∧ AscS M' ∧ ∀ x, x ∈ M' ↔ x = a ∨ x ∈ M
  | [], _, _ => ⟨[a], rfl, List.pairwise_singleton .., fun x => by simp⟩
  | b :: M, h, hn => by
    obtain ⟨h1, h2⟩ := List.pairwise_cons.mp h
    have nb : a ≠ b := fun z => hn (by simp [z])
    have nM : a ∉ M := fun z => hn (by simp [z])
    rw [List.map_cons]
    unfold insD
    rw [dataLt_P]
    cases hb : ltP b a with
    | false =>
      have ab := ltP_tri hb (fun z => nb z.symm)
      refine ⟨a :: b :: M, rfl, List.pairwise_cons.mpr ⟨fun y hy => ?_, h⟩, fun x => by simp⟩
      rcases List.mem_cons.mp hy with z | z
      · rw [z]; exact ab
      · exact ltP_trans ab (h1 y z)
    | true =>
      obtain ⟨M', e1, e2, e3⟩ := insP a M h2 nM
      refine ⟨b :: M', by simp only [Bool.not_true, Bool.false_eq_true, if_false, e1]; rfl, List.pairwise_cons.mpr ⟨fun y hy => ?_, e2⟩, fun x => ?_⟩
      · rcases (e3 y).mp hy with z | z
        · rw [z]; exact hb
        · exact h1 y z
      · rw [List.mem_cons, e3, List.mem_cons]
        constructor
        · rintro (h | h | h)
          · exact .inr (.inl h)
          · exact .inl h
          · exact .inr (.inr h)
        · rintro (h | h | h)
          · exact .inr (.inl h)
          · exact .inl h
          · exact .inr (.inr h)
theorem sortP : ∀ L : List Sq, L.Nodup → ∃ M : List Sq, sortD (L.map encP) = M.map encP ∧ AscS M ∧ (∀ x, x ∈ M ↔ x ∈ L) ∧ M.length = L.length
  | [], _ => ⟨[], rfl, .nil, fun x => Iff.rfl, rfl⟩
  | a :: L, h => by
    obtain ⟨h1, h2⟩ := List.nodup_cons.mp h
    obtain ⟨M, e1, e2, e3, e4⟩ := sortP L h2
    obtain ⟨M', f1, f2, f3⟩ := insP a M e2 fun z => h1 ((e3 a).mp z)
    have hl : ∀ (x : D) (l : List D), (insD x l).length = l.length + 1 := fun x l => by
      induction l with
      | nil => rfl
      | cons y l ih =>
        unfold insD
        split
        · rfl
        · simp [ih]
    refine ⟨M', ?_, f2, fun x => by rw [f3, e3, List.mem_cons], ?_⟩
    · rw [List.map_cons]
      unfold sortD
      rw [e1, f1]
    · have := hl (encP a) (M.map encP)
      rw [f1, List.length_map, List.length_map, e4] at this
      exact this
theorem alkL_P (L : List Sq) : alkL (L.map encP) = true := by
  unfold alkL
  simp only [Bool.and_eq_true, List.all_eq_true, decide_eq_true_eq]
  refine ⟨⟨⟨fun x hx y hy => ?_, lay_Ps L⟩, Nat.le_trans (dep_Ps L) (by omega)⟩, fun x hx => ?_⟩
  · obtain ⟨a, _, rfl⟩ := List.mem_map.mp hx
    obtain ⟨b, _, rfl⟩ := List.mem_map.mp hy
    rfl
  · obtain ⟨a, _, rfl⟩ := List.mem_map.mp hx
    rfl
theorem sorted_P (L : List Sq) (hn : L.Nodup) (h : L.length ≤ 16777216) : ∃ M : List Sq, bltD .sorted [encL L] = .ok (encL M) ∧ AscS M ∧ (∀ x, x ∈ M ↔ x ∈ L) ∧ M.length = L.length := by
  obtain ⟨M, h1, h2, h3, h4⟩ := sortP L hn
  refine ⟨M, ?_, h2, h3, h4⟩
  show sortA (L.map encP) = _
  unfold sortA
  have nt : (L.map encP).all tup1 = true := by
    rw [List.all_eq_true]
    intro x hx
    obtain ⟨a, _, rfl⟩ := List.mem_map.mp hx
    rfl
  rw [alkL_P, nt, fit_le (by simpa using h), h1]
  rfl
end Gu
/-! G: fewest guards, most apart, counts apart, most black, armies. -/
namespace Gu
open PySem Mt
/-- for i, x in enumerate(..) -/
theorem for_enum {α : Type} {cs : List D} {cal : Nat → List D → R D} {W : Nat} {src : E} {i j : Nat} {body : S} {e : Sg} (enc : α → D) (l : List α) (I : Nat → Sg → Prop) (h : ((evE cs cal src e).bind unL) = .ok [.list (l.map enc)])
    (st : ∀ t a, l[t]? = some a → ∀ e, I t e → ∃ e1, evS cs cal W body ((e.set i (some (.int (t : Nat)))).set j (some (enc a))) = .nx e1 ∧ I (t + 1) (mask e e1)) (h0 : I 0 e) : ∃ e', evS cs cal W (.for_ .enum src (.tup 2 (.cons (.nm i) (.cons (.nm j) .nil))) body) e = .nx e' ∧ I l.length e' := by
  have it : ((evE cs cal src e).bind unL).bind (itD .enum) = .ok (enumL 0 (l.map enc)) := by rw [h, R.bind_ok]; rfl
  rw [es_for, it, R.go_ok]
  have := forGo_ix (f := fun x e => (asg (.tup 2 (.cons (.nm i) (.cons (.nm j) .nil))) x e).go e fun e1 => evS cs cal W body e1) I (xs := enumL 0 (l.map enc)) (n := 0) (e := e) (fun t x hx e he => by
    rw [enum_get, List.getElem?_map] at hx
    cases ha : l[t]? with
    | none => rw [ha] at hx; cases hx
    | some a =>
      rw [ha] at hx
      have ex : x = .tuple [.int (t : Nat), enc a] := by
        rw [Nat.zero_add] at hx
        exact (Option.some.inj hx).symm
      subst ex
      rw [Nat.zero_add] at he ⊢
      obtain ⟨e1, h1, h2⟩ := st t a ha e he
      refine ⟨e1, ?_, h2⟩
      show (asg _ _ e).go e _ = _
      rw [asg_t2, asg_nm, R.bind_ok, asg_nm, R.go_ok]
      exact h1) h0
  have hl : ∀ (n : Nat) (xs : List D), (enumL n xs).length = xs.length := fun n xs => by
    induction xs generalizing n with
    | nil => rfl
    | cons x xs ih => simp [enumL, ih]
  rw [hl, List.length_map, Nat.zero_add] at this
  exact this
section
variable {fs : List Fn} {cs : List D} {W : Nat} {re : List (List Int)} {S : List Sq} {h kd : D}
/-! ### fewest guards -/
def fewB1 (jm : Nat) : Mt.S := (.seq (.set (.nm 5) (.call jm (.cons (.var 2) (.cons (.lst .nil) (.cons (.var 4) .nil))))) (.seq (.set (.nm 4) (.bin .add (.var 4) (.int 1))) .skip))
def fewB (jc jr jf jm : Nat) : Mt.S := (.seq (.drop (.call jc (.cons (.var 0) (.cons (.var 1) .nil)))) (.seq (.set (.nm 2) (.call jr (.cons (.var 0) (.cons (.var 1) .nil)))) (.seq (.set (.nm 3) (.call jf (.cons (.var 0) .nil))) (.seq (.set (.nm 4) (.int 1)) (.seq (.set (.nm 5) .non)
  (.seq (.while_ (.cmp .isn (.var 5) .non) (fewB1 jm)) (.seq (.ret (.lc .seq (.cons (.var 5) .nil) (.nm 6) (.bl true) (.idx (.var 3) (.var 6)) [6])) .skip)))))))
abbrev w7 (h kd : D) (re : List (List Int)) (S : List Sq) (m : Nat) (o : Option (List Int)) : Sg := [some h, some kd, some (encII re), some (encL S), some (.int (m : Nat)), some (encO o), none]
theorem few_while {jm : Nat} (Hm : Has fs jm 3 9 (moreB jm)) (G : GG re) (k : Nat) : ∀ (n m : Nat), re.length ≤ m + n → m ≤ 29 → ∃ P m', whileGo (fun e => (evE cs (callN fs cs W (k + 31)) (.cmp .isn (.var 5) .non) e).bind truthy) (fun e => evS cs (callN fs cs W (k + 31)) W (fewB1 jm) e) (n + 2) (w7 h kd re S m none) = .nx (w7 h kd re S m' (some P)) ∧ Asc re.length P ∧ restP re P = [] := by
  have body : ∀ (m : Nat), m ≤ 30 → ∃ o, evS cs (callN fs cs W (k + 31)) W (fewB1 jm) (w7 h kd re S m none) = .nx (w7 h kd re S (m + 1) o) ∧ (∀ P, o = some P → Asc re.length P ∧ restP re P = []) ∧ (re.length ≤ m → o ≠ none) := fun m hm => by
    obtain ⟨o, e1, h1, h2⟩ := more_ok (cs := cs) (W := W) Hm G (k + 30 - m) m [] (Asc.nil _)
    rw [show k + 30 - m + m + 1 = k + 31 by omega] at e1
    refine ⟨o, ?_, h1, fun h => h2 0 rfl (by omega)⟩
    unfold fewB1
    refine seq_nx (w7 h kd re S m o) (set_ok (d := encO o) ?_) ?_
    · have e1 : callN fs cs W (k + 31) jm [encII re, .list [], .int (m : Nat)] = .ok (encO o) := e1
      simp [e1, fitL]
    · refine seq_nx (w7 h kd re S (m + 1) o) (set_ok (d := .int ((m + 1 : Nat) : Int)) ?_) rfl
      simp
  intro n
  induction n with
  | zero =>
    intro m hm hz
    obtain ⟨o, e1, h1, h2⟩ := body m (by omega)
    cases o with
    | none => exact absurd rfl (h2 (by omega))
    | some P =>
      refine ⟨P, m + 1, ?_, h1 P rfl⟩
      show ((O.seq (evS cs _ W (fewB1 jm) (w7 h kd re S m none)) _) : O) = _
      rw [e1]
      rfl
  | succ n ih =>
    intro m hm hz
    obtain ⟨o, e1, h1, h2⟩ := body m (by omega)
    cases o with
    | some P =>
      refine ⟨P, m + 1, ?_, h1 P rfl⟩
      show ((O.seq (evS cs _ W (fewB1 jm) (w7 h kd re S m none)) _) : O) = _
      rw [e1]
      rfl
    | none =>
      have hlt : m < re.length := by
        by_cases z : re.length ≤ m
        · exact absurd rfl (h2 z)
        · omega
      have hG := G.len
      obtain ⟨P, m', h3, h4⟩ := ih (m + 1) (by omega) (by omega)
      refine ⟨P, m', ?_, h4⟩
      show ((O.seq (evS cs _ W (fewB1 jm) (w7 h kd re S m none)) _) : O) = _
      rw [e1]
      exact h3
theorem few_ok {j jc jr jf jm : Nat} (H : Has fs j 2 7 (fewB jc jr jf jm)) (Hm : Has fs jm 3 9 (moreB jm)) (G : GG re) (k : Nat) (hW : W = 100) (hS : S.length = re.length) (hc : callN fs cs W (k + 31) jc [h, kd] = .ok .none) (hr : callN fs cs W (k + 31) jr [h, kd] = .ok (encII re)) (hf : callN fs cs W (k + 31) jf [h] = .ok (encL S)) :
    ∃ P, callN fs cs W (k + 32) j [h, kd] = .ok (encL (P.map (sqAt S))) ∧ Asc re.length P ∧ restP re P = [] := by
  have hn := G.len
  obtain ⟨P, m', h1, h2, h3⟩ := few_while (cs := cs) (W := W) (h := h) (kd := kd) (S := S) Hm G k 98 1 (by omega) (by omega)
  refine ⟨P, ?_, h2, h3⟩
  rw [H.run cs W (k + 31) _ rfl]
  have pk := pick_sq (cs := cs) (cal := callN fs cs W (k + 31)) (e := w7 h kd re S m' (some P)) (src := .cons (.var 5) .nil) (i := 6) (j := 3) (S := S) (l := P) rfl (by have := h2.len; omega) (by rw [hS]; exact h2.2) (by decide) rfl (by simp)
  have body : evS cs (callN fs cs W (k + 31)) W (fewB jc jr jf jm) [some h, some kd, none, none, none, none, none] = .rt (encL (P.map (sqAt S))) := by
    refine seq_nx _ (drop_ok (d := .none) (by simp [hc])) ?_
    refine seq_nx [some h, some kd, some (encII re), none, none, none, none] (set_ok (d := encII re) (by simp [hr])) ?_
    refine seq_nx [some h, some kd, some (encII re), some (encL S), none, none, none] (set_ok (d := encL S) (by simp [hf])) ?_
    refine seq_nx [some h, some kd, some (encII re), some (encL S), some (.int 1), none, none] (set_ok (d := .int 1) rfl) ?_
    refine seq_nx (w7 h kd re S 1 none) (set_ok (d := .none) rfl) ?_
    refine seq_nx (w7 h kd re S m' (some P)) ?_ ?_
    · rw [es_while]
      have : W = 98 + 2 := by omega
      exact (congrArg (fun n => whileGo _ _ n (w7 h kd re S 1 none)) this).trans h1
    · rw [es_seq, es_ret, pk]
      rfl
  show (evS cs _ W (fewB jc jr jf jm) [some h, some kd, none, none, none, none, none]).end_ = _
  rw [body]
  rfl
/-! ### most apart, counts apart -/
def apartB (jc jf jl jr : Nat) : Mt.S := (.seq (.drop (.call jc (.cons (.var 0) (.cons (.var 1) .nil)))) (.seq (.set (.nm 2) (.call jf (.cons (.var 0) .nil))) (.seq (.ret (.lc .seq (.cons (.call jl (.cons (.call jr (.cons (.var 0) (.cons (.var 1) .nil))) (.cons (.lst .nil) (.cons (.int 0) (.cons (.lst .nil) .nil))))) .nil) (.nm 3) (.bl true) (.idx (.var 2) (.var 3)) [3])) .skip)))
theorem apart_ok {j jc jf jl jr jt : Nat} (H : Has fs j 2 4 (apartB jc jf jl jr)) (Ht : Has fs jt 3 4 fitsB) (Hl : Has fs jl 4 5 (longB jt jl)) (G : GG re) (k : Nat) (hS : S.length = re.length) (hc : callN fs cs W (k + 22) jc [h, kd] = .ok .none) (hr : callN fs cs W (k + 22) jr [h, kd] = .ok (encII re)) (hf : callN fs cs W (k + 22) jf [h] = .ok (encL S)) :
    ∃ P, callN fs cs W (k + 23) j [h, kd] = .ok (encL (P.map (sqAt S))) ∧ Ind re P := by
  have hn := G.len
  obtain ⟨P, e1, h1⟩ := longest_ok (cs := cs) (W := W) Ht Hl hn k 20 [] [] 0 (by omega) (by omega) (Ind.nil re) (fun i hi => nomatch hi) (Ind.nil re)
  refine ⟨P, ?_, h1⟩
  rw [H.run cs W (k + 22) _ rfl]
  have e1 : callN fs cs W (k + 22) jl [encII re, .list [], .int 0, .list []] = .ok (encI P) := e1
  have pk := pick_sq (cs := cs) (cal := callN fs cs W (k + 22)) (e := [some h, some kd, some (encL S), none]) (src := .cons (.call jl (.cons (.call jr (.cons (.var 0) (.cons (.var 1) .nil))) (.cons (.lst .nil) (.cons (.int 0) (.cons (.lst .nil) .nil))))) .nil) (i := 3) (j := 2) (S := S) (l := P) (by simp [hr, e1, fitL]) (by have := h1.1.len; omega) (by rw [hS]; exact h1.1.2) (by decide) rfl (by simp)
  have body : evS cs (callN fs cs W (k + 22)) W (apartB jc jf jl jr) [some h, some kd, none, none] = .rt (encL (P.map (sqAt S))) := by
    refine seq_nx _ (drop_ok (d := .none) (by simp [hc])) ?_
    refine seq_nx [some h, some kd, some (encL S), none] (set_ok (d := encL S) (by simp [hf])) ?_
    rw [es_seq, es_ret, pk]
    rfl
  show (evS cs _ W (apartB jc jf jl jr) [some h, some kd, none, none]).end_ = _
  rw [body]
  rfl
def cntaB (jc jr jn g : Nat) (bad : Mt.S) : Mt.S := (.seq (.drop (.call jc (.cons (.var 0) (.cons (.var 1) .nil)))) (.seq (.ite (.not (.chn .le (.int 0) (.var 2) .le (.glb g))) (.seq bad .skip) .skip) (.seq (.ret (.call jn (.cons (.call jr (.cons (.var 0) (.cons (.var 1) .nil))) (.cons (.lst .nil) (.cons (.int 0) (.cons (.var 2) .nil)))))) .skip)))
theorem cnta_ok {j jc jr jn g jt : Nat} {bad : Mt.S} (H : Has fs j 3 3 (cntaB jc jr jn g bad)) (Ht : Has fs jt 3 4 fitsB) (Hn : Has fs jn 4 6 (countB jt jn)) (hg : cs[g]? = some (.int 20)) (G : GG re) (k : Nat) {m : Nat} (hm : m ≤ 20) (hc : callN fs cs W (k + 22) jc [h, kd] = .ok .none) (hr : callN fs cs W (k + 22) jr [h, kd] = .ok (encII re)) :
    callN fs cs W (k + 23) j [h, kd, .int (m : Nat)] = .ok (.int (countP re m [] 0)) := by
  have hn := G.len
  have e1 := counted_ok (cs := cs) (W := W) Ht Hn hn (k + 20 - m) m [] 0 (fun i hi => nomatch hi) (by simp; omega) (by omega)
  rw [show k + 20 - m + m + 2 = k + 22 by omega] at e1
  have e1 : callN fs cs W (k + 22) jn [encII re, .list [], .int 0, .int (m : Nat)] = .ok (.int (countP re m [] 0)) := e1
  have e2 : ∀ e, evE cs (callN fs cs W (k + 22)) (.glb g) e = .ok (.int 20) := fun e => by rw [ev_glb, hg]
  have m0 : (0 : Int) ≤ m := by omega
  have m1 : (m : Int) ≤ 20 := by omega
  rw [H.run cs W (k + 22) _ rfl]
  have body : evS cs (callN fs cs W (k + 22)) W (cntaB jc jr jn g bad) [some h, some kd, some (.int (m : Nat))] = .rt (.int (countP re m [] 0)) := by
    refine seq_nx _ (drop_ok (d := .none) (by simp [hc])) ?_
    refine seq_nx [some h, some kd, some (.int (m : Nat))] ?_ ?_
    · rw [es_ite]
      simp only [ev_not, ev_chn, ev_int, ev_var, getS_0, getS_s, R.bind_ok, unk_i, cmp_le, decide_eq_true m0, if_true, e2, decide_eq_true m1, trB, Bool.not_true, R.go_ok, Bool.false_eq_true, if_false, es_skip]
    · simp [hr, e1, fitL]
  show (evS cs _ W (cntaB jc jr jn g bad) [some h, some kd, some (.int (m : Nat))]).end_ = _
  rw [body]
  rfl
/-! ### most black -/
def blackB1 (bad : Mt.S) : Mt.S := (.seq (.ite (.or (.cmp .nin (.var 6) (.var 3)) (.one (.and (.cmp .gt (.var 5) (.int 0)) (.one (.cmp .ge (.idx (.var 2) (.bin .sub (.var 5) (.int 1))) (.var 6)))))) (.seq bad .skip) .skip) .skip)
def blackB (jg jf jr jt : Nat) (bad : Mt.S) : Mt.S := (.seq (.drop (.call jg (.cons (.var 0) (.cons (.var 1) .nil)))) (.seq (.set (.nm 3) (.call jf (.cons (.var 0) .nil))) (.seq (.for_ .enum (.cons (.var 2) .nil) (.tup 2 (.cons (.nm 5) (.cons (.nm 6) .nil))) (blackB1 bad))
  (.seq (.set (.nm 4) (.call jt (.cons (.call jr (.cons (.var 0) (.cons (.var 1) .nil))) (.cons (.lc .seq (.cons (.var 2) .nil) (.nm 6) (.bl true) (.lidx (.var 3) (.var 6)) [6]) .nil)))) (.seq (.ret (.lc .seq (.cons (.var 4) .nil) (.nm 7) (.bl true) (.idx (.var 3) (.var 7)) [7])) .skip)))))
theorem black_ok {j jg jf jr jt : Nat} {bad : Mt.S} (H : Has fs j 3 8 (blackB jg jf jr jt bad)) (Ht : Has fs jt 2 4 restB) (G : GG re) (k : Nat) (hS : S.length = re.length) (hA : AscS S) (hg : callN fs cs W (k + 1) jg [h, kd] = .ok .none) (hr : callN fs cs W (k + 1) jr [h, kd] = .ok (encII re)) (hf : callN fs cs W (k + 1) jf [h] = .ok (encL S))
    {l : List Int} (hl : Asc re.length l) : callN fs cs W (k + 2) j [h, kd, encL (l.map (sqAt S))] = .ok (encL ((restP re l).map (sqAt S))) := by
  have hn := G.len
  have ll := hl.len
  have hd := hA.nodup
  rw [← hS] at hl
  obtain ⟨tA, tS⟩ := asc_sub hA hl
  obtain ⟨e', h5, he⟩ := for_enum (cs := cs) (cal := callN fs cs W (k + 1)) (W := W) (src := .cons (.var 2) .nil) (i := 5) (j := 6) (body := blackB1 bad) (e := [some h, some kd, some (encL (l.map (sqAt S))), some (encL S), none, none, none, none]) encP (l.map (sqAt S))
    (fun t e => e = [some h, some kd, some (encL (l.map (sqAt S))), some (encL S), none, none, none, none]) rfl (fun t a ha e he => by
      subst he
      have hm : a ∈ S := tS a (List.mem_of_getElem? ha)
      have n1 := nin_P a S
      rw [decide_eq_true hm] at n1
      refine ⟨[some h, some kd, some (encL (l.map (sqAt S))), some (encL S), none, some (.int (t : Nat)), some (encP a), none], ?_, rfl⟩
      show evS cs _ W (blackB1 bad) [some h, some kd, some (encL (l.map (sqAt S))), some (encL S), none, some (.int (t : Nat)), some (encP a), none] = _
      unfold blackB1
      rw [es_seq, es_ite]
      cases t with
      | zero =>
        simp only [ev_or, ev_cmp, ev_var, getS_0, getS_s, R.bind_ok, uk_L, n1, trB, Bool.not_true, Bool.false_eq_true, if_false, ev_one, ev_and, ev_int, unk_i, cmp_gt]
        rfl
      | succ t =>
        obtain ⟨ht, ha'⟩ := List.getElem?_eq_some_iff.mp ha
        have ht' : t < (l.map (sqAt S)).length := by omega
        have lt : ltP ((l.map (sqAt S))[t]) a = true := by
          rw [← ha']
          exact (List.pairwise_iff_getElem.mp tA) t (t + 1) ht' ht (by omega)
        have ix : idxD (encL (l.map (sqAt S))) (.int (((t + 1 : Nat) : Int) - 1)) = .ok (encP ((l.map (sqAt S))[t])) := by
          rw [show (((t + 1 : Nat) : Int) - 1) = (t : Int) by omega]
          exact idx_ln _ (by rw [List.getElem?_map, List.getElem?_eq_getElem ht']; rfl)
        have ge := ge_P ((l.map (sqAt S))[t]) a
        rw [lt] at ge
        have t0 : (0 : Int) < ((t + 1 : Nat) : Int) := by omega
        have up : unk (encP a) = encP a := rfl
        simp only [ev_or, ev_cmp, ev_var, getS_0, getS_s, R.bind_ok, uk_L, n1, trB, Bool.not_true, Bool.false_eq_true, if_false, ev_one, ev_and, ev_int, unk_i, cmp_gt, decide_eq_true t0, if_true, ev_idx, ev_bin, bin_sub, ix, up, ge]
        rfl) rfl
  subst he
  have lc2 := lc_map (cs := cs) (cal := callN fs cs W (k + 1)) (k := .seq) (src := .cons (.var 2) .nil) (elt := .lidx (.var 3) (.var 6)) (i := 6) (e := [some h, some kd, some (encL (l.map (sqAt S))), some (encL S), none, none, none, none]) (fun p => encP (sqAt S p)) l PyData.int
    (seqL_it (by simp [encL])) (by omega) (fun p hp => by
      have := lidx_at hd (hl.2 p hp).1 (hl.2 p hp).2
      simp [this])
  have er := rest_ok (cs := cs) (W := W) Ht k hn G.sz (w := l) (by rw [← hS]; exact hl.2) (by omega)
  have er : callN fs cs W (k + 1) jt [encII re, .list (l.map PyData.int)] = .ok (encI (restP re l)) := er
  have pk := pick_sq (cs := cs) (cal := callN fs cs W (k + 1)) (e := [some h, some kd, some (encL (l.map (sqAt S))), some (encL S), some (encI (restP re l)), none, none, none]) (src := .cons (.var 4) .nil) (i := 7) (j := 3) (S := S) (l := restP re l) rfl (by have := rest_len (re := re) l; omega) (by rw [hS]; exact rest_gi l) (by decide) rfl (by simp)
  rw [H.run cs W (k + 1) _ rfl]
  have body : evS cs (callN fs cs W (k + 1)) W (blackB jg jf jr jt bad) [some h, some kd, some (encL (l.map (sqAt S))), none, none, none, none, none] = .rt (encL ((restP re l).map (sqAt S))) := by
    refine seq_nx _ (drop_ok (d := .none) (by simp [hg])) ?_
    refine seq_nx [some h, some kd, some (encL (l.map (sqAt S))), some (encL S), none, none, none, none] (set_ok (d := encL S) (by simp [hf])) ?_
    refine seq_nx _ h5 ?_
    refine seq_nx [some h, some kd, some (encL (l.map (sqAt S))), some (encL S), some (encI (restP re l)), none, none, none] (set_ok (d := encI (restP re l)) ?_) ?_
    · rw [ev_call, ev_cons, ev_cons, lc2]
      simp [hr, er]
    · rw [es_seq, es_ret, pk]
      rfl
  show (evS cs _ W (blackB jg jf jr jt bad) [some h, some kd, some (encL (l.map (sqAt S))), none, none, none, none, none]).end_ = _
  rw [body]
  rfl
/-! ### armies -/
def armB2 : Mt.S := (.seq (.ite (.cmp .ne (.blt .list (.cons (.var 6) .nil)) (.lc .seq (.cons (.var 4) .nil) (.nm 7) (.cmp .inn (.var 7) (.var 6)) (.var 7) [7])) (.seq (.ret (.bl false)) .skip) .skip) .skip)
def armB1 : Mt.S := (.seq (.set (.nm 8) (.lc .seq (.cons (.idx (.var 5) (.lidx (.var 4) (.var 7))) .nil) (.nm 9) (.bl true) (.idx (.var 4) (.var 9)) [9])) (.seq (.ite (.blt .any (.cons (.lc .seq (.cons (.var 3) .nil) (.nm 10) (.bl true) (.or (.cmp .eq (.var 10) (.var 7)) (.one (.cmp .inn (.var 10) (.var 8)))) [10]) .nil)) (.seq (.ret (.bl false)) .skip) .skip) .skip))
def armB (jg jf jr : Nat) : Mt.S := (.seq (.drop (.call jg (.cons (.var 0) (.cons (.var 1) .nil)))) (.seq (.set (.nm 4) (.call jf (.cons (.var 0) .nil))) (.seq (.set (.nm 5) (.call jr (.cons (.var 0) (.cons (.var 1) .nil))))
  (.seq (.for_ .seq (.cons (.tup (.cons (.var 2) (.cons (.var 3) .nil))) .nil) (.nm 6) armB2) (.seq (.for_ .seq (.cons (.var 2) .nil) (.nm 7) armB1) (.seq (.ret (.bl true)) .skip))))))
theorem arm_ok {j jg jf jr : Nat} (H : Has fs j 4 11 (armB jg jf jr)) (G : GG re) (k : Nat) (hS : S.length = re.length) (hA : AscS S) (hg : callN fs cs W (k + 1) jg [h, kd] = .ok .none) (hr : callN fs cs W (k + 1) jr [h, kd] = .ok (encII re)) (hf : callN fs cs W (k + 1) jf [h] = .ok (encL S))
    {a b : List Int} (ha : Asc re.length a) (hb : Asc re.length b) (hab : ∀ p ∈ a, ∀ q ∈ b, q ≠ p ∧ q ∉ row re p) : callN fs cs W (k + 2) j [h, kd, encL (a.map (sqAt S)), encL (b.map (sqAt S))] = .ok (.bool true) := by
  have hn := G.len
  have la := ha.len
  have lb := hb.len
  have hd := hA.nodup
  let A := a.map (sqAt S)
  let B := b.map (sqAt S)
  obtain ⟨aA, aS⟩ := asc_sub hA (by rw [hS]; exact ha)
  obtain ⟨bA, bS⟩ := asc_sub hA (by rw [hS]; exact hb)
  let st (x y z : Option D) : Sg := [some h, some kd, some (encL A), some (encL B), some (encL S), some (encII re), x, y, z, none, none]
  obtain ⟨e1, h1, he1⟩ := for_map (cs := cs) (cal := callN fs cs W (k + 1)) (W := W) (k := .seq) (src := .cons (.tup (.cons (.var 2) (.cons (.var 3) .nil))) .nil) (i := 6) (body := armB2) (e := st none none none) encL [A, B]
    (fun t e => e = st none none none) (seqT_it (by simp [st, fitL])) (fun t T hT e he => by
      subst he
      have hT2 : AscS T ∧ ∀ x ∈ T, x ∈ S := by
        have := List.mem_of_getElem? hT
        simp at this
        rcases this with z | z
        · exact z ▸ ⟨aA, aS⟩
        · exact z ▸ ⟨bA, bS⟩
      have fl := filter_sub T hA hT2.1 hT2.2
      have lc := lc_filter (cs := cs) (cal := callN fs cs W (k + 1)) (k := .seq) (src := .cons (.var 4) .nil) (cond := .cmp .inn (.var 7) (.var 6)) (elt := .var 7) (i := 7) (e := st (some (encL T)) none none) encP S (fun x => decide (x ∈ T)) encP (seqL_it (by simp [st, encL])) (by omega)
        (fun x _ => by have := in_P x T; simp [st, this]) (fun x _ _ => by simp [st])
      rw [fl] at lc
      have ne := ne_L T T
      rw [decide_eq_true rfl] at ne
      have lst : bltD .list [encL T] = .ok (encL T) := rfl
      refine ⟨st (some (encL T)) none none, ?_, rfl⟩
      show evS cs _ W armB2 (st (some (encL T)) none none) = _
      unfold armB2
      rw [es_seq, es_ite, ev_cmp, lc]
      have nl : cmpD .ne (encL T) (unk (.list (T.map encP))) = .ok false := ne
      simp only [st, ev_blt, ev_cons, ev_nil, ev_var, getS_0, getS_s, R.bind_ok, unL_l, lst, nl, trB, R.go_ok, Bool.false_eq_true, if_false, es_skip]
      rfl) rfl
  subst he1
  obtain ⟨e2, h2, he2⟩ := for_map (cs := cs) (cal := callN fs cs W (k + 1)) (W := W) (k := .seq) (src := .cons (.var 2) .nil) (i := 7) (body := armB1) (e := st none none none) (fun p => encP (sqAt S p)) a
    (fun t e => e = st none none none) (seqL_it (by simp [st, A, encL])) (fun t p hp e he => by
      subst he
      have pm := List.mem_of_getElem? hp
      obtain ⟨p0, p1⟩ := ha.2 p pm
      have li := lidx_at hd p0 (by rw [hS]; exact p1)
      have ir := idx_row p0 p1
      have rl := G.sz _ (row_mem p0 p1)
      have rg := G.rng _ (row_mem p0 p1)
      have pk := pick_sq (cs := cs) (cal := callN fs cs W (k + 1)) (e := st none (some (encP (sqAt S p))) none) (src := .cons (.idx (.var 5) (.lidx (.var 4) (.var 7))) .nil) (i := 9) (j := 4) (S := S) (l := row re p) (by simp [st, li, ir]) (by omega) (by rw [hS]; exact rg) (by decide) rfl (by simp [st])
      let M := (row re p).map (sqAt S)
      have no : ∀ q ∈ b, (decide (sqAt S q = sqAt S p) || decide (sqAt S q ∈ M)) = false := fun q hq => by
        obtain ⟨q0, q1⟩ := hb.2 q hq
        obtain ⟨n1, n2⟩ := hab p pm q hq
        rw [decide_eq_false (fun z => n1 (sqAt_inj hd q0 (by rw [hS]; exact q1) p0 (by rw [hS]; exact p1) z)), decide_eq_false (fun z => by
          obtain ⟨r, hr, e⟩ := List.mem_map.mp z
          obtain ⟨r0, r1⟩ := rg r hr
          have := sqAt_inj hd r0 (by rw [hS]; exact r1) q0 (by rw [hS]; exact q1) e
          exact n2 (this ▸ hr))]
        rfl
      have lc := lc_map (cs := cs) (cal := callN fs cs W (k + 1)) (k := .seq) (src := .cons (.var 3) .nil) (elt := .or (.cmp .eq (.var 10) (.var 7)) (.one (.cmp .inn (.var 10) (.var 8)))) (i := 10) (e := st none (some (encP (sqAt S p))) (some (encL M))) (fun q => encP (sqAt S q)) b (fun _ => PyData.bool false)
        (seqL_it (by simp [st, B, encL])) (by omega) (fun q hq => by
          have n := no q hq
          rw [Bool.or_eq_false_iff] at n
          have q1 := eq_P (sqAt S q) (sqAt S p)
          have q2 := in_P (sqAt S q) M
          rw [n.1] at q1
          rw [n.2] at q2
          have up : unk (encP (sqAt S p)) = encP (sqAt S p) := rfl
          simp [st, q1, q2, up])
      have an := any_bs (b.map fun _ => false)
      rw [List.map_map] at an
      have an2 : bltD .any [.list (b.map fun _ => PyData.bool false)] = .ok (.bool false) := by
        rw [show (b.map fun _ => PyData.bool false) = b.map (PyData.bool ∘ fun _ => false) from rfl, an]
        simp
      refine ⟨st none (some (encP (sqAt S p))) (some (encL M)), ?_, rfl⟩
      show evS cs _ W armB1 (st none (some (encP (sqAt S p))) none) = _
      unfold armB1
      refine seq_nx (st none (some (encP (sqAt S p))) (some (encL M))) (set_ok pk) ?_
      rw [es_seq, es_ite, ev_blt, ev_cons, lc]
      simp only [R.bind_ok, ev_nil, unL_l, an2, R.go_ok, trB, Bool.false_eq_true, if_false, es_skip]
      rfl) rfl
  subst he2
  rw [H.run cs W (k + 1) _ rfl]
  have body : evS cs (callN fs cs W (k + 1)) W (armB jg jf jr) [some h, some kd, some (encL A), some (encL B), none, none, none, none, none, none, none] = .rt (.bool true) := by
    refine seq_nx _ (drop_ok (d := .none) (by simp [hg])) ?_
    refine seq_nx [some h, some kd, some (encL A), some (encL B), some (encL S), none, none, none, none, none, none] (set_ok (d := encL S) (by simp [hf])) ?_
    refine seq_nx (st none none none) (set_ok (d := encII re) (by simp [hr])) ?_
    refine seq_nx _ h1 ?_
    refine seq_nx _ h2 ?_
    rfl
  show (evS cs _ W (armB jg jf jr) [some h, some kd, some (encL A), some (encL B), none, none, none, none, none, none, none]).end_ = _
  rw [body]
  rfl
end
end Gu
/-! H: halls: which squares a man reaches (plain). -/
namespace Gu
open PySem Mt
def onB (w h : Int) (p : Sq) : Bool := decide (0 ≤ p.1) && decide (p.1 < w) && (decide (0 ≤ p.2) && decide (p.2 < h))
/-- a free square -/
def okB (w h : Int) (bars : List Sq) (p : Sq) : Bool := onB w h p && !decide (p ∈ bars)
theorem onB_iff {w h : Int} {p : Sq} : onB w h p = true ↔ (0 ≤ p.1 ∧ p.1 < w) ∧ 0 ≤ p.2 ∧ p.2 < h := by
  unfold onB
  simp
def adv (q s : Sq) (t : Nat) : Sq := (q.1 + t * s.1, q.2 + t * s.2)
theorem adv_0 (q s : Sq) : adv q s 0 = q := by simp [adv]
theorem adv_adv (q s : Sq) (a b : Nat) : adv (adv q s a) s b = adv q s (a + b) := by
  simp only [adv, Int.natCast_add, Int.add_mul]
  exact Prod.ext (by simp [Int.add_assoc]) (by simp [Int.add_assoc])
def neg (s : Sq) : Sq := (-s.1, -s.2)
theorem adv_neg (q s : Sq) {a b : Nat} (h : b ≤ a) : adv (adv q s a) (neg s) b = adv q s (a - b) := by
  have : ((a - b : Nat) : Int) = (a : Int) - b := by omega
  simp only [adv, neg, this, Int.sub_mul, Int.mul_neg]
  exact Prod.ext (by simp; omega) (by simp; omega)
/-- from here on, as long as it is free -/
def rayP (ok : Sq → Bool) (s : Sq) : Nat → Sq → List Sq
  | 0, _ => []
  | n + 1, q => if ok q = true then q :: rayP ok s n (adv q s 1) else []
theorem mem_rayP {ok : Sq → Bool} {s : Sq} : ∀ {n : Nat} {q x : Sq}, x ∈ rayP ok s n q ↔ ∃ t, t < n ∧ x = adv q s t ∧ ∀ u, u ≤ t → ok (adv q s u) = true
  | 0, q, x => by simp [rayP]
  | n + 1, q, x => by
    unfold rayP
    by_cases h : ok q = true
    · rw [if_pos h, List.mem_cons, mem_rayP]
      constructor
      · rintro (e | ⟨t, h1, h2, h3⟩)
        · exact ⟨0, by omega, by rw [adv_0]; exact e, fun u hu => by
            have : u = 0 := by omega
            subst this
            rw [adv_0]; exact h⟩
        · refine ⟨t + 1, by omega, by rw [h2, adv_adv, Nat.add_comm], fun u hu => ?_⟩
          cases u with
          | zero => rw [adv_0]; exact h
          | succ u =>
            have := h3 u (by omega)
            rw [adv_adv] at this
            rw [Nat.add_comm]
            exact this
      · rintro ⟨t, h1, h2, h3⟩
        cases t with
        | zero => exact .inl (by rw [h2, adv_0])
        | succ t =>
          refine .inr ⟨t, by omega, by rw [h2, adv_adv, Nat.add_comm], fun u hu => ?_⟩
          rw [adv_adv, Nat.add_comm]
          exact h3 (u + 1) (by omega)
    · rw [if_neg h]
      constructor
      · exact fun z => nomatch z
      · rintro ⟨t, h1, h2, h3⟩
        have := h3 0 (by omega)
        rw [adv_0] at this
        exact absurd this h
/-- the squares one way from p -/
def ray (ok : Sq → Bool) (p s : Sq) : List Sq := rayP ok s 99 (adv p s 1)
theorem mem_ray {ok : Sq → Bool} {p s x : Sq} : x ∈ ray ok p s ↔ ∃ t, t < 99 ∧ x = adv p s (t + 1) ∧ ∀ u, u ≤ t → ok (adv p s (u + 1)) = true := by
  unfold ray
  rw [mem_rayP]
  constructor
  · rintro ⟨t, h1, h2, h3⟩
    exact ⟨t, h1, by rw [h2, adv_adv, Nat.add_comm], fun u hu => by have := h3 u hu; rw [adv_adv, Nat.add_comm] at this; exact this⟩
  · rintro ⟨t, h1, h2, h3⟩
    exact ⟨t, h1, by rw [h2, adv_adv, Nat.add_comm], fun u hu => by rw [adv_adv, Nat.add_comm]; exact h3 u hu⟩
theorem ray_sym {ok : Sq → Bool} {p s x : Sq} (hp : ok p = true) (h : x ∈ ray ok p s) : p ∈ ray ok x (neg s) := by
  obtain ⟨t, h1, h2, h3⟩ := mem_ray.mp h
  refine mem_ray.mpr ⟨t, h1, ?_, fun u hu => ?_⟩
  · rw [h2, adv_neg _ _ (Nat.le_refl _), Nat.sub_self, adv_0]
  · rw [h2, adv_neg _ _ (by omega)]
    by_cases e : u = t
    · subst e
      rw [Nat.sub_self, adv_0]
      exact hp
    · have := h3 (t - u - 1) (by omega)
      rw [show t + 1 - (u + 1) = t - u - 1 + 1 by omega]
      exact this
theorem ray_ok_mem {ok : Sq → Bool} {p s x : Sq} (h : x ∈ ray ok p s) : ok x = true := by
  obtain ⟨t, h1, h2, h3⟩ := mem_ray.mp h
  rw [h2]
  exact h3 t (Nat.le_refl _)
/-- a step of -1, 0, 1 each, not none -/
def unitS (s : Sq) : Prop := (s.1 = -1 ∨ s.1 = 0 ∨ s.1 = 1) ∧ (s.2 = -1 ∨ s.2 = 0 ∨ s.2 = 1) ∧ s ≠ (0, 0)
theorem adv_eq {p s s' : Sq} {a b : Nat} (hs : unitS s) (hs' : unitS s') (ha : 0 < a) (hb : 0 < b) (h : adv p s a = adv p s' b) : s = s' ∧ a = b := by
  obtain ⟨h1, h2, h3⟩ := hs
  obtain ⟨k1, k2, k3⟩ := hs'
  obtain ⟨x, y⟩ := s
  obtain ⟨x', y'⟩ := s'
  simp only [adv, Prod.mk.injEq] at h
  obtain ⟨e1, e2⟩ := h
  simp only [] at h1 h2 k1 k2
  have n1 : ¬ (x = 0 ∧ y = 0) := fun z => h3 (by rw [z.1, z.2])
  have n2 : ¬ (x' = 0 ∧ y' = 0) := fun z => k3 (by rw [z.1, z.2])
  rcases h1 with rfl | rfl | rfl <;> rcases h2 with rfl | rfl | rfl <;> rcases k1 with rfl | rfl | rfl <;> rcases k2 with rfl | rfl | rfl <;> first | exact ⟨rfl, by omega⟩ | (exfalso; omega)
theorem rayP_nodup {ok : Sq → Bool} {s : Sq} (hs : unitS s) : ∀ (n : Nat) (q : Sq), (rayP ok s n q).Nodup
  | 0, q => List.nodup_nil
  | n + 1, q => by
    unfold rayP
    split
    · refine List.nodup_cons.mpr ⟨fun h => ?_, rayP_nodup hs n _⟩
      obtain ⟨t, h1, h2, h3⟩ := mem_rayP.mp h
      rw [adv_adv] at h2
      have h2 : adv q s (1 + t) = q := h2.symm
      obtain ⟨u1, u2, u3⟩ := hs
      obtain ⟨x, y⟩ := s
      simp only [adv] at h2
      have e1 := congrArg Prod.fst h2
      have e2 := congrArg Prod.snd h2
      simp only [] at e1 e2 u1 u2
      have n1 : ¬ (x = 0 ∧ y = 0) := fun z => u3 (by rw [z.1, z.2])
      rcases u1 with rfl | rfl | rfl <;> rcases u2 with rfl | rfl | rfl <;> omega
    · exact List.nodup_nil
/-! ### the men -/
def straight : List Sq := [(-1, 0), (0, -1), (0, 1), (1, 0)]
def slanting : List Sq := [(-1, -1), (-1, 1), (1, -1), (1, 1)]
def jumps : List Sq := [(-2, -1), (-2, 1), (-1, -2), (-1, 2), (1, -2), (1, 2), (2, -1), (2, 1)]
inductive Kd where
  | K | Q | R | B | N
def Kd.s : Kd → Str
  | .K => "K" | .Q => "Q" | .R => "R" | .B => "B" | .N => "N"
def add (p s : Sq) : Sq := (p.1 + s.1, p.2 + s.2)
def leapL (ok : Sq → Bool) (p : Sq) (ss : List Sq) : List Sq := (ss.map (add p)).filter ok
def rayL (ok : Sq → Bool) (p : Sq) (ss : List Sq) : List Sq := ss.flatMap (ray ok p)
/-- what a man reaches, in the order in which it is found -/
def foundL (ok : Sq → Bool) (k : Kd) (p : Sq) : List Sq := match k with
  | .K => leapL ok p (straight ++ slanting)
  | .N => leapL ok p jumps
  | .R => rayL ok p straight
  | .B => rayL ok p slanting
  | .Q => rayL ok p (straight ++ slanting)
/-- the steps of a man -/
def steps : Kd → List Sq
  | .K => straight ++ slanting
  | .N => jumps
  | .R => straight
  | .B => slanting
  | .Q => straight ++ slanting
def Kd.leaps : Kd → Bool
  | .K => true
  | .N => true
  | _ => false
theorem found_eq (ok : Sq → Bool) (k : Kd) (p : Sq) : foundL ok k p = if k.leaps = true then leapL ok p (steps k) else rayL ok p (steps k) := by cases k <;> rfl
theorem steps_neg (k : Kd) : ∀ s ∈ steps k, neg s ∈ steps k := by cases k <;> decide
theorem steps_nd (k : Kd) : (steps k).Nodup := by cases k <;> decide
theorem steps_ne (k : Kd) : ∀ s ∈ steps k, s ≠ (0, 0) := by cases k <;> decide
theorem unit_of (k : Kd) (h : k.leaps = false) : ∀ s ∈ steps k, unitS s := by
  cases k <;> first
    | (cases h; done)
    | (unfold unitS; decide)
theorem add_neg (p s : Sq) : add (add p s) (neg s) = p := by
  unfold add neg
  exact Prod.ext (by simp; omega) (by simp; omega)
theorem found_ok {ok : Sq → Bool} {k : Kd} {p x : Sq} (h : x ∈ foundL ok k p) : ok x = true := by
  rw [found_eq] at h
  split at h
  · exact (List.mem_filter.mp h).2
  · obtain ⟨s, _, h⟩ := List.mem_flatMap.mp h
    exact ray_ok_mem h
theorem found_sym {ok : Sq → Bool} {k : Kd} {p x : Sq} (hp : ok p = true) (h : x ∈ foundL ok k p) : p ∈ foundL ok k x := by
  rw [found_eq] at h ⊢
  split at h
  · rename_i hk
    rw [if_pos hk]
    obtain ⟨h1, h2⟩ := List.mem_filter.mp h
    obtain ⟨s, hs, rfl⟩ := List.mem_map.mp h1
    exact List.mem_filter.mpr ⟨List.mem_map.mpr ⟨neg s, steps_neg k s hs, add_neg p s⟩, hp⟩
  · rename_i hk
    rw [if_neg hk]
    obtain ⟨s, hs, h⟩ := List.mem_flatMap.mp h
    exact List.mem_flatMap.mpr ⟨neg s, steps_neg k s hs, ray_sym hp h⟩
theorem found_irr {ok : Sq → Bool} {k : Kd} {p : Sq} : p ∉ foundL ok k p := by
  intro h
  rw [found_eq] at h
  split at h
  · obtain ⟨s, hs, e⟩ := List.mem_map.mp (List.mem_filter.mp h).1
    apply steps_ne k s hs
    have e1 := congrArg Prod.fst e
    have e2 := congrArg Prod.snd e
    simp only [add] at e1 e2
    exact Prod.ext (by show s.1 = 0; omega) (by show s.2 = 0; omega)
  · rename_i hk
    obtain ⟨s, hs, h⟩ := List.mem_flatMap.mp h
    obtain ⟨t, h1, h2, h3⟩ := mem_ray.mp h
    have hs := unit_of k (by simpa using hk) s hs
    obtain ⟨u1, u2, u3⟩ := hs
    obtain ⟨x, y⟩ := s
    simp only [adv] at h2
    have e1 := congrArg Prod.fst h2
    have e2 := congrArg Prod.snd h2
    simp only [] at e1 e2 u1 u2
    have n1 : ¬ (x = 0 ∧ y = 0) := fun z => u3 (by rw [z.1, z.2])
    rcases u1 with rfl | rfl | rfl <;> rcases u2 with rfl | rfl | rfl <;> omega
theorem nodup_flat {α β : Type} {f : α → List β} : ∀ {l : List α}, l.Nodup → (∀ a ∈ l, (f a).Nodup) → (∀ a ∈ l, ∀ b ∈ l, ∀ x, x ∈ f a → x ∈ f b → a = b) → (l.flatMap f).Nodup
  | [], _, _, _ => List.nodup_nil
  | a :: l, h, h1, h2 => by
    obtain ⟨k1, k2⟩ := List.nodup_cons.mp h
    rw [List.flatMap_cons]
    refine List.nodup_append.mpr ⟨h1 a (by simp), nodup_flat k2 (fun b hb => h1 b (by simp [hb])) (fun b hb c hc x => h2 b (by simp [hb]) c (by simp [hc]) x), fun x hx y hy e => ?_⟩
    subst e
    obtain ⟨b, hb, hx2⟩ := List.mem_flatMap.mp hy
    have := h2 a (by simp) b (by simp [hb]) x hx hx2
    exact k1 (this ▸ hb)
theorem found_nd {ok : Sq → Bool} {k : Kd} {p : Sq} : (foundL ok k p).Nodup := by
  rw [found_eq]
  split
  · refine List.Pairwise.filter _ ?_
    refine List.pairwise_map.mpr ((steps_nd k).imp fun {a b} hab e => hab ?_)
    have e1 := congrArg Prod.fst e
    have e2 := congrArg Prod.snd e
    simp only [add] at e1 e2
    exact Prod.ext (by omega) (by omega)
  · rename_i hk
    have hk : k.leaps = false := by simpa using hk
    refine nodup_flat (steps_nd k) (fun s hs => rayP_nodup (unit_of k hk s hs) _ _) fun s hs s' hs' x h1 h2 => ?_
    obtain ⟨t, _, e1, _⟩ := mem_ray.mp h1
    obtain ⟨t', _, e2, _⟩ := mem_ray.mp h2
    exact (adv_eq (unit_of k hk s hs) (unit_of k hk s' hs') (by omega) (by omega) (e1.symm.trans e2)).1
end Gu
/-! I: halls: the functions on them. -/
namespace Gu
open PySem Mt
def hallD (w h : Int) (bars : List Sq) : D := .tuple [.int w, .int h, encL bars]
def ktP (s : Sq) : D := kt [.int s.1, .int s.2]
def ktL (l : List Sq) : D := kt (l.map ktP)
@[simp] theorem idx_t2 (a b c : D) (r : List D) : idxD (.tuple (a :: b :: c :: r)) (.int 2) = .ok c := idx_tn (i := 2) (a :: b :: c :: r) rfl
@[simp] theorem uk_P (p : Sq) : unk (encP p) = encP p := (rfl)
@[simp] theorem uk_H (w h : Int) (bars : List Sq) : unk (hallD w h bars) = hallD w h bars := (rfl)
@[simp] theorem uk_kP (s : Sq) : unk (ktP s) = .tuple [.int s.1, .int s.2] := (rfl)
@[simp] theorem uk_kL (l : List Sq) : unk (ktL l) = .tuple (l.map ktP) := (rfl)
@[simp] theorem h_0 (w h : Int) (bars : List Sq) : idxD (hallD w h bars) (.int 0) = .ok (.int w) := idx_t0 _ _
@[simp] theorem h_1 (w h : Int) (bars : List Sq) : idxD (hallD w h bars) (.int 1) = .ok (.int h) := idx_t1 _ _ _
@[simp] theorem h_2 (w h : Int) (bars : List Sq) : idxD (hallD w h bars) (.int 2) = .ok (encL bars) := idx_t2 _ _ _ _
@[simp] theorem p_0 (p : Sq) : idxD (encP p) (.int 0) = .ok (.int p.1) := idx_t0 _ _
@[simp] theorem p_1 (p : Sq) : idxD (encP p) (.int 1) = .ok (.int p.2) := idx_t1 _ _ _
theorem asg_k2 (a b : T) (s : Sq) (e : Sg) : asg (.tup 2 (.cons a (.cons b .nil))) (ktP s) e = (asg a (.int s.1) e).bind fun e1 => asg b (.int s.2) e1 := asg_t2 a b (.int s.1) (.int s.2) e
theorem adv_1 (q s : Sq) : adv q s 1 = add q s := by
  unfold adv add
  simp
/-! ### a plain sort -/
def insS (a : Sq) : List Sq → List Sq
  | [] => [a]
  | b :: M => if (!ltP b a) = true then a :: b :: M else b :: insS a M
def sortS : List Sq → List Sq
  | [] => []
  | a :: L => insS a (sortS L)
theorem insD_S (a : Sq) : ∀ M : List Sq, insD (encP a) (M.map encP) = (insS a M).map encP
  | [] => rfl
  | b :: M => by
    rw [List.map_cons]
    unfold insD insS
    rw [dataLt_P, insD_S a M]
    split <;> rfl
theorem sortD_S : ∀ L : List Sq, sortD (L.map encP) = (sortS L).map encP
  | [] => rfl
  | a :: L => by
    rw [List.map_cons]
    unfold sortD sortS
    rw [sortD_S L, insD_S]
theorem encP_inj {p q : Sq} (h : encP p = encP q) : p = q := by
  unfold encP at h
  injection h with h
  injection h with h1 h
  injection h with h2 _
  injection h1 with h1
  injection h2 with h2
  exact Prod.ext h1 h2
theorem map_encP_inj : ∀ {l m : List Sq}, l.map encP = m.map encP → l = m
  | [], [], _ => rfl
  | [], _ :: _, h => by cases h
  | _ :: _, [], h => by cases h
  | p :: l, q :: m, h => by
    rw [List.map_cons, List.map_cons] at h
    rw [encP_inj (List.cons.inj h).1, map_encP_inj (List.cons.inj h).2]
theorem sortS_ok {L : List Sq} (hn : L.Nodup) : AscS (sortS L) ∧ (∀ x, x ∈ sortS L ↔ x ∈ L) ∧ (sortS L).length = L.length := by
  obtain ⟨M, h1, h2, h3, h4⟩ := sortP L hn
  have e : sortS L = M := by
    rw [sortD_S] at h1
    exact map_encP_inj h1
  rw [e]
  exact ⟨h2, h3, h4⟩
theorem blt_sorted {L : List Sq} (h : L.length ≤ 16777216) : bltD .sorted [encL L] = .ok (encL (sortS L)) := by
  show sortA (L.map encP) = _
  unfold sortA
  have nt : (L.map encP).all tup1 = true := by
    rw [List.all_eq_true]
    intro x hx
    obtain ⟨a, _, rfl⟩ := List.mem_map.mp hx
    rfl
  rw [alkL_P, nt, fit_le (by simpa using h), sortD_S]
  rfl
/-- two ascending lists of the same squares -/
theorem asc_ext {A B : List Sq} (hA : AscS A) (hB : AscS B) (h : ∀ x, x ∈ A ↔ x ∈ B) : A = B := by
  have e1 := filter_sub B hA hB fun x hx => (h x).mpr hx
  have e2 : A.filter (fun x => decide (x ∈ B)) = A := List.filter_eq_self.mpr fun x hx => decide_eq_true ((h x).mp hx)
  rw [← e2, e1]
theorem asc_le {A B : List Sq} (hA : AscS A) (hB : AscS B) (h : ∀ x ∈ B, x ∈ A) : B.length ≤ A.length := by
  rw [← filter_sub B hA hB h]
  exact List.length_filter_le _ _
section
variable {fs : List Fn} {cs : List D} {W : Nat} {w h : Int} {bars : List Sq}
/-! ### is_square, ray -/
def isqB : S := (.seq (.ret (.and (.chn .le (.int 0) (.idx (.var 1) (.int 0)) .lt (.idx (.var 0) (.int 0))) (.one (.chn .le (.int 0) (.idx (.var 1) (.int 1)) .lt (.idx (.var 0) (.int 1)))))) .skip)
theorem isq_ok {j : Nat} (H : Has fs j 2 2 isqB) (k : Nat) (p : Sq) : callN fs cs W (k + 1) j [hallD w h bars, encP p] = .ok (.bool (onB w h p)) := by
  rw [H.run cs W k _ rfl]
  have body : evS cs (callN fs cs W k) W isqB [some (hallD w h bars), some (encP p)] = .rt (.bool (onB w h p)) := by
    unfold isqB onB
    by_cases a1 : 0 ≤ p.1 <;> by_cases a2 : p.1 < w <;> by_cases a3 : 0 ≤ p.2 <;> by_cases a4 : p.2 < h <;> simp [a1, a2, a3, a4]
  show (evS cs _ W isqB [some (hallD w h bars), some (encP p)]).end_ = _
  rw [body]
  rfl
def rayT (j0 : Nat) : E := (.and (.call j0 (.cons (.var 0) (.cons (.var 4) .nil))) (.one (.cmp .nin (.var 4) (.idx (.var 0) (.int 2)))))
def rayB1 : S := (.seq (.app 3 (.var 4)) (.seq (.set (.nm 4) (.tup (.cons (.bin .add (.idx (.var 4) (.int 0)) (.idx (.var 2) (.int 0))) (.cons (.bin .add (.idx (.var 4) (.int 1)) (.idx (.var 2) (.int 1))) .nil)))) .skip))
def rayB (j0 : Nat) : S := (.seq (.set (.nm 3) (.lst .nil)) (.seq (.set (.nm 4) (.tup (.cons (.bin .add (.idx (.var 1) (.int 0)) (.idx (.var 2) (.int 0))) (.cons (.bin .add (.idx (.var 1) (.int 1)) (.idx (.var 2) (.int 1))) .nil)))) (.seq (.while_ (rayT j0) rayB1) (.seq (.ret (.bor 3)) .skip))))
theorem okB_run {j0 : Nat} (H : Has fs j0 2 2 isqB) (k : Nat) {a b : E} {e : Sg} {q : Sq} (ha : evE cs (callN fs cs W (k + 1)) a e = .ok (hallD w h bars)) (hb : evE cs (callN fs cs W (k + 1)) b e = .ok (encP q)) :
    evE cs (callN fs cs W (k + 1)) (.and (.call j0 (.cons a (.cons b .nil))) (.one (.cmp .nin b (.idx a (.int 2))))) e = .ok (.bool (okB w h bars q)) := by
  have e1 := isq_ok (cs := cs) (W := W) (w := w) (h := h) (bars := bars) H k q
  have e2 := nin_P q bars
  unfold okB
  rw [ev_and, ev_call, ev_cons, ha]
  simp only [R.bind_ok, ev_cons, hb, ev_nil, unL_l, e1, trB]
  cases onB w h q with
  | true => simp only [if_true, ev_one, ev_cmp, hb, R.bind_ok, ev_idx, ha, ev_int, uk_H, h_2, uk_L, e2, Bool.true_and]
  | false => rfl
theorem ray_while {j0 : Nat} (H : Has fs j0 2 2 isqB) (k : Nat) (p s : Sq) : ∀ (n : Nat) (q : Sq) (F : List Sq), okB w h bars (adv q s n) = false → F.length + n ≤ 1000 →
    ∃ q', whileGo (fun e => (evE cs (callN fs cs W (k + 1)) (rayT j0) e).bind truthy) (fun e => evS cs (callN fs cs W (k + 1)) W rayB1 e) (n + 1) [some (hallD w h bars), some (encP p), some (ktP s), some (encL F), some (encP q)] = .nx [some (hallD w h bars), some (encP p), some (ktP s), some (encL (F ++ rayP (okB w h bars) s n q)), some (encP q')] := by
  have cond : ∀ (q : Sq) (F : List Sq), evE cs (callN fs cs W (k + 1)) (rayT j0) [some (hallD w h bars), some (encP p), some (ktP s), some (encL F), some (encP q)] = .ok (.bool (okB w h bars q)) := fun q F => okB_run H k rfl rfl
  intro n
  induction n with
  | zero =>
    intro q F hq hz
    rw [adv_0] at hq
    refine ⟨q, ?_⟩
    show ((evE cs _ (rayT j0) _).bind truthy).go _ _ = _
    rw [cond q F, hq]
    simp only [R.bind_ok, trB, R.go_ok, Bool.false_eq_true, if_false, rayP, List.append_nil]
  | succ n ih =>
    intro q F hq hz
    show ∃ q', ((evE cs _ (rayT j0) _).bind truthy).go _ _ = _
    cases hk : okB w h bars q with
    | false =>
      refine ⟨q, ?_⟩
      rw [cond q F, hk]
      simp only [R.bind_ok, trB, R.go_ok, Bool.false_eq_true, if_false, rayP, hk, List.append_nil]
    | true =>
      obtain ⟨q', h1⟩ := ih (adv q s 1) (F ++ [q]) (by rw [adv_adv, Nat.add_comm]; exact hq) (by simp; omega)
      refine ⟨q', ?_⟩
      have fl : fitL (F.length + 1) = true := fit_le (by omega)
      have b1 : evS cs (callN fs cs W (k + 1)) W rayB1 [some (hallD w h bars), some (encP p), some (ktP s), some (encL F), some (encP q)] = .nx [some (hallD w h bars), some (encP p), some (ktP s), some (encL (F ++ [q])), some (encP (adv q s 1))] := by
        rw [adv_1]
        unfold rayB1
        have f2 : fitL 2 = true := rfl
        refine seq_nx [some (hallD w h bars), some (encP p), some (ktP s), some (encL (F ++ [q])), some (encP q)] (by simp [encL, fl]) ?_
        refine seq_nx [some (hallD w h bars), some (encP p), some (ktP s), some (encL (F ++ [q])), some (encP (add q s))] (set_ok (d := encP (add q s)) (by simp [f2]; rfl)) ?_
        rfl
      rw [cond q F, hk]
      simp only [R.bind_ok, trB, R.go_ok, if_true, b1, O.seq_nx, mk_s, mk_0]
      rw [h1]
      simp only [rayP, hk, if_true, List.append_assoc, List.singleton_append]
theorem ray_run {j j0 : Nat} (H : Has fs j 3 5 (rayB j0)) (H0 : Has fs j0 2 2 isqB) (hW : W = 100) (k : Nat) {p s : Sq} (he : okB w h bars (adv (adv p s 1) s 99) = false) : callN fs cs W (k + 2) j [hallD w h bars, encP p, ktP s] = .ok (encL (ray (okB w h bars) p s)) := by
  obtain ⟨q', h1⟩ := ray_while (cs := cs) (W := W) H0 k p s 99 (adv p s 1) [] he (by simp)
  rw [H.run cs W (k + 1) _ rfl]
  have body : evS cs (callN fs cs W (k + 1)) W (rayB j0) [some (hallD w h bars), some (encP p), some (ktP s), none, none] = .rt (encL (ray (okB w h bars) p s)) := by
    refine seq_nx [some (hallD w h bars), some (encP p), some (ktP s), some (encL []), none] (set_ok (d := encL []) rfl) ?_
    refine seq_nx [some (hallD w h bars), some (encP p), some (ktP s), some (encL []), some (encP (adv p s 1))] (set_ok (d := encP (adv p s 1)) (by rw [adv_1]; have f2 : fitL 2 = true := rfl; simp [f2]; rfl)) ?_
    refine seq_nx [some (hallD w h bars), some (encP p), some (ktP s), some (encL (ray (okB w h bars) p s)), some (encP q')] ?_ ?_
    · rw [es_while]
      have : W = 99 + 1 := by omega
      exact (congrArg (fun n => whileGo _ _ n _) this).trans h1
    · rfl
  show (evS cs _ W (rayB j0) [some (hallD w h bars), some (encP p), some (ktP s), none, none]).end_ = _
  rw [body]
  rfl
theorem rayP_len {ok : Sq → Bool} {s : Sq} : ∀ (n : Nat) (q : Sq), (rayP ok s n q).length ≤ n
  | 0, q => Nat.le_refl _
  | n + 1, q => by
    unfold rayP
    split
    · have := rayP_len (ok := ok) (s := s) n (adv q s 1)
      simp
      exact this
    · simp
/-! ### reached_of -/
theorem for_gen {α : Type} {cs : List D} {cal : Nat → List D → R D} {W : Nat} {k : ItK} {src : E} {tg : T} {body : S} {e : Sg} (enc : α → D) (l : List α) (I : Nat → Sg → Prop) (h : ((evE cs cal src e).bind unL).bind (itD k) = .ok (l.map enc))
    (st : ∀ t a, l[t]? = some a → ∀ e, I t e → ∃ e0 e1, asg tg (enc a) e = .ok e0 ∧ evS cs cal W body e0 = .nx e1 ∧ I (t + 1) (mask e e1)) (h0 : I 0 e) : ∃ e', evS cs cal W (.for_ k src tg body) e = .nx e' ∧ I l.length e' := by
  rw [es_for, h, R.go_ok]
  have := forGo_ix (f := fun x e => (asg tg x e).go e fun e1 => evS cs cal W body e1) I (xs := l.map enc) (n := 0) (e := e) (fun t x hx e he => by
    rw [List.getElem?_map] at hx
    cases ha : l[t]? with
    | none => rw [ha] at hx; cases hx
    | some a =>
      rw [ha] at hx
      have ex : x = enc a := (Option.some.inj hx).symm
      subst ex
      rw [Nat.zero_add] at he ⊢
      obtain ⟨e0, e1, h0, h1, h2⟩ := st t a ha e he
      exact ⟨e1, by rw [h0, R.go_ok]; exact h1, h2⟩) h0
  simpa using this
def rchB3 (j0 : Nat) : S := (.seq (.set (.nm 7) (.tup (.cons (.bin .add (.idx (.var 2) (.int 0)) (.var 5)) (.cons (.bin .add (.idx (.var 2) (.int 1)) (.var 6)) .nil)))) (.seq (.ite (.and (.call j0 (.cons (.var 0) (.cons (.var 7) .nil))) (.one (.cmp .nin (.var 7) (.idx (.var 0) (.int 2))))) (.seq (.app 3 (.var 7)) .skip) .skip) .skip))
def rchB1 (j5 : Nat) : S := (.seq (.ext 3 (.call j5 (.cons (.var 0) (.cons (.var 2) (.cons (.var 4) .nil))))) .skip)
def rchB (j0 j5 cJ cS cL : Nat) : S := (.seq (.set (.nm 3) (.lst .nil))
  (.seq (.ite (.cmp .inn (.var 1) (.tup (.cons (.str "K") (.cons (.str "N") .nil)))) (.seq (.for_ .seq (.cons (.ite (.cmp .eq (.var 1) (.str "N")) (.glb cJ) (.bin .add (.glb cS) (.glb cL))) .nil) (.tup 2 (.cons (.nm 5) (.cons (.nm 6) .nil))) (rchB3 j0)) (.seq (.ret (.blt .sorted (.cons (.bor 3) .nil))) .skip)) .skip)
  (.seq (.ite (.cmp .inn (.var 1) (.tup (.cons (.str "Q") (.cons (.str "R") .nil)))) (.seq (.for_ .seq (.cons (.glb cS) .nil) (.nm 4) (rchB1 j5)) .skip) .skip)
  (.seq (.ite (.cmp .inn (.var 1) (.tup (.cons (.str "Q") (.cons (.str "B") .nil)))) (.seq (.for_ .seq (.cons (.glb cL) .nil) (.nm 4) (rchB1 j5)) .skip) .skip)
  (.seq (.ret (.blt .sorted (.cons (.bor 3) .nil))) .skip)))))
abbrev r8 (w h : Int) (bars : List Sq) (k : Kd) (p : Sq) (F : List Sq) (a b c d : Option D) : Sg := [some (hallD w h bars), some (.str k.s), some (encP p), some (encL F), a, b, c, d]
theorem leap_loop {j0 : Nat} (H0 : Has fs j0 2 2 isqB) (k : Nat) (kd : Kd) (p : Sq) {src : E} {ss : List Sq} (hz : ss.length ≤ 100) (hs : ((evE cs (callN fs cs W (k + 1)) src (r8 w h bars kd p [] none none none none)).bind unL).bind (itD .seq) = .ok (ss.map ktP)) :
    evS cs (callN fs cs W (k + 1)) W (.for_ .seq src (.tup 2 (.cons (.nm 5) (.cons (.nm 6) .nil))) (rchB3 j0)) (r8 w h bars kd p [] none none none none) = .nx (r8 w h bars kd p (leapL (okB w h bars) p ss) none none none none) := by
  obtain ⟨e', h1, he⟩ := for_gen (cs := cs) (cal := callN fs cs W (k + 1)) (W := W) (k := .seq) (src := src) (tg := .tup 2 (.cons (.nm 5) (.cons (.nm 6) .nil))) (body := rchB3 j0) (e := r8 w h bars kd p [] none none none none) ktP ss
    (fun t e => e = r8 w h bars kd p (leapL (okB w h bars) p (ss.take t)) none none none none) hs (fun t s hs e he => by
      subst he
      have tk : ss.take (t + 1) = ss.take t ++ [s] := by rw [List.take_succ, hs]; rfl
      have lp : leapL (okB w h bars) p (ss.take (t + 1)) = leapL (okB w h bars) p (ss.take t) ++ if okB w h bars (add p s) = true then [add p s] else [] := by
        rw [tk]
        unfold leapL
        rw [List.map_append, List.filter_append, List.map_singleton]
        simp [List.filter_cons]
      have ll : (leapL (okB w h bars) p (ss.take t)).length ≤ 100 := by
        unfold leapL
        refine Nat.le_trans (List.length_filter_le _ _) ?_
        rw [List.length_map, List.length_take]
        omega
      rw [lp]
      generalize leapL (okB w h bars) p (ss.take t) = F at ll
      refine ⟨r8 w h bars kd p F none (some (.int s.1)) (some (.int s.2)) none, r8 w h bars kd p (F ++ if okB w h bars (add p s) = true then [add p s] else []) none (some (.int s.1)) (some (.int s.2)) (some (encP (add p s))), ?_, ?_, rfl⟩
      · rw [asg_k2]
        simp
      · have c := okB_run (cs := cs) (W := W) (w := w) (h := h) (bars := bars) (a := .var 0) (b := .var 7) (e := r8 w h bars kd p F none (some (.int s.1)) (some (.int s.2)) (some (encP (add p s)))) H0 k (q := add p s) rfl rfl
        unfold rchB3
        refine seq_nx (r8 w h bars kd p F none (some (.int s.1)) (some (.int s.2)) (some (encP (add p s)))) (set_ok (d := encP (add p s)) (by have f2 : fitL 2 = true := rfl; simp [f2]; rfl)) ?_
        rw [es_seq, es_ite, c, R.go_ok, trB, R.go_ok]
        have fl : fitL (F.length + 1) = true := fit_le (by omega)
        cases okB w h bars (add p s) with
        | true => simp [encL, fl]
        | false => simp) (by simp [leapL])
  rw [List.take_length] at he
  subst he
  exact h1
theorem ray_loop {j5 j0 : Nat} (H5 : Has fs j5 3 5 (rayB j0)) (H0 : Has fs j0 2 2 isqB) (hW : W = 100) (k : Nat) (kd : Kd) (p : Sq) (F : List Sq) {src : E} {ss : List Sq} (hz : ss.length ≤ 100) (hF : F.length ≤ 10000) (hs : ((evE cs (callN fs cs W (k + 2)) src (r8 w h bars kd p F none none none none)).bind unL).bind (itD .seq) = .ok (ss.map ktP))
    (hend : ∀ s ∈ ss, okB w h bars (adv (adv p s 1) s 99) = false) :
    evS cs (callN fs cs W (k + 2)) W (.for_ .seq src (.nm 4) (rchB1 j5)) (r8 w h bars kd p F none none none none) = .nx (r8 w h bars kd p (F ++ rayL (okB w h bars) p ss) none none none none) := by
  obtain ⟨e', h1, hl, he⟩ := for_map (cs := cs) (cal := callN fs cs W (k + 2)) (W := W) (k := .seq) (src := src) (i := 4) (body := rchB1 j5) (e := r8 w h bars kd p F none none none none) ktP ss
    (fun t e => (rayL (okB w h bars) p (ss.take t)).length ≤ 99 * t ∧ e = r8 w h bars kd p (F ++ rayL (okB w h bars) p (ss.take t)) none none none none) hs (fun t s hs e he => by
      obtain ⟨hl, rfl⟩ := he
      obtain ⟨ht, hs'⟩ := List.getElem?_eq_some_iff.mp hs
      have tk : ss.take (t + 1) = ss.take t ++ [s] := by rw [List.take_succ, hs]; rfl
      have lp : rayL (okB w h bars) p (ss.take (t + 1)) = rayL (okB w h bars) p (ss.take t) ++ ray (okB w h bars) p s := by
        rw [tk]
        unfold rayL
        rw [List.flatMap_append]
        simp
      have rl : (ray (okB w h bars) p s).length ≤ 99 := rayP_len _ _
      have er := ray_run (cs := cs) (W := W) (w := w) (h := h) (bars := bars) H5 H0 hW k (p := p) (s := s) (hend s (hs' ▸ List.getElem_mem ht))
      rw [lp]
      generalize rayL (okB w h bars) p (ss.take t) = L at hl
      have fl : fitL (F.length + (L.length + (ray (okB w h bars) p s).length)) = true := fit_le (by omega)
      have fl2 : fitL (F.length + L.length + (ray (okB w h bars) p s).length) = true := fit_le (by omega)
      refine ⟨r8 w h bars kd p (F ++ (L ++ ray (okB w h bars) p s)) (some (ktP s)) none none none, ?_, by simp; omega, rfl⟩
      show evS cs _ W (rchB1 j5) (r8 w h bars kd p (F ++ L) (some (ktP s)) none none none) = _
      unfold rchB1
      simp [er, encL, fl, fl2]) ⟨by simp [rayL], by simp [rayL]⟩
  rw [List.take_length] at he
  subst he
  exact h1
theorem rch_ok {j j0 j5 cJ cS cL : Nat} (H : Has fs j 3 8 (rchB j0 j5 cJ cS cL)) (H0 : Has fs j0 2 2 isqB) (H5 : Has fs j5 3 5 (rayB j0)) (hW : W = 100) (hJ : cs[cJ]? = some (ktL jumps)) (hS : cs[cS]? = some (ktL straight)) (hL : cs[cL]? = some (ktL slanting)) (k : Nat) (kd : Kd) {p : Sq}
    (hend : ∀ s ∈ straight ++ slanting, okB w h bars (adv (adv p s 1) s 99) = false) : callN fs cs W (k + 3) j [hallD w h bars, .str kd.s, encP p] = .ok (encL (sortS (foundL (okB w h bars) kd p))) := by
  have gJ : ∀ e, evE cs (callN fs cs W (k + 2)) (.glb cJ) e = .ok (ktL jumps) := fun e => by rw [ev_glb, hJ]
  have gS : ∀ e, evE cs (callN fs cs W (k + 2)) (.glb cS) e = .ok (ktL straight) := fun e => by rw [ev_glb, hS]
  have gL : ∀ e, evE cs (callN fs cs W (k + 2)) (.glb cL) e = .ok (ktL slanting) := fun e => by rw [ev_glb, hL]
  rw [H.run cs W (k + 2) _ rfl]
  have lens : ∀ k : Kd, (foundL (okB w h bars) k p).length ≤ 100000 := fun k => by
    have rl : ∀ ss : List Sq, (rayL (okB w h bars) p ss).length ≤ 99 * ss.length := fun ss => by
      induction ss with
      | nil => simp [rayL]
      | cons s ss ih =>
        have : (ray (okB w h bars) p s).length ≤ 99 := rayP_len _ _
        unfold rayL at ih ⊢
        rw [List.flatMap_cons, List.length_append, List.length_cons]
        omega
    have ll : ∀ ss : List Sq, (leapL (okB w h bars) p ss).length ≤ ss.length := fun ss => by
      unfold leapL
      refine Nat.le_trans (List.length_filter_le _ _) ?_
      rw [List.length_map]
      exact Nat.le_refl _
    cases k
    · exact Nat.le_trans (ll _) (by decide)
    · exact Nat.le_trans (rl _) (by decide)
    · exact Nat.le_trans (rl _) (by decide)
    · exact Nat.le_trans (rl _) (by decide)
    · exact Nat.le_trans (ll _) (by decide)
  have fin : ∀ F : List Sq, F.length ≤ 100000 → evS cs (callN fs cs W (k + 2)) W (.seq (.ret (.blt .sorted (.cons (.bor 3) .nil))) .skip) (r8 w h bars kd p F none none none none) = .rt (encL (sortS F)) := fun F hF => by
    have := blt_sorted (L := F) (by omega)
    simp [r8, this]
  have strt : evS cs (callN fs cs W (k + 2)) W (.set (.nm 3) (.lst .nil)) [some (hallD w h bars), some (.str kd.s), some (encP p), none, none, none, none, none] = .nx (r8 w h bars kd p [] none none none none) := rfl
  have s1 : ∀ F, straight.length ≤ 100 ∧ ((evE cs (callN fs cs W (k + 2)) (.cons (.glb cS) .nil) (r8 w h bars kd p F none none none none)).bind unL).bind (itD .seq) = .ok (straight.map ktP) := fun F => ⟨by decide, by simp only [ev_cons, gS, ev_nil, R.bind_ok, unL_l]; rfl⟩
  have s2 : ∀ F, slanting.length ≤ 100 ∧ ((evE cs (callN fs cs W (k + 2)) (.cons (.glb cL) .nil) (r8 w h bars kd p F none none none none)).bind unL).bind (itD .seq) = .ok (slanting.map ktP) := fun F => ⟨by decide, by simp only [ev_cons, gL, ev_nil, R.bind_ok, unL_l]; rfl⟩
  have body : evS cs (callN fs cs W (k + 2)) W (rchB j0 j5 cJ cS cL) [some (hallD w h bars), some (.str kd.s), some (encP p), none, none, none, none, none] = .rt (encL (sortS (foundL (okB w h bars) kd p))) := by
    refine seq_nx _ strt ?_
    have ends1 : ∀ s ∈ straight, okB w h bars (adv (adv p s 1) s 99) = false := fun s hs => hend s (List.mem_append.mpr (.inl hs))
    have ends2 : ∀ s ∈ slanting, okB w h bars (adv (adv p s 1) s 99) = false := fun s hs => hend s (List.mem_append.mpr (.inr hs))
    cases kd with
    | K =>
      have lp := leap_loop (cs := cs) (W := W) (w := w) (h := h) (bars := bars) H0 (k + 1) .K p (src := .cons (.ite (.cmp .eq (.var 1) (.str "N")) (.glb cJ) (.bin .add (.glb cS) (.glb cL))) .nil) (ss := straight ++ slanting) (by decide) (by
        have cf : evE cs (callN fs cs W (k + 2)) (.cmp .eq (.var 1) (.str "N")) (r8 w h bars .K p [] none none none none) = .ok (.bool false) := by kernel_rfl
        have cf : evE cs (callN fs cs W (k + 1 + 1)) (.cmp .eq (.var 1) (.str "N")) (r8 w h bars .K p [] none none none none) = .ok (.bool false) := cf
        rw [ev_cons, ev_ite, cf]
        simp only [R.bind_ok, trB, Bool.false_eq_true, if_false, ev_bin, gS, gL, uk_kL, ev_nil, unL_l]
        rfl)
      have ct : evE cs (callN fs cs W (k + 2)) (.cmp .inn (.var 1) (.tup (.cons (.str "K") (.cons (.str "N") .nil)))) (r8 w h bars .K p [] none none none none) = .ok (.bool true) := by kernel_rfl
      have fn : evS cs (callN fs cs W (k + 2)) W (.seq (.ret (.blt .sorted (.cons (.bor 3) .nil))) .skip) (r8 w h bars .K p (leapL (okB w h bars) p (straight ++ slanting)) none none none none) = .rt (encL (sortS (foundL (okB w h bars) .K p))) := fin (foundL (okB w h bars) .K p) (lens .K)
      rw [es_seq, es_ite, ct, R.go_ok, trB, R.go_ok, if_pos rfl, es_seq, lp, O.seq_nx, fn]
      rfl
    | N =>
      have lp := leap_loop (cs := cs) (W := W) (w := w) (h := h) (bars := bars) H0 (k + 1) .N p (src := .cons (.ite (.cmp .eq (.var 1) (.str "N")) (.glb cJ) (.bin .add (.glb cS) (.glb cL))) .nil) (ss := jumps) (by decide) (by
        have cf : evE cs (callN fs cs W (k + 1 + 1)) (.cmp .eq (.var 1) (.str "N")) (r8 w h bars .N p [] none none none none) = .ok (.bool true) := by kernel_rfl
        rw [ev_cons, ev_ite, cf]
        simp only [R.bind_ok, trB, if_true, gJ, ev_nil, unL_l]
        rfl)
      have ct : evE cs (callN fs cs W (k + 2)) (.cmp .inn (.var 1) (.tup (.cons (.str "K") (.cons (.str "N") .nil)))) (r8 w h bars .N p [] none none none none) = .ok (.bool true) := by kernel_rfl
      have fn : evS cs (callN fs cs W (k + 2)) W (.seq (.ret (.blt .sorted (.cons (.bor 3) .nil))) .skip) (r8 w h bars .N p (leapL (okB w h bars) p jumps) none none none none) = .rt (encL (sortS (foundL (okB w h bars) .N p))) := fin (foundL (okB w h bars) .N p) (lens .N)
      rw [es_seq, es_ite, ct, R.go_ok, trB, R.go_ok, if_pos rfl, es_seq, lp, O.seq_nx, fn]
      rfl
    | R =>
      have c1 : evE cs (callN fs cs W (k + 2)) (.cmp .inn (.var 1) (.tup (.cons (.str "K") (.cons (.str "N") .nil)))) (r8 w h bars .R p [] none none none none) = .ok (.bool false) := by kernel_rfl
      have c2 : evE cs (callN fs cs W (k + 2)) (.cmp .inn (.var 1) (.tup (.cons (.str "Q") (.cons (.str "R") .nil)))) (r8 w h bars .R p [] none none none none) = .ok (.bool true) := by kernel_rfl
      have c3 : ∀ F, evE cs (callN fs cs W (k + 2)) (.cmp .inn (.var 1) (.tup (.cons (.str "Q") (.cons (.str "B") .nil)))) (r8 w h bars .R p F none none none none) = .ok (.bool false) := fun F => by kernel_rfl
      have lp := ray_loop (cs := cs) (W := W) (w := w) (h := h) (bars := bars) H5 H0 hW k .R p [] (s1 []).1 (by simp) (s1 []).2 ends1
      rw [List.nil_append] at lp
      rw [es_seq, es_ite, c1, R.go_ok, trB, R.go_ok, if_neg (by decide), es_skip, O.seq_nx, es_seq, es_ite, c2, R.go_ok, trB, R.go_ok, if_pos rfl, es_seq, lp, O.seq_nx, es_skip, O.seq_nx, es_seq, es_ite, c3, R.go_ok, trB, R.go_ok, if_neg (by decide), es_skip, O.seq_nx]
      exact fin _ (lens .R)
    | B =>
      have c1 : evE cs (callN fs cs W (k + 2)) (.cmp .inn (.var 1) (.tup (.cons (.str "K") (.cons (.str "N") .nil)))) (r8 w h bars .B p [] none none none none) = .ok (.bool false) := by kernel_rfl
      have c2 : evE cs (callN fs cs W (k + 2)) (.cmp .inn (.var 1) (.tup (.cons (.str "Q") (.cons (.str "R") .nil)))) (r8 w h bars .B p [] none none none none) = .ok (.bool false) := by kernel_rfl
      have c3 : ∀ F, evE cs (callN fs cs W (k + 2)) (.cmp .inn (.var 1) (.tup (.cons (.str "Q") (.cons (.str "B") .nil)))) (r8 w h bars .B p F none none none none) = .ok (.bool true) := fun F => by kernel_rfl
      have lp := ray_loop (cs := cs) (W := W) (w := w) (h := h) (bars := bars) H5 H0 hW k .B p [] (s2 []).1 (by simp) (s2 []).2 ends2
      rw [List.nil_append] at lp
      rw [es_seq, es_ite, c1, R.go_ok, trB, R.go_ok, if_neg (by decide), es_skip, O.seq_nx, es_seq, es_ite, c2, R.go_ok, trB, R.go_ok, if_neg (by decide), es_skip, O.seq_nx, es_seq, es_ite, c3, R.go_ok, trB, R.go_ok, if_pos rfl, es_seq, lp, O.seq_nx, es_skip, O.seq_nx]
      exact fin _ (lens .B)
    | Q =>
      have c1 : evE cs (callN fs cs W (k + 2)) (.cmp .inn (.var 1) (.tup (.cons (.str "K") (.cons (.str "N") .nil)))) (r8 w h bars .Q p [] none none none none) = .ok (.bool false) := by kernel_rfl
      have c2 : evE cs (callN fs cs W (k + 2)) (.cmp .inn (.var 1) (.tup (.cons (.str "Q") (.cons (.str "R") .nil)))) (r8 w h bars .Q p [] none none none none) = .ok (.bool true) := by kernel_rfl
      have c3 : ∀ F, evE cs (callN fs cs W (k + 2)) (.cmp .inn (.var 1) (.tup (.cons (.str "Q") (.cons (.str "B") .nil)))) (r8 w h bars .Q p F none none none none) = .ok (.bool true) := fun F => by kernel_rfl
      have lp := ray_loop (cs := cs) (W := W) (w := w) (h := h) (bars := bars) H5 H0 hW k .Q p [] (s1 []).1 (by simp) (s1 []).2 ends1
      rw [List.nil_append] at lp
      have hl1 : (rayL (okB w h bars) p straight).length ≤ 10000 := by
        have : ∀ ss : List Sq, (rayL (okB w h bars) p ss).length ≤ 99 * ss.length := fun ss => by
          induction ss with
          | nil => simp [rayL]
          | cons s ss ih =>
            have : (ray (okB w h bars) p s).length ≤ 99 := rayP_len _ _
            unfold rayL at ih ⊢
            rw [List.flatMap_cons, List.length_append, List.length_cons]
            omega
        exact Nat.le_trans (this _) (by decide)
      have lp2 := ray_loop (cs := cs) (W := W) (w := w) (h := h) (bars := bars) H5 H0 hW k .Q p (rayL (okB w h bars) p straight) (s2 []).1 hl1 (s2 _).2 ends2
      have fe : rayL (okB w h bars) p straight ++ rayL (okB w h bars) p slanting = foundL (okB w h bars) .Q p := (List.flatMap_append ..).symm
      rw [es_seq, es_ite, c1, R.go_ok, trB, R.go_ok, if_neg (by decide), es_skip, O.seq_nx, es_seq, es_ite, c2, R.go_ok, trB, R.go_ok, if_pos rfl, es_seq, lp, O.seq_nx, es_skip, O.seq_nx, es_seq, es_ite, c3, R.go_ok, trB, R.go_ok, if_pos rfl, es_seq, lp2, O.seq_nx, es_skip, O.seq_nx, fe]
      exact fin _ (lens .Q)
  show (evS cs _ W (rchB j0 j5 cJ cS cL) [some (hallD w h bars), some (.str kd.s), some (encP p), none, none, none, none, none]).end_ = _
  rw [body]
  rfl
end
end Gu
/-! Dicts whose keys are squares, of numbers. -/
namespace Gu
open PySem Mt
def kP (p : Sq) : List L2.Key := [.inl p.1, .inl p.2]
abbrev SM := List (Sq × Int)
def rowM (m : SM) : List (List L2.Key × D) := m.map fun p => (kP p.1, PyData.int p.2)
def encM (m : SM) : List (D × D) := encT (rowM m)
def dcM (m : SM) : D := .dict (encM m)
def keys (m : SM) : List Sq := m.map (·.1)
def at_ (m : SM) (s : Sq) : Option Int := (m.find? fun p => decide (p.1 = s)).map (·.2)
theorem kP_inj {a b : Sq} (h : kP a = kP b) : a = b := by
  unfold kP at h
  simp only [List.cons.injEq, Sum.inl.injEq, and_true] at h
  exact Prod.ext h.1 h.2
theorem keyT_P (s : Sq) : keyT (encP s) = some (kP s) := rfl
theorem kT_P (s : Sq) : kT (kP s) = encP s := rfl
theorem dec_M (m : SM) : decG keyT (encM m) = some (rowM m) := decG_enc keyT_kT _
theorem get_M (m : SM) (s : Sq) : getG (rowM m) (kP s) = (at_ m s).map PyData.int := by
  unfold getG at_ rowM
  induction m with
  | nil => rfl
  | cons p m ih =>
    rw [List.map_cons, List.find?_cons, List.find?_cons]
    by_cases e : p.1 = s
    · subst e
      simp
    · have e2 : ¬(kP p.1 = kP s) := fun z => e (kP_inj z)
      simp only [e, e2, decide_false]
      exact ih
theorem at_none {m : SM} {s : Sq} : at_ m s = none ↔ s ∉ keys m := by
  unfold at_ keys
  rw [Option.map_eq_none_iff, List.find?_eq_none]
  simp only [decide_eq_true_eq, List.mem_map, not_exists, not_and]
theorem at_some {m : SM} {s : Sq} (h : s ∈ keys m) : ∃ v, at_ m s = some v := by
  cases e : at_ m s with
  | some v => exact ⟨v, rfl⟩
  | none => exact absurd h (at_none.mp e)
theorem look_M (m : SM) (s : Sq) : lookD (encM m) (encP s) = .ok ((at_ m s).map PyData.int) := by
  unfold lookD
  rw [keyT_P]
  dsimp only
  rw [dec_M]
  dsimp only
  rw [get_M]
theorem nin_M (m : SM) (s : Sq) : cmpD .nin (encP s) (dcM m) = .ok (!decide (s ∈ keys m)) := by
  show (lookD (encM m) (encP s)).bind (fun o => .ok (!o.isSome)) = _
  rw [look_M, R.bind_ok]
  by_cases h : s ∈ keys m
  · obtain ⟨v, e⟩ := at_some h
    rw [e]
    simp [h]
  · rw [at_none.mpr h]
    simp [h]
theorem idx_M {m : SM} {s : Sq} (h : s ∈ keys m) : ∃ v, idxD (dcM m) (encP s) = .ok (.int v) := by
  obtain ⟨v, e⟩ := at_some h
  refine ⟨v, ?_⟩
  show (lookD (encM m) (encP s)).bind _ = _
  rw [look_M, e]
  rfl
theorem put_M {m : SM} {s : Sq} (v : Int) (h : s ∉ keys m) (hz : m.length ≤ 1000) : putD (encM m) (encP s) (.int v) = .ok (dcM (m ++ [(s, v)])) := by
  unfold putD
  rw [keyT_P]
  dsimp only
  rw [dec_M]
  dsimp only
  have hl : (rowM m).length = m.length := by unfold rowM; simp
  have fit : fitL ((rowM m).length + 1) = true := decide_eq_true (by omega)
  rw [fit]
  have no : ((rowM m).any fun kv => decide (kv.1 = kP s)) = false := by
    rw [Bool.eq_false_iff]
    intro z
    obtain ⟨q, hq, e⟩ := List.any_eq_true.mp z
    unfold rowM at hq
    obtain ⟨p, hp, rfl⟩ := List.mem_map.mp hq
    have e := kP_inj (of_decide_eq_true e)
    exact h (List.mem_map.mpr ⟨p, hp, e⟩)
  have e : putG (rowM m) (kP s) (PyData.int v) = rowM (m ++ [(s, v)]) := by
    unfold putG
    rw [no]
    unfold rowM
    simp
  rw [e]
  rfl
theorem keysD_M (m : SM) : keysD (dcM m) = .ok ((keys m).map encP) := by
  unfold keysD dcM
  dsimp only
  rw [dec_M]
  dsimp only
  unfold rowM keys
  rw [List.map_map, List.map_map]
  rfl
theorem keys_app (m : SM) (s : Sq) (v : Int) : keys (m ++ [(s, v)]) = keys m ++ [s] := by unfold keys; simp
theorem keys_len (m : SM) : (keys m).length = m.length := by unfold keys; simp
theorem sorted_M {m : SM} (hn : (keys m).Nodup) (hz : m.length ≤ 1000) : ∃ M : List Sq, bltD .sorted [dcM m] = .ok (encL M) ∧ (∀ x, x ∈ M ↔ x ∈ keys m) ∧ M.Nodup ∧ M.length = m.length := by
  obtain ⟨M, h1, h2, h3, h4⟩ := sorted_P (keys m) hn (by rw [keys_len]; omega)
  refine ⟨M, ?_, h3, ?_, h4.trans (keys_len m)⟩
  · show sortDT (encM m) = _
    unfold sortDT
    rw [dec_M]
    dsimp only
    have e : ((rowM m).map fun p => kT p.1) = (keys m).map encP := by
      unfold rowM keys
      rw [List.map_map, List.map_map]
      rfl
    rw [e]
    exact h1
  · exact h2.nodup
/-- {one: m[one] for one in l} -/
theorem dcGo_M {F : D → R (Option (List L2.Key × D))} : ∀ {l : List Sq} {m : SM}, (∀ s ∈ l, ∃ v : Int, F (encP s) = .ok (some (kP s, .int v))) → (keys m ++ l).Nodup → ∃ m' : SM, dcGo F (l.map encP) (rowM m) = .ok (rowM m') ∧ keys m' = keys m ++ l
  | [], m, _, _ => ⟨m, rfl, by simp⟩
  | s :: l, m, h, hn => by
    obtain ⟨v, e⟩ := h s (by simp)
    have hs : s ∉ keys m := fun z => by
      have := List.nodup_append.mp hn
      exact this.2.2 s z s (by simp) rfl
    have no : ((rowM m).any fun kv => decide (kv.1 = kP s)) = false := by
      rw [Bool.eq_false_iff]
      intro z
      obtain ⟨q, hq, e⟩ := List.any_eq_true.mp z
      unfold rowM at hq
      obtain ⟨p, hp, rfl⟩ := List.mem_map.mp hq
      exact hs (List.mem_map.mpr ⟨p, hp, kP_inj (of_decide_eq_true e)⟩)
    have e2 : putO (rowM m) (some (kP s, .int v)) = rowM (m ++ [(s, v)]) := by
      show putG (rowM m) (kP s) (.int v) = _
      unfold putG
      rw [no]
      unfold rowM
      simp
    obtain ⟨m', e3, e4⟩ := dcGo_M (l := l) (m := m ++ [(s, v)]) (fun t ht => h t (by simp [ht])) (by rw [keys_app]; simpa using hn)
    refine ⟨m', ?_, by rw [e4, keys_app]; simp⟩
    rw [List.map_cons]
    show (F (encP s)).bind _ = _
    rw [e, R.bind_ok, e2]
    exact e3
end Gu
/-! k42: the faults, what the law draws from; where a fault is due, it is told. -/
namespace L42
open PySem Mt
abbrev csv : List D := cs.map (·.2)
abbrev C (k : Nat) : Nat → List D → R D := callN fs csv 100 k
abbrev Ft := Option (Str × Int)
def Ft.or (a b : Ft) : Ft := match a with
  | none => b
  | some p => some p
def eFt : Ft → D
  | none => .none
  | some p => .tuple [.str p.1, .int p.2]
abbrev II := Int × Int
def eP (p : II) : D := .tuple [.int p.1, .int p.2]
def rl : List II := prod [1, 4, 12, 0, 13, -1] [1, 3, 5, 0, 13]
def ll : List II := [(1, 2), (0, 1), (8, 8), (2, 1), (0, 0), (1, 9), (-1, 2), (0, -1)]
def sl : List II := [(0, 0), (0, 0), (0, 12), (-1, 0), (13, 0)]
def inS (i : Int) : Bool := decide (1 ≤ i) && decide (i ≤ 12)
def dueR (p : II) : Ft := if inS p.1 = true then (if inS p.2 = true then none else some ("side", p.2)) else some ("side", p.1)
def lame (q : II) : Ft := if (decide (0 ≤ q.1) && decide (q.1 ≤ q.2) && decide (q.2 ≤ 8) && decide (0 < q.2)) = true then none else some ("leaper", 0)
def inR (r s : II) : Bool := decide (0 ≤ s.1) && decide (s.1 < r.1) && decide (0 ≤ s.2) && decide (s.2 < r.2)
def due (z : II × II) : Ft := Ft.or (dueR z.1) (lame z.2)
def sp1 (r s : II) : Ft := if inR r s = true then none else some ("square", 0)
def sp2 (r s : II) : Ft := if inR r s = true then none else some ("square", 1)
abbrev RL : List (II × II) := prod rl ll
def badL : List (II × II) := RL.filter fun z => (due z).isSome
def goodL : List (II × II) := RL.filter fun z => (due z).isNone
theorem fact0 (r a b : D) : (ll.map fun q => C 9 21 [.int 0, r, eP q, a, b]) = ll.map fun q => .ok (eFt (lame q)) := by kernel_rfl
theorem fact1 (r b : D) : ((prod ll sl).map fun z => C 9 21 [.int 1, r, eP z.1, eP z.2, b]) = (prod ll sl).map fun z => .ok (eFt (lame z.1)) := by kernel_rfl
theorem fact2 (r : D) : ((prod ll (prod sl sl)).map fun z => C 9 21 [.int 2, r, eP z.1, eP z.2.1, eP z.2.2]) = (prod ll (prod sl sl)).map fun z => .ok (eFt (lame z.1)) := by kernel_rfl
theorem bad3 (a b : D) : (badL.map fun z => C 9 21 [.int 3, eP z.1, eP z.2, a, b]) = badL.map fun z => .ok (eFt (due z)) := by kernel_rfl
theorem bad4 (a b : D) : (badL.map fun z => C 9 21 [.int 4, eP z.1, eP z.2, a, b]) = badL.map fun z => .ok (eFt (due z)) := by kernel_rfl
theorem bad5 (a b : D) : (badL.map fun z => C 9 21 [.int 5, eP z.1, eP z.2, a, b]) = badL.map fun z => .ok (eFt (due z)) := by kernel_rfl
theorem fact6 (a b : D) : (RL.map fun z => C 9 21 [.int 6, eP z.1, eP z.2, a, b]) = RL.map fun z => .ok (eFt (due z)) := by kernel_rfl
theorem bad7 (a b : D) : (badL.map fun z => C 9 21 [.int 7, eP z.1, eP z.2, a, b]) = badL.map fun z => .ok (eFt (due z)) := by kernel_rfl
theorem bad8 (a b : D) : (badL.map fun z => C 9 21 [.int 8, eP z.1, eP z.2, a, b]) = badL.map fun z => .ok (eFt (due z)) := by kernel_rfl
end L42
/-! k42: near_of, distances_of. -/
namespace L42
open PySem Mt Gu
@[simp] theorem es_put (cs : List D) (cal : Nat → List D → R D) (W : Nat) (i : Nat) (k v : E) (e : Sg) : evS cs cal W (.put i k v) e = ((getS e i).bind unDc).go e fun kds => (evE cs cal v e).go e fun x => (evE cs cal k e).go e fun kk => (putD kds kk x).go e fun d => .nx (e.set i (some d)) := (rfl)
@[simp] theorem unk_M (m : SM) : unk (dcM m) = dcM m := by cases m with
  | nil => rfl
  | cons p m => cases m <;> rfl
@[simp] theorem unDc_M (m : SM) : unDc (dcM m) = .ok (encM m) := (rfl)
theorem sub_len : ∀ {l M : List Sq}, l.Nodup → (∀ x ∈ l, x ∈ M) → l.length ≤ M.length
  | [], _, _, _ => Nat.zero_le _
  | a :: l, M, hn, h => by
    obtain ⟨h1, h2⟩ := List.nodup_cons.mp hn
    have hm := h a (by simp)
    have := sub_len (l := l) (M := M.erase a) h2 fun x hx => (List.mem_erase_of_ne fun z => by subst z; exact h1 hx).mpr (h x (by simp [hx]))
    rw [List.length_erase_of_mem hm] at this
    have : 0 < M.length := List.length_pos_of_mem hm
    simp only [List.length_cons]
    omega
/-- the squares of a room -/
def sqs (r : Sq) : List Sq := prod ((List.range r.1.toNat).map fun i : Nat => (i : Int)) ((List.range r.2.toNat).map fun i : Nat => (i : Int))
theorem mem_sqs {r s : Sq} (h : inR r s = true) : s ∈ sqs r := by
  unfold inR at h
  simp only [Bool.and_eq_true, decide_eq_true_eq] at h
  obtain ⟨⟨⟨h1, h2⟩, h3⟩, h4⟩ := h
  exact prod_mem (List.mem_map.mpr ⟨s.1.toNat, List.mem_range.mpr (by omega), by omega⟩) (List.mem_map.mpr ⟨s.2.toNat, List.mem_range.mpr (by omega), by omega⟩)
abbrev st (r q s : Sq) (m : SM) (row : List Sq) (la he th : Option D) : Sg := [some (encP r), some (encP q), some (encP s), some (dcM m), some (encL row), la, he, th, none]
structure Inv (r : Sq) (m : SM) : Prop where
  nd : (keys m).Nodup
  ir : ∀ x ∈ keys m, inR r x = true
theorem Inv.len {r : Sq} {m : SM} (h : Inv r m) (hz : (sqs r).length ≤ 60) : m.length ≤ 60 := by
  have := sub_len h.nd fun x hx => mem_sqs (h.ir x hx)
  rw [keys_len] at this
  omega
section
variable {r q s : Sq} {nb : Sq → List Sq} {cal : Nat → List D → R D}
theorem b1_ok {m : SM} {row later : List Sq} {here t : Sq} (I : Inv r m) (hz : (sqs r).length ≤ 60) (hh : here ∈ keys m) (ht : inR r t = true) (hl : later.length ≤ 60) :
    ∃ m' later', evS csv cal 100 f13_b1 (st r q s m row (some (encL later)) (some (encP here)) (some (encP t))) = .nx (st r q s m' row (some (encL later')) (some (encP here)) (some (encP t))) ∧ Inv r m' ∧
      ∃ l, keys m' = keys m ++ l ∧ later' = later ++ l := by
  have e0 := nin_M m t
  have lm := I.len hz
  by_cases h : t ∈ keys m
  · refine ⟨m, later, ?_, I, [], by simp, by simp⟩
    unfold f13_b1
    simp [e0, h]
  · obtain ⟨v, ev⟩ := idx_M hh
    have ep := put_M (v + 1) h (by omega)
    have fit : fitL (later.length + 1) = true := decide_eq_true (by omega)
    refine ⟨m ++ [(t, v + 1)], later ++ [t], ?_, ⟨?_, fun x hx => ?_⟩, [t], keys_app .., rfl⟩
    · unfold f13_b1
      simp [e0, h, ev, ep, fit, encL]
    · rw [keys_app]
      exact List.nodup_append.mpr ⟨I.nd, by simp, fun a ha b hb => by
        cases List.mem_singleton.mp hb
        exact fun z => h (z ▸ ha)⟩
    · rw [keys_app] at hx
      rcases List.mem_append.mp hx with hx | hx
      · exact I.ir x hx
      · cases List.mem_singleton.mp hx
        exact ht
/-- what near_of gives -/
def Near (cal : Nat → List D → R D) (r q : Sq) (nb : Sq → List Sq) : Prop := ∀ s, cal 7 [encP r, encP q, encP s] = .ok (encL (nb s)) ∧ ∀ t ∈ nb s, inR r t = true
theorem b2_ok {m : SM} {row later : List Sq} {here : Sq} (N : Near cal r q nb) (I : Inv r m) (hz : (sqs r).length ≤ 60) (hh : here ∈ keys m) (hs : ∀ x ∈ later, x ∈ keys m) (hn : later.Nodup) :
    ∃ m' later' l, evS csv cal 100 f13_b2 (st r q s m row (some (encL later)) (some (encP here)) none) = .nx (st r q s m' row (some (encL later')) (some (encP here)) none) ∧ Inv r m' ∧ keys m' = keys m ++ l ∧ later' = later ++ l := by
  obtain ⟨e1, e2⟩ := N here
  have it : ((evE csv cal (.cons (.call 7 (.cons (.var 0) (.cons (.var 1) (.cons (.var 6) .nil)))) .nil) (st r q s m row (some (encL later)) (some (encP here)) none)).bind unL).bind (itD .seq) = .ok ((nb here).map encP) := by
    simp [e1]
    rfl
  obtain ⟨e', h1, m', l, rfl, h3, h4⟩ := forGo_inv (f := fun x e => (asg (.nm 7) x e).go e fun e1 => evS csv cal 100 f13_b1 e1) (fun e => ∃ m' l, e = st r q s m' row (some (encL (later ++ l))) (some (encP here)) none ∧ Inv r m' ∧ keys m' = keys m ++ l) (xs := (nb here).map encP) (e := st r q s m row (some (encL later)) (some (encP here)) none)
    (fun x hx e he => by
      obtain ⟨t, ht, rfl⟩ := List.mem_map.mp hx
      obtain ⟨m1, l, rfl, I1, k1⟩ := he
      have sub : ∀ x ∈ later ++ l, x ∈ keys m1 := fun x hx => by
        rw [k1]
        rcases List.mem_append.mp hx with h | h
        · exact List.mem_append.mpr (.inl (hs x h))
        · exact List.mem_append.mpr (.inr h)
      have ln : (later ++ l).length ≤ 60 := by
        have nd := I1.nd
        rw [k1] at nd
        obtain ⟨_, n2, n3⟩ := List.nodup_append.mp nd
        have := sub_len (List.nodup_append.mpr ⟨hn, n2, fun a ha b hb => n3 a (hs a ha) b hb⟩) sub
        have := I1.len hz
        rw [keys_len] at *
        omega
      obtain ⟨m2, l2, h1, I2, z, k2, k3⟩ := b1_ok (q := q) (s := s) (cal := cal) (row := row) (later := later ++ l) (here := here) (t := t) I1 hz (by rw [k1]; exact List.mem_append.mpr (.inl hh)) (e2 t ht) ln
      refine ⟨_, by rw [asg_nm, R.go_ok]; exact h1, m2, l ++ z, ?_, I2, by rw [k2, k1, List.append_assoc]⟩
      rw [k3, List.append_assoc]
      rfl)
    ⟨m, [], by simp, I, by simp⟩
  refine ⟨m', later ++ l, l, ?_, h3, h4, rfl⟩
  unfold f13_b2
  rw [es_seq, es_for, it, R.go_ok, h1]
  rfl
end
end L42
/-! k42: distances_of. -/
namespace L42
open PySem Mt Gu
section
variable {r q s : Sq} {nb : Sq → List Sq} {cal : Nat → List D → R D}
theorem b3_ok {m : SM} {row : List Sq} (N : Near cal r q nb) (I : Inv r m) (hz : (sqs r).length ≤ 60) (hr : ∀ x ∈ row, x ∈ keys m) :
    ∃ m' l e1, evS csv cal 100 f13_b3 (st r q s m row none none none) = .nx e1 ∧ mask (st r q s m row none none none) e1 = st r q s m' l none none none ∧ Inv r m' ∧ keys m' = keys m ++ l := by
  have it : ((evE csv cal (.cons (.var 4) .nil) (st r q s m row (some (encL [])) none none)).bind unL).bind (itD .seq) = .ok (row.map encP) := by
    simp
    rfl
  obtain ⟨e', h1, m', l, rfl, h3, h4⟩ := forGo_inv (f := fun x e => (asg (.nm 6) x e).go e fun e1 => evS csv cal 100 f13_b2 e1) (fun e => ∃ m' l, e = st r q s m' row (some (encL l)) none none ∧ Inv r m' ∧ keys m' = keys m ++ l) (xs := row.map encP) (e := st r q s m row (some (encL [])) none none)
    (fun x hx e he => by
      obtain ⟨t, ht, rfl⟩ := List.mem_map.mp hx
      obtain ⟨m1, l, rfl, I1, k1⟩ := he
      have nd := I1.nd
      rw [k1] at nd
      obtain ⟨_, n2, n3⟩ := List.nodup_append.mp nd
      obtain ⟨m2, l2, z, h1, I2, k2, k3⟩ := b2_ok (q := q) (s := s) (row := row) (later := l) (here := t) N I1 hz (by rw [k1]; exact List.mem_append.mpr (.inl (hr t ht))) (fun x hx => by rw [k1]; exact List.mem_append.mpr (.inr hx)) n2
      refine ⟨_, by rw [asg_nm, R.go_ok]; exact h1, m2, l ++ z, ?_, I2, by rw [k2, k1, List.append_assoc]⟩
      rw [k3]
      rfl)
    ⟨m, [], rfl, I, by simp⟩
  refine ⟨m', l, [some (encP r), some (encP q), some (encP s), some (dcM m'), some (encL l), some (encL l), none, none, none], ?_, rfl, h3, h4⟩
  unfold f13_b3
  refine seq_nx (st r q s m row (some (encL [])) none none) rfl ?_
  refine seq_nx (st r q s m' row (some (encL l)) none none) ?_ rfl
  rw [es_for, it, R.go_ok, h1]
theorem t1_ev {m : SM} {row : List Sq} : (evE csv cal f13_t1 (st r q s m row none none none)).bind Mt.truthy = .ok (!row.isEmpty) := by
  unfold f13_t1
  cases row with
  | nil => rfl
  | cons a l =>
    simp [encL]
theorem wh_ok (N : Near cal r q nb) (hz : (sqs r).length ≤ 60) : ∀ (n : Nat) {m : SM} {row : List Sq}, Inv r m → (∀ x ∈ row, x ∈ keys m) → 1 ≤ n → (row ≠ [] → 62 ≤ n + m.length) →
    ∃ m', whileGo (fun e => (evE csv cal f13_t1 e).bind Mt.truthy) (fun e => evS csv cal 100 f13_b3 e) n (st r q s m row none none none) = .nx (st r q s m' [] none none none) ∧ Inv r m' ∧ ∃ l, keys m' = keys m ++ l
  | 0, _, _, _, _, h, _ => absurd h (by omega)
  | n + 1, m, row, I, hr, _, hn => by
    unfold whileGo
    rw [t1_ev, R.go_ok]
    cases row with
    | nil => exact ⟨m, rfl, I, [], by simp⟩
    | cons a row =>
      rw [if_pos (show (!(a :: row).isEmpty) = true from rfl)]
      obtain ⟨m1, l, e1, h1, h2, I1, k1⟩ := b3_ok (q := q) (s := s) N I hz hr
      rw [h1, O.seq_nx, h2]
      have lm := I1.len hz
      have len : m1.length = m.length + l.length := by
        have := congrArg List.length k1
        rw [List.length_append, keys_len, keys_len] at this
        exact this
      have hn := hn (by simp)
      obtain ⟨m2, h3, I2, l2, k2⟩ := wh_ok N hz n (m := m1) (row := l) I1 (fun x hx => by rw [k1]; exact List.mem_append.mpr (.inr hx)) (by omega) (fun hl => by
        have : 0 < l.length := List.length_pos_iff.mpr hl
        omega)
      exact ⟨m2, h3, I2, l ++ l2, by rw [k2, k1, List.append_assoc]⟩
theorem c13_ok {m : SM} (I : Inv r m) (hz : (sqs r).length ≤ 60) : ∃ m', evE csv cal f13_c1 (st r q s m [] none none none) = .ok (dcM m') ∧ (keys m').Nodup ∧ (∀ x, x ∈ keys m' ↔ x ∈ keys m) ∧ m'.length ≤ 60 := by
  have lm := I.len hz
  obtain ⟨M, h1, h2, h3, h4⟩ := sorted_M I.nd (by omega)
  have it : ((evE csv cal (.cons (.blt .sorted (.cons (.bor 3) .nil)) .nil) (st r q s m [] none none none)).bind unL).bind (itD .seq) = .ok (M.map encP) := by
    simp [h1]
    rfl
  obtain ⟨m', e1, e2⟩ := dcGo_M (F := fun x => nox ((asg (.nm 8) x (clr [8] (st r q s m [] none none none))).bind fun e1 => (evE csv cal (.bl true) e1).bind fun c => (Mt.truthy c).bind fun t => if t = true then (evE csv cal (.var 8) e1).bind fun a => (evE csv cal (.idx (.bor 3) (.var 8)) e1).bind fun b => keyB a b else .ok none)) (l := M) (m := [])
    (fun t ht => by
      obtain ⟨v, ev⟩ := idx_M ((h2 t).mp ht)
      refine ⟨v, ?_⟩
      rw [asg_nm, R.bind_ok]
      simp [clr, ev]
      rfl)
    (by simpa [keys] using h3)
  have ek : keys m' = M := by rw [e2]; simp [keys]
  have lm' : m'.length = M.length := by rw [← keys_len, ek]
  refine ⟨m', ?_, by rw [ek]; exact h3, fun x => by rw [ek]; exact h2 x, by omega⟩
  have fit : fitL ((rowM m').length + 1) = true := decide_eq_true (by unfold rowM; rw [List.length_map]; omega)
  have un : evE csv cal f13_c1 (st r q s m [] none none none) = (((evE csv cal (.cons (.blt .sorted (.cons (.bor 3) .nil)) .nil) (st r q s m [] none none none)).bind unL).bind (itD .seq)).bind fun its => (dcGo (fun x => nox ((asg (.nm 8) x (clr [8] (st r q s m [] none none none))).bind fun e1 => (evE csv cal (.bl true) e1).bind fun c => (Mt.truthy c).bind fun t => if t = true then (evE csv cal (.var 8) e1).bind fun a => (evE csv cal (.idx (.bor 3) (.var 8)) e1).bind fun b => keyB a b else .ok none)) its []).bind fun m => grd (fitL (m.length + 1)) (.ok (.dict (encT m))) := rfl
  rw [un, it, R.bind_ok, show ([] : List (List L2.Key × D)) = rowM [] from rfl, e1, R.bind_ok, fit]
  rfl
end
/-- distances_of -/
theorem dist_ok {r q s : Sq} {nb : Sq → List Sq} (k : Nat) (N : Near (C k) r q nb) (hs : inR r s = true) (hz : (sqs r).length ≤ 60) : ∃ m, C (k + 1) 13 [encP r, encP q, encP s] = .ok (dcM m) ∧ (keys m).Nodup ∧ (∀ x ∈ keys m, inR r x = true) ∧ s ∈ keys m ∧ m.length ≤ 60 := by
  have I : Inv r [(s, 0)] := ⟨by simp [keys], fun x hx => by
    have : x = s := by simpa [keys] using hx
    rw [this]; exact hs⟩
  obtain ⟨m1, h1, I1, l, k1⟩ := wh_ok (s := s) N hz 100 (m := [(s, 0)]) (row := [s]) I (fun x hx => by simpa [keys] using hx) (by omega) (fun _ => by omega)
  obtain ⟨m, h2, h3, h4, h5⟩ := c13_ok (q := q) (s := s) (cal := C k) I1 hz
  refine ⟨m, ?_, h3, fun x hx => I1.ir x ((h4 x).mp hx), (h4 s).mpr (by rw [k1]; simp [keys]), h5⟩
  have run : C (k + 1) 13 [encP r, encP q, encP s] = (evS csv (C k) 100 L42.f13.body [some (encP r), some (encP q), some (encP s), none, none, none, none, none, none]).end_ := rfl
  rw [run]
  have body : evS csv (C k) 100 L42.f13.body [some (encP r), some (encP q), some (encP s), none, none, none, none, none, none] = .rt (dcM m) := by
    unfold L42.f13
    refine seq_nx [some (encP r), some (encP q), some (encP s), some (dcM [(s, 0)]), none, none, none, none, none] rfl ?_
    refine seq_nx (st r q s [(s, 0)] [s] none none none) rfl ?_
    refine seq_nx (st r q s m1 [] none none none) ?_ ?_
    · rw [es_while]
      exact h1
    · rw [es_seq, es_ret, h2]
      rfl
  rw [body]
  rfl
end L42
/-! k42: near_of, widest. -/
namespace L42
open PySem Mt Gu
def lp (q : Sq) : List Sq := if q = (1, 2) then [(-2, -1), (-2, 1), (-1, -2), (-1, 2), (1, -2), (1, 2), (2, -1), (2, 1)] else if q = (0, 1) then [(-1, 0), (0, -1), (0, 1), (1, 0)] else [(-8, -8), (-8, 8), (8, -8), (8, 8)]
def nbP (r q s : Sq) : List Sq := ((lp q).map fun a => (s.1 + a.1, s.2 + a.2)).filter (inR r)
def lg : List Sq := [(1, 2), (0, 1), (8, 8)]
theorem leaps_f (k : Nat) : (lg.map fun q => C (k + 1) 3 [encP q]) = lg.map fun q => .ok (encL (lp q)) := by kernel_rfl
theorem lp_len (q : Sq) : (lp q).length ≤ 8 := by
  unfold lp
  split
  · decide
  · split <;> decide
theorem cond7 {cal : Nat → List D → R D} {r q s a : Sq} {x5 x6 x3 : Option D} : evE csv cal (.and (.chn .le (.int 0) (.idx (.var 4) (.int 0)) .lt (.idx (.var 0) (.int 0))) (.one (.chn .le (.int 0) (.idx (.var 4) (.int 1)) .lt (.idx (.var 0) (.int 1))))) [some (encP r), some (encP q), some (encP s), x3, some (encP a), x5, x6] = .ok (.bool (inR r a)) := by
  obtain ⟨a1, a2⟩ := a
  obtain ⟨r1, r2⟩ := r
  unfold inR
  by_cases h1 : 0 ≤ a1 <;> by_cases h2 : a1 < r1 <;> by_cases h3 : 0 ≤ a2 <;> by_cases h4 : a2 < r2 <;> simp [encP, h1, h2, h3, h4]
theorem near_ok {q : Sq} (hq : q ∈ lg) (k : Nat) (r : Sq) : Near (C (k + 2)) r q (nbP r q) := fun s => by
  refine ⟨?_, fun t ht => (List.mem_filter.mp ht).2⟩
  have hl := map_at (leaps_f k) q hq
  have run : C (k + 2) 7 [encP r, encP q, encP s] = (evS csv (C (k + 1)) 100 L42.f7.body [some (encP r), some (encP q), some (encP s), none, none, none, none]).end_ := rfl
  have t2 : ∀ x y e, asg (.tup 2 (.cons (.nm 5) (.cons (.nm 6) .nil))) (.tuple [x, y]) e = .ok ((e.set 5 (some x)).set 6 (some y)) := fun x y e => by rw [asg_t2]; simp
  have c1 : evE csv (C (k + 1)) f7_c1 [some (encP r), some (encP q), some (encP s), none, none, none, none] = .ok (encL ((lp q).map fun a => (s.1 + a.1, s.2 + a.2))) := by
    have := ev_lcM csv (C (k + 1)) (k := .seq) (src := .cons (.call 3 (.cons (.var 1) .nil)) .nil) (tg := .tup 2 (.cons (.nm 5) (.cons (.nm 6) .nil))) (cond := .bl true) (elt := .tup (.cons (.bin .add (.idx (.var 2) (.int 0)) (.var 5)) (.cons (.bin .add (.idx (.var 2) (.int 1)) (.var 6)) .nil))) (own := [5, 6]) (e := [some (encP r), some (encP q), some (encP s), none, none, none, none]) encP (lp q) (fun a => [encP (s.1 + a.1, s.2 + a.2)])
      (by
        simp [hl]
        rfl)
      (fun a ha => by
        have e0 : encP a = .tuple [.int a.1, .int a.2] := rfl
        rw [e0, t2]
        simp [clr, encP]
        rfl)
      (by rw [flat_one, List.length_map]; have := lp_len q; omega)
    rw [flat_one] at this
    unfold f7_c1
    rw [this]
    unfold encL
    rw [List.map_map]
    rfl
  have c2 := lc_filter (cs := csv) (cal := C (k + 1)) (k := .seq) (src := .cons (.var 3) .nil) (elt := .var 4) (cond := .and (.chn .le (.int 0) (.idx (.var 4) (.int 0)) .lt (.idx (.var 0) (.int 0))) (.one (.chn .le (.int 0) (.idx (.var 4) (.int 1)) .lt (.idx (.var 0) (.int 1))))) (i := 4) (e := [some (encP r), some (encP q), some (encP s), some (encL ((lp q).map fun a => (s.1 + a.1, s.2 + a.2))), none, none, none]) encP ((lp q).map fun a => (s.1 + a.1, s.2 + a.2)) (inR r) encP
    (by
      rw [ev_cons, ev_var, ev_nil]
      rfl)
    (by rw [List.length_map]; have := lp_len q; omega)
    (fun a _ => cond7) (fun a _ _ => rfl)
  rw [run]
  have body : evS csv (C (k + 1)) 100 L42.f7.body [some (encP r), some (encP q), some (encP s), none, none, none, none] = .rt (encL (nbP r q s)) := by
    unfold L42.f7
    refine seq_nx [some (encP r), some (encP q), some (encP s), some (encL ((lp q).map fun a => (s.1 + a.1, s.2 + a.2))), none, none, none] (set_ok c1) ?_
    rw [es_seq, es_ret]
    unfold f7_c2
    rw [c2]
    rfl
  rw [body]
  rfl
def isLst : R D → Bool
  | .ok (.list _) => true
  | _ => false
theorem isLst_ok {x : R D} (h : isLst x = true) : ∃ l, x = .ok (.list l) := by
  unfold isLst at h
  split at h
  · exact ⟨_, rfl⟩
  · cases h
/-! ### widest -/
/-- the best so far -/
def BestOk (d : D) : Prop := d = .none ∨ ∃ (v : Int) (x : D), d = .tuple [.int v, x]
abbrev wt (r q : Sq) (b : D) (sq far ot : Option D) : Sg := [some (encP r), some (encP q), some b, sq, far, ot]
theorem w1_ok {cal : Nat → List D → R D} {r q s t : Sq} {m : SM} {b : D} (hb : BestOk b) (ht : t ∈ keys m) : ∃ b', evS csv cal 100 f17_b1 (wt r q b (some (encP s)) (some (dcM m)) (some (encP t))) = .nx (wt r q b' (some (encP s)) (some (dcM m)) (some (encP t))) ∧ BestOk b' := by
  obtain ⟨v, ev⟩ := idx_M ht
  have f2 : fitL 2 = true := rfl
  unfold f17_b1
  rcases hb with rfl | ⟨w, x, rfl⟩
  · exact ⟨.tuple [.int v, .tuple [encP s, encP t]], by simp [ev, f2], .inr ⟨_, _, rfl⟩⟩
  · have un : unk (.tuple [.int w, x]) = .tuple [.int w, x] := rfl
    have no : isNo (.tuple [.int w, x]) = false := rfl
    by_cases h : w < v
    · exact ⟨.tuple [.int v, .tuple [encP s, encP t]], by simp [ev, f2, un, no, h], .inr ⟨_, _, rfl⟩⟩
    · exact ⟨.tuple [.int w, x], by simp [ev, f2, un, no, h], .inr ⟨_, _, rfl⟩⟩
theorem w2_ok {cal : Nat → List D → R D} {r q s : Sq} {m : SM} {b : D} (hb : BestOk b) (h13 : cal 13 [encP r, encP q, encP s] = .ok (dcM m)) : ∃ b', evS csv cal 100 f17_b2 (wt r q b (some (encP s)) none none) = .nx (wt r q b' (some (encP s)) (some (dcM m)) none) ∧ BestOk b' := by
  obtain ⟨e', h1, b', rfl, h2⟩ := forGo_inv (f := fun x e => (asg (.nm 5) x e).go e fun e1 => evS csv cal 100 f17_b1 e1) (fun e => ∃ b', e = wt r q b' (some (encP s)) (some (dcM m)) none ∧ BestOk b') (xs := (keys m).map encP) (e := wt r q b (some (encP s)) (some (dcM m)) none)
    (fun x hx e he => by
      obtain ⟨t, ht, rfl⟩ := List.mem_map.mp hx
      obtain ⟨b1, rfl, hb1⟩ := he
      obtain ⟨b2, h1, h2⟩ := w1_ok (cal := cal) (r := r) (q := q) (s := s) hb1 ht
      exact ⟨_, by rw [asg_nm, R.go_ok]; exact h1, b2, rfl, h2⟩)
    ⟨b, rfl, hb⟩
  refine ⟨b', ?_, h2⟩
  unfold f17_b2
  refine seq_nx (wt r q b (some (encP s)) (some (dcM m)) none) (set_ok (by simp [h13])) ?_
  have un : evS csv cal 100 (.forK 4 (.nm 5) f17_b1) (wt r q b (some (encP s)) (some (dcM m)) none) = ((keysD (dcM m)).go (wt r q b (some (encP s)) (some (dcM m)) none) fun _ => ((keysD (dcM m)).go (wt r q b (some (encP s)) (some (dcM m)) none) fun l => forGo (fun x e => (asg (.nm 5) x e).go e fun e1 => evS csv cal 100 f17_b1 e1) l (wt r q b (some (encP s)) (some (dcM m)) none)).calm) := rfl
  rw [es_seq, un, keysD_M, R.go_ok, R.go_ok, h1]
  rfl
theorem wide_ok {r q : Sq} (k : Nat) (hc : C k 1 [encP r, encP q] = .ok .none) (h8 : C k 8 [encP r] = .ok (encL (sqs r))) (h13 : ∀ s ∈ sqs r, ∃ m, C k 13 [encP r, encP q, encP s] = .ok (dcM m)) : ∃ d, C (k + 1) 17 [encP r, encP q] = .ok d := by
  obtain ⟨e', h1, b', rfl, h2⟩ := forGo_inv (f := fun x e => (asg (.nm 3) x e).go e fun e1 => evS csv (C k) 100 f17_b2 e1) (fun e => ∃ b', e = wt r q b' none none none ∧ BestOk b') (xs := (sqs r).map encP) (e := wt r q .none none none none)
    (fun x hx e he => by
      obtain ⟨t, ht, rfl⟩ := List.mem_map.mp hx
      obtain ⟨b1, rfl, hb1⟩ := he
      obtain ⟨m, hm⟩ := h13 t ht
      obtain ⟨b2, h1, h2⟩ := w2_ok hb1 hm
      exact ⟨_, by rw [asg_nm, R.go_ok]; exact h1, b2, rfl, h2⟩)
    ⟨.none, rfl, .inl rfl⟩
  refine ⟨b', ?_⟩
  have run : C (k + 1) 17 [encP r, encP q] = (evS csv (C k) 100 L42.f17.body [some (encP r), some (encP q), none, none, none, none]).end_ := rfl
  rw [run]
  have it : ((evE csv (C k) (.cons (.call 8 (.cons (.var 0) .nil)) .nil) (wt r q .none none none none)).bind unL).bind (itD .seq) = .ok ((sqs r).map encP) := by
    simp [h8]
    rfl
  have body : evS csv (C k) 100 L42.f17.body [some (encP r), some (encP q), none, none, none, none] = .rt b' := by
    unfold L42.f17
    refine seq_nx [some (encP r), some (encP q), none, none, none, none] (by simp [hc]) ?_
    refine seq_nx (wt r q .none none none none) rfl ?_
    refine seq_nx (wt r q b' none none none) ?_ rfl
    rw [es_for, it, R.go_ok, h1]
  rw [body]
  rfl
end L42
/-! k42: pieces_of, closed facts for one leaper. -/
namespace L42
open PySem Mt Gu
theorem pieces_f0 : ((prod [1, 4, 12] [1, 3, 5] : List Sq).map fun r => isLst (C 7 10 [encP r, encP (lg.getD 0 (0, 0))])) = (prod [1, 4, 12] [1, 3, 5] : List Sq).map fun _ => true := by kernel_rfl
end L42
/-! k42: pieces_of, closed facts for one leaper. -/
namespace L42
open PySem Mt Gu
theorem pieces_f1 : ((prod [1, 4, 12] [1, 3, 5] : List Sq).map fun r => isLst (C 7 10 [encP r, encP (lg.getD 1 (0, 0))])) = (prod [1, 4, 12] [1, 3, 5] : List Sq).map fun _ => true := by kernel_rfl
end L42
/-! k42: pieces_of, closed facts for one leaper. -/
namespace L42
open PySem Mt Gu
theorem pieces_f2 : ((prod [1, 4, 12] [1, 3, 5] : List Sq).map fun r => isLst (C 7 10 [encP r, encP (lg.getD 2 (0, 0))])) = (prod [1, 4, 12] [1, 3, 5] : List Sq).map fun _ => true := by kernel_rfl
end L42
/-! k42: what is well raises nothing. -/
namespace L42
open PySem Mt Gu
def rg : List Sq := prod [1, 4, 12] [1, 3, 5]
theorem good_eq : goodL = prod rg lg := by decide +kernel
theorem ck_f (k : Nat) : (goodL.map fun z => C (k + 2) 1 [encP z.1, encP z.2]) = goodL.map fun _ => .ok .none := by kernel_rfl
theorem ck2_f (k : Nat) : (goodL.map fun z => C (k + 3) 2 [encP z.1, encP z.2, .list [encP (0, 0)]]) = goodL.map fun _ => .ok .none := by kernel_rfl
theorem ck3_f (k : Nat) : (goodL.map fun z => C (k + 3) 2 [encP z.1, encP z.2, .list [encP (0, 0), encP (0, 0)]]) = goodL.map fun _ => .ok .none := by kernel_rfl
theorem sq_f (k : Nat) : (rg.map fun r => C (k + 1) 8 [encP r]) = rg.map fun r => .ok (encL (sqs r)) := by kernel_rfl
theorem sqs_in : (rg.all fun r => (sqs r).all (inR r) && decide ((sqs r).length ≤ 60) && inR r (0, 0)) = true := by decide +kernel
structure Good (z : Sq × Sq) : Prop where
  q : z.2 ∈ lg
  ck : ∀ k, C (k + 2) 1 [encP z.1, encP z.2] = .ok .none
  ck2 : ∀ k, C (k + 3) 2 [encP z.1, encP z.2, .list [encP (0, 0)]] = .ok .none
  ck3 : ∀ k, C (k + 3) 2 [encP z.1, encP z.2, .list [encP (0, 0), encP (0, 0)]] = .ok .none
  sq : ∀ k, C (k + 1) 8 [encP z.1] = .ok (encL (sqs z.1))
  ir : ∀ s ∈ sqs z.1, inR z.1 s = true
  len : (sqs z.1).length ≤ 60
  z0 : inR z.1 (0, 0) = true
theorem mem_prod {α β : Type} {l : List α} {m : List β} {p : α × β} (h : p ∈ prod l m) : p.1 ∈ l ∧ p.2 ∈ m := by
  obtain ⟨a, ha, h⟩ := List.mem_flatMap.mp h
  obtain ⟨b, hb, rfl⟩ := List.mem_map.mp h
  exact ⟨ha, hb⟩
theorem good_ok {z : Sq × Sq} (h : z ∈ goodL) : Good z := by
  obtain ⟨hr, hq⟩ := mem_prod (good_eq ▸ h)
  have a := List.all_eq_true.mp sqs_in z.1 hr
  simp only [Bool.and_eq_true, decide_eq_true_eq] at a
  exact ⟨hq, fun k => map_at (ck_f k) z h, fun k => map_at (ck2_f k) z h, fun k => map_at (ck3_f k) z h, fun k => map_at (sq_f k) z.1 hr, fun s hs => List.all_eq_true.mp a.1.1 s hs, a.1.2, a.2⟩
theorem Good.dist {z : Sq × Sq} (g : Good z) (k : Nat) {s : Sq} (hs : inR z.1 s = true) : ∃ m, C (k + 3) 13 [encP z.1, encP z.2, encP s] = .ok (dcM m) ∧ s ∈ keys m := by
  obtain ⟨m, h1, _, _, h2, _⟩ := dist_ok (k + 2) (near_ok g.q k z.1) hs g.len
  exact ⟨m, h1, h2⟩
theorem Good.wide {z : Sq × Sq} (g : Good z) : ∃ d, C 8 17 [encP z.1, encP z.2] = .ok d := wide_ok 7 (g.ck 5) (g.sq 6) fun s hs => by
  obtain ⟨m, h, _⟩ := g.dist 4 (g.ir s hs)
  exact ⟨m, h⟩
theorem Good.d14 {z : Sq × Sq} (g : Good z) : ∃ d, C 8 14 [encP z.1, encP z.2, encP (0, 0)] = .ok d := by
  obtain ⟨m, h, _⟩ := g.dist 4 g.z0
  have c := g.ck2 4
  refine ⟨dcM m, ?_⟩
  have run : C 8 14 [encP z.1, encP z.2, encP (0, 0)] = (evS csv (C 7) 100 L42.f14.body [some (encP z.1), some (encP z.2), some (encP (0, 0))]).end_ := rfl
  have f1 : fitL 1 = true := rfl
  rw [run]
  simp [L42.f14, c, h, f1, O.end_]
theorem Good.d15 {z : Sq × Sq} (g : Good z) : ∃ d, C 8 15 [encP z.1, encP z.2, encP (0, 0), encP (0, 0)] = .ok d := by
  obtain ⟨m, h, hm⟩ := g.dist 4 g.z0
  have c := g.ck3 4
  have ni := nin_M m (0, 0)
  have f1 : fitL 1 = true := rfl
  have f2 : fitL 2 = true := rfl
  refine ⟨encL [(0, 0)], ?_⟩
  have run : C 8 15 [encP z.1, encP z.2, encP (0, 0), encP (0, 0)] = (evS csv (C 7) 100 L42.f15.body [some (encP z.1), some (encP z.2), some (encP (0, 0)), some (encP (0, 0)), none, none, none]).end_ := rfl
  rw [run]
  have body : evS csv (C 7) 100 L42.f15.body [some (encP z.1), some (encP z.2), some (encP (0, 0)), some (encP (0, 0)), none, none, none] = .rt (encL [(0, 0)]) := by
    unfold L42.f15
    refine seq_nx [some (encP z.1), some (encP z.2), some (encP (0, 0)), some (encP (0, 0)), none, none, none] (by simp [c, f2]) ?_
    refine seq_nx [some (encP z.1), some (encP z.2), some (encP (0, 0)), some (encP (0, 0)), some (dcM m), none, none] (set_ok (by simp [h])) ?_
    refine seq_nx [some (encP z.1), some (encP z.2), some (encP (0, 0)), some (encP (0, 0)), some (dcM m), none, none] (ite_no (by simp [ni, hm])) ?_
    refine seq_nx [some (encP z.1), some (encP z.2), some (encP (0, 0)), some (encP (0, 0)), some (dcM m), some (encL [(0, 0)]), none] rfl ?_
    refine seq_nx [some (encP z.1), some (encP z.2), some (encP (0, 0)), some (encP (0, 0)), some (dcM m), some (encL [(0, 0)]), none] rfl ?_
    rfl
  rw [body]
  rfl
end L42
/-! k42: what _law_of tells. -/
namespace L42
open PySem Mt Gu
theorem bad7s (b : D) : (((prod goodL sl).filter fun x => !inR x.1.1 x.2).map fun x => C 9 21 [.int 7, eP x.1.1, eP x.1.2, eP x.2, b]) = ((prod goodL sl).filter fun x => !inR x.1.1 x.2).map fun x => .ok (eFt (sp1 x.1.1 x.2)) := by kernel_rfl
theorem bad8s : (((prod goodL (prod sl sl)).filter fun x => !(inR x.1.1 x.2.1 && inR x.1.1 x.2.2)).map fun x => C 9 21 [.int 8, eP x.1.1, eP x.1.2, eP x.2.1, eP x.2.2]) = ((prod goodL (prod sl sl)).filter fun x => !(inR x.1.1 x.2.1 && inR x.1.1 x.2.2)).map fun x => .ok (eFt (Ft.or (sp1 x.1.1 x.2.1) (sp2 x.1.1 x.2.2))) := by kernel_rfl
theorem only0 : (goodL.all fun z => sl.all fun s => !inR z.1 s || s == (0, 0)) = true := by decide +kernel
theorem only0_ok {z : Sq × Sq} {s : Sq} (hz : z ∈ goodL) (hs : s ∈ sl) (h : inR z.1 s = true) : s = (0, 0) := by
  have := List.all_eq_true.mp (List.all_eq_true.mp only0 z hz) s hs
  rw [h] at this
  exact eq_of_beq (by simpa using this)
theorem Good.pieces {z : Sq × Sq} (h : z ∈ goodL) : ∃ l, C 7 10 [encP z.1, encP z.2] = .ok (.list l) := by
  obtain ⟨hr, hq⟩ := mem_prod (good_eq ▸ h)
  obtain ⟨r, q⟩ := z
  have hq : q ∈ lg := hq
  have hr : r ∈ rg := hr
  unfold lg at hq
  simp only [List.mem_cons, List.not_mem_nil, or_false] at hq
  rcases hq with rfl | rfl | rfl
  · exact isLst_ok (map_at pieces_f0 r hr)
  · exact isLst_ok (map_at pieces_f1 r hr)
  · exact isLst_ok (map_at pieces_f2 r hr)
theorem run21 (w : Int) (r q a b : D) : C 9 21 [.int w, r, q, a, b] = (evS csv (C 8) 100 L42.f21.body [some (.int w), some r, some q, some a, some b, none]).end_ := rfl
@[simp] theorem d0 : dspD [11, 12, 17] (.int 0) = .ok 11 := (rfl)
@[simp] theorem d1 : dspD [11, 12, 17] (.int 1) = .ok 12 := (rfl)
@[simp] theorem d2 : dspD [11, 12, 17] (.int 2) = .ok 17 := (rfl)
theorem good3 {z : Sq × Sq} (h : z ∈ goodL) (a b : D) : C 9 21 [.int 3, eP z.1, eP z.2, a, b] = .ok .none := by
  obtain ⟨l, hl⟩ := Good.pieces h
  have g := good_ok h
  have c := g.ck 5
  have w : C 8 11 [encP z.1, encP z.2] = .ok (.list l) := by
    have run : C 8 11 [encP z.1, encP z.2] = (evS csv (C 7) 100 L42.f11.body [some (encP z.1), some (encP z.2)]).end_ := rfl
    rw [run]
    simp [L42.f11, c, hl, O.end_]
  have w : C 8 11 [eP z.1, eP z.2] = .ok (.list l) := w
  rw [run21]
  simp [L42.f21, f21_b1, w, O.end_]
theorem good4 {z : Sq × Sq} (h : z ∈ goodL) (a b : D) : C 9 21 [.int 4, eP z.1, eP z.2, a, b] = .ok .none := by
  obtain ⟨l, hl⟩ := Good.pieces h
  have g := good_ok h
  have c := g.ck 5
  have w : ∃ d, C 8 12 [encP z.1, encP z.2] = .ok d := by
    have run : C 8 12 [encP z.1, encP z.2] = (evS csv (C 7) 100 L42.f12.body [some (encP z.1), some (encP z.2)]).end_ := rfl
    rw [run]
    simp [L42.f12, c, hl, O.end_]
  obtain ⟨d, w⟩ := w
  have w : C 8 12 [eP z.1, eP z.2] = .ok d := w
  rw [run21]
  simp [L42.f21, f21_b1, w, O.end_]
theorem good5 {z : Sq × Sq} (h : z ∈ goodL) (a b : D) : C 9 21 [.int 5, eP z.1, eP z.2, a, b] = .ok .none := by
  obtain ⟨d, w⟩ := (good_ok h).wide
  have w : C 8 17 [eP z.1, eP z.2] = .ok d := w
  rw [run21]
  simp [L42.f21, f21_b1, w, O.end_]
theorem good7 {z : Sq × Sq} {s : Sq} (h : z ∈ goodL) (hs : s ∈ sl) (b : D) : C 9 21 [.int 7, eP z.1, eP z.2, eP s, b] = .ok (eFt (sp1 z.1 s)) := by
  by_cases hi : inR z.1 s = true
  · cases only0_ok h hs hi
    obtain ⟨d, w⟩ := (good_ok h).d14
    have w : C 8 14 [eP z.1, eP z.2, eP (0, 0)] = .ok d := w
    unfold sp1
    rw [run21, if_pos hi]
    simp [L42.f21, f21_b1, w, O.end_, eFt]
  · exact map_at (bad7s b) (z, s) (List.mem_filter.mpr ⟨prod_mem h hs, by simp [hi]⟩)
theorem good8 {z : Sq × Sq} {s t : Sq} (h : z ∈ goodL) (hs : s ∈ sl) (ht : t ∈ sl) : C 9 21 [.int 8, eP z.1, eP z.2, eP s, eP t] = .ok (eFt (Ft.or (sp1 z.1 s) (sp2 z.1 t))) := by
  by_cases hi : (inR z.1 s && inR z.1 t) = true
  · obtain ⟨h1, h2⟩ := Bool.and_eq_true .. ▸ hi
    cases only0_ok h hs h1
    cases only0_ok h ht h2
    obtain ⟨d, w⟩ := (good_ok h).d15
    have w : C 8 15 [eP z.1, eP z.2, eP (0, 0), eP (0, 0)] = .ok d := w
    unfold sp1 sp2
    rw [run21, if_pos h1, if_pos h2]
    simp [L42.f21, f21_b1, w, O.end_, eFt, Ft.or]
  · exact map_at bad8s (z, s, t) (List.mem_filter.mpr ⟨prod_mem h (prod_mem hs ht), by
      show (!(inR z.1 s && inR z.1 t)) = true
      rw [Bool.eq_false_iff.mpr hi]
      rfl⟩)
theorem sides {z : Sq × Sq} (h : z ∈ RL) : (z ∈ badL ∧ (due z).isSome = true) ∨ (z ∈ goodL ∧ due z = none) := by
  cases e : due z with
  | none => exact .inr ⟨List.mem_filter.mpr ⟨h, by rw [e]; rfl⟩, rfl⟩
  | some p => exact .inl ⟨List.mem_filter.mpr ⟨h, by rw [e]; rfl⟩, rfl⟩
theorem or_some {a b : Ft} (h : a.isSome = true) : Ft.or a b = a := by
  cases a with
  | none => cases h
  | some p => rfl
/-- what is due by which -/
def dueW (w : Nat) (z : Sq × Sq) (s t : Sq) : Ft := if w < 3 then lame z.2 else if w < 7 then due z else if w = 7 then Ft.or (due z) (sp1 z.1 s) else Ft.or (Ft.or (due z) (sp1 z.1 s)) (sp2 z.1 t)
theorem of_ok {z : Sq × Sq} {s t : Sq} (h : z ∈ RL) (hs : s ∈ sl) (ht : t ∈ sl) {w : Nat} (hw : w < 9) : C 9 21 [.int (w : Nat), eP z.1, eP z.2, eP s, eP t] = .ok (eFt (dueW w z s t)) := by
  obtain ⟨_, hq⟩ := mem_prod h
  have cs : w = 0 ∨ w = 1 ∨ w = 2 ∨ w = 3 ∨ w = 4 ∨ w = 5 ∨ w = 6 ∨ w = 7 ∨ w = 8 := by omega
  have nn : Ft.or none = fun b => b := rfl
  rcases cs with rfl | rfl | rfl | rfl | rfl | rfl | rfl | rfl | rfl
  · exact map_at (fact0 (eP z.1) (eP s) (eP t)) z.2 hq
  · exact map_at (fact1 (eP z.1) (eP t)) (z.2, s) (prod_mem hq hs)
  · exact map_at (fact2 (eP z.1)) (z.2, s, t) (prod_mem hq (prod_mem hs ht))
  · rcases sides h with ⟨hb, _⟩ | ⟨hg, e⟩
    · exact map_at (bad3 (eP s) (eP t)) z hb
    · exact (good3 hg (eP s) (eP t)).trans (by unfold dueW; rw [if_neg (by decide), if_pos (by decide), e]; rfl)
  · rcases sides h with ⟨hb, _⟩ | ⟨hg, e⟩
    · exact map_at (bad4 (eP s) (eP t)) z hb
    · exact (good4 hg (eP s) (eP t)).trans (by unfold dueW; rw [if_neg (by decide), if_pos (by decide), e]; rfl)
  · rcases sides h with ⟨hb, _⟩ | ⟨hg, e⟩
    · exact map_at (bad5 (eP s) (eP t)) z hb
    · exact (good5 hg (eP s) (eP t)).trans (by unfold dueW; rw [if_neg (by decide), if_pos (by decide), e]; rfl)
  · exact map_at (fact6 (eP s) (eP t)) z h
  · rcases sides h with ⟨hb, e⟩ | ⟨hg, e⟩
    · exact (map_at (bad7 (eP s) (eP t)) z hb).trans (by unfold dueW; rw [if_neg (by decide), if_neg (by decide), if_pos (by decide), or_some e])
    · exact (good7 hg hs (eP t)).trans (by unfold dueW; rw [if_neg (by decide), if_neg (by decide), if_pos (by decide), e, nn])
  · rcases sides h with ⟨hb, e⟩ | ⟨hg, e⟩
    · exact (map_at (bad8 (eP s) (eP t)) z hb).trans (by unfold dueW; rw [if_neg (by decide), if_neg (by decide), if_neg (by decide), or_some e, or_some e])
    · exact (good8 hg hs ht).trans (by unfold dueW; rw [if_neg (by decide), if_neg (by decide), if_neg (by decide), e, nn])
end L42
/-! k42: the law. -/
namespace L42
open PySem Mt Gu
abbrev eT (a b c d e f g h i j k l m n : Option D) : Sg := [a, b, c, d, e, f, g, h, i, j, k, l, m, n, none, none, none, none]
theorem c18 (k : Nat) (ns : List Int) : ∃ ds, Dr ds ∧ C (k + 1) 18 [.list (ns.map PyData.int)] = .ok (.list (ds.map PyData.int)) := by
  obtain ⟨ds, h1, h2⟩ := draws_ok (cs := csv) (cal := C k) (W := 100) (nm := "_law_draws") (sl := L42.f18.slots) rfl ns
  exact ⟨ds, h1, h2⟩
theorem c19 (k : Nat) {ds : List Int} (hd : Dr ds) (t many : Int) (t0 : 0 ≤ t) (t1 : t ≤ 1000000) (m0 : 0 < many) : ∃ m, C (k + 1) 19 [.list (ds.map PyData.int), .int t, .int many] = .ok (.int m) ∧ 0 ≤ m ∧ m < many := by
  obtain ⟨m, h1, h2⟩ := mix_ok (cs := csv) (cal := C k) (W := 100) (nm := "_law_mix") (sl := L42.f19.slots) rfl hd t0 t1 m0
  exact ⟨m, h1, h2⟩
theorem mul10 {t : Int} (h0 : 0 ≤ t) (h1 : t ≤ 1000000) : binD .mul (.int 10) (.int t) = .ok (.int (10 * t)) := bin_mul (mulOk_of (by omega) (by omega))
def wrD (p : II) : D := .list (([p.1, p.2].filter fun i => !inS i).map .int)
def f22_b1_x1 : E := (.bin .add (.int 10) (.bin .mul (.int 10) (.var 2)))
def f22_b1_s1 : S := (.set (.nm 3) f22_b1_x1)
def f22_b1_x2 : E := (.tup (.cons (.idx (.lst (.cons (.int 1) (.cons (.int 4) (.cons (.int 12) (.cons (.int 0) (.cons (.int 13) (.cons (.neg (.int 1)) .nil))))))) (.call 19 (.cons (.var 1) (.cons (.var 3) (.cons (.int 6) .nil))))) (.cons (.idx (.lst (.cons (.int 1) (.cons (.int 3) (.cons (.int 5) (.cons (.int 0) (.cons (.int 13) .nil)))))) (.call 19 (.cons (.var 1) (.cons (.bin .add (.var 3) (.int 1)) (.cons (.int 5) .nil))))) .nil)))
def f22_b1_s2 : S := (.set (.nm 4) f22_b1_x2)
def f22_b1_x3 : E := (.idx (.lst (.cons (.tup (.cons (.int 1) (.cons (.int 2) .nil))) (.cons (.tup (.cons (.int 0) (.cons (.int 1) .nil))) (.cons (.tup (.cons (.int 8) (.cons (.int 8) .nil))) (.cons (.tup (.cons (.int 2) (.cons (.int 1) .nil))) (.cons (.tup (.cons (.int 0) (.cons (.int 0) .nil))) (.cons (.tup (.cons (.int 1) (.cons (.int 9) .nil))) (.cons (.tup (.cons (.neg (.int 1)) (.cons (.int 2) .nil))) (.cons (.tup (.cons (.int 0) (.cons (.neg (.int 1)) .nil))) .nil))))))))) (.call 19 (.cons (.var 1) (.cons (.bin .add (.var 3) (.int 2)) (.cons (.int 8) .nil)))))
def f22_b1_s3 : S := (.set (.nm 5) f22_b1_x3)
def f22_b1_x4 : E := (.idx (.lst (.cons (.tup (.cons (.int 0) (.cons (.int 0) .nil))) (.cons (.tup (.cons (.int 0) (.cons (.int 0) .nil))) (.cons (.tup (.cons (.int 0) (.cons (.int 12) .nil))) (.cons (.tup (.cons (.neg (.int 1)) (.cons (.int 0) .nil))) (.cons (.tup (.cons (.int 13) (.cons (.int 0) .nil))) .nil)))))) (.call 19 (.cons (.var 1) (.cons (.bin .add (.var 3) (.int 3)) (.cons (.int 5) .nil)))))
def f22_b1_s4 : S := (.set (.nm 6) f22_b1_x4)
def f22_b1_x5 : E := (.idx (.lst (.cons (.tup (.cons (.int 0) (.cons (.int 0) .nil))) (.cons (.tup (.cons (.int 0) (.cons (.int 0) .nil))) (.cons (.tup (.cons (.int 0) (.cons (.int 12) .nil))) (.cons (.tup (.cons (.neg (.int 1)) (.cons (.int 0) .nil))) (.cons (.tup (.cons (.int 13) (.cons (.int 0) .nil))) .nil)))))) (.call 19 (.cons (.var 1) (.cons (.bin .add (.var 3) (.int 4)) (.cons (.int 5) .nil)))))
def f22_b1_s5 : S := (.set (.nm 7) f22_b1_x5)
def f22_b1_x6 : E := f22_c1
def f22_b1_s6 : S := (.set (.nm 8) f22_b1_x6)
def f22_b1_x7 : E := (.idx (.lst (.cons (.tup (.cons (.str "leaper") (.cons (.int 0) .nil))) (.cons .non .nil))) (.blt .int (.cons (.and (.chn3 .le (.int 0) (.idx (.var 5) (.int 0)) .le (.idx (.var 5) (.int 1)) .le (.int 8)) (.one (.cmp .gt (.idx (.var 5) (.int 1)) (.int 0)))) .nil)))
def f22_b1_s7 : S := (.set (.nm 9) f22_b1_x7)
def f22_b1_x8 : E := (.or (.idx (.lst (.cons .non (.cons (.tup (.cons (.str "side") (.cons (.idx (.bin .add (.var 8) (.lst (.cons (.int 0) .nil))) (.int 0)) .nil))) .nil))) (.blt .int (.cons (.cmp .ne (.var 8) (.lst .nil)) .nil))) (.one (.var 9)))
def f22_b1_s8 : S := (.set (.nm 10) f22_b1_x8)
def f22_b1_x9 : E := f22_c2
def f22_b1_s9 : S := (.set (.nm 11) f22_b1_x9)
def f22_b1_x10 : E := (.or (.var 10) (.one (.idx (.lst (.cons (.tup (.cons (.str "square") (.cons (.int 0) .nil))) (.cons .non .nil))) (.blt .int (.cons (.idx (.var 11) (.int 0)) .nil)))))
def f22_b1_s10 : S := (.set (.nm 12) f22_b1_x10)
def f22_b1_x11 : E := (.or (.var 12) (.one (.idx (.lst (.cons (.tup (.cons (.str "square") (.cons (.int 1) .nil))) (.cons .non .nil))) (.blt .int (.cons (.idx (.var 11) (.int 1)) .nil)))))
def f22_b1_s11 : S := (.set (.nm 13) f22_b1_x11)
def f22_b1_s12 : S := (.ite (.cmp .ne f22_c3 (.bin .add (.bin .add (.rep (.lst (.cons (.var 9) .nil)) (.int 3)) (.rep (.lst (.cons (.var 10) .nil)) (.int 4))) (.lst (.cons (.var 12) (.cons (.var 13) .nil))))) (.seq (.ret (.bl false))
  .skip)
  .skip)
theorem f22_b1_eq : f22_b1 = (.seq f22_b1_s1 (.seq f22_b1_s2 (.seq f22_b1_s3 (.seq f22_b1_s4 (.seq f22_b1_s5 (.seq f22_b1_s6 (.seq f22_b1_s7 (.seq f22_b1_s8 (.seq f22_b1_s9 (.seq f22_b1_s10 (.seq f22_b1_s11 (.seq f22_b1_s12 .skip)))))))))))) := rfl
theorem kl_ok : PyData.strOk "leaper" = true ∧ PyData.strOk "side" = true ∧ PyData.strOk "square" = true := by decide +kernel
def WOk (f : Ft) : Prop := ∀ p, f = some p → PyData.strOk p.1 = true
theorem WOk.or {f g : Ft} (hf : WOk f) (hg : WOk g) : WOk (Ft.or f g) := by
  cases f with
  | none => exact hg
  | some p => exact hf
theorem w_lame (q : II) : WOk (lame q) := fun p h => by
  unfold lame at h
  split at h
  · cases h
  · cases h; exact kl_ok.1
theorem w_dueR (q : II) : WOk (dueR q) := fun p h => by
  unfold dueR at h
  split at h
  · split at h
    · cases h
    · cases h; exact kl_ok.2.1
  · cases h; exact kl_ok.2.1
theorem w_sp1 (r s : II) : WOk (sp1 r s) := fun p h => by
  unfold sp1 at h
  split at h
  · cases h
  · cases h; exact kl_ok.2.2
theorem w_sp2 (r s : II) : WOk (sp2 r s) := fun p h => by
  unfold sp2 at h
  split at h
  · cases h
  · cases h; exact kl_ok.2.2
theorem w_due (z : II × II) : WOk (due z) := (w_dueR _).or (w_lame _)
theorem ft_flat {f : Ft} (hf : WOk f) : PyData.canLay0 (eFt f) = true ∧ PyData.depth (eFt f) ≤ 1 ∧ PyData.eqv (eFt f) (eFt f) = true := by
  cases f with
  | none => exact ⟨rfl, Nat.zero_le _, rfl⟩
  | some p =>
    have := hf p rfl
    simp [eFt, PyData.canLay0, PyData.canLayAll0, PyData.depth, PyData.depthAll, PyData.eqv, PyData.eqvAll, this]
theorem fts_flat : ∀ l : List Ft, (∀ f ∈ l, WOk f) → PyData.canLayAll0 (l.map eFt) = true ∧ PyData.depthAll (l.map eFt) ≤ 1 ∧ PyData.eqvAll (l.map eFt) (l.map eFt) = true
  | [], _ => ⟨rfl, Nat.zero_le _, rfl⟩
  | f :: l, h => by
    obtain ⟨h1, h2, h3⟩ := fts_flat l fun g hg => h g (by simp [hg])
    obtain ⟨k1, k2, k3⟩ := ft_flat (h f (by simp))
    simp only [List.map_cons, PyData.canLayAll0, PyData.depthAll, PyData.eqvAll, h1, h3, k1, k3, Bool.and_self]
    exact ⟨trivial, by omega, trivial⟩
theorem ne_fts (l : List Ft) (h : ∀ f ∈ l, WOk f) : cmpD .ne (.list (l.map eFt)) (.list (l.map eFt)) = .ok false := by
  obtain ⟨h1, h2, h3⟩ := fts_flat l h
  have hf : flat (.list (l.map eFt)) = true := by
    simp only [flat, SeqAt.shaped, PyData.canLay0, PyData.depth, h1, Bool.true_and]
    exact decide_eq_true (by omega)
  have he : PyData.eqv (.list (l.map eFt)) (.list (l.map eFt)) = true := by rw [PyData.eqv]; exact h3
  show grd (flat _ && flat _) (.ok (!PyData.eqv _ _)) = _
  rw [hf, he]
  rfl
@[simp] theorem tr_tup (x : D) (r : List D) : Mt.truthy (PyData.tuple (x :: r)) = R.ok true := (rfl)
@[simp] theorem tr_none : Mt.truthy PyData.none = R.ok false := (rfl)
theorem or_ft {cs : List D} {cal : Nat → List D → R D} {a b : E} {e : Sg} {f g : Ft} (ha : evE cs cal a e = .ok (eFt f)) (hb : f = none → evE cs cal b e = .ok (eFt g)) : evE cs cal (.or a (.one b)) e = .ok (eFt (f.or g)) := by
  rw [ev_or, ha, R.bind_ok]
  cases f with
  | none =>
    show (Mt.truthy PyData.none).bind _ = _
    rw [tr_none, R.bind_ok, if_neg (by decide), ev_one]
    exact hb rfl
  | some p =>
    show (Mt.truthy (PyData.tuple _)).bind _ = _
    rw [tr_tup, R.bind_ok, if_pos rfl]
    rfl
section
variable {a0 a1 a2 a3 a4 a5 a6 a7 a8 a9 a10 a11 a12 a13 : Option D}
theorem g6 : (rl.map fun p => evE csv (C 9) f22_b1_x6 (eT a0 a1 a2 a3 (some (eP p)) a5 a6 a7 a8 a9 a10 a11 a12 a13)) = rl.map fun p => .ok (wrD p) := by kernel_rfl
theorem g7 : (ll.map fun q => evE csv (C 9) f22_b1_x7 (eT a0 a1 a2 a3 a4 (some (eP q)) a6 a7 a8 a9 a10 a11 a12 a13)) = ll.map fun q => .ok (eFt (lame q)) := by kernel_rfl
theorem g8 : (RL.map fun z => evE csv (C 9) f22_b1_x8 (eT a0 a1 a2 a3 a4 a5 a6 a7 (some (wrD z.1)) (some (eFt (lame z.2))) a10 a11 a12 a13)) = RL.map fun z => .ok (eFt (due z)) := by kernel_rfl
theorem g9 : ((prod rl (prod sl sl)).map fun x => evE csv (C 9) f22_b1_x9 (eT a0 a1 a2 a3 (some (eP x.1)) a5 (some (eP x.2.1)) (some (eP x.2.2)) a8 a9 a10 a11 a12 a13)) = (prod rl (prod sl sl)).map fun x => .ok (.list [.bool (inR x.1 x.2.1), .bool (inR x.1 x.2.2)]) := by kernel_rfl
theorem s10 {f : Ft} {r s : II} {b : D} : evE csv (C 9) f22_b1_x10 (eT a0 a1 a2 a3 a4 a5 a6 a7 a8 a9 (some (eFt f)) (some (.list [.bool (inR r s), b])) a12 a13) = .ok (eFt (f.or (sp1 r s))) := by
  refine or_ft (by simp) fun _ => ?_
  unfold sp1
  cases inR r s <;> rfl
theorem s11 {f : Ft} {r s : II} {b : D} : evE csv (C 9) f22_b1_x11 (eT a0 a1 a2 a3 a4 a5 a6 a7 a8 a9 a10 (some (.list [b, .bool (inR r s)])) (some (eFt f)) a13) = .ok (eFt (f.or (sp2 r s))) := by
  refine or_ft (by simp) fun _ => ?_
  unfold sp2
  cases inR r s <;> rfl
theorem s12 {z : II × II} {s t : II} (hz : z ∈ RL) (hs : s ∈ sl) (ht : t ∈ sl) : evS csv (C 9) 100 f22_b1_s12 (eT a0 a1 a2 a3 (some (eP z.1)) (some (eP z.2)) (some (eP s)) (some (eP t)) a8 (some (eFt (lame z.2))) (some (eFt (due z))) a11 (some (eFt (Ft.or (due z) (sp1 z.1 s)))) (some (eFt (Ft.or (Ft.or (due z) (sp1 z.1 s)) (sp2 z.1 t))))) = .nx (eT a0 a1 a2 a3 (some (eP z.1)) (some (eP z.2)) (some (eP s)) (some (eP t)) a8 (some (eFt (lame z.2))) (some (eFt (due z))) a11 (some (eFt (Ft.or (due z) (sp1 z.1 s)))) (some (eFt (Ft.or (Ft.or (due z) (sp1 z.1 s)) (sp2 z.1 t))))) := by
  have L := lc_map (cs := csv) (cal := C 9) (k := .rng1) (src := .cons (.int 9) .nil) (elt := .call 21 (.cons (.var 17) (.cons (.var 4) (.cons (.var 5) (.cons (.var 6) (.cons (.var 7) .nil)))))) (i := 17) (e := eT a0 a1 a2 a3 (some (eP z.1)) (some (eP z.2)) (some (eP s)) (some (eP t)) a8 (some (eFt (lame z.2))) (some (eFt (due z))) a11 (some (eFt (Ft.or (due z) (sp1 z.1 s)))) (some (eFt (Ft.or (Ft.or (due z) (sp1 z.1 s)) (sp2 z.1 t))))) (fun i : Nat => PyData.int i) (List.range 9) (fun w => eFt (dueW w z s t)) (rng_n (n := 9) rfl (by omega)) (by simp)
    (fun w hw => by
      have := of_ok hz hs ht (List.mem_range.mp hw)
      simp [this])
  have L2 : (List.range 9).map (fun w => eFt (dueW w z s t)) = [lame z.2, lame z.2, lame z.2, due z, due z, due z, due z, Ft.or (due z) (sp1 z.1 s), Ft.or (Ft.or (due z) (sp1 z.1 s)) (sp2 z.1 t)].map eFt := rfl
  rw [L2] at L
  have e2 := ne_fts [lame z.2, lame z.2, lame z.2, due z, due z, due z, due z, Ft.or (due z) (sp1 z.1 s), Ft.or (Ft.or (due z) (sp1 z.1 s)) (sp2 z.1 t)] (by
    intro f hf
    have w1 := w_lame z.2
    have w2 := w_due z
    have w3 := w2.or (w_sp1 z.1 s)
    have w4 := w3.or (w_sp2 z.1 t)
    simp only [List.mem_cons, List.not_mem_nil, or_false] at hf
    rcases hf with rfl | rfl | rfl | rfl | rfl | rfl | rfl | rfl | rfl <;> assumption)
  have rhs : evE csv (C 9) (.bin .add (.bin .add (.rep (.lst (.cons (.var 9) .nil)) (.int 3)) (.rep (.lst (.cons (.var 10) .nil)) (.int 4))) (.lst (.cons (.var 12) (.cons (.var 13) .nil)))) (eT a0 a1 a2 a3 (some (eP z.1)) (some (eP z.2)) (some (eP s)) (some (eP t)) a8 (some (eFt (lame z.2))) (some (eFt (due z))) a11 (some (eFt (Ft.or (due z) (sp1 z.1 s)))) (some (eFt (Ft.or (Ft.or (due z) (sp1 z.1 s)) (sp2 z.1 t))))) = .ok (.list ([lame z.2, lame z.2, lame z.2, due z, due z, due z, due z, Ft.or (due z) (sp1 z.1 s), Ft.or (Ft.or (due z) (sp1 z.1 s)) (sp2 z.1 t)].map eFt)) := by kernel_rfl
  unfold f22_b1_s12 f22_c3
  rw [es_ite, ev_cmp, L, R.bind_ok, rhs, R.bind_ok, unk_l, e2]
  simp
end
end L42
/-! k42: a turn, the law. -/
namespace L42
open PySem Mt Gu
section
variable {ds : List Int} {a0 a2 : Option D}
abbrev dD (ds : List Int) : D := .list (ds.map PyData.int)
theorem pick2 (hd : Dr ds) {x : Int} (x0 : 0 ≤ x) (x1 : x ≤ 10000) : ∃ p ∈ rl, evE csv (C 9) f22_b1_x2 (eT a0 (some (dD ds)) a2 (some (.int x)) none none none none none none none none none none) = .ok (eP p) := by
  obtain ⟨w, hw, e1⟩ := pick_of (cs := csv) (cal := C 9) (A := .lst (.cons (.int 1) (.cons (.int 4) (.cons (.int 12) (.cons (.int 0) (.cons (.int 13) (.cons (.neg (.int 1)) .nil))))))) (X := .var 3) (M := .int 6) (j := 19) (e := eT a0 (some (dD ds)) a2 (some (.int x)) none none none none none none none none none none) (l := [1, 4, 12, 0, 13, -1]) (enc := PyData.int) (ds := dD ds) (x := x) (m := 6) (c19 8 hd) rfl rfl rfl x0 (by omega) rfl (by omega) (by decide)
  obtain ⟨h, hh, e2⟩ := pick_of (cs := csv) (cal := C 9) (A := .lst (.cons (.int 1) (.cons (.int 3) (.cons (.int 5) (.cons (.int 0) (.cons (.int 13) .nil)))))) (X := .bin .add (.var 3) (.int 1)) (M := .int 5) (j := 19) (e := eT a0 (some (dD ds)) a2 (some (.int x)) none none none none none none none none none none) (l := [1, 3, 5, 0, 13]) (enc := PyData.int) (ds := dD ds) (x := x + 1) (m := 5) (c19 8 hd) rfl rfl (by simp) (by omega) (by omega) rfl (by omega) (by decide)
  refine ⟨(w, h), prod_mem hw hh, ?_⟩
  unfold f22_b1_x2
  rw [ev_tup, ev_cons, e1, R.bind_ok, ev_cons, e2]
  rfl
theorem pick3 (hd : Dr ds) {x : Int} {p : II} (x0 : 0 ≤ x) (x1 : x ≤ 10000) : ∃ q ∈ ll, evE csv (C 9) f22_b1_x3 (eT a0 (some (dD ds)) a2 (some (.int x)) (some (eP p)) none none none none none none none none none) = .ok (eP q) :=
  pick_of (ds := dD ds) (x := x + 2) (m := 8) (enc := eP) (l := ll) (c19 8 hd) rfl rfl (by simp) (by omega) (by omega) rfl (by omega) (by decide)
theorem pick4 (hd : Dr ds) {x : Int} {p q : II} (x0 : 0 ≤ x) (x1 : x ≤ 10000) : ∃ s ∈ sl, evE csv (C 9) f22_b1_x4 (eT a0 (some (dD ds)) a2 (some (.int x)) (some (eP p)) (some (eP q)) none none none none none none none none) = .ok (eP s) :=
  pick_of (ds := dD ds) (x := x + 3) (m := 5) (enc := eP) (l := sl) (c19 8 hd) rfl rfl (by simp) (by omega) (by omega) rfl (by omega) (by decide)
theorem pick5 (hd : Dr ds) {x : Int} {p q s : II} (x0 : 0 ≤ x) (x1 : x ≤ 10000) : ∃ t ∈ sl, evE csv (C 9) f22_b1_x5 (eT a0 (some (dD ds)) a2 (some (.int x)) (some (eP p)) (some (eP q)) (some (eP s)) none none none none none none none) = .ok (eP t) :=
  pick_of (ds := dD ds) (x := x + 4) (m := 5) (enc := eP) (l := sl) (c19 8 hd) rfl rfl (by simp) (by omega) (by omega) rfl (by omega) (by decide)
theorem turn_ok {sc : D} (hd : Dr ds) {n : Nat} (hn : n < 12) : ∃ e1, evS csv (C 9) 100 f22_b1 (eT (some sc) (some (dD ds)) (some (.int (n : Nat))) none none none none none none none none none none none) = .nx e1 ∧
    mask (eT (some sc) (some (dD ds)) none none none none none none none none none none none none) e1 = eT (some sc) (some (dD ds)) none none none none none none none none none none none none := by
  have m10 := mul10 (t := (n : Int)) (by omega) (by omega)
  have x0 : (0 : Int) ≤ 10 + 10 * (n : Int) := by omega
  have x1 : 10 + 10 * (n : Int) ≤ 10000 := by omega
  obtain ⟨p, hp, e2⟩ := pick2 (a0 := some sc) (a2 := some (.int (n : Nat))) hd x0 x1
  obtain ⟨q, hq, e3⟩ := pick3 (a0 := some sc) (a2 := some (.int (n : Nat))) (p := p) hd x0 x1
  obtain ⟨s, hs, e4⟩ := pick4 (a0 := some sc) (a2 := some (.int (n : Nat))) (p := p) (q := q) hd x0 x1
  obtain ⟨t, ht, e5⟩ := pick5 (a0 := some sc) (a2 := some (.int (n : Nat))) (p := p) (q := q) (s := s) hd x0 x1
  have hz : (p, q) ∈ RL := prod_mem hp hq
  refine ⟨eT (some sc) (some (dD ds)) (some (.int (n : Nat))) (some (.int (10 + 10 * (n : Int)))) (some (eP p)) (some (eP q)) (some (eP s)) (some (eP t)) (some (wrD p)) (some (eFt (lame q))) (some (eFt (due (p, q)))) (some (.list [.bool (inR p s), .bool (inR p t)])) (some (eFt (Ft.or (due (p, q)) (sp1 p s)))) (some (eFt (Ft.or (Ft.or (due (p, q)) (sp1 p s)) (sp2 p t)))), ?_, ?_⟩
  · rw [f22_b1_eq]
    refine seq_nx _ (set_ok (d := .int (10 + 10 * (n : Int))) (by unfold f22_b1_x1; simp [m10])) ?_
    refine seq_nx _ (set_ok e2) ?_
    refine seq_nx _ (set_ok e3) ?_
    refine seq_nx _ (set_ok e4) ?_
    refine seq_nx _ (set_ok e5) ?_
    refine seq_nx _ (set_ok (map_at (g6 (a0 := some sc) (a1 := some (dD ds)) (a2 := some (.int (n : Nat))) (a3 := some (.int (10 + 10 * (n : Int)))) (a5 := some (eP q)) (a6 := some (eP s)) (a7 := some (eP t)) (a8 := none) (a9 := none) (a10 := none) (a11 := none) (a12 := none) (a13 := none)) p hp)) ?_
    refine seq_nx _ (set_ok (map_at (g7 (a0 := some sc) (a1 := some (dD ds)) (a2 := some (.int (n : Nat))) (a3 := some (.int (10 + 10 * (n : Int)))) (a4 := some (eP p)) (a6 := some (eP s)) (a7 := some (eP t)) (a8 := some (wrD p)) (a9 := none) (a10 := none) (a11 := none) (a12 := none) (a13 := none)) q hq)) ?_
    refine seq_nx _ (set_ok (map_at (g8 (a0 := some sc) (a1 := some (dD ds)) (a2 := some (.int (n : Nat))) (a3 := some (.int (10 + 10 * (n : Int)))) (a4 := some (eP p)) (a5 := some (eP q)) (a6 := some (eP s)) (a7 := some (eP t)) (a10 := none) (a11 := none) (a12 := none) (a13 := none)) (p, q) hz)) ?_
    refine seq_nx _ (set_ok (map_at (g9 (a0 := some sc) (a1 := some (dD ds)) (a2 := some (.int (n : Nat))) (a3 := some (.int (10 + 10 * (n : Int)))) (a5 := some (eP q)) (a8 := some (wrD p)) (a9 := some (eFt (lame q))) (a10 := some (eFt (due (p, q)))) (a11 := none) (a12 := none) (a13 := none)) (p, s, t) (prod_mem hp (prod_mem hs ht)))) ?_
    refine seq_nx _ (set_ok (s10 (a0 := some sc) (a1 := some (dD ds)) (a2 := some (.int (n : Nat))) (a3 := some (.int (10 + 10 * (n : Int)))) (a4 := some (eP p)) (a5 := some (eP q)) (a6 := some (eP s)) (a7 := some (eP t)) (a8 := some (wrD p)) (a9 := some (eFt (lame q))) (a12 := none) (a13 := none) (f := due (p, q)) (r := p) (s := s) (b := .bool (inR p t)))) ?_
    refine seq_nx _ (set_ok (s11 (a0 := some sc) (a1 := some (dD ds)) (a2 := some (.int (n : Nat))) (a3 := some (.int (10 + 10 * (n : Int)))) (a4 := some (eP p)) (a5 := some (eP q)) (a6 := some (eP s)) (a7 := some (eP t)) (a8 := some (wrD p)) (a9 := some (eFt (lame q))) (a10 := some (eFt (due (p, q)))) (a13 := none) (f := Ft.or (due (p, q)) (sp1 p s)) (r := p) (s := t) (b := .bool (inR p s)))) ?_
    exact seq_nx _ (s12 (z := (p, q)) hz hs ht) rfl
  · simp only [eT, mk_v, mk_n, mk_0]
end
theorem law (ns : List Int) : C 10 22 [.list (ns.map PyData.int)] = .ok (.bool true) := by
  obtain ⟨ds, hd, e18⟩ := c18 8 ns
  have run : C 10 22 [.list (ns.map PyData.int)] = (evS csv (C 9) 100 L42.f22.body (eT (some (.list (ns.map PyData.int))) none none none none none none none none none none none none none)).end_ := rfl
  rw [run]
  have body : evS csv (C 9) 100 L42.f22.body (eT (some (.list (ns.map PyData.int))) none none none none none none none none none none none none none) = .rt (.bool true) := by
    unfold L42.f22
    refine seq_nx (eT (some (.list (ns.map PyData.int))) (some (dD ds)) none none none none none none none none none none none none) (set_ok (d := dD ds) (by simp [e18])) ?_
    refine seq_nx (eT (some (.list (ns.map PyData.int))) (some (dD ds)) none none none none none none none none none none none none) ?_ rfl
    have it : ((evE csv (C 9) (.cons (.int 12) .nil) (eT (some (.list (ns.map PyData.int))) (some (dD ds)) none none none none none none none none none none none none)).bind unL).bind (itD .rng1) = .ok ((List.range 12).map fun i : Nat => PyData.int i) := rng_n (n := 12) rfl (by omega)
    rw [es_for, it, R.go_ok]
    refine forGo_id fun x hx => ?_
    obtain ⟨t, ht, rfl⟩ := List.mem_map.mp hx
    obtain ⟨e1, h1, h2⟩ := turn_ok (sc := .list (ns.map PyData.int)) hd (List.mem_range.mp ht)
    exact ⟨e1, asg_go h1, h2⟩
  rw [body]
  rfl
end L42
namespace LL
open PySem PySem.Spec PyProof.Rows L2 Mt
abbrev prog : Program := PySem.Challenge.pw_matestold_k42_errors_of_leapers
abbrev row : PySem.W.OpenLaw := PySem.Challenge.rw_matestold_k42_errors_of_leapers
def defsOf (P : Program) : List He.DefD := P.main.body.filterMap fun
  | .FunctionDef n a b _ _ _ sc _ _ _ => some ⟨(n, none), n, n, a, b, sc, [], []⟩
  | _ => none
def fn : List He.DefD := defsOf prog
theorem ok : fsOk true L42.xt L42.cs L42.fs fn = true := by decide +kernel
def loose : List PySem.Str := (["gcd", "ChessError", "BadSide", "BadSquare", "BadLeaper", "LEAST_SIDE", "MOST_SIDE", "MOST_LEAP", "check_leaper", "check_room", "check_squares", "leaps_of", "leaps", "class_of", "can_come", "near_of", "squares_of", "piece_of", "pieces_of", "pieces"] : List PySem.Str) ++ (["is_joined", "distances_of", "distances", "way", "is_way", "widest", "_law_draws", "_law_mix", "_law_name", "_law_of"] : List PySem.Str)
abbrev R : PySem.W.OpenRow := PySem.W.OpenLaw.row row
abbrev hk : PySem.W.Hook := hookM true L42.xt prog 5 fn L42.cs
def ob (s : PySem.W.SharedT) : He.AlD := obsMG true L42.xt prog 5 fn L42.cs (HandSHeadRun.getT s)
theorem ob_eq (s : PySem.W.SharedT) : ob s = hk.obs s.abs := obsMG_eq (HandSHeadRun.getT_eq s)
theorem run (w : World) : HandSHeadRun.RunEqI R (PySem.W.view R.prog [0, 34]) hk ob 20000 loose w := by
  unfold HandSHeadRun.RunEqI
  kernel_rfl
end LL
open PySem PySem.W PySem.Calls PyProof.Rows
theorem PySem.Challenge.cw_matestold_k42_errors_of_leapers_holds : PySem.Challenge.rw_matestold_k42_errors_of_leapers.Holds := by
  w_on; o_law
  refine HandSHeadRun.head_imp (r := OpenLaw.row LL.row) (q := view (OpenLaw.row LL.row).prog [0, 34]) (H := LL.hk) (ob := LL.ob) (M := 20000) (loose := LL.loose) (d := HandSHeadRun.topDef (OpenLaw.row LL.row).prog 34) (kwd := []) LL.ob_eq LL.run
    (by kernel_rfl) (by kernel_rfl) (by kernel_rfl) (by rfl) (by first | assumption | decide +kernel) (by decide +kernel) ⟨rfl, rfl, rfl, rfl, rfl, by decide +kernel⟩ ?hw ?hc
  case hw => w_witness2
  case hc => exact Mt.law_walk (l := LL.row) (gc := true) (xt := L42.xt) (fn := LL.fn) (cs := L42.cs) (fs := L42.fs) (m := 5) (k := 10) (j := 22) (W := 100) (n := 63) (x := "script") (f := L42.f22) LL.ok rfl (by decide) (by kernel_rfl) ⟨rfl, by decide, by decide⟩ rfl (by kernel_rfl) rfl rfl (fun ns _ => L42.law ns)
