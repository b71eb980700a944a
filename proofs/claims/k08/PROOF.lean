import PyProof.Rows.All
import Wide.All
import OpenK.AllK
import Wide.FinOn
import PySem.Challenge.RW_coneshoisted_k08_papers_and_arguments_of
import PyProof.EqLayable
import KE.DataMinMax
import KE.SortData
import PyProof.ReprRoads
import KE.KExcSuper
import KE.KSuper
import HandS.Base
import HandS.Call
import HandS.Exc
import HandS.ExcCtx
import HandS.ExcField
import HandS.HotCalls
import HandS.ForMost
import HandS.ForExc
import HandS.IsInst
import HandS.Deep
import HandS.Flow
import HandS.TupAny
import HandS.Wide
import HandS.RaiseMore
import HandS.CallLocal
import HandS.Zip
import HandS.SuiteRaise
import HandS.TupMul
import KE.SortCalls
import HandS.More
import HandS.SortInts
import HandS.Small
import KE.KTupSum
import HandS.DictComp
import HandS.ExcIs
import KE.KExcIs
import HandS.ExcValue
import KE.GoesEnum
import HandS.Conv
import HandS.SetFor
import HandS.Style
import HandS.Ends
import HandS.Defaults
set_option Elab.async false
set_option linter.all false
/-! Ci: data, store, the small language, its evaluator. -/
namespace Ci
open PySem

inductive D where
  | non | bl (b : Bool) | int (i : Int) | str (x : Str)
  | tup (xs : List D) | lst (xs : List D)
  | ref (n : Nat) | fn (n : Nat) | exc (c : Nat) (v : D)
  | scr (xs : List D)
  deriving Inhabited

mutual
/-- equal in every part -/
def D.beq : D → D → Bool
  | .non, .non => true
  | .bl a, .bl b => a == b
  | .int a, .int b => a == b
  | .str a, .str b => a == b
  | .tup a, .tup b => D.beqs a b
  | .lst a, .lst b => D.beqs a b
  | .ref a, .ref b => a == b
  | .fn a, .fn b => a == b
  | .exc a v, .exc b w => a == b && D.beq v w
  | .scr a, .scr b => D.beqs a b
  | _, _ => false
def D.beqs : List D → List D → Bool
  | [], [] => true
  | a :: as, b :: bs => D.beq a b && D.beqs as bs
  | _, _ => false
end
mutual
theorem D.beq_eq : ∀ {a b : D}, D.beq a b = true → a = b
  | .non, b, h => by cases b <;> first | rfl | (simp [D.beq] at h)
  | .bl a, b, h => by cases b <;> simp_all [D.beq]
  | .int a, b, h => by cases b <;> simp_all [D.beq]
  | .str a, b, h => by cases b <;> simp_all [D.beq]
  | .tup a, b, h => by
    cases b <;> simp only [D.beq, Bool.false_eq_true] at h
    rw [D.beqs_eq h]
  | .lst a, b, h => by
    cases b <;> simp only [D.beq, Bool.false_eq_true] at h
    rw [D.beqs_eq h]
  | .ref a, b, h => by cases b <;> simp_all [D.beq]
  | .fn a, b, h => by cases b <;> simp_all [D.beq]
  | .exc a v, b, h => by
    cases b <;> simp only [D.beq, Bool.false_eq_true, Bool.and_eq_true, beq_iff_eq] at h
    rw [h.1, D.beq_eq h.2]
  | .scr a, b, h => by
    cases b <;> simp only [D.beq, Bool.false_eq_true] at h
    rw [D.beqs_eq h]
theorem D.beqs_eq : ∀ {a b : List D}, D.beqs a b = true → a = b
  | [], [], _ => rfl
  | [], _ :: _, h => by simp [D.beqs] at h
  | _ :: _, [], h => by simp [D.beqs] at h
  | a :: as, b :: bs, h => by
    simp only [D.beqs, Bool.and_eq_true] at h
    rw [D.beq_eq h.1, D.beqs_eq h.2]
end

/-- a dict's keys: ints and texts -/
abbrev Ky := Sum Int Str
/-- an object that may change -/
inductive O where
  | lst (xs : List D) | dct (kvs : List (Ky × D))
  deriving Inhabited
abbrev Hs := List O
abbrev Sl := List (Option D)
inductive R (α : Type) where
  | ok (a : α) (h : Hs) | exc (c : Nat) (v : D) (h : Hs) | bad
def R.bind {α β : Type} : R α → (α → Hs → R β) → R β
  | .ok a h, f => f a h
  | .exc c v h, _ => .exc c v h
  | .bad, _ => .bad

/-! ### data -/
mutual
/-- no reference, def or exception within -/
def D.pure : D → Bool
  | .tup xs | .lst xs => D.pures xs
  | .ref _ | .fn _ | .exc _ _ | .scr _ => false
  | _ => true
def D.pures : List D → Bool
  | [] => true
  | x :: xs => D.pure x && D.pures xs
end
mutual
/-- no reference or exception within (defs may be) -/
def D.clear : D → Bool
  | .tup xs | .lst xs => D.clears xs
  | .ref _ | .exc _ _ | .scr _ => false
  | _ => true
def D.clears : List D → Bool
  | [] => true
  | x :: xs => D.clear x && D.clears xs
end
mutual
/-- no exception within -/
def D.noExc : D → Bool
  | .tup xs | .lst xs | .scr xs => D.noExcs xs
  | .exc _ _ => false
  | _ => true
def D.noExcs : List D → Bool
  | [] => true
  | x :: xs => D.noExc x && D.noExcs xs
end
def O.noExc : O → Bool
  | .lst xs => D.noExcs xs
  | .dct kvs => D.noExcs (kvs.map (·.2))
mutual
def D.py : D → PyData
  | .non => .none
  | .bl b => .bool b
  | .int i => .int i
  | .str x => .str x
  | .tup xs => .tuple (D.pys xs)
  | .lst xs => .list (D.pys xs)
  | .ref _ | .fn _ | .exc _ _ | .scr _ => .dict []
def D.pys : List D → List PyData
  | [] => []
  | x :: xs => D.py x :: D.pys xs
end
def D.scal : D → Bool
  | .non | .bl _ | .int _ | .str _ => true
  | _ => false
def D.eqOk (d : D) : Bool := d.pure && SeqAt.shaped d.py
/-- what is read: a changing list as it is now -/
def rd (h : Hs) : D → D
  | .ref n => match h[n]? with
    | some (.lst xs) => .lst xs
    | _ => .ref n
  | d => d
def kyOf : D → Option Ky
  | .int i => some (.inl i)
  | .str x => some (.inr x)
  | _ => none
def kyD : Ky → D
  | .inl i => .int i
  | .inr x => .str x
/-- what stands under a key -/
def dval (kvs : List (Ky × D)) (k : Ky) : Option D := (kvs.find? fun kv => decide (kv.1 = k)).map (·.2)
def dput (kvs : List (Ky × D)) (k : Ky) (v : D) : List (Ky × D) :=
  if (kvs.any fun kv => decide (kv.1 = k)) = true then kvs.map (fun kv => if kv.1 = k then (kv.1, v) else kv) else kvs ++ [(k, v)]
def dputs (kvs : List (Ky × D)) : List (Ky × D) → List (Ky × D)
  | [] => kvs
  | (k, v) :: r => dputs (dput kvs k v) r
/-- a dict -/
def dct (h : Hs) : D → Option (List (Ky × D))
  | .ref n => match h[n]? with
    | some (.dct kvs) => some kvs
    | _ => none
  | _ => none
/-- the changing lists within as they are now -/
def thaw (h : Hs) : Nat → D → D
  | 0, d => d
  | k + 1, d => match rd h d with
    | .tup xs => .tup (xs.map (thaw h k))
    | .lst xs => .lst (xs.map (thaw h k))
    | e => e

/-! ### the language -/
inductive Bl where
  | len | all | any | tuple | list | abs | int | sum | max1 | min1 | max2 | min2 | sorted | repr | str
  deriving DecidableEq
inductive Me where
  | append | index | count | extend | pop | remove
  deriving DecidableEq
inductive Ty where
  | int | bool | str | tuple | list
  deriving DecidableEq
mutual
inductive Tg where
  | nm (i : Nat) | tp (ts : Tgs)
inductive Tgs where
  | nil | cons (t : Tg) (ts : Tgs)
end
mutual
inductive E where
  | nope | omit
  | var (i : Nat) | lit (d : D) | glb (x : Str) (d : D) | fn (i : Nat)
  | bin (op : Operator) (a b : E) | neg (a : E)
  | not_ (a : E) | and_ (a b : E) | or_ (a b : E) | ife (c a b : E)
  | cmp (o : CmpOp) (a b : E) | cmp2 (o p : CmpOp) (a b c : E) | cmp3 (o p q : CmpOp) (a b c d : E)
  | isN (a : E) | noN (a : E)
  | tup (es : Es) | il (l : L) | ml (l : L)
  | ix (a b : E) | sl (a lo hi : E) | rev (a : E) | rlist (t : Bool) (a b : E) | dc (k v : E) (own : List Nat) (tg : Tg) (it : It) (cond : E)
  | call (f : Nat) (es : Es) | pcall (f : Nat) (es : Es) | vcall (i : Nat) (es : Es) | pvcall (i : Nat) (es : Es)
  | isI (a : E) (t : Ty) | isC (a : E) (c : Nat)
  | blt (b : Bl) (es : Es) | meth (m : Me) (a : E) (es : Es) | attr (a : E) (k : Nat)
  | dget (a k d : E) | mdct | mrep (a b : E) | mcat (a b : E)
  | dget1 (a k : E) | md1 (k v : E) | inv (a : E) | pop0 (a : E) | pcallD (f : Nat) (es : Es) (d : D)
inductive Es where
  | nil | cons (e : E) (es : Es)
inductive L where
  | disp (es : Es) | comp (elt : E) (own : List Nat) (tg : Tg) (it : It) (cond : E)
  | compC (e : Bool) (elt : E) (own : List Nat) (tg : Tg) (i : Nat) (cond : E)
  | comp2 (elt : E) (own : List Nat) (tg : Tg) (it : It) (cond : E) (own1 : List Nat) (tg1 : Tg) (it1 : It) (cond1 : E)
inductive It where
  | val (e : E) | rng1 (a : E) | rng2 (a b : E) | enum (e : E) | zip2 (a b : E) | rng3 (a b c : E)
end
def E.isOmit : E → Bool
  | .omit => true
  | _ => false
inductive St where
  | asg (t : Tg) (e : E) | set (a i e : E) | augx (a i : E) (op : Operator) (e : E) | aug (i : Nat) (op : Operator) (e : E)
  | ex (e : E) | ret (e : E) | retn | ife (c : E) (s t : St) | for_ (t : Tg) (it : It) (s : St) | whl (c : E) (s : St)
  | rais (c : Nat) (e : E) | try_ (s : St) (c i : Nat) (t : St) | brk | cnt | pass | skip | nope | seq (s t : St)
  | enr (i : Nat) (a elt : E) (own : List Nat) (tg : Tg) (cond : E)
  | asg2 (i j : Nat) (e : E) | asg3 (i j l : Nat) (e : E) | set2 (a i b j e : E)

/-! ### values -/
def okL (n : Nat) : Bool := decide (n ≤ sizeLine)
def addD : D → D → Option D
  | .int a, .int b => some (.int (a + b))
  | .str a, .str b => if okL (a.length + b.length) then some (.str (a ++ b)) else none
  | .tup a, .tup b => if okL (a.length + b.length) then some (.tup (a ++ b)) else none
  | .lst a, .lst b => if okL (a.length + b.length) then some (.lst (a ++ b)) else none
  | _, _ => none
def mulOk (a b : Int) : Bool := decide (a.natAbs.log2 + b.natAbs.log2 < 1000000)
def binD : Operator → D → D → Option D
  | .Add, a, b => addD a b
  | .Sub, .int a, .int b => some (.int (a - b))
  | .Mult, .int a, .int b => if mulOk a b then some (.int (a * b)) else none
  | .Mult, .tup a, .int k => if decide (0 ≤ k) && decide (k ≤ 2000) && decide (a.length ≤ 2000) && !a.isEmpty then some (.tup (List.replicate k.toNat a).flatten) else none
  | .Mult, .lst a, .int k => if decide (0 ≤ k) && decide (k ≤ 2000) && decide (a.length ≤ 2000) then some (.lst (List.replicate k.toNat a).flatten) else none
  | .FloorDiv, .int a, .int b => if decide (0 < b) && decide (b.natAbs.log2 < 9000) then some (.int (a / b)) else none
  | .Mod, .int a, .int b => if decide (0 < b) then some (.int (a % b)) else none
  | .Pow, .int a, .int b => if decide (0 ≤ b) && decide (b ≤ 100) && decide (a.natAbs ≤ 1000) then some (.int (a ^ b.toNat)) else none
  | .BitAnd, .int a, .int b => some (.int (Builtin.bitAnd a b))
  | .BitOr, .int a, .int b => some (.int (Builtin.bitOr a b))
  | .LShift, .int a, .int b => if decide (0 ≤ b) && decide (b ≤ 100) && decide (a.natAbs ≤ 1000) then some (.int (a * 2 ^ b.toNat)) else none
  | .RShift, .int a, .int b => if decide (0 ≤ b) then some (.int (a / 2 ^ b.toNat)) else none
  | _, _, _ => none
/-- one of several, from behind too -/
def ixI (n : Nat) (i : Int) : Option Nat := if 0 ≤ i then (if i < n then some i.toNat else none) else if -(n : Int) ≤ i then some (i + n).toNat else none
def atD (xs : List D) (i : Int) : Option D := (ixI xs.length i).bind fun j => xs[j]?
def chD (s : Str) (i : Int) : Option D := ((ixI s.cps.toList.length i).bind fun j => s.cps.toList[j]?).map fun c => .str ⟨#[c]⟩
def ixD : D → D → Option D
  | .tup xs, .int i => atD xs i
  | .lst xs, .int i => atD xs i
  | .str s, .int i => if okL s.length then chD s i else none
  | _, _ => none
def cutI (n : Nat) (d : Nat) : Option Int → Nat
  | none => d
  | some i => if i < 0 then (i + n).toNat else min i.toNat n
def cutL (xs : List D) (lo hi : Option Int) : List D := (xs.drop (cutI xs.length 0 lo)).take (cutI xs.length xs.length hi - cutI xs.length 0 lo)
def slD : D → Option Int → Option Int → Option D
  | .tup xs, lo, hi => some (.tup (cutL xs lo hi))
  | .lst xs, lo, hi => some (.lst (cutL xs lo hi))
  | _, _, _ => none
def eqD (a b : D) : Option Bool := if a.eqOk && b.eqOk then some (PyData.eqv a.py b.py) else none
def inD (a : D) : List D → Bool := fun xs => (D.pys xs).any fun z => PyData.eqv z a.py
def cmpD : CmpOp → D → D → Option Bool
  | .Eq, a, b => eqD a b
  | .NotEq, a, b => (eqD a b).map (!·)
  | .Lt, .int a, .int b => some (decide (a < b))
  | .LtE, .int a, .int b => some (decide (a ≤ b))
  | .Gt, .int a, .int b => some (decide (b < a))
  | .GtE, .int a, .int b => some (decide (b ≤ a))
  | .In, a, .lst xs => if a.eqOk && D.eqOk (.lst xs) then some (inD a xs) else none
  | .NotIn, a, .lst xs => if a.eqOk && D.eqOk (.lst xs) then some (!inD a xs) else none
  | .In, a, .tup xs => if a.eqOk && D.eqOk (.tup xs) then some (inD a xs) else none
  | .NotIn, a, .tup xs => if a.eqOk && D.eqOk (.tup xs) then some (!inD a xs) else none
  | _, _, _ => none
/-- truth -/
def truD : D → Option Bool
  | .non => some false
  | .bl b => some b
  | .int i => some (i != 0)
  | .str s => if okL s.length then some (s.length != 0) else none
  | .tup xs => some (!xs.isEmpty)
  | .lst xs => some (!xs.isEmpty)
  | _ => none
def intsOf : List D → Option (List Int)
  | [] => some []
  | .int i :: r => (intsOf r).map (i :: ·)
  | _ :: _ => none
def blsOf : List D → Option (List Bool)
  | [] => some []
  | .bl i :: r => (blsOf r).map (i :: ·)
  | _ :: _ => none
def seqD : D → Option (List D)
  | .tup xs => some xs
  | .lst xs => some xs
  | _ => none
def maxI : List Int → Int
  | [] => 0
  | [a] => a
  | a :: r => if maxI r ≤ a then a else maxI r
def minI : List Int → Int
  | [] => 0
  | [a] => a
  | a :: r => if a ≤ minI r then a else minI r
def isNonD : D → Bool
  | .non => true
  | _ => false
/-- in order -/
def insI (a : Int) : List Int → List Int
  | [] => [a]
  | b :: r => if a ≤ b then a :: b :: r else b :: insI a r
def sortI : List Int → List Int
  | [] => []
  | a :: r => insI a (sortI r)
def keysI : List (Ky × D) → Option (List Int)
  | [] => some []
  | (.inl i, _) :: r => (keysI r).map (i :: ·)
  | (.inr _, _) :: _ => none
/-- data that can be held against one another -/
def alikeB (xs : List D) : Bool := D.pures xs && (xs.all fun a => xs.all fun b => PySem.W.alike a.py b.py) && (xs.all fun a => !(isNonD a)) && decide (PyData.depthAll (D.pys xs) ≤ 64)
def minB : D → List D → D
  | a, [] => a
  | a, y :: r => minB (if PySem.W.dataLt y.py a.py then y else a) r
def maxB : D → List D → D
  | a, [] => a
  | a, y :: r => maxB (if PySem.W.dataLt a.py y.py then y else a) r
/-- data that are put in order: tuples, not empty -/
def sortB (xs : List D) : Bool := xs.all fun d => match d with
  | .tup (_ :: _) => true
  | _ => false
def bltD : Bl → List D → Option D
  | .len, [.str s] => if okL s.length then some (.int s.length) else none
  | .len, [d] => (seqD d).map fun xs => .int xs.length
  | .all, [.lst xs] => (blsOf xs).map fun bs => .bl (bs.all id)
  | .any, [.lst xs] => (blsOf xs).map fun bs => .bl (bs.any id)
  | .tuple, [d] => (seqD d).map .tup
  | .list, [.scr xs] => some (.lst xs)
  | .list, [d] => (seqD d).map .lst
  | .abs, [.int i] => some (.int (if i < 0 then -i else i))
  | .int, [.int i] => some (.int i)
  | .int, [.bl b] => some (.int (if b then 1 else 0))
  | .sum, [.lst xs] => (intsOf xs).map fun ns => .int ns.sum
  | .sum, [.tup xs] => (intsOf xs).map fun ns => .int ns.sum
  | .max1, [.lst xs] => match intsOf xs with
    | some ns => if ns.isEmpty then none else some (.int (maxI ns))
    | none => match xs with
      | [] => none
      | x :: r => if alikeB (x :: r) then some (maxB x r) else none
  | .min1, [.lst xs] => match intsOf xs with
    | some ns => if ns.isEmpty then none else some (.int (minI ns))
    | none => match xs with
      | [] => none
      | x :: r => if alikeB (x :: r) then some (minB x r) else none
  | .sorted, [.lst xs] => match intsOf xs with
    | some ns => if okL ns.length then some (.lst ((sortI ns).map .int)) else none
    | none => if alikeB xs && sortB xs && okL xs.length then some (.lst (xs.mergeSort (PySem.W.dataLe false D.py))) else none
  | .sorted, [.tup xs] => match intsOf xs with
    | some ns => if okL ns.length then some (.lst ((sortI ns).map .int)) else none
    | none => if alikeB xs && sortB xs && okL xs.length then some (.lst (xs.mergeSort (PySem.W.dataLe false D.py))) else none
  | .str, [.str a] => some (.str a)
  | .str, [.int i] => if decide (i.natAbs.log2 < 1920) then some (.str (Str.ofString (toString i))) else none
  | .max2, [.int a, .int b] => some (.int (if b > a then b else a))
  | .min2, [.int a, .int b] => some (.int (if b < a then b else a))
  | .repr, [d] => if d.pure && d.py.showable && !d.py.hasDict && decide (d.py.depth ≤ 60) && decide (d.py.shown.length ≤ sizeLine) then some (.str d.py.shown) else none
  | _, _ => none
def revD : D → Option D
  | .tup xs => some (.tup xs.reverse)
  | .lst xs => some (.lst xs.reverse)
  | _ => none
/-- a call whose one argument may be a dict -/
def bltH (h : Hs) (b : Bl) (xs : List D) : Option D := match b, xs with
  | .sorted, [d] => match dct h d with
    | some kvs => (keysI kvs).bind fun ks => if okL ks.length then some (.lst ((sortI ks).map .int)) else none
    | none => bltD .sorted [rd h d]
  | b, xs => bltD b (xs.map (rd h))
/-- lists of ranges -/
def rlistD (t : Bool) (a b : D) : Option D := match a, b with
  | .int i, .int j => if decide (-16777216 ≤ i) && decide (i ≤ 16777216) && decide (-16777216 ≤ j) && decide (j ≤ 16777216) && decide (j - i ≤ 16777216) then (let xs := (List.range (j - i).toNat).map fun k => D.int (i + (k : Nat)); some (if t then .tup xs else .lst xs)) else none
  | _, _ => none
/-- comparisons, dicts too -/
def cmpH (h : Hs) (o : CmpOp) (x y : D) : Option Bool := match o with
  | .In => match dct h y with
    | some kvs => (kyOf x).map fun k => (dval kvs k).isSome
    | none => cmpD .In (rd h x) (rd h y)
  | .NotIn => match dct h y with
    | some kvs => (kyOf x).map fun k => !(dval kvs k).isSome
    | none => cmpD .NotIn (rd h x) (rd h y)
  | o => cmpD o (rd h x) (rd h y)
def ixH (h : Hs) (x y : D) : Option D := match dct h x with
  | some kvs => (kyOf y).bind fun k => dval kvs k
  | none => ixD (rd h x) y
def isiD : D → Ty → Option Bool
  | .non, _ => some false
  | .bl _, t => some (t == .bool || t == .int)
  | .int _, t => some (t == .int)
  | .str _, t => some (t == .str)
  | .tup _, t => some (t == .tuple)
  | .lst _, t => some (t == .list)
  | _, _ => none

/-! ### the evaluator -/
section
variable (sub : Nat → Nat → Bool) (call : Nat → List D → Hs → R D)
def liftO {α : Type} (o : Option α) (h : Hs) : R α := match o with
  | some a => .ok a h
  | none => .bad
def wipe (S : Sl) : List Nat → Sl
  | [] => S
  | v :: vs => (wipe S vs).set v none
/-- where a walk takes its items -/
inductive Src where
  | fix (xs : List D) | dyn (n : Nat) | enm (n : Nat)
/-- a def called with data alone, in a store of its own -/
def pcallF (f : Nat) (ds : List D) (h : Hs) : R D :=
  if D.clears ds then match call f ds [] with
    | .ok d g => let e := thaw g 6 d; if e.clear then .ok e h else .bad
    | .exc c v _ => if v.scal then .exc c v h else .bad
    | .bad => .bad
  else .bad
mutual
def put (S : Sl) (d : D) : Tg → Option Sl
  | .nm i => if i < S.length then some (S.set i (some d)) else none
  | .tp ts => (seqD d).bind fun xs => puts S xs ts
def puts (S : Sl) : List D → Tgs → Option Sl
  | [], .nil => some S
  | x :: xs, .cons t ts => (put S x t).bind fun S' => puts S' xs ts
  | _, _ => none
end
/-- a comprehension's turns -/
def compF (turn : D → Hs → R (Option D)) : List D → Hs → R (List D)
  | [], h => .ok [] h
  | x :: xs, h => (turn x h).bind fun o h1 => (compF turn xs h1).bind fun ys h2 => match o with
    | some y => .ok (y :: ys) h2
    | none => .ok ys h2
/-- the item at a turn -/
def itm (src : Src) (h : Hs) (i : Nat) : Option D := match src with
  | .fix xs => xs[i]?
  | .dyn n => match h[n]? with
    | some (.lst xs) => xs[i]?
    | _ => none
  | .enm n => match h[n]? with
    | some (.lst xs) => (xs[i]?).map fun x => .tup [.int (i : Nat), x]
    | _ => none
/-- what is walked is no dict -/
def srcOk (src : Src) (h : Hs) : Bool := match src with
  | .fix _ => true
  | .dyn n => match h[n]? with
    | some (.dct _) => false
    | _ => true
  | .enm n => match h[n]? with
    | some (.dct _) => false
    | _ => true
def compG (turn : D → Hs → R (Option D)) (src : Src) : Nat → Nat → Hs → R (List D)
  | 0, _, _ => .bad
  | k + 1, i, h => match itm src h i with
    | some x => (turn x h).bind fun o h1 => (compG turn src k (i + 1) h1).bind fun ys h2 => match o with
      | some y => .ok (y :: ys) h2
      | none => .ok ys h2
    | none => if srcOk src h then .ok [] h else .bad
/-- a dict comprehension's turns -/
def compP (turn : D → Hs → R (Option (Ky × D))) (src : Src) : Nat → Nat → Hs → R (List (Ky × D))
  | 0, _, _ => .bad
  | k + 1, i, h => match itm src h i with
    | some x => (turn x h).bind fun o h1 => (compP turn src k (i + 1) h1).bind fun ys h2 => match o with
      | some y => .ok (y :: ys) h2
      | none => .ok ys h2
    | none => if srcOk src h then .ok [] h else .bad
def kvO (x y : D) (h : Hs) : R (Option (Ky × D)) := match kyOf x with
  | some k => .ok (some (k, y)) h
  | none => .bad
def rangeD (a b : Int) : Option (List D) :=
  if decide (-(2 ^ 62) ≤ a) && decide (a < 2 ^ 62) && decide (-(2 ^ 62) ≤ b) && decide (b < 2 ^ 62) then some ((List.range (b - a).toNat).map fun k => .int (a + (k : Nat))) else none
def rangeC (a b c : Int) : Option (List D) :=
  if decide (c ≠ 0) && decide (c.natAbs < 1073741824) && Builtin.Range.small a b c && decide (0 ≤ Builtin.Range.rangeSize a b c) then some ((List.range (Builtin.Range.rangeSize a b c).toNat).map fun k => .int (a + (k : Nat) * c)) else none
def enumD (i : Nat) : List D → List D
  | [] => []
  | x :: xs => .tup [.int (i : Nat), x] :: enumD (i + 1) xs
def zipD : List D → List D → List D
  | x :: xs, y :: ys => .tup [x, y] :: zipD xs ys
  | _, _ => []
/-- the data are not under another name in the store -/
def fixed (d : D) : Option (List D) := seqD d
def wfuel : Nat := 100000
def noX {α : Type} : R α → R α
  | .exc _ _ _ => .bad
  | r => r
def isLst (h : Hs) (d : D) : Bool := match rd h d with
  | .lst _ => true
  | _ => false
def methD (m : Me) (x : D) (ys : List D) (h2 : Hs) : R D := match m, x, ys with
    | .append, .ref n, [y] => match h2[n]? with
      | some (.lst xs) => if xs.length < sizeLine then .ok .non (h2.set n (.lst (xs ++ [y]))) else .bad
      | _ => .bad
    | .pop, .ref n, [.int i] => match h2[n]? with
      | some (.lst xs) => if decide (0 ≤ i) && decide (i < 2 ^ 62) then match xs[i.toNat]? with
        | some y => .ok y (h2.set n (.lst (xs.eraseIdx i.toNat)))
        | none => .bad
        else .bad
      | _ => .bad
    | .remove, .ref n, [.int i] => match h2[n]? with
      | some (.lst xs) => match intsOf xs with
        | some is => match is.findIdx? (fun j => decide (j = i)) with
          | some k => .ok .non (h2.set n (.lst (xs.eraseIdx k)))
          | none => .bad
        | none => .bad
      | _ => .bad
    | .extend, .ref n, [.lst ys] => match h2[n]? with
      | some (.lst xs) => if xs.length + ys.length ≤ sizeLine then .ok .non (h2.set n (.lst (xs ++ ys))) else .bad
      | _ => .bad
    | .index, x, [y] => match rd h2 x with
      | .lst xs => if D.eqOk (.lst xs) && y.eqOk then match (D.pys xs).findIdx? (fun z => PyData.eqv z y.py) with
        | some k => .ok (.int (k : Nat)) h2
        | none => .bad
        else .bad
      | _ => .bad
    | .count, x, [y] => match rd h2 x with
      | .lst xs => if D.eqOk (.lst xs) && y.eqOk then .ok (.int (((D.pys xs).countP fun z => PyData.eqv z y.py : Nat) : Int)) h2 else .bad
      | _ => .bad
    | _, _, _ => .bad
def tru (r : R D) : R Bool := r.bind fun x h => liftO (truD (rd h x)) h
def optI (r : R D) : R (Option Int) := r.bind fun x h => match x with
  | .int i => .ok (some i) h
  | _ => .bad
/-- turns that each give several -/
def compFL (turn : D → Hs → R (List D)) : List D → Hs → R (List D)
  | [], h => .ok [] h
  | x :: xs, h => (turn x h).bind fun zs h1 => (compFL turn xs h1).bind fun ys h2 => .ok (zs ++ ys) h2
def compGL (turn : D → Hs → R (List D)) (src : Src) : Nat → Nat → Hs → R (List D)
  | 0, _, _ => .bad
  | k + 1, i, h => match itm src h i with
    | some x => (turn x h).bind fun zs h1 => (compGL turn src k (i + 1) h1).bind fun ys h2 => .ok (zs ++ ys) h2
    | none => if srcOk src h then .ok [] h else .bad
/-- no reference to a changing thing within -/
def O.clear : O → Bool
  | .lst xs => D.clears xs
  | .dct kvs => D.clears (kvs.map (·.2))
/-- the slots as they are where things from n on are out of sight -/
def cutS (n : Nat) (S : Sl) : Sl := S.map fun o => match o with
  | some (.ref m) => if m < n then some (.ref m) else none
  | some d => if d.clear then some d else none
  | none => none
/-- a dict's keys, or a list's items and their places -/
def srcC (e : Bool) (o : O) : Option (List D) := match e, o with
  | false, .dct kvs => some (kvs.map fun kv => kyD kv.1)
  | true, .lst xs => some (enumD 0 xs)
  | _, _ => none
mutual
def ev : E → Sl → Hs → R D
  | .nope, _, _ => .bad
  | .omit, _, _ => .bad
  | .var i, S, h => match S[i]? with
    | some (some d) => .ok d h
    | _ => .bad
  | .lit d, _, h => .ok d h
  | .glb _ d, _, h => .ok d h
  | .fn i, _, h => .ok (.fn i) h
  | .bin op a b, S, h => (ev a S h).bind fun x h1 => (ev b S h1).bind fun y h2 => liftO (binD op (rd h2 x) (rd h2 y)) h2
  | .neg a, S, h => (ev a S h).bind fun x h1 => match x with
    | .int i => .ok (.int (-i)) h1
    | _ => .bad
  | .not_ a, S, h => (ev a S h).bind fun x h1 => liftO ((truD (rd h1 x)).map fun b => .bl (!b)) h1
  | .and_ a b, S, h => (ev a S h).bind fun x h1 => match truD (rd h1 x) with
    | some true => ev b S h1
    | some false => .ok x h1
    | none => .bad
  | .or_ a b, S, h => (ev a S h).bind fun x h1 => match truD (rd h1 x) with
    | some true => .ok x h1
    | some false => ev b S h1
    | none => .bad
  | .ife c a b, S, h => (tru (ev c S h)).bind fun k h1 => if k then ev a S h1 else ev b S h1
  | .cmp o a b, S, h => (ev a S h).bind fun x h1 => (ev b S h1).bind fun y h2 => liftO ((cmpH h2 o x y).map .bl) h2
  | .cmp2 o p a b c, S, h => (ev a S h).bind fun x h1 => (ev b S h1).bind fun y h2 => match cmpD o (rd h2 x) (rd h2 y) with
    | some true => (ev c S h2).bind fun z h3 => liftO ((cmpD p (rd h3 y) (rd h3 z)).map .bl) h3
    | some false => .ok (.bl false) h2
    | none => .bad
  | .cmp3 o p q a b c d, S, h => (ev a S h).bind fun x h1 => (ev b S h1).bind fun y h2 => match cmpD o (rd h2 x) (rd h2 y) with
    | some true => (ev c S h2).bind fun z h3 => match cmpD p (rd h3 y) (rd h3 z) with
      | some true => (ev d S h3).bind fun w h4 => liftO ((cmpD q (rd h4 z) (rd h4 w)).map .bl) h4
      | some false => .ok (.bl false) h3
      | none => .bad
    | some false => .ok (.bl false) h2
    | none => .bad
  | .isN a, S, h => (ev a S h).bind fun x h1 => .ok (.bl (isNonD x)) h1
  | .noN a, S, h => (ev a S h).bind fun x h1 => .ok (.bl (!isNonD x)) h1
  | .tup es, S, h => (evs es S h).bind fun xs h1 => if okL xs.length then .ok (.tup xs) h1 else .bad
  | .il l, S, h => (evL l S h).bind fun xs h1 => .ok (.lst xs) h1
  | .ml l, S, h => (evL l S h).bind fun xs h1 => .ok (.ref h1.length) (h1 ++ [.lst xs])
  | .ix a b, S, h => (ev a S h).bind fun x h1 => (ev b S h1).bind fun y h2 => liftO (ixH h2 x y) h2
  | .sl a lo hi, S, h => (ev a S h).bind fun x h1 => (if lo.isOmit then (.ok none h1 : R (Option Int)) else optI (ev lo S h1)).bind fun i h2 => (if hi.isOmit then (.ok none h2 : R (Option Int)) else optI (ev hi S h2)).bind fun j h3 => liftO (slD (rd h3 x) i j) h3
  | .rev a, S, h => (ev a S h).bind fun x h1 => liftO (revD (rd h1 x)) h1
  | .rlist t a b, S, h => (if a.isOmit then (.ok (.int 0) h : R D) else ev a S h).bind fun x h1 => (ev b S h1).bind fun y h2 => liftO (rlistD t x y) h2
  | .dc k v own tg it cond, S, h => (evI it S h).bind fun src h1 =>
    let turn : D → Hs → R (Option (Ky × D)) := fun x h2 => match put (wipe S own) x tg with
      | some S2 => noX ((if cond.isOmit then (.ok true h2 : R Bool) else tru (ev cond S2 h2)).bind fun c h3 => if c then (ev k S2 h3).bind fun y h4 => (ev v S2 h4).bind fun z h5 => kvO y z h5 else .ok none h3)
      | none => .bad
    (compP turn src wfuel 0 h1).bind fun ps h2 => .ok (.ref h2.length) (h2 ++ [.dct (dputs [] ps)])
  | .call f es, S, h => (evs es S h).bind fun xs h1 => call f xs h1
  | .pcall f es, S, h => (evs es S h).bind fun xs h1 => pcallF call f xs h1
  | .pcallD f es d, S, h => (evs es S h).bind fun xs h1 => pcallF call f (xs ++ [d]) h1
  | .vcall i es, S, h => match S[i]? with
    | some (some (.fn f)) => (evs es S h).bind fun xs h1 => call f xs h1
    | _ => .bad
  | .pvcall i es, S, h => match S[i]? with
    | some (some (.fn f)) => (evs es S h).bind fun xs h1 => pcallF call f xs h1
    | _ => .bad
  | .isI a t, S, h => (ev a S h).bind fun x h1 => liftO ((isiD (rd h1 x) t).map .bl) h1
  | .isC a c, S, h => (ev a S h).bind fun x h1 => match x with
    | .exc e _ => .ok (.bl (sub e c)) h1
    | _ => .bad
  | .blt b es, S, h => (evs es S h).bind fun xs h1 => liftO (bltH h1 b xs) h1
  | .meth m a es, S, h => (ev a S h).bind fun x h1 => if isLst h1 x then (evs es S h1).bind fun ys h2 => methD m x ys h2 else .bad
  | .attr a k, S, h => (ev a S h).bind fun x h1 => match x with
    | .exc e v => if sub e k then .ok v h1 else .bad
    | _ => .bad
  | .dget a k d, S, h => (ev a S h).bind fun x h1 => match dct h1 x with
    | some _ => (ev k S h1).bind fun y h2 => (ev d S h2).bind fun w h3 => match dct h3 x, kyOf y with
      | some kvs, some ky => .ok ((dval kvs ky).getD w) h3
      | _, _ => .bad
    | none => .bad
  | .mdct, _, h => .ok (.ref h.length) (h ++ [.dct []])
  | .dget1 a k, S, h => (ev a S h).bind fun x h1 => match dct h1 x with
    | some _ => (ev k S h1).bind fun y h2 => match dct h2 x, kyOf y with
      | some kvs, some ky => .ok ((dval kvs ky).getD .non) h2
      | _, _ => .bad
    | none => .bad
  | .md1 k v, S, h => ((ev k S h).bind fun x h1 => (ev v S h1).bind fun y h2 => match kyOf x with
    | some kk => (.ok [(kk, y)] h2 : R (List (Ky × D)))
    | none => .bad).bind fun ps h1 => .ok (.ref h1.length) (h1 ++ [.dct (dputs [] ps)])
  | .pop0 a, S, h => (ev a S h).bind fun x h1 => match x with
    | .ref n => match h1[n]? with
      | some (.lst xs) => match xs[xs.length - 1]? with
        | some y => .ok y (h1.set n (.lst xs.dropLast))
        | none => .bad
      | _ => .bad
    | _ => .bad
  | .inv a, S, h => (ev a S h).bind fun x h1 => match x with
    | .int i => .ok (.int (Builtin.bitNot i)) h1
    | _ => .bad
  | .mcat a b, S, h => (ev a S h).bind fun x h1 => (ev b S h1).bind fun y h2 => match rd h2 x, rd h2 y with
    | .lst xs, .lst ys => if okL (xs.length + ys.length) then .ok (.ref h2.length) (h2 ++ [.lst (xs ++ ys)]) else .bad
    | _, _ => .bad
  | .mrep a b, S, h => (ev a S h).bind fun x h1 => (ev b S h1).bind fun y h2 => match rd h2 x, y with
    | .lst xs, .int k => if decide (0 ≤ k) && decide (k ≤ 2000) && decide (xs.length ≤ 2000) then .ok (.ref h2.length) (h2 ++ [.lst (List.replicate k.toNat xs).flatten]) else .bad
    | _, _ => .bad
def evs : Es → Sl → Hs → R (List D)
  | .nil, _, h => .ok [] h
  | .cons e es, S, h => (ev e S h).bind fun x h1 => (evs es S h1).bind fun xs h2 => .ok (x :: xs) h2
def evL : L → Sl → Hs → R (List D)
  | .disp es, S, h => (evs es S h).bind fun xs h1 => if okL xs.length then .ok xs h1 else .bad
  | .comp elt own tg it cond, S, h => (evI it S h).bind fun src h1 =>
    let turn : D → Hs → R (Option D) := fun x h2 => match put (wipe S own) x tg with
      | some S2 => noX ((if cond.isOmit then (.ok true h2 : R Bool) else tru (ev cond S2 h2)).bind fun k h3 => if k then (ev elt S2 h3).bind fun y h4 => .ok (some y) h4 else .ok none h3)
      | none => .bad
    match src with
    | .fix xs => if okL xs.length then compF turn xs h1 else .bad
    | .dyn n => compG turn (.dyn n) wfuel 0 h1
    | .enm n => compG turn (.enm n) wfuel 0 h1
  | .comp2 elt own tg it cond own1 tg1 it1 cond1, S, h => (evI it S h).bind fun src h1 =>
    compGL (fun (x : D) (h2 : Hs) => match put (wipe S own) x tg with
      | some S2 => noX ((if cond.isOmit then (.ok true h2 : R Bool) else tru (ev cond S2 h2)).bind fun k h3 => if k then (evI it1 S2 h3).bind fun src1 h4 =>
          compG (fun (x1 : D) (h5 : Hs) => match put (wipe S2 own1) x1 tg1 with
            | some S3 => (if cond1.isOmit then (.ok true h5 : R Bool) else tru (ev cond1 S3 h5)).bind fun k1 h6 => if k1 then (ev elt S3 h6).bind fun y h7 => .ok (some y) h7 else .ok none h6
            | none => (.bad : R (Option D))) src1 4000 0 h4
        else .ok [] h3)
      | none => (.bad : R (List D))) src 4000 0 h1
  | .compC e elt own tg i cond, S, h => match S[i]? with
    | some (some (.ref n)) => match (h[n]?).bind (srcC e) with
      | some ks => if okL ks.length && ((h.take (n + 1)).all O.clear) then (noX (compF (fun (x : D) (h2 : Hs) => match put (wipe (cutS n S) own) x tg with
      | some S2 => noX ((if cond.isOmit then (.ok true h2 : R Bool) else tru (ev cond S2 h2)).bind fun k h3 => if k then (ev elt S2 h3).bind fun y h4 => .ok (some y) h4 else .ok none h3)
      | none => .bad) ks (h.take n))).bind fun ys h2 => if h2.length = n then .ok ys (h2 ++ h.drop n) else .bad
        else .bad
      | none => .bad
    | _ => .bad
def evI : It → Sl → Hs → R Src
  | .val e, S, h => (ev e S h).bind fun x h1 => match x with
    | .ref n => if srcOk (.dyn n) h1 then .ok (.dyn n) h1 else .bad
    | .scr xs => .ok (.fix xs) h1
    | .str _ => .bad
    | d => liftO ((seqD d).map .fix) h1
  | .rng1 a, S, h => (ev a S h).bind fun x h1 => match x with
    | .int j => liftO ((rangeD 0 j).map .fix) h1
    | _ => .bad
  | .rng2 a b, S, h => (ev a S h).bind fun x h1 => (ev b S h1).bind fun y h2 => match x, y with
    | .int i, .int j => liftO ((rangeD i j).map .fix) h2
    | _, _ => .bad
  | .rng3 a b c, S, h => (ev a S h).bind fun x h1 => (ev b S h1).bind fun y h2 => (ev c S h2).bind fun w h3 => match x, y, w with
    | .int i, .int j, .int k => liftO ((rangeC i j k).map .fix) h3
    | _, _, _ => .bad
  | .enum a, S, h => (ev a S h).bind fun x h1 => match x with
    | .lst xs => .ok (.fix (enumD 0 xs)) h1
    | .tup xs => .ok (.fix (enumD 0 xs)) h1
    | .ref n => if srcOk (.dyn n) h1 then .ok (.enm n) h1 else .bad
    | _ => .bad
  | .zip2 a b, S, h => (ev a S h).bind fun x h1 => (ev b S h1).bind fun y h2 => match x, y with
    | .lst xs, .lst ys => .ok (.fix (zipD xs ys)) h2
    | .tup xs, .tup ys => .ok (.fix (zipD xs ys)) h2
    | _, _ => .bad
end
def tst (e : E) (S : Sl) (h : Hs) : R Bool := tru (ev sub call e S h)
/-- how a statement ends -/
inductive RS where
  | nx (S : Sl) (h : Hs) | rt (d : D) (h : Hs) | bk (S : Sl) (h : Hs) | ct (S : Sl) (h : Hs) | exc (c : Nat) (v : D) (S : Sl) (h : Hs) | bad
def RS.andThen : RS → (Sl → Hs → RS) → RS
  | .nx S h, f => f S h
  | r, _ => r
/-- of an expression's end -/
def R.st {α : Type} : R α → Sl → (α → Hs → RS) → RS
  | .ok a h, _, f => f a h
  | .exc c v h, S, _ => .exc c v S h
  | .bad, _, _ => .bad
def forF (turn : D → Sl → Hs → RS) : List D → Sl → Hs → RS
  | [], S, h => .nx S h
  | x :: xs, S, h => match turn x S h with
    | .nx S' h' => forF turn xs S' h'
    | .ct S' h' => forF turn xs S' h'
    | .bk S' h' => .nx S' h'
    | r => r
def forG (turn : D → Sl → Hs → RS) (src : Src) : Nat → Nat → Sl → Hs → RS
  | 0, _, _, _ => .bad
  | k + 1, i, S, h => match itm src h i with
    | some x => match turn x S h with
      | .nx S' h' => forG turn src k (i + 1) S' h'
      | .ct S' h' => forG turn src k (i + 1) S' h'
      | .bk S' h' => .nx S' h'
      | r => r
    | none => if srcOk src h then .nx S h else .bad
def whlF (c : Sl → Hs → R Bool) (body : Sl → Hs → RS) : Nat → Sl → Hs → RS
  | 0, _, _ => .bad
  | k + 1, S, h => (c S h).st S fun b h1 => if b then match body S h1 with
      | .nx S' h' => whlF c body k S' h'
      | .ct S' h' => whlF c body k S' h'
      | .bk S' h' => .nx S' h'
      | r => r
    else .nx S h1
/-- xs[i] = v -/
def setD (xs : List D) (i : Int) (v : D) : Option (List D) := (ixI xs.length i).map fun j => xs.set j v
/-- o[k] = v -/
def setK (o k v : D) (h3 : Hs) (f : Hs → RS) : RS := match o with
  | .ref n => match h3[n]? with
    | some (.lst xs) => match k with
      | .int i => match setD xs i v with
        | some ys => f (h3.set n (.lst ys))
        | none => .bad
      | _ => .bad
    | some (.dct kvs) => match kyOf k with
      | some kk => if kvs.length < sizeLine then f (h3.set n (.dct (dput kvs kk v))) else .bad
      | none => .bad
    | none => .bad
  | _ => .bad
def augV (op : Operator) (x : Int) (y : D) : Option D := match op, y with
  | .Add, .int y => some (.int (x + y))
  | .Sub, .int y => some (.int (x - y))
  | _, _ => none
/-- o[j] = v, o a list -/
def augO (S : Sl) (o : D) (j : Int) (v : D) (h3 : Hs) : RS := match o with
  | .ref n => match h3[n]? with
    | some (.lst xs) => match setD xs j v with
      | some ys => .nx S (h3.set n (.lst ys))
      | none => .bad
    | _ => .bad
  | _ => .bad
def ex : St → Sl → Hs → RS
  | .asg t e, S, h => (ev sub call e S h).st S fun x h1 => match put S x t with
    | some S' => .nx S' h1
    | none => .bad
  | .set a i e, S, h => (ev sub call e S h).st S fun v h1 => (ev sub call a S h1).st S fun o h2 => (ev sub call i S h2).st S fun k h3 => setK o k v h3 fun h4 => .nx S h4
  | .set2 a i b j e, S, h => (ev sub call e S h).st S fun d h1 => match d with
    | .tup [v, w] => (ev sub call a S h1).st S fun o h2 => (ev sub call i S h2).st S fun k h3 => setK o k v h3 fun h4 => (ev sub call b S h4).st S fun o2 h5 => (ev sub call j S h5).st S fun k2 h6 => setK o2 k2 w h6 fun h7 => .nx S h7
    | _ => .bad
  | .augx a i op e, S, h => (ev sub call a S h).st S fun o h1 => (ev sub call i S h1).st S fun k h2 => match rd h2 o, k with
    | .lst xs, .int j => match atD xs j with
      | some (.int x) => (ev sub call e S h2).st S fun y h3 => match augV op x y with
        | some v => augO S o j v h3
        | none => .bad
      | _ => .bad
    | _, _ => .bad
  | .aug i op e, S, h => match S[i]? with
    | some (some (.int x)) => (ev sub call e S h).st S fun y h1 => match op, y with
      | .Add, .int y => .nx (S.set i (some (.int (x + y)))) h1
      | .Sub, .int y => .nx (S.set i (some (.int (x - y)))) h1
      | _, _ => .bad
    | _ => .bad
  | .ex e, S, h => (ev sub call e S h).st S fun _ h1 => .nx S h1
  | .ret e, S, h => (ev sub call e S h).st S fun x h1 => .rt x h1
  | .retn, _, h => .rt .non h
  | .ife c s t, S, h => (tst sub call c S h).st S fun b h1 => if b then ex s S h1 else ex t S h1
  | .for_ t it s, S, h => (evI sub call it S h).st S fun src h1 =>
    let turn : D → Sl → Hs → RS := fun x S h => match put S x t with
      | some S' => ex s S' h
      | none => .bad
    match src with
    | .fix xs => forF turn xs S h1
    | .dyn n => forG turn (.dyn n) wfuel 0 S h1
    | .enm n => forG turn (.enm n) wfuel 0 S h1
  | .whl c s, S, h => whlF (tst sub call c) (ex s) wfuel S h
  | .asg2 i j e, S, h => (ev sub call e S h).st S fun x h1 => match put S x (.nm i) with
    | some S' => match put S' x (.nm j) with
      | some S2 => .nx S2 h1
      | none => .bad
    | none => .bad
  | .asg3 i j l e, S, h => (ev sub call e S h).st S fun x h1 => match put S x (.nm i) with
    | some S' => match put S' x (.nm j) with
      | some S2 => match put S2 x (.nm l) with
        | some S3 => .nx S3 h1
        | none => .bad
      | none => .bad
    | none => .bad
  | .enr i a elt own tg cond, S, h => (ev sub call a S h).st S fun x h1 => match x with
    | .lst xs => if decide (i < S.length) then (ev sub call (.il (.comp elt own tg (.val (.lit (.tup (enumD 0 xs)))) cond)) (S.set i none) h1).st (S.set i none) fun d h2 => .rt d h2 else .bad
    | _ => .bad
  | .rais c e, S, h => (ev sub call e S h).st S fun v h1 => if v.scal then .exc c v S h1 else .bad
  | .try_ s c i t, S, h => match ex s S h with
    | .exc e v S' h' => if sub e c then match ex t (S'.set i (some (.exc e v))) h' with
        | .rt d h2 => if d.noExc && h2.all O.noExc then .rt d h2 else .bad
        | _ => .bad
      else .exc e v S' h'
    | r => r
  | .brk, S, h => .bk S h
  | .cnt, S, h => .ct S h
  | .pass, S, h => .nx S h
  | .skip, S, h => .nx S h
  | .nope, _, _ => .bad
  | .seq s t, S, h => (ex s S h).andThen fun S' h' => ex t S' h'
end
/-- a def: its parameters' number, its names' number, its body -/
structure Fd where
  np : Nat
  nl : Nat
  body : St
def callB (sub : Nat → Nat → Bool) (call : Nat → List D → Hs → R D) (f : Fd) (ds : List D) (h : Hs) : R D :=
  if ds.length = f.np then match ex sub call f.body (ds.map some ++ List.replicate (f.nl - f.np) none) h with
    | .nx _ h' => .ok .non h'
    | .rt d h' => .ok d h'
    | .exc c v _ h' => .exc c v h'
    | _ => .bad
  else .bad
def callF (sub : Nat → Nat → Bool) (P : Nat → Option Fd) : Nat → Nat → List D → Hs → R D
  | 0, _, _, _ => .bad
  | k + 1, f, ds, h => match P f with
    | some fd => callB sub (callF sub P k) fd ds h
    | none => .bad
end Ci

set_option Elab.async false
set_option linter.all false
set_option maxRecDepth 100000
set_option maxHeartbeats 4000000
/-! An own exception class whose __init__ says super().__init__(text), then keeps its argument. -/
namespace Ci
open PySem PySem.W PySem.Calls PyProof.Rows PySem.HandSPX
def eA (par : Str) (p1 p2 : Pos) : Arguments := { posonlyargs := [], args := [{ arg := "self", annotation := none, pos := p1 }, { arg := par, annotation := none, pos := p2 }], vararg := none, kwonlyargs := [], kw_defaults := [], kwarg := none, defaults := [] }
def eB (par msg : Str) (q1 q2 q3 q4 q5 q6 q7 q8 q9 q10 : Pos) (k : Nat) : List Stmt :=
  [.Expr (.Call (.Attribute (.Call (.Name "super" q1) [] [] q2) "__init__" q3) [.Constant (.str msg) k q4] [] q5) q6, .Assign [.Attribute (.Name "self" q7) par q8] (.Name par q9) q10]
def eS (par : Str) : Scope := { kind := .function, names := [(PySem.Str.ofString "self", .local), (par, .local), (PySem.Str.ofString "__class__", .free), (PySem.Str.ofString "super", .globalImplicit)], isGenerator := false, isCoroutine := false, more := [] }
def BindPar (par : Str) : Prop := ∀ (qual : Str) (B : List Stmt) (doc pm : Value) (an : Option Addr) (cdv ct : Value) (cc : Addr) (p1 p2 : Pos) (x v : Value), bindArgs (ksFn "__init__" qual (eA par p1 p2) B (eS par) .none .none doc pm an cdv ct cc) ⟨[x, v], []⟩ = pure [(("self" : Str), x), (par, v)]
theorem bind_reason : BindPar "reason" := fun _ _ _ _ _ _ _ _ _ _ _ _ => rfl
theorem bind_at : BindPar "at" := fun _ _ _ _ _ _ _ _ _ _ _ _ => rfl
theorem bind_line : BindPar "line" := fun _ _ _ _ _ _ _ _ _ _ _ _ => rfl
/-- what the module's top has left of such a class -/
structure ErrTxt (P : Program) (K : Frag) (C : Addr) (par : Str) : Prop where
  ex : ∃ (fI cc cda : Addr) (msg : Str) (nm q : Str) (N : Addr) (bs bm : List Value) (sn : List Str) (sub : List Value) (ab : Bool) (col : Option Bool) (dd : Option Addr) (k0 k1 k2 k3 k5 : Option Value),
    K.lookup C = some (excClassObj nm q C N bs bm true sn sub ab col dd k0 k1 k2 k3 k5 "ValueError.__new__") ∧ refsVE bm = true ∧ alongIn K "__init__" bm = some (some (.builtin "ValueError.__init__")) ∧
    findIn K (.ref C) "__init__" = some (some (.ref fI)) ∧ typeIn K (.ref fI) = some (.type "function") ∧
    (∃ (oc : Value) (od : Option Addr) (doc pm : Value) (an : Option Addr) (ct : Value) (osl : Array (Option Value)) (qual : Str) (p1 p2 q1 q2 q3 q4 q5 q6 q7 q8 q9 q10 : Pos) (k : Nat),
      K.lookup fI = some ⟨oc, od, .func (ksFn "__init__" qual (eA par p1 p2) (eB par msg q1 q2 q3 q4 q5 q6 q7 q8 q9 q10 k) (eS par) .none .none doc pm an (.ref cda) ct cc), osl⟩ ∧ codeIn K (.ref cda) qual = true ∧ (q3.endLine == q5.line) = true) ∧
    (∃ (cl : Value) (cld : Option Addr) (csl : Array (Option Value)), K.lookup cc = some ⟨cl, cld, .cell (some (.ref C)), csl⟩) ∧
    (∃ (ccl : Value) (cdd : Option Addr) (vs : Array Value) (ccs : Array (Option Value)) (file : Str) (tf : Tok), K.lookup cda = some ⟨ccl, cdd, .fields vs, ccs⟩ ∧ vs[2]? = some (.str file tf) ∧ ((P.main.file : Str) == file) = true)
  sa : findIn K (.ref C) "__setattr__" = some (some (.builtin "object.__setattr__"))
  noN : findIn K (.ref C) par = some none
  kC : keepIn K (.ref C) = true
  exC : subIn K (.ref C) (.type "BaseException") = some true
  veC : subIn K (.ref C) (.type "ValueError") = some true
  slC : mroIn K C (.ref C) = some true
  tyC : typeIn K (.ref C) = some (.type "type")
  op : nsIn K cStatics "thirdparty.any" = some none
  top : (P.main.scope.names.lookup ("super" : Str)).isSome = false
  pn : (par == ("self" : Str)) = false ∧ (par == ("__class__" : Str)) = false ∧ (par == ("super" : Str)) = false ∧ (par == ("__debug__" : Str)) = false
  hdC : hasDictIn K C = true
  bd : BindPar par
  ga : findIn K (.ref C) "__getattribute__" = some (some (.builtin "BaseException.__getattribute__"))
  gg : findIn K (.ref C) "__getattr__" = some none
theorem size1 (v : Value) : [v].length ≤ sizeLine := by
  rw [sizeLine_eq]
  exact (by decide : 1 ≤ 16777216)
/-- what __init__ leaves of a fresh exception at x -/
structure InitEnd (h h' : Heap) (x C dx t1 : Addr) (par : Str) (v : Value) : Prop where
  keep : ∀ b o, b ≠ x → h.get? b = some o → h'.get? b = some o
  obj : h'.get? x = some { cls := .ref C, dict := some dx, data := .fields #[.ref t1, .none, .none, .none, .bool false, .none] }
  dbig : h.objs.size ≤ dx
  dne : dx ≠ x
  ns : h'.Ns1 dx (fun y => if y = par then some v else none)
/-- a made exception -/
structure ErrMade (h h' : Heap) (e C d : Addr) (par : Str) (v : Value) : Prop where
  keep : ∀ b o, h.get? b = some o → h'.get? b = some o
  new : h.objs.size ≤ e
  obj : ∃ oe vs, h'.get? e = some oe ∧ oe.cls = .ref C ∧ oe.dict = some d ∧ oe.data = .fields vs ∧ vs[1]? = some .none ∧ vs[2]? = some .none
  dbig : h.objs.size ≤ d
  dne : d ≠ e
  ns : h'.Ns1 d (fun y => if y = par then some v else none)
section
variable {prog : Program} {w : World} {A : Around} {E : Value → Shared → Prop} {h : Heap} {g : Array GenState} {d : Drawn} {t : Nat} {os : OsState}
variable {nm q : Str} {C N : Addr} {bs bm : List Value} {hdct : Bool} {sn : List Str} {sub : List Value} {ab : Bool} {col : Option Bool} {dd : Option Addr} {k0 k1 k2 k3 k5 : Option Value}
theorem call_mw {u e t0 : Addr} {rest : List Value} {Q : Value → Shared → Prop}
    (hC : h.get? C = some (excClassObj nm q C N bs bm hdct sn sub ab col dd k0 k1 k2 k3 k5 "ValueError.__new__")) (he : h.get? e = some (excO C t0)) (hu : h.get? u = some (kxs_mw "ValueError.__init__" e)) (hrest : rest.length ≤ sizeLine)
    (hq : ∀ h' t1, (∀ b o, b ≠ e → h.get? b = some o → h'.get? b = some o) → h'.get? e = some (excO C t1) → Q .none ⟨h', g, d, t, os⟩) :
    wpAny (model prog w) A (call (.ref u) rest) Q E ⟨h, g, d, t, os⟩ := by
  refine wpAny_call (codeAny_of_tree ?_)
  show wpAny _ A.in1 (callAny (.ref u) ⟨rest, []⟩) _ _ _
  simp only [callAny]
  refine wpAny_bind (wpAny_load hu ?_)
  simp only [kxs_mw, show (Value.type "method-wrapper" == Value.type "method" || Value.type "method-wrapper" == Value.type "builtin_function_or_method" || Value.type "method-wrapper" == Value.type "method-wrapper") = true by decide, if_true]
  refine KFB.if_so (by decide) ?_
  refine wpAny_bind (check_bound_init F.excBase_ValueError.toExcCallFacts hC he rfl ?_)
  refine wpAny_bind (wpAny_pure (wpAny_pure ?_))
  refine ⟨plainId_quiet F.excBase_ValueError.init.plain _, codeAny_builtin F.excBase_ValueError.initEntry ?_⟩
  exact exc_init_tree (cls := .ref C) (t0 := t0) (dv := none) (c2 := .none) (c3 := .none) (b4 := .bool false) he hrest fun h' k e' t' => hq h' h.objs.size k e'
end
theorem meth_line {o : Expr} {name : Str} {apos pos : Pos} {args : List Expr} {env : Env} (h : (apos.endLine == pos.line) = true) (hf : methodCallForm (args.length + 0) (backTo pos (starEach args env)) [] = true := by rfl) :
    eval (.Call (.Attribute o name apos) args [] pos) env = (do
      let ov ← attributeBase o name env (eval o env)
      standAt apos.atName
      let (f, first) ← holding [ov] (getMethod ov name (do return (← importBound o env).getD true))
      callWith pos f first (backTo pos (starEach args env)) []) := by
  show (do
    let ov ← attributeBase o name env (eval o env)
    standAt apos.atName
    methodCall o name apos pos env ov (args.length + 0) (backTo pos (starEach args env)) []) = _
  unfold methodCall methodCallPos calleeOf
  rw [hf, h]
  rfl
theorem ldE {M : Model} {A : Around} {E : Value → Shared → Prop} {s : Shared} {env : Env} {m : Str → Option Value} {x : Str} {pos : Pos} {v : Value} {Q : Value → Shared → Prop} (hn : s.heap.Ns env.locals m) (hv : m x = some v) (h : Q v s)
    (hk : env.scope.kind = .function) (hl : env.kindOf x = some .local) (hd : (x == ("__debug__" : Str)) = false) : wpAny M A (eval (.Name x pos) env) Q E s := wpAny_Name (wpAny_loadName_local hk hl hn hv h) hd
section
variable {prog : Program} {w : World} {A : Around} {R : Result → Shared → Prop} {s : Shared} {K : Frag} {C : Addr} {par : Str}
theorem err_init (T : ErrTxt prog K C par) {fI x t0 : Addr} {v : Value} {mg mb : Str → Option Value} (hfI : findIn K (.ref C) "__init__" = some (some (.ref fI))) (X : K.In s.heap) (hlim : s.heap.NoLimit) (hG : s.heap.Ns mainGlobals mg) (hB : s.heap.Ns builtinsNs mb) (hmg : mg "super" = none) (hmb : mb "super" = some (.type "super"))
    (hx : s.heap.get? x = some (excO C t0)) (hnx : K.lookup x = none) (hroom : A.depth < recursionLimit)
    (hq : ∀ h' tk dx t1, InitEnd s.heap h' x C dx t1 par v → R (.ok (.ret .none)) { s with heap := h', toks := tk }) :
    codeAny (model prog w) A (.call (.ref fI) ⟨[.ref x, v], []⟩) R s := by
  obtain ⟨fI', cc, cda, msg, nm, q, N, bs, bm, sn, sub, ab, col, dd, k0, k1, k2, k3, k5, hC, hbm, hal, hfI', htf, ⟨oc, od, doc, pm, an, ct, osl, qual, p1, p2, q1, q2, q3, q4, q5, q6, q7, q8, q9, q10, kk, ho, hcd, hline⟩, ⟨cl, cld, csl, hcell⟩, ⟨ccl, cdd, vs, ccs, file, tf, hcode, hvs, hfile⟩⟩ := T.ex
  rw [hfI] at hfI'
  cases hfI'
  obtain ⟨pn1, pn2, pn3, pn4⟩ := T.pn
  have hcl : clsIn K C = some { name := nm, bases := bs, mro := .ref C :: bm, ns := N, qualname := q, hasDict := true, slotNames := sn, subclasses := sub, abstract := ab, collection := col, hasDel := false } := by unfold clsIn; rw [hC] <;> rfl
  have ls : (eS par).names.lookup ("self" : Str) = some .local := by simp [eS, List.lookup]
  have pn1' : (par == (Str.ofString "self")) = false := pn1
  have lp : (eS par).names.lookup par = some .local := by simp [eS, List.lookup, pn1']
  have pn2' : ((Str.ofString "__class__") == par) = false := by rw [beq_eq_false_iff_ne] at pn2 ⊢; exact fun e => pn2 e.symm
  have pn3' : ((Str.ofString "super") == par) = false := by rw [beq_eq_false_iff_ne] at pn3 ⊢; exact fun e => pn3 e.symm
  have lc : (eS par).names.lookup ("__class__" : Str) = some .free := by
    show List.lookup (Str.ofString "__class__") [(Str.ofString "self", NameKind.local), (par, .local), (Str.ofString "__class__", .free), (Str.ofString "super", .globalImplicit)] = _
    rw [List.lookup_cons, show (Str.ofString "__class__" == Str.ofString "self") = false from by decide +kernel]
    simp only
    rw [List.lookup_cons, pn2']
    simp only
    rw [List.lookup_cons, beq_self_eq_true]
  have lsu : (eS par).names.lookup ("super" : Str) = some .globalImplicit := by
    show List.lookup (Str.ofString "super") [(Str.ofString "self", NameKind.local), (par, .local), (Str.ofString "__class__", .free), (Str.ofString "super", .globalImplicit)] = _
    rw [List.lookup_cons, show (Str.ofString "super" == Str.ofString "self") = false from by decide +kernel]
    simp only
    rw [List.lookup_cons, pn3']
    simp only
    rw [List.lookup_cons, show (Str.ofString "super" == Str.ofString "__class__") = false from by decide +kernel]
    simp only
    rw [List.lookup_cons, beq_self_eq_true]
  obtain ⟨hp, gg, dr, tk, os⟩ := s
  refine ks_codeAny_call_defAt (binds := [("self", .ref x), (par, v)]) hroom (X _ _ ho) rfl hlim (codeRec_of X hcd) rfl (BindsTo.of_eq (T.bd _ _ _ _ _ _ _ _ _ _ _ _)) (fun y hy => ?_) (fun y hy => ?_) (fun h₁ hn k => ?_) rfl rfl rfl
  · have hy' : y ∈ (eS par).names := hy
    simp only [eS, List.mem_cons, List.not_mem_nil, or_false] at hy'
    rcases hy' with rfl | rfl | rfl | rfl <;> exact fun z => nomatch z
  · simp only [List.mem_cons, List.not_mem_nil, or_false] at hy
    rcases hy with rfl | rfl
    · exact ls
    · exact lp
  · have X₁ : K.In h₁ := X.keeps k
    have hx₁ := k _ _ hx
    have mS : (fun y => List.lookup y [((par : Str), v), (("self" : Str), .ref x)]) ("self" : Str) = some (.ref x) := by
      show List.lookup (Str.ofString "self") [(par, v), (Str.ofString "self", .ref x)] = _
      rw [List.lookup_cons, show (Str.ofString "self" == par) = false from by rw [beq_eq_false_iff_ne] at pn1' ⊢; exact fun e => pn1' e.symm]
      simp only
      rw [List.lookup_cons, beq_self_eq_true]
    have mP : (fun y => List.lookup y [((par : Str), v), (("self" : Str), .ref x)]) par = some v := by
      show List.lookup par [(par, v), (Str.ofString "self", .ref x)] = _
      rw [List.lookup_cons, beq_self_eq_true]
    have hn : h₁.Ns hp.objs.size (fun y => List.lookup y [((par : Str), v), (("self" : Str), .ref x)]) := hn
    refine ks_wpAt_execs_cons (ks_wpAt_Expr_any (ks_wpAt_MethodCall (pl := (do return (← importBound (.Call (.Name "super" q1) [] [] q2) (callEnv (ksFn "__init__" qual (eA par p1 p2) (eB par msg q1 q2 q3 q4 q5 q6 q7 q8 q9 q10 kk) (eS par) .none .none doc pm an (.ref cda) ct cc) hp.objs.size fI)).getD true)) (he := meth_line hline) (ks_wpAt_super_base (ar := { arg := "self", annotation := none, pos := p1 }) lsu lc (by decide +kernel) rfl (X₁ _ _ ho) rfl rfl rfl (X₁ _ _ hcode) rfl hvs hfile T.top ?_)) rfl rfl)
    have sN : (Str.ofString "super") = ("super" : Str) := rfl
    refine ks_loadName_global rfl lsu (loadGlobal_builtin (hG.keeps k) hmg (hB.keeps k) hmb ⟨rfl, ?_⟩)
    refine wpAny_loadName_free rfl lc (c := cc) (by show List.lookup (Str.ofString "__class__") [(Str.ofString "__class__", cc)] = _; rw [List.lookup_cons, beq_self_eq_true]) ⟨_, X₁ _ _ hcell, rfl⟩ ?_
    refine wpAny_loadName_local rfl ls hn mS ?_
    have hC₁ := X₁ _ _ hC
    refine ks_wpAny_isType_cls hC₁ rfl ⟨rfl, ?_⟩
    refine ks_wpAny_call_super hC₁ rfl hx₁ rfl (fun c e => (nomatch e)) (looks_mroIn X₁ T.slC) (fun h₂ e k₂ => ?_)
    have X₂ : K.In h₂ := X₁.keeps k₂
    have hI₂ : InstAt h₂ x (excO C t0) C none := ⟨k₂ _ _ hx₁, rfl, rfl, trivial⟩
    have hne : x ≠ C := ks_ne X₂ hI₂ hcl
    refine kxs_getMethod kxs_ValueError e (looks_opaque X₂ T.op) (l₀ := .ref C :: bm) (fun A Q E s k q => wpAny_bind ((looks_clsIn X₂ hcl) A _ E s k (wpAny_pure q))) (l := bm) ?_ X₂ hal (hI₂.type.andThen (looks_subIn X₂ T.veC)) hne (by decide +kernel) ?_
    · rw [List.dropWhile_cons, show (Value.ref C != Value.ref C) = false from by simp]
      rfl
    have n3 : ∀ b o, h₂.get? b = some o → (h₂.push (kxs_mw "ValueError.__init__" x)).get? b = some o := fun b o e => Heap.get?_push_of_some _ e
    refine kxs_callWith (i := "ValueError.__init__") (x := x) rfl (evalArgs_plain (spliced_cons (Constant_str (k := kk) (pos := q4) (spliced_nil ⟨Heap.get?_push_size _ rfl, ?_⟩))))
    refine call_mw (X₂.keeps n3 _ _ hC) (n3 _ _ (k₂ _ _ hx₁)) (Heap.get?_push_size _ rfl) (size1 _) fun h₄ t1 k₄ hx₄ => ?_
    have all : ∀ b o, b ≠ x → h₁.get? b = some o → h₄.get? b = some o := fun b o hb e => k₄ b o hb (n3 b o (k₂ b o e))
    have X₄ : K.In h₄ := fun a o e => all a o (fun z => by rw [z, hnx] at e; cases e) (X₁ a o e)
    have xL : hp.objs.size ≠ x := Nat.ne_of_gt (Heap.lt_size hx)
    have hn₄ : h₄.Ns hp.objs.size (fun y => List.lookup y [((par : Str), v), (("self" : Str), .ref x)]) := hn.at fun o e => all _ o xL e
    refine wpAt_of_wpAny (wpAny_execs_cons (plainObj_wpAny_Assign_Attribute ?_))
    refine ldE (v := v) hn₄ mP (ldE (v := .ref x) hn₄ mS ?_ rfl ls (by decide +kernel)) rfl lp pn4
    refine set_plain X₄ (ox := excO C t1) (od := none) ⟨hx₄, rfl, rfl, trivial⟩ T.sa ?_
    refine exc_osa X₄ hx₄ hcl (show refsVE (.ref C :: bm) = true from hbm) rfl T.noN (fun h₃ tk₃ dx k₃ dn dne hx₃ hn₃ => ?_)
    have z : hp.objs.size < h₄.objs.size := hn₄.lt
    exact wpAny_execs_nil (hq h₃ tk₃ dx t1 ⟨fun b o hb e => k₃ b o hb (all b o hb (k b o e)), hx₃, Nat.le_of_lt (Nat.lt_of_lt_of_le z dn), dne, hn₃⟩)
theorem err_made (T : ErrTxt prog K C par) {v : Value} {mg mb : Str → Option Value} (X : K.In s.heap) (hlim : s.heap.NoLimit) (hG : s.heap.Ns mainGlobals mg) (hB : s.heap.Ns builtinsNs mb) (hmg : mg "super" = none) (hmb : mb "super" = some (.type "super")) (hroom : A.depth + 1 < recursionLimit)
    (hq : ∀ h' tk e d, ErrMade s.heap h' e C d par v → R (.ok (.ret (.ref e))) { s with heap := h', toks := tk }) :
    codeAny (model prog w) A (.call (.ref C) ⟨[v], []⟩) R s := by
  have T' := T
  obtain ⟨fI, cc, cda, msg, nm, q, N, bs, bm, sn, sub, ab, col, dd, k0, k1, k2, k3, k5, hC, hbm, hal, hfI, htf, _⟩ := T'.ex
  obtain ⟨hp, g, dr, tk, os⟩ := s
  have k : ∀ b o, hp.get? b = some o → ((hp.push (kdv_tup [v])).push (excO C hp.objs.size)).get? b = some o := fun b o e => Heap.get?_push_of_some _ (Heap.get?_push_of_some _ e)
  have hget : ((hp.push (kdv_tup [v])).push (excO C hp.objs.size)).get? (hp.objs.size + 1) = some (excO C hp.objs.size) := by heap_get
  have hnx : K.lookup (hp.objs.size + 1) = none := by
    cases e : K.lookup (hp.objs.size + 1) with
    | none => rfl
    | some o =>
      have z : hp.get? (hp.objs.size + 1) = some o := X _ _ e
      exact absurd (Nat.lt_of_succ_lt (Heap.lt_size z)) (Nat.lt_irrefl _)
  refine call_own F.excBase_ValueError (fun X => refsVE_contains X bm hbm) (X _ _ hC) (looks_findIn X hfI) (fun self => bind_fn X self htf) (size1 v) ?_
  refine err_init (s := ⟨(hp.push (kdv_tup [v])).push (excO C hp.objs.size), g, dr, tk, os⟩) T hfI (X.keeps k) (hlim.keeps k) (hG.keeps k) (hB.keeps k) hmg hmb hget hnx ?_ fun h' tk' dx t1 ⟨k', hx, dn, dne, hns⟩ => ?_
  · show A.depth + 1 < recursionLimit
    exact hroom
  · have old : ∀ b o, hp.get? b = some o → h'.get? b = some o := fun b o e => k' b o (Nat.ne_of_lt (Nat.lt_succ_of_lt (Heap.lt_size e))) (k b o e)
    have z : hp.objs.size + 1 + 1 ≤ dx := by
      first
        | (simpa only [Heap.size_push] using dn)
        | exact dn
        | (have q := dn; rw [Heap.size_push, Heap.size_push] at q; exact q)
    exact ⟨rfl, hq h' tk' (hp.objs.size + 1) dx ⟨old, Nat.le_succ _, ⟨_, _, hx, rfl, rfl, rfl, rfl, rfl⟩, Nat.le_trans (Nat.le_trans (Nat.le_succ _) (Nat.le_succ _)) z, dne, hns⟩⟩
end
end Ci

set_option Elab.async false
set_option linter.all false
set_option maxRecDepth 100000
set_option maxHeartbeats 4000000
namespace Ci
open PySem PySem.Spec PyProof.Rows L2
theorem relO_par {v : V} {v' : Value} (r : RelV v v') (par f : Str) : RelO (List.lookup f [(par, v)]) (if f = par then some v' else none) := by
  by_cases hw : f = par
  · subst hw
    rw [if_pos rfl]
    have q : List.lookup f [(f, v)] = some v := by simp [List.lookup]
    rw [q]
    exact r
  · rw [if_neg hw]
    have qw : (f == par) = false := by simpa using hw
    have q2 : List.lookup f [(par, v)] = none := by simp [List.lookup, qw]
    rw [q2]
    trivial
section
variable {X : Cx} {C : Addr} {par : Str}
/-- C(e) -/
def tMkErr (C : Addr) (par : Str) (ta : TA) : L2.St → Hp → XK → Prop := fun σ H Q => ta σ H fun vs H1 => ∃ v, vs = [v] ∧ ∀ d, H1 d = none → Q (.ref C) (some d) (upd H1 d (.xd [(par, v)]))
theorem pmk_err {a : Expr} {ta : TA} {nm : Str} {p pos : Pos} (T : ErrTxt X.prog X.K C par) (gC : X.mg nm = some (.ref C)) (hsu : X.mg "super" = none) (hr : X.A.depth + 1 < recursionLimit) (ha : PA X [a] ta) (hg : Gl X nm) (hnd : (nm == ("__debug__" : Str)) = false)
    (he : starEach (a :: []) X.env = (false, eval a X.env) :: starEach [] X.env) :
    L2N.PMk X (.Call (.Name nm p) [a] [] pos) (tMkErr C par ta) := by
  intro pins s σ H Q I h
  refine wpAny_Call_Name_kw (ld_glob I hg gC ?_ hnd)
  refine PySem.W.callWith_K (h₀ := X.base) I.ok.mod.kin T.kC (thn (ha.run pos pins s σ H _ I h) fun us s1 hh => ?_) he rfl
  obtain ⟨vs, H1, I1, r1, v, ev, q1⟩ := hh
  subst ev
  refine ⟨I1.kIn, ?_⟩
  cases r1 with
  | cons rv rn =>
    rename_i v' us'
    cases rn
    show wpAny _ _ (call (.ref C) [v']) _ _ _
    have hlim := I1.nolimit
    obtain ⟨mb, hb1, hb2⟩ := I1.mod.blt
    have hb := hb1.keeps I1.bk
    have hgl := I1.mod.glob.keeps I1.bk
    obtain ⟨hp, g, dr, tk, os⟩ := s1
    refine wpAny_call (err_made T I1.kIn hlim hgl hb hsu ((hb2 "super" (by decide)).trans (by first | boot_by_name | rfl | kernel_rfl)) hr fun h' tk' e d M => ?_)
    show L2N.MkP X pins σ Q (.ref e) ⟨h', g, dr, tk', os⟩
    obtain ⟨oe, fv, hoe, hc, hd, hdat, h1, h2⟩ := M.obj
    have hns := M.ns
    obtain ⟨G', g1, g2⟩ := restrict h' fun b => decide (b ≠ e)
    have gk : ∀ b, b ≠ e → G'.get? b = h'.get? b := fun b hb => g1 b (decide_eq_true hb)
    have ge : G'.get? e = none := g2 e (by simp)
    have old : ∀ b o, hp.get? b = some o → G'.get? b = some o := fun b o q => (gk b (Nat.ne_of_lt (Nat.lt_of_lt_of_le (Heap.lt_size q) M.new))).trans (M.keep b o q)
    have ob : ObjOk X.prog X.w (upd H1 d (.xd [(par, v)])) G' d (.xd [(par, v)]) :=
      ⟨_, hns.at (fun o q => (gk d M.dne).trans q), fun f => relO_par rv par f⟩
    have J : Inv X pins σ (upd H1 d (.xd [(par, v)])) ⟨G', g, dr, tk', os⟩ := I1.laid (t' := tk') old M.dbig ob
    refine ⟨e, oe, fv, ⟨G', g, dr, tk', os⟩, _, .ref C, some d, rfl, J, fun b o q => ?_, ge, hoe, ⟨hc, hd, fun vs e' => ?_⟩, hdat, h1, ?_, rfl, I1.bare, raises_own T.exC T.tyC, q1 d (I1.hok.fresh M.dbig)⟩
    · by_cases hb : b = e
      · have q' : G'.get? b = some o := q
        rw [hb, ge] at q'; cases q'
      · exact (gk b hb).symm.trans q
    · rw [hdat] at e'
      cases e'
      exact h2
    · rw [upd_ne (Ne.symm M.dne)]
      exact I1.hok.fresh M.new
end
end Ci

set_option Elab.async false
set_option linter.all false
set_option maxRecDepth 100000
set_option maxHeartbeats 2000000
namespace Ci
open PySem PySem.Spec PyProof.Rows L2
abbrev SV := L2.St
/-- a caught exception: its address, class, own dict, field -/
structure Hx where
  a : Addr
  c : Nat
  d : Addr
  f : Str
/-- where defs stand, the exception at hand -/
structure Rc where
  K : PySem.W.Frag
  fa : Nat → Option Addr
  hx : Option Hx
/-- what a simulation leans on -/
structure Si where
  K : PySem.W.Frag
  rc : Rc
  ca : Nat → Option Addr
  fld : Nat → Str
  sub : Nat → Nat → Bool
  call : Nat → List D → Hs → R D
  dfl : Nat → Option D
  W : WX
/-- a flat value -/
def scV : D → Option V
  | .non => some .non
  | .bl b => some (.bl b)
  | .int i => some (.int i)
  | .str x => some (.str x)
  | _ => none
mutual
inductive RD (z : Rc) (F : Addr → Prop) (am : List Addr) (H : Hp) : D → V → Prop
  | non : RD z F am H .non .non
  | bl (b : Bool) : RD z F am H (.bl b) (.bl b)
  | int (i : Int) : RD z F am H (.int i) (.int i)
  | str (x : Str) : RD z F am H (.str x) (.str x)
  | tup {a : Addr} {xs : List V} {ds : List D} : H a = some (.tup xs) → ¬ F a → RDs z F am H ds xs → RD z F am H (.tup ds) (.ref a)
  | lst {a : Addr} {xs : List V} {ds : List D} : H a = some (.lst xs) → ¬ F a → RDs z F am H ds xs → RD z F am H (.lst ds) (.ref a)
  | scr {a : Addr} {o : Obj} {xs : List V} {ds : List D} : H a = some (.frz o (.lst xs)) → ¬ F a → RDs z F am H ds xs → RD z F am H (.scr ds) (.ref a)
  | scrK {a : Addr} {xs : List V} {ds : List D} : SqL z.K (fun _ => none) a xs → RDs z F am H ds xs → RD z F am H (.scr ds) (.ref a)
  | ref {n : Nat} {a : Addr} : am[n]? = some a → RD z F am H (.ref n) (.ref a)
  | fn {i : Nat} {a : Addr} : z.fa i = some a → RD z F am H (.fn i) (.ref a)
  | exc {v : D} {w : V} {x : Hx} : z.hx = some x → scV v = some w → H x.d = some (.xd [(x.f, w)]) → ¬ F x.d → RD z F am H (.exc x.c v) (.ref x.a)
inductive RDs (z : Rc) (F : Addr → Prop) (am : List Addr) (H : Hp) : List D → List V → Prop
  | nil : RDs z F am H [] []
  | cons {d : D} {v : V} {ds : List D} {vs : List V} : RD z F am H d v → RDs z F am H ds vs → RDs z F am H (d :: ds) (v :: vs)
end
/-- from one heap to a later one -/
structure Ext (F : Addr → Prop) (am : List Addr) (H : Hp) (F' : Addr → Prop) (am' : List Addr) (H' : Hp) : Prop where
  pre : ∃ t, am' = am ++ t
  keep : ∀ a o, H a = some o → a ∉ am → H' a = some o
  fr : ∀ a o, H a = some o → ¬ F a → ¬ F' a
  up : ∀ a, F a → F' a
  nw : ∀ a, a ∈ am' → a ∉ am → H a = none
def RO (z : Rc) (F : Addr → Prop) (am : List Addr) (H : Hp) (o : O) (u : Option HO) : Prop := match o with
  | .lst ds => ∃ xs, u = some (.lst xs) ∧ RDs z F am H ds xs
  | .dct kvs => ∃ ws : List (Key × V), u = some (.dK ws) ∧ kvs.map (·.1) = ws.map (·.1) ∧ RDs z F am H (kvs.map (·.2)) (ws.map (·.2))
structure Sto (z : Rc) (F : Addr → Prop) (am : List Addr) (H : Hp) (h : Hs) : Prop where
  nd : am.Nodup
  len : am.length = h.length
  inF : ∀ a ∈ am, F a
  ok : ∀ a, F a → ∃ o, H a = some o
  obj : ∀ (i : Nat) (a : Addr) (o : O), am[i]? = some a → h[i]? = some o → RO z F am H o (H a)
section
variable {z : Rc} {F F' F1 F2 : Addr → Prop} {am am' am1 am2 : List Addr} {H H' H1 H2 : Hp} {d : D} {v : V} {ds : List D} {vs : List V} {h h' : Hs}
theorem Ext.refl : Ext F am H F am H := ⟨⟨[], by simp⟩, fun _ _ e _ => e, fun _ _ _ h => h, fun _ h => h, fun _ h n => absurd h n⟩
theorem Ext.trans (a : Ext F am H F1 am1 H1) (b : Ext F1 am1 H1 F2 am2 H2) (i0 : ∀ x ∈ am, F x) : Ext F am H F2 am2 H2 := by
  obtain ⟨t, e⟩ := a.pre
  obtain ⟨t', e'⟩ := b.pre
  have k1 : ∀ x o, H x = some o → x ∉ am → x ∉ am1 := fun x o q n hm => by
    have := a.nw x hm n
    rw [q] at this; cases this
  refine ⟨⟨t ++ t', by rw [e', e, List.append_assoc]⟩, fun x o q n => b.keep x o (a.keep x o q n) (k1 x o q n), fun x o q n => ?_, fun x q => b.up x (a.up x q), fun x hm n => ?_⟩
  · have nx : x ∉ am := fun hm => n (i0 x hm)
    exact b.fr x o (a.keep x o q nx) (a.fr x o q n)
  · by_cases h1 : x ∈ am1
    · exact a.nw x h1 n
    · cases q : H x with
      | none => rfl
      | some o =>
        have := b.nw x hm h1
        rw [a.keep x o q n] at this; cases this
theorem Ext.rd (e : Ext F am H F' am' H') (i0 : ∀ x ∈ am, F x) {u : HO} {a : Addr} (r : H a = some u) (n : ¬ F a) : H' a = some u ∧ ¬ F' a :=
  ⟨e.keep a _ r fun hm => n (i0 a hm), e.fr a _ r n⟩
mutual
theorem RD.ext (e : Ext F am H F' am' H') (i0 : ∀ x ∈ am, F x) : ∀ {d : D} {v : V}, RD z F am H d v → RD z F' am' H' d v
  | _, _, .non => .non
  | _, _, .bl b => .bl b
  | _, _, .int b => .int b
  | _, _, .str b => .str b
  | _, _, .tup r n k => .tup (e.rd i0 r n).1 (e.rd i0 r n).2 (RDs.ext e i0 k)
  | _, _, .lst r n k => .lst (e.rd i0 r n).1 (e.rd i0 r n).2 (RDs.ext e i0 k)
  | _, _, .scr r n k => .scr (e.rd i0 r n).1 (e.rd i0 r n).2 (RDs.ext e i0 k)
  | _, _, .scrK r k => .scrK r (RDs.ext e i0 k)
  | _, _, .ref (n := n) q => .ref (by
      obtain ⟨t, e1⟩ := e.pre
      rw [e1, List.getElem?_append_left (by have := (List.getElem?_eq_some_iff.mp q).1; exact this)]
      exact q)
  | _, _, .fn q => .fn q
  | _, _, .exc (x := x) h1 h2 h3 h4 => .exc h1 h2 (e.keep _ _ h3 fun hm => h4 (i0 _ hm)) (e.fr _ _ h3 h4)
theorem RDs.ext (e : Ext F am H F' am' H') (i0 : ∀ x ∈ am, F x) : ∀ {ds : List D} {vs : List V}, RDs z F am H ds vs → RDs z F' am' H' ds vs
  | _, _, .nil => .nil
  | _, _, .cons r k => .cons (RD.ext e i0 r) (RDs.ext e i0 k)
end
/-- from one heap to a later one: what is guarded may be another -/
structure Exq (F : Addr → Prop) (am : List Addr) (H : Hp) (F' : Addr → Prop) (am' : List Addr) (H' : Hp) : Prop where
  pre : ∃ t, am' = am ++ t
  keep : ∀ a o, H a = some o → ¬ F a → H' a = some o
  fr : ∀ a o, H a = some o → ¬ F a → ¬ F' a
  up : ∀ a, F a → F' a
theorem Ext.q (e : Ext F am H F' am' H') (i0 : ∀ x ∈ am, F x) : Exq F am H F' am' H' := ⟨e.pre, fun a o h n => e.keep a o h fun m => n (i0 a m), e.fr, e.up⟩
theorem Exq.trans (a : Exq F am H F1 am1 H1) (b : Exq F1 am1 H1 F2 am2 H2) : Exq F am H F2 am2 H2 := by
  obtain ⟨t, e⟩ := a.pre
  obtain ⟨t', e'⟩ := b.pre
  exact ⟨⟨t ++ t', by rw [e', e, List.append_assoc]⟩, fun x o q n => b.keep x o (a.keep x o q n) (a.fr x o q n), fun x o q n => b.fr x o (a.keep x o q n) (a.fr x o q n), fun x q => b.up x (a.up x q)⟩
theorem Exq.rd (e : Exq F am H F' am' H') (i0 : ∀ x ∈ am, F x) {u : HO} {a : Addr} (r : H a = some u) (n : ¬ F a) : H' a = some u ∧ ¬ F' a :=
  ⟨e.keep a _ r n, e.fr a _ r n⟩
mutual
theorem RD.exq (e : Exq F am H F' am' H') (i0 : ∀ x ∈ am, F x) : ∀ {d : D} {v : V}, RD z F am H d v → RD z F' am' H' d v
  | _, _, .non => .non
  | _, _, .bl b => .bl b
  | _, _, .int b => .int b
  | _, _, .str b => .str b
  | _, _, .tup r n k => .tup (e.rd i0 r n).1 (e.rd i0 r n).2 (RDs.exq e i0 k)
  | _, _, .lst r n k => .lst (e.rd i0 r n).1 (e.rd i0 r n).2 (RDs.exq e i0 k)
  | _, _, .scr r n k => .scr (e.rd i0 r n).1 (e.rd i0 r n).2 (RDs.exq e i0 k)
  | _, _, .scrK r k => .scrK r (RDs.exq e i0 k)
  | _, _, .ref (n := n) q => .ref (by
      obtain ⟨t, e1⟩ := e.pre
      rw [e1, List.getElem?_append_left (by have := (List.getElem?_eq_some_iff.mp q).1; exact this)]
      exact q)
  | _, _, .fn q => .fn q
  | _, _, .exc (x := x) h1 h2 h3 h4 => .exc h1 h2 (e.keep _ _ h3 h4) (e.fr _ _ h3 h4)
theorem RDs.exq (e : Exq F am H F' am' H') (i0 : ∀ x ∈ am, F x) : ∀ {ds : List D} {vs : List V}, RDs z F am H ds vs → RDs z F' am' H' ds vs
  | _, _, .nil => .nil
  | _, _, .cons r k => .cons (RD.exq e i0 r) (RDs.exq e i0 k)
end
theorem RDs.length : ∀ {ds : List D} {vs : List V}, RDs z F am H ds vs → ds.length = vs.length
  | _, _, .nil => rfl
  | _, _, .cons _ k => by simp [RDs.length k]
theorem RDs.get : ∀ {ds : List D} {vs : List V} {i : Nat} {d : D}, RDs z F am H ds vs → ds[i]? = some d → ∃ v, vs[i]? = some v ∧ RD z F am H d v
  | _, _, _, _, .nil, e => by simp at e
  | _, _, 0, _, .cons r _, e => by simp at e; subst e; exact ⟨_, rfl, r⟩
  | _, _, i + 1, d, .cons _ k, e => by
    obtain ⟨v, h1, h2⟩ := RDs.get (i := i) (d := d) k (by simpa using e)
    exact ⟨v, by simpa using h1, h2⟩
theorem RDs.get' : ∀ {ds : List D} {vs : List V} {i : Nat} {v : V}, RDs z F am H ds vs → vs[i]? = some v → ∃ d, ds[i]? = some d ∧ RD z F am H d v
  | _, _, _, _, .nil, e => by simp at e
  | _, _, 0, _, .cons r _, e => by simp at e; subst e; exact ⟨_, rfl, r⟩
  | _, _, i + 1, d, .cons _ k, e => by
    obtain ⟨v, h1, h2⟩ := RDs.get' (i := i) (v := d) k (by simpa using e)
    exact ⟨v, by simpa using h1, h2⟩
theorem RDs.append : ∀ {ds es : List D} {vs ws : List V}, RDs z F am H ds vs → RDs z F am H es ws → RDs z F am H (ds ++ es) (vs ++ ws)
  | _, _, _, _, .nil, s => s
  | _, _, _, _, .cons r k, s => .cons r (RDs.append k s)
theorem RDs.set (r : RD z F am H d v) : ∀ {ds : List D} {vs : List V} (i : Nat), RDs z F am H ds vs → RDs z F am H (ds.set i d) (vs.set i v)
  | _, _, _, .nil => .nil
  | _, _, 0, .cons _ k => .cons r k
  | _, _, i + 1, .cons q k => .cons q (RDs.set r i k)
theorem RDs.take : ∀ {ds : List D} {vs : List V} (n : Nat), RDs z F am H ds vs → RDs z F am H (ds.take n) (vs.take n)
  | _, _, 0, _ => by simp; exact .nil
  | _, _, _ + 1, .nil => .nil
  | _, _, n + 1, .cons r k => .cons r (RDs.take n k)
theorem RDs.drop : ∀ {ds : List D} {vs : List V} (n : Nat), RDs z F am H ds vs → RDs z F am H (ds.drop n) (vs.drop n)
  | _, _, 0, r => r
  | _, _, _ + 1, .nil => .nil
  | _, _, n + 1, .cons _ k => RDs.drop n k
theorem RDs.flatRep {ds : List D} {vs : List V} (r : RDs z F am H ds vs) : ∀ n, RDs z F am H (List.replicate n ds).flatten (List.replicate n vs).flatten
  | 0 => .nil
  | n + 1 => by simp only [List.replicate_succ, List.flatten_cons]; exact r.append (RDs.flatRep r n)
/-- a list of the module's own, in any heap -/
theorem sqK {K : PySem.W.Frag} {a : Addr} {xs : List V} (h : SqL K (fun _ => none) a xs) (H : Hp) : SqL K H a xs := by
  rcases h with h | h
  · rcases h with h | ⟨o, h⟩
    · cases h
    · cases h
  · exact .inr h
/-- read: as RD, a changing list too -/
inductive RR (z : Rc) (F : Addr → Prop) (am : List Addr) (H : Hp) : D → V → Prop
  | rd {d : D} {v : V} : RD z F am H d v → RR z F am H d v
  | lst {a : Addr} {xs : List V} {ds : List D} : H a = some (.lst xs) → RDs z F am H ds xs → RR z F am H (.lst ds) (.ref a)
theorem rd_rel (s : Sto z F am H h) (r : RD z F am H d v) : RR z F am H (rd h d) v := by
  cases r with
  | @ref n a q =>
    cases e : h[n]? with
    | none => rw [show rd h (.ref n) = .ref n by simp only [rd, e]]; exact .rd (.ref q)
    | some o =>
      cases o with
      | lst ds =>
        obtain ⟨xs, e1, e2⟩ := s.obj n a _ q e
        rw [show rd h (.ref n) = .lst ds by simp only [rd, e]]; exact .lst e1 e2
      | dct kvs => rw [show rd h (.ref n) = .ref n by simp only [rd, e]]; exact .rd (.ref q)
  | non => exact .rd .non
  | bl => exact .rd (.bl _)
  | int => exact .rd (.int _)
  | str => exact .rd (.str _)
  | tup a b c => exact .rd (.tup a b c)
  | lst a b c => exact .rd (.lst a b c)
  | fn a => exact .rd (.fn a)
  | exc a b c d => exact .rd (.exc a b c d)
  | scr a b c => exact .rd (.scr a b c)
  | scrK a c => exact .rd (.scrK a c)
/-- a list that is read -/
theorem RR.list {ds : List D} {v : V} (r : RR z F am H (.lst ds) v) : ∃ a xs, v = .ref a ∧ H a = some (.lst xs) ∧ RDs z F am H ds xs := by
  cases r with
  | rd r => cases r with | lst r _ k => exact ⟨_, _, rfl, r, k⟩
  | lst e k => exact ⟨_, _, rfl, e, k⟩
theorem RR.tuple {ds : List D} {v : V} (r : RR z F am H (.tup ds) v) : ∃ a xs, v = .ref a ∧ H a = some (.tup xs) ∧ ¬ F a ∧ RDs z F am H ds xs := by
  cases r with
  | rd r => cases r with | tup r n k => exact ⟨_, _, rfl, r, n, k⟩
theorem RR.int {i : Int} (r : RR z F am H (.int i) v) : v = .int i := by cases r with | rd r => cases r; rfl
theorem RR.bl {i : Bool} (r : RR z F am H (.bl i) v) : v = .bl i := by cases r with | rd r => cases r; rfl
theorem RR.str {i : Str} (r : RR z F am H (.str i) v) : v = .str i := by cases r with | rd r => cases r; rfl
theorem RR.non (r : RR z F am H .non v) : v = .non := by cases r with | rd r => cases r; rfl
theorem RD.sc {w : V} (r : RD z F am H d v) (e : scV d = some w) : v = w := by
  cases r <;> simp [scV] at e <;> first | exact e | exact e.symm
theorem sc_RD {w : V} (e : scV d = some w) : RD z F am H d w := by
  cases d <;> simp [scV] at e <;> subst e
  · exact .non
  · exact .bl _
  · exact .int _
  · exact .str _
/-- slots -/
structure Rel (z : Rc) (F : Addr → Prop) (am : List Addr) (H : Hp) (h : Hs) (S : Sl) (σ : SV) : Prop where
  sto : Sto z F am H h
  len : S.length = σ.length
  sl : ∀ (i : Nat) (d : D), S[i]? = some (some d) → ∃ v, σ[i]? = some (some v) ∧ RD z F am H d v
theorem Rel.toQ {S : Sl} {σ : SV} (r : Rel z F am H h S σ) (e : Exq F am H F' am' H') (s : Sto z F' am' H' h') : Rel z F' am' H' h' S σ :=
  ⟨s, r.len, fun i d q => let ⟨v, h1, h2⟩ := r.sl i d q; ⟨v, h1, h2.exq e r.sto.inF⟩⟩
theorem Rel.to {S : Sl} {σ : SV} (r : Rel z F am H h S σ) (e : Ext F am H F' am' H') (s : Sto z F' am' H' h') : Rel z F' am' H' h' S σ :=
  ⟨s, r.len, fun i d q => let ⟨v, h1, h2⟩ := r.sl i d q; ⟨v, h1, h2.ext e r.sto.inF⟩⟩
end
section
variable {z : Si} {F F' F1 F2 : Addr → Prop} {am am' am1 am2 : List Addr} {H H' H1 H2 : Hp} {d : D} {v : V} {ds : List D} {vs : List V} {h h' : Hs}
/-! ### what is wanted behind an expression -/
def excW (z : Si) (σ : SV) (F : Addr → Prop) (am : List Addr) (H : Hp) (c : Nat) (v : D) (h : Hs) : Prop :=
  ∀ F' am' H' C dd w, Ext F am H F' am' H' → Sto z.rc F' am' H' h → z.ca c = some C → scV v = some w → H' dd = some (.xd [(z.fld c, w)]) → ¬ F' dd → z.W (.ref C) (some dd) σ H'
def SatR {α : Type} (z : Si) (σ : SV) (F : Addr → Prop) (am : List Addr) (H : Hp) (r : R α) (P : α → Hs → (Addr → Prop) → List Addr → Hp → Prop) : Prop := match r with
  | .ok a h => ∀ F' am' H', Ext F am H F' am' H' → Sto z.rc F' am' H' h → P a h F' am' H'
  | .exc c v h => excW z σ F am H c v h
  | .bad => False
theorem excW.ext {σ : SV} {c : Nat} (e : Ext F am H F1 am1 H1) (i0 : ∀ x ∈ am, F x) (q : excW z σ F am H c d h) : excW z σ F1 am1 H1 c d h :=
  fun F' am' H' C dd w e' s => q F' am' H' C dd w (e.trans e' i0) s
theorem SatR.ext {α : Type} {σ : SV} {r : R α} {P : α → Hs → (Addr → Prop) → List Addr → Hp → Prop} (e : Ext F am H F1 am1 H1) (i0 : ∀ x ∈ am, F x) (q : SatR z σ F am H r P) : SatR z σ F1 am1 H1 r P := by
  cases r with
  | ok a h => exact fun F' am' H' e' s => q F' am' H' (e.trans e' i0) s
  | exc c v h => exact excW.ext e i0 q
  | bad => exact q
theorem SatR.bind {α β : Type} {σ : SV} {r : R α} {f : α → Hs → R β} {P : β → Hs → (Addr → Prop) → List Addr → Hp → Prop} {P1 : α → Hs → (Addr → Prop) → List Addr → Hp → Prop} (i0 : ∀ x ∈ am, F x)
    (q : SatR z σ F am H (r.bind f) P) (k : ∀ a h F1 am1 H1, r = .ok a h → Ext F am H F1 am1 H1 → Sto z.rc F1 am1 H1 h → SatR z σ F1 am1 H1 (f a h) P → P1 a h F1 am1 H1) : SatR z σ F am H r P1 := by
  cases r with
  | ok a h => exact fun F' am' H' e s => k a h F' am' H' rfl e s (SatR.ext e i0 q)
  | exc c v h => exact q
  | bad => exact q
theorem SatR.mono {α : Type} {σ : SV} {r : R α} {P P1 : α → Hs → (Addr → Prop) → List Addr → Hp → Prop} (q : SatR z σ F am H r P) (k : ∀ a h F1 am1 H1, r = .ok a h → Ext F am H F1 am1 H1 → Sto z.rc F1 am1 H1 h → P a h F1 am1 H1 → P1 a h F1 am1 H1) : SatR z σ F am H r P1 := by
  cases r with
  | ok a h => exact fun F' am' H' e s => k a h F' am' H' rfl e s (q F' am' H' e s)
  | exc c v h => exact q
  | bad => exact q
theorem SatR.now {α : Type} {σ : SV} {a : α} {P : α → Hs → (Addr → Prop) → List Addr → Hp → Prop} (q : SatR z σ F am H (.ok a h) P) (s : Sto z.rc F am H h) : P a h F am H := q F am H .refl s
end
/-- an expression's reading -/
abbrev PostD (z : Si) (Q : VK) : D → Hs → (Addr → Prop) → List Addr → Hp → Prop := fun d _ F am H => ∀ v, RD z.rc F am H d v → Q v H
def tE (z : Si) (e : E) : TE := fun σ H Q => ∃ S F am h, Rel z.rc F am H h S σ ∧ SatR z σ F am H (ev z.sub z.call e S h) (PostD z Q)
def tB (z : Si) (e : E) : TT := fun σ H Q => ∃ S F am h, Rel z.rc F am H h S σ ∧ SatR z σ F am H (tst z.sub z.call e S h) (fun b _ _ _ H' => Q b H')
def tEs (z : Si) (es : Es) : TA := fun σ H Q => ∃ S F am h, Rel z.rc F am H h S σ ∧ SatR z σ F am H (evs z.sub z.call es S h) (fun ds _ F am H => ∀ vs, RDs z.rc F am H ds vs → Q vs H)
theorem _root_.L2.PE.imp {X : Cx} {e : Expr} {t t' : TE} (h : PE X e t) (k : ∀ σ H Q, t' σ H Q → t σ H Q) : PE X e t' := ⟨fun pins s σ H Q I q => h.run pins s σ H Q I (k σ H Q q)⟩
theorem _root_.L2.PT.imp {X : Cx} {e : Expr} {t t' : TT} (h : PT X e t) (k : ∀ σ H Q, t' σ H Q → t σ H Q) : PT X e t' := ⟨fun pins s σ H Q I q => h.run pins s σ H Q I (k σ H Q q)⟩
theorem _root_.L2.PA.imp {X : Cx} {e : List Expr} {t t' : TA} (h : PA X e t) (k : ∀ σ H Q, t' σ H Q → t σ H Q) : PA X e t' := ⟨fun pos pins s σ H Q I q => h.run pos pins s σ H Q I (k σ H Q q)⟩
/-- two expressions, then what is wanted of both values -/
theorem two {z : Si} {a b : E} {σ : SV} {H : Hp} {S : Sl} {F : Addr → Prop} {am : List Addr} {h : Hs} {f : D → D → Hs → R D} {Q : VK} {R : V → V → Hp → Prop} (r : Rel z.rc F am H h S σ)
    (q : SatR z σ F am H ((ev z.sub z.call a S h).bind fun x h1 => (ev z.sub z.call b S h1).bind fun y h2 => f x y h2) (PostD z Q))
    (k : ∀ x y v u F am H h, Rel z.rc F am H h S σ → RD z.rc F am H x v → RD z.rc F am H y u → SatR z σ F am H (f x y h) (PostD z Q) → R v u H) :
    tE z a σ H fun v H1 => tE z b σ H1 fun u H2 => R v u H2 :=
  ⟨S, F, am, h, r, q.bind r.sto.inF fun x h1 F1 am1 H1 _ e1 s1 q1 v rv => ⟨S, F1, am1, h1, r.to e1 s1, q1.bind s1.inF fun y h2 F2 am2 H2 _ e2 s2 q2 u ru =>
    k x y v u F2 am2 H2 h2 ((r.to e1 s1).to e2 s2) (rv.ext e2 s1.inF) ru q2⟩⟩
theorem one {z : Si} {a : E} {σ : SV} {H : Hp} {S : Sl} {F : Addr → Prop} {am : List Addr} {h : Hs} {f : D → Hs → R D} {Q : VK} {R : V → Hp → Prop} (r : Rel z.rc F am H h S σ)
    (q : SatR z σ F am H ((ev z.sub z.call a S h).bind f) (PostD z Q))
    (k : ∀ x v F am H h, Rel z.rc F am H h S σ → RD z.rc F am H x v → SatR z σ F am H (f x h) (PostD z Q) → R v H) : tE z a σ H R :=
  ⟨S, F, am, h, r, q.bind r.sto.inF fun x h1 F1 am1 H1 _ e1 s1 q1 v rv => k x v F1 am1 H1 h1 (r.to e1 s1) rv q1⟩
end Ci

set_option Elab.async false
set_option linter.all false
set_option maxRecDepth 100000
set_option maxHeartbeats 4000000
namespace Ci
open PySem PySem.Spec PyProof.Rows L2
theorem tuple_mul1 (l : Addr) (items : Array Value) (n : Nat) (dd : Option Addr) (sl : Array (Option Value)) (u : Tok) :
    Meets (Builtin.«tuple.__mul__» ⟨[.ref l, .int 1 u], []⟩) (fun _ R s => s.heap.get? l = some { cls := .type "tuple", dict := dd, data := .seq items n, slots := sl } ∧ R (.ok (.ret (Value.ref l))) s) :=
  .of_wp fun prog w A R s h => by
    obtain ⟨hp, g, d, tk, os⟩ := s
    obtain ⟨hl, h⟩ := h
    have f1 := AutoSeq1.idx_int
    wp_walk using wpAny_loadPart' hl
    exact ⟨_, rfl, h⟩
theorem tuple_mul0 (l : Addr) (items : Array Value) (n : Nat) (dd : Option Addr) (sl : Array (Option Value)) (u : Tok) (c1 : items.isEmpty = false) :
    Meets (Builtin.«tuple.__mul__» ⟨[.ref l, .int 0 u], []⟩) (fun _ R s => s.heap.get? l = some { cls := .type "tuple", dict := dd, data := .seq items n, slots := sl } ∧
      R (.ok (.ret (Value.ref s.heap.objs.size))) { s with heap := s.heap.push { cls := Value.type "tuple", data := Data.seq #[] }, toks := s.toks }) :=
  .of_wp fun prog w A R s h => by
    obtain ⟨hp, g, d, tk, os⟩ := s
    obtain ⟨hl, h⟩ := h
    have f1 := AutoSeq1.idx_int
    have c2 : (items.isEmpty || (0 : Int) == 1) = false := by rw [c1]; rfl
    wp_walk using wpAny_loadPart' hl
    repeat (first
      | (refine wpAny_ite_false (decide_eq_false (by rw [c2]; exact Bool.false_ne_true)) ?_; wp_walk using wpAny_loadPart' hl)
      | (refine wpAny_ite_false (decide_eq_false (by rw [c1]; exact Bool.false_ne_true)) ?_; wp_walk using wpAny_loadPart' hl))
    exact ⟨_, rfl, h⟩
end Ci

set_option Elab.async false
set_option linter.all false
set_option maxRecDepth 100000
set_option maxHeartbeats 2000000
namespace Ci
open PySem PySem.Spec PyProof.Rows L2
section
variable {z : Si} {F F' F1 F2 : Addr → Prop} {am am' am1 am2 : List Addr} {H H' H1 H2 : Hp} {d e : D} {v u : V} {ds : List D} {vs : List V} {h h' : Hs} {σ0 : SV} {Q : VK} {p : Addr} {o : HO}
/-- a new object that no one changes -/
theorem Sto.laid {c : Rc} (s : Sto c F am H h) (hp : H p = none) (o : HO) : Ext F am H F am (upd H p o) ∧ Sto c F am (upd H p o) h ∧ ¬ F p := by
  have e : Ext F am H F am (upd H p o) := ⟨⟨[], by simp⟩, fun a u q _ => by rw [upd_ne (ne_of_none q hp)]; exact q, fun _ _ _ n => n, fun _ q => q, fun _ a b => absurd a b⟩
  refine ⟨e, ⟨s.nd, s.len, s.inF, fun a q => ?_, fun i a o' q1 q2 => ?_⟩, fun q => ?_⟩
  · obtain ⟨u, q'⟩ := s.ok a q
    exact ⟨u, by rw [upd_ne (ne_of_none q' hp)]; exact q'⟩
  · have q := s.obj i a o' q1 q2
    cases o' with
    | lst ds =>
      obtain ⟨xs, q3, q4⟩ := q
      exact ⟨xs, by rw [upd_ne (ne_of_none q3 hp)]; exact q3, q4.ext e s.inF⟩
    | dct ds =>
      obtain ⟨xs, q3, qk, q4⟩ := q
      exact ⟨xs, by rw [upd_ne (ne_of_none q3 hp)]; exact q3, qk, q4.ext e s.inF⟩
  · obtain ⟨u, q'⟩ := s.ok p q
    rw [hp] at q'; cases q'
theorem PostD.at (q : SatR z σ0 F am H (.ok d h) (PostD z Q)) (s : Sto z.rc F am H h) (r : RD z.rc F am H d v) : Q v H := q F am H .refl s v r
/-- a new tuple -/
theorem PostD.tup (q : SatR z σ0 F am H (.ok (.tup ds) h) (PostD z Q)) (s : Sto z.rc F am H h) (r : RDs z.rc F am H ds vs) (hp : H p = none) : Q (.ref p) (upd H p (.tup vs)) := by
  obtain ⟨e, s', n⟩ := s.laid hp (.tup vs)
  exact q F am _ e s' _ (.tup upd_same n (r.ext e s.inF))
theorem PostD.lst (q : SatR z σ0 F am H (.ok (.lst ds) h) (PostD z Q)) (s : Sto z.rc F am H h) (r : RDs z.rc F am H ds vs) (hp : H p = none) : Q (.ref p) (upd H p (.lst vs)) := by
  obtain ⟨e, s', n⟩ := s.laid hp (.lst vs)
  exact q F am _ e s' _ (.lst upd_same n (r.ext e s.inF))
theorem okL_le {n : Nat} (h : okL n = true) : n ≤ sizeLine := of_decide_eq_true h
theorem ite_some {α : Type} {c : Bool} {x : α} {σ : SV} {P : α → Hs → (Addr → Prop) → List Addr → Hp → Prop} (q : SatR z σ F am H (liftO (if c = true then some x else none) h) P) : c = true ∧ SatR z σ F am H (.ok x h) P := by
  cases c with
  | true => exact ⟨rfl, q⟩
  | false => exact q.elim
end

/-! ### tuple * int -/
/-- (a, b, ..) * k -/
def rMulT : R2 := fun x y H Q => ∃ (l : Addr) (k : Int) (xs : List V), x = .ref l ∧ y = .int k ∧ H l = some (.tup xs) ∧ xs ≠ [] ∧ 2 ≤ k ∧ k ≤ 2000 ∧ xs.length ≤ 2000 ∧ ∀ p, H p = none → Q (.ref p) (upd H p (.tup (List.replicate k.toNat xs).flatten))
theorem mul_tup {X : Cx} : OpR X (binaryOp .Mult) rMulT := by
  intro pins s σ H x y v u Q I rx ry ⟨l, k, xs, ex, ey, hT, hne, g1, g2, g3, q⟩
  subst ex; subst ey
  cases rx
  obtain ⟨t, rfl⟩ := ry
  obtain ⟨its, r, ⟨⟨cls, dd, data, sl⟩, ho, hc, n, hd⟩, _⟩ := I.tuple (SqT.of hT)
  simp only at hc hd
  subst hc hd
  have len : its.length = xs.length := r.length.symm
  have full : its.toArray.isEmpty = false := by
    cases its with
    | nil => exact absurd (List.eq_nil_of_length_eq_zero len.symm) hne
    | cons a b => rfl
  have size : its.toArray.size = xs.length := by rw [List.size_toArray, len]
  have bound : ((its.toArray.size : Nat) : Int) * k ≤ 4000000 := by
    rw [size]
    have b1 : ((xs.length : Nat) : Int) * k ≤ 2000 * k := Int.mul_le_mul_of_nonneg_right (by omega) (by omega)
    omega
  have cells : k.toNat * xs.length ≤ 2000 * 2000 := Nat.mul_le_mul (by omega) g3
  have line := sizeLine_eq
  have d0 : (decide (k < -(2 ^ 63)) || decide (k ≥ 2 ^ 63)) = false := by simp; omega
  have d1 : (its.toArray.isEmpty || k == 1) = false := by rw [full]; simp; omega
  have d2 : (decide (k ≤ 0) || its.toArray.isEmpty) = false := by rw [full]; simp; omega
  have d4 : Builtin.Tuple.tupleTooMany (((its.toArray.size : Nat) : Int) * k) = false := by
    unfold Builtin.Tuple.tupleTooMany
    exact decide_eq_false (by rw [line]; omega)
  have fits : (List.foldl (fun x1 x2 => x1 ++ x2) #[] (List.replicate k.toNat its.toArray)).size ≤ sizeLine := by
    rw [size_rep, List.size_toArray, PyProof.Rows.lm_len_rep_flat, len, line]
    omega
  have made := call_meets (prog := X.prog) (w := X.w) (A := X.A) (E := X.xe) (s := s) (Q := EP X pins σ Q) F.slot_tuple_mul (show s.TypeIs (.ref l) "tuple" from ⟨_, ho, rfl⟩) F.entry_tuple_mul (F.args_tuple_mul_2 _ _) (tuple_mulW l its.toArray n dd sl k t d0 d1 d2 (by omega) d4 fits) ⟨ho, by
    rw [size_rep]
    refine ⟨.ref s.heap.objs.size, _, I.laid (t' := s.toks) (o := .tup (List.replicate k.toNat xs).flatten) (fun b ob q => Heap.get?_push_of_some _ q) (Nat.le_refl _) ?_, rfl, q _ I.fresh⟩
    exact ⟨by rw [PyProof.Rows.lm_len_rep_flat, line]; omega, _, r.rep k.toNat, IsTup.new _ _⟩⟩
  exact wpAny_binaryOp_repeat_ref (T := "tuple") (U := "int") (by decide) ⟨_, ho, rfl⟩ (fun s' => typeIs_int s' k t) noFill_tuple_mul F.fills_int_mul F.slot_int_rmul repeat_tuple F.slot_int_index.lookup
    (call_meets F.slot_int_rmul (typeIs_int s k t) F.entry_int_rmul (F.args_int_rmul_2 _ _) (int_rmul_tuple k t l its.toArray n dd sl) ⟨ho, rfl, ⟨_, ho, rfl⟩, made⟩)
/-- (a, b, ..) * 1 -/
theorem mul_tup1 {X : Cx} : OpR X (binaryOp .Mult) (fun x y H Q => ∃ (l : Addr) (xs : List V), x = .ref l ∧ y = .int 1 ∧ H l = some (.tup xs) ∧ Q (.ref l) H) := by
  intro pins s σ H x y v u Q I rx ry ⟨l, xs, ex, ey, hT, q⟩
  subst ex; subst ey
  cases rx
  obtain ⟨t, rfl⟩ := ry
  obtain ⟨its, r, ⟨⟨cls, dd, data, sl⟩, ho, hc, n, hd⟩, _⟩ := I.tuple (SqT.of hT)
  simp only at hc hd
  subst hc hd
  have made := call_meets (prog := X.prog) (w := X.w) (A := X.A) (E := X.xe) (s := s) (Q := EP X pins σ Q) F.slot_tuple_mul (show s.TypeIs (.ref l) "tuple" from ⟨_, ho, rfl⟩) F.entry_tuple_mul (F.args_tuple_mul_2 _ _) (tuple_mul1 l its.toArray n dd sl t) ⟨ho, .ref l, H, I, rfl, q⟩
  exact wpAny_binaryOp_repeat_ref (T := "tuple") (U := "int") (by decide) ⟨_, ho, rfl⟩ (fun s' => typeIs_int s' 1 t) noFill_tuple_mul F.fills_int_mul F.slot_int_rmul repeat_tuple F.slot_int_index.lookup
    (call_meets F.slot_int_rmul (typeIs_int s 1 t) F.entry_int_rmul (F.args_int_rmul_2 _ _) (int_rmul_tuple 1 t l its.toArray n dd sl) ⟨ho, rfl, ⟨_, ho, rfl⟩, made⟩)
/-- (a, b, ..) * 0 -/
theorem mul_tup0 {X : Cx} : OpR X (binaryOp .Mult) (fun x y H Q => ∃ (l : Addr) (xs : List V), x = .ref l ∧ y = .int 0 ∧ H l = some (.tup xs) ∧ xs ≠ [] ∧ ∀ p, H p = none → Q (.ref p) (upd H p (.tup []))) := by
  intro pins s σ H x y v u Q I rx ry ⟨l, xs, ex, ey, hT, hne, q⟩
  subst ex; subst ey
  cases rx
  obtain ⟨t, rfl⟩ := ry
  obtain ⟨its, r, ⟨⟨cls, dd, data, sl⟩, ho, hc, n, hd⟩, _⟩ := I.tuple (SqT.of hT)
  simp only at hc hd
  subst hc hd
  have len : its.length = xs.length := r.length.symm
  have full : its.toArray.isEmpty = false := by
    cases its with
    | nil => exact absurd (List.eq_nil_of_length_eq_zero len.symm) hne
    | cons a b => rfl
  have made := call_meets (prog := X.prog) (w := X.w) (A := X.A) (E := X.xe) (s := s) (Q := EP X pins σ Q) F.slot_tuple_mul (show s.TypeIs (.ref l) "tuple" from ⟨_, ho, rfl⟩) F.entry_tuple_mul (F.args_tuple_mul_2 _ _) (tuple_mul0 l its.toArray n dd sl t full) ⟨ho, by
    refine ⟨.ref s.heap.objs.size, _, I.laid (t' := s.toks) (o := .tup []) (fun b ob q => Heap.get?_push_of_some _ q) (Nat.le_refl _) ?_, rfl, q _ I.fresh⟩
    exact ⟨Nat.zero_le _, [], .nil, IsTup.new _ _⟩⟩
  exact wpAny_binaryOp_repeat_ref (T := "tuple") (U := "int") (by decide) ⟨_, ho, rfl⟩ (fun s' => typeIs_int s' 0 t) noFill_tuple_mul F.fills_int_mul F.slot_int_rmul repeat_tuple F.slot_int_index.lookup
    (call_meets F.slot_int_rmul (typeIs_int s 0 t) F.entry_int_rmul (F.args_int_rmul_2 _ _) (int_rmul_tuple 0 t l its.toArray n dd sl) ⟨ho, rfl, ⟨_, ho, rfl⟩, made⟩)
theorem mulOk_is {a b : Int} (h : mulOk a b = true) : CMulW a b := by
  unfold mulOk at h
  unfold CMulW
  exact of_decide_eq_true h
/-- what an operation by data wants -/
def rB (z : Si) (f : D → D → Option D) : R2 := fun x y H Q => ∃ σ0 F am h d e, Sto z.rc F am H h ∧ RR z.rc F am H d x ∧ RR z.rc F am H e y ∧ SatR z σ0 F am H (liftO (f d e) h) (PostD z Q)
section
variable {X : Cx} {z : Si}
theorem add_ok (hK : X.K = z.K) : OpR X (binaryOp .Add) (rB z addD) := by
  intro pins s σ H x y v u Q I rx ry ⟨σ0, F, am, h, d, e, st, r1, r2, q⟩
  unfold addD at q
  split at q
  · cases r1.int; cases r2.int
    exact op_add pins s σ H _ _ v u Q I rx ry ⟨_, _, rfl, rfl, PostD.at q st (.int _)⟩
  · cases r1.str; cases r2.str
    obtain ⟨c, q⟩ := ite_some q
    exact op_add_str pins s σ H _ _ v u Q I rx ry ⟨_, _, rfl, rfl, okL_le c, PostD.at q st (.str _)⟩
  · obtain ⟨c, q⟩ := ite_some q
    obtain ⟨a, xs, rfl, e1, n1, k1⟩ := r1.tuple
    obtain ⟨b, ys, rfl, e2, n2, k2⟩ := r2.tuple
    refine op_catA pins s σ H _ _ v u Q I rx ry ⟨a, b, xs, ys, rfl, rfl, SqT.of e1, SqT.of e2, by rw [← k1.length, ← k2.length]; exact okL_le c, fun e0 => ?_, fun _ e0 => ?_, fun _ _ p hp => ?_⟩
    · subst e0
      cases k1
      exact PostD.at q st (.tup e2 n2 k2)
    · subst e0
      cases k2
      rw [List.append_nil] at q
      exact PostD.at q st (.tup e1 n1 k1)
    · exact PostD.tup q st (k1.append k2) hp
  · obtain ⟨c, q⟩ := ite_some q
    obtain ⟨a, xs, rfl, e1, k1⟩ := r1.list
    obtain ⟨b, ys, rfl, e2, k2⟩ := r2.list
    exact op_cat pins s σ H _ _ v u Q I rx ry ⟨a, b, xs, ys, rfl, rfl, e1, e2, by rw [← k1.length, ← k2.length]; exact okL_le c, fun p hp => PostD.lst q st (k1.append k2) hp⟩
  · exact q.elim
theorem bin_ok (hK : X.K = z.K) (op : Operator) : OpR X (binaryOp op) (rB z (binD op)) := by
  intro pins s σ H x y v u Q I rx ry ⟨σ0, F, am, h, d, e, st, r1, r2, q⟩
  unfold binD at q
  split at q
  · exact add_ok hK pins s σ H _ _ v u Q I rx ry ⟨σ0, F, am, h, _, _, st, r1, r2, q⟩
  · cases r1.int; cases r2.int
    exact op_sub pins s σ H _ _ v u Q I rx ry ⟨_, _, rfl, rfl, PostD.at q st (.int _)⟩
  · cases r1.int; cases r2.int
    obtain ⟨c, q⟩ := ite_some q
    exact op_mulW pins s σ H _ _ v u Q I rx ry ⟨_, _, rfl, rfl, mulOk_is c, PostD.at q st (.int _)⟩
  · rename_i ds0 k0
    obtain ⟨c, q⟩ := ite_some q
    cases r2.int
    obtain ⟨a, xs, rfl, e1, n1, k1⟩ := r1.tuple
    simp only [Bool.and_eq_true, decide_eq_true_eq, Bool.not_eq_true'] at c
    obtain ⟨⟨⟨c1, c2⟩, c3⟩, c4⟩ := c
    have hne : xs ≠ [] := fun e => by
      subst e
      cases k1
      cases c4
    by_cases z0 : k0 = 0
    · subst z0
      have q : SatR z σ0 F am H (.ok (.tup []) h) (PostD z Q) := q
      exact mul_tup0 pins s σ H _ _ v u Q I rx ry ⟨a, xs, rfl, rfl, e1, hne, fun p hp => PostD.tup q st .nil hp⟩
    by_cases z1 : k0 = 1
    · subst z1
      rw [show (List.replicate (1 : Int).toNat ds0).flatten = ds0 by simp] at q
      exact mul_tup1 pins s σ H _ _ v u Q I rx ry ⟨a, xs, rfl, rfl, e1, PostD.at q st (.tup e1 n1 k1)⟩
    exact mul_tup pins s σ H _ _ v u Q I rx ry ⟨a, _, xs, rfl, rfl, e1, hne, by omega, c2, by rw [← k1.length]; exact c3, fun p hp => PostD.tup q st (k1.flatRep _) hp⟩
  · obtain ⟨c, q⟩ := ite_some q
    cases r2.int
    obtain ⟨a, xs, rfl, e1, k1⟩ := r1.list
    simp only [Bool.and_eq_true, decide_eq_true_eq] at c
    obtain ⟨⟨c1, c2⟩, c3⟩ := c
    refine op_rep pins s σ H _ _ v u Q I rx ry ⟨a, _, xs, rfl, rfl, e1, by omega, by omega, ?_, fun p hp => PostD.lst q st (k1.flatRep _) hp⟩
    rw [← k1.length, sizeLine_eq]
    exact Nat.le_trans (Nat.mul_le_mul c3 (show _ ≤ 2000 by omega)) (by decide)
  · cases r1.int; cases r2.int
    obtain ⟨c, q⟩ := ite_some q
    simp only [Bool.and_eq_true, decide_eq_true_eq] at c
    exact op_fdivW pins s σ H _ _ v u Q I rx ry ⟨_, _, rfl, rfl, ⟨c.1, c.2⟩, PostD.at q st (.int _)⟩
  · cases r1.int; cases r2.int
    obtain ⟨c, q⟩ := ite_some q
    exact op_mod pins s σ H _ _ v u Q I rx ry ⟨_, _, rfl, rfl, of_decide_eq_true c, PostD.at q st (.int _)⟩
  · cases r1.int; cases r2.int
    obtain ⟨c, q⟩ := ite_some q
    simp only [Bool.and_eq_true, decide_eq_true_eq] at c
    exact op_pow pins s σ H _ _ v u Q I rx ry ⟨_, _, rfl, rfl, ⟨c.1.1, by omega, by omega⟩, PostD.at q st (.int _)⟩
  · cases r1.int; cases r2.int
    exact op_and pins s σ H _ _ v u Q I rx ry ⟨_, _, rfl, rfl, PostD.at q st (.int _)⟩
  · cases r1.int; cases r2.int
    exact op_or pins s σ H _ _ v u Q I rx ry ⟨_, _, rfl, rfl, PostD.at q st (.int _)⟩
  · cases r1.int; cases r2.int
    obtain ⟨c, q⟩ := ite_some q
    simp only [Bool.and_eq_true, decide_eq_true_eq] at c
    exact op_shl pins s σ H _ _ v u Q I rx ry ⟨_, _, rfl, rfl, ⟨c.1.1, by omega, by omega⟩, PostD.at q st (.int _)⟩
  · cases r1.int; cases r2.int
    obtain ⟨c, q⟩ := ite_some q
    exact op_shr pins s σ H _ _ v u Q I rx ry ⟨_, _, rfl, rfl, of_decide_eq_true c, PostD.at q st (.int _)⟩
  · exact q.elim
/-! ### comparisons -/
mutual
theorem RD.dp {F : Addr → Prop} {am : List Addr} {H : Hp} {K : PySem.W.Frag} : ∀ {d : D} {v : V}, RD z.rc F am H d v → d.pure = true → Dp K H v d.py
  | _, _, .non, _ => by simp only [D.py]; exact .non
  | _, _, .bl b, _ => by simp only [D.py]; exact .bl b
  | _, _, .int b, _ => by simp only [D.py]; exact .int b
  | _, _, .str b, _ => by simp only [D.py]; exact .str b
  | _, _, .tup r n k, h => by simp only [D.py]; exact .tup (SqT.of r) (RDs.dp k (by simpa only [D.pure] using h))
  | _, _, .lst r n k, h => by simp only [D.py]; exact .lst (SqL.of r) (RDs.dp k (by simpa only [D.pure] using h))
  | _, _, .ref q, h => by simp [D.pure] at h
  | _, _, .fn q, h => by simp [D.pure] at h
  | _, _, .exc _ _ _ _, h => by simp [D.pure] at h
  | _, _, .scr _ _ _, h => by simp [D.pure] at h
  | _, _, .scrK _ _, h => by simp [D.pure] at h
theorem RDs.dp {F : Addr → Prop} {am : List Addr} {H : Hp} {K : PySem.W.Frag} : ∀ {d : List D} {v : List V}, RDs z.rc F am H d v → D.pures d = true → DpAll K H v (D.pys d)
  | _, _, .nil, _ => by simp only [D.pys]; exact .nil
  | _, _, .cons r k, h => by
    simp only [D.pures, Bool.and_eq_true] at h
    simp only [D.pys]
    exact .cons (RD.dp r h.1) (RDs.dp k h.2)
end
theorem RR.dp {F : Addr → Prop} {am : List Addr} {H : Hp} {K : PySem.W.Frag} {d : D} {v : V} (r : RR z.rc F am H d v) (h : d.pure = true) : Dp K H v d.py := by
  cases r with
  | rd r => exact r.dp h
  | lst r k => simp only [D.py]; exact .lst (SqL.of r) (RDs.dp k (by simpa only [D.pure] using h))
theorem map_bl {F : Addr → Prop} {am : List Addr} {H : Hp} {h : Hs} {σ0 : SV} {Q : VK} {o : Option Bool} (q : SatR z σ0 F am H (liftO (o.map D.bl) h) (PostD z Q)) (st : Sto z.rc F am H h) : ∃ b, o = some b ∧ Q (.bl b) H := by
  cases o with
  | none => exact q.elim
  | some b => exact ⟨b, rfl, PostD.at q st (.bl b)⟩
theorem eqD_ok {a b : D} {k : Bool} (h : eqD a b = some k) : (a.pure = true ∧ SeqAt.shaped a.py = true) ∧ (b.pure = true ∧ SeqAt.shaped b.py = true) ∧ k = PyData.eqv a.py b.py := by
  unfold eqD at h
  split at h
  · rename_i c
    simp only [D.eqOk, Bool.and_eq_true] at c
    exact ⟨c.1, c.2, (Option.some.inj h).symm⟩
  · cases h
def rC (z : Si) (f : D → D → Option Bool) : R2 := fun x y H Q => ∃ σ0 F am h d e, Sto z.rc F am H h ∧ RR z.rc F am H d x ∧ RR z.rc F am H e y ∧ SatR z σ0 F am H (liftO ((f d e).map D.bl) h) (PostD z Q)
theorem cmp_ok (hK : X.K = z.K) (hu : X.A.units + 70 < cLine) (op : CmpOp) : OpR X (compareOp op) (rC z (cmpD op)) := by
  intro pins s σ H x y v u Q I rx ry ⟨σ0, F, am, h, d, e, st, r1, r2, q⟩
  obtain ⟨b, e0, q⟩ := map_bl q st
  unfold cmpD at e0
  split at e0
  · obtain ⟨⟨a1, a2⟩, ⟨b1, b2⟩, rfl⟩ := eqD_ok e0
    exact op_eqD (by omega) pins s σ H _ _ v u Q I rx ry ⟨_, _, r1.dp a1, r2.dp b1, a2, b2, q⟩
  · cases e1 : eqD d e with
    | none => rw [e1] at e0; cases e0
    | some k =>
      rw [e1] at e0
      cases e0
      obtain ⟨⟨a1, a2⟩, ⟨b1, b2⟩, rfl⟩ := eqD_ok e1
      exact op_neD (by omega) pins s σ H _ _ v u Q I rx ry ⟨_, _, r1.dp a1, r2.dp b1, a2, b2, q⟩
  · cases e0; cases r1.int; cases r2.int
    exact op_lt pins s σ H _ _ v u Q I rx ry ⟨_, _, rfl, rfl, q⟩
  · cases e0; cases r1.int; cases r2.int
    exact op_le pins s σ H _ _ v u Q I rx ry ⟨_, _, rfl, rfl, q⟩
  · cases e0; cases r1.int; cases r2.int
    exact op_gt pins s σ H _ _ v u Q I rx ry ⟨_, _, rfl, rfl, q⟩
  · cases e0; cases r1.int; cases r2.int
    exact op_ge pins s σ H _ _ v u Q I rx ry ⟨_, _, rfl, rfl, q⟩
  · split at e0
    · rename_i c
      cases e0
      simp only [D.eqOk, Bool.and_eq_true] at c
      have k2 := r2.dp (K := X.K) c.2.1
      have c22 := c.2.2
      simp only [D.py] at k2 c22
      exact op_inD (by omega) pins s σ H _ _ v u Q I rx ry ⟨_, _, r1.dp c.1.1, k2, c.1.2, c22, q⟩
    · cases e0
  · split at e0
    · rename_i c
      cases e0
      simp only [D.eqOk, Bool.and_eq_true] at c
      have k2 := r2.dp (K := X.K) c.2.1
      have c22 := c.2.2
      simp only [D.py] at k2 c22
      exact op_notInD (by omega) pins s σ H _ _ v u Q I rx ry ⟨_, _, r1.dp c.1.1, k2, c.1.2, c22, q⟩
    · cases e0
  · split at e0
    · rename_i c
      cases e0
      simp only [D.eqOk, Bool.and_eq_true] at c
      have k2 := r2.dp (K := X.K) c.2.1
      have c22 := c.2.2
      simp only [D.py] at k2 c22
      obtain ⟨as, t1⟩ := Dp.reads I _ _ v (r1.dp (K := X.K) c.1.1) rx
      obtain ⟨bs, t2⟩ := Dp.reads I _ _ u k2 ry
      exact SeqAt.in_tuple_reads t2 t1 (SeqAt.canLay_of_shaped c22) (SeqAt.canLay_of_shaped c.1.2) (room_in_shaped c.1.2 (by omega)) ⟨.bl _, H, I, rfl, q⟩
    · cases e0
  · split at e0
    · rename_i c
      cases e0
      simp only [D.eqOk, Bool.and_eq_true] at c
      have k2 := r2.dp (K := X.K) c.2.1
      have c22 := c.2.2
      simp only [D.py] at k2 c22
      obtain ⟨as, t1⟩ := Dp.reads I _ _ v (r1.dp (K := X.K) c.1.1) rx
      obtain ⟨bs, t2⟩ := Dp.reads I _ _ u k2 ry
      exact SeqAt.notIn_tuple_reads t2 t1 (SeqAt.canLay_of_shaped c22) (SeqAt.canLay_of_shaped c.1.2) (room_in_shaped c.1.2 (by omega)) ⟨.bl _, H, I, rfl, q⟩
    · cases e0
  · cases e0
/-! ### truth -/
theorem tru_of {F : Addr → Prop} {am : List Addr} {H : Hp} {d : D} {v : V} {k : Bool} {K : PySem.W.Frag} (r : RR z.rc F am H d v) (e : truD d = some k) : TruV K v H k := by
  unfold truD at e
  split at e
  · cases r.non; cases e; rfl
  · cases r.bl; cases e; rfl
  · cases r.int; cases e; rfl
  · rename_i s
    cases r.str
    split at e
    · rename_i c
      cases e
      exact ⟨okL_le c, by
        show (s.length != 0) = ((s.length : Int) != 0)
        cases hs : s.length with
        | zero => rfl
        | succ n =>
          have a1 : (n + 1 != 0) = true := by simp
          have a2 : (((n + 1 : Nat) : Int) != 0) = true := by
            rw [bne_iff_ne]; omega
          rw [a1, a2]⟩
    · cases e
  · cases e
    obtain ⟨a, xs, rfl, e1, _, k1⟩ := r.tuple
    refine .inr (.inl ⟨xs, SqT.of e1, ?_⟩)
    cases k1 <;> rfl
  · cases e
    obtain ⟨a, xs, rfl, e1, k1⟩ := r.list
    refine .inl ⟨xs, SqL.of e1, ?_⟩
    cases k1 <;> rfl
  · cases e
/-! ### subscripts and slices -/
theorem ixI_eq (n : Nat) (i : Int) : ixI n i = ixN n i := rfl
theorem ix_ok (hK : X.K = z.K) : IxR X (fun x y H Q => ∃ σ0 F am h d e, Sto z.rc F am H h ∧ RR z.rc F am H d x ∧ RD z.rc F am H e y ∧ SatR z σ0 F am H (liftO (ixD d e) h) (PostD z Q)) := by
  intro value slice pins s σ H x y v u Q I rx ry ⟨σ0, F, am, h, d, e, st, r1, r2, q⟩ hs
  unfold ixD at q
  split at q
  · rename_i xs i
    obtain ⟨a, ws, rfl, e1, _, k1⟩ := r1.tuple
    cases r2
    unfold atD at q
    rw [ixI_eq] at q
    cases e2 : ixN xs.length i with
    | none => rw [e2] at q; exact q.elim
    | some j =>
      rw [e2] at q
      cases e3 : xs[j]? with
      | none => simp only [Option.bind_some, e3] at q; exact q.elim
      | some w =>
        simp only [Option.bind_some, e3] at q
        obtain ⟨w', q1, q2⟩ := k1.get e3
        refine ix_tup value slice pins s σ H _ _ v u Q I rx ry ⟨a, ws, _, w', rfl, rfl, SqT.of e1, ?_, PostD.at q st q2⟩ hs
        unfold atI
        rw [← k1.length, e2, Option.bind_some]
        exact q1
  · rename_i xs i
    obtain ⟨a, ws, rfl, e1, k1⟩ := r1.list
    cases r2
    unfold atD at q
    rw [ixI_eq] at q
    cases e2 : ixN xs.length i with
    | none => rw [e2] at q; exact q.elim
    | some j =>
      rw [e2] at q
      cases e3 : xs[j]? with
      | none => simp only [Option.bind_some, e3] at q; exact q.elim
      | some w =>
        simp only [Option.bind_some, e3] at q
        obtain ⟨w', q1, q2⟩ := k1.get e3
        refine ix_list value slice pins s σ H _ _ v u Q I rx ry ⟨a, ws, _, w', rfl, rfl, SqL.of e1, ?_, PostD.at q st q2⟩ hs
        unfold atI
        rw [← k1.length, e2, Option.bind_some]
        exact q1
  · rename_i t i
    obtain ⟨c, q⟩ : okL t.length = true ∧ SatR z σ0 F am H (liftO (chD t i) h) (PostD z Q) := by
      split at q
      · rename_i c; exact ⟨c, q⟩
      · exact q.elim
    cases r1.str
    cases r2
    unfold chD at q
    rw [ixI_eq] at q
    cases e2 : ixN t.cps.toList.length i with
    | none => rw [e2] at q; exact q.elim
    | some j =>
      rw [e2] at q
      cases e3 : t.cps.toList[j]? with
      | none => simp only [Option.bind_some, e3] at q; exact q.elim
      | some w =>
        simp only [Option.bind_some, e3] at q
        refine ix_str value slice pins s σ H _ _ v u Q I rx ry ⟨t, i, w, rfl, rfl, okL_le c, ?_, PostD.at q st (.str _)⟩ hs
        unfold atI
        rw [e2, Option.bind_some]
        exact e3
  · exact q.elim
theorem cut_rel {F : Addr → Prop} {am : List Addr} {H : Hp} {xs : List D} {ws : List V} {lo hi : Option Int} (k : RDs z.rc F am H xs ws) : RDs z.rc F am H (cutL xs lo hi) (cutV ws lo hi) := by
  have e : ∀ (n d : Nat) (o : Option Int), cutI n d o = HT.sIx n d o := fun n d o => by cases o <;> rfl
  unfold cutL cutV
  rw [e, e, k.length]
  exact (k.drop _).take _
theorem sl_ok (hK : X.K = z.K) : SlR X (fun x lo hi H Q => ∃ σ0 F am h d, Sto z.rc F am H h ∧ RR z.rc F am H d x ∧ SatR z σ0 F am H (liftO (slD d lo hi) h) (PostD z Q)) := by
  intro pins s σ H x v vl vu lo hi sl Q I rx hs pl pu ⟨σ0, F, am, h, d, st, r1, q⟩
  unfold slD at q
  split at q
  · obtain ⟨a, ws, rfl, e1, n1, k1⟩ := r1.tuple
    refine sl_tupA pins s σ H _ v vl vu lo hi sl Q I rx hs pl pu ⟨a, ws, rfl, SqT.of e1, fun c => ?_, fun _ p hp => PostD.tup q st (cut_rel k1) hp⟩
    rename_i xs
    have e : cutL xs lo hi = xs := by
      have e : ∀ (n d : Nat) (o : Option Int), cutI n d o = HT.sIx n d o := fun n d o => by cases o <;> rfl
      unfold cutL
      rw [e, e, k1.length, c.1, c.2, List.drop_zero, Nat.sub_zero, ← k1.length, List.take_length]
    rw [e] at q
    exact PostD.at q st (.tup e1 n1 k1)
  · obtain ⟨a, ws, rfl, e1, k1⟩ := r1.list
    exact sl_list pins s σ H _ v vl vu lo hi sl Q I rx hs pl pu ⟨a, ws, rfl, SqL.of e1, fun p hp => PostD.lst q st (cut_rel k1) hp⟩
  · exact q.elim
end
end Ci

set_option Elab.async false
set_option linter.all false
set_option maxRecDepth 100000
set_option maxHeartbeats 4000000
namespace Ci
open PySem PySem.Spec PyProof.Rows L2
mutual
theorem py_inj : ∀ {a b : D}, a.pure = true → b.pure = true → a.py = b.py → a = b
  | .non, b, _, hb, e => by cases b <;> simp_all [D.py, D.pure]
  | .bl x, b, _, hb, e => by cases b <;> simp_all [D.py, D.pure]
  | .int x, b, _, hb, e => by cases b <;> simp_all [D.py, D.pure]
  | .str x, b, _, hb, e => by cases b <;> simp_all [D.py, D.pure]
  | .tup xs, b, ha, hb, e => by
    cases b with
    | tup ys =>
      simp only [D.py, PyData.tuple.injEq] at e
      simp only [D.pure] at ha hb
      rw [pys_inj ha hb e]
    | _ => simp [D.py, D.pure] at e hb
  | .lst xs, b, ha, hb, e => by
    cases b with
    | lst ys =>
      simp only [D.py, PyData.list.injEq] at e
      simp only [D.pure] at ha hb
      rw [pys_inj ha hb e]
    | _ => simp [D.py, D.pure] at e hb
  | .ref _, _, h, _, _ => by simp [D.pure] at h
  | .fn _, _, h, _, _ => by simp [D.pure] at h
  | .exc _ _, _, h, _, _ => by simp [D.pure] at h
  | .scr _, _, h, _, _ => by simp [D.pure] at h
theorem pys_inj : ∀ {a b : List D}, D.pures a = true → D.pures b = true → D.pys a = D.pys b → a = b
  | [], [], _, _, _ => rfl
  | [], _ :: _, _, _, e => by simp [D.pys] at e
  | _ :: _, [], _, _, e => by simp [D.pys] at e
  | x :: xs, y :: ys, ha, hb, e => by
    simp only [D.pys, List.cons.injEq] at e
    simp only [D.pures, Bool.and_eq_true] at ha hb
    rw [py_inj ha.1 hb.1 e.1, pys_inj ha.2 hb.2 e.2]
end
theorem pys_map : ∀ xs : List D, D.pys xs = xs.map D.py
  | [] => rfl
  | x :: xs => by simp [D.pys, pys_map xs]
theorem minB_py : ∀ (r : List D) (x : D), (minB x r).py = PySem.W.minD x.py (D.pys r)
  | [], x => rfl
  | y :: r, x => by
    unfold minB
    rw [minB_py r]
    show _ = PySem.W.minD (if PySem.W.dataLt y.py x.py = true then y.py else x.py) (D.pys r)
    split <;> rfl
theorem maxB_py : ∀ (r : List D) (x : D), (maxB x r).py = PySem.W.maxD x.py (D.pys r)
  | [], x => rfl
  | y :: r, x => by
    unfold maxB
    rw [maxB_py r]
    show _ = PySem.W.maxD (if PySem.W.dataLt x.py y.py = true then y.py else x.py) (D.pys r)
    split <;> rfl
theorem minB_mem : ∀ (r : List D) (x : D), minB x r ∈ x :: r
  | [], x => by simp [minB]
  | y :: r, x => by
    unfold minB
    have := minB_mem r (if PySem.W.dataLt y.py x.py = true then y else x)
    split at this <;> simp_all <;> rcases this with h | h <;> simp_all
theorem maxB_mem : ∀ (r : List D) (x : D), maxB x r ∈ x :: r
  | [], x => by simp [maxB]
  | y :: r, x => by
    unfold maxB
    have := maxB_mem r (if PySem.W.dataLt x.py y.py = true then y else x)
    split at this <;> simp_all <;> rcases this with h | h <;> simp_all
theorem pures_mem : ∀ {xs : List D}, D.pures xs = true → ∀ d ∈ xs, d.pure = true
  | x :: xs, h, d, hd => by
    simp only [D.pures, Bool.and_eq_true] at h
    rcases List.mem_cons.1 hd with rfl | hd
    · exact h.1
    · exact pures_mem h.2 d hd
section
variable {X : Cx} {z : Si}
theorem alike_all {xs : List D} (h : alikeB xs = true) : D.pures xs = true ∧ PySem.W.AlikeAll (D.pys xs) ∧ PyData.depthAll (D.pys xs) ≤ 64 := by
  unfold alikeB at h
  simp only [Bool.and_eq_true, decide_eq_true_eq] at h
  obtain ⟨⟨⟨h1, h2⟩, h3⟩, h4⟩ := h
  refine ⟨h1, ⟨fun a ha b hb => ?_, fun a ha => ?_⟩, h4⟩
  · rw [pys_map] at ha hb
    obtain ⟨x, hx, rfl⟩ := List.mem_map.1 ha
    obtain ⟨y, hy, rfl⟩ := List.mem_map.1 hb
    exact List.all_eq_true.1 (List.all_eq_true.1 h2 x hx) y hy
  · rw [pys_map] at ha
    obtain ⟨x, hx, rfl⟩ := List.mem_map.1 ha
    have := List.all_eq_true.1 h3 x hx
    have hp := pures_mem h1 x hx
    cases x <;> simp_all [isNonD, D.py, D.pure]
def rBest (z : Si) (K : PySem.W.Frag) (f : D → List D → D) : List V → Hp → VK → Prop := fun vs H Q => ∃ (a : Addr) (ys : List V), vs = [.ref a] ∧ SqL K H a ys ∧ ∃ σ0 F am h x r, Sto z.rc F am H h ∧ RDs z.rc F am H (x :: r) ys ∧ alikeB (x :: r) = true ∧ SatR z σ0 F am H (liftO (some (f x r)) h) (PostD z Q)
theorem vals_at : ∀ {ys : List V} {us : List Value} {i : Nat} {u : Value}, Vals ys us → us[i]? = some u → ∃ y, ys[i]? = some y ∧ RelV y u
  | _, _, _, _, .nil, e => by simp at e
  | _, _, 0, _, .cons r _, e => by simp at e; subst e; exact ⟨_, rfl, r⟩
  | _, _, i + 1, u, .cons _ k, e => by
    obtain ⟨v, h1, h2⟩ := vals_at (i := i) (u := u) k (by simpa using e)
    exact ⟨v, by simpa using h1, h2⟩
theorem best_at {pins : List (Addr × Obj)} {σ σ0 : SV} {H : Hp} {s : Shared} {F : Addr → Prop} {am : List Addr} {h : Hs} {xs : List D} {b : D} {ys : List V} {its : List Value} {Q : VK} {i : Nat} {v : Value} {h' : Heap} {bs : List Addr} (I : L2.Inv X pins σ H s) (st : Sto z.rc F am H h) (k : RDs z.rc F am H xs ys) (p1 : D.pures xs = true) (hb : b ∈ xs) (rv : Vals ys its)
    (hv : its[i]? = some v) (rd : Reads h' v b.py bs) (hk : ∀ b o, s.heap.get? b = some o → h'.get? b = some o) (q : SatR z σ0 F am H (.ok b h) (PostD z Q)) : ∃ y, RelV y v ∧ Q y H := by
  obtain ⟨y, hy, ry⟩ := vals_at rv hv
  obtain ⟨d, hd, kd⟩ := k.get' hy
  have hp := pures_mem p1 d (List.mem_of_getElem? hd)
  obtain ⟨as, r1⟩ := Dp.reads I _ _ _ (kd.dp (K := X.K) hp) ry
  have e := (PySem.Reads.unique (PySem.W.reads_keeps hk r1) _ _ rd).1
  have e2 := py_inj hp (pures_mem p1 b hb) e
  subst e2
  exact ⟨y, ry, PostD.at q st kd⟩
theorem min_dat (hc : X.calm = true) (hu : X.A.units + 70 < cLine) : CallR X (.builtin "min") (rBest z X.K minB) := by
  intro pins s σ H vs us Q I r ⟨a, ys, ev, hs, σ0, F, am, h, x, l, st, k, c, q⟩
  subst ev
  obtain ⟨its, rv, hl, _⟩ := I.list hs
  rw [Vals.ref1 r]
  obtain ⟨p1, p2, p3⟩ := alike_all c
  obtain ⟨as, ra⟩ := Dp.readsAll I _ _ _ (k.dp (K := X.K) p1) rv
  simp only [D.pys] at ra p2 p3
  refine PySem.W.min_list_data (I.ok.hd hc) hl.isList (by simpa using ra) p2 (by omega) fun i v h' tk bs hv rd hk => ?_
  rw [← minB_py] at rd
  obtain ⟨y, ry, qy⟩ := best_at I st k p1 (minB_mem l x) rv (by simpa using hv) rd hk q
  exact ⟨y, H, I.kept hk, ry, qy⟩
theorem max_dat (hc : X.calm = true) (hu : X.A.units + 70 < cLine) : CallR X (.builtin "max") (rBest z X.K maxB) := by
  intro pins s σ H vs us Q I r ⟨a, ys, ev, hs, σ0, F, am, h, x, l, st, k, c, q⟩
  subst ev
  obtain ⟨its, rv, hl, _⟩ := I.list hs
  rw [Vals.ref1 r]
  obtain ⟨p1, p2, p3⟩ := alike_all c
  obtain ⟨as, ra⟩ := Dp.readsAll I _ _ _ (k.dp (K := X.K) p1) rv
  simp only [D.pys] at ra p2 p3
  refine PySem.W.max_list_data (I.ok.hd hc) hl.isList (by simpa using ra) p2 (by omega) fun i v h' tk bs hv rd hk => ?_
  rw [← maxB_py] at rd
  obtain ⟨y, ry, qy⟩ := best_at I st k p1 (maxB_mem l x) rv (by simpa using hv) rd hk q
  exact ⟨y, H, I.kept hk, ry, qy⟩
/-- sorted(xs), xs tuples alike -/
def rSortD (z : Si) (K : PySem.W.Frag) : List V → Hp → VK → Prop := fun vs H Q => ∃ (a : Addr) (ys : List V), vs = [.ref a] ∧ SqL K H a ys ∧ ∃ σ0 F am h xs, Sto z.rc F am H h ∧ RDs z.rc F am H xs ys ∧ (alikeB xs && sortB xs && okL xs.length) = true ∧ SatR z σ0 F am H (.ok (.lst (xs.mergeSort (PySem.W.dataLe false D.py))) h) (PostD z Q)
theorem each_of {R : Value → D → Prop} : ∀ {xs : List D} {ys : List V} {us : List Value} {F : Addr → Prop} {am : List Addr} {H : Hp} {c : Rc}, RDs c F am H xs ys → Vals ys us → (∀ d v u, d ∈ xs → RD c F am H d v → RelV v u → R u d) → PySem.W.EachIs R us xs
  | [], [], _, _, _, _, _, .nil, .nil, _ => .nil
  | d :: xs, v :: ys, u :: us, _, _, _, _, .cons r rs, .cons q qs, k => .cons (k d v u List.mem_cons_self r q) (each_of rs qs fun d v u hd => k d v u (List.mem_cons_of_mem _ hd))
theorem each_back {c : Rc} {F : Addr → Prop} {am : List Addr} {H : Hp} : ∀ {us : List Value} {xs : List D}, PySem.W.EachIs (fun u d => ∃ v, RD c F am H d v ∧ RelV v u) us xs → ∃ ys, Vals ys us ∧ RDs c F am H xs ys
  | _, _, .nil => ⟨[], .nil, .nil⟩
  | _, _, .cons ⟨v, r, q⟩ t => let ⟨ys, a, b⟩ := each_back t; ⟨v :: ys, .cons q a, .cons r b⟩
theorem sort_dat (hu : X.A.units + 70 < cLine) : CallR X (.builtin "sorted") (rSortD z X.K) := by
  intro pins s σ H vs us Q I r ⟨a, ys, ev, hs, σ0, F, am, h, xs, st, k, c, q⟩
  subst ev
  obtain ⟨its, rv, hl, hz⟩ := I.list hs
  rw [Vals.ref1 r]
  simp only [Bool.and_eq_true] at c
  obtain ⟨⟨c1, c2⟩, c3⟩ := c
  obtain ⟨p1, p2, p3⟩ := alike_all c1
  have key : ∀ d ∈ xs, d.py.depth ≤ 64 := by
    have go : ∀ (l : List D) (d : D), d ∈ l → d.py.depth ≤ PyData.depthAll (D.pys l) := by
      intro l
      induction l with
      | nil => intro d hd; cases hd
      | cons x l ih =>
        intro d hd
        simp only [D.pys, PyData.depthAll]
        rcases List.mem_cons.1 hd with rfl | hd
        · exact Nat.le_max_left _ _
        · exact Nat.le_trans (ih d hd) (Nat.le_max_right _ _)
    exact fun d hd => Nat.le_trans (go xs d hd) p3
  refine PySem.W.sorted_data (enc := D.py) (R := fun u d => ∃ v, RD z.rc F am H d v ∧ RelV v u) hl.isList (each_of k rv fun d v u _ r q => ⟨v, r, q⟩) (each_of k rv fun d v u hd r q => ?_) ?_ ?_ (okL_le c3) (fun d hd => by have := key d hd; omega) fun out ho he => ?_
  · exact Dp.reads I _ _ _ (r.dp (K := X.K) (pures_mem p1 d hd)) q
  · intro d hd d' hd'
    rw [← pys_map] at hd hd'
    exact p2.1 d hd d' hd'
  · refine .inl fun d hd => ?_
    obtain ⟨x, hx, rfl⟩ := List.mem_map.1 hd
    have := List.all_eq_true.1 c2 x hx
    split at this
    · exact ⟨_, _, by simp only [D.py, D.pys]; rfl⟩
    · cases this
  · obtain ⟨ws, w1, w2⟩ := each_back he
    obtain ⟨ep, he'⟩ := PyProof.Rows.sortedAll_at s.heap its out.toArray
    have hlen : ws.length ≤ sizeLine := by
      rw [← w2.length, List.length_mergeSort]
      exact okL_le c3
    have f := I.hok.fresh (Nat.le_succ s.heap.objs.size)
    refine ⟨.ref _, upd H (s.heap.objs.size + 1) (.lst ws), I.laid (t' := s.toks) (fun _ _ => PyProof.Rows.sortedAll_old) (Nat.le_succ _) ⟨hlen, out, ep, w1, he'⟩, rfl, PostD.lst q st w2 f⟩
end
end Ci

set_option Elab.async false
set_option linter.all false
set_option maxRecDepth 100000
set_option maxHeartbeats 4000000
namespace Ci
open PySem PySem.Spec PyProof.Rows L2
/-! ### sorted(t), t a tuple -/
section
variable {prog : Program} {w : World} {A : Around} {E : Value → Shared → Prop} {s : Shared}
theorem coll_tup {l : Addr} {vs : List Value} {Q : List Value → Shared → Prop} (hl : s.heap.IsTuple l vs.toArray)
    (h : Q vs { s with heap := (s.heap.push (seqObj "list" #[] 0)).update s.heap.objs.size (Obj.mapSeq (· ++ vs.toArray)) }) (hsz : vs.length ≤ sizeLine) :
    wpAny (model prog w) A (collect (.ref l)) Q E s := by
  obtain ⟨o, ho, hc, n, hd⟩ := id hl
  unfold collect
  refine wpAny_bind (wpAny_runValue (codeAny_builtin entry_proto_collect' ?_))
  show wpAny _ _ (do again (.builtin "list.__iadd__" ⟨[← newList [], .ref l], []⟩)) _ _ s
  refine wpAny_bind (wpAny_newList (wpAny_pure ⟨Code.quiet_builtin _ (by decide +kernel), codeAny_builtin entry_list_iadd' ?_⟩))
  show wpAny _ _ (Builtin.List.listExtendWith (.ref s.heap.objs.size) (.ref l) (.ref s.heap.objs.size)) _ _ { s with heap := s.heap.push (seqObj "list" #[] 0) }
  unfold Builtin.List.listExtendWith
  have ho' : (s.heap.push (seqObj "list" #[] 0)).get? l = some o := Heap.get?_push_of_some _ ho
  refine wpAny_bind (wpAny_typeOf (T := "tuple") ⟨o, ho', hc⟩ ?_)
  have ht : (Value.type "tuple" == Value.type "tuple") = true := by rfl
  rw [if_pos (by rw [ht]; simp)]
  refine wpAny_bind (listItems_at ho' hd ?_)
  refine wpAny_bind (listItems_at (xs := #[]) (n := 0) (Heap.get?_push_size _ rfl) rfl ?_)
  rw [if_neg (by simp)]
  refine wpAny_bind (listUpdate_at (xs := #[]) (n := 0) (Heap.get?_push_size _ rfl) rfl ?_ (Nat.zero_le _) (by show (#[] ++ vs.toArray).size ≤ sizeLine + 1; simp only [Array.size_append, List.size_toArray, List.length_nil]; omega))
  refine wpAny_pure ?_
  show wpAny (model prog w) A (do
      let o ← load s.heap.objs.size
      match o.data with
      | .seq xs _ => pure xs.toList
      | _ => unsupported "internal:collect") Q E { s with heap := (s.heap.push (seqObj "list" #[] 0)).update s.heap.objs.size (Obj.mapSeq (· ++ vs.toArray)) }
  refine wpAny_bind (wpAny_load (get?_update_seq (Heap.get?_push_size _ rfl) _) ?_)
  show wpAny _ _ (pure ((#[] : Array Value) ++ vs.toArray).toList) Q E _
  rw [show ((#[] : Array Value) ++ vs.toArray).toList = vs by simp]
  exact wpAny_pure h
open PySem.W in
theorem sorted_tupOf {l : Addr} {vs : List Value} {Q : Value → Shared → Prop} (hl : s.heap.IsTuple l vs.toArray) (hL : vs.length ≤ sizeLine)
    (body : ∀ E' : Value → Shared → Prop, wpAny (model prog w) A.in1.in1 (Builtin.«list.sort» ⟨[.ref (s.heap.objs.size + 1)], []⟩) (fun f s' => f = .done (.ret .none) ∧ Q (.ref (s.heap.objs.size + 1)) s') E' { s with heap := copyHeap s.heap vs }) :
    wpAny (model prog w) A (call (.builtin "sorted") [.ref l]) Q E s := by
  refine call_function_entry_kw kind_sorted plain_sorted entry_sorted (args_sorted1 _) ?_
  unfold Builtin.«sorted»
  refine wpAny_bind (m := checkCount "sorted" 1 1 _) (wpAny_pure ?_)
  refine wpAny_bind (coll_tup hl ?_ hL)
  refine wpAny_bind (wpAny_newList ?_ hL)
  have hsz : ((s.heap.push (seqObj "list" #[] 0)).update s.heap.objs.size (Obj.mapSeq (· ++ vs.toArray))).objs.size = s.heap.objs.size + 1 := by
    rw [Heap.size_update, size_push']
  show wpAny _ _ _ _ _ { s with heap := copyHeap s.heap vs }
  rw [hsz]
  refine wpAny_bind (wpAny_holding (wpAny_call_entry_kw slot_list_sort ⟨_, copyHeap_at s.heap vs, rfl⟩ entry_list_sort ?body (args_list_sort _)))
  case body =>
    show wpAny (model prog w) A.in1.in1 (Builtin.«list.sort» ⟨[.ref (s.heap.objs.size + 1)], []⟩) _ _ _
    refine wpAny_mono (body _) (fun f s' hf => ?_) fun _ _ e => e
    obtain ⟨rfl, hq⟩ := hf
    exact ⟨_, rfl, wpAny_pure ⟨_, rfl, hq⟩⟩
open PySem.W in
theorem sorted_tup_data {β : Type} {enc : β → PyData} {R : Value → β → Prop} {vs : List Value} {bs : List β} {l : Addr} {Q : Value → Shared → Prop} (hl : s.heap.IsTuple l vs.toArray) (e : EachIs R vs bs) (er : EachIs (fun v b => ∃ as, Reads s.heap v (enc b) as) vs bs) (hal : AllAlike (bs.map enc)) (hk : Sortable (bs.map enc)) (hL : bs.length ≤ sizeLine)
    (hu : ∀ b, b ∈ bs → A.units + 2 + (enc b).depth < cLine) (h : ∀ out, out.length = bs.length → EachIs R out (bs.mergeSort (dataLe false enc)) → Q (.ref (s.heap.objs.size + 1)) { s with heap := sortedAll s.heap vs (List.toArray out) }) :
    wpAny (model prog w) A (call (.builtin "sorted") [.ref l]) Q E s := by
  have er' : EachIs (fun v b => ∃ as, Reads (sortingHeap (copyHeap s.heap vs) (s.heap.objs.size + 1) vs) v (enc b) as) vs bs := er.mono fun _ _ ⟨as, r⟩ => ⟨as, PyProof.Rows.Reads.keeps (fun _ _ => sorting_copy_old) r⟩
  have S := SortsAt.data (prog := prog) (w := w) (A := A.in1.in1) (s := { s with heap := sortingHeap (copyHeap s.heap vs) (s.heap.objs.size + 1) vs }) (each_map (R := fun v d => ∃ as, Reads (sortingHeap (copyHeap s.heap vs) (s.heap.objs.size + 1) vs) v d as) enc er') hal hk (bound_map hu)
  have hL' : vs.length ≤ sizeLine := by rw [e.length]; exact hL
  refine sorted_tupOf hl hL' fun E' => list_sort_vals (s := { s with heap := copyHeap s.heap vs }) (copyHeap_at s.heap vs) S hL' ⟨rfl, ?_⟩
  exact h _ (by rw [sortVals_length false rfl]; exact e.length) (sortVals_data false e er' hal)
open PySem.W in
theorem sorted_tup_ints {vs : List Value} {ns : List Int} {l : Addr} {Q : Value → Shared → Prop} (hl : s.heap.IsTuple l vs.toArray) (hI : IntsAre vs ns) (hL : vs.length ≤ sizeLine)
    (h : ∀ (out : Array Value) (ns' : List Int), IntsAre out.toList ns' → ns'.Perm ns → ns'.Pairwise (· ≤ ·) → Q (.ref (s.heap.objs.size + 1)) { s with heap := sortedAll s.heap vs out }) :
    wpAny (model prog w) A (call (.builtin "sorted") [.ref l]) Q E s :=
  sorted_tupOf hl hL fun E' => list_sort_treeAny (s := { s with heap := copyHeap s.heap vs }) (copyHeap_at s.heap vs) hI hL fun out ns' a1 a2 a3 => ⟨rfl, h out ns' a1 a2 a3⟩
end
section
variable {X : Cx} {z : Si}
/-- sorted(t), t a tuple of tuples alike -/
def rSortDT (z : Si) (K : PySem.W.Frag) : List V → Hp → VK → Prop := fun vs H Q => ∃ (a : Addr) (ys : List V), vs = [.ref a] ∧ SqT K H a ys ∧ ∃ σ0 F am h xs, Sto z.rc F am H h ∧ RDs z.rc F am H xs ys ∧ (alikeB xs && sortB xs && okL xs.length) = true ∧ SatR z σ0 F am H (.ok (.lst (xs.mergeSort (PySem.W.dataLe false D.py))) h) (PostD z Q)
theorem sort_datT (hu : X.A.units + 70 < cLine) : CallR X (.builtin "sorted") (rSortDT z X.K) := by
  intro pins s σ H vs us Q I r ⟨a, ys, ev, hs, σ0, F, am, h, xs, st, k, c, q⟩
  subst ev
  obtain ⟨its, rv, hl, hz⟩ := I.tuple hs
  rw [Vals.ref1 r]
  simp only [Bool.and_eq_true] at c
  obtain ⟨⟨c1, c2⟩, c3⟩ := c
  obtain ⟨p1, p2, p3⟩ := alike_all c1
  have key : ∀ d ∈ xs, d.py.depth ≤ 64 := by
    have go : ∀ (l : List D) (d : D), d ∈ l → d.py.depth ≤ PyData.depthAll (D.pys l) := by
      intro l
      induction l with
      | nil => intro d hd; cases hd
      | cons x l ih =>
        intro d hd
        simp only [D.pys, PyData.depthAll]
        rcases List.mem_cons.1 hd with rfl | hd
        · exact Nat.le_max_left _ _
        · exact Nat.le_trans (ih d hd) (Nat.le_max_right _ _)
    exact fun d hd => Nat.le_trans (go xs d hd) p3
  refine sorted_tup_data (enc := D.py) (R := fun u d => ∃ v, RD z.rc F am H d v ∧ RelV v u) hl (each_of k rv fun d v u _ r q => ⟨v, r, q⟩) (each_of k rv fun d v u hd r q => ?_) ?_ ?_ (okL_le c3) (fun d hd => by have := key d hd; omega) fun out ho he => ?_
  · exact Dp.reads I _ _ _ (r.dp (K := X.K) (pures_mem p1 d hd)) q
  · intro d hd d' hd'
    rw [← pys_map] at hd hd'
    exact p2.1 d hd d' hd'
  · refine .inl fun d hd => ?_
    obtain ⟨x, hx, rfl⟩ := List.mem_map.1 hd
    have := List.all_eq_true.1 c2 x hx
    split at this
    · exact ⟨_, _, by simp only [D.py, D.pys]; rfl⟩
    · cases this
  · obtain ⟨ws, w1, w2⟩ := each_back he
    obtain ⟨ep, he'⟩ := PyProof.Rows.sortedAll_at s.heap its out.toArray
    have hlen : ws.length ≤ sizeLine := by
      rw [← w2.length, List.length_mergeSort]
      exact okL_le c3
    have f := I.hok.fresh (Nat.le_succ s.heap.objs.size)
    refine ⟨.ref _, upd H (s.heap.objs.size + 1) (.lst ws), I.laid (t' := s.toks) (fun _ _ => PyProof.Rows.sortedAll_old) (Nat.le_succ _) ⟨hlen, out, ep, w1, he'⟩, rfl, PostD.lst q st w2 f⟩
/-- sorted(t), t a tuple of ints -/
theorem cr_sortedIT : CallR X (.builtin "sorted") (fun vs H Q => ∃ (a : Addr) (ns : List Int), vs = [V.ref a] ∧ SqT X.K H a (ns.map V.int) ∧ ∀ (ns' : List Int) (p : Addr), ns'.Perm ns → ns'.Pairwise (· ≤ ·) → H p = none → Q (.ref p) (upd H p (.lst (ns'.map V.int)))) := by
  intro pins s σ H vs us Q I r h
  obtain ⟨a, ns, rfl, hs, q⟩ := h
  obtain ⟨its, rv, hl, hz⟩ := I.tuple hs
  rw [Vals.ref1 r]
  refine sorted_tup_ints hl rv.ints (by rw [← rv.length]; exact hz) fun out ns' g1 g2 g3 => ?_
  obtain ⟨ep, he'⟩ := PyProof.Rows.sortedAll_at s.heap its out
  have hlen : (ns'.map V.int).length ≤ sizeLine := by
    rw [List.length_map, g2.length_eq]
    rw [List.length_map] at hz
    exact hz
  exact ⟨.ref _, upd H (s.heap.objs.size + 1) (.lst (ns'.map V.int)), I.laid (t' := s.toks) (fun _ _ => PyProof.Rows.sortedAll_old) (Nat.le_succ _) ⟨hlen, out.toList, ep, vals_of_ints g1, by rw [Array.toArray_toList]; exact he'⟩, rfl, q _ _ g2 g3 (I.hok.fresh (Nat.le_succ _))⟩
/-- sorted(d) of a dict whose keys are ints -/
theorem sort_dctI (hcalm : X.calm = true) : CallR X (.builtin "sorted") (fun xs H Q => ∃ (a : Addr) (kvs : List (Key × V)) (ks : List Int), xs = [.ref a] ∧ Rd H a (.dK kvs) ∧ kvs.map (·.1) = ks.map Sum.inl ∧
    ∀ (ys : List Int) (p : Addr), ys.Perm ks → ys.Pairwise (· ≤ ·) → H p = none → Q (.ref p) (upd H p (.lst (ys.map V.int)))) := by
  intro pins s σ H xs us Q I r q
  obtain ⟨a, kvs, ks, ex, hd, hks, q⟩ := q
  subst ex
  obtain ⟨u, eu, rx⟩ := vals1 r
  subst eu
  cases rx
  obtain ⟨z, lo, vs, rel, dd⟩ := dk_rd I.hok hd
  obtain ⟨ep, hat⟩ := dd.dictAt
  have hkeys : vs.map (·.1) = ks.map Sum.inl := rel.keys.symm.trans hks
  have hl : vs.length = ks.length := by
    have e := congrArg List.length hkeys
    rw [List.length_map, List.length_map] at e
    exact e
  have h16 : vs.length ≤ sizeLine := by rw [← rel.length]; exact z
  refine Calls.call_function_entry PyProof.Rows.kind_sorted PyProof.Rows.plain_sorted PyProof.Rows.entry_sorted (PyProof.Rows.args_sorted1 _) ?_
  unfold Builtin.«sorted»
  refine wpAny_bind (m := checkCount "sorted" 1 1 _) (wpAny_pure ?_)
  refine wpAny_bind (PySem.W.kdu_collect (A := X.A.in1) (PySem.W.kdl_dict (knd := mixKind X.prog X.w) (kvs := vs) (ep := ep) lo) (I.ok.hd hcalm) hat h16 fun h' tk acc hk hacc => ?_)
  have hal : acc.toList.length = ks.length := by rw [Array.length_toList, hacc.1, hl]
  have hS : IntsAre acc.toList ks := ints_each hal fun j v e => by
    obtain ⟨k, x, e1, e2⟩ := hacc.2 j v (by rw [← Array.getElem?_toList]; exact e)
    have e3 : (vs.map (·.1))[j]? = some k := by rw [List.getElem?_map, e1]; rfl
    rw [hkeys, List.getElem?_map] at e3
    cases e4 : ks[j]? with
    | none => rw [e4] at e3; cases e3
    | some y =>
      rw [e4] at e3
      have e5 : Sum.inl y = k := Option.some.inj e3
      subst e5
      rcases keyIs_shape (show keyIs (Sum.inl y) v = true from e2) with ⟨i, t, ek, ev⟩ | ⟨z, t, ek, ev⟩
      · cases ek
        exact ⟨y, t, rfl, ev⟩
      · cases ek
  have I1 : Inv X pins σ H { s with heap := h', toks := tk } := I.kept hk
  have hL : acc.toList.length ≤ sizeLine := by rw [hal, ← hl]; exact h16
  refine wpAny_bind (wpAny_newList ?_ hL)
  have hoL : (h'.push (seqObj "list" acc.toList.toArray 0)).get? h'.objs.size = some (seqObj "list" acc.toList.toArray 0) := Heap.get?_push_size _ rfl
  show wpAny _ _ _ _ _ { s with heap := h'.push (seqObj "list" acc.toList.toArray 0), toks := tk }
  refine wpAny_bind (wpAny_holding (wpAny_call_entry PyProof.Rows.slot_list_sort ⟨_, hoL, rfl⟩ PyProof.Rows.entry_list_sort
    (PyProof.Rows.list_sort_treeAny (s := { s with heap := h'.push (seqObj "list" acc.toList.toArray 0), toks := tk }) hoL hS hL fun out ys g1 g2 g3 => ⟨_, rfl, ?_⟩) (PyProof.Rows.args_list_sort _)))
  obtain ⟨e', he'⟩ := PyProof.Rows.sortedHeap_at (vs := acc.toList) (out := out) hoL
  have hlen : (ys.map V.int).length ≤ sizeLine := by
    rw [List.length_map, g2.length_eq, ← hl]
    exact h16
  refine wpAny_pure ⟨_, rfl, .ref h'.objs.size, upd H h'.objs.size (.lst (ys.map V.int)), I1.laid (t' := tk) (fun b u e => ?_) (Nat.le_refl _)
    (show ObjOk X.prog X.w _ _ _ (.lst (ys.map V.int)) from ⟨hlen, out.toList, e', vals_of_ints g1, by rw [Array.toArray_toList]; exact he'⟩), rfl, q ys _ g2 g3 (I1.hok.fresh (Nat.le_refl _))⟩
  have hb : b < h'.objs.size := Heap.lt_size e
  rw [PyProof.Rows.sortedHeap_old (Nat.ne_of_lt hb) (by rw [size_push']; exact Nat.lt_succ_of_lt hb)]
  exact Heap.get?_push_of_some _ e
end
end Ci

set_option Elab.async false
set_option linter.all false
set_option maxRecDepth 100000
set_option maxHeartbeats 2000000
namespace Ci
open PySem PySem.Spec PyProof.Rows L2
section
variable {X : Cx} {z : Si} {F : Addr → Prop} {am : List Addr} {H : Hp} {h : Hs} {σ0 : SV} {Q : VK}
theorem rds_one {ds : List D} {vs : List V} {a : D} (s : Sto z.rc F am H h) (r : RDs z.rc F am H ds vs) (e : ds.map (rd h) = [a]) : ∃ v, vs = [v] ∧ RR z.rc F am H a v := by
  match ds, vs, r with
  | [d], [v], .cons k .nil =>
    simp only [List.map_cons, List.map_nil, List.cons.injEq, and_true] at e
    exact ⟨v, rfl, e ▸ rd_rel s k⟩
  | [], _, .nil => simp at e
  | _ :: _ :: _, _, _ => simp at e
theorem rds_two {ds : List D} {vs : List V} {a b : D} (s : Sto z.rc F am H h) (r : RDs z.rc F am H ds vs) (e : ds.map (rd h) = [a, b]) : ∃ v u, vs = [v, u] ∧ RR z.rc F am H a v ∧ RR z.rc F am H b u := by
  match ds, vs, r with
  | [d, d'], [v, u], .cons k (.cons k' .nil) =>
    simp only [List.map_cons, List.map_nil, List.cons.injEq, and_true] at e
    exact ⟨v, u, rfl, e.1 ▸ rd_rel s k, e.2 ▸ rd_rel s k'⟩
  | [], _, .nil => simp at e
  | [_], _, _ => simp at e
  | _ :: _ :: _ :: _, _, _ => simp at e
theorem seq_rel {d : D} {xs : List D} {v : V} {K : PySem.W.Frag} (r : RR z.rc F am H d v) (e : seqD d = some xs) : ∃ p ys, v = .ref p ∧ (SqL K H p ys ∨ SqT K H p ys) ∧ RDs z.rc F am H xs ys := by
  unfold seqD at e
  split at e
  · cases e
    obtain ⟨a, ys, rfl, e1, _, k⟩ := r.tuple
    exact ⟨a, ys, rfl, .inr (SqT.of e1), k⟩
  · cases e
    obtain ⟨a, ys, rfl, e1, k⟩ := r.list
    exact ⟨a, ys, rfl, .inl (SqL.of e1), k⟩
  · cases e
theorem bls_rel : ∀ {xs : List D} {ys : List V} {bs : List Bool}, RDs z.rc F am H xs ys → blsOf xs = some bs → ys = bs.map V.bl
  | [], _, bs, .nil, e => by simp [blsOf] at e; subst e; rfl
  | x :: xs, _, bs, .cons r k, e => by
    cases x <;> simp only [blsOf, Option.map_eq_some_iff, reduceCtorEq] at e
    obtain ⟨cs, e1, rfl⟩ := e
    cases r
    rw [bls_rel k e1]; rfl
theorem ints_rel : ∀ {xs : List D} {ys : List V} {bs : List Int}, RDs z.rc F am H xs ys → intsOf xs = some bs → ys = bs.map V.int
  | [], _, bs, .nil, e => by simp [intsOf] at e; subst e; rfl
  | x :: xs, _, bs, .cons r k, e => by
    cases x <;> simp only [intsOf, Option.map_eq_some_iff, reduceCtorEq] at e
    obtain ⟨cs, e1, rfl⟩ := e
    cases r
    rw [ints_rel k e1]; rfl
theorem maxI_mem : ∀ {ns : List Int}, ns ≠ [] → maxI ns ∈ ns ∧ ∀ y ∈ ns, y ≤ maxI ns
  | [], h => absurd rfl h
  | [a], _ => by simp [maxI]
  | a :: b :: r, _ => by
    obtain ⟨h1, h2⟩ := maxI_mem (ns := b :: r) (by simp)
    simp only [maxI]
    split
    · rename_i c
      refine ⟨List.mem_cons_self, fun y hy => ?_⟩
      rcases List.mem_cons.mp hy with rfl | hy
      · exact Int.le_refl _
      · exact Int.le_trans (h2 y hy) c
    · rename_i c
      refine ⟨List.mem_cons_of_mem _ h1, fun y hy => ?_⟩
      rcases List.mem_cons.mp hy with rfl | hy
      · omega
      · exact h2 y hy
theorem minI_mem : ∀ {ns : List Int}, ns ≠ [] → minI ns ∈ ns ∧ ∀ y ∈ ns, minI ns ≤ y
  | [], h => absurd rfl h
  | [a], _ => by simp [minI]
  | a :: b :: r, _ => by
    obtain ⟨h1, h2⟩ := minI_mem (ns := b :: r) (by simp)
    simp only [minI]
    split
    · rename_i c
      refine ⟨List.mem_cons_self, fun y hy => ?_⟩
      rcases List.mem_cons.mp hy with rfl | hy
      · exact Int.le_refl _
      · exact Int.le_trans c (h2 y hy)
    · rename_i c
      refine ⟨List.mem_cons_of_mem _ h1, fun y hy => ?_⟩
      rcases List.mem_cons.mp hy with rfl | hy
      · omega
      · exact h2 y hy
/-- what a built-in's call by data wants -/
def rBl (z : Si) (b : Bl) : List V → Hp → VK → Prop := fun vs H Q => ∃ σ0 F am h ds, Sto z.rc F am H h ∧ RDs z.rc F am H ds vs ∧ SatR z σ0 F am H (liftO (bltH h b ds) h) (PostD z Q)
def rBl0 (z : Si) (b : Bl) : List V → Hp → VK → Prop := fun vs H Q => ∃ σ0 F am h ds, Sto z.rc F am H h ∧ RDs z.rc F am H ds vs ∧ SatR z σ0 F am H (liftO (bltD b (ds.map (rd h))) h) (PostD z Q)
theorem opt_map {α : Type} {o : Option α} {f : α → D} (q : SatR z σ0 F am H (liftO (o.map f) h) (PostD z Q)) : ∃ a, o = some a ∧ SatR z σ0 F am H (.ok (f a) h) (PostD z Q) := by
  cases o with
  | none => exact q.elim
  | some a => exact ⟨a, rfl, q⟩
theorem opt_bind {α : Type} {o : Option α} {f : α → Option D} (q : SatR z σ0 F am H (liftO (o.bind f) h) (PostD z Q)) : ∃ a, o = some a ∧ SatR z σ0 F am H (liftO (f a) h) (PostD z Q) := by
  cases o with
  | none => exact q.elim
  | some a => exact ⟨a, rfl, q⟩
theorem ints_RDs : ∀ ns : List Int, RDs z.rc F am H (ns.map .int) (ns.map V.int)
  | [] => .nil
  | n :: ns => .cons (.int n) (ints_RDs ns)
theorem insI_perm (a : Int) : ∀ l : List Int, (insI a l).Perm (a :: l)
  | [] => List.Perm.refl _
  | b :: r => by
    unfold insI
    split
    · exact List.Perm.refl _
    · exact ((insI_perm a r).cons b).trans (List.Perm.swap a b r)
theorem insI_pw (a : Int) : ∀ l : List Int, l.Pairwise (· ≤ ·) → (insI a l).Pairwise (· ≤ ·)
  | [], _ => by simp [insI]
  | b :: r, h => by
    rw [List.pairwise_cons] at h
    unfold insI
    split
    · rename_i c
      refine List.pairwise_cons.2 ⟨fun y hy => ?_, List.pairwise_cons.2 h⟩
      rcases List.mem_cons.1 hy with rfl | hy
      · exact c
      · exact Int.le_trans c (h.1 y hy)
    · rename_i c
      refine List.pairwise_cons.2 ⟨fun y hy => ?_, insI_pw a r h.2⟩
      rcases List.mem_cons.1 ((insI_perm a r).mem_iff.1 hy) with rfl | hy
      · omega
      · exact h.1 y hy
theorem sortI_perm : ∀ l : List Int, (sortI l).Perm l
  | [] => List.Perm.refl _
  | a :: r => (insI_perm a (sortI r)).trans ((sortI_perm r).cons a)
theorem sortI_pw : ∀ l : List Int, (sortI l).Pairwise (· ≤ ·)
  | [] => List.Pairwise.nil
  | a :: r => insI_pw a _ (sortI_pw r)
theorem sort_uniq : ∀ {a b : List Int}, a.Perm b → a.Pairwise (· ≤ ·) → b.Pairwise (· ≤ ·) → a = b
  | [], b, p, _, _ => (List.nil_perm.1 p).symm
  | x :: a, [], p, _, _ => by have := p.length_eq; simp at this
  | x :: a, y :: b, p, h1, h2 => by
    rw [List.pairwise_cons] at h1 h2
    have hx : y ≤ x := by
      rcases List.mem_cons.1 (p.mem_iff.1 List.mem_cons_self) with e | e
      · omega
      · exact h2.1 x e
    have hy : x ≤ y := by
      rcases List.mem_cons.1 (p.mem_iff.2 List.mem_cons_self) with e | e
      · omega
      · exact h1.1 y e
    have e : x = y := by omega
    subst e
    rw [sort_uniq (List.Perm.cons_inv p) h1.2 h2.2]
theorem sortI_one {ns bs : List Int} (h1 : ns.Perm bs) (h2 : ns.Pairwise (· ≤ ·)) : ns = sortI bs := sort_uniq (h1.trans (sortI_perm bs).symm) h2 (sortI_pw bs)
/-- the callee of a built-in's name -/
def Bl.val : Bl → Value
  | .len => .builtin "len" | .all => .builtin "all" | .any => .builtin "any" | .tuple => .type "tuple" | .list => .type "list"
  | .abs => .builtin "abs" | .int => .type "int" | .sum => .builtin "sum" | .max1 => .builtin "max" | .min1 => .builtin "min"
  | .max2 => .builtin "max" | .min2 => .builtin "min" | .sorted => .builtin "sorted" | .repr => .builtin "repr" | .str => .type "str"
def Bl.calm : Bl → Bool
  | .len | .tuple | .list | .abs | .int | .str => false
  | _ => true
/-- sum(t), t a tuple of ints -/
def rSumT (K : PySem.W.Frag) : List V → Hp → VK → Prop := fun vs H Q => ∃ (a : Addr) (ns : List Int), vs = [V.ref a] ∧ SqT K H a (ns.map V.int) ∧ Q (.int ns.sum) H
theorem cr_sumT (hc : X.calm = true) : CallR X (.builtin "sum") (rSumT X.K) := by
  intro pins s σ H vs us Q I r h
  obtain ⟨a, ns, rfl, hs, q⟩ := h
  obtain ⟨its, rv, hl, _⟩ := I.tuple hs
  rw [Vals.ref1 r]
  obtain ⟨xs, e⟩ := rv.ints.allInts.items
  have hn : numsOf (intItems xs).toList = ns := by rw [← e]; exact rv.ints.numsOf
  rw [nums_intItems] at hn
  have hl : s.heap.IsTuple a its.toArray := hl
  rw [e] at hl
  refine PySem.W.ktm_sumG (I.ok.hd hc) hl fun h' tk t' hk => ⟨.int _, H, I.kept hk, ⟨_, rfl⟩, ?_⟩
  rw [preSum_eq, List.take_of_length_le (by simp), hn]
  exact q
/-- repr(x) of data, no other repr under way -/
theorem call_reprD (gd : X.A.guards = some []) (hu : X.A.units + 70 < cLine) : CallR X (.builtin "repr") (fun vs H Q => ∃ (v : V) (d : PyData), vs = [v] ∧ Dp X.K H v d ∧ d.showable = true ∧ d.hasDict = false ∧ d.depth ≤ 60 ∧ d.shown.length ≤ sizeLine ∧ Q (.str d.shown) H) := by
  intro pins s σ H vs us Q I r ⟨v, d, e, dp, h1, h2, h3, h4, q⟩
  subst e
  obtain ⟨u, rfl, ru⟩ := r.one
  obtain ⟨as, rd⟩ := Dp.reads I d v u dp ru
  cases dp with
  | non => cases ru; exact PySem.P.repr_of_none ⟨.str _, H, I.tok _, ⟨_, rfl⟩, q⟩
  | bl b => cases ru; exact PySem.P.repr_of_bool ⟨.str _, H, I.tok _, ⟨_, rfl⟩, q⟩
  | int i =>
    obtain ⟨t, rfl⟩ := ru
    exact PySem.P.repr_of_int (by simpa [PyData.showable] using h1) ⟨.str _, H, I.tok _, ⟨_, rfl⟩, q⟩
  | str x =>
    obtain ⟨t, rfl⟩ := ru
    exact PySem.P.repr_of_str ⟨.str _, H, I.tok _, ⟨_, rfl⟩, q⟩ h4
  | lst a b =>
    cases ru
    exact PySem.repr_of_reads' rd h1 (fun z => by rw [h2] at z; cases z) gd (by omega) (fun _ _ e => e) (fun h' u tk hk => ⟨.str _, H, I.kept hk, ⟨_, rfl⟩, q⟩) h4
  | tup a b =>
    cases ru
    exact PySem.repr_of_reads' rd h1 (fun z => by rw [h2] at z; cases z) gd (by omega) (fun _ _ e => e) (fun h' u tk hk => ⟨.str _, H, I.kept hk, ⟨_, rfl⟩, q⟩) h4
theorem blt_ok0 (hK : X.K = z.rc.K) (hu : X.A.units + 70 < cLine) (b : Bl) (hc : b.calm = true → X.calm = true) (gd : b.calm = true → X.A.guards = some []) : CallR X b.val (rBl0 z b) := by
  intro pins s σ H vs us Q I r ⟨σ0, F, am, h, ds, st, rs, q⟩
  generalize e0 : ds.map (rd h) = ws at q
  unfold bltD at q
  split at q
  · obtain ⟨v, rfl, k⟩ := rds_one st rs e0
    cases k.str
    obtain ⟨c, q⟩ := ite_some q
    exact call_len_str pins s σ H _ us Q I r ⟨_, rfl, okL_le c, PostD.at q st (.int _)⟩
  · obtain ⟨v, rfl, k⟩ := rds_one st rs e0
    obtain ⟨xs, e1, q⟩ := opt_map q
    obtain ⟨p, ys, rfl, hs, k2⟩ := seq_rel (K := X.K) k e1
    exact call_len_seq pins s σ H _ us Q I r ⟨p, ys, rfl, hs, by rw [← k2.length]; exact PostD.at q st (.int _)⟩
  · obtain ⟨v, rfl, k⟩ := rds_one st rs e0
    obtain ⟨bs, e1, q⟩ := opt_map q
    obtain ⟨a, ys, rfl, e2, k2⟩ := k.list
    exact cr_all (hc rfl) pins s σ H _ us Q I r ⟨a, bs, rfl, by rw [← bls_rel k2 e1]; exact SqL.of e2, PostD.at q st (.bl _)⟩
  · obtain ⟨v, rfl, k⟩ := rds_one st rs e0
    obtain ⟨bs, e1, q⟩ := opt_map q
    obtain ⟨a, ys, rfl, e2, k2⟩ := k.list
    exact cr_any (hc rfl) pins s σ H _ us Q I r ⟨a, bs, rfl, by rw [← bls_rel k2 e1]; exact SqL.of e2, PostD.at q st (.bl _)⟩
  · obtain ⟨v, rfl, k⟩ := rds_one st rs e0
    obtain ⟨xs, e1, q⟩ := opt_map q
    unfold seqD at e1
    split at e1
    · cases e1
      obtain ⟨a, ys, rfl, e2, n2, k2⟩ := k.tuple
      exact call_tuple_of pins s σ H _ us Q I r ⟨a, ys, rfl, .inr ⟨SqT.of e2, PostD.at q st (.tup e2 n2 k2)⟩⟩
    · cases e1
      obtain ⟨a, ys, rfl, e2, k2⟩ := k.list
      exact call_tuple_of pins s σ H _ us Q I r ⟨a, ys, rfl, .inl ⟨SqL.of e2, fun l hl => PostD.tup q st k2 hl⟩⟩
    · cases e1
  · obtain ⟨v, rfl, k⟩ := rds_one st rs e0
    cases k with
    | rd k =>
      cases k with
      | scr e n k2 => exact call_list_of pins s σ H _ us Q I r ⟨_, _, rfl, .inl (.inl (.inr ⟨_, e⟩)), fun l hl => PostD.lst q st k2 hl⟩
      | scrK e k2 => exact call_list_of pins s σ H _ us Q I r ⟨_, _, rfl, .inl (by rw [hK]; exact sqK e _), fun l hl => PostD.lst q st k2 hl⟩
  · obtain ⟨v, rfl, k⟩ := rds_one st rs e0
    obtain ⟨xs, e1, q⟩ := opt_map q
    obtain ⟨p, ys, rfl, hs, k2⟩ := seq_rel (K := X.K) k e1
    exact call_list_of pins s σ H _ us Q I r ⟨p, ys, rfl, hs, fun l hl => PostD.lst q st k2 hl⟩
  · obtain ⟨v, rfl, k⟩ := rds_one st rs e0
    cases k.int
    exact call_abs pins s σ H _ us Q I r ⟨_, rfl, PostD.at q st (.int _)⟩
  · obtain ⟨v, rfl, k⟩ := rds_one st rs e0
    cases k.int
    exact call_int1 pins s σ H _ us Q I r (.inl ⟨_, rfl, PostD.at q st (.int _)⟩)
  · obtain ⟨v, rfl, k⟩ := rds_one st rs e0
    cases k.bl
    exact call_int1 pins s σ H _ us Q I r (.inr ⟨_, rfl, PostD.at q st (.int _)⟩)
  · obtain ⟨v, rfl, k⟩ := rds_one st rs e0
    obtain ⟨bs, e1, q⟩ := opt_map q
    obtain ⟨a, ys, rfl, e2, k2⟩ := k.list
    exact cr_sum (hc rfl) pins s σ H _ us Q I r ⟨a, bs, rfl, by rw [← ints_rel k2 e1]; exact SqL.of e2, PostD.at q st (.int _)⟩
  · obtain ⟨v, rfl, k⟩ := rds_one st rs e0
    obtain ⟨bs, e1, q⟩ := opt_map q
    obtain ⟨a, ys, rfl, e2, _, k2⟩ := k.tuple
    exact cr_sumT (hc rfl) pins s σ H _ us Q I r ⟨a, bs, rfl, by rw [← ints_rel k2 e1]; exact SqT.of e2, PostD.at q st (.int _)⟩
  · obtain ⟨v, rfl, k⟩ := rds_one st rs e0
    obtain ⟨a, ys, rfl, e2, k2⟩ := k.list
    split at q
    · rename_i bs e1
      split at q
      · exact q.elim
      · rename_i hne
        have hn : bs ≠ [] := fun e => hne (by rw [e]; rfl)
        refine cr_max (hc rfl) pins s σ H _ us Q I r ⟨a, bs, rfl, by rw [← ints_rel k2 e1]; exact SqL.of e2, List.length_pos_iff.mpr hn, fun m h1 h2 => ?_⟩
        have e3 : m = maxI bs := Int.le_antisymm ((maxI_mem hn).2 m h1) (h2 _ (maxI_mem hn).1)
        rw [e3]
        exact PostD.at q st (.int _)
    · split at q
      · exact q.elim
      · split at q
        · rename_i c
          refine max_dat (z := z) (hc rfl) hu pins s σ H _ us Q I r ⟨a, ys, rfl, SqL.of e2, ?_⟩
          exact ⟨σ0, F, am, h, _, _, st, k2, c, q⟩
        · exact q.elim
  · obtain ⟨v, rfl, k⟩ := rds_one st rs e0
    obtain ⟨a, ys, rfl, e2, k2⟩ := k.list
    split at q
    · rename_i bs e1
      split at q
      · exact q.elim
      · rename_i hne
        have hn : bs ≠ [] := fun e => hne (by rw [e]; rfl)
        refine cr_min (hc rfl) pins s σ H _ us Q I r ⟨a, bs, rfl, by rw [← ints_rel k2 e1]; exact SqL.of e2, List.length_pos_iff.mpr hn, fun m h1 h2 => ?_⟩
        have e3 : m = minI bs := Int.le_antisymm (h2 _ (minI_mem hn).1) ((minI_mem hn).2 m h1)
        rw [e3]
        exact PostD.at q st (.int _)
    · split at q
      · exact q.elim
      · split at q
        · rename_i c
          refine min_dat (z := z) (hc rfl) hu pins s σ H _ us Q I r ⟨a, ys, rfl, SqL.of e2, ?_⟩
          exact ⟨σ0, F, am, h, _, _, st, k2, c, q⟩
        · exact q.elim
  · obtain ⟨v, rfl, k⟩ := rds_one st rs e0
    obtain ⟨a, ys, rfl, e2, k2⟩ := k.list
    split at q
    · rename_i bs e1
      split at q
      · rename_i hl
        refine cr_sortedI pins s σ H _ us Q I r ⟨a, bs, rfl, by rw [← ints_rel k2 e1]; exact SqL.of e2, fun ns p h1 h2 hp => ?_⟩
        rw [sortI_one h1 h2]
        exact PostD.lst q st (ints_RDs _) hp
      · exact q.elim
    · split at q
      · rename_i c
        exact sort_dat (z := z) hu pins s σ H _ us Q I r ⟨a, ys, rfl, SqL.of e2, σ0, F, am, h, _, st, k2, c, q⟩
      · exact q.elim
  · obtain ⟨v, rfl, k⟩ := rds_one st rs e0
    obtain ⟨a, ys, rfl, e2, _, k2⟩ := k.tuple
    split at q
    · rename_i bs e1
      split at q
      · rename_i hl
        refine cr_sortedIT pins s σ H _ us Q I r ⟨a, bs, rfl, by rw [← ints_rel k2 e1]; exact SqT.of e2, fun ns p h1 h2 hp => ?_⟩
        rw [sortI_one h1 h2]
        exact PostD.lst q st (ints_RDs _) hp
      · exact q.elim
    · split at q
      · rename_i c
        exact sort_datT (z := z) hu pins s σ H _ us Q I r ⟨a, ys, rfl, SqT.of e2, σ0, F, am, h, _, st, k2, c, q⟩
      · exact q.elim
  · obtain ⟨v, rfl, k⟩ := rds_one st rs e0
    cases k.str
    exact SkE.call_str_str pins s σ H _ us Q I r ⟨_, rfl, PostD.at q st (.str _)⟩
  · obtain ⟨v, rfl, k⟩ := rds_one st rs e0
    cases k.int
    obtain ⟨c, q⟩ := ite_some q
    exact call_str_int pins s σ H _ us Q I r ⟨_, rfl, of_decide_eq_true c, PostD.at q st (.str _)⟩
  · obtain ⟨v, u, rfl, k, k'⟩ := rds_two st rs e0
    cases k.int; cases k'.int
    exact call_max2 (hc rfl) pins s σ H _ us Q I r ⟨_, _, rfl, PostD.at q st (.int _)⟩
  · obtain ⟨v, u, rfl, k, k'⟩ := rds_two st rs e0
    cases k.int; cases k'.int
    exact call_min2 (hc rfl) pins s σ H _ us Q I r ⟨_, _, rfl, PostD.at q st (.int _)⟩
  · obtain ⟨v, rfl, k⟩ := rds_one st rs e0
    obtain ⟨c, q⟩ := ite_some q
    simp only [Bool.and_eq_true, decide_eq_true_eq, Bool.not_eq_true'] at c
    obtain ⟨⟨⟨⟨c1, c2⟩, c3⟩, c4⟩, c5⟩ := c
    exact call_reprD (gd rfl) hu pins s σ H _ us Q I r ⟨v, _, rfl, k.dp c1, c2, c3, c4, c5, PostD.at q st (.str _)⟩
  · exact q.elim
theorem keysI_rel : ∀ {kvs : List (Ky × D)} {ks : List Int}, keysI kvs = some ks → kvs.map (·.1) = ks.map Sum.inl
  | [], ks, e => by cases e; rfl
  | (.inl i, d) :: r, ks, e => by
    simp only [keysI, Option.map_eq_some_iff] at e
    obtain ⟨js, e1, rfl⟩ := e
    simp only [List.map_cons, keysI_rel e1]
  | (.inr x, d) :: r, ks, e => by cases e
theorem dct_rel {d : D} {v : V} {kvs : List (Ky × D)} (s : Sto z.rc F am H h) (r : RD z.rc F am H d v) (e : dct h d = some kvs) : ∃ a, ∃ ws : List (Key × V), v = .ref a ∧ H a = some (.dK ws) ∧ kvs.map (·.1) = ws.map (·.1) ∧ RDs z.rc F am H (kvs.map (·.2)) (ws.map (·.2)) := by
  cases d <;> simp only [dct, reduceCtorEq] at e
  rename_i n
  split at e
  · rename_i k2 e1
    cases e
    cases r with
    | ref q =>
      obtain ⟨ws, q1, q2, q3⟩ := s.obj n _ _ q e1
      exact ⟨_, ws, rfl, q1, q2, q3⟩
  · cases e
theorem blt_ok (hK : X.K = z.rc.K) (hu : X.A.units + 70 < cLine) (b : Bl) (hc : b.calm = true → X.calm = true) (gd : b.calm = true → X.A.guards = some []) : CallR X b.val (rBl z b) := by
  intro pins s σ H vs us Q I r ⟨σ0, F, am, h, ds, st, rs, q⟩
  have other : SatR z σ0 F am H (liftO (bltD b (ds.map (rd h))) h) (PostD z Q) → wpAny (model X.prog X.w) X.A (PySem.call b.val us) (EP X pins σ Q) X.xe s := fun q => blt_ok0 hK hu b hc gd pins s σ H vs us Q I r ⟨σ0, F, am, h, ds, st, rs, q⟩
  unfold bltH at q
  split at q
  · rename_i d
    cases e : dct h d with
    | none => rw [e] at q; exact other q
    | some kvs =>
      rw [e] at q
      cases rs with
      | cons r0 r1 =>
        cases r1
        obtain ⟨ks, e1, q⟩ := opt_bind q
        split at q
        · rename_i hl
          obtain ⟨a, ws, rfl, q1, q2, q3⟩ := dct_rel st r0 e
          refine sort_dctI (hc rfl) pins s σ H _ us Q I r ⟨a, ws, ks, rfl, .inl q1, by rw [← q2]; exact keysI_rel e1, fun ns p h1 h2 hp => ?_⟩
          rw [sortI_one h1 h2]
          exact PostD.lst q st (ints_RDs _) hp
        · exact q.elim
  · exact other q
/-! ### isinstance -/
def Ty.name : Ty → String
  | .int => "int" | .bool => "bool" | .str => "str" | .tuple => "tuple" | .list => "list"
def rIsD (z : Si) (t : Ty) : List V → Hp → VK → Prop := fun vs H Q => ∃ (v : V) (σ0 : SV) (F : Addr → Prop) (am : List Addr) (h : Hs) (d : D), vs = [v, .ty t.name] ∧ Sto z.rc F am H h ∧ RR z.rc F am H d v ∧ SatR z σ0 F am H (liftO ((isiD d t).map D.bl) h) (PostD z Q)
theorem isi_ok (t : Ty) : CallR X (.builtin "isinstance") (rIsD z t) := by
  intro pins s σ H vs us Q I r hh
  obtain ⟨v, σ0, F, am, h, d, rfl, st, k, q⟩ := hh
  obtain ⟨b, e1, q⟩ := map_bl q st
  have go : ∀ {tn : String}, TyX X.K H v (.type tn) → kitB tn t.name = some b → wpAny (model X.prog X.w) X.A (PySem.call (.builtin "isinstance") us) (EP X pins σ Q) X.xe s := fun {tn} ty kb =>
    call_isi pins s σ H [v, V.ty t.name] us Q I r ⟨v, V.ty t.name, Value.type tn, Value.type t.name, b, rfl, .ty _, ty, kit_ty kb, q⟩
  unfold isiD at e1
  split at e1
  · cases k.non; cases e1; exact go (.base .non) (by cases t <;> decide +kernel)
  · cases k.bl; cases e1; exact go (.base (.bl _)) (by cases t <;> decide +kernel)
  · cases k.int; cases e1; exact go (.base (.int _)) (by cases t <;> decide +kernel)
  · cases k.str; cases e1; exact go (.base (.str _)) (by cases t <;> decide +kernel)
  · cases e1
    obtain ⟨a, ys, rfl, e2, _, k2⟩ := k.tuple
    exact go (.base (.tup e2)) (by cases t <;> decide +kernel)
  · cases e1
    obtain ⟨a, ys, rfl, e2, k2⟩ := k.list
    exact go (.base (.lst e2)) (by cases t <;> decide +kernel)
  · cases e1
end
end Ci

set_option Elab.async false
set_option linter.all false
set_option maxRecDepth 100000
set_option maxHeartbeats 4000000
namespace Ci
open PySem PySem.Spec PyProof.Rows L2
section
variable {X : Cx} {z : Si} {F : Addr → Prop} {am : List Addr} {H : Hp} {h : Hs} {σ0 : SV} {Q : VK}
/-- a dict's pairs, by data -/
def RKv (c : Rc) (F : Addr → Prop) (am : List Addr) (H : Hp) (kvs : List (Ky × D)) (ws : List (Key × V)) : Prop := kvs.map (·.1) = ws.map (·.1) ∧ RDs c F am H (kvs.map (·.2)) (ws.map (·.2))
variable {c : Rc}
theorem RKv.nil : RKv c F am H [] [] := ⟨rfl, .nil⟩
theorem RKv.cons {k : Ky} {d : D} {v : V} {kvs : List (Ky × D)} {ws : List (Key × V)} (r : RD c F am H d v) (t : RKv c F am H kvs ws) : RKv c F am H ((k, d) :: kvs) ((k, v) :: ws) := ⟨by simp [t.1], .cons r t.2⟩
theorem RKv.inv {k : Ky} {d : D} {kvs : List (Ky × D)} {ws : List (Key × V)} (t : RKv c F am H ((k, d) :: kvs) ws) : ∃ v ws', ws = (k, v) :: ws' ∧ RD c F am H d v ∧ RKv c F am H kvs ws' := by
  obtain ⟨t1, t2⟩ := t
  cases ws with
  | nil => simp at t1
  | cons p ws =>
    obtain ⟨k', v⟩ := p
    simp only [List.map_cons, List.cons.injEq] at t1
    obtain ⟨rfl, t1⟩ := t1
    simp only [List.map_cons] at t2
    cases t2 with
    | cons r t2 => exact ⟨v, ws, rfl, r, t1, t2⟩
theorem RKv.emp {ws : List (Key × V)} (t : RKv c F am H [] ws) : ws = [] := by
  have := t.1
  cases ws with
  | nil => rfl
  | cons _ _ => simp at this
theorem RKv.len {kvs : List (Ky × D)} {ws : List (Key × V)} (t : RKv c F am H kvs ws) : kvs.length = ws.length := by
  have := congrArg List.length t.1
  simpa using this
theorem RKv.val (k : Ky) : ∀ {kvs : List (Ky × D)} {ws : List (Key × V)}, RKv c F am H kvs ws → (dval kvs k = none ∧ valV ws k = none) ∨ ∃ d v, dval kvs k = some d ∧ valV ws k = some v ∧ RD c F am H d v
  | [], ws, t => by rw [t.emp]; exact .inl ⟨rfl, rfl⟩
  | (j, d) :: kvs, ws, t => by
    obtain ⟨v, ws', rfl, r, t'⟩ := t.inv
    by_cases e : j = k
    · exact .inr ⟨d, v, by simp [dval, e], by simp [valV, e], r⟩
    · rcases RKv.val k t' with ⟨a, b⟩ | ⟨d', v', a, b, r'⟩
      · exact .inl ⟨by simpa [dval, e] using a, by simpa [valV, e] using b⟩
      · exact .inr ⟨d', v', by simpa [dval, e] using a, by simpa [valV, e] using b, r'⟩
theorem RKv.any (k : Ky) : ∀ {kvs : List (Ky × D)} {ws : List (Key × V)}, RKv c F am H kvs ws → (kvs.any fun kv => decide (kv.1 = k)) = ws.any fun kv => decide (kv.1 = k)
  | [], ws, t => by rw [t.emp]; rfl
  | (j, d) :: kvs, ws, t => by
    obtain ⟨v, ws', rfl, r, t'⟩ := t.inv
    simp only [List.any_cons, RKv.any k t']
theorem RKv.repl (k : Ky) {d : D} {v : V} (r : RD c F am H d v) : ∀ {kvs : List (Ky × D)} {ws : List (Key × V)}, RKv c F am H kvs ws → RKv c F am H (kvs.map fun kv => if kv.1 = k then (kv.1, d) else kv) (ws.map fun kv => if kv.1 = k then (kv.1, v) else kv)
  | [], ws, t => by rw [t.emp]; exact .nil
  | (j, e) :: kvs, ws, t => by
    obtain ⟨v', ws', rfl, r', t'⟩ := t.inv
    simp only [List.map_cons]
    by_cases q : j = k
    · rw [if_pos q, if_pos q]; exact .cons r (RKv.repl k r t')
    · rw [if_neg q, if_neg q]; exact .cons r' (RKv.repl k r t')
theorem RKv.snoc (k : Ky) {d : D} {v : V} (r : RD c F am H d v) : ∀ {kvs : List (Ky × D)} {ws : List (Key × V)}, RKv c F am H kvs ws → RKv c F am H (kvs ++ [(k, d)]) (ws ++ [(k, v)])
  | [], ws, t => by rw [t.emp]; exact .cons r .nil
  | (j, e) :: kvs, ws, t => by
    obtain ⟨v', ws', rfl, r', t'⟩ := t.inv
    exact .cons r' (RKv.snoc k r t')
theorem RKv.put (k : Ky) {d : D} {v : V} {kvs : List (Ky × D)} {ws : List (Key × V)} (r : RD c F am H d v) (t : RKv c F am H kvs ws) : RKv c F am H (dput kvs k d) (putK ws k v) := by
  unfold dput putK
  rw [t.any k]
  split
  · exact t.repl k r
  · exact t.snoc k r
theorem dput_len (kvs : List (Ky × D)) (k : Ky) (d : D) : (dput kvs k d).length ≤ kvs.length + 1 := by
  unfold dput
  split <;> simp
theorem ky_rel {d : D} {v : V} {k : Ky} (r : RD c F am H d v) (e : kyOf d = some k) : v = kV k := by
  cases d <;> simp only [kyOf, Option.some.injEq, reduceCtorEq] at e <;> subst e <;> cases r <;> rfl
theorem dget_of {d e : D} {v u : V} {kvs : List (Ky × D)} {k : Ky} (s : Sto z.rc F am H h) (r : RD z.rc F am H d v) (e1 : dct h d = some kvs) (r2 : RD z.rc F am H e u) (e2 : kyOf e = some k) : ∃ a, v = .ref a ∧ ∃ o, DGet H a u o ∧ ((dval kvs k = none ∧ o = none) ∨ ∃ d' v', dval kvs k = some d' ∧ o = some v' ∧ RD z.rc F am H d' v') := by
  obtain ⟨a, ws, rfl, q1, q2, q3⟩ := dct_rel s r e1
  rw [ky_rel r2 e2]
  refine ⟨a, rfl, valV ws k, DGet.k q1, ?_⟩
  rcases RKv.val k (⟨q2, q3⟩ : RKv z.rc F am H kvs ws) with ⟨a1, b1⟩ | ⟨d', v', a1, b1, r'⟩
  · exact .inl ⟨a1, b1⟩
  · exact .inr ⟨d', v', a1, b1, r'⟩
/-- a comparison by data, dicts too -/
def rCH (z : Si) (o : CmpOp) : R2 := fun x y H Q => ∃ σ0 F am h d e, Sto z.rc F am H h ∧ RD z.rc F am H d x ∧ RD z.rc F am H e y ∧ SatR z σ0 F am H (liftO ((cmpH h o d e).map D.bl) h) (PostD z Q)
theorem rCH_of {o : CmpOp} (e0 : ∀ h d e, cmpH h o d e = cmpD o (rd h d) (rd h e)) (hK : X.K = z.K) (hu : X.A.units + 70 < cLine) : OpR X (compareOp o) (rCH z o) :=
  fun pins s σ H x y v u Q I rx ry ⟨σ0, F, am, h, d, e, st, r1, r2, q⟩ => cmp_ok hK hu o pins s σ H x y v u Q I rx ry ⟨σ0, F, am, h, _, _, st, rd_rel st r1, rd_rel st r2, by rw [← e0]; exact q⟩
theorem cmpH_ok (hK : X.K = z.K) (hu : X.A.units + 70 < cLine) (op : CmpOp) : OpR X (compareOp op) (rCH z op) := by
  have go : ∀ op, (∀ h d e, cmpH h op d e = cmpD op (rd h d) (rd h e)) → OpR X (compareOp op) (rCH z op) := fun op e => rCH_of e hK hu
  cases op with
  | In =>
    intro pins s σ H x y v u Q I rx ry ⟨σ0, F, am, h, d, e, st, r1, r2, q⟩
    cases e1 : dct h e with
    | none => exact cmp_ok hK hu .In pins s σ H x y v u Q I rx ry ⟨σ0, F, am, h, _, _, st, rd_rel st r1, rd_rel st r2, by simpa only [cmpH, e1] using q⟩
    | some kvs =>
      simp only [cmpH, e1] at q
      cases e2 : kyOf d with
      | none => rw [e2] at q; exact q.elim
      | some k =>
        rw [e2] at q
        obtain ⟨a, rfl, o, g, hv⟩ := dget_of st r2 e1 r1 e2
        cases (show u = Value.ref a from ry)
        refine d_in (by omega) I g rx fun s' I' => ⟨.bl o.isSome, H, I', rfl, ?_⟩
        have e3 : o.isSome = (dval kvs k).isSome := by
          rcases hv with ⟨h1, h2⟩ | ⟨d', v', h1, h2, _⟩ <;> rw [h1, h2] <;> rfl
        rw [e3]
        exact PostD.at q st (.bl _)
  | NotIn =>
    intro pins s σ H x y v u Q I rx ry ⟨σ0, F, am, h, d, e, st, r1, r2, q⟩
    cases e1 : dct h e with
    | none => exact cmp_ok hK hu .NotIn pins s σ H x y v u Q I rx ry ⟨σ0, F, am, h, _, _, st, rd_rel st r1, rd_rel st r2, by simpa only [cmpH, e1] using q⟩
    | some kvs =>
      simp only [cmpH, e1] at q
      cases e2 : kyOf d with
      | none => rw [e2] at q; exact q.elim
      | some k =>
        rw [e2] at q
        obtain ⟨a, rfl, o, g, hv⟩ := dget_of st r2 e1 r1 e2
        cases (show u = Value.ref a from ry)
        refine d_notIn (by omega) I g rx fun s' I' => ⟨.bl (!o.isSome), H, I', rfl, ?_⟩
        have e3 : o.isSome = (dval kvs k).isSome := by
          rcases hv with ⟨h1, h2⟩ | ⟨d', v', h1, h2, _⟩ <;> rw [h1, h2] <;> rfl
        rw [e3]
        exact PostD.at q st (.bl _)
  | _ => exact go _ fun _ _ _ => rfl
/-- d[k], by values -/
theorem dget_tail {value slice : Expr} {a : Addr} {y v : V} {u : Value} {pins : List (Addr × Obj)} {s : Shared} {σ : SV} (hu : X.A.units + 70 < cLine) (I : Inv X pins σ H s) (g : DGet H a y (some v)) (ry : RelV y u) (hs : subscripted slice false (.ref a) u = operate [.ref a, u] (getItem (.ref a) u)) (q : Q v H) :
    wpAny (model X.prog X.w) X.A (subscriptTail value slice (.ref a) u) (EP X pins σ Q) X.xe s := by
  have hT := dict_typeIs I g
  unfold subscriptTail
  refine wpAny_bind ?_
  rw [getitemInPython_of_ne hT.not_modules]
  refine wpAny_bind (wpAny_specialOf hT PySem.F.slot_dict_getitem.lookup ?_)
  have last : wpAny (model X.prog X.w) X.A (subscripted slice false (.ref a) u) (fun r s3 => wpAny (model X.prog X.w) X.A (letTemporaryGo value (.ref a) r >>= fun _ => pure r) (EP X pins σ Q) X.xe s3) X.xe s := by
    rw [hs]
    exact wpAny_operating (wpAny_mono (d_getItem (E := X.xe) (Q := EP X pins σ Q) (by omega) I g ry fun w' s3 I3 r3 => ⟨v, H, I3, r3, q⟩) (fun r s3 h3 => wpAny_bind (wpAny_letTemporaryGo (wpAny_pure h3))) fun _ _ x => x)
  first
    | exact wpAny_pure (wpAny_bind last)
    | exact wpAny_bind (wpAny_pure (wpAny_bind last))
    | exact wpAny_bind last
def rIH (z : Si) : R2 := fun x y H Q => ∃ σ0 F am h d e, Sto z.rc F am H h ∧ RD z.rc F am H d x ∧ RD z.rc F am H e y ∧ SatR z σ0 F am H (liftO (ixH h d e) h) (PostD z Q)
theorem ixH_ok (hK : X.K = z.K) (hu : X.A.units + 70 < cLine) : IxR X (rIH z) := by
  intro value slice pins s σ H x y v u Q I rx ry ⟨σ0, F, am, h, d, e, st, r1, r2, q⟩ hs
  cases e1 : dct h d with
  | none => exact ix_ok hK value slice pins s σ H x y v u Q I rx ry ⟨σ0, F, am, h, _, _, st, rd_rel st r1, r2, by simpa only [ixH, e1] using q⟩ hs
  | some kvs =>
    simp only [ixH, e1] at q
    cases e2 : kyOf e with
    | none => rw [e2] at q; exact q.elim
    | some k =>
      rw [e2] at q
      obtain ⟨a, rfl, o, g, hv⟩ := dget_of st r1 e1 r2 e2
      cases (show v = Value.ref a from rx)
      rcases hv with ⟨h1, h2⟩ | ⟨d', v', h1, h2, r'⟩
      · simp only [Option.bind_some, h1] at q; exact q.elim
      · subst h2
        simp only [Option.bind_some, h1] at q
        exact dget_tail hu I g ry hs (PostD.at q st r')
end
end Ci

set_option Elab.async false
set_option linter.all false
set_option maxRecDepth 100000
set_option maxHeartbeats 8000000
namespace Ci
open PySem PySem.Spec PyProof.Rows L2
/-! ### a def's promise where no repr is under way -/
structure FnG (P : Program) (w : World) (K : PySem.W.Frag) (mg : Str → Option Value) (base : Heap) (CX : CXT) (k : Nat) (f : Addr) (fd : FuncData) (ps : List Str) (sp : Sp) : Prop where
  arity : ∀ vs H Q E, sp vs H Q E → vs.length = ps.length
  go : ∀ (A : Around) (out : List Env) (s0 : Shared) (H : Hp) (ar : Args) (us : List Value) (vs : List V) (Q : VK) (E : XK), Room k A → A.guards = some [] → Env0 P w K mg base A out s0 H → BindsTo s0 fd ar (ps.zip us) → Vals vs us →
    sp vs H Q E → codeAny (model P w) A (.call (.ref f) ar) (CR CX out P w H s0 Q E) s0
theorem fng_of {CX : CXT} {P : Program} {w : World} {K : PySem.W.Frag} {mg : Str → Option Value} {base : Heap} {k : Nat} {f : Addr} {name qual : Str} {params : Arguments} {bd : List Stmt} {scp : Scope} {dV kV doc pm cdv ct oc : Value} {an od : Option Addr}
    {osl : Array (Option Value)} {N ps : List Str} {sp : Sp} (at_ : K.lookup f = some ⟨oc, od, .func (PySem.W.fnOf name qual params bd scp dV kV doc pm an cdv ct), osl⟩) (cod : PySem.W.codeIn K cdv qual = true) (S : FnScope N ps scp)
    (arity : ∀ vs H Q E, sp vs H Q E → vs.length = ps.length)
    (inner : ∀ (A : Around) (out : List Env) (s0 : Shared) (H : Hp) (vs : List V) (Q : VK) (E : XK), A.guards = some [] → Room k (A.deeper (envOfC qual scp s0.heap.objs.size f cdv)) → sp vs H Q E →
      ∃ t, PSs (cxOf CX P w K mg base N qual scp f cdv A out s0 H E) bd t ∧ t { nx := fun _ H' => Q .non H', rt := Q } (L2.start N vs) H) :
    FnG P w K mg base CX (k + 1) f (PySem.W.fnOf name qual params bd scp dV kV doc pm an cdv ct) ps sp := by
  refine ⟨arity, fun A out s0 H ar us vs Q E room gd env bind vals want => ?_⟩
  have hl := arity _ _ _ _ want
  have inH : K.In s0.heap := env.mod.kin.keeps fun b o e => (env.bs b o e).1
  have nol : s0.heap.NoLimit := env.mod.nolimit.keeps fun b o e => (env.bs b o e).1
  have kinds : ∀ y ∈ ps.zip us, scp.names.lookup y.1 = some .local ∨ (scp.names.lookup y.1 = some .cell ∧ ((cellsFrom (s0.heap.objs.size + 1) scp.names []).lookup y.1).isSome = true) := fun y hy => by
    rcases S.par y.1 (List.of_mem_zip (show (y.1, y.2) ∈ _ from hy)).1 with c | c
    · exact .inl c
    · exact .inr ⟨c, PySem.W.cellsFrom_some _ _ _ (.inl c)⟩
  refine codeAny_call_function room.depth (inH _ _ at_) rfl S.co S.gen rfl (PySem.W.codeRec_of inH cod) (bind _ _ _ _ ?_)
  refine wpAny_newFunctionEnv_cells S.kind kinds fun env1 he s1 x => ?_
  subst he
  refine ⟨nol.keeps x.toInCall.keep, codeAny_func ?_⟩
  obtain ⟨t, ht, got⟩ := inner A out s0 H vs Q E gd (room.deeper _) want
  have I := inv_start (CX := CX) (E := E) S room.hd env hl vals x
  refine wpAny_mono (ht.run [] s1 (L2.start N vs) H _ I got) (fun fl s2 out2 => ?_) fun _ _ bad => bad
  have close : ∀ {σ2 : SV} {H2 : Hp} {v : V} {u : Value}, Inv (cxOf CX P w K mg base N qual scp f cdv A out s0 H E) [] σ2 H2 s2 → RelV v u → Q v H2 → CE out P w H s0 Q u s2 :=
    fun {σ2 H2 v u} J rv c => ⟨v, H2, J.os, J.bare, J.base, J.hok, rv, c⟩
  cases fl with
  | ret u => obtain ⟨v, σ2, H2, J, rv, c⟩ := out2; exact close J rv c
  | next => obtain ⟨σ2, H2, J, c⟩ := out2; exact close (v := V.non) (u := Value.none) J rfl c
  | brk => obtain ⟨_, _, _, c⟩ := out2; exact c.elim
  | cont => obtain ⟨_, _, _, c⟩ := out2; exact c.elim
section
variable {X : Cx} {CX : CXT} {k : Nat} {f : Addr} {fd : FuncData} {ps : List Str} {sp : Sp} {E : SV → XK} {x : Str} {p pos : Pos} {e : Expr} {es : List Expr} {t : TA}
theorem run_fnG {pins : List (Addr × Obj)} {σ : SV} {H : Hp} {s : Shared} {Q : VK} {us : List Value} {vs : List V} (F : FnG X.prog X.w X.K X.mg X.base CX k f fd ps sp) (room : Room k X.A) (gd : X.A.guards = some []) (bnd : Binds X.K fd ps []) (pas : PassesAt CX X σ (E σ))
    (I : Inv X pins σ H s) (r : Vals vs us) (want : sp vs H Q (E σ)) : wpAny (model X.prog X.w) X.A (call (.ref f) us) (EP X pins σ Q) X.xe s := by
  have hl : us.length = ps.length := by rw [← r.length]; exact F.arity _ _ _ _ want
  have b := bnd s us I.kIn (by rw [List.append_nil]; exact hl)
  rw [List.append_nil] at b
  refine wpAny_call (codeAny_mono (F.go X.A X.stack s H ⟨us, []⟩ us vs Q (E σ) room gd I.env0 b r want) fun r s2 c => ?_)
  cases r with
  | error e => exact pas pins H s e s2 I c
  | ok fl =>
    cases fl with
    | ret u => exact I.after c
    | next => exact c.elim
    | brk => exact c.elim
    | cont => exact c.elim
theorem pe_callG (F : FnG X.prog X.w X.K X.mg X.base CX k f fd ps sp) (room : Room k X.A) (gd : X.A.guards = some []) (hg : Gl X x) (hm : X.mg x = some (.ref f)) (kp : PySem.W.keepIn X.K (.ref f) = true) (bnd : Binds X.K fd ps []) (pas : ∀ σ, PassesAt CX X σ (E σ))
    (ha : PA X (e :: es) t) (ndb : (x == ("__debug__" : Str)) = false) (he : starEach (e :: es) X.env = (false, eval e X.env) :: starEach es X.env) (hpl : (backTo pos (starEach es X.env)).any (·.1) = false) :
    PE X (.Call (.Name x p) (e :: es) [] pos) (tCallS sp E t) := by
  refine ⟨fun pins s σ H Q I want => ?_⟩
  refine wpAny_Call_Name_kw (ld_glob I hg hm ?_ ndb)
  refine PySem.W.callWith_K (h₀ := X.base) I.ok.mod.kin kp (thn (ha.run pos pins s σ H _ I want) fun us s1 ⟨vs, H1, I1, r, w1⟩ => ⟨I1.kIn, ?_⟩) he hpl
  exact run_fnG F room gd bnd (pas σ) I1 r w1
end
/-- what is left out is the default -/
def tCallSD (sp : Sp) (dvs : List V) (E : SV → XK) (t : TA) : TE := fun σ H Q => t σ H fun vs H1 => sp (vs ++ dvs) H1 Q (E σ)
section
variable {X : Cx} {CX : CXT} {k : Nat} {f : Addr} {fd : FuncData} {ps : List Str} {sp : Sp} {E : SV → XK} {x : Str} {p pos : Pos} {e : Expr} {es : List Expr} {t : TA} {ds : List Value} {dvs : List V}
theorem pe_callGD (F : FnG X.prog X.w X.K X.mg X.base CX k f fd ps sp) (room : Room k X.A) (gd : X.A.guards = some []) (hg : Gl X x) (hm : X.mg x = some (.ref f)) (kp : PySem.W.keepIn X.K (.ref f) = true) (bnd : Binds X.K fd ps ds) (hd : Vals dvs ds) (pas : ∀ σ, PassesAt CX X σ (E σ))
    (ha : PA X (e :: es) t) (ndb : (x == ("__debug__" : Str)) = false) (he : starEach (e :: es) X.env = (false, eval e X.env) :: starEach es X.env) (hpl : (backTo pos (starEach es X.env)).any (·.1) = false) :
    PE X (.Call (.Name x p) (e :: es) [] pos) (tCallSD sp dvs E t) := by
  refine ⟨fun pins s σ H Q I want => ?_⟩
  refine wpAny_Call_Name_kw (ld_glob I hg hm ?_ ndb)
  refine PySem.W.callWith_K (h₀ := X.base) I.ok.mod.kin kp (thn (ha.run pos pins s σ H _ I want) fun us s1 ⟨vs, H1, I1, r, w1⟩ => ⟨I1.kIn, ?_⟩) he hpl
  have r2 : Vals (vs ++ dvs) (us ++ ds) := r.append hd
  have hl : (us ++ ds).length = ps.length := by rw [← r2.length]; exact F.arity _ _ _ _ w1
  have b := bnd s1 us I1.kIn hl
  refine wpAny_call (codeAny_mono (F.go X.A X.stack s1 H1 ⟨us, []⟩ (us ++ ds) (vs ++ dvs) Q (E σ) room gd I1.env0 b r2 w1) fun r s2 c => ?_)
  cases r with
  | error e => exact pas σ pins H1 s1 e s2 I1 c
  | ok fl =>
    cases fl with
    | ret u => exact I1.after c
    | next => exact c.elim
    | brk => exact c.elim
    | cont => exact c.elim
end
/-! ### the law's call -/
section
variable {P : Program} {w : World} {K : PySem.W.Frag} {mg mb : Str → Option Value} {CX : CXT} {k : Nat} {fa a : Addr} {fd : FuncData} {x : Str} {sp : Sp} {s1 : Shared} {vs : List Value} {ns : List Int}
/-- the script as it is known at the call: the module's own, or one from outside -/
def scrH (K : PySem.W.Frag) (a : Addr) (vs : List Value) (ns : List Int) : Hp := fun b => if b = a ∧ K.lookup a = none then some (.frz { cls := .type "list", data := .seq vs.toArray } (.lst (ns.map V.int))) else none
theorem scrH_cases (K : PySem.W.Frag) (a : Addr) (vs : List Value) (ns : List Int) (b : Addr) : scrH K a vs ns b = none ∨ (b = a ∧ K.lookup a = none ∧ scrH K a vs ns b = some (.frz { cls := .type "list", data := .seq vs.toArray } (.lst (ns.map V.int)))) := by
  by_cases c : b = a ∧ K.lookup a = none
  · exact .inr ⟨c.1, c.2, if_pos c⟩
  · exact .inl (if_neg c)
theorem law_goG (inK : K.In s1.heap) (glo : s1.heap.Ns mainGlobals mg) (blt : s1.heap.Ns builtinsNs mb) (bts : ∀ x : Str, x ≠ "__name__" → mb x = bootBuiltins x) (nol : s1.heap.NoLimit) (gen : s1.gens = #[])
    (at_ : s1.heap.get? a = some { cls := .type "list", data := .seq vs.toArray }) (intl : IntsAre vs ns) (short : ns.length ≤ sizeLine) (room : Room k callerA)
    (F : ∀ base : Heap, K.In base → base.Ns mainGlobals mg → FnG P w K mg base CX k fa fd [x] sp) (bnd : ∀ (s : Shared) (u : Value), BindsTo s fd ⟨[u], []⟩ [(x, u)])
    (want : ∀ H : Hp, Only H → SqL K H a (ns.map V.int) → sp [.ref a] H (fun v _ => v = .bl true) fun _ _ _ => False)
    (noX : ∀ H e s', CX [] H s1 (fun _ _ _ => False) e s' → False) :
    codeAny (model P w) callerA (.call (.ref fa) ⟨[.ref a], []⟩) (fun r s' => r = .ok (.ret (.bool true)) ∧ OldK s1.heap s'.heap ∧ s'.os = s1.os ∧ AllBare s'.gens) s1 := by
  have vals := vals_ints intl
  have lv := intl.length
  generalize eH : scrH K a vs ns = H
  have hc : ∀ b, H b = none ∨ (b = a ∧ K.lookup a = none ∧ H b = some (.frz { cls := .type "list", data := .seq vs.toArray } (.lst (ns.map V.int)))) := fun b => by rw [← eH]; exact scrH_cases K a vs ns b
  have only : Only H := fun b => (hc b).elim .inl fun z => .inr ⟨_, _, z.2.2⟩
  have sq : SqL K H a (ns.map V.int) := by
    cases hk : K.lookup a with
    | some o =>
      have e := inK a o hk
      rw [at_] at e
      cases e
      exact .inr ⟨_, vs.toArray, _, hk, rfl, rfl, rfl, by rw [List.size_toArray, lv]; exact short, by simpa using vals⟩
    | none => exact .inl (.inr ⟨{ cls := .type "list", data := .seq vs.toArray }, by rw [← eH]; exact if_pos ⟨rfl, hk⟩⟩)
  have hok : HOk P w H s1.heap := fun b u z => by
    rcases hc b with q | ⟨rfl, _, q⟩
    · rw [q] at z; cases z
    · rw [q] at z
      cases z
      exact ⟨at_, by rw [List.length_map]; exact short, vs, _, vals, at_⟩
  -- what stands under an address that is not tracked
  have low : ∀ {b : Addr} {o : Obj}, s1.heap.get? b = some o → (b = a → K.lookup a ≠ none) → (hidT s1.heap H).get? b = some o := fun {b o} e n => hidT_get e (by
    rcases hc b with q | ⟨q1, q2, _⟩
    · exact q
    · exact absurd q2 (n q1))
  have spaces : ∀ {b : Addr} {m : Str → Option Value}, s1.heap.Ns b m → (hidT s1.heap H).Ns b m := fun {b m} ⟨o, es, ep, e, d, r⟩ => ⟨o, es, ep, low e (fun ba => by
    subst ba
    rw [at_] at e; cases e
    have d' : Data.seq vs.toArray _ = Data.dict es ep := d
    cases d'), d, r⟩
  have kin : K.In (hidT s1.heap H) := fun b o e => low (inK b o e) (fun ba => by rw [← ba, e]; exact fun z => nomatch z)
  have md : Mod K mg (hidT s1.heap H) := ⟨kin, spaces glo, ⟨mb, spaces blt, bts⟩, nol.elim fun mc z => ⟨mc, spaces z.1, z.2⟩⟩
  have none_out : ∀ b, b ∉ frs ([] : List Env) := fun b hb => absurd (show b ∈ ([] : List Addr) from hb) (by simp)
  have env : Env0 P w K mg (hidT s1.heap H) callerA [] s1 H := ⟨rfl, md, fun _ _ e => of_hidT e, Nat.le_of_eq (hidT_size _ _), trivial, fun b hb => absurd hb (none_out b), hok, .of_eq gen⟩
  refine codeAny_mono ((F _ kin (spaces glo)).go callerA [] s1 H ⟨[.ref a], []⟩ [.ref a] [.ref a] _ _ room rfl env (bnd s1 (.ref a)) (.cons rfl .nil) (want H only sq)) fun r s2 out => ?_
  cases r with
  | error e => exact (noX H e s2 out).elim
  | ok fl =>
    cases fl with
    | next => exact out.elim
    | brk => exact out.elim
    | cont => exact out.elim
    | ret u =>
      obtain ⟨v, H2, os, bare, un, hok2, rv, q⟩ := out
      have q : v = .bl true := q
      subst q
      obtain rfl : u = Value.bool true := rv
      refine ⟨rfl, OldK.of_keep fun b o e => ?_, os, bare⟩
      rcases hc b with q | ⟨rfl, _, q⟩
      · exact un.keep b o e q (none_out b) (by simp)
      · have z2 := un.frzs _ _ _ q
        have e1 := (hok _ _ q).1
        rw [e] at e1
        cases e1
        exact (hok2 _ _ z2).1
end
theorem walk_ofG {l : PySem.W.OpenLaw} {n k : Nat} {q : Program} {loose : List Str} {XP : (Str → Option Value) → Heap → Prop} {YP : World → Heap → Prop} {d : DefRec} {K : Params → PySem.W.Frag} {CX : World → CXT} {sp : World → Sp} {x : Str}
    (most : l.most = some n) (short : n ≤ sizeLine) (nodef : d.params.defaults = []) (room : Room k callerA) (inK : ∀ (w : World) (h : Heap), YP w h → (K w.params).In h)
    (F : ∀ (w : World) (mg : Str → Option Value) (fa : Addr) (h : Heap), (K w.params).In h → h.Ns mainGlobals mg → mg d.name = some (.ref fa) →
      ∃ fd : FuncData, (∀ (s : Shared) (u : Value), BindsTo s fd ⟨[u], []⟩ [(x, u)]) ∧ ∀ base : Heap, (K w.params).In base → base.Ns mainGlobals mg → FnG l.prog w (K w.params) mg base (CX w) k fa fd [x] (sp w))
    (want : ∀ (w : World) (H : Hp) (a : Addr) (ns : List Int), ns.length ≤ n → Only H → SqL (K w.params) H a (ns.map V.int) → sp w [.ref a] H (fun v _ => v = .bl true) fun _ _ _ => False)
    (noX : ∀ (w : World) (H : Hp) (s : Shared) (e : Value) (s' : Shared), CX w [] H s (fun _ _ _ => False) e s' → False) :
    PySem.W.WalkO q loose XP YP l.row.toRowW d [] (fun f vs => PySem.call f vs) := by
  refine Att.attach_call most nodef fun w s0 s1 mg mb fa o pm cd doc a vs ns G Y ho hd hcd hmg hobj hints hlen hg => ?_
  obtain ⟨fd, bnd, prom⟩ := F w mg fa _ (inK w _ Y) G.T.g hmg
  exact law_goG (inK w _ Y) G.T.g G.T.b G.T.builtins G.T.nolimit hg hobj hints (Nat.le_trans hlen short) room prom bnd (fun H hO hS => want w H a ns hlen hO hS) fun H e s' => noX w H s1 e s'
end Ci

set_option Elab.async false
set_option linter.all false
set_option maxRecDepth 100000
set_option maxHeartbeats 4000000
namespace Ci
open PySem PySem.Spec PyProof.Rows L2
/-- what a module's name is -/
inductive GV where
  | bi (id : String) | ty (n : String) | fn (i : Nat) | fnD (i : Nat) (d : D) | wd (i : Nat) | cst (d : D) | cls (c : Nat) (r : Bool)
abbrev GT := Str → Option GV
def GOk (z : Si) (P : Program) (mg : Str → Option Value) (y : Str) : GV → Prop
  | .bi id => mg y = none ∧ bootBuiltins y = some (.builtin id)
  | .ty n => mg y = none ∧ bootBuiltins y = some (.type n)
  | .fn i => ∃ a, z.rc.fa i = some a ∧ mg y = some (.ref a)
  | .fnD i d => (∃ a, z.rc.fa i = some a ∧ mg y = some (.ref a)) ∧ z.dfl i = some d
  | .wd i => True
  | .cst d => ∃ u w, mg y = some u ∧ RelV w u ∧ scV d = some w
  | .cls c r => ∃ a, z.ca c = some a ∧ mg y = some (.ref a) ∧ (r = true → ErrTxt P z.K a (z.fld c))
/-- a def's promise: what the evaluator says -/
def Si.to (z : Si) (E : XK) : Si := { z with W := fun c d _ H => E c d H }
def spF (z : Si) (i : Nat) : Sp := fun vs H Q E => ∃ F am h ds, Sto z.rc F am H h ∧ RDs z.rc F am H ds vs ∧ SatR (z.to E) [] F am H (z.call i ds h) (PostD (z.to E) Q)
def CallOk (z : Si) (X : Cx) : Prop := z.rc.hx = none ∧ X.A.guards = some [] ∧ ∀ i a, z.rc.fa i = some a → PySem.W.keepIn X.K (.ref a) = true ∧ ∃ (fd : FuncData) (ps : List Str) (k : Nat),
  FnG X.prog X.w X.K X.mg X.base (L2N.CX X.prog X.w) k a fd ps (spF z i) ∧ Room k X.A ∧ Binds X.K fd ps [] ∧ ∀ d, z.dfl i = some d → ∃ w ds, scV d = some w ∧ Vals [w] ds ∧ Binds X.K fd ps ds
/-- attribute names of exceptions -/
def atn : Nat → Str
  | 100 => "reason"
  | 101 => "at"
  | _ => "line"
/-- the exception that a suite holds -/
structure HxOk (z : Si) (X : Cx) (x : Hx) : Prop where
  ex : ∃ oe C, (x.a, oe) ∈ X.pn ∧ z.ca x.c = some C ∧ Zc (.ref C) (some x.d) oe ∧ (∃ vs, oe.data = .fields vs) ∧ x.f = z.fld x.c ∧ ExcC X.K C ∧ PySem.W.findIn X.K (.ref C) x.f = some none
  k : ∀ C c' C', z.ca x.c = some C → z.ca c' = some C' → PySem.W.kitOne X.K (.ref C) (.ref C') = some (z.sub x.c c')
  ve : ∀ C, z.ca x.c = some C → PySem.W.kitOne X.K (.ref C) (.type "ValueError") = some (z.sub x.c 99)
  fl : ∀ j, 100 ≤ j → z.sub x.c j = true → atn j = x.f
structure Ok (z : Si) (X : Cx) (N : List Str) (G : GT) (sc : Scope) (hot : Bool) : Prop where
  hK : X.K = z.K
  hrK : X.K = z.rc.K
  hN : X.N = N
  nd : N.Nodup
  hsc : X.env.scope = sc
  calm : hot = false → X.calm = true
  un : X.A.units + 70 < cLine
  tk : L2N.Takes X z.W
  g : ∀ y v, G y = some v → GOk z X.prog X.mg y v
  dp : X.A.depth + 5 < recursionLimit
  su : X.mg "super" = none
  hx : ∀ x, z.rc.hx = some x → HxOk z X x
  cf : hot = false → CallOk z X

/-! ### the check -/
def gl (sc : Scope) (y : Str) : Bool := sc.names.lookup y == some .globalImplicit && !(y == ("__debug__" : Str)) && !(y == ("__name__" : Str))
def vis (sc : Scope) (y : Str) : Bool := (sc.names.lookup y == some .local || sc.names.lookup y == some .cell || sc.names.lookup y == some .free) && !(y == ("__debug__" : Str)) && !(y == ("__classdict__" : Str))
def isFn (G : GT) (y : Str) (i : Nat) : Bool := match G y with | some (.fn j) => i == j | some (.fnD j _) => i == j | _ => false
def isFnD (G : GT) (y : Str) (i : Nat) (d : D) : Bool := match G y with | some (.fnD j e) => i == j && D.beq d e | _ => false
def isWd (G : GT) (y : Str) (i : Nat) : Bool := match G y with | some (.wd j) => i == j | _ => false
def isBi (G : GT) (y : Str) (s : String) : Bool := match G y with | some (.bi t) => s == t | _ => false
def isTy (G : GT) (y : Str) (s : String) : Bool := match G y with | some (.ty t) => s == t | _ => false
def isCst (G : GT) (y : Str) (d : D) : Bool := match G y with | some (.cst e) => D.beq d e | _ => false
def isCls (G : GT) (y : Str) (c : Nat) : Bool := match G y with | some (.cls e _) => c == e | _ => false
def isErr (G : GT) (y : Str) (c : Nat) : Bool := match G y with | some (.cls e r) => c == e && r | _ => false
def isVal (G : GT) (y : Str) : Value → Bool
  | .builtin s => isBi G y s
  | .type s => isTy G y s
  | _ => false
def litB : D → Const → Bool
  | .non, .none => true
  | .bl a, .bool b => a == b
  | .int a, .int b => a == b
  | .str a, .str b => a == b
  | _, _ => false
def noStar : Expr → Bool
  | .Starred .. => false
  | _ => true
def noSlice : Expr → Bool
  | .Slice .. => false
  | _ => true
def Me.name : Me → Str
  | .append => "append" | .index => "index" | .count => "count" | .extend => "extend" | .pop => "pop" | .remove => "remove"
/-- no call of super -/
def plainBase : Expr → Bool
  | .Name .. | .Subscript .. | .Attribute .. => true
  | _ => false
def noSet : Expr → Bool
  | .Set .. => false
  | _ => true
/-- a test of no odd form -/
def testOk : Nat → Expr → Bool
  | 0, _ => false
  | n + 1, .BoolOp _ xs _ => xs.all (testOk n)
  | n + 1, .UnaryOp .Not x _ => testOk n x
  | _, .IfExp .. => false
  | _, _ => true
def isBool : Expr → Bool
  | .BoolOp .. => true
  | _ => false
section
variable (N : List Str) (G : GT)
mutual
def tgB (sc : Scope) : Tg → Expr → Bool
  | .nm i, .Name y _ => N[i]? == some y && (sc.names.lookup y == some .local || sc.names.lookup y == some .cell)
  | .tp ts, .Tuple es _ _ => tgsB sc ts es
  | _, _ => false
def tgsB (sc : Scope) : Tgs → List Expr → Bool
  | .nil, [] => true
  | .cons t ts, e :: es => tgB sc t e && tgsB sc ts es
  | _, _ => false
end
mutual
def tgIx : Tg → List Nat
  | .nm i => [i]
  | .tp ts => tgsIx ts
def tgsIx : Tgs → List Nat
  | .nil => []
  | .cons t ts => tgIx t ++ tgsIx ts
end
def isTup : Expr → Bool
  | .Tuple .. => true
  | _ => false
/-- what a comprehension goes over that is a changing thing of its own: a dict's keys, or a list with its places -/
def overC (e : Bool) (sc : Scope) (j : Nat) (t x : Expr) : Bool := match e, x with
  | false, .Name y _ => N[j]? == some y && vis sc y
  | true, .Call (.Name g _) [.Name y _] [] _ => gl sc g && isTy G g "enumerate" && g == ("enumerate" : Str) && isTup t && N[j]? == some y && vis sc y
  | _, _ => false
mutual
def chkE (hot : Bool) (sc : Scope) : E → Expr → Bool
  | .nope, _ => true
  | .var i, .Name y _ => N[i]? == some y && vis sc y
  | .lit d, .Constant c _ _ => litB d c
  | .glb y d, .Name y' _ => y == y' && gl sc y && isCst G y d
  | .fn i, .Name y _ => gl sc y && isFn G y i
  | .bin op a b, .BinOp x o y _ => op == o && chkE hot sc a x && chkE hot sc b y
  | .neg a, .UnaryOp .USub x _ => chkE hot sc a x
  | .not_ a, .UnaryOp .Not x _ => chkE hot sc a x
  | .and_ a b, .BoolOp .And (x :: y :: r) p => chkE hot sc a x && chkE hot sc b (if r.isEmpty then y else .BoolOp .And (y :: r) p)
  | .or_ a b, .BoolOp .Or (x :: y :: r) p => chkE hot sc a x && chkE hot sc b (if r.isEmpty then y else .BoolOp .Or (y :: r) p)
  | .ife c a b, .IfExp t x y _ => chkE hot sc c t && testOk 30 t && chkE hot sc a x && chkE hot sc b y
  | .cmp o a b, .Compare x [o'] [y] _ => o == o' && noSet y && chkE hot sc a x && chkE hot sc b y
  | .cmp2 o p a b c, .Compare x [o', p'] [y, w] _ => o == o' && p == p' && noSet w && chkE hot sc a x && chkE hot sc b y && chkE hot sc c w
  | .cmp3 o p q a b c d, .Compare x [o', p', q'] [y, w, v] _ => o == o' && p == p' && q == q' && noSet v && chkE hot sc a x && chkE hot sc b y && chkE hot sc c w && chkE hot sc d v
  | .isN a, .Compare x [.Is] [.Constant .none _ _] _ => chkE hot sc a x
  | .noN a, .Compare x [.IsNot] [.Constant .none _ _] _ => chkE hot sc a x
  | .tup es, .Tuple xs _ _ => chkEs hot sc es xs
  | .il l, x => chkL hot sc l x
  | .ml l, x => chkL hot sc l x
  | .ix a b, .Subscript x y _ => noSlice y && chkE hot sc a x && chkE hot sc b y
  | .rev a, .Subscript x (.Slice none none (some (.UnaryOp .USub (.Constant (.int 1) _ _) _)) _) _ => chkE hot sc a x
  | .rlist t a b, .Call (.Name y _) [.Call (.Name y2 _) xs [] _] [] _ => !hot && gl sc y && isTy G y (if t then "tuple" else "list") && y == (if t then ("tuple" : Str) else ("list" : Str)) && gl sc y2 && isTy G y2 "range" && y2 == ("range" : Str) &&
    (match xs with | [x] => a.isOmit && noStar x && chkE hot sc b x | [x, x'] => !a.isOmit && noStar x && noStar x' && chkE hot sc a x && chkE hot sc b x' | _ => false)
  | .dc k v own tg it cond, .DictComp x w [⟨t, i, ifs, 0⟩] sc' _ =>
    !hot && blkC N sc sc' (own.filterMap fun k => N[k]?.map fun y => (y, k)) && (own.filterMap fun k => N[k]?.map fun y => (y, k)).map (·.2) == own && noSet i && (tgIx tg).all (own.contains ·) && own.all (fun k => match N[k]? with | some y => !(sc'.names.lookup y == some .free) | none => false) &&
      chkI hot sc t it i && tgB N (relS sc' sc) tg t && chkE hot (relS sc' sc) k x && chkE hot (relS sc' sc) v w && (match ifs with | [] => cond.isOmit | [c] => !cond.isOmit && chkE hot (relS sc' sc) cond c && testOk 30 c | _ => false)
  | .sl a lo hi, .Subscript x (.Slice l u none _) _ => chkE hot sc a x && (match l with | none => lo.isOmit | some l => !lo.isOmit && chkE hot sc lo l) && (match u with | none => hi.isOmit | some u => !hi.isOmit && chkE hot sc hi u)
  | .call f es, .Call (.Name y _) (x :: xs) [] _ => !hot && gl sc y && isFn G y f && chkEs hot sc es (x :: xs)
  | .pcall f es, .Call (.Name y _) (x :: xs) [] _ => !hot && gl sc y && isFn G y f && chkEs hot sc es (x :: xs)
  | .pcallD f es d, .Call (.Name y _) (x :: xs) [] _ => !hot && gl sc y && isFnD G y f d && chkEs hot sc es (x :: xs)
  | .vcall i es, .Call (.Name y _) (x :: xs) [] _ => !hot && N[i]? == some y && vis sc y && chkEs hot sc es (x :: xs)
  | .pvcall i es, .Call (.Name y _) (x :: xs) [] _ => !hot && N[i]? == some y && vis sc y && chkEs hot sc es (x :: xs)
  | .isI a t, .Call (.Name y _) [x, .Name u _] [] _ => gl sc y && isBi G y "isinstance" && gl sc u && isTy G u t.name && noStar x && chkE hot sc a x
  | .isC a c, .Call (.Name y _) [x, .Name u _] [] _ => gl sc y && isBi G y "isinstance" && gl sc u && (isCls G u c || isTy G u "ValueError" && c == 99) && noStar x && chkE hot sc a x
  | .attr a k, .Attribute x n _ => n == atn k && decide (100 ≤ k) && plainBase x && chkE hot sc a x
  | .meth m a es, .Call (.Attribute x n apos) (y :: ys) [] cpos => n == m.name && plainBase x && apos.endLine == cpos.line && decide (ys.length < 20) && chkE hot sc a x && chkEs hot sc es (y :: ys)
  | .blt b es, .Call (.Name y _) (x :: xs) [] _ => (!hot || !b.calm) && gl sc y && isVal G y b.val && chkEs hot sc es (x :: xs)
  | .dget a k d, .Call (.Attribute x n apos) [y, w] [] cpos => n == ("get" : Str) && plainBase x && apos.endLine == cpos.line && noStar y && noStar w && chkE hot sc a x && chkE hot sc k y && chkE hot sc d w
  | .mdct, .Dict [] [] _ => true
  | .dget1 a k, .Call (.Attribute x n apos) [y] [] cpos => n == ("get" : Str) && plainBase x && apos.endLine == cpos.line && noStar y && chkE hot sc a x && chkE hot sc k y
  | .md1 k v, .Dict [some x] [y] _ => chkE hot sc k x && chkE hot sc v y
  | .pop0 a, .Call (.Attribute x n apos) [] [] cpos => n == ("pop" : Str) && plainBase x && apos.endLine == cpos.line && chkE hot sc a x
  | .inv a, .UnaryOp .Invert x _ => chkE hot sc a x
  | .mcat a b, .BinOp x .Add y _ => chkE hot sc a x && chkE hot sc b y
  | .mrep a b, .BinOp x .Mult y _ => chkE hot sc a x && chkE hot sc b y
  | _, _ => false
def chkEs (hot : Bool) (sc : Scope) : Es → List Expr → Bool
  | .nil, [] => true
  | .cons e es, x :: xs => noStar x && chkE hot sc e x && chkEs hot sc es xs
  | _, _ => false
def chkL (hot : Bool) (sc : Scope) : L → Expr → Bool
  | .disp es, .List xs _ => chkEs hot sc es xs
  | .comp elt own tg it cond, .ListComp x [⟨t, i, ifs, 0⟩] sc' _ =>
    !hot && blkC N sc sc' (own.filterMap fun k => N[k]?.map fun y => (y, k)) && (own.filterMap fun k => N[k]?.map fun y => (y, k)).map (·.2) == own && noSet i && (tgIx tg).all (own.contains ·) && own.all (fun k => match N[k]? with | some y => !(sc'.names.lookup y == some .free) | none => false) &&
      chkI hot sc t it i && tgB N (relS sc' sc) tg t && chkE hot (relS sc' sc) elt x && (match ifs with | [] => cond.isOmit | [c] => !cond.isOmit && chkE hot (relS sc' sc) cond c && testOk 30 c | _ => false)
  | .comp2 elt own tg it cond own1 tg1 it1 cond1, .ListComp x [⟨t, i, ifs, 0⟩, ⟨t1, i1, ifs1, 0⟩] sc' _ =>
    !hot && blkC N sc sc' (own.filterMap fun k => N[k]?.map fun y => (y, k)) && (own.filterMap fun k => N[k]?.map fun y => (y, k)).map (·.2) == own && noSet i && (tgIx tg).all (own.contains ·) && own.all (fun k => match N[k]? with | some y => !(sc'.names.lookup y == some .free) | none => false) &&
      noSet i1 && (tgIx tg1).all (own1.contains ·) && own1.all (own.contains ·) &&
      chkI hot sc t it i && tgB N (relS sc' sc) tg t && chkE hot (relS sc' sc) elt x && (match ifs with | [] => cond.isOmit | [c] => !cond.isOmit && chkE hot (relS sc' sc) cond c && testOk 30 c | _ => false) &&
      chkI hot (relS sc' sc) t1 it1 i1 && tgB N (relS sc' sc) tg1 t1 && (match ifs1 with | [] => cond1.isOmit | [c] => !cond1.isOmit && chkE hot (relS sc' sc) cond1 c && testOk 30 c | _ => false)
  | .compC e elt own tg j cond, .ListComp x [⟨t, i, ifs, 0⟩] sc' _ =>
    !hot && blkC N sc sc' (own.filterMap fun k => N[k]?.map fun y => (y, k)) && (own.filterMap fun k => N[k]?.map fun y => (y, k)).map (·.2) == own && noSet i && (tgIx tg).all (own.contains ·) && own.all (fun k => match N[k]? with | some y => !(sc'.names.lookup y == some .free) | none => false) &&
      overC N G e sc j t i && tgB N (relS sc' sc) tg t && chkE hot (relS sc' sc) elt x && (match ifs with | [] => cond.isOmit | [c] => !cond.isOmit && chkE hot (relS sc' sc) cond c && testOk 30 c | _ => false)
  | _, _ => false
/-- t: the target -/
def chkI (hot : Bool) (sc : Scope) (t : Expr) : It → Expr → Bool
  | .val e, x => chkE hot sc e x
  | .rng1 a, .Call (.Name y _) [x] [] _ => gl sc y && isTy G y "range" && y == ("range" : Str) && noStar x && chkE hot sc a x
  | .rng2 a b, .Call (.Name y _) [x, x'] [] _ => gl sc y && isTy G y "range" && y == ("range" : Str) && noStar x && noStar x' && chkE hot sc a x && chkE hot sc b x'
  | .rng3 a b c, .Call (.Name y _) [x, x', x''] [] _ => gl sc y && isTy G y "range" && y == ("range" : Str) && noStar x && noStar x' && noStar x'' && chkE hot sc a x && chkE hot sc b x' && chkE hot sc c x''
  | .enum a, .Call (.Name y _) [x] [] _ => gl sc y && isTy G y "enumerate" && y == ("enumerate" : Str) && isTup t && noStar x && chkE hot sc a x
  | .zip2 a b, .Call (.Name y _) [x, x'] [] _ => gl sc y && isTy G y "zip" && y == ("zip" : Str) && isTup t && noStar x && noStar x' && chkE hot sc a x && chkE hot sc b x'
  | _, _ => false
end
end

/-! ### the cases -/
section
variable {z : Si} {X : Cx} {N : List Str} {G : GT} {sc : Scope} {hot : Bool}
theorem vis_ok {y : Str} (ok : Ok z X N G sc hot) (h : vis sc y = true) : Vis X.env.scope y ∧ (y == ("__debug__" : Str)) = false ∧ (y == ("__classdict__" : Str)) = false := by
  unfold vis at h
  simp only [Bool.and_eq_true, Bool.or_eq_true, beq_iff_eq, Bool.not_eq_true'] at h
  rw [ok.hsc]
  exact ⟨h.1.1.elim (fun k => k.elim .inl fun k => .inr (.inl k)) fun k => .inr (.inr k), h.1.2, h.2⟩
theorem gl_ok {y : Str} (ok : Ok z X N G sc hot) (h : gl sc y = true) : Gl X y ∧ (y == ("__debug__" : Str)) = false ∧ y ≠ "__name__" := by
  unfold gl at h
  simp only [Bool.and_eq_true, beq_iff_eq, Bool.not_eq_true'] at h
  refine ⟨?_, h.1.2, fun e => ?_⟩
  · unfold Gl Env.kindOf
    rw [ok.hsc]; exact h.1.1
  · have h2 := h.2
    rw [e, beq_self_eq_true] at h2; cases h2
theorem fn_at {y : Str} {i : Nat} (ok : Ok z X N G sc hot) (h : isFn G y i = true) : ∃ a, z.rc.fa i = some a ∧ X.mg y = some (.ref a) := by
  unfold isFn at h
  split at h
  · rename_i j e
    have q := ok.g _ _ e
    rw [beq_iff_eq] at h; subst h
    exact q
  · rename_i j d e
    have q := ok.g _ _ e
    rw [beq_iff_eq] at h; subst h
    exact q.1
  · cases h
theorem fnD_at {y : Str} {i : Nat} {d : D} (ok : Ok z X N G sc hot) (h : isFnD G y i d = true) : (∃ a, z.rc.fa i = some a ∧ X.mg y = some (.ref a)) ∧ z.dfl i = some d := by
  unfold isFnD at h
  split at h
  · rename_i j d' e
    have q := ok.g _ _ e
    simp only [Bool.and_eq_true, beq_iff_eq] at h
    obtain ⟨rfl, h2⟩ := h
    rw [D.beq_eq h2]
    exact q
  · cases h
theorem wd_at {y : Str} {i : Nat} (h : isWd G y i = true) : G y = some (.wd i) := by
  unfold isWd at h
  split at h
  · rename_i j e
    rw [beq_iff_eq] at h; subst h
    exact e
  · cases h
theorem bi_at {y : Str} {i : String} (ok : Ok z X N G sc hot) (h : isBi G y i = true) : X.mg y = none ∧ bootBuiltins y = some (.builtin i) := by
  unfold isBi at h
  split at h
  · rename_i j e
    have q := ok.g _ _ e
    rw [beq_iff_eq] at h; subst h
    exact q
  · cases h
theorem ty_at {y : Str} {i : String} (ok : Ok z X N G sc hot) (h : isTy G y i = true) : X.mg y = none ∧ bootBuiltins y = some (.type i) := by
  unfold isTy at h
  split at h
  · rename_i j e
    have q := ok.g _ _ e
    rw [beq_iff_eq] at h; subst h
    exact q
  · cases h
theorem cst_at {y : Str} {d : D} (ok : Ok z X N G sc hot) (h : isCst G y d = true) : ∃ u w, X.mg y = some u ∧ RelV w u ∧ scV d = some w := by
  unfold isCst at h
  split at h
  · rename_i j e
    have q := ok.g _ _ e
    rw [D.beq_eq h]
    exact q
  · cases h
theorem cls_at {y : Str} {i : Nat} (ok : Ok z X N G sc hot) (h : isCls G y i = true) : ∃ a, z.ca i = some a ∧ X.mg y = some (.ref a) := by
  unfold isCls at h
  split at h
  · rename_i j r e
    have q := ok.g _ _ e
    rw [beq_iff_eq] at h; subst h
    obtain ⟨a, q1, q2, q3⟩ := q
    exact ⟨a, q1, q2⟩
  · cases h
theorem err_at {y : Str} {i : Nat} (ok : Ok z X N G sc hot) (h : isErr G y i = true) : ∃ a, z.ca i = some a ∧ X.mg y = some (.ref a) ∧ ErrTxt X.prog X.K a (z.fld i) := by
  unfold isErr at h
  split at h
  · rename_i j r e
    have q := ok.g _ _ e
    simp only [Bool.and_eq_true, beq_iff_eq] at h
    obtain ⟨rfl, h2⟩ := h
    obtain ⟨a, q1, q2, q3⟩ := q
    exact ⟨a, q1, q2, by rw [ok.hK]; exact q3 h2⟩
  · cases h
theorem e_never {x : Expr} {e : E} (h : ∀ S hs, ev z.sub z.call e S hs = .bad) : PE X x (tE z e) := ⟨fun pins s σ H Q I ⟨S, F, am, hs, r, q⟩ => by rw [h] at q; exact q.elim⟩
theorem e_var {i : Nat} {y : Str} {p : Pos} (ok : Ok z X N G sc hot) (h : N[i]? = some y) (hv : vis sc y = true) : PE X (.Name y p) (tE z (.var i)) := by
  obtain ⟨v1, v2, v3⟩ := vis_ok ok hv
  refine (pe_var (i := i) (by rw [ok.hN]; exact h) v1 v2 v3).imp fun σ H Q ⟨S, F, am, hs, r, q⟩ => ?_
  simp only [ev] at q
  cases e : S[i]? with
  | none => rw [e] at q; exact q.elim
  | some o =>
    cases o with
    | none => rw [e] at q; exact q.elim
    | some d =>
      rw [e] at q
      obtain ⟨v, h1, h2⟩ := r.sl i d e
      exact ⟨v, h1, PostD.at q r.sto h2⟩
theorem e_lit {d : D} {c : Const} {j : Nat} {p : Pos} (h : litB d c = true) : PE X (.Constant c j p) (tE z (.lit d)) := by
  unfold litB at h
  split at h
  · exact pe_non.imp fun σ H Q ⟨S, F, am, hs, r, q⟩ => PostD.at (by simpa only [ev] using q) r.sto .non
  · rw [beq_iff_eq] at h; subst h
    exact pe_bl.imp fun σ H Q ⟨S, F, am, hs, r, q⟩ => PostD.at (by simpa only [ev] using q) r.sto (.bl _)
  · rw [beq_iff_eq] at h; subst h
    exact pe_int.imp fun σ H Q ⟨S, F, am, hs, r, q⟩ => PostD.at (by simpa only [ev] using q) r.sto (.int _)
  · rw [beq_iff_eq] at h; subst h
    exact pe_str.imp fun σ H Q ⟨S, F, am, hs, r, q⟩ => PostD.at (by simpa only [ev] using q) r.sto (.str _)
  · cases h
theorem e_glb {y : Str} {d : D} {p : Pos} (ok : Ok z X N G sc hot) (hg : gl sc y = true) (hc : isCst G y d = true) : PE X (.Name y p) (tE z (.glb y d)) := by
  obtain ⟨g1, g2, g3⟩ := gl_ok ok hg
  obtain ⟨u, w, c1, c2, c3⟩ := cst_at ok hc
  exact (pe_glob g1 c1 c2 g2).imp fun σ H Q ⟨S, F, am, hs, r, q⟩ => PostD.at (by simpa only [ev] using q) r.sto (sc_RD c3)
theorem e_fn {y : Str} {i : Nat} {p : Pos} (ok : Ok z X N G sc hot) (hg : gl sc y = true) (hc : isFn G y i = true) : PE X (.Name y p) (tE z (.fn i)) := by
  obtain ⟨g1, g2, g3⟩ := gl_ok ok hg
  obtain ⟨a, c1, c2⟩ := fn_at ok hc
  exact (pe_glob (v := .ref a) g1 c2 rfl g2).imp fun σ H Q ⟨S, F, am, hs, r, q⟩ => PostD.at (by simpa only [ev] using q) r.sto (.fn c1)
theorem e_bin {op : Operator} {a b : E} {x y : Expr} {p : Pos} (ok : Ok z X N G sc hot) (ha : PE X x (tE z a)) (hb : PE X y (tE z b)) : PE X (.BinOp x op y p) (tE z (.bin op a b)) :=
  (pe_op (bin_ok ok.hK op) ha hb).imp fun σ H Q ⟨S, F, am, hs, r, q⟩ => two r (by simpa only [ev] using q) fun d e v u F am H h r1 r2 r3 q1 => ⟨σ, F, am, h, _, _, r1.sto, rd_rel r1.sto r2, rd_rel r1.sto r3, q1⟩
theorem e_neg {a : E} {x : Expr} {p : Pos} (ha : PE X x (tE z a)) : PE X (.UnaryOp .USub x p) (tE z (.neg a)) :=
  (pe_un un_neg ha).imp fun σ H Q ⟨S, F, am, hs, r, q⟩ => one r (by simpa only [ev] using q) fun d v F am H h r1 r2 q1 => by
    cases d <;> first | exact q1.elim | skip
    cases r2
    exact ⟨_, rfl, PostD.at q1 r1.sto (.int _)⟩
theorem e_inv {a : E} {x : Expr} {p : Pos} (ha : PE X x (tE z a)) : PE X (.UnaryOp .Invert x p) (tE z (.inv a)) :=
  (pe_un un_inv ha).imp fun σ H Q ⟨S, F, am, hs, r, q⟩ => one r (by simpa only [ev] using q) fun d v F am H h r1 r2 q1 => by
    cases d <;> first | exact q1.elim | skip
    cases r2
    exact ⟨_, rfl, PostD.at q1 r1.sto (.int _)⟩
theorem e_not {a : E} {x : Expr} {p : Pos} (ha : PE X x (tE z a)) : PE X (.UnaryOp .Not x p) (tE z (.not_ a)) :=
  (pe_notT ha).imp fun σ H Q ⟨S, F, am, hs, r, q⟩ => one r (by simpa only [ev] using q) fun d v F am H h r1 r2 q1 => by
    obtain ⟨b, e, q1⟩ := map_bl (o := (truD (rd h d)).map (!·)) (by rw [Option.map_map]; exact q1) r1.sto
    cases e1 : truD (rd h d) with
    | none => rw [e1] at e; cases e
    | some k =>
      rw [e1] at e; cases e
      exact ⟨k, tru_of (rd_rel r1.sto r2) e1, q1⟩
theorem e_and {a b : E} {x y : Expr} {rest : List Expr} {p : Pos} (ha : PE X x (tE z a)) (hb : PE X (.BoolOp .And (y :: rest) p) (tE z b)) : PE X (.BoolOp .And (x :: y :: rest) p) (tE z (.and_ a b)) :=
  (pe_andT ha hb).imp fun σ H Q ⟨S, F, am, hs, r, q⟩ => one r (by simpa only [ev] using q) fun d v F am H h r1 r2 q1 => by
    cases e1 : truD (rd h d) with
    | none => rw [e1] at q1; exact q1.elim
    | some k =>
      rw [e1] at q1
      refine ⟨k, tru_of (rd_rel r1.sto r2) e1, ?_⟩
      cases k with
      | true => exact ⟨S, F, am, h, r1, q1⟩
      | false => exact PostD.at q1 r1.sto r2
theorem e_or {a b : E} {x y : Expr} {rest : List Expr} {p : Pos} (ha : PE X x (tE z a)) (hb : PE X (.BoolOp .Or (y :: rest) p) (tE z b)) : PE X (.BoolOp .Or (x :: y :: rest) p) (tE z (.or_ a b)) :=
  (pe_orT ha hb).imp fun σ H Q ⟨S, F, am, hs, r, q⟩ => one r (by simpa only [ev] using q) fun d v F am H h r1 r2 q1 => by
    cases e1 : truD (rd h d) with
    | none => rw [e1] at q1; exact q1.elim
    | some k =>
      rw [e1] at q1
      refine ⟨k, tru_of (rd_rel r1.sto r2) e1, ?_⟩
      cases k with
      | false => exact ⟨S, F, am, h, r1, q1⟩
      | true => exact PostD.at q1 r1.sto r2
theorem e_ife {c a b : E} {t x y : Expr} {p : Pos} (hc : PT X t (tB z c)) (ha : PE X x (tE z a)) (hb : PE X y (tE z b)) : PE X (.IfExp t x y p) (tE z (.ife c a b)) :=
  (pe_ifExp hc ha hb).imp fun σ H Q ⟨S, F, am, hs, r, q⟩ => by
    simp only [ev] at q
    refine ⟨S, F, am, hs, r, SatR.bind (r := tst z.sub z.call c S hs) r.sto.inF q fun k h1 F1 am1 H1 _ e1 s1 q1 => ?_⟩
    cases k with
    | true => exact ⟨S, F1, am1, h1, r.to e1 s1, q1⟩
    | false => exact ⟨S, F1, am1, h1, r.to e1 s1, q1⟩
theorem mark_ok {y : Expr} {o : CmpOp} (h : noSet y = true) : behindInMarks o y = false := by
  cases y <;> first | rfl | cases h
theorem e_cmp {o : CmpOp} {a b : E} {x y : Expr} {p : Pos} (ok : Ok z X N G sc hot) (hy : noSet y = true) (ha : PE X x (tE z a)) (hb : PE X y (tE z b)) : PE X (.Compare x [o] [y] p) (tE z (.cmp o a b)) :=
  (pe_cmpR (cmpH_ok ok.hK ok.un o) ha hb (mark_ok hy)).imp fun σ H Q ⟨S, F, am, hs, r, q⟩ => two r (by simpa only [ev] using q) fun d e v u F am H h r1 r2 r3 q1 => ⟨σ, F, am, h, _, _, r1.sto, r2, r3, q1⟩
theorem e_isN {a : E} {x : Expr} {j : Nat} {p p' : Pos} (ha : PE X x (tE z a)) : PE X (.Compare x [.Is] [.Constant .none j p'] p) (tE z (.isN a)) :=
  (pe_cmpR op_isN ha pe_non (nomark _)).imp fun σ H Q ⟨S, F, am, hs, r, q⟩ => one r (by simpa only [ev] using q) fun d v F am H h r1 r2 q1 => ⟨rfl, by
    have e : decide (v = V.non) = isNonD d := by cases r2 <;> simp [isNonD]
    rw [e]
    exact PostD.at q1 r1.sto (.bl _)⟩
theorem e_noN {a : E} {x : Expr} {j : Nat} {p p' : Pos} (ha : PE X x (tE z a)) : PE X (.Compare x [.IsNot] [.Constant .none j p'] p) (tE z (.noN a)) :=
  (pe_cmpR op_notN ha pe_non (nomark _)).imp fun σ H Q ⟨S, F, am, hs, r, q⟩ => one r (by simpa only [ev] using q) fun d v F am H h r1 r2 q1 => ⟨rfl, by
    have e : (!decide (v = V.non)) = !isNonD d := by cases r2 <;> simp [isNonD]
    rw [e]
    exact PostD.at q1 r1.sto (.bl _)⟩
end
end Ci

set_option Elab.async false
set_option linter.all false
set_option maxRecDepth 100000
set_option maxHeartbeats 4000000
namespace Ci
open PySem PySem.Spec PyProof.Rows L2
section
variable {z : Si} {X : Cx} {N : List Str} {G : GT} {sc : Scope} {hot : Bool}
theorem star_ok {x : Expr} {xs : List Expr} {env : Env} (h : noStar x = true) : starEach (x :: xs) env = (false, eval x env) :: starEach xs env := by
  cases x <;> first | rfl | cases h
theorem plain_ok {env : Env} {pos : Pos} : ∀ {xs : List Expr}, xs.all noStar = true → (backTo pos (starEach xs env)).any (·.1) = false
  | [], _ => rfl
  | x :: xs, h => by
    simp only [List.all_cons, Bool.and_eq_true] at h
    rw [star_ok h.1]
    show (false || (backTo pos (starEach xs env)).any (·.1)) = false
    rw [plain_ok h.2]; rfl
theorem chkEs_star : ∀ {es : Es} {xs : List Expr}, chkEs N G hot sc es xs = true → xs.all noStar = true
  | .nil, [], _ => rfl
  | .nil, _ :: _, h => by simp [chkEs] at h
  | .cons _ _, [], h => by simp [chkEs] at h
  | .cons e es, x :: xs, h => by
    simp only [chkEs, Bool.and_eq_true] at h
    simp only [List.all_cons, Bool.and_eq_true]
    exact ⟨h.1.1, chkEs_star h.2⟩
theorem es_nil : PA X [] (tEs z .nil) := pa_nil.imp fun σ H Q ⟨S, F, am, hs, r, q⟩ => by
  simp only [evs] at q
  exact SatR.now q r.sto _ .nil
theorem es_cons {e : E} {es : Es} {x : Expr} {xs : List Expr} (hs : noStar x = true) (ha : PE X x (tE z e)) (hb : PA X xs (tEs z es)) : PA X (x :: xs) (tEs z (.cons e es)) :=
  (pa_cons ha hb (star_ok hs)).imp fun σ H Q ⟨S, F, am, h, r, q⟩ => by
    simp only [evs] at q
    refine ⟨S, F, am, h, r, q.bind r.sto.inF fun d h1 F1 am1 H1 _ e1 s1 q1 v rv => ⟨S, F1, am1, h1, r.to e1 s1, q1.bind s1.inF fun ds h2 F2 am2 H2 _ e2 s2 q2 vs rvs => ?_⟩⟩
    exact SatR.now q2 s2 _ (.cons (rv.ext e2 s1.inF) rvs)
/-- what a fresh list wants: p its place, guarded -/
def SatL (z : Si) (σ : SV) (F : Addr → Prop) (am : List Addr) (H : Hp) (r : R (List D)) (Q : VK) : Prop := match r with
  | .ok ds h => ∀ F2 am2 H2 p vs, Ext F am H F2 am2 H2 → Sto z.rc F2 am2 H2 h → H2 p = some (.lst vs) → RDs z.rc F2 am2 H2 ds vs → F2 p → p ∉ am2 → H p = none → Q (.ref p) H2
  | .exc c v h => excW z σ F am H c v h
  | .bad => False
def tL (z : Si) (l : L) : TE := fun σ H Q => ∃ S F am h, Rel z.rc F am H h S σ ∧ SatL z σ F am H (evL z.sub z.call l S h) Q
section
variable {F F' F1 F2 : Addr → Prop} {am am' am1 am2 : List Addr} {H H' H1 H2 : Hp} {d e : D} {v u : V} {ds : List D} {vs : List V} {h h' : Hs} {σ0 : SV} {Q : VK} {p : Addr} {o : HO} {c : Rc}
mutual
theorem RD.less (k : ∀ a, F' a → F a) : ∀ {d : D} {v : V}, RD c F am H d v → RD c F' am H d v
  | _, _, .non => .non
  | _, _, .bl b => .bl b
  | _, _, .int b => .int b
  | _, _, .str b => .str b
  | _, _, .tup r n l => .tup r (fun q => n (k _ q)) (RDs.less k l)
  | _, _, .lst r n l => .lst r (fun q => n (k _ q)) (RDs.less k l)
  | _, _, .scr r n l => .scr r (fun q => n (k _ q)) (RDs.less k l)
  | _, _, .scrK r l => .scrK r (RDs.less k l)
  | _, _, .ref q => .ref q
  | _, _, .fn q => .fn q
  | _, _, .exc a b c n => .exc a b c (fun q => n (k _ q))
theorem RDs.less (k : ∀ a, F' a → F a) : ∀ {ds : List D} {vs : List V}, RDs c F am H ds vs → RDs c F' am H ds vs
  | _, _, .nil => .nil
  | _, _, .cons r l => .cons (RD.less k r) (RDs.less k l)
end
theorem Sto.less (s : Sto c F am H h) (k : ∀ a, F' a → F a) (i : ∀ a ∈ am, F' a) : Sto c F' am H h :=
  ⟨s.nd, s.len, i, fun a q => s.ok a (k a q), fun i a o q1 q2 => by
    have q := s.obj i a o q1 q2
    cases o with
    | lst ds =>
      obtain ⟨xs, q3, q4⟩ := q
      exact ⟨xs, q3, q4.less k⟩
    | dct ds =>
      obtain ⟨xs, q3, qk, q4⟩ := q
      exact ⟨xs, q3, qk, q4.less k⟩⟩
theorem Ext.none_of (e : Ext F am H F1 am1 H1) (s : Sto c F am H h) (s1 : Sto c F1 am1 H1 h') (n : H1 p = none) : H p = none := by
  cases q : H p with
  | none => rfl
  | some o =>
    by_cases hm : p ∈ am
    · obtain ⟨t, e1⟩ := e.pre
      obtain ⟨u, q'⟩ := s1.ok p (s1.inF p (by rw [e1]; exact List.mem_append_left _ hm))
      rw [n] at q'; cases q'
    · have := e.keep p o q hm
      rw [n] at this; cases this
theorem SatL.bind {α : Type} {r : R α} {f : α → Hs → R (List D)} (rs : Sto z.rc F am H h) (q : SatL z σ0 F am H (r.bind f) Q) : SatR z σ0 F am H r (fun a h1 F1 am1 H1 => SatL z σ0 F1 am1 H1 (f a h1) Q) := by
  cases r with
  | ok a h1 =>
    intro F1 am1 H1 e1 s1
    have q : SatL z σ0 F am H (f a h1) Q := q
    show SatL z σ0 F1 am1 H1 (f a h1) Q
    generalize f a h1 = r2 at q ⊢
    cases r2 with
    | ok ds h2 => exact fun F2 am2 H2 p vs e2 s2 hp k fp np hn => q F2 am2 H2 p vs (e1.trans e2 rs.inF) s2 hp k fp np (e1.none_of rs s1 hn)
    | exc c v h => exact excW.ext e1 rs.inF q
    | bad => exact q
  | exc c v h => exact q
  | bad => exact q
/-- the new list that no one changes -/
theorem il_of {r : R (List D)} (rs : Sto z.rc F am H h) (q : SatR z σ0 F am H (r.bind fun xs h1 => .ok (.lst xs) h1) (PostD z Q)) : SatL z σ0 F am H r Q := by
  cases r with
  | ok ds h1 =>
    intro F2 am2 H2 p vs e2 s2 hp k fp np hn
    have f1 : ¬ F p := fun q => by
      obtain ⟨o, e⟩ := rs.ok p q
      rw [hn] at e; cases e
    have e3 : Ext F am H (fun a => F2 a ∧ a ≠ p) am2 H2 := ⟨e2.pre, e2.keep, fun a o q n m => e2.fr a o q n m.1, fun a q => ⟨e2.up a q, fun e => f1 (e ▸ q)⟩, e2.nw⟩
    have i3 : ∀ a ∈ am2, F2 a ∧ a ≠ p := fun a hm => ⟨s2.inF a hm, fun e => np (e ▸ hm)⟩
    exact q _ am2 H2 e3 (s2.less (fun a m => m.1) i3) (.ref p) (.lst hp (fun m => m.2 rfl) (k.less fun a m => m.1))
  | exc c v h => exact q
  | bad => exact q
mutual
theorem RD.more (t : List Addr) : ∀ {d : D} {v : V}, RD c F am H d v → RD c F (am ++ t) H d v
  | _, _, .non => .non
  | _, _, .bl b => .bl b
  | _, _, .int b => .int b
  | _, _, .str b => .str b
  | _, _, .tup r n l => .tup r n (RDs.more t l)
  | _, _, .lst r n l => .lst r n (RDs.more t l)
  | _, _, .scr r n l => .scr r n (RDs.more t l)
  | _, _, .scrK r l => .scrK r (RDs.more t l)
  | _, _, .ref q => .ref (by rw [List.getElem?_append_left (List.getElem?_eq_some_iff.mp q).1]; exact q)
  | _, _, .fn q => .fn q
  | _, _, .exc a b c n => .exc a b c n
theorem RDs.more (t : List Addr) : ∀ {ds : List D} {vs : List V}, RDs c F am H ds vs → RDs c F (am ++ t) H ds vs
  | _, _, .nil => .nil
  | _, _, .cons r l => .cons (RD.more t r) (RDs.more t l)
end
theorem Sto.more (s : Sto c F am H h) (hp : H p = some (.lst vs)) (k : RDs c F am H ds vs) (fp : F p) (np : p ∉ am) : Sto c F (am ++ [p]) H (h ++ [.lst ds]) := by
  refine ⟨?_, by simp [s.len], fun a hm => ?_, s.ok, fun i a o q1 q2 => ?_⟩
  · rw [List.nodup_append]
    exact ⟨s.nd, by simp, fun a hm b hb => by rw [List.mem_singleton.mp hb]; exact fun e => np (e ▸ hm)⟩
  · rcases List.mem_append.mp hm with m | m
    · exact s.inF a m
    · rw [List.mem_singleton.mp m]; exact fp
  · by_cases hi : i < am.length
    · rw [List.getElem?_append_left hi] at q1
      rw [List.getElem?_append_left (s.len ▸ hi)] at q2
      have q := s.obj i a o q1 q2
      cases o with
      | lst es =>
        obtain ⟨xs, q3, q4⟩ := q
        exact ⟨xs, q3, q4.more _⟩
      | dct es =>
        obtain ⟨xs, q3, qk, q4⟩ := q
        exact ⟨xs, q3, qk, q4.more _⟩
    · have e : i = am.length := by
        have := (List.getElem?_eq_some_iff.mp q1).1
        simp at this; omega
      subst e
      rw [List.getElem?_append_right (Nat.le_refl _), Nat.sub_self] at q1
      rw [s.len, List.getElem?_append_right (Nat.le_refl _), Nat.sub_self] at q2
      simp at q1 q2
      subst q1 q2
      exact ⟨vs, hp, k.more _⟩
/-- the new list as a changing one -/
theorem ml_of {r : R (List D)} (rs : Sto z.rc F am H h) (q : SatR z σ0 F am H (r.bind fun xs h1 => .ok (.ref h1.length) (h1 ++ [.lst xs])) (PostD z Q)) : SatL z σ0 F am H r Q := by
  cases r with
  | ok ds h1 =>
    intro F2 am2 H2 p vs e2 s2 hp k fp np hn
    obtain ⟨t, et⟩ := e2.pre
    have e3 : Ext F am H F2 (am2 ++ [p]) H2 := ⟨⟨t ++ [p], by rw [et, List.append_assoc]⟩, e2.keep, e2.fr, e2.up, fun a hm n => by
      rcases List.mem_append.mp hm with m | m
      · exact e2.nw a m n
      · rw [List.mem_singleton.mp m]; exact hn⟩
    refine q F2 _ H2 e3 (s2.more hp k fp np) (.ref p) (.ref ?_)
    rw [← s2.len, List.getElem?_append_right (Nat.le_refl _), Nat.sub_self]; rfl
  | exc c v h => exact q
  | bad => exact q
end
theorem e_il {l : L} {x : Expr} (h : PE X x (tL z l)) : PE X x (tE z (.il l)) := h.imp fun σ H Q ⟨S, F, am, hs, r, q⟩ => ⟨S, F, am, hs, r, il_of r.sto (by simpa only [ev] using q)⟩
theorem e_ml {l : L} {x : Expr} (h : PE X x (tL z l)) : PE X x (tE z (.ml l)) := h.imp fun σ H Q ⟨S, F, am, hs, r, q⟩ => ⟨S, F, am, hs, r, ml_of r.sto (by simpa only [ev] using q)⟩
/-- a new list, guarded -/
theorem Sto.guard {F : Addr → Prop} {am : List Addr} {H : Hp} {c : Rc} {h : Hs} {p : Addr} (s1 : Sto c F am H h) (hp : H p = none) (vs : List V) : Ext F am H (fun a => F a ∨ a = p) am (upd H p (.lst vs)) ∧ Sto c (fun a => F a ∨ a = p) am (upd H p (.lst vs)) h ∧ p ∉ am := by
  have n2 : ¬ F p := fun q => by
    obtain ⟨o, e⟩ := s1.ok p q
    rw [hp] at e; cases e
  have e3 : Ext F am H (fun a => F a ∨ a = p) am (upd H p (.lst vs)) := ⟨⟨[], by simp⟩, fun a u q _ => by rw [upd_ne (ne_of_none q hp)]; exact q, fun a o q n m => m.elim n (fun e => by rw [e, hp] at q; cases q), fun a q => Or.inl q, fun _ a b => absurd a b⟩
  refine ⟨e3, ⟨s1.nd, s1.len, fun a hm => .inl (s1.inF a hm), fun a q => ?_, fun i a o q1 q2 => ?_⟩, fun hm => n2 (s1.inF p hm)⟩
  · rcases q with q | q
    · obtain ⟨u, q'⟩ := s1.ok a q
      exact ⟨u, by rw [upd_ne (ne_of_none q' hp)]; exact q'⟩
    · exact ⟨_, by rw [q]; exact upd_same⟩
  · have q := s1.obj i a o q1 q2
    cases o with
    | lst ds =>
      obtain ⟨xs, q3, q4⟩ := q
      exact ⟨xs, by rw [upd_ne (ne_of_none q3 hp)]; exact q3, q4.ext e3 s1.inF⟩
    | dct ds =>
      obtain ⟨xs, q3, qk, q4⟩ := q
      exact ⟨xs, by rw [upd_ne (ne_of_none q3 hp)]; exact q3, qk, q4.ext e3 s1.inF⟩
theorem l_disp {es : Es} {xs : List Expr} {p : Pos} (h : PA X xs (tEs z es)) : PE X (.List xs p) (tL z (.disp es)) :=
  (pe_lst h).imp fun σ H Q ⟨S, F, am, hs, r, q⟩ => by
    simp only [evL] at q
    refine ⟨S, F, am, hs, r, (SatL.bind r.sto q).mono fun ds h1 F1 am1 H1 _ e1 s1 q1 vs k => ?_⟩
    split at q1
    · rename_i c
      refine ⟨by rw [← k.length]; exact okL_le c, fun p hp => ?_⟩
      obtain ⟨e3, s3, np⟩ := s1.guard hp vs
      exact q1 _ _ _ p vs e3 s3 upd_same (k.ext e3 s1.inF) (.inr rfl) np hp
    · exact q1.elim
theorem e_tup {es : Es} {xs : List Expr} {k : Nat} {p : Pos} (h : PA X xs (tEs z es)) : PE X (.Tuple xs k p) (tE z (.tup es)) :=
  (pe_tup h).imp fun σ H Q ⟨S, F, am, hs, r, q⟩ => by
    simp only [ev] at q
    refine ⟨S, F, am, hs, r, q.bind r.sto.inF fun ds h1 F1 am1 H1 _ e1 s1 q1 vs k => ?_⟩
    split at q1
    · rename_i c
      exact ⟨by rw [← k.length]; exact okL_le c, fun p hp => PostD.tup q1 s1 k hp⟩
    · exact q1.elim
theorem e_cmp2 {o o' : CmpOp} {a b c : E} {x y w : Expr} {p : Pos} (ok : Ok z X N G sc hot) (hw : noSet w = true) (ha : PE X x (tE z a)) (hb : PE X y (tE z b)) (hc : PE X w (tE z c)) : PE X (.Compare x [o, o'] [y, w] p) (tE z (.cmp2 o o' a b c)) :=
  (pe_chain (cmp_ok ok.hK ok.un o) (cmp_ok ok.hK ok.un o') ha hb hc (mark_ok hw)).imp fun σ H Q ⟨S, F, am, hs, r, q⟩ => two r (by simpa only [ev] using q) fun d e v u F am H h r1 r2 r3 q1 => by
    have k1 := rd_rel r1.sto r2
    have k2 := rd_rel r1.sto r3
    cases e1 : cmpD o (rd h d) (rd h e) with
    | none => rw [e1] at q1; exact q1.elim
    | some k =>
      rw [e1] at q1
      refine ⟨σ, F, am, h, _, _, r1.sto, k1, k2, ?_⟩
      rw [e1]
      intro F' am' H' ex st w' rw'
      cases rw'
      refine ⟨k, rfl, ?_⟩
      have q2 := SatR.ext ex r1.sto.inF q1
      cases k with
      | true =>
        refine ⟨S, F', am', h, r1.to ex st, q2.bind st.inF fun f h2 F2 am2 H2 _ ex2 st2 q3 w2 rw2 => ?_⟩
        exact ⟨σ, F2, am2, h2, _, _, st2, rd_rel st2 ((r3.ext ex r1.sto.inF).ext ex2 st.inF), rd_rel st2 rw2, q3⟩
      | false => exact PostD.at q2 st (.bl false)
theorem slice_ok {b : Expr} (h : noSlice b = true) : PlainIx b := by
  intro o i
  cases b <;> first | rfl | cases h
theorem e_ix {a b : E} {x y : Expr} {p : Pos} (ok : Ok z X N G sc hot) (hy : noSlice y = true) (ha : PE X x (tE z a)) (hb : PE X y (tE z b)) : PE X (.Subscript x y p) (tE z (.ix a b)) :=
  (pe_ix (ixH_ok ok.hK ok.un) ha hb (slice_ok hy)).imp fun σ H Q ⟨S, F, am, hs, r, q⟩ => two r (by simpa only [ev] using q) fun d e v u F am H h r1 r2 r3 q1 => ⟨σ, F, am, h, _, _, r1.sto, r2, r3, q1⟩
theorem o_none {S : Sl} {F : Addr → Prop} {am : List Addr} {H : Hp} {hs : Hs} {σ : SV} {P : Option Int → Hs → (Addr → Prop) → List Addr → Hp → Prop} {e : E} (h : e.isOmit = true) (r : Rel z.rc F am H hs S σ)
    (q : SatR z σ F am H (if e.isOmit then (.ok none hs : R (Option Int)) else optI (ev z.sub z.call e S hs)) P) : P none hs F am H := by
  rw [if_pos h] at q
  exact SatR.now q r.sto
theorem o_some {S : Sl} {F : Addr → Prop} {am : List Addr} {H : Hp} {hs : Hs} {σ : SV} {P : Option Int → Hs → (Addr → Prop) → List Addr → Hp → Prop} {e : E} (h : e.isOmit = false) (r : Rel z.rc F am H hs S σ)
    (q : SatR z σ F am H (if e.isOmit then (.ok none hs : R (Option Int)) else optI (ev z.sub z.call e S hs)) P) {Q : Option Int → Hp → Prop} (k : ∀ i h1 F1 am1 H1, Ext F am H F1 am1 H1 → Sto z.rc F1 am1 H1 h1 → P (some i) h1 F1 am1 H1 → Q (some i) H1) : tPart (tE z e) σ H Q := by
  rw [if_neg (by rw [h]; exact Bool.false_ne_true)] at q
  refine ⟨S, F, am, hs, r, SatR.bind (r := ev z.sub z.call e S hs) r.sto.inF q fun d h1 F1 am1 H1 _ e1 s1 q1 v rv => ?_⟩
  cases d <;> first | exact q1.elim | skip
  cases rv
  exact ⟨_, rfl, k _ _ _ _ _ e1 s1 (SatR.now q1 s1)⟩
theorem e_sl {a lo hi : E} {x : Expr} {l u : Option Expr} {p p2 : Pos} (ok : Ok z X N G sc hot) (ha : PE X x (tE z a))
    (hl : (l = none ∧ lo.isOmit = true) ∨ ∃ y, l = some y ∧ lo.isOmit = false ∧ PE X y (tE z lo)) (hu : (u = none ∧ hi.isOmit = true) ∨ ∃ y, u = some y ∧ hi.isOmit = false ∧ PE X y (tE z hi)) :
    PE X (.Subscript x (.Slice l u none p2) p) (tE z (.sl a lo hi)) := by
  have pl : ∃ tl, PO X l tl ∧ ∀ {S F am H hs σ P} {Q : Option Int → Hp → Prop}, Rel z.rc F am H hs S σ → SatR z σ F am H (if lo.isOmit then (.ok none hs : R (Option Int)) else optI (ev z.sub z.call lo S hs)) P →
      (∀ o h1 F1 am1 H1, Ext F am H F1 am1 H1 → Sto z.rc F1 am1 H1 h1 → P o h1 F1 am1 H1 → Q o H1) → tl σ H Q := by
    rcases hl with ⟨rfl, e⟩ | ⟨y, rfl, e, h⟩
    · exact ⟨_, po_none, fun {S F am H hs σ P Q} r q k => k none hs F am H .refl r.sto (o_none e r q)⟩
    · exact ⟨_, po_some h, fun {S F am H hs σ P Q} r q k => o_some e r q fun i h1 F1 am1 H1 => k (some i) h1 F1 am1 H1⟩
  have pu : ∃ tl, PO X u tl ∧ ∀ {S F am H hs σ P} {Q : Option Int → Hp → Prop}, Rel z.rc F am H hs S σ → SatR z σ F am H (if hi.isOmit then (.ok none hs : R (Option Int)) else optI (ev z.sub z.call hi S hs)) P →
      (∀ o h1 F1 am1 H1, Ext F am H F1 am1 H1 → Sto z.rc F1 am1 H1 h1 → P o h1 F1 am1 H1 → Q o H1) → tl σ H Q := by
    rcases hu with ⟨rfl, e⟩ | ⟨y, rfl, e, h⟩
    · exact ⟨_, po_none, fun {S F am H hs σ P Q} r q k => k none hs F am H .refl r.sto (o_none e r q)⟩
    · exact ⟨_, po_some h, fun {S F am H hs σ P Q} r q k => o_some e r q fun i h1 F1 am1 H1 => k (some i) h1 F1 am1 H1⟩
  obtain ⟨tl, hl, kl⟩ := pl
  obtain ⟨tu, hu, ku⟩ := pu
  refine (pe_slice (sl_ok ok.hK) ha hl hu).imp fun σ H Q ⟨S, F, am, hs, r, q⟩ => ?_
  simp only [ev] at q
  refine ⟨S, F, am, hs, r, q.bind r.sto.inF fun d h1 F1 am1 H1 _ e1 s1 q1 v rv => ?_⟩
  have r1 := r.to e1 s1
  refine kl (P := fun i h2 F2 am2 H2 => Ext F1 am1 H1 F2 am2 H2 ∧ Sto z.rc F2 am2 H2 h2 ∧ SatR z σ F2 am2 H2 ((if hi.isOmit then (.ok none h2 : R (Option Int)) else optI (ev z.sub z.call hi S h2)).bind fun j h3 => liftO (slD (rd h3 d) i j) h3) (PostD z Q)) r1
    (q1.bind s1.inF fun i h2 F2 am2 H2 _ e2 s2 q2 => ⟨e2, s2, q2⟩) fun i h2 F2 am2 H2 _ _ ⟨e2, s2, q2⟩ => ?_
  refine ku (P := fun j h3 F3 am3 H3 => Ext F2 am2 H2 F3 am3 H3 ∧ Sto z.rc F3 am3 H3 h3 ∧ SatR z σ F3 am3 H3 (liftO (slD (rd h3 d) i j) h3) (PostD z Q)) (r1.to e2 s2)
    (q2.bind s2.inF fun i h2 F2 am2 H2 _ e2 s2 q2 => ⟨e2, s2, q2⟩) fun j h3 F3 am3 H3 _ _ ⟨e3, s3, q3⟩ => ?_
  exact ⟨σ, F3, am3, h3, d |> rd h3, s3, rd_rel s3 ((rv.ext e2 s1.inF).ext e3 s2.inF), q3⟩
/-! ### calls -/
theorem fin_to {E : XK} {σ : SV} {F : Addr → Prop} {am : List Addr} {H : Hp} {r : R D} {Q : VK} (q : SatR z σ F am H r (PostD z Q)) (hE : ∀ c d H', z.W c d σ H' → E c d H') : SatR (z.to E) [] F am H r (PostD (z.to E) Q) := by
  cases r with
  | ok d h => exact q
  | exc c v h => exact fun F' am' H' C dd w e s h1 h2 h3 h4 => hE _ _ _ (q F' am' H' C dd w e s h1 h2 h3 h4)
  | bad => exact q
theorem e_call {f : Nat} {es : Es} {y : Str} {x : Expr} {xs : List Expr} {p p2 : Pos} (ok : Ok z X N G sc false) (hg : gl sc y = true) (hf : isFn G y f = true) (hs : (x :: xs).all noStar = true) (h : PA X (x :: xs) (tEs z es)) :
    PE X (.Call (.Name y p) (x :: xs) [] p2) (tE z (.call f es)) := by
  obtain ⟨g1, g2, g3⟩ := gl_ok ok hg
  obtain ⟨a, c1, c2⟩ := fn_at ok hf
  obtain ⟨gd, cf⟩ := (ok.cf rfl).2
  obtain ⟨hk, fd, ps, k, FO, hr, hb, _⟩ := cf f a c1
  simp only [List.all_cons, Bool.and_eq_true] at hs
  refine (pe_callG (E := WE z.W) FO hr gd g1 c2 hk hb (fun σ => L2N.passAt ok.tk σ) h g2 (star_ok hs.1) (plain_ok hs.2)).imp fun σ H Q ⟨S, F, am, hs, r, q⟩ => ?_
  simp only [ev] at q
  refine ⟨S, F, am, hs, r, q.bind r.sto.inF fun ds h1 F1 am1 H1 _ e1 s1 q1 vs k => ?_⟩
  exact ⟨F1, am1, h1, ds, s1, k, fin_to q1 fun _ _ _ w => w⟩
end
end Ci

set_option Elab.async false
set_option linter.all false
set_option maxRecDepth 100000
set_option maxHeartbeats 4000000
namespace Ci
open PySem PySem.Spec PyProof.Rows L2
/-! ### a def called with data alone -/
section
variable {c : Rc} {F F0 F1 : Addr → Prop} {am am0 am1 : List Addr} {H H1 : Hp} {g : Hs}
mutual
theorem RD.clr (k : ∀ a, F0 a → F a) : ∀ {d : D} {v : V}, RD c F am H d v → d.clear = true → RD c F0 am0 H d v
  | _, _, .non, _ => .non
  | _, _, .bl b, _ => .bl b
  | _, _, .int b, _ => .int b
  | _, _, .str b, _ => .str b
  | _, _, .tup r n l, h => .tup r (fun q => n (k _ q)) (RDs.clr k l (by simpa only [D.clear] using h))
  | _, _, .lst r n l, h => .lst r (fun q => n (k _ q)) (RDs.clr k l (by simpa only [D.clear] using h))
  | _, _, .scr _ _ _, h => by simp [D.clear] at h
  | _, _, .scrK _ _, h => by simp [D.clear] at h
  | _, _, .ref _, h => by simp [D.clear] at h
  | _, _, .fn q, _ => .fn q
  | _, _, .exc _ _ _ _, h => by simp [D.clear] at h
theorem RDs.clr (k : ∀ a, F0 a → F a) : ∀ {ds : List D} {vs : List V}, RDs c F am H ds vs → D.clears ds = true → RDs c F0 am0 H ds vs
  | _, _, .nil, _ => .nil
  | _, _, .cons r l, h => by
    simp only [D.clears, Bool.and_eq_true] at h
    exact .cons (RD.clr k r h.1) (RDs.clr k l h.2)
end
theorem RDs.thawed {f : D → D} (k : ∀ d v, RD c F am H d v → (f d).clear = true → RD c F0 am0 H (f d) v) : ∀ {ds : List D} {vs : List V}, RDs c F am H ds vs → D.clears (ds.map f) = true → RDs c F0 am0 H (ds.map f) vs
  | _, _, .nil, _ => .nil
  | _, _, .cons r l, h => by
    simp only [List.map_cons, D.clears, Bool.and_eq_true] at h
    exact .cons (k _ _ r h.1) (RDs.thawed k l h.2)
/-- what a def hands back, its own changing lists as they are -/
theorem thaw_rel (s : Sto c F1 am1 H g) (k : ∀ a, F0 a → F1 a) (n : ∀ a ∈ am1, ¬ F0 a) : ∀ (m : Nat) (d : D) (v : V), RD c F1 am1 H d v → (thaw g m d).clear = true → RD c F0 am0 H (thaw g m d) v
  | 0, d, v, r, h => by
    rw [show thaw g 0 d = d by cases d <;> rfl] at h ⊢
    exact r.clr k h
  | m + 1, d, v, r, h => by
    have q := rd_rel s r
    have e0 : thaw g (m + 1) d = (match rd g d with | .tup xs => .tup (xs.map (thaw g m)) | .lst xs => .lst (xs.map (thaw g m)) | e => e) := by cases d <;> rfl
    rw [e0] at h ⊢
    generalize hd : rd g d = e at q h ⊢
    cases e with
    | tup xs =>
      obtain ⟨a, ws, rfl, e1, n1, k1⟩ := q.tuple
      exact .tup e1 (fun z => n1 (k _ z)) (k1.thawed (fun d v r h => thaw_rel s k n m d v r h) (by simpa only [D.clear] using h))
    | lst xs =>
      have h' : D.clears (xs.map (thaw g m)) = true := by simpa only [D.clear] using h
      cases q with
      | rd q =>
        cases q with
        | lst e1 n1 k1 => exact .lst e1 (fun z => n1 (k _ z)) (k1.thawed (fun d v r h => thaw_rel s k n m d v r h) h')
      | lst e1 k1 =>
        refine .lst e1 ?_ (k1.thawed (fun d v r h => thaw_rel s k n m d v r h) h')
        -- a changing list of the def's own
        cases d <;> simp only [rd, reduceCtorEq] at hd
        · cases r with | lst _ n1 _ => exact fun z => n1 (k _ z)
        · cases r with
          | ref q => exact n _ (List.mem_of_getElem? q)
    | _ => exact (show RD c F1 am1 H _ v from by cases q with | rd q => exact q).clr k h
end
section
variable {z : Si} {X : Cx} {N : List Str} {G : GT} {sc : Scope} {hot : Bool} {F : Addr → Prop} {am : List Addr} {H : Hp} {h : Hs}
/-- the promise, in a store of its own -/
theorem pcall_sp {f : Nat} {ds : List D} {vs : List V} {σ : SV} {Q : VK} {E : XK} (hE : ∀ c d H', z.W c d σ H' → E c d H') (s : Sto z.rc F am H h) (k : RDs z.rc F am H ds vs) (q : SatR z σ F am H (pcallF z.call f ds h) (PostD z Q)) : spF z f vs H Q E := by
  unfold pcallF at q
  split at q
  · rename_i hc
    refine ⟨F, [], [], ds, ⟨List.nodup_nil, rfl, (fun _ m => nomatch m), s.ok, (fun i a o e => by simp at e)⟩, k.clr (fun _ x => x) hc, ?_⟩
    have ext : ∀ {F1 am1 H1}, Ext F [] H F1 am1 H1 → Ext F am H F am H1 ∧ Sto z.rc F am H1 h := fun {F1 am1 H1} e => by
      have e' : Ext F am H F am H1 := ⟨⟨[], by simp⟩, fun a o q _ => e.keep a o q (by simp), fun _ _ _ n => n, fun _ x => x, fun _ a b => absurd a b⟩
      refine ⟨e', s.nd, s.len, s.inF, fun a q => ?_, fun i a o q1 q2 => ?_⟩
      · obtain ⟨o, q⟩ := s.ok a q
        exact ⟨o, e.keep a o q (by simp)⟩
      · have q := s.obj i a o q1 q2
        cases o with
        | lst es =>
          obtain ⟨xs, q3, q4⟩ := q
          exact ⟨xs, e.keep a _ q3 (by simp), q4.ext e' s.inF⟩
        | dct es =>
          obtain ⟨xs, q3, qk, q4⟩ := q
          exact ⟨xs, e.keep a _ q3 (by simp), qk, q4.ext e' s.inF⟩
    split at q
    · rename_i d g hcall
      rw [hcall]
      intro F1 am1 H1 e1 s1 v rv
      obtain ⟨e2, s2⟩ := ext e1
      simp only at q
      split at q
      · rename_i hcl
        refine q F am H1 e2 s2 v ?_
        refine thaw_rel s1 (fun a x => e1.up a x) (fun a m x => ?_) 6 d v rv hcl
        obtain ⟨o, q'⟩ := s.ok a x
        have := e1.nw a m (by simp)
        rw [q'] at this; cases this
      · exact q.elim
    · rename_i c v g hcall
      rw [hcall]
      split at q
      · rename_i hs
        intro F1 am1 H1 C dd w e1 s1 h1 h2 h3 h4
        obtain ⟨e2, s2⟩ := ext e1
        exact hE _ _ _ (q F am H1 C dd w e2 s2 h1 h2 h3 fun x => h4 (e1.up _ x))
      · exact q.elim
    · exact q.elim
  · exact q.elim
theorem e_pcall {f : Nat} {es : Es} {y : Str} {x : Expr} {xs : List Expr} {p p2 : Pos} (ok : Ok z X N G sc false) (hg : gl sc y = true) (hf : isFn G y f = true) (hs : (x :: xs).all noStar = true) (h : PA X (x :: xs) (tEs z es)) :
    PE X (.Call (.Name y p) (x :: xs) [] p2) (tE z (.pcall f es)) := by
  obtain ⟨g1, g2, g3⟩ := gl_ok ok hg
  obtain ⟨a, c1, c2⟩ := fn_at ok hf
  obtain ⟨gd, cf⟩ := (ok.cf rfl).2
  obtain ⟨hk, fd, ps, k, FO, hr, hb, _⟩ := cf f a c1
  simp only [List.all_cons, Bool.and_eq_true] at hs
  refine (pe_callG (E := WE z.W) FO hr gd g1 c2 hk hb (fun σ => L2N.passAt ok.tk σ) h g2 (star_ok hs.1) (plain_ok hs.2)).imp fun σ H Q ⟨S, F, am, hs, r, q⟩ => ?_
  simp only [ev] at q
  exact ⟨S, F, am, hs, r, q.bind r.sto.inF fun ds h1 F1 am1 H1 _ e1 s1 q1 vs k => pcall_sp (fun _ _ _ w => w) s1 k q1⟩
theorem e_pcallD {f : Nat} {es : Es} {d : D} {y : Str} {x : Expr} {xs : List Expr} {p p2 : Pos} (ok : Ok z X N G sc false) (hg : gl sc y = true) (hf : isFnD G y f d = true) (hs : (x :: xs).all noStar = true) (h : PA X (x :: xs) (tEs z es)) :
    PE X (.Call (.Name y p) (x :: xs) [] p2) (tE z (.pcallD f es d)) := by
  obtain ⟨g1, g2, g3⟩ := gl_ok ok hg
  obtain ⟨⟨a, c1, c2⟩, hd⟩ := fnD_at ok hf
  obtain ⟨gd, cf⟩ := (ok.cf rfl).2
  obtain ⟨hk, fd, ps, k, FO, hr, _, hb2⟩ := cf f a c1
  obtain ⟨w, dv, e1, e2, hb⟩ := hb2 d hd
  simp only [List.all_cons, Bool.and_eq_true] at hs
  refine (pe_callGD (E := WE z.W) FO hr gd g1 c2 hk hb e2 (fun σ => L2N.passAt ok.tk σ) h g2 (star_ok hs.1) (plain_ok hs.2)).imp fun σ H Q ⟨S, F, am, hs, r, q⟩ => ?_
  simp only [ev] at q
  exact ⟨S, F, am, hs, r, q.bind r.sto.inF fun ds h1 F1 am1 H1 _ ex s1 q1 vs k => pcall_sp (fun _ _ _ w => w) s1 (k.append (.cons (sc_RD e1) .nil)) q1⟩
/-- a def that a name of the def's own holds -/
theorem e_vc {f : Nat → List D → Hs → R D} {i : Nat} {es : Es} {e : E} {y : Str} {x : Expr} {xs : List Expr} {p p2 : Pos} (ok : Ok z X N G sc false) (hi : N[i]? = some y) (hv : vis sc y = true) (hs : (x :: xs).all noStar = true) (h : PA X (x :: xs) (tEs z es))
    (he : ∀ S hs, ev z.sub z.call e S hs = match S[i]? with | some (some (.fn g)) => (evs z.sub z.call es S hs).bind fun ds h1 => f g ds h1 | _ => .bad)
    (hf : ∀ {g : Nat} {σ : SV} {F am H h ds vs Q}, Sto z.rc F am H h → RDs z.rc F am H ds vs → SatR z σ F am H (f g ds h) (PostD z Q) → spF z g vs H Q (WE z.W σ)) :
    PE X (.Call (.Name y p) (x :: xs) [] p2) (tE z e) := by
  obtain ⟨v1, v2, v3⟩ := vis_ok ok hv
  simp only [List.all_cons, Bool.and_eq_true] at hs
  refine ⟨fun pins s σ H Q I ⟨S, F, am, hs0, r, q⟩ => ?_⟩
  rw [he] at q
  cases e1 : S[i]? with
  | none => rw [e1] at q; exact q.elim
  | some o =>
    rw [e1] at q
    cases o with
    | none => exact q.elim
    | some d =>
      cases d <;> first | exact q.elim | skip
      rename_i g
      obtain ⟨v, k1, k2⟩ := r.sl i _ e1
      cases k2 with
      | fn c1 =>
        rename_i a
        obtain ⟨gd, cf⟩ := (ok.cf rfl).2
        obtain ⟨hk, fd, ps, k, FO, hr, hb, _⟩ := cf g a c1
        refine wpAny_Call_Name_kw (thn ((pe_var (i := i) (pos := p) (by rw [ok.hN]; exact hi) v1 v2 v3).run pins s σ H (fun v H1 => v = .ref a ∧ H1 = H) I ⟨_, k1, rfl, rfl⟩) fun u s1 ⟨v, H1, I1, r1, q1⟩ => ?_)
        obtain ⟨rfl, rfl⟩ := q1
        cases r1
        refine PySem.W.callWith_K (h₀ := X.base) I.ok.mod.kin hk (thn (h.run p2 pins s1 σ _ (fun vs H2 => spF z g vs H2 Q (WE z.W σ)) I1 ⟨S, F, am, hs0, r, q.bind r.sto.inF fun ds h1 F1 am1 H1 _ e1 s1 q1 vs k => hf s1 k q1⟩) fun us s2 ⟨vs, H2, I2, r2, q2⟩ => ⟨I2.kIn, ?_⟩) (star_ok hs.1) (plain_ok hs.2)
        exact run_fnG (E := WE z.W) FO hr gd hb (L2N.passAt ok.tk σ) I2 r2 q2
theorem e_vcall {i : Nat} {es : Es} {y : Str} {x : Expr} {xs : List Expr} {p p2 : Pos} (ok : Ok z X N G sc false) (hi : N[i]? = some y) (hv : vis sc y = true) (hs : (x :: xs).all noStar = true) (h : PA X (x :: xs) (tEs z es)) :
    PE X (.Call (.Name y p) (x :: xs) [] p2) (tE z (.vcall i es)) :=
  e_vc (f := z.call) ok hi hv hs h (fun S hs => by simp only [ev] <;> (cases S[i]? with | none => rfl | some o => cases o with | none => rfl | some d => cases d <;> rfl)) fun {g σ F am H h ds vs Q} s k q => ⟨F, am, h, ds, s, k, fin_to q fun _ _ _ w => w⟩
theorem e_pvcall {i : Nat} {es : Es} {y : Str} {x : Expr} {xs : List Expr} {p p2 : Pos} (ok : Ok z X N G sc false) (hi : N[i]? = some y) (hv : vis sc y = true) (hs : (x :: xs).all noStar = true) (h : PA X (x :: xs) (tEs z es)) :
    PE X (.Call (.Name y p) (x :: xs) [] p2) (tE z (.pvcall i es)) :=
  e_vc (f := pcallF z.call) ok hi hv hs h (fun S hs => by simp only [ev] <;> (cases S[i]? with | none => rfl | some o => cases o with | none => rfl | some d => cases d <;> rfl)) fun {g σ F am H h ds vs Q} s k q => pcall_sp (fun _ _ _ w => w) s k q
/-! ### built-ins -/
theorem e_isI {a : E} {t : Ty} {x : Expr} {y u : Str} {p p2 p3 : Pos} (ok : Ok z X N G sc hot) (hg : gl sc y = true) (hb : isBi G y "isinstance" = true) (hu : gl sc u = true) (ht : isTy G u t.name = true) (hs : noStar x = true) (ha : PE X x (tE z a)) :
    PE X (.Call (.Name y p) [x, .Name u p2] [] p3) (tE z (.isI a t)) := by
  obtain ⟨g1, g2, g3⟩ := gl_ok ok hg
  obtain ⟨u1, u2, u3⟩ := gl_ok ok hu
  obtain ⟨b1, b2⟩ := bi_at ok hb
  obtain ⟨t1, t2⟩ := ty_at ok ht
  have pt : PE X (.Name u p2) (tC (.ty t.name)) := pe_bltn u1 t1 t2 rfl u3 u2
  refine (pe_callB (isi_ok (z := z) t) g1 b1 b2 (pa_cons ha (pa_cons pt pa_nil) (star_ok hs)) g3 g2 (star_ok hs)).imp fun σ H Q ⟨S, F, am, hs, r, q⟩ => ?_
  simp only [ev] at q
  exact ⟨S, F, am, hs, r, q.bind r.sto.inF fun d h1 F1 am1 H1 _ e1 s1 q1 v rv => ⟨v, σ, F1, am1, h1, _, rfl, s1, rd_rel s1 rv, q1⟩⟩
theorem e_blt {b : Bl} {es : Es} {y : Str} {x : Expr} {xs : List Expr} {p p2 : Pos} (ok : Ok z X N G sc hot) (hc : (!hot || !b.calm) = true) (hg : gl sc y = true) (hb : isVal G y b.val = true) (hs : (x :: xs).all noStar = true) (h : PA X (x :: xs) (tEs z es)) :
    PE X (.Call (.Name y p) (x :: xs) [] p2) (tE z (.blt b es)) := by
  obtain ⟨g1, g2, g3⟩ := gl_ok ok hg
  have cc : b.calm = true → X.calm = true := fun e => ok.calm (by rw [e] at hc; simpa using hc)
  simp only [List.all_cons, Bool.and_eq_true] at hs
  have hr := blt_ok (X := X) (z := z) ok.hrK ok.un b cc fun e => (ok.cf (by rw [e] at hc; simpa using hc)).2.1
  have key : ∀ {σ : SV} {H : Hp} {Q : VK}, tE z (.blt b es) σ H Q → tCB (rBl z b) (tEs z es) σ H Q := fun {σ H Q} ⟨S, F, am, hs, r, q⟩ => by
    simp only [ev] at q
    exact ⟨S, F, am, hs, r, q.bind r.sto.inF fun ds h1 F1 am1 H1 _ e1 s1 q1 vs k => ⟨σ, F1, am1, h1, ds, s1, k, q1⟩⟩
  have hv : (∃ id, b.val = .builtin id) ∨ ∃ n, b.val = .type n := by cases b <;> first | exact .inl ⟨_, rfl⟩ | exact .inr ⟨_, rfl⟩
  rcases hv with ⟨id, e⟩ | ⟨n, e⟩
  · rw [e] at hb hr
    obtain ⟨b1, b2⟩ := bi_at ok hb
    exact (pe_callB hr g1 b1 b2 h g3 g2 (star_ok hs.1) (plain_ok hs.2)).imp fun σ H Q q => key q
  · rw [e] at hb hr
    obtain ⟨b1, b2⟩ := ty_at ok hb
    exact (pe_callTy hr g1 b1 b2 h g3 g2 (star_ok hs.1) (plain_ok hs.2)).imp fun σ H Q q => key q
end
end Ci

set_option Elab.async false
set_option linter.all false
set_option maxRecDepth 100000
set_option maxHeartbeats 4000000
namespace Ci
open PySem PySem.Spec PyProof.Rows L2
section
variable {z : Si} {X : Cx} {N : List Str} {G : GT} {sc : Scope} {hot : Bool}
/-! ### targets -/
theorem wipe_len (S : Sl) : ∀ vs : List Nat, (wipe S vs).length = S.length
  | [] => rfl
  | v :: vs => by unfold wipe; rw [List.length_set, wipe_len S vs]
theorem wipe_at (σ : SV) {i : Nat} {x : Option V} : ∀ {vs : List Nat}, i ∈ vs → L2.wipe (σ.set i x) vs = L2.wipe σ vs
  | [], h => nomatch h
  | v :: vs, h => by
    unfold L2.wipe
    by_cases hm : i ∈ vs
    · rw [wipe_at σ hm]
    · have e : i = v := (List.mem_cons.mp h).resolve_right hm
      subst e
      have key : ∀ ws : List Nat, i ∉ ws → L2.wipe (σ.set i x) ws = (L2.wipe σ ws).set i x := by
        intro ws
        induction ws with
        | nil => intro _; rfl
        | cons w ws ih =>
          intro hn
          simp only [List.mem_cons, not_or] at hn
          show (L2.wipe (σ.set i x) ws).set w none = ((L2.wipe σ ws).set w none).set i x
          rw [ih hn.2, List.set_comm _ _ hn.1]
      rw [key vs hm, List.set_set]
theorem wipe_get {S : Sl} {i : Nat} {d : D} : ∀ {vs : List Nat}, (wipe S vs)[i]? = some (some d) → S[i]? = some (some d) ∧ i ∉ vs
  | [], h => ⟨h, by simp⟩
  | v :: vs, h => by
    unfold wipe at h
    by_cases hi : v = i
    · subst hi
      by_cases hv : v < (wipe S vs).length
      · rw [List.getElem?_set_self hv] at h; cases h
      · rw [List.getElem?_eq_none (by simpa using hv)] at h; cases h
    · rw [List.getElem?_set_ne hi] at h
      obtain ⟨h1, h2⟩ := wipe_get h
      exact ⟨h1, by simp only [List.mem_cons, not_or]; exact ⟨fun e => hi e.symm, h2⟩⟩
theorem wipe_keep {σ : SV} {i : Nat} : ∀ {vs : List Nat}, i ∉ vs → (L2.wipe σ vs)[i]? = σ[i]?
  | [], _ => rfl
  | v :: vs, h => by
    simp only [List.mem_cons, not_or] at h
    unfold L2.wipe
    rw [List.getElem?_set_ne (fun e => h.1 e.symm), wipe_keep h.2]
section
variable {c : Rc} {F : Addr → Prop} {am : List Addr} {H : Hp} {h : Hs} {S : Sl} {σ : SV}
theorem Rel.wiped (r : Rel c F am H h S σ) (vs : List Nat) : Rel c F am H h (wipe S vs) (L2.wipe σ vs) :=
  ⟨r.sto, by rw [wipe_len, L2.wipe_length, r.len], fun i d e => by
    obtain ⟨e1, e2⟩ := wipe_get e
    rw [wipe_keep e2]
    exact r.sl i d e1⟩
theorem Rel.set (r : Rel c F am H h S σ) {d : D} {v : V} (i : Nat) (k : RD c F am H d v) : Rel c F am H h (S.set i (some d)) (σ.set i (some v)) :=
  ⟨r.sto, by simp [r.len], fun j e q => by
    by_cases hj : i = j
    · subst hj
      by_cases hl : i < S.length
      · rw [List.getElem?_set_self hl] at q
        cases q
        exact ⟨v, List.getElem?_set_self (r.len ▸ hl), k⟩
      · rw [List.getElem?_eq_none (by simpa using hl)] at q; cases q
    · rw [List.getElem?_set_ne hj] at q
      rw [List.getElem?_set_ne hj]
      exact r.sl j e q⟩
theorem Rel.unset (r : Rel c F am H h S σ) (i : Nat) : Rel c F am H h (S.set i none) (σ.set i none) :=
  ⟨r.sto, by simp [r.len], fun j e q => by
    by_cases hj : i = j
    · subst hj
      by_cases hl : i < S.length
      · rw [List.getElem?_set_self hl] at q; cases q
      · rw [List.getElem?_eq_none (by simpa using hl)] at q; cases q
    · rw [List.getElem?_set_ne hj] at q
      rw [List.getElem?_set_ne hj]
      exact r.sl j e q⟩
end
def SameBut (ix : List Nat) (σ σ' : SV) : Prop := ∀ vs : List Nat, (∀ i ∈ ix, i ∈ vs) → L2.wipe σ' vs = L2.wipe σ vs
def tG (z : Si) (t : Tg) : TG := fun v σ H Q => ∃ S F am h d S', Rel z.rc F am H h S σ ∧ RD z.rc F am H d v ∧ put S d t = some S' ∧ ∀ σ', Rel z.rc F am H h S' σ' → SameBut (tgIx t) σ σ' → Q σ' H
def tGs (z : Si) (ts : Tgs) : TGs := fun vs σ H Q => ∃ S F am h ds S', Rel z.rc F am H h S σ ∧ RDs z.rc F am H ds vs ∧ puts S ds ts = some S' ∧ ∀ σ', Rel z.rc F am H h S' σ' → SameBut (tgsIx ts) σ σ' → Q σ' H
/-- what targets lean on -/
structure TOk (X : Cx) (N : List Str) (sc : Scope) (P : Nat → Prop) : Prop where
  hN : X.N = N
  nd : N.Nodup
  hsc : X.env.scope = sc
  calm : X.calm = true
  fnc : ∀ i x, P i → N[i]? = some x → sc.names.lookup x = some .cell → X.fn x = true
theorem _root_.L2.PG.imp {X : Cx} {e : Expr} {t t' : TG} (h : PG X e t) (k : ∀ v σ H Q, t' v σ H Q → t v σ H Q) : PG X e t' := ⟨fun pins s σ H v u Q I r q => h.run pins s σ H v u Q I r (k v σ H Q q)⟩
theorem _root_.L2.PGs.imp {X : Cx} {e : List Expr} {t t' : TGs} (h : PGs X e t) (k : ∀ v σ H Q, t' v σ H Q → t v σ H Q) : PGs X e t' := ⟨fun pins s σ H v u Q I r q => h.run pins s σ H v u Q I r (k v σ H Q q)⟩
theorem bindS {o : Option Sl} {f : Sl → Option Sl} {S' : Sl} (h : o.bind f = some S') : ∃ S1, o = some S1 ∧ f S1 = some S' := by
  cases o with
  | none => cases h
  | some S1 => exact ⟨S1, rfl, h⟩
theorem tg_one (env : Env) {t : Tg} {x : Expr} (xs : List Expr) (h : tgB N sc t x = true) : assignEach (x :: xs) env = (false, assign x env) :: assignEach xs env := by
  cases t <;> cases x <;> first | rfl | (simp [tgB] at h)
theorem tgs_plain (env : Env) : ∀ (ts : Tgs) (es : List Expr), tgsB N sc ts es = true → (assignEach es env).findIdx? (·.1) = none ∧ (assignEach es env).length = es.length
  | .nil, [], _ => ⟨rfl, rfl⟩
  | .nil, _ :: _, h => by simp [tgsB] at h
  | .cons _ _, [], h => by simp [tgsB] at h
  | .cons t ts, x :: xs, h => by
    simp only [tgsB, Bool.and_eq_true] at h
    obtain ⟨h1, h2⟩ := tgs_plain env ts xs h.2
    rw [tg_one env xs h.1]
    exact ⟨by rw [List.findIdx?_cons]; simp only [Bool.false_eq_true, if_false, h1, Option.map_none], by simp [h2]⟩
mutual
theorem g_ok {P : Nat → Prop} (ok : TOk X N sc P) : ∀ (t : Tg) (x : Expr), tgB N sc t x = true → (∀ i ∈ tgIx t, P i) → PG X x (tG z t)
  | .nm i, .Name y p, h, hp => by
    simp only [tgB, Bool.and_eq_true, Bool.or_eq_true, beq_iff_eq] at h
    have hl : Loc X.env.scope y := by rw [ok.hsc]; exact h.2
    have hf : X.fn y = true ∨ X.env.scope.names.lookup y = some .local := by
      rw [ok.hsc]
      rcases h.2 with k | k
      · exact .inr k
      · exact .inl (ok.fnc i y (hp i (by simp [tgIx])) h.1 k)
    refine (pg_name (i := i) (by rw [ok.hN]; exact ok.nd) (by rw [ok.hN]; exact h.1) hl hf).imp fun v σ H Q ⟨S, F, am, hs, d, S', r, k, e, q⟩ => ?_
    simp only [put] at e
    split at e
    · cases e
      refine q _ (r.set i k) fun vs hv => wipe_at σ (hv i (by simp [tgIx]))
    · cases e
  | .tp ts, .Tuple es k p, h, hp => by
    simp only [tgB] at h
    have hes := gs_ok ok ts es h fun i hi => hp i (by simpa only [tgIx] using hi)
    refine ⟨fun pins s σ H v u Q I rv ⟨S, F, am, hs, d, S', r, k, e, q⟩ => ?_⟩
    simp only [put] at e
    have len : ∀ {xs : List D} {ts : Tgs} {es : List Expr} {S S' : Sl}, puts S xs ts = some S' → tgsB N sc ts es = true → xs.length = es.length := by
      intro xs
      induction xs with
      | nil =>
        intro ts es S S' h1 h2
        cases ts with
        | nil => cases es with | nil => rfl | cons _ _ => simp [tgsB] at h2
        | cons _ _ => simp [puts] at h1
      | cons x xs ih =>
        intro ts es S S' h1 h2
        cases ts with
        | nil => simp [puts] at h1
        | cons t ts =>
          cases es with
          | nil => simp [tgsB] at h2
          | cons a es =>
            simp only [puts] at h1
            obtain ⟨S1, e1, e2⟩ := bindS h1
            simp only [tgsB, Bool.and_eq_true] at h2
            simp [ih e2 h2.2]
    cases d <;> simp only [seqD, Option.bind_some, Option.bind_none, reduceCtorEq] at e
    · rename_i xs
      cases k with
      | tup e1 n1 k1 =>
        exact (pg_tup ok.calm hes (hst := (tgs_plain _ ts es h).1)).run pins s σ H _ u Q I rv ⟨_, _, rfl, SqT.of e1, by rw [← k1.length, (tgs_plain _ ts es h).2]; exact len e h, S, F, am, hs, xs, S', r, k1, e, fun σ' r' b => q σ' r' (by simpa only [tgIx] using b)⟩
    · rename_i xs
      cases k with
      | lst e1 n1 k1 =>
        exact (pg_lst ok.calm hes (hst := (tgs_plain _ ts es h).1)).run pins s σ H _ u Q I rv ⟨_, _, rfl, SqL.of e1, by rw [← k1.length, (tgs_plain _ ts es h).2]; exact len e h, S, F, am, hs, xs, S', r, k1, e, fun σ' r' b => q σ' r' (by simpa only [tgIx] using b)⟩
theorem gs_ok {P : Nat → Prop} (ok : TOk X N sc P) : ∀ (ts : Tgs) (xs : List Expr), tgsB N sc ts xs = true → (∀ i ∈ tgsIx ts, P i) → PGs X xs (tGs z ts)
  | .nil, [], _, _ => pgs_nil.imp fun vs σ H Q ⟨S, F, am, hs, ds, S', r, k, e, q⟩ => by
    cases k with
    | nil =>
      simp only [puts] at e
      cases e
      exact ⟨rfl, q σ r fun _ _ => rfl⟩
    | cons _ _ => simp [puts] at e
  | .cons t ts, x :: xs, h, hp => by
    simp only [tgsB, Bool.and_eq_true] at h
    refine (pgs_cons (hs := by rw [tg_one X.env xs h.1]; rfl) (g_ok ok t x h.1 fun i hi => hp i (by simp [tgsIx, hi])) (gs_ok ok ts xs h.2 fun i hi => hp i (by simp [tgsIx, hi]))).imp fun vs σ H Q ⟨S, F, am, hs, ds, S', r, k, e, q⟩ => ?_
    cases k with
    | nil => simp [puts] at e
    | cons k1 k2 =>
      simp only [puts] at e
      obtain ⟨S1, e1, e2⟩ := bindS e
      refine ⟨_, _, rfl, S, F, am, hs, _, S1, r, k1, e1, fun σ1 r1 b1 => ⟨S1, F, am, hs, _, S', r1, k2, e2, fun σ2 r2 b2 => q σ2 r2 fun vs hv => ?_⟩⟩
      rw [b2 vs fun i hi => hv i (by simp [tgsIx, hi]), b1 vs fun i hi => hv i (by simp [tgsIx, hi])]
  | .nil, _ :: _, h, _ => by simp [tgsB] at h
  | .cons _ _, [], h, _ => by simp [tgsB] at h
end
end
end Ci

set_option Elab.async false
set_option linter.all false
set_option maxRecDepth 100000
set_option maxHeartbeats 4000000
namespace L2
open PySem PySem.Spec PyProof.Rows
/-! ### enumerate(list) kept under a name -/
def EnO (e it : Addr) : HO := .ext fun h => IsEnum h e it 0 .none
def LiO (l it : Addr) : HO := .ext fun h => h.IsListIter it l 0
/-- an address that may be an iterator's -/
def Mine (X : Cx) (b : Addr) : Prop := b ∉ X.fs ∧ (b ∈ X.ex ∨ X.s_0.heap.objs.size ≤ b)
theorem enO_ok {P : Program} {w : World} {H : Hp} {h : Heap} {e it : Addr} (x : IsEnum h e it 0 .none) : ObjOk P w H h e (EnO e it) := ⟨x, ⟨_, x⟩, fun _ _ q k => k _ q⟩
theorem liO_ok {P : Program} {w : World} {H : Hp} {h : Heap} {l it : Addr} (x : h.IsListIter it l 0) : ObjOk P w H h it (LiO l it) := ⟨x, let ⟨o, e, _⟩ := x; ⟨o, e⟩, fun _ _ q k => q.at fun o z => k o z⟩
section
variable {X : Cx} {pins : List (Addr × Obj)} {σ : St} {H : Hp} {s : Shared}
/-- an object of ours is no longer looked at -/
theorem Inv.forget {a : Addr} {φ : Heap → Prop} (I : Inv X pins σ H s) (ha : H a = some (.ext φ)) : Inv X pins σ (delH H a) s := by
  have neN : ∀ b, H b = none → b ≠ a := fun b e z => by rw [z, ha] at e; cases e
  have neT : ∀ b xs, H b = some (.tup xs) → b ≠ a := fun b xs e z => by rw [z, ha] at e; cases e
  have neF : ∀ b o u, H b = some (.frz o u) → b ≠ a := fun b o u e z => by rw [z, ha] at e; cases e
  have neB : ∀ b ps, H b = some (.tbl ps) → b ≠ a := fun b ps e z => by rw [z, ha] at e; cases e
  have neO : ∀ b c, H b = some (.own c) → b ≠ a := fun b c e z => by rw [z, ha] at e; cases e
  have none_ : ∀ b, H b = none → delH H a b = none := fun b e => by rw [delH_ne (neN b e)]; exact e
  refine ⟨I.ok, I.os, I.bare, ⟨I.base.keep, I.base.slot, fun b o e n hx => none_ b (I.base.free b o e n hx), I.base.there, fun b xs e => ?_, fun b o u e => ?_, fun b ps e => ?_⟩, I.loc, I.cell, none_ _ I.free, fun x c e => none_ _ (I.freeC x c e), fun p hp => ?_, fun b u e => ?_, I.len⟩
  · have q := I.base.tups b xs e
    rw [delH_ne (neT b xs q)]; exact q
  · have q := I.base.frzs b o u e
    rw [delH_ne (neF b o u q)]; exact q
  · obtain ⟨m, q⟩ := I.base.tbls b ps e
    exact ⟨m, by rw [delH_ne (neB b _ q)]; exact q⟩
  · obtain ⟨e, n, r⟩ := I.pin p hp
    exact ⟨e, none_ _ n, r⟩
  · have hb : b ≠ a := fun z => by rw [z, delH_same] at e; cases e
    rw [delH_ne hb] at e
    refine (I.hok b u e).stay (fun c v _ q => q) (fun c q => ?_) fun c xs q => ?_
    · rw [delH_ne (neO c b q)]; exact q
    · rw [delH_ne (neT c xs q)]; exact q
theorem Inv.fpOf {b : Addr} {φ : Heap → Prop} {H' : Hp} (I : Inv X pins σ H s) (hb : H b = some (.ext φ)) (m : Mine X b) (hn : H' b = none) : FpOk X pins H' b := by
  refine ⟨hn, fun z => ?_, m.1, m.2, fun x c e z => ?_, fun p hp z => ?_⟩
  · have q := I.free
    rw [← z, hb] at q; cases q
  · have q := I.freeC x c e
    rw [z, hb] at q; cases q
  · have q := (I.pin p hp).2.1
    rw [z, hb] at q; cases q
theorem Inv.mine {b : Addr} (I : Inv X pins σ H s) (hb : s.heap.objs.size ≤ b) : Mine X b := let f := I.fpOk (H' := fun _ => none) hb rfl; ⟨f.2.2.1, f.2.2.2.1⟩
end
/-- enumerate(list), the new iterator itself -/
def tEnV (X : Cx) (ta : TA) : TE := fun σ H Q => ta σ H fun vs H1 => ∃ l xs, vs = [.ref l] ∧ SqL X.K H1 l xs ∧ ∀ e it, H1 e = none → H1 it = none → e ≠ it → Mine X e → Mine X it → Q (.ref e) (upd (upd H1 it (LiO l it)) e (EnO e it))
theorem pe_enV {X : Cx} {x : Expr} {ta : TA} {p pos : Pos} (hg : Gl X "enumerate") (hm : X.mg "enumerate" = none) (ha : PA X [x] ta) (hs : starEach [x] X.env = [(false, eval x X.env)] := by rfl) : PE X (.Call (.Name "enumerate" p) [x] [] pos) (tEnV X ta) := by
  refine ⟨fun pins s σ H Q I h => ?_⟩
  refine Call_ (ld_blt I hg hm boot_enumerate (PyProof.Rows.callWith_type1 (thn (ha.run pos pins s σ H _ I h) fun us s1 ⟨vs, H1, I1, r1, q1⟩ => ?_) hs rfl))
  obtain ⟨l, xs, ex, hq, q⟩ := q1
  subst ex
  cases r1 with
  | cons r rr =>
    cases rr
    cases r
    obtain ⟨its, rv, p', hz⟩ := I1.list hq
    refine call_enumerate_list p'.isList fun h' he hit hsz hk => ?_
    have hne : s1.heap.objs.size + 1 ≠ s1.heap.objs.size := Nat.succ_ne_self _
    have n0 := I1.hok.fresh (Nat.le_refl s1.heap.objs.size)
    have n1 := I1.hok.fresh (Nat.le_succ s1.heap.objs.size)
    have I2 : Inv X pins σ (upd H1 s1.heap.objs.size (LiO l s1.heap.objs.size)) { s1 with heap := h' } := I1.laid (t' := s1.toks) hk (Nat.le_refl _) (liO_ok hit)
    have I3 : Inv X pins σ (upd (upd H1 s1.heap.objs.size (LiO l s1.heap.objs.size)) (s1.heap.objs.size + 1) (EnO (s1.heap.objs.size + 1) s1.heap.objs.size)) { s1 with heap := h' } := by
      obtain ⟨G, g1, g2⟩ := restrict h' fun b => decide (b ≠ s1.heap.objs.size + 1)
      have gk : ∀ b, b ≠ s1.heap.objs.size + 1 → G.get? b = h'.get? b := fun b hb => g1 b (decide_eq_true hb)
      have ga : G.get? (s1.heap.objs.size + 1) = none := g2 _ (decide_eq_false fun z => z rfl)
      have J := I1.laid (o := LiO l s1.heap.objs.size) (h' := G) (t' := s1.toks) (fun b u e => by rw [gk b (Nat.ne_of_lt (Nat.lt_succ_of_lt (Heap.lt_size e)))]; exact hk b u e) (Nat.le_refl _) (liO_ok (hit.at fun o z => by rw [gk _ (Ne.symm hne)]; exact z))
      exact J.laidN (t' := s1.toks) (fun b u e => by
        by_cases hb : b = s1.heap.objs.size + 1
        · rw [hb] at e
          have e' : G.get? (s1.heap.objs.size + 1) = some u := e
          rw [ga] at e'; cases e'
        · exact (gk b hb).symm.trans e) ga (by rw [upd_ne hne]; exact n1) (enO_ok he)
    exact ⟨.ref (s1.heap.objs.size + 1), _, I3, rfl, q _ _ n1 n0 hne (I1.mine (Nat.le_succ _)) (I1.mine (Nat.le_refl _))⟩
/-- the walk over it -/
def iEnV (X : Cx) (te : TE) : TI := fun σ H R => te σ H fun v H1 => ∃ e it l xs, v = .ref e ∧ H1 e = some (EnO e it) ∧ H1 it = some (LiO l it) ∧ e ≠ it ∧ Mine X e ∧ Mine X it ∧ SqL X.K H1 l xs ∧ R (Ite X.K l) (delH (delH H1 e) it)
theorem pi_enV {X : Cx} {x : Expr} {te : TE} {tpos : Pos} {elts : List Expr} {kk : Nat} (he : PE X x te) : PI X (.Tuple elts kk tpos) x (iEnV X te) := by
  refine ⟨fun pins s σ H R I h => ?_⟩
  refine thn (he.run pins s σ H _ I h) fun u s1 ⟨v, H1, I1, rv, e, it, l, xs, ev, ee, ei, hne, me, mi, hq, q⟩ => ?_
  subst ev
  obtain rfl : u = Value.ref e := rv
  have xe : IsEnum s1.heap e it 0 .none := (I1.hok e _ ee).1
  have xi : s1.heap.IsListIter it l 0 := (I1.hok it _ ei).1
  refine wpAny_pyIter_enum xe ?_
  have ei' : delH H1 e it = some (LiO l it) := by rw [delH_ne (Ne.symm hne)]; exact ei
  have I2 := (I1.forget ee).forget ei'
  refine ⟨e, [e, it], _, _, _, rfl, I2, turn_enum l e it, ⟨⟨.none, xe⟩, xi, hne⟩, fun b hb => ?_, q⟩
  have e' : b = e ∨ b = it := by simpa using hb
  rcases e' with z | z
  · subst z
    refine I1.fpOf ee me ?_
    rw [delH_ne hne, delH_same]
  · subst z
    exact I1.fpOf ei mi delH_same
end L2

set_option Elab.async false
set_option linter.all false
set_option maxRecDepth 100000
set_option maxHeartbeats 4000000
namespace L2
open PySem PySem.Spec PyProof.Rows
/-! ### enumerate(tuple) -/
theorem newEnumT (t : Addr) (items : Array Value) :
    Meets (Builtin.«enumerate.__new__» ⟨[.type "enumerate", .ref t], []⟩) (fun _ R s => s.heap.IsTuple t items ∧
      R (.ok (.ret (.ref (s.heap.push { cls := .type "tuple_iterator", data := .fields #[.ref t, .int 0 0] }).objs.size)))
        { s with heap := (s.heap.push { cls := .type "tuple_iterator", data := .fields #[.ref t, .int 0 0] }).push { cls := .type "enumerate", data := .fields #[.none, .bool false, .ref s.heap.objs.size, rawInt 0, .none, .none] } }) :=
  .of_wp fun prog w A R ⟨hp, g, d, tk, os⟩ ⟨hl, h⟩ => by
    have sub := sub_enumerate
    have go : ∀ {A' : Around} {E Q : Value → Shared → Prop}, Q (.ref hp.objs.size) ⟨hp.push { cls := .type "tuple_iterator", data := .fields #[.ref t, .int 0 0] }, g, d, tk, os⟩ → wpAny (model prog w) A' (pyIter (.ref t)) Q E ⟨hp, g, d, tk, os⟩ := fun q => wpAny_pyIter_tuple (s := ⟨hp, g, d, tk, os⟩) hl q
    wp_walk using go
    refine wpAny_stack_any fun _ => wpAny_pure ?_
    split
    · rename_i c _ _ _ _ _
      cases (c == Value.type "enumerate") <;> (wp_walk using go; exact ⟨_, rfl, h⟩)
    · wp_walk using go; exact ⟨_, rfl, h⟩
theorem callEnumT {prog : Program} {w : World} {A : Around} {E : Value → Shared → Prop} {s : Shared} {t : Addr} {items : Array Value} {Q : Value → Shared → Prop} (ht : s.heap.IsTuple t items)
    (h : ∀ h', IsEnum h' (s.heap.objs.size + 1) s.heap.objs.size 0 .none → h'.IsTupleIter s.heap.objs.size t 0 → (∀ b o, s.heap.get? b = some o → h'.get? b = some o) → Q (.ref (s.heap.objs.size + 1)) { s with heap := h' }) : wpAny (model prog w) A (call (.type "enumerate") [.ref t]) Q E s := by
  refine callType_new F.called_enumerate (by decide) (F.typeCall_enumerate_1 _) (F.newCall_enumerate_1 _) (fun obj => F.args_object_init_2 obj _) F.entry_enumerate_new (newEnumT t items) ⟨ht, ?_⟩
  have z : (s.heap.push { cls := .type "tuple_iterator", data := .fields #[.ref t, .int 0 0] }).objs.size = s.heap.objs.size + 1 := Heap.size_push ..
  show _ ∧ _
  rw [z]
  have x : IsEnum ((s.heap.push { cls := .type "tuple_iterator", data := .fields #[.ref t, .int 0 0] }).push { cls := .type "enumerate", data := .fields #[.none, .bool false, .ref s.heap.objs.size, rawInt 0, .none, .none] }) (s.heap.objs.size + 1) s.heap.objs.size 0 .none := by
    have y := Heap.get?_push_size (s.heap.push { cls := .type "tuple_iterator", data := .fields #[.ref t, .int 0 0] }) (o := { cls := .type "enumerate", data := .fields #[.none, .bool false, .ref s.heap.objs.size, rawInt 0, .none, .none] }) rfl
    rw [z] at y; exact y
  exact ⟨⟨_, x, rfl⟩, h _ x ⟨_, Heap.get?_push_of_some _ (Heap.get?_push_size _ rfl), rfl, rfl⟩ fun b o y => Heap.get?_push_of_some _ (Heap.get?_push_of_some _ y)⟩
/-- the tuple at a, each item in a new pair -/
def IteT (K : PySem.W.Frag) (a : Addr) : It :=
  ⟨fun i H => ∃ (xs : List V) (x : V), SqT K H a xs ∧ xs[i]? = some x, fun i H v H' => ∃ T x, v = .ref T ∧ H T = none ∧ H' = upd H T (.tup [.int (i : Nat), x]) ∧ ∀ xs, SqT K H a xs → xs[i]? = some x, fun i H => ∃ xs : List V, SqT K H a xs ∧ xs.length ≤ i⟩
/-- the iterator at its i-th place, read as one that draws nothing further -/
theorem drawEnd {prog : Program} {w : World} {A : Around} (hh : A.handled = none) (it t : Addr) (items : Array Value) (i : Nat) (hi : items[i]? = none) : Draws prog w A it [it, t] i (fun _ _ => True) (fun j h => j = i ∧ h.IsTupleIter it t i ∧ h.IsTuple t items) where
  live := fun _ _ st => let ⟨o, e, _⟩ := st.2.1; ⟨o, e⟩
  frame := fun _ _ _ st k => ⟨st.1, st.2.1.at fun o e => k it (by simp) o e, st.2.2.at fun o e => k t (by simp) o e⟩
  item := fun j s Q E hj st _ => absurd st.1 (Nat.ne_of_lt hj)
  done := fun s Q E st q => wpAny_nextOf_tuple_end hh st.2.1 st.2.2 hi q
theorem tup_of {h : Heap} {a : Addr} {xs : Array Value} (x : IsTup h a xs) : h.IsTuple a xs := x
theorem apart_of {h : Heap} {e t : Addr} {xs : Array Value} {n : String} {d : Data} (x : h.get? e = some { cls := .type n, data := d }) (y : h.IsTuple t xs) (k : n ≠ "tuple") : e ≠ t := fun z => by
  obtain ⟨o, q, c, _⟩ := y
  rw [← z, x] at q
  cases q
  cases c
  exact k rfl
theorem apart_it {h : Heap} {it t : Addr} {i : Nat} {xs : Array Value} (x : h.IsTupleIter it t i) (y : h.IsTuple t xs) : t ≠ it := fun z => by
  obtain ⟨o, q, c, _⟩ := y
  obtain ⟨o', q', c', _⟩ := x
  rw [z, q'] at q
  cases q
  rw [c'] at c
  exact absurd (Value.type.inj c) (by decide)
theorem turn_enumT {P : Program} {w : World} {K : PySem.W.Frag} {elts : List Expr} {kk : Nat} {tpos : Pos} (a e it : Addr) :
    Turn P w K (.Tuple elts kk tpos) (IteT K a) [e, it] e (fun i h => (∃ old, IsEnum h e it ((i : Nat) : Int) old) ∧ h.IsTupleIter it a i ∧ e ≠ it) where
  mem := List.mem_cons_self ..
  obj := fun i h st b hb => by
    rcases List.mem_cons.mp hb with z | z
    · obtain ⟨_, q⟩ := st.1
      rw [z]; exact ⟨_, q, fun v r => nomatch r⟩
    · obtain ⟨o, q, _, d⟩ := st.2.1
      rw [List.mem_singleton.mp z]; exact ⟨o, q, fun v r => by rw [d] at r; cases r⟩
  keep := fun i h h' st k => ⟨st.1.elim fun old q => ⟨old, k e (by simp) _ q⟩, st.2.1.at fun o q => k it (by simp) o q, st.2.2⟩
  item := by
    intro X h1 h2 h3 hc i pins s σ H E I hf st hg
    subst h1 h2 h3
    obtain ⟨⟨old, he⟩, hit, hne⟩ := st
    obtain ⟨xs, x, hq, hx⟩ := hg
    obtain ⟨its, rv, pt, _⟩ := I.tuple hq
    obtain ⟨u, hu, ru⟩ := rv.get hx
    have ht := tup_of pt
    have le := Heap.lt_size he
    have li : it < s.heap.objs.size := hit.elim fun _ q => Heap.lt_size q.1
    have D := Draws.tuple (prog := X.prog) (w := X.w) (A := X.A.in1) (I.ok.hd hc) it a (apart_it hit ht) its.toArray
    have hl : i < its.toArray.size := by
      have := (List.getElem?_eq_some_iff.mp hu).1
      simpa using this
    refine wpAny_pyNext_enum_itemD D he ⟨hit, ht⟩ hl hne (by simp [hne, apart_of he ht (by decide)]) fun y h' tk hy ho hs hT hz hk => ?_
    have ey : y = u := by
      have : its.toArray[i]? = some y := hy
      rw [List.getElem?_toArray, hu] at this
      exact (Option.some.inj this).symm
    subst ey
    refine ⟨_, rfl, wpAny_letOwnedTupleGo_enum (s := { s with heap := h', toks := tk + 1 }) ho fun h2 he2 sb => ?_⟩
    have T2 := (sb.2 s.heap.objs.size (Nat.ne_of_gt le)).trans hT
    have new : ObjOk X.prog X.w (upd H s.heap.objs.size (.tup [.int (i : Nat), x])) h2 s.heap.objs.size (.tup [.int (i : Nat), x]) := ⟨by show 2 ≤ sizeLine; decide, [.int i tk, y], .cons ⟨_, rfl⟩ (.cons ru .nil), ⟨_, T2, rfl, _, rfl⟩⟩
    have J := I.turnedNew (t' := tk + 1) (ch := [e, it]) (h' := h2) (fun b ob hb q => (sb.2 b fun z => hb (by simp [z])).trans (hk b ob (fun z => hb (by simp [z])) (fun z => hb (by simp [z])) q)) hf (Nat.le_refl _) new
    refine ⟨.ref s.heap.objs.size, _, J, rfl, ⟨_, x, rfl, I.hok.fresh (Nat.le_refl _), rfl, fun ys hy => by rw [I.tuple_inj hy hq]; exact hx⟩, ⟨⟨y, by rw [show ((i + 1 : Nat) : Int) = (i : Int) + 1 by omega]; exact he2⟩, hs.1.at fun o q => (sb.2 it (Ne.symm hne)).trans q, hne⟩, fun b hb => ?_⟩
    have hb' : b < s.heap.objs.size := (List.mem_cons.mp hb).elim (fun z => by rw [z]; exact le) fun z => by rw [List.mem_singleton.mp z]; exact li
    exact (upd_ne (Nat.ne_of_lt hb')).trans (hf b hb).1
  done := by
    intro X h1 h2 h3 hc i pins s σ H E I hf st hg
    subst h1 h2 h3
    obtain ⟨⟨old, he⟩, hit, _⟩ := st
    obtain ⟨xs, hq, hx⟩ := hg
    obtain ⟨its, rv, pt, _⟩ := I.tuple hq
    have hl := rv.length
    obtain ⟨f0, f1, f2, f3, f4, f5⟩ := hf it (by simp)
    exact wpAny_pyNext_enum_endD (drawEnd (prog := X.prog) (w := X.w) (A := X.A.in1) (I.ok.hd hc) it a its.toArray i (by simp; omega)) he ⟨rfl, hit, tup_of pt⟩ fun h' k => ⟨rfl, I.turned (t' := s.toks) (fun b o n q => k b o n q) f0 f1 f3 f4 f5⟩
  self := fun A i s Q E st h => st.1.elim fun _ he => wpAny_pyIter_enum he h
/-- enumerate(v), v a list or a tuple -/
def iEnumA (K : PySem.W.Frag) (ta : TA) : TI := fun σ H R => ta σ H fun vs H1 => ∃ a xs, vs = [.ref a] ∧ ((SqL K H1 a xs ∧ R (Ite K a) H1) ∨ (SqT K H1 a xs ∧ R (IteT K a) H1))
theorem pi_enumA {X : Cx} {e : Expr} {ta : TA} {p pos tpos : Pos} {elts : List Expr} {kk : Nat} (hg : Gl X "enumerate") (hm : X.mg "enumerate" = none) (ha : PA X [e] ta) (hs : starEach [e] X.env = [(false, eval e X.env)] := by rfl) : PI X (.Tuple elts kk tpos) (.Call (.Name "enumerate" p) [e] [] pos) (iEnumA X.K ta) := by
  refine ⟨fun pins s σ H R I h => Call_ (ld_blt I hg hm boot_enumerate (PyProof.Rows.callWith_type1 (thn (ha.run pos pins s σ H _ I h) fun us s1 ⟨vs, H1, I1, r1, q1⟩ => ?_) hs rfl))⟩
  obtain ⟨a, xs, ex, q⟩ := q1
  subst ex
  cases r1 with
  | cons r rr =>
    cases rr
    cases r
    have fp : ∀ b ∈ [s1.heap.objs.size + 1, s1.heap.objs.size], FpOk X pins H1 b := fun b hb => by
      have hle : s1.heap.objs.size ≤ b := (List.mem_cons.mp hb).elim (fun z => by rw [z]; exact Nat.le_succ _) fun z => by rw [List.mem_singleton.mp z]; exact Nat.le_refl _
      exact I1.fpOk hle (I1.hok.fresh hle)
    rcases q with ⟨hq, q⟩ | ⟨hq, q⟩
    · obtain ⟨its, rv, pl, _⟩ := I1.list hq
      exact call_enumerate_list pl.isList fun h' he hit _ hk => wpAny_pyIter_enum he ⟨_, _, _, _, H1, rfl, I1.kept (t' := s1.toks) hk, turn_enum a (s1.heap.objs.size + 1) s1.heap.objs.size, ⟨⟨.none, he⟩, hit, Nat.succ_ne_self _⟩, fp, q⟩
    · obtain ⟨its, rv, pt, _⟩ := I1.tuple hq
      exact callEnumT (tup_of pt) fun h' he hit hk => wpAny_pyIter_enum he ⟨_, _, _, _, H1, rfl, I1.kept (t' := s1.toks) hk, turn_enumT a (s1.heap.objs.size + 1) s1.heap.objs.size, ⟨⟨.none, he⟩, hit, Nat.succ_ne_self _⟩, fp, q⟩
end L2

set_option Elab.async false
set_option linter.all false
set_option maxRecDepth 100000
set_option maxHeartbeats 4000000
namespace Ci
open PySem PySem.Spec PyProof.Rows L2
/-! ### walks -/
/-- from here on the walk goes as its source -/
def Wk (z : Rc) (src : Src) (F : Addr → Prop) (am : List Addr) (H : Hp) (J : L2.It) : Prop :=
  ∀ F1 am1 H1 h1, Ext F am H F1 am1 H1 → Sto z F1 am1 H1 h1 → ∀ i,
    (∀ d, itm src h1 i = some d → J.go i H1 ∧ ∀ x H2, J.yld i H1 x H2 → ∃ F2 am2, Ext F1 am1 H1 F2 am2 H2 ∧ Sto z F2 am2 H2 h1 ∧ RD z F2 am2 H2 d x) ∧ (itm src h1 i = none → srcOk src h1 = true → J.stop i H1)
def tI (z : Si) (it : It) : TI := fun σ H R => ∃ S F am h, Rel z.rc F am H h S σ ∧ SatR z σ F am H (evI z.sub z.call it S h) (fun src _ F' am' H' => ∀ J, Wk z.rc src F' am' H' J → R J H')
theorem _root_.L2.PI.imp {X : Cx} {tg e : Expr} {t t' : TI} (h : PI X tg e t) (k : ∀ σ H R, t' σ H R → t σ H R) : PI X tg e t' := ⟨fun pins s σ H R I q => h.run pins s σ H R I (k σ H R q)⟩
section
variable {z : Rc} {F F1 : Addr → Prop} {am am1 : List Addr} {H H1 : Hp} {h h1 : Hs} {K : PySem.W.Frag}
/-- the same where what is guarded may be another -/
def WkQ (z : Rc) (src : Src) (F : Addr → Prop) (am : List Addr) (H : Hp) (J : L2.It) : Prop :=
  ∀ F1 am1 H1 h1, Exq F am H F1 am1 H1 → Sto z F1 am1 H1 h1 → ∀ i,
    (∀ d, itm src h1 i = some d → J.go i H1 ∧ ∀ x H2, J.yld i H1 x H2 → ∃ F2 am2, Ext F1 am1 H1 F2 am2 H2 ∧ Sto z F2 am2 H2 h1 ∧ RD z F2 am2 H2 d x) ∧ (itm src h1 i = none → srcOk src h1 = true → J.stop i H1)
theorem WkQ.wk {src : Src} {J : L2.It} (i0 : ∀ x ∈ am, F x) (w : WkQ z src F am H J) : Wk z src F am H J := fun F1 am1 H1 h1 e s i => w F1 am1 H1 h1 (e.q i0) s i
theorem Wk.ext {src : Src} {J : L2.It} (w : Wk z src F am H J) (e : Ext F am H F1 am1 H1) (i0 : ∀ x ∈ am, F x) : Wk z src F1 am1 H1 J :=
  fun F2 am2 H2 h2 e2 s2 i => w F2 am2 H2 h2 (e.trans e2 i0) s2 i
theorem wk_fixL {a : Addr} {ds : List D} {vs : List V} (i0 : ∀ x ∈ am, F x) (k : RDs z F am H ds vs) (q : ∀ F1 am1 H1, Ext F am H F1 am1 H1 → SqL K H1 a vs) : Wk z (.fix ds) F am H (Itl K a) := by
  intro F1 am1 H1 h1 e s i
  have k1 := k.ext e i0
  have q1 := q _ _ _ e
  refine ⟨fun d hd => ?_, fun hn _ => ⟨vs, q1, by rw [← k1.length]; exact List.getElem?_eq_none_iff.mp hn⟩⟩
  obtain ⟨v, g1, g2⟩ := k1.get hd
  refine ⟨⟨vs, v, q1, g1⟩, fun x H2 ⟨e2, y⟩ => ?_⟩
  subst e2
  have := y vs q1
  rw [g1] at this; cases this
  exact ⟨F1, am1, .refl, s, g2⟩
theorem wk_fixT {a : Addr} {ds : List D} {vs : List V} (i0 : ∀ x ∈ am, F x) (k : RDs z F am H ds vs) (q : ∀ F1 am1 H1, Ext F am H F1 am1 H1 → SqT K H1 a vs) : Wk z (.fix ds) F am H (Itt K a) := by
  intro F1 am1 H1 h1 e s i
  have k1 := k.ext e i0
  have q1 := q _ _ _ e
  refine ⟨fun d hd => ?_, fun hn _ => ⟨vs, q1, by rw [← k1.length]; exact List.getElem?_eq_none_iff.mp hn⟩⟩
  obtain ⟨v, g1, g2⟩ := k1.get hd
  refine ⟨⟨vs, v, q1, g1⟩, fun x H2 ⟨e2, y⟩ => ?_⟩
  subst e2
  have := y vs q1
  rw [g1] at this; cases this
  exact ⟨F1, am1, .refl, s, g2⟩
theorem wk_dyn {a : Addr} {n : Nat} (q : am[n]? = some a) : Wk z (.dyn n) F am H (Itl K a) := by
  intro F1 am1 H1 h1 e s i
  obtain ⟨t, e1⟩ := e.pre
  have q1 : am1[n]? = some a := by rw [e1, List.getElem?_append_left (List.getElem?_eq_some_iff.mp q).1]; exact q
  have hl : n < h1.length := by rw [← s.len]; exact (List.getElem?_eq_some_iff.mp q1).1
  have e2 : h1[n]? = some h1[n] := List.getElem?_eq_getElem hl
  have ho := s.obj n a _ q1 e2
  generalize h1[n] = o at e2 ho
  cases o with
  | lst ds =>
    obtain ⟨vs, e3, k⟩ := ho
    have hi : itm (.dyn n) h1 i = ds[i]? := by simp only [itm, e2]
    rw [hi]
    refine ⟨fun d hd => ?_, fun hn _ => ⟨vs, SqL.of e3, by rw [← k.length]; exact List.getElem?_eq_none_iff.mp hn⟩⟩
    obtain ⟨v, g1, g2⟩ := k.get hd
    refine ⟨⟨vs, v, SqL.of e3, g1⟩, fun x H2 ⟨e2, y⟩ => ?_⟩
    subst e2
    have := y vs (SqL.of e3)
    rw [g1] at this; cases this
    exact ⟨F1, am1, .refl, s, g2⟩
  | dct ds =>
    have hi : itm (.dyn n) h1 i = none := by simp only [itm, e2]
    have hs : srcOk (.dyn n) h1 = false := by simp only [srcOk, e2]
    rw [hi, hs]
    exact ⟨fun d hd => (nomatch hd), fun _ hn => (nomatch hn)⟩
theorem wk_rng {a b : Int} {ds : List D} (e : rangeD a b = some ds) : Wk z (.fix ds) F am H (Itr a (b - a).toNat) := by
  unfold rangeD at e
  split at e
  · cases e
    intro F1 am1 H1 h1 e s i
    have hi : itm (.fix ((List.range (b - a).toNat).map fun k => D.int (a + (k : Nat)))) h1 i = if i < (b - a).toNat then some (.int (a + (i : Nat))) else none := by
      simp only [itm, List.getElem?_map]
      by_cases hl : i < (b - a).toNat
      · rw [List.getElem?_range hl, if_pos hl]; rfl
      · rw [List.getElem?_eq_none (by simpa using hl), if_neg hl]; rfl
    rw [hi]
    by_cases hl : i < (b - a).toNat
    · rw [if_pos hl]
      refine ⟨fun d hd => ?_, fun hn => (nomatch hn)⟩
      cases hd
      refine ⟨hl, fun x H2 ⟨e2, y⟩ => ?_⟩
      subst e2 y
      exact ⟨F1, am1, .refl, s, .int _⟩
    · rw [if_neg hl]
      exact ⟨fun d hd => (nomatch hd), fun _ _ => Nat.le_of_not_lt hl⟩
  · cases e
theorem rng_bound {a b : Int} {ds : List D} (e : rangeD a b = some ds) : -(2 ^ 62) ≤ a ∧ a < 2 ^ 62 ∧ -(2 ^ 62) ≤ b ∧ b < 2 ^ 62 := by
  unfold rangeD at e
  split at e
  · rename_i h
    simp only [Bool.and_eq_true, decide_eq_true_eq] at h
    exact ⟨h.1.1.1, h.1.1.2, h.1.2, h.2⟩
  · cases e
theorem enum_at : ∀ (xs : List D) (n i : Nat), (enumD n xs)[i]? = (xs[i]?).map fun x => .tup [.int ((n + i : Nat)), x]
  | [], _, _ => by simp [enumD]
  | x :: xs, n, 0 => by simp [enumD]
  | x :: xs, n, i + 1 => by
    simp only [enumD, List.getElem?_cons_succ]
    rw [enum_at xs (n + 1) i]
    have e : n + 1 + i = n + (i + 1) := by omega
    rw [e]
theorem zip_at : ∀ (xs ys : List D) (i : Nat), (zipD xs ys)[i]? = match xs[i]?, ys[i]? with | some x, some y => some (.tup [x, y]) | _, _ => none
  | [], ys, i => by simp [zipD]
  | _ :: _, [], i => by
    simp only [zipD, List.getElem?_nil]
    cases (_ : List D)[i]? <;> rfl
  | x :: xs, y :: ys, 0 => by simp [zipD]
  | x :: xs, y :: ys, i + 1 => by
    simp only [zipD, List.getElem?_cons_succ]
    exact zip_at xs ys i
/-- one pair, new -/
theorem pair_new {T : Addr} {d e : D} {x y : V} (s : Sto z F am H h) (hT : H T = none) (r : RD z F am H d x) (q : RD z F am H e y) : ∃ F2 am2, Ext F am H F2 am2 (upd H T (.tup [x, y])) ∧ Sto z F2 am2 (upd H T (.tup [x, y])) h ∧ RD z F2 am2 (upd H T (.tup [x, y])) (.tup [d, e]) (.ref T) := by
  obtain ⟨e1, s1, n⟩ := s.laid hT (.tup [x, y])
  exact ⟨F, am, e1, s1, .tup upd_same n (.cons (r.ext e1 s.inF) (.cons (q.ext e1 s.inF) .nil))⟩
theorem wk_enum {a : Addr} {ds : List D} {vs : List V} (i0 : ∀ x ∈ am, F x) (k : RDs z F am H ds vs) (q : ∀ F1 am1 H1, Ext F am H F1 am1 H1 → SqL K H1 a vs) : Wk z (.fix (enumD 0 ds)) F am H (Ite K a) := by
  intro F1 am1 H1 h1 e s i
  have k1 := k.ext e i0
  have q1 := q _ _ _ e
  have hi : itm (.fix (enumD 0 ds)) h1 i = _ := enum_at ds 0 i
  rw [hi]
  cases hd : ds[i]? with
  | none => exact ⟨fun d hd => (nomatch hd), fun _ _ => ⟨vs, q1, by rw [← k1.length]; exact List.getElem?_eq_none_iff.mp hd⟩⟩
  | some d0 =>
    refine ⟨fun d hd' => ?_, fun hn => (nomatch hn)⟩
    cases hd'
    obtain ⟨v, g1, g2⟩ := k1.get hd
    refine ⟨⟨vs, v, q1, g1⟩, fun x H2 ⟨T, y, e2, hT, e3, w⟩ => ?_⟩
    subst e2 e3
    have := w vs q1
    rw [g1] at this; cases this
    have e4 : ((0 + i : Nat) : Int) = (i : Nat) := by simp
    rw [e4]
    exact pair_new s hT (.int _) g2
theorem wk_enumT {a : Addr} {ds : List D} {vs : List V} (i0 : ∀ x ∈ am, F x) (k : RDs z F am H ds vs) (q : ∀ F1 am1 H1, Ext F am H F1 am1 H1 → SqT K H1 a vs) : Wk z (.fix (enumD 0 ds)) F am H (IteT K a) := by
  intro F1 am1 H1 h1 e s i
  have k1 := k.ext e i0
  have q1 := q _ _ _ e
  have hi : itm (.fix (enumD 0 ds)) h1 i = _ := enum_at ds 0 i
  rw [hi]
  cases hd : ds[i]? with
  | none => exact ⟨fun d hd => (nomatch hd), fun _ _ => ⟨vs, q1, by rw [← k1.length]; exact List.getElem?_eq_none_iff.mp hd⟩⟩
  | some d0 =>
    refine ⟨fun d hd' => ?_, fun hn => (nomatch hn)⟩
    cases hd'
    obtain ⟨v, g1, g2⟩ := k1.get hd
    refine ⟨⟨vs, v, q1, g1⟩, fun x H2 ⟨T, y, e2, hT, e3, w⟩ => ?_⟩
    subst e2 e3
    have := w vs q1
    rw [g1] at this; cases this
    have e4 : ((0 + i : Nat) : Int) = (i : Nat) := by simp
    rw [e4]
    exact pair_new s hT (.int _) g2
theorem wk_zipL {a b : Addr} {ds es : List D} {vs ws : List V} (i0 : ∀ x ∈ am, F x) (k : RDs z F am H ds vs) (l : RDs z F am H es ws) (q : ∀ F1 am1 H1, Ext F am H F1 am1 H1 → SqL K H1 a vs) (q' : ∀ F1 am1 H1, Ext F am H F1 am1 H1 → SqL K H1 b ws) : Wk z (.fix (zipD ds es)) F am H (Itz K a b) := by
  intro F1 am1 H1 h1 e s i
  have k1 := k.ext e i0
  have l1 := l.ext e i0
  have q1 := q _ _ _ e
  have q2 := q' _ _ _ e
  have hi : itm (.fix (zipD ds es)) h1 i = _ := zip_at ds es i
  rw [hi]
  cases hd : ds[i]? with
  | none => exact ⟨fun d hd => (nomatch hd), fun _ _ => ⟨vs, ws, q1, q2, .inl (by rw [← k1.length]; exact List.getElem?_eq_none_iff.mp hd)⟩⟩
  | some d0 =>
    cases he : es[i]? with
    | none => exact ⟨fun d hd => (nomatch hd), fun _ _ => ⟨vs, ws, q1, q2, .inr (by rw [← l1.length]; exact List.getElem?_eq_none_iff.mp he)⟩⟩
    | some e0 =>
      refine ⟨fun d hd' => ?_, fun hn => (nomatch hn)⟩
      cases hd'
      obtain ⟨v, g1, g2⟩ := k1.get hd
      obtain ⟨u, f1, f2⟩ := l1.get he
      refine ⟨⟨vs, ws, v, u, q1, q2, g1, f1⟩, fun x H2 ⟨T, y, y2, e2, hT, e3, w, w2⟩ => ?_⟩
      subst e2 e3
      have := w vs q1
      rw [g1] at this; cases this
      have := w2 ws q2
      rw [f1] at this; cases this
      exact pair_new s hT g2 f2
theorem wk_zipT {a b : Addr} {ds es : List D} {vs ws : List V} (i0 : ∀ x ∈ am, F x) (k : RDs z F am H ds vs) (l : RDs z F am H es ws) (q : ∀ F1 am1 H1, Ext F am H F1 am1 H1 → SqT K H1 a vs) (q' : ∀ F1 am1 H1, Ext F am H F1 am1 H1 → SqT K H1 b ws) : Wk z (.fix (zipD ds es)) F am H (RZ.ItzT K a b) := by
  intro F1 am1 H1 h1 e s i
  have k1 := k.ext e i0
  have l1 := l.ext e i0
  have q1 := q _ _ _ e
  have q2 := q' _ _ _ e
  have hi : itm (.fix (zipD ds es)) h1 i = _ := zip_at ds es i
  rw [hi]
  cases hd : ds[i]? with
  | none => exact ⟨fun d hd => (nomatch hd), fun _ _ => ⟨vs, ws, q1, q2, .inl (by rw [← k1.length]; exact List.getElem?_eq_none_iff.mp hd)⟩⟩
  | some d0 =>
    cases he : es[i]? with
    | none => exact ⟨fun d hd => (nomatch hd), fun _ _ => ⟨vs, ws, q1, q2, .inr (by rw [← l1.length]; exact List.getElem?_eq_none_iff.mp he)⟩⟩
    | some e0 =>
      refine ⟨fun d hd' => ?_, fun hn => (nomatch hn)⟩
      cases hd'
      obtain ⟨v, g1, g2⟩ := k1.get hd
      obtain ⟨u, f1, f2⟩ := l1.get he
      refine ⟨⟨vs, ws, v, u, q1, q2, g1, f1⟩, fun x H2 ⟨T, y, y2, e2, hT, e3, w, w2⟩ => ?_⟩
      subst e2 e3
      have := w vs q1
      rw [g1] at this; cases this
      have := w2 ws q2
      rw [f1] at this; cases this
      exact pair_new s hT g2 f2
theorem keepL {a : Addr} {vs : List V} (i0 : ∀ x ∈ am, F x) (e : H a = some (.lst vs)) (n : ¬ F a) : ∀ F1 am1 H1, Ext F am H F1 am1 H1 → SqL K H1 a vs := fun F1 am1 H1 x => SqL.of (x.rd i0 e n).1
theorem keepT {a : Addr} {vs : List V} (i0 : ∀ x ∈ am, F x) (e : H a = some (.tup vs)) (n : ¬ F a) : ∀ F1 am1 H1, Ext F am H F1 am1 H1 → SqT K H1 a vs := fun F1 am1 H1 x => SqT.of (x.rd i0 e n).1
theorem keepS {a : Addr} {o : Obj} {vs : List V} (i0 : ∀ x ∈ am, F x) (e : H a = some (.frz o (.lst vs))) (n : ¬ F a) : ∀ F1 am1 H1, Ext F am H F1 am1 H1 → SqL K H1 a vs := fun F1 am1 H1 x => .inl (.inr ⟨o, (x.rd i0 e n).1⟩)
theorem wk_fixLQ {a : Addr} {ds : List D} {vs : List V} (i0 : ∀ x ∈ am, F x) (k : RDs z F am H ds vs) (q : ∀ F1 am1 H1, Exq F am H F1 am1 H1 → SqL K H1 a vs) : WkQ z (.fix ds) F am H (Itl K a) := by
  intro F1 am1 H1 h1 e s i
  have k1 := k.exq e i0
  have q1 := q _ _ _ e
  refine ⟨fun d hd => ?_, fun hn _ => ⟨vs, q1, by rw [← k1.length]; exact List.getElem?_eq_none_iff.mp hn⟩⟩
  obtain ⟨v, g1, g2⟩ := k1.get hd
  refine ⟨⟨vs, v, q1, g1⟩, fun x H2 ⟨e2, y⟩ => ?_⟩
  subst e2
  have := y vs q1
  rw [g1] at this; cases this
  exact ⟨F1, am1, .refl, s, g2⟩
theorem wk_fixTQ {a : Addr} {ds : List D} {vs : List V} (i0 : ∀ x ∈ am, F x) (k : RDs z F am H ds vs) (q : ∀ F1 am1 H1, Exq F am H F1 am1 H1 → SqT K H1 a vs) : WkQ z (.fix ds) F am H (Itt K a) := by
  intro F1 am1 H1 h1 e s i
  have k1 := k.exq e i0
  have q1 := q _ _ _ e
  refine ⟨fun d hd => ?_, fun hn _ => ⟨vs, q1, by rw [← k1.length]; exact List.getElem?_eq_none_iff.mp hn⟩⟩
  obtain ⟨v, g1, g2⟩ := k1.get hd
  refine ⟨⟨vs, v, q1, g1⟩, fun x H2 ⟨e2, y⟩ => ?_⟩
  subst e2
  have := y vs q1
  rw [g1] at this; cases this
  exact ⟨F1, am1, .refl, s, g2⟩
theorem wk_dynQ {a : Addr} {n : Nat} (q : am[n]? = some a) : WkQ z (.dyn n) F am H (Itl K a) := by
  intro F1 am1 H1 h1 e s i
  obtain ⟨t, e1⟩ := e.pre
  have q1 : am1[n]? = some a := by rw [e1, List.getElem?_append_left (List.getElem?_eq_some_iff.mp q).1]; exact q
  have hl : n < h1.length := by rw [← s.len]; exact (List.getElem?_eq_some_iff.mp q1).1
  have e2 : h1[n]? = some h1[n] := List.getElem?_eq_getElem hl
  have ho := s.obj n a _ q1 e2
  generalize h1[n] = o at e2 ho
  cases o with
  | lst ds =>
    obtain ⟨vs, e3, k⟩ := ho
    have hi : itm (.dyn n) h1 i = ds[i]? := by simp only [itm, e2]
    rw [hi]
    refine ⟨fun d hd => ?_, fun hn _ => ⟨vs, SqL.of e3, by rw [← k.length]; exact List.getElem?_eq_none_iff.mp hn⟩⟩
    obtain ⟨v, g1, g2⟩ := k.get hd
    refine ⟨⟨vs, v, SqL.of e3, g1⟩, fun x H2 ⟨e2, y⟩ => ?_⟩
    subst e2
    have := y vs (SqL.of e3)
    rw [g1] at this; cases this
    exact ⟨F1, am1, .refl, s, g2⟩
  | dct ds =>
    have hi : itm (.dyn n) h1 i = none := by simp only [itm, e2]
    have hs : srcOk (.dyn n) h1 = false := by simp only [srcOk, e2]
    rw [hi, hs]
    exact ⟨fun d hd => (nomatch hd), fun _ hn => (nomatch hn)⟩
theorem wk_rngQ {a b : Int} {ds : List D} (e : rangeD a b = some ds) : WkQ z (.fix ds) F am H (Itr a (b - a).toNat) := by
  unfold rangeD at e
  split at e
  · cases e
    intro F1 am1 H1 h1 e s i
    have hi : itm (.fix ((List.range (b - a).toNat).map fun k => D.int (a + (k : Nat)))) h1 i = if i < (b - a).toNat then some (.int (a + (i : Nat))) else none := by
      simp only [itm, List.getElem?_map]
      by_cases hl : i < (b - a).toNat
      · rw [List.getElem?_range hl, if_pos hl]; rfl
      · rw [List.getElem?_eq_none (by simpa using hl), if_neg hl]; rfl
    rw [hi]
    by_cases hl : i < (b - a).toNat
    · rw [if_pos hl]
      refine ⟨fun d hd => ?_, fun hn => (nomatch hn)⟩
      cases hd
      refine ⟨hl, fun x H2 ⟨e2, y⟩ => ?_⟩
      subst e2 y
      exact ⟨F1, am1, .refl, s, .int _⟩
    · rw [if_neg hl]
      exact ⟨fun d hd => (nomatch hd), fun _ _ => Nat.le_of_not_lt hl⟩
  · cases e
theorem wk_enumQ {a : Addr} {ds : List D} {vs : List V} (i0 : ∀ x ∈ am, F x) (k : RDs z F am H ds vs) (q : ∀ F1 am1 H1, Exq F am H F1 am1 H1 → SqL K H1 a vs) : WkQ z (.fix (enumD 0 ds)) F am H (Ite K a) := by
  intro F1 am1 H1 h1 e s i
  have k1 := k.exq e i0
  have q1 := q _ _ _ e
  have hi : itm (.fix (enumD 0 ds)) h1 i = _ := enum_at ds 0 i
  rw [hi]
  cases hd : ds[i]? with
  | none => exact ⟨fun d hd => (nomatch hd), fun _ _ => ⟨vs, q1, by rw [← k1.length]; exact List.getElem?_eq_none_iff.mp hd⟩⟩
  | some d0 =>
    refine ⟨fun d hd' => ?_, fun hn => (nomatch hn)⟩
    cases hd'
    obtain ⟨v, g1, g2⟩ := k1.get hd
    refine ⟨⟨vs, v, q1, g1⟩, fun x H2 ⟨T, y, e2, hT, e3, w⟩ => ?_⟩
    subst e2 e3
    have := w vs q1
    rw [g1] at this; cases this
    have e4 : ((0 + i : Nat) : Int) = (i : Nat) := by simp
    rw [e4]
    exact pair_new s hT (.int _) g2
theorem wk_enmQ {a : Addr} {n : Nat} (q : am[n]? = some a) : WkQ z (.enm n) F am H (Ite K a) := by
  intro F1 am1 H1 h1 e s i
  obtain ⟨t, e1⟩ := e.pre
  have q1 : am1[n]? = some a := by rw [e1, List.getElem?_append_left (List.getElem?_eq_some_iff.mp q).1]; exact q
  have hl : n < h1.length := by rw [← s.len]; exact (List.getElem?_eq_some_iff.mp q1).1
  have e2 : h1[n]? = some h1[n] := List.getElem?_eq_getElem hl
  have ho := s.obj n a _ q1 e2
  generalize h1[n] = o at e2 ho
  cases o with
  | lst ds =>
    obtain ⟨vs, e3, k⟩ := ho
    have hi : itm (.enm n) h1 i = (ds[i]?).map fun x => .tup [.int (i : Nat), x] := by simp only [itm, e2]
    rw [hi]
    cases hd : ds[i]? with
    | none => exact ⟨fun d hd => (nomatch hd), fun _ _ => ⟨vs, SqL.of e3, by rw [← k.length]; exact List.getElem?_eq_none_iff.mp hd⟩⟩
    | some d0 =>
      refine ⟨fun d hd' => ?_, fun hn => (nomatch hn)⟩
      cases hd'
      obtain ⟨v, g1, g2⟩ := k.get hd
      refine ⟨⟨vs, v, SqL.of e3, g1⟩, fun x H2 ⟨T, y, e2, hT, e4, w⟩ => ?_⟩
      subst e2 e4
      have := w vs (SqL.of e3)
      rw [g1] at this; cases this
      exact pair_new s hT (.int _) g2
  | dct ds =>
    have hi : itm (.enm n) h1 i = none := by simp only [itm, e2]
    have hs : srcOk (.enm n) h1 = false := by simp only [srcOk, e2]
    rw [hi, hs]
    exact ⟨fun d hd => (nomatch hd), fun _ hn => (nomatch hn)⟩
theorem wk_enumTQ {a : Addr} {ds : List D} {vs : List V} (i0 : ∀ x ∈ am, F x) (k : RDs z F am H ds vs) (q : ∀ F1 am1 H1, Exq F am H F1 am1 H1 → SqT K H1 a vs) : WkQ z (.fix (enumD 0 ds)) F am H (IteT K a) := by
  intro F1 am1 H1 h1 e s i
  have k1 := k.exq e i0
  have q1 := q _ _ _ e
  have hi : itm (.fix (enumD 0 ds)) h1 i = _ := enum_at ds 0 i
  rw [hi]
  cases hd : ds[i]? with
  | none => exact ⟨fun d hd => (nomatch hd), fun _ _ => ⟨vs, q1, by rw [← k1.length]; exact List.getElem?_eq_none_iff.mp hd⟩⟩
  | some d0 =>
    refine ⟨fun d hd' => ?_, fun hn => (nomatch hn)⟩
    cases hd'
    obtain ⟨v, g1, g2⟩ := k1.get hd
    refine ⟨⟨vs, v, q1, g1⟩, fun x H2 ⟨T, y, e2, hT, e3, w⟩ => ?_⟩
    subst e2 e3
    have := w vs q1
    rw [g1] at this; cases this
    have e4 : ((0 + i : Nat) : Int) = (i : Nat) := by simp
    rw [e4]
    exact pair_new s hT (.int _) g2
theorem wk_zipLQ {a b : Addr} {ds es : List D} {vs ws : List V} (i0 : ∀ x ∈ am, F x) (k : RDs z F am H ds vs) (l : RDs z F am H es ws) (q : ∀ F1 am1 H1, Exq F am H F1 am1 H1 → SqL K H1 a vs) (q' : ∀ F1 am1 H1, Exq F am H F1 am1 H1 → SqL K H1 b ws) : WkQ z (.fix (zipD ds es)) F am H (Itz K a b) := by
  intro F1 am1 H1 h1 e s i
  have k1 := k.exq e i0
  have l1 := l.exq e i0
  have q1 := q _ _ _ e
  have q2 := q' _ _ _ e
  have hi : itm (.fix (zipD ds es)) h1 i = _ := zip_at ds es i
  rw [hi]
  cases hd : ds[i]? with
  | none => exact ⟨fun d hd => (nomatch hd), fun _ _ => ⟨vs, ws, q1, q2, .inl (by rw [← k1.length]; exact List.getElem?_eq_none_iff.mp hd)⟩⟩
  | some d0 =>
    cases he : es[i]? with
    | none => exact ⟨fun d hd => (nomatch hd), fun _ _ => ⟨vs, ws, q1, q2, .inr (by rw [← l1.length]; exact List.getElem?_eq_none_iff.mp he)⟩⟩
    | some e0 =>
      refine ⟨fun d hd' => ?_, fun hn => (nomatch hn)⟩
      cases hd'
      obtain ⟨v, g1, g2⟩ := k1.get hd
      obtain ⟨u, f1, f2⟩ := l1.get he
      refine ⟨⟨vs, ws, v, u, q1, q2, g1, f1⟩, fun x H2 ⟨T, y, y2, e2, hT, e3, w, w2⟩ => ?_⟩
      subst e2 e3
      have := w vs q1
      rw [g1] at this; cases this
      have := w2 ws q2
      rw [f1] at this; cases this
      exact pair_new s hT g2 f2
theorem wk_zipTQ {a b : Addr} {ds es : List D} {vs ws : List V} (i0 : ∀ x ∈ am, F x) (k : RDs z F am H ds vs) (l : RDs z F am H es ws) (q : ∀ F1 am1 H1, Exq F am H F1 am1 H1 → SqT K H1 a vs) (q' : ∀ F1 am1 H1, Exq F am H F1 am1 H1 → SqT K H1 b ws) : WkQ z (.fix (zipD ds es)) F am H (RZ.ItzT K a b) := by
  intro F1 am1 H1 h1 e s i
  have k1 := k.exq e i0
  have l1 := l.exq e i0
  have q1 := q _ _ _ e
  have q2 := q' _ _ _ e
  have hi : itm (.fix (zipD ds es)) h1 i = _ := zip_at ds es i
  rw [hi]
  cases hd : ds[i]? with
  | none => exact ⟨fun d hd => (nomatch hd), fun _ _ => ⟨vs, ws, q1, q2, .inl (by rw [← k1.length]; exact List.getElem?_eq_none_iff.mp hd)⟩⟩
  | some d0 =>
    cases he : es[i]? with
    | none => exact ⟨fun d hd => (nomatch hd), fun _ _ => ⟨vs, ws, q1, q2, .inr (by rw [← l1.length]; exact List.getElem?_eq_none_iff.mp he)⟩⟩
    | some e0 =>
      refine ⟨fun d hd' => ?_, fun hn => (nomatch hn)⟩
      cases hd'
      obtain ⟨v, g1, g2⟩ := k1.get hd
      obtain ⟨u, f1, f2⟩ := l1.get he
      refine ⟨⟨vs, ws, v, u, q1, q2, g1, f1⟩, fun x H2 ⟨T, y, y2, e2, hT, e3, w, w2⟩ => ?_⟩
      subst e2 e3
      have := w vs q1
      rw [g1] at this; cases this
      have := w2 ws q2
      rw [f1] at this; cases this
      exact pair_new s hT g2 f2
theorem keepLQ {a : Addr} {vs : List V} (i0 : ∀ x ∈ am, F x) (e : H a = some (.lst vs)) (n : ¬ F a) : ∀ F1 am1 H1, Exq F am H F1 am1 H1 → SqL K H1 a vs := fun F1 am1 H1 x => SqL.of (x.rd i0 e n).1
theorem keepTQ {a : Addr} {vs : List V} (i0 : ∀ x ∈ am, F x) (e : H a = some (.tup vs)) (n : ¬ F a) : ∀ F1 am1 H1, Exq F am H F1 am1 H1 → SqT K H1 a vs := fun F1 am1 H1 x => SqT.of (x.rd i0 e n).1
theorem keepSQ {a : Addr} {o : Obj} {vs : List V} (i0 : ∀ x ∈ am, F x) (e : H a = some (.frz o (.lst vs))) (n : ¬ F a) : ∀ F1 am1 H1, Exq F am H F1 am1 H1 → SqL K H1 a vs := fun F1 am1 H1 x => .inl (.inr ⟨o, (x.rd i0 e n).1⟩)
theorem rngC_bound {a b c : Int} {ds : List D} (e : rangeC a b c = some ds) : RgC a b c (Builtin.Range.rangeSize a b c).toNat := by
  unfold rangeC at e
  split at e
  · rename_i h
    simp only [Bool.and_eq_true, decide_eq_true_eq] at h
    exact ⟨h.1.1.1, h.1.1.2, h.1.2, by omega⟩
  · cases e
theorem wk_rngCQ {a b c : Int} {ds : List D} (e : rangeC a b c = some ds) : WkQ z (.fix ds) F am H (Itc a c (Builtin.Range.rangeSize a b c).toNat) := by
  unfold rangeC at e
  generalize (Builtin.Range.rangeSize a b c).toNat = n at e ⊢
  split at e
  · cases e
    intro F1 am1 H1 h1 e s i
    have hi : itm (.fix ((List.range n).map fun k => D.int (a + (k : Nat) * c))) h1 i = if i < n then some (.int (a + (i : Nat) * c)) else none := by
      simp only [itm, List.getElem?_map]
      by_cases hl : i < n
      · rw [List.getElem?_range hl, if_pos hl]; rfl
      · rw [List.getElem?_eq_none (by simpa using hl), if_neg hl]; rfl
    rw [hi]
    by_cases hl : i < n
    · rw [if_pos hl]
      refine ⟨fun d hd => ?_, fun hn => (nomatch hn)⟩
      cases hd
      refine ⟨hl, fun x H2 ⟨e2, y⟩ => ?_⟩
      subst e2 y
      exact ⟨F1, am1, .refl, s, .int _⟩
    · rw [if_neg hl]
      exact ⟨fun d hd => (nomatch hd), fun _ _ => Nat.le_of_not_lt hl⟩
  · cases e
end
def tIQ (z : Si) (it : It) : TI := fun σ H R => ∃ S F am h, Rel z.rc F am H h S σ ∧ SatR z σ F am H (evI z.sub z.call it S h) (fun src _ F' am' H' => ∀ J, WkQ z.rc src F' am' H' J → R J H')
theorem toI {z : Si} {X : Cx} {tg e : Expr} {it : It} (h : PI X tg e (tIQ z it)) : PI X tg e (tI z it) := h.imp fun σ H R ⟨S, F, am, hs, r, q⟩ => ⟨S, F, am, hs, r, q.mono fun src h1 F1 am1 H1 _ e1 s1 q1 J w => q1 J (w.wk s1.inF)⟩
section
variable {z : Si} {X : Cx} {N : List Str} {G : GT} {sc : Scope} {hot : Bool}
theorem i_val {tg x : Expr} {e : E} (hK : X.K = z.rc.K) (he : PE X x (tE z e)) : PI X tg x (tIQ z (.val e)) := by
  refine ⟨fun pins s σ H R I ⟨S, F, am, hs, r, q⟩ => ?_⟩
  simp only [evI] at q
  have byL : iList X.K (tE z e) σ H R → _ := (pi_list (tg := tg) he).run pins s σ H R I
  have byT : iTup X.K (tE z e) σ H R → _ := (pi_tup (tg := tg) he).run pins s σ H R I
  cases hr : ev z.sub z.call e S hs with
  | bad => rw [hr] at q; exact q.elim
  | exc c v h1 =>
    refine byL ⟨S, F, am, hs, r, ?_⟩
    rw [hr] at q ⊢
    exact q
  | ok d h1 =>
    rw [hr] at q
    have q : SatR z σ F am H _ _ := q
    cases d <;> first | exact q.elim | skip
    · refine byT ⟨S, F, am, hs, r, ?_⟩
      rw [hr]
      intro F1 am1 H1 e1 s1 v rv
      cases rv with
      | tup g n k => exact ⟨_, rfl, ⟨_, SqT.of g⟩, q F1 am1 H1 e1 s1 _ (wk_fixTQ s1.inF k (keepTQ s1.inF g n))⟩
    · refine byL ⟨S, F, am, hs, r, ?_⟩
      rw [hr]
      intro F1 am1 H1 e1 s1 v rv
      cases rv with
      | lst g n k => exact ⟨_, rfl, ⟨_, SqL.of g⟩, q F1 am1 H1 e1 s1 _ (wk_fixLQ s1.inF k (keepLQ s1.inF g n))⟩
    · rename_i n0 q0
      refine byL ⟨S, F, am, hs, r, ?_⟩
      rw [hr]
      intro F1 am1 H1 e1 s1 v rv
      cases rv with
      | ref g =>
        have hl := (List.getElem?_eq_some_iff.mp g).1
        rw [s1.len] at hl
        have q : SatR z σ F am H ((if srcOk (.dyn n0) h1 = true then .ok (Src.dyn n0) h1 else .bad : Ci.R Src)) _ := q
        have hok : srcOk (.dyn n0) h1 = true := by
          cases hb : srcOk (.dyn n0) h1 with
          | true => rfl
          | false =>
            rw [hb] at q
            exact q.elim
        rw [if_pos hok] at q
        have q : SatR z σ F am H (.ok (Src.dyn n0) h1 : Ci.R Src) _ := q
        refine ⟨_, rfl, ?_, q F1 am1 H1 e1 s1 _ (wk_dynQ g)⟩
        obtain ⟨o, eo⟩ : ∃ o, h1[_]? = some o := ⟨_, List.getElem?_eq_getElem hl⟩
        have ho := s1.obj _ _ _ g eo
        cases o with
        | lst ds => obtain ⟨vs, g1, g2⟩ := ho; exact ⟨vs, SqL.of g1⟩
        | dct ds => simp only [srcOk, eo, Bool.false_eq_true] at hok
    · refine byL ⟨S, F, am, hs, r, ?_⟩
      rw [hr]
      intro F1 am1 H1 e1 s1 v rv
      cases rv with
      | scr g n k => exact ⟨_, rfl, ⟨_, keepS s1.inF g n _ _ _ .refl⟩, q F1 am1 H1 e1 s1 _ (wk_fixLQ s1.inF k (keepSQ s1.inF g n))⟩
      | scrK g k => exact ⟨_, rfl, ⟨_, by rw [hK]; exact sqK g _⟩, q F1 am1 H1 e1 s1 _ (wk_fixLQ s1.inF k fun _ _ _ _ => by rw [hK]; exact sqK g _)⟩
theorem liftI {o : Option (List D)} {f : List D → Src} {h : Hs} {σ : SV} {F : Addr → Prop} {am : List Addr} {H : Hp} {P : Src → Hs → (Addr → Prop) → List Addr → Hp → Prop} (q : SatR z σ F am H (liftO (o.map f) h) P) (s : Sto z.rc F am H h) : ∃ xs, o = some xs ∧ P (f xs) h F am H := by
  cases o with
  | none => exact q.elim
  | some xs => exact ⟨xs, rfl, SatR.now q s⟩
theorem i_rng1 {tg x : Expr} {a : E} {p p2 : Pos} (ok : Ok z X N G sc hot) (hg : gl sc "range" = true) (hb : isTy G "range" "range" = true) (hs : noStar x = true) (ha : PE X x (tE z a)) : PI X tg (.Call (.Name "range" p) [x] [] p2) (tIQ z (.rng1 a)) := by
  obtain ⟨g1, g2, g3⟩ := gl_ok ok hg
  refine (pi_range1 g1 (ty_at ok hb).1 (pa_cons ha pa_nil (star_ok hs)) (star_ok hs)).imp fun σ H R ⟨S, F, am, h, r, q⟩ => ?_
  simp only [evI] at q
  refine ⟨S, F, am, h, r, q.bind r.sto.inF fun d h1 F1 am1 H1 _ e1 s1 q1 v rv => ?_⟩
  cases d <;> first | exact q1.elim | skip
  cases rv
  obtain ⟨xs, e2, q2⟩ := liftI q1 s1
  obtain ⟨b1, b2, b3, b4⟩ := rng_bound e2
  refine ⟨_, rfl, b3, b4, ?_⟩
  have := q2 _ (wk_rngQ e2)
  simpa using this
theorem i_rng2 {tg x y : Expr} {a b : E} {p p2 : Pos} (ok : Ok z X N G sc hot) (hg : gl sc "range" = true) (hb : isTy G "range" "range" = true) (hs : noStar x = true) (hs2 : noStar y = true) (ha : PE X x (tE z a)) (hb' : PE X y (tE z b)) : PI X tg (.Call (.Name "range" p) [x, y] [] p2) (tIQ z (.rng2 a b)) := by
  obtain ⟨g1, g2, g3⟩ := gl_ok ok hg
  refine (pi_range2 g1 (ty_at ok hb).1 (pa_cons ha (pa_cons hb' pa_nil (star_ok hs2)) (star_ok hs)) (by rw [star_ok hs, star_ok hs2]; rfl) (by rw [star_ok hs2]; rfl)).imp fun σ H R ⟨S, F, am, h, r, q⟩ => ?_
  simp only [evI] at q
  refine ⟨S, F, am, h, r, q.bind r.sto.inF fun d h1 F1 am1 H1 _ e1 s1 q1 v rv => ⟨S, F1, am1, h1, r.to e1 s1, q1.bind s1.inF fun e h2 F2 am2 H2 _ e2 s2 q2 u ru => ?_⟩⟩
  cases d <;> first | exact q2.elim | skip
  cases e <;> first | exact q2.elim | skip
  cases rv
  cases ru
  obtain ⟨xs, e3, q3⟩ := liftI q2 s2
  obtain ⟨b1, b2, b3, b4⟩ := rng_bound e3
  exact ⟨_, _, rfl, ⟨b1, b2, b3, b4⟩, q3 _ (wk_rngQ e3)⟩
theorem i_rng3 {tg x y w : Expr} {a b c : E} {p p2 : Pos} (ok : Ok z X N G sc hot) (hg : gl sc "range" = true) (hb : isTy G "range" "range" = true) (hs : noStar x = true) (hs2 : noStar y = true) (hs3 : noStar w = true) (ha : PE X x (tE z a)) (hb' : PE X y (tE z b)) (hc' : PE X w (tE z c)) : PI X tg (.Call (.Name "range" p) [x, y, w] [] p2) (tIQ z (.rng3 a b c)) := by
  obtain ⟨g1, g2, g3⟩ := gl_ok ok hg
  refine (pi_range3 g1 (ty_at ok hb).1 (pa_cons ha (pa_cons hb' (pa_cons hc' pa_nil (star_ok hs3)) (star_ok hs2)) (star_ok hs)) (by rw [star_ok hs]) (by rw [star_ok hs2, star_ok hs3]; rfl)).imp fun σ H R ⟨S, F, am, h, r, q⟩ => ?_
  simp only [evI] at q
  refine ⟨S, F, am, h, r, q.bind r.sto.inF fun d h1 F1 am1 H1 _ e1 s1 q1 v rv => ⟨S, F1, am1, h1, r.to e1 s1, q1.bind s1.inF fun e h2 F2 am2 H2 _ e2 s2 q2 u ru => ⟨S, F2, am2, h2, (r.to e1 s1).to e2 s2, q2.bind s2.inF fun f h3 F3 am3 H3 _ e3 s3 q3 t rt => ?_⟩⟩⟩
  cases d <;> first | exact q3.elim | skip
  cases e <;> first | exact q3.elim | skip
  cases f <;> first | exact q3.elim | skip
  cases rv
  cases ru
  cases rt
  obtain ⟨xs, e4, q4⟩ := liftI q3 s3
  exact ⟨_, _, _, _, rfl, rngC_bound e4, q4 _ (wk_rngCQ e4)⟩
theorem i_enum {es : List Expr} {k : Nat} {tp : Pos} {x : Expr} {a : E} {p p2 : Pos} (ok : Ok z X N G sc hot) (hg : gl sc "enumerate" = true) (hb : isTy G "enumerate" "enumerate" = true) (hs : noStar x = true) (ha : PE X x (tE z a)) : PI X (.Tuple es k tp) (.Call (.Name "enumerate" p) [x] [] p2) (tIQ z (.enum a)) := by
  obtain ⟨g1, g2, g3⟩ := gl_ok ok hg
  refine (pi_enumA g1 (ty_at ok hb).1 (pa_cons ha pa_nil (star_ok hs)) (star_ok hs)).imp fun σ H R ⟨S, F, am, h, r, q⟩ => ?_
  simp only [evI] at q
  refine ⟨S, F, am, h, r, q.bind r.sto.inF fun d h1 F1 am1 H1 _ e1 s1 q1 v rv => ?_⟩
  cases d <;> first | exact q1.elim | skip
  · cases rv with
    | tup g n k => exact ⟨_, _, rfl, .inr ⟨SqT.of g, SatR.now q1 s1 _ (wk_enumTQ s1.inF k (keepTQ s1.inF g n))⟩⟩
  · cases rv with
    | lst g n k => exact ⟨_, _, rfl, .inl ⟨SqL.of g, SatR.now q1 s1 _ (wk_enumQ s1.inF k (keepLQ s1.inF g n))⟩⟩
  · rename_i n0 hd0
    cases rv with
    | ref g =>
      have hl := (List.getElem?_eq_some_iff.mp g).1
      rw [s1.len] at hl
      simp only at q1
      cases hok : srcOk (.dyn n0) h1 with
      | false => rw [hok] at q1; exact q1.elim
      | true =>
        rw [hok] at q1
        obtain ⟨o, eo⟩ : ∃ o, h1[n0]? = some o := ⟨_, List.getElem?_eq_getElem hl⟩
        have ho := s1.obj _ _ _ g eo
        cases o with
        | lst ds =>
          obtain ⟨vs, g1, g2⟩ := ho
          exact ⟨_, vs, rfl, .inl ⟨SqL.of g1, SatR.now q1 s1 _ (wk_enmQ g)⟩⟩
        | dct ds => simp only [srcOk, eo, Bool.false_eq_true] at hok
theorem i_zip {es : List Expr} {k : Nat} {tp : Pos} {x y : Expr} {a b : E} {p p2 : Pos} (ok : Ok z X N G sc hot) (hg : gl sc "zip" = true) (hb : isTy G "zip" "zip" = true) (hs : noStar x = true) (hs2 : noStar y = true) (ha : PE X x (tE z a)) (hb' : PE X y (tE z b)) : PI X (.Tuple es k tp) (.Call (.Name "zip" p) [x, y] [] p2) (tIQ z (.zip2 a b)) := by
  obtain ⟨g1, g2, g3⟩ := gl_ok ok hg
  refine (RZ.pi_zipA g1 (ty_at ok hb).1 (pa_cons ha (pa_cons hb' pa_nil (star_ok hs2)) (star_ok hs)) (by rw [star_ok hs]) (by rw [star_ok hs2]; rfl)).imp fun σ H R ⟨S, F, am, h, r, q⟩ => ?_
  simp only [evI] at q
  refine ⟨S, F, am, h, r, q.bind r.sto.inF fun d h1 F1 am1 H1 _ e1 s1 q1 v rv => ⟨S, F1, am1, h1, r.to e1 s1, q1.bind s1.inF fun e h2 F2 am2 H2 _ e2 s2 q2 u ru => ?_⟩⟩
  have rv := rv.ext e2 s1.inF
  cases d <;> first | exact q2.elim | skip
  · cases e <;> first | exact q2.elim | skip
    cases rv with
    | tup g n k =>
      cases ru with
      | tup g' n' k' => exact ⟨_, _, _, _, rfl, .inr ⟨SqT.of g, SqT.of g', SatR.now q2 s2 _ (wk_zipTQ s2.inF k k' (keepTQ s2.inF g n) (keepTQ s2.inF g' n'))⟩⟩
  · cases e <;> first | exact q2.elim | skip
    cases rv with
    | lst g n k =>
      cases ru with
      | lst g' n' k' => exact ⟨_, _, _, _, rfl, .inl ⟨SqL.of g, SqL.of g', SatR.now q2 s2 _ (wk_zipLQ s2.inF k k' (keepLQ s2.inF g n) (keepLQ s2.inF g' n'))⟩⟩
theorem fold_ok {x : Expr} {env : Env} (h : noSet x = true) : ∀ v, foldedSetIterable x env v = pure v := by
  intro v
  cases x <;> first | rfl | cases h
end
end Ci

set_option Elab.async false
set_option linter.all false
set_option maxRecDepth 100000
set_option maxHeartbeats 4000000
namespace Ci
open PySem PySem.Spec PyProof.Rows L2
/-! ### comprehensions -/
theorem compF_G (turn : D → Hs → R (Option D)) (xs : List D) : ∀ (k i : Nat) (h : Hs), xs.length < i + k → i ≤ xs.length → compF turn (xs.drop i) h = compG turn (.fix xs) k i h
  | 0, i, h, h1, h2 => by omega
  | k + 1, i, h, h1, h2 => by
    unfold compG
    simp only [itm]
    by_cases hl : i < xs.length
    · rw [List.drop_eq_getElem_cons hl, List.getElem?_eq_getElem hl]
      simp only [compF]
      congr 1
      funext o h3
      rw [compF_G turn xs k (i + 1) h3 (by omega) (by omega)]
    · have e : i = xs.length := by omega
      subst e
      rw [List.drop_length, List.getElem?_eq_none (Nat.le_refl _)]
      rfl
section
variable {c : Rc} {F F1 : Addr → Prop} {am am1 : List Addr} {H H1 : Hp} {h : Hs} {d : D} {v : V} {ds : List D} {vs : List V} {p : Addr} {o : HO}
mutual
theorem RD.poke (k : F p) : ∀ {d : D} {v : V}, RD c F am H d v → RD c F am (upd H p o) d v
  | _, _, .non => .non
  | _, _, .bl b => .bl b
  | _, _, .int b => .int b
  | _, _, .str b => .str b
  | _, _, .tup r n l => .tup (by rw [upd_ne (fun e => n (by rw [e]; exact k))]; exact r) n (RDs.poke k l)
  | _, _, .lst r n l => .lst (by rw [upd_ne (fun e => n (by rw [e]; exact k))]; exact r) n (RDs.poke k l)
  | _, _, .scr r n l => .scr (by rw [upd_ne (fun e => n (by rw [e]; exact k))]; exact r) n (RDs.poke k l)
  | _, _, .scrK r l => .scrK r (RDs.poke k l)
  | _, _, .ref q => .ref q
  | _, _, .fn q => .fn q
  | _, _, .exc a b r n => .exc a b (by rw [upd_ne (fun e => n (by rw [e]; exact k))]; exact r) n
theorem RDs.poke (k : F p) : ∀ {ds : List D} {vs : List V}, RDs c F am H ds vs → RDs c F am (upd H p o) ds vs
  | _, _, .nil => .nil
  | _, _, .cons r l => .cons (RD.poke k r) (RDs.poke k l)
end
theorem Sto.poke (s : Sto c F am H h) (k : F p) (n : p ∉ am) : Sto c F am (upd H p o) h :=
  ⟨s.nd, s.len, s.inF, fun a q => by
    by_cases e : a = p
    · subst e; exact ⟨_, upd_same⟩
    · rw [upd_ne e]; exact s.ok a q, fun i a u q1 q2 => by
    have q := s.obj i a u q1 q2
    cases u with
    | lst es =>
      obtain ⟨xs, q3, q4⟩ := q
      exact ⟨xs, by rw [upd_ne (fun e => n (by rw [← e]; exact List.mem_of_getElem? q1))]; exact q3, q4.poke k⟩
    | dct es =>
      obtain ⟨xs, q3, qk, q4⟩ := q
      exact ⟨xs, by rw [upd_ne (fun e => n (by rw [← e]; exact List.mem_of_getElem? q1))]; exact q3, qk, q4.poke k⟩⟩
theorem Rel.poke {S : Sl} {σ : SV} (r : Rel c F am H h S σ) (k : F p) (n : p ∉ am) : Rel c F am (upd H p o) h S σ :=
  ⟨r.sto.poke k n, r.len, fun i d q => let ⟨v, h1, h2⟩ := r.sl i d q; ⟨v, h1, h2.poke k⟩⟩
theorem Ext.poke (e : Ext F am H F1 am1 H1) (n : H p = none) : Ext F am H F1 am1 (upd H1 p o) :=
  ⟨e.pre, fun a u q m => by rw [upd_ne (ne_of_none q n)]; exact e.keep a u q m, e.fr, e.up, e.nw⟩
theorem wipe_key {σ : SV} {i : Nat} {x : Option V} : ∀ {ws : List Nat}, i ∉ ws → L2.wipe (σ.set i x) ws = (L2.wipe σ ws).set i x
  | [], _ => rfl
  | w :: ws, hn => by
    simp only [List.mem_cons, not_or] at hn
    show (L2.wipe (σ.set i x) ws).set w none = ((L2.wipe σ ws).set w none).set i x
    rw [wipe_key hn.2, List.set_comm _ _ hn.1]
theorem wipe_set {σ : SV} {i : Nat} {x : Option V} {vs : List Nat} (h : i ∈ vs) : L2.wipe (σ.set i x) vs = L2.wipe σ vs := wipe_at σ h
theorem wipe_sub {σ : SV} {vs : List Nat} : ∀ {ws : List Nat}, (∀ i ∈ ws, i ∈ vs) → L2.wipe (L2.wipe σ ws) vs = L2.wipe σ vs
  | [], _ => rfl
  | w :: ws, h => by
    show L2.wipe ((L2.wipe σ ws).set w none) vs = L2.wipe σ vs
    rw [wipe_at _ (h w (by simp)), wipe_sub fun i hi => h i (by simp [hi])]
end
/-- no exception may leave -/
def Si.mute (z : Si) : Si := { z with W := fun _ _ _ _ => False }
section
variable {z : Si} {X : Cx} {N : List Str} {G : GT} {sc : Scope} {hot : Bool}
theorem SatL.noX {α β : Type} {σ σ2 : SV} {F F2 : Addr → Prop} {am am2 : List Addr} {H H2 : Hp} {Q : VK} {r : R α} {g : α → Hs → R β} {f : β → Hs → R (List D)} (q : SatL z σ F am H ((noX (r.bind g)).bind f) Q) :
    SatR z.mute σ2 F2 am2 H2 r (fun a h1 _ _ _ => SatL z σ F am H ((Ci.noX (g a h1)).bind f) Q) := by
  cases r with
  | ok a h => exact fun _ _ _ _ _ => q
  | exc c v h => exact q.elim
  | bad => exact q.elim
/-- the block's tests -/
def tCond (z : Si) (cond : E) : TT := if cond.isOmit then tYes else tB z cond
theorem lc_at {elt : E} {own : List Nat} {tg : Tg} {cond : E} {σ : SV} {Q : VK} {S : Sl} {F1 : Addr → Prop} {am1 : List Addr} {H1 : Hp} {h1 : Hs} {src : Src} {J : L2.It} (hown : ∀ i ∈ tgIx tg, i ∈ own) (r0 : Rel z.rc F1 am1 H1 h1 S σ) (w : Wk z.rc src F1 am1 H1 J)
    (q1 : SatL z σ F1 am1 H1 (match (generalizing := false) src with
      | .fix xs => if okL xs.length then compF (fun (x : D) (h2 : Hs) => match put (wipe S own) x tg with
      | some S2 => noX ((if cond.isOmit then (.ok true h2 : R Bool) else tru (ev z.sub z.call cond S2 h2)).bind fun k h3 => if k then (ev z.sub z.call elt S2 h3).bind fun y h4 => .ok (some y) h4 else .ok none h3)
      | none => (.bad : R (Option D))) xs h1 else .bad
      | .dyn n => compG (fun (x : D) (h2 : Hs) => match put (wipe S own) x tg with
      | some S2 => noX ((if cond.isOmit then (.ok true h2 : R Bool) else tru (ev z.sub z.call cond S2 h2)).bind fun k h3 => if k then (ev z.sub z.call elt S2 h3).bind fun y h4 => .ok (some y) h4 else .ok none h3)
      | none => (.bad : R (Option D))) (.dyn n) wfuel 0 h1
      | .enm n => compG (fun (x : D) (h2 : Hs) => match put (wipe S own) x tg with
      | some S2 => noX ((if cond.isOmit then (.ok true h2 : R Bool) else tru (ev z.sub z.call cond S2 h2)).bind fun k h3 => if k then (ev z.sub z.call elt S2 h3).bind fun y h4 => .ok (some y) h4 else .ok none h3)
      | none => (.bad : R (Option D))) (.enm n) wfuel 0 h1) Q) (p : Addr) (hp : H1 p = none) :
    ∃ W : Nat → Nat → Hp → Prop, (∃ m, W 0 m (upd H1 p (.lst []))) ∧ ∀ i m H, W i m H →
  (J.stop i H ∧ Q (.ref p) H) ∨ (J.go i H ∧ ∃ Nx : Hp → Prop, (∀ H', Nx H' → ∃ m', m' < m ∧ W (i + 1) m' H') ∧ ∀ x H', J.yld i H x H' → tG z.mute tg x (L2.wipe σ own) H' fun σ2 H2 => L2.wipe σ2 own = L2.wipe σ own ∧ tCond z.mute cond σ2 H2 fun b H3 =>
    if b = true then tE z.mute elt σ2 H3 fun y H4 => ∃ acc, H4 p = some (.lst acc) ∧ acc.length < sizeLine ∧ Nx (upd H4 p (.lst (acc ++ [y]))) else Nx H3) := by
  have s1 := r0.sto
  have r1 := r0.wiped own
  obtain ⟨e2, s2, np⟩ := s1.guard hp []
  have r2 := r1.to e2 s2
  generalize hturn : (fun (x : D) (h2 : Hs) => match put (wipe S own) x tg with
      | some S2 => noX ((if cond.isOmit then (.ok true h2 : R Bool) else tru (ev z.sub z.call cond S2 h2)).bind fun k h3 => if k then (ev z.sub z.call elt S2 h3).bind fun y h4 => .ok (some y) h4 else .ok none h3)
      | none => (.bad : R (Option D))) = turn at q1
  -- one form for both sources
  have q2 : ∃ k, k ≤ sizeLine + 1 ∧ SatL z σ F1 am1 H1 (compG turn src k 0 h1) Q := by
    cases src with
    | fix xs =>
      simp only at q1
      split at q1
      · rename_i hl
        refine ⟨xs.length + 1, Nat.succ_le_succ (okL_le hl), ?_⟩
        rw [← compF_G turn xs (xs.length + 1) 0 h1 (by omega) (Nat.zero_le _)]
        exact q1
      · exact q1.elim
    | dyn n => exact ⟨wfuel, by decide, q1⟩
    | enm n => exact ⟨wfuel, by decide, q1⟩
  obtain ⟨k0, hk0, q2⟩ := q2
  refine ⟨fun i m H' => ∃ F' am' h' acc accV, Ext F1 am1 H1 F' am' H' ∧ Rel z.rc F' am' H' h' (wipe S own) (L2.wipe σ own) ∧ F' p ∧ p ∉ am' ∧ H' p = some (.lst accV) ∧ RDs z.rc F' am' H' acc accV ∧ acc.length + m ≤ sizeLine + 1 ∧
      SatL z σ F1 am1 H1 ((compG turn src m i h').bind fun ys h2 => .ok (acc ++ ys) h2) Q, ⟨k0, _, am1, h1, [], [], e2, r2, .inr rfl, np, upd_same, .nil, by simpa using hk0, ?_⟩, ?_⟩
  · have : ((compG turn src k0 0 h1).bind fun ys h2 => R.ok ([] ++ ys) h2) = compG turn src k0 0 h1 := by
      cases compG turn src k0 0 h1 <;> rfl
    rw [this]; exact q2
  · intro i m H' ⟨F', am', h', acc, accV, e3, r3, fp, np3, hD, kD, hm, q3⟩
    cases m with
    | zero => exact q3.elim
    | succ k =>
      unfold compG at q3
      obtain ⟨w1, w2⟩ := w F' am' H' h' e3 r3.sto i
      cases hi : itm src h' i with
      | none =>
        rw [hi] at q3
        have q3 : SatL z σ F1 am1 H1 ((if srcOk src h' = true then .ok [] h' else .bad : Ci.R (List D)).bind fun ys h2 => .ok (acc ++ ys) h2) Q := q3
        cases hb : srcOk src h' with
        | false => rw [hb] at q3; exact q3.elim
        | true =>
          rw [hb] at q3
          refine .inl ⟨w2 hi hb, ?_⟩
          exact q3 F' am' H' p accV e3 r3.sto hD (by simpa using kD) fp np3 hp
      | some x =>
        rw [hi] at q3
        obtain ⟨g1, g2⟩ := w1 x hi
        refine .inr ⟨g1, _, fun H'' nx => ⟨k, Nat.lt_succ_self _, nx⟩, fun x' H'' y => ?_⟩
        obtain ⟨F4, am4, e4, s4, rx⟩ := g2 x' H'' y
        have r4 := r3.to e4 s4
        have e34 := e3.trans e4 s1.inF
        -- the list at p, some steps on
        have keep : ∀ {F5 am5 H5}, Ext F' am' H' F5 am5 H5 → H5 p = some (.lst accV) ∧ p ∉ am5 ∧ F5 p ∧ RDs z.rc F5 am5 H5 acc accV := fun {F5 am5 H5} e => by
          refine ⟨e.keep _ _ hD np3, fun hm' => ?_, e.up p fp, kD.ext e r3.sto.inF⟩
          have := e.nw p hm' np3
          rw [hD] at this; cases this
        have q3 : SatL z σ F1 am1 H1 (((turn x h').bind fun o h1 => (compG turn src k (i + 1) h1).bind fun ys h2 => match o with
            | some y => .ok (y :: ys) h2
            | none => .ok ys h2).bind fun ys h2 => .ok (acc ++ ys) h2) Q := q3
        have assoc : ∀ r : R (Option D), ((r.bind fun o h1 => (compG turn src k (i + 1) h1).bind fun ys h2 => match o with
            | some y => R.ok (y :: ys) h2
            | none => R.ok ys h2).bind fun ys h2 => R.ok (acc ++ ys) h2) = r.bind fun o h1 => (compG turn src k (i + 1) h1).bind fun ys h2 => R.ok (acc ++ (match o with | some y => [y] | none => []) ++ ys) h2 := by
          intro r
          cases r with
          | ok o h1 =>
            show ((compG turn src k (i + 1) h1).bind _).bind _ = (compG turn src k (i + 1) h1).bind _
            cases compG turn src k (i + 1) h1 with
            | ok ys h2 =>
              cases o with
              | none => simp [R.bind]
              | some y => simp [R.bind]
            | exc c v h => rfl
            | bad => rfl
          | exc c v h => rfl
          | bad => rfl
        rw [assoc] at q3
        rw [← hturn] at q3
        simp only at q3
        cases hput : put (wipe S own) x tg with
        | none => rw [hput] at q3; exact q3.elim
        | some S2 =>
          rw [hput] at q3
          rw [hturn] at q3
          refine ⟨_, F4, am4, h', x, S2, r4, rx, hput, fun σ2 rσ sb => ⟨?_, ?_⟩⟩
          · rw [sb own hown, wipe_sub fun i hi => hi]
          · -- the test, then the element
            have fin : ∀ b h3 F5 am5 H5, Ext F4 am4 H'' F5 am5 H5 → Sto z.rc F5 am5 H5 h3 →
                SatL z σ F1 am1 H1 ((noX (if b = true then (ev z.sub z.call elt S2 h3).bind fun y h4 => R.ok (some y) h4 else R.ok none h3)).bind fun o h1 => (compG turn src k (i + 1) h1).bind fun ys h2 => R.ok (acc ++ (match o with | some y => [y] | none => []) ++ ys) h2) Q →
                (if b = true then tE z.mute elt σ2 H5 fun y H4 => ∃ acc, H4 p = some (.lst acc) ∧ acc.length < sizeLine ∧ (∃ F' am' h' acc' accV, Ext F1 am1 H1 F' am' (upd H4 p (.lst (acc ++ [y]))) ∧ Rel z.rc F' am' (upd H4 p (.lst (acc ++ [y]))) h' (wipe S own) (L2.wipe σ own) ∧ F' p ∧ p ∉ am' ∧ (upd H4 p (.lst (acc ++ [y]))) p = some (.lst accV) ∧ RDs z.rc F' am' (upd H4 p (.lst (acc ++ [y]))) acc' accV ∧ acc'.length + k ≤ sizeLine + 1 ∧
                    SatL z σ F1 am1 H1 ((compG turn src k (i + 1) h').bind fun ys h2 => .ok (acc' ++ ys) h2) Q)
                  else (∃ F' am' h' acc' accV, Ext F1 am1 H1 F' am' H5 ∧ Rel z.rc F' am' H5 h' (wipe S own) (L2.wipe σ own) ∧ F' p ∧ p ∉ am' ∧ H5 p = some (.lst accV) ∧ RDs z.rc F' am' H5 acc' accV ∧ acc'.length + k ≤ sizeLine + 1 ∧
                    SatL z σ F1 am1 H1 ((compG turn src k (i + 1) h').bind fun ys h2 => .ok (acc' ++ ys) h2) Q)) := by
              intro b h3 F5 am5 H5 e5 s5 q5
              cases b with
              | false =>
                rw [if_neg Bool.false_ne_true] at q5 ⊢
                obtain ⟨k1, k2, k3, k4⟩ := keep (e4.trans e5 r3.sto.inF)
                have q5 : SatL z σ F1 am1 H1 ((compG turn src k (i + 1) h3).bind fun ys h2 => R.ok (acc ++ [] ++ ys) h2) Q := q5
                rw [List.append_nil] at q5
                exact ⟨F5, am5, h3, acc, accV, e34.trans e5 s1.inF, r4.to e5 s5, k3, k2, k1, k4, by omega, q5⟩
              | true =>
                rw [if_pos rfl] at q5 ⊢
                refine ⟨S2, F5, am5, h3, rσ.to e5 s5, (SatL.noX q5).mono fun y h6 F6 am6 H6 _ e6 s6 q6 u ru => ?_⟩
                have q6 : SatL z σ F1 am1 H1 ((compG turn src k (i + 1) h6).bind fun ys h2 => R.ok (acc ++ [y] ++ ys) h2) Q := q6
                obtain ⟨k1, k2, k3, k4⟩ := keep ((e4.trans e5 r3.sto.inF).trans e6 r3.sto.inF)
                have hk : 1 ≤ k := by
                  cases k with
                  | zero => exact q6.elim
                  | succ k => omega
                refine ⟨accV, k1, by rw [← kD.length]; omega, F6, am6, h6, acc ++ [y], accV ++ [u], ((e34.trans e5 s1.inF).trans e6 s1.inF).poke hp, ((r4.to e5 s5).to e6 s6).poke k3 k2, k3, k2, upd_same, (k4.append (.cons ru .nil)).poke k3, ?_, q6⟩
                simp only [List.length_append, List.length_singleton]; omega
            unfold tCond
            cases ho : cond.isOmit with
            | true =>
              rw [if_pos rfl]
              rw [ho] at q3
              exact fin true h' F4 am4 H'' .refl s4 q3
            | false =>
              rw [if_neg Bool.false_ne_true]
              rw [ho] at q3
              have q3 : SatL z σ F1 am1 H1 ((noX ((tru (ev z.sub z.call cond S2 h')).bind fun k h3 => if k then (ev z.sub z.call elt S2 h3).bind fun y h4 => .ok (some y) h4 else .ok none h3)).bind _) Q := q3
              exact ⟨S2, F4, am4, h', rσ, (SatL.noX q3).mono fun b h3 F5 am5 H5 _ e5 s5 q5 => fin b h3 F5 am5 H5 e5 s5 q5⟩
theorem lc_sim {elt : E} {own : List Nat} {tg : Tg} {it : It} {cond : E} {σ : SV} {H : Hp} {Q : VK} (hown : ∀ i ∈ tgIx tg, i ∈ own) (q : tL z (.comp elt own tg it cond) σ H Q) :
    tLc (tI z it) (tG z.mute tg) (tCond z.mute cond) (tE z.mute elt) own σ H Q := by
  obtain ⟨S, F, am, hs, r, q⟩ := q
  simp only [evL] at q
  exact ⟨S, F, am, hs, r, (SatL.bind r.sto q).mono fun src h1 F1 am1 H1 _ e1 s1 q1 J w p hp => lc_at hown (r.to e1 s1) w q1 p hp⟩
theorem Ok.blk (ok : Ok z X N G sc false) (s : Shared) (H : Hp) (C : Addr) (cl : List (Str × Addr)) (fp : List Addr) (sc' : Scope) : Ok z.mute (X.blk s H sc' (compEnvC sc' cl C X.env) fp) N G (relS sc' sc) false where
  hK := ok.hK
  hrK := ok.hrK
  hN := ok.hN
  nd := ok.nd
  hsc := by rw [← ok.hsc]; rfl
  calm := fun h => ok.calm h
  un := ok.un
  tk := fun u s' ⟨a, B, sI, pins, σ, H, cls, d, e, I, nb, up, sky, na, os, ag, w⟩ => w.elim
  g := ok.g
  dp := ok.dp
  su := ok.su
  hx := fun x e => by
    have e : z.rc.hx = some x := e
    rw [(ok.cf rfl).1] at e; cases e
  cf := fun h => ok.cf h
end
end Ci

set_option Elab.async false
set_option linter.all false
set_option maxRecDepth 100000
set_option maxHeartbeats 4000000
namespace Ci
open PySem PySem.Spec PyProof.Rows L2
/-! ### comprehensions over a dict's keys, or over a changing list and its places: the thing and all laid later are out of sight -/
section
variable {c : Rc} {F F1 F2 : Addr → Prop} {am am1 am2 : List Addr} {H H1 H2 : Hp} {h h2 : Hs} {n : Nat} {a : Addr} {S : Sl} {σ : SV}
theorem take_at {α : Type} {l : List α} {n i : Nat} {x : α} (q : (l.take n)[i]? = some x) : i < n ∧ l[i]? = some x := by
  rw [List.getElem?_take] at q
  split at q
  · exact ⟨by assumption, q⟩
  · cases q
theorem at_take {α : Type} {l : List α} {n i : Nat} {x : α} (hi : i < n) (q : l[i]? = some x) : (l.take n)[i]? = some x := by
  rw [List.getElem?_take, if_pos hi]; exact q
theorem nd_inj {l : List Addr} (nd : l.Nodup) {i j : Nat} {a : Addr} (h1 : l[i]? = some a) (h2 : l[j]? = some a) : i = j := (List.getElem?_inj (List.getElem?_eq_some_iff.mp h1).1 nd).1 (h1.trans h2.symm)
theorem Sto.cut (s : Sto c F am H h) (n : Nat) (cl : (h.take n).all O.clear = true) : Sto c F (am.take n) H (h.take n) :=
  ⟨s.nd.sublist (List.take_sublist _ _), by rw [List.length_take, List.length_take, s.len], fun a hm => s.inF a (List.mem_of_mem_take hm), s.ok, fun i a o q1 q2 => by
    have k := s.obj i a o (take_at q1).2 (take_at q2).2
    have co : o.clear = true := List.all_eq_true.1 cl o (List.mem_of_getElem? q2)
    cases o with
    | lst es =>
      obtain ⟨xs, e, k⟩ := k
      exact ⟨xs, e, k.clr (fun _ q => q) co⟩
    | dct es =>
      obtain ⟨xs, e, ek, k⟩ := k
      exact ⟨xs, e, ek, k.clr (fun _ q => q) co⟩⟩
theorem Rel.cut (r : Rel c F am H h S σ) (n : Nat) (cl : (h.take n).all O.clear = true) : Rel c F (am.take n) H (h.take n) (cutS n S) σ :=
  ⟨r.sto.cut n cl, by rw [cutS, List.length_map]; exact r.len, fun i d q => by
    rw [cutS, List.getElem?_map, Option.map_eq_some_iff] at q
    obtain ⟨o, q1, q2⟩ := q
    cases o with
    | none => cases q2
    | some d0 =>
      obtain ⟨v, e1, e2⟩ := r.sl i d0 q1
      by_cases hr : ∃ m, d0 = .ref m
      · obtain ⟨m, rfl⟩ := hr
        have q2 : (if m < n then some (D.ref m) else none) = some d := q2
        split at q2
        · cases q2
          rename_i hm
          cases e2 with
          | ref g => exact ⟨_, e1, .ref (at_take hm g)⟩
        · cases q2
      · have q2 : (if d0.clear then some d0 else none) = some d := by
          cases d0 <;> first | exact q2 | exact absurd ⟨_, rfl⟩ hr
        split at q2
        · cases q2
          rename_i hc
          exact ⟨v, e1, e2.clr (fun _ q => q) hc⟩
        · cases q2⟩
theorem not_take (s : Sto c F am H h) (q : am[n]? = some a) : a ∉ am.take n := fun m => by
  obtain ⟨i, hi⟩ := List.mem_iff_getElem?.1 m
  obtain ⟨h1, h2⟩ := take_at hi
  have := nd_inj s.nd h2 q
  omega
end
section
variable {z : Si} {F : Addr → Prop} {am : List Addr} {H : Hp} {h : Hs} {n : Nat} {d : Addr} {u o' : HO} {σ : SV} {Q : VK}
theorem satL_cut {r : R (List D)} (s : Sto z.rc F am H h) (g : am[n]? = some d) (hd : H d = some u)
    (q : SatL z σ F am H ((Ci.noX r).bind fun ys h2 => if h2.length = n then .ok ys (h2 ++ h.drop n) else .bad) Q) :
    SatL z σ F (am.take n) (upd H d o') r (fun v H' => H' d = some o' ∧ Q v (upd H' d u)) := by
  cases r with
  | bad => exact q
  | exc c v h1 => exact q.elim
  | ok ys h2 =>
    have q : SatL z σ F am H (if h2.length = n then .ok ys (h2 ++ h.drop n) else .bad) Q := q
    by_cases hl : h2.length = n
    rotate_left
    · rw [if_neg hl] at q; exact q.elim
    rw [if_pos hl] at q
    intro F2 am2 H2 p vs e2 s2 hp k fp np hn
    have dF : F d := s.inF d (List.mem_of_getElem? g)
    have dn : d ∉ am.take n := not_take s g
    have ln : n < am.length := (List.getElem?_eq_some_iff.mp g).1
    have ea : am2 = am.take n := by
      obtain ⟨t, et⟩ := e2.pre
      have l := s2.len
      rw [hl, et, List.length_append, List.length_take] at l
      have : t = [] := List.eq_nil_of_length_eq_zero (by omega)
      rw [et, this, List.append_nil]
    subst ea
    have kd : H2 d = some o' := e2.keep d o' upd_same dn
    have apart : am.take n ++ am.drop n = am := List.take_append_drop n am
    have ne : ∀ i b, i ≠ n → am[i]? = some b → b ≠ d := fun i b hi q e => by
      subst e
      exact hi (nd_inj s.nd q g)
    have ext : Ext F am H F2 am (upd H2 d u) := ⟨⟨[], by simp⟩, fun b o qb nb => by
        have bd : b ≠ d := fun e => nb (e ▸ List.mem_of_getElem? g)
        rw [upd_ne bd]
        exact e2.keep b o (by rw [upd_ne bd]; exact qb) fun m => nb (List.mem_of_mem_take m), fun b o qb nF => by
        have bd : b ≠ d := fun e => nF (e ▸ dF)
        exact e2.fr b o (by rw [upd_ne bd]; exact qb) nF, e2.up, fun b m nb => absurd m nb⟩
    have rel : ∀ {ds : List D} {vs : List V}, RDs z.rc F2 (am.take n) H2 ds vs → RDs z.rc F2 am (upd H2 d u) ds vs := fun k => by
      have := (k.more (am.drop n)).poke (o := u) (e2.up d dF)
      rw [apart] at this
      exact this
    have sto : Sto z.rc F2 am (upd H2 d u) (h2 ++ h.drop n) := by
      refine ⟨s.nd, ?_, fun b m => e2.up b (s.inF b m), fun b fb => ?_, fun i b o q1 q2 => ?_⟩
      · have := s.len
        rw [List.length_append, List.length_drop, hl]; omega
      · by_cases e : b = d
        · subst e; exact ⟨u, upd_same⟩
        · rw [upd_ne e]; exact s2.ok b fb
      · by_cases hi : i < n
        · rw [List.getElem?_append_left (by omega)] at q2
          have k := s2.obj i b o (at_take hi q1) q2
          have bd := ne i b (by omega) q1
          cases o with
          | lst es => obtain ⟨xs, e, k⟩ := k; exact ⟨xs, by rw [upd_ne bd]; exact e, rel k⟩
          | dct es => obtain ⟨xs, e, ek, k⟩ := k; exact ⟨xs, by rw [upd_ne bd]; exact e, ek, rel k⟩
        · rw [List.getElem?_append_right (by omega), hl, List.getElem?_drop] at q2
          have q2 : h[i]? = some o := by rw [← q2]; congr 1; omega
          have k := s.obj i b o q1 q2
          by_cases e : i = n
          · subst e
            rw [g] at q1
            cases q1
            rw [hd] at k
            cases o with
            | lst es => obtain ⟨xs, e, k⟩ := k; exact ⟨xs, by rw [upd_same]; exact e, k.ext ext s.inF⟩
            | dct es => obtain ⟨xs, e, ek, k⟩ := k; exact ⟨xs, by rw [upd_same]; exact e, ek, k.ext ext s.inF⟩
          · have bd := ne i b e q1
            have nt : b ∉ am.take n := fun m => by
              obtain ⟨j, hj⟩ := List.mem_iff_getElem?.1 m
              obtain ⟨h1, h2⟩ := take_at hj
              have := nd_inj s.nd h2 q1
              omega
            have kp : ∀ o2, H b = some o2 → H2 b = some o2 := fun o2 e => e2.keep b o2 (by rw [upd_ne bd]; exact e) nt
            cases o with
            | lst es => obtain ⟨xs, e, k⟩ := k; exact ⟨xs, by rw [upd_ne bd]; exact kp _ e, k.ext ext s.inF⟩
            | dct es => obtain ⟨xs, e, ek, k⟩ := k; exact ⟨xs, by rw [upd_ne bd]; exact kp _ e, ek, k.ext ext s.inF⟩
    have pd : p ≠ d := fun e => by rw [e, upd_same] at hn; cases hn
    refine ⟨kd, q F2 am (upd H2 d u) p vs ext sto (by rw [upd_ne pd]; exact hp) (rel k) fp (fun m => ?_) (by rw [upd_ne pd] at hn; exact hn)⟩
    obtain ⟨o, e⟩ := s.ok p (s.inF p m)
    rw [upd_ne pd, e] at hn
    cases hn
theorem satL_imp {r : R (List D)} {Q' : VK} (hq : ∀ v H', Q v H' → Q' v H') (q : SatL z σ F am H r Q) : SatL z σ F am H r Q' := by
  cases r with
  | ok ys h2 => exact fun F2 am2 H2 p vs e2 s2 hp k fp np hn => hq _ _ (q F2 am2 H2 p vs e2 s2 hp k fp np hn)
  | exc c v h1 => exact q
  | bad => exact q
theorem wk_keys {kvs : List (Ky × D)} {ws : List (Key × V)} {od : Obj} (e0 : kvs.map (·.1) = ws.map (·.1)) (hd : H d = some (.frz od (.dK ws))) (dn : d ∉ am) : Wk z.rc (.fix (kvs.map fun kv => kyD kv.1)) F am H (Itk d od ws) := by
  intro F1 am1 H1 h1 e s i
  have k := e.keep d _ hd dn
  have ll : kvs.length = ws.length := by
    have := congrArg List.length e0
    simpa using this
  have hi : itm (.fix (kvs.map fun kv => kyD kv.1)) h1 i = (kvs[i]?).map fun kv => kyD kv.1 := by
    simp only [itm, List.getElem?_map]
  rw [hi]
  refine ⟨fun x hx => ?_, fun hn _ => ⟨k, ?_⟩⟩
  · obtain ⟨kv, h2, rfl⟩ := Option.map_eq_some_iff.1 hx
    have li : i < kvs.length := (List.getElem?_eq_some_iff.mp h2).1
    refine ⟨⟨k, by omega⟩, fun x H2 ⟨e2, kk, v, g1, g2⟩ => ?_⟩
    subst e2 g2
    have ek : kv.1 = kk := by
      have := congrArg (·[i]?) e0
      simp only [List.getElem?_map, h2, g1, Option.map_some, Option.some.injEq] at this
      exact this
    subst ek
    refine ⟨F1, am1, .refl, s, ?_⟩
    rcases kv with ⟨k | k, _⟩
    · exact .int k
    · exact .str k
  · rw [Option.map_eq_none_iff, List.getElem?_eq_none_iff] at hn
    omega
end
section
variable {z : Si} {X : Cx} {N : List Str} {G : GT} {sc : Scope}
/-- the one way or the other -/
def LkE (lk : Bool) (t : TE) : TE := match lk with
  | true => tLockE t
  | false => t
def ovT (X : Cx) (e : Bool) (i : Nat) : TI := match e with
  | false => iKeys (tVar i)
  | true => iEnumA X.K (tCons (tVar i) tNil)
theorem cc_sim (e : Bool) {elt : E} {own : List Nat} {tg : Tg} {i : Nat} {cond : E} {σ : SV} {H : Hp} {Q : VK} (hown : ∀ i ∈ tgIx tg, i ∈ own) (q : tL z (.compC e elt own tg i cond) σ H Q) :
    LkE (!e) (tLc (ovT X e i) (tG z.mute tg) (tCond z.mute cond) (tE z.mute elt) own) σ H Q := by
  obtain ⟨S, F, am, hs, r, q⟩ := q
  simp only [evL] at q
  split at q
  rotate_left
  · exact q.elim
  rename_i n hS
  split at q
  rotate_left
  · exact q.elim
  rename_i ks hk
  split at q
  rotate_left
  · exact q.elim
  rename_i hc
  simp only [Bool.and_eq_true] at hc
  obtain ⟨hc1, hc2⟩ := hc
  obtain ⟨v, hv, rv⟩ := r.sl i _ hS
  cases rv with
  | ref g =>
    rename_i d
    rw [Option.bind_eq_some_iff] at hk
    obtain ⟨o, ho, hk⟩ := hk
    have cut : (hs.take n).all O.clear = true := by
      rw [List.all_eq_true] at hc2 ⊢
      exact fun x hx => hc2 x (List.mem_of_mem_take (i := n) (by rw [List.take_take, Nat.min_eq_left (Nat.le_succ n)]; exact hx))
    have co : o.clear = true := List.all_eq_true.1 hc2 o (List.mem_of_getElem? (at_take (Nat.lt_succ_self n) ho))
    have dn := not_take r.sto g
    have dF : F d := r.sto.inF d (List.mem_of_getElem? g)
    have ob := r.sto.obj n d o g ho
    cases e with
    | false =>
      cases o with
      | lst es => cases hk
      | dct kvs =>
        cases hk
        obtain ⟨ws, hd, ek, k⟩ := ob
        refine ⟨d, .dK ws, hd, trivial, fun od => ?_⟩
        refine ⟨.ref d, hv, d, od, rfl, .inl ⟨ws, upd_same, fun p hp => ?_⟩⟩
        refine lc_at (elt := elt) (cond := cond) (Q := fun v H' => H' d = some (.frz od (.dK ws)) ∧ Q v (upd H' d (.dK ws))) (src := .fix _) hown ((r.cut n cut).poke dF dn) (wk_keys ek upd_same dn) ?_ p hp
        simp only [hc1, if_true]
        exact satL_cut r.sto g hd q
    | true =>
      cases o with
      | dct es => cases hk
      | lst xs =>
        cases hk
        obtain ⟨ws, hd, k⟩ := ob
        have q2 := satL_cut (o' := .lst ws) r.sto g hd q
        have same : upd H d (.lst ws) = H := by
          funext b
          by_cases e : b = d
          · subst e; rw [upd_same]; exact hd.symm
          · rw [upd_ne e]
        rw [same] at q2
        refine ⟨.ref d, hv, d, ws, rfl, .inl ⟨SqL.of hd, fun p hp => ?_⟩⟩
        have kk := RDs.clr (am0 := am.take n) (fun _ q => q) k (by simpa only [O.clear] using co)
        refine lc_at (elt := elt) (cond := cond) (Q := Q) (src := .fix _) hown (r.cut n cut) (wk_enum (r.sto.cut n cut).inF kk fun F1 am1 H1 e => SqL.of (e.keep d _ hd dn)) ?_ p hp
        simp only [hc1, if_true]
        refine satL_imp (fun v H' ⟨e1, e2⟩ => ?_) q2
        have : upd H' d (.lst ws) = H' := by
          funext b
          by_cases e : b = d
          · subst e; rw [upd_same]; exact e1.symm
          · rw [upd_ne e]
        rw [this] at e2
        exact e2
end
end Ci

set_option Elab.async false
set_option linter.all false
set_option maxRecDepth 100000
set_option maxHeartbeats 4000000
namespace Ci
open PySem PySem.Spec PyProof.Rows L2
/-! ### comprehensions over two -/
section
variable {z : Si} {X : Cx} {N : List Str} {G : GT} {sc : Scope} {hot : Bool}
/-- a turn within -/
def turnI (z : Si) (elt : E) (own1 : List Nat) (tg1 : Tg) (cond1 : E) (S2 : Sl) : D → Hs → R (Option D) := fun x1 h5 => match put (wipe S2 own1) x1 tg1 with
  | some S3 => (if cond1.isOmit then (.ok true h5 : R Bool) else tru (ev z.sub z.call cond1 S3 h5)).bind fun k1 h6 => if k1 then (ev z.sub z.call elt S3 h6).bind fun y h7 => .ok (some y) h7 else .ok none h6
  | none => .bad
/-- a turn without -/
def turnO (z : Si) (elt : E) (own : List Nat) (tg : Tg) (cond : E) (own1 : List Nat) (tg1 : Tg) (it1 : It) (cond1 : E) (S : Sl) : D → Hs → R (List D) := fun x h2 => match put (wipe S own) x tg with
  | some S2 => noX ((if cond.isOmit then (.ok true h2 : R Bool) else tru (ev z.sub z.call cond S2 h2)).bind fun k h3 => if k then (evI z.sub z.call it1 S2 h3).bind fun src1 h4 => compG (turnI z elt own1 tg1 cond1 S2) src1 4000 0 h4 else .ok [] h3)
  | none => .bad
theorem evL_comp2 {elt : E} {own : List Nat} {tg : Tg} {it : It} {cond : E} {own1 : List Nat} {tg1 : Tg} {it1 : It} {cond1 : E} {S : Sl} {h : Hs} : evL z.sub z.call (.comp2 elt own tg it cond own1 tg1 it1 cond1) S h = (evI z.sub z.call it S h).bind fun src h1 => compGL (turnO z elt own tg cond own1 tg1 it1 cond1 S) src 4000 0 h1 := by
  simp only [evL]
  rfl
theorem bindA {α β γ : Type} (r : R α) (f : α → Hs → R β) (g : β → Hs → R γ) : (r.bind f).bind g = r.bind fun a h => (f a h).bind g := by
  cases r <;> rfl
theorem lc2_at {elt : E} {own : List Nat} {tg : Tg} {cond : E} {own1 : List Nat} {tg1 : Tg} {it1 : It} {cond1 : E} {σ : SV} {Q : VK} {S : Sl} {F1 : Addr → Prop} {am1 : List Addr} {H1 : Hp} {h1 : Hs} {src : Src} {J : L2.It} (hown : ∀ i ∈ tgIx tg, i ∈ own) (hown1 : ∀ i ∈ tgIx tg1, i ∈ own1) (r0 : Rel z.rc F1 am1 H1 h1 S σ) (w : Wk z.rc src F1 am1 H1 J)
    (q1 : SatL z σ F1 am1 H1 (compGL (turnO z elt own tg cond own1 tg1 it1 cond1 S) src 4000 0 h1) Q) (p : Addr) (hp : H1 p = none) :
    ∃ W : Nat → Nat → Hp → Prop, (∃ m, W 0 m (upd H1 p (.lst []))) ∧ ∀ i m H, W i m H →
  (J.stop i H ∧ Q (.ref p) H) ∨ (J.go i H ∧ ∃ Nx : Hp → Prop, (∀ H', Nx H' → ∃ m', m' < m ∧ W (i + 1) m' H') ∧ ∀ x H', J.yld i H x H' → tG z.mute tg x (L2.wipe σ own) H' fun σ2 H2 => L2.wipe σ2 own = L2.wipe σ own ∧ tCond z.mute cond σ2 H2 fun b H3 =>
    if b = true then tIQ z.mute it1 σ2 H3 fun J1 H4 => ∃ W1 : Nat → Nat → Hp → Prop, (∃ m, W1 0 m H4) ∧ ∀ j k H, W1 j k H →
      (J1.stop j H ∧ Nx H) ∨ (J1.go j H ∧ ∃ Nx1 : Hp → Prop, (∀ H', Nx1 H' → ∃ k', k' < k ∧ W1 (j + 1) k' H') ∧ ∀ x H', J1.yld j H x H' → tG z.mute tg1 x (L2.wipe σ2 own1) H' fun σ3 H5 => L2.wipe σ3 own1 = L2.wipe σ2 own1 ∧ tCond z.mute cond1 σ3 H5 fun b H6 =>
        if b = true then tE z.mute elt σ3 H6 fun y H7 => ∃ acc, H7 p = some (.lst acc) ∧ acc.length < sizeLine ∧ Nx1 (upd H7 p (.lst (acc ++ [y]))) else Nx1 H6)
    else Nx H3) := by
  have s1 := r0.sto
  have r1 := r0.wiped own
  obtain ⟨e2, s2, np⟩ := s1.guard hp []
  have r2 := r1.to e2 s2
  generalize hturn : turnO z elt own tg cond own1 tg1 it1 cond1 S = turn at q1
  -- what is known behind each turn without
  let B : Nat → Nat → Hp → Prop := fun i m H' => ∃ F' am' h' acc accV, Ext F1 am1 H1 F' am' H' ∧ Rel z.rc F' am' H' h' (wipe S own) (L2.wipe σ own) ∧ F' p ∧ p ∉ am' ∧ H' p = some (.lst accV) ∧ RDs z.rc F' am' H' acc accV ∧ acc.length + m * 4000 ≤ 16000000 ∧
      SatL z σ F1 am1 H1 ((compGL turn src m i h').bind fun ys h2 => .ok (acc ++ ys) h2) Q
  refine ⟨B, ⟨4000, _, am1, h1, [], [], e2, r2, .inr rfl, np, upd_same, .nil, by simp, ?_⟩, ?_⟩
  · have : ((compGL turn src 4000 0 h1).bind fun ys h2 => R.ok ([] ++ ys) h2) = compGL turn src 4000 0 h1 := by
      cases compGL turn src 4000 0 h1 <;> rfl
    rw [this]; exact q1
  · intro i m H' ⟨F', am', h', acc, accV, e3, r3, fp, np3, hD, kD, hm, q3⟩
    cases m with
    | zero => exact q3.elim
    | succ k =>
      unfold compGL at q3
      obtain ⟨w1, w2⟩ := w F' am' H' h' e3 r3.sto i
      cases hi : itm src h' i with
      | none =>
        rw [hi] at q3
        have q3 : SatL z σ F1 am1 H1 ((if srcOk src h' = true then .ok [] h' else .bad : Ci.R (List D)).bind fun ys h2 => .ok (acc ++ ys) h2) Q := q3
        cases hb : srcOk src h' with
        | false => rw [hb] at q3; exact q3.elim
        | true =>
          rw [hb] at q3
          refine .inl ⟨w2 hi hb, ?_⟩
          exact q3 F' am' H' p accV e3 r3.sto hD (by simpa using kD) fp np3 hp
      | some x =>
        rw [hi] at q3
        obtain ⟨g1, g2⟩ := w1 x hi
        refine .inr ⟨g1, B (i + 1) k, fun H'' nx => ⟨k, Nat.lt_succ_self _, nx⟩, fun x' H'' y => ?_⟩
        obtain ⟨F4, am4, e4, s4, rx⟩ := g2 x' H'' y
        have r4 := r3.to e4 s4
        have e34 := e3.trans e4 s1.inF
        -- the list at p, some steps on
        have keep : ∀ {F5 am5 H5}, Ext F' am' H' F5 am5 H5 → H5 p = some (.lst accV) ∧ p ∉ am5 ∧ F5 p ∧ RDs z.rc F5 am5 H5 acc accV := fun {F5 am5 H5} e => by
          refine ⟨e.keep _ _ hD np3, fun hm' => ?_, e.up p fp, kD.ext e r3.sto.inF⟩
          have := e.nw p hm' np3
          rw [hD] at this; cases this
        have q3 : SatL z σ F1 am1 H1 (((turn x h').bind fun zs h1 => (compGL turn src k (i + 1) h1).bind fun ys h2 => .ok (zs ++ ys) h2).bind fun ys h2 => .ok (acc ++ ys) h2) Q := q3
        have assoc : ∀ r : R (List D), ((r.bind fun zs h1 => (compGL turn src k (i + 1) h1).bind fun ys h2 => R.ok (zs ++ ys) h2).bind fun ys h2 => R.ok (acc ++ ys) h2) = r.bind fun zs h1 => (compGL turn src k (i + 1) h1).bind fun ys h2 => R.ok (acc ++ zs ++ ys) h2 := by
          intro r
          rw [bindA]
          congr 1
          funext zs h1
          rw [bindA]
          congr 1
          funext ys h2
          show R.ok (acc ++ (zs ++ ys)) h2 = _
          rw [List.append_assoc]
        rw [assoc] at q3
        rw [← hturn] at q3
        simp only [turnO] at q3
        cases hput : put (wipe S own) x tg with
        | none => rw [hput] at q3; exact q3.elim
        | some S2 =>
          rw [hput] at q3
          rw [hturn] at q3
          refine ⟨_, F4, am4, h', x, S2, r4, rx, hput, fun σ2 rσ sb => ⟨?_, ?_⟩⟩
          · rw [sb own hown, wipe_sub fun i hi => hi]
          · -- the test, then the walk within
            have fin : ∀ b h3 F5 am5 H5, Ext F4 am4 H'' F5 am5 H5 → Sto z.rc F5 am5 H5 h3 →
                SatL z σ F1 am1 H1 ((noX (if b = true then (evI z.sub z.call it1 S2 h3).bind fun src1 h4 => compG (turnI z elt own1 tg1 cond1 S2) src1 4000 0 h4 else R.ok [] h3)).bind fun zs h1 => (compGL turn src k (i + 1) h1).bind fun ys h2 => R.ok (acc ++ zs ++ ys) h2) Q →
                (if b = true then tIQ z.mute it1 σ2 H5 fun J1 H4 => ∃ W1 : Nat → Nat → Hp → Prop, (∃ m, W1 0 m H4) ∧ ∀ j k' H, W1 j k' H →
                  (J1.stop j H ∧ B (i + 1) k H) ∨ (J1.go j H ∧ ∃ Nx1 : Hp → Prop, (∀ H', Nx1 H' → ∃ k'', k'' < k' ∧ W1 (j + 1) k'' H') ∧ ∀ x H', J1.yld j H x H' → tG z.mute tg1 x (L2.wipe σ2 own1) H' fun σ3 H5 => L2.wipe σ3 own1 = L2.wipe σ2 own1 ∧ tCond z.mute cond1 σ3 H5 fun b H6 =>
                    if b = true then tE z.mute elt σ3 H6 fun y H7 => ∃ acc, H7 p = some (.lst acc) ∧ acc.length < sizeLine ∧ Nx1 (upd H7 p (.lst (acc ++ [y]))) else Nx1 H6)
                else B (i + 1) k H5) := by
              intro b h3 F5 am5 H5 e5 s5 q5
              cases b with
              | false =>
                rw [if_neg Bool.false_ne_true] at q5 ⊢
                obtain ⟨k1, k2, k3, k4⟩ := keep (e4.trans e5 r3.sto.inF)
                have q5 : SatL z σ F1 am1 H1 ((compGL turn src k (i + 1) h3).bind fun ys h2 => R.ok (acc ++ [] ++ ys) h2) Q := q5
                rw [List.append_nil] at q5
                exact ⟨F5, am5, h3, acc, accV, e34.trans e5 s1.inF, r4.to e5 s5, k3, k2, k1, k4, by omega, q5⟩
              | true =>
                rw [if_pos rfl] at q5 ⊢
                refine ⟨S2, F5, am5, h3, rσ.to e5 s5, (SatL.noX q5).mono fun src1 h6 F6 am6 H6 _ e6 s6 q6 J1 w' => ?_⟩
                have e46 := e5.trans e6 s4.inF
                have r6 := rσ.to e46 s6
                have e16 := e34.trans e46 s1.inF
                obtain ⟨k1, k2, k3', k4⟩ := keep (e4.trans e46 r3.sto.inF)
                -- what is known behind each turn within
                let B1 : Nat → Nat → Hp → Prop := fun j k' H7 => ∃ F7 am7 h7 acc1 accV1, Ext F1 am1 H1 F7 am7 H7 ∧ Exq F6 am6 H6 F7 am7 H7 ∧ Sto z.rc F7 am7 H7 h7 ∧ F7 p ∧ p ∉ am7 ∧ H7 p = some (.lst accV1) ∧ RDs z.rc F7 am7 H7 acc1 accV1 ∧ acc1.length + k' + k * 4000 ≤ 16000000 ∧
                  SatL z σ F1 am1 H1 ((noX (compG (turnI z elt own1 tg1 cond1 S2) src1 k' j h7)).bind fun zs h1 => (compGL turn src k (i + 1) h1).bind fun ys h2 => R.ok (acc1 ++ zs ++ ys) h2) Q
                refine ⟨B1, ⟨4000, F6, am6, h6, acc, accV, e16, Ext.refl.q s6.inF, s6, k3', k2, k1, k4, by omega, q6⟩, ?_⟩
                intro j k' H7 ⟨F7, am7, h7, acc1, accV1, e17, e67, s7, fp7, np7, hD7, kD7, hm7, q7⟩
                cases k' with
                | zero => exact q7.elim
                | succ k' =>
                  unfold compG at q7
                  obtain ⟨v1, v2⟩ := w' F7 am7 H7 h7 e67 s7 j
                  cases hj : itm src1 h7 j with
                  | none =>
                    rw [hj] at q7
                    have q7 : SatL z σ F1 am1 H1 ((noX (if srcOk src1 h7 = true then .ok [] h7 else .bad : Ci.R (List D))).bind fun zs h1 => (compGL turn src k (i + 1) h1).bind fun ys h2 => R.ok (acc1 ++ zs ++ ys) h2) Q := q7
                    cases hb : srcOk src1 h7 with
                    | false => rw [hb] at q7; exact q7.elim
                    | true =>
                      rw [hb] at q7
                      refine .inl ⟨v2 hj hb, ?_⟩
                      have q7 : SatL z σ F1 am1 H1 ((compGL turn src k (i + 1) h7).bind fun ys h2 => R.ok (acc1 ++ [] ++ ys) h2) Q := q7
                      rw [List.append_nil] at q7
                      exact ⟨F7, am7, h7, acc1, accV1, e17, (r4.to e46 s6).toQ e67 s7, fp7, np7, hD7, kD7, by omega, q7⟩
                  | some x1 =>
                    rw [hj] at q7
                    obtain ⟨g3, g4⟩ := v1 x1 hj
                    refine .inr ⟨g3, B1 (j + 1) k', fun H'' nx => ⟨k', Nat.lt_succ_self _, nx⟩, fun x' H8 y => ?_⟩
                    obtain ⟨F8, am8, e8, s8, rx1⟩ := g4 x' H8 y
                    have r8 := ((rσ.to e46 s6).toQ e67 s7).to e8 s8
                    have keep1 : ∀ {F5 am5 H5}, Ext F7 am7 H7 F5 am5 H5 → H5 p = some (.lst accV1) ∧ p ∉ am5 ∧ F5 p ∧ RDs z.rc F5 am5 H5 acc1 accV1 := fun {F5 am5 H5} e => by
                      refine ⟨e.keep _ _ hD7 np7, fun hm' => ?_, e.up p fp7, kD7.ext e s7.inF⟩
                      have := e.nw p hm' np7
                      rw [hD7] at this; cases this
                    have q7 : SatL z σ F1 am1 H1 ((noX ((turnI z elt own1 tg1 cond1 S2 x1 h7).bind fun o h1 => (compG (turnI z elt own1 tg1 cond1 S2) src1 k' (j + 1) h1).bind fun ys h2 => match o with
                        | some y => .ok (y :: ys) h2
                        | none => .ok ys h2)).bind fun zs h1 => (compGL turn src k (i + 1) h1).bind fun ys h2 => R.ok (acc1 ++ zs ++ ys) h2) Q := q7
                    -- what a turn within gives goes behind what is there
                    have push : ∀ (o : Option D) (h9 : Hs), SatL z σ F1 am1 H1 ((noX ((compG (turnI z elt own1 tg1 cond1 S2) src1 k' (j + 1) h9).bind fun ys h2 => match o with
                        | some y => R.ok (y :: ys) h2
                        | none => .ok ys h2)).bind fun zs h1 => (compGL turn src k (i + 1) h1).bind fun ys h2 => R.ok (acc1 ++ zs ++ ys) h2) Q → SatL z σ F1 am1 H1 ((noX (compG (turnI z elt own1 tg1 cond1 S2) src1 k' (j + 1) h9)).bind fun zs h1 => (compGL turn src k (i + 1) h1).bind fun ys h2 => R.ok ((acc1 ++ (match o with | some y => [y] | none => [])) ++ zs ++ ys) h2) Q := by
                      intro o h9 qq
                      cases hc : compG (turnI z elt own1 tg1 cond1 S2) src1 k' (j + 1) h9 with
                      | ok ys h2 =>
                        rw [hc] at qq
                        cases o with
                        | none =>
                          have qq : SatL z σ F1 am1 H1 ((compGL turn src k (i + 1) h2).bind fun ys' h2 => R.ok (acc1 ++ ys ++ ys') h2) Q := qq
                          show SatL z σ F1 am1 H1 ((compGL turn src k (i + 1) h2).bind fun ys' h2 => R.ok (acc1 ++ [] ++ ys ++ ys') h2) Q
                          rw [List.append_nil]; exact qq
                        | some y =>
                          have qq : SatL z σ F1 am1 H1 ((compGL turn src k (i + 1) h2).bind fun ys' h2 => R.ok (acc1 ++ (y :: ys) ++ ys') h2) Q := qq
                          show SatL z σ F1 am1 H1 ((compGL turn src k (i + 1) h2).bind fun ys' h2 => R.ok (acc1 ++ [y] ++ ys ++ ys') h2) Q
                          have e : acc1 ++ [y] ++ ys = acc1 ++ (y :: ys) := by simp
                          rw [e]; exact qq
                      | exc c v h => rw [hc] at qq; exact qq.elim
                      | bad => rw [hc] at qq; exact qq.elim
                    simp only [turnI] at q7
                    cases hput1 : put (wipe S2 own1) x1 tg1 with
                    | none => rw [hput1] at q7; exact q7.elim
                    | some S3 =>
                      rw [hput1] at q7
                      refine ⟨_, F8, am8, h7, x1, S3, r8.wiped own1, rx1, hput1, fun σ3 rσ3 sb3 => ⟨?_, ?_⟩⟩
                      · rw [sb3 own1 hown1, wipe_sub fun i hi => hi]
                      · have fin1 : ∀ b h9 F9 am9 H9, Ext F8 am8 H8 F9 am9 H9 → Sto z.rc F9 am9 H9 h9 →
                            SatL z σ F1 am1 H1 ((noX ((if b = true then (ev z.sub z.call elt S3 h9).bind fun y h7 => .ok (some y) h7 else .ok none h9 : R (Option D)).bind fun o h1 => (compG (turnI z elt own1 tg1 cond1 S2) src1 k' (j + 1) h1).bind fun ys h2 => match o with
                              | some y => .ok (y :: ys) h2
                              | none => .ok ys h2)).bind fun zs h1 => (compGL turn src k (i + 1) h1).bind fun ys h2 => R.ok (acc1 ++ zs ++ ys) h2) Q →
                            (if b = true then tE z.mute elt σ3 H9 fun y H7 => ∃ acc, H7 p = some (.lst acc) ∧ acc.length < sizeLine ∧ B1 (j + 1) k' (upd H7 p (.lst (acc ++ [y]))) else B1 (j + 1) k' H9) := by
                          intro b h9 F9 am9 H9 e9 s9 q9
                          cases b with
                          | false =>
                            rw [if_neg Bool.false_ne_true] at q9 ⊢
                            obtain ⟨k1, k2, k3, k4⟩ := keep1 (e8.trans e9 s7.inF)
                            have q9 := push none h9 q9
                            rw [show acc1 ++ (match (none : Option D) with | some y => [y] | none => []) = acc1 from List.append_nil _] at q9
                            exact ⟨F9, am9, h9, acc1, accV1, (e17.trans e8 s1.inF).trans e9 s1.inF, (e67.trans (e8.q s7.inF)).trans (e9.q s8.inF), s9, k3, k2, k1, k4, by omega, q9⟩
                          | true =>
                            rw [if_pos rfl, bindA] at q9
                            rw [if_pos rfl]
                            refine ⟨S3, F9, am9, h9, rσ3.to e9 s9, (SatL.noX q9).mono fun y h10 F10 am10 H10 _ e10 s10 q10 u ru => ?_⟩
                            have q10 := push (some y) h10 q10
                            obtain ⟨k1, k2, k3, k4⟩ := keep1 ((e8.trans e9 s7.inF).trans e10 s7.inF)
                            have hsz : sizeLine = 16777216 := rfl
                            refine ⟨accV1, k1, by rw [← kD7.length]; omega, F10, am10, h10, acc1 ++ [y], accV1 ++ [u], (((e17.trans e8 s1.inF).trans e9 s1.inF).trans e10 s1.inF).poke hp, ?_, s10.poke k3 k2, k3, k2, upd_same, (k4.append (.cons ru .nil)).poke k3, ?_, q10⟩
                            · have e := ((e67.trans (e8.q s7.inF)).trans (e9.q s8.inF)).trans (e10.q s9.inF)
                              exact ⟨e.pre, fun a o q n => by rw [upd_ne (fun ea => n (by rw [ea]; exact k3'))]; exact e.keep a o q n, e.fr, e.up⟩
                            · simp only [List.length_append, List.length_singleton]; omega
                        unfold tCond
                        cases ho : cond1.isOmit with
                        | true =>
                          rw [if_pos rfl]
                          rw [ho] at q7
                          exact fin1 true h7 F8 am8 H8 .refl s8 q7
                        | false =>
                          rw [if_neg Bool.false_ne_true]
                          rw [ho] at q7
                          dsimp only at q7
                          rw [if_neg Bool.false_ne_true, bindA] at q7
                          exact ⟨S3, F8, am8, h7, rσ3, (SatL.noX q7).mono fun b h9 F9 am9 H9 _ e9 s9 q9 => fin1 b h9 F9 am9 H9 e9 s9 q9⟩
            unfold tCond
            cases ho : cond.isOmit with
            | true =>
              rw [if_pos rfl]
              rw [ho] at q3
              exact fin true h' F4 am4 H'' .refl s4 q3
            | false =>
              rw [if_neg Bool.false_ne_true]
              rw [ho] at q3
              exact ⟨S2, F4, am4, h', rσ, (SatL.noX q3).mono fun b h3 F5 am5 H5 _ e5 s5 q5 => fin b h3 F5 am5 H5 e5 s5 q5⟩
theorem lc2_sim {elt : E} {own : List Nat} {tg : Tg} {it : It} {cond : E} {own1 : List Nat} {tg1 : Tg} {it1 : It} {cond1 : E} {σ : SV} {H : Hp} {Q : VK} (hown : ∀ i ∈ tgIx tg, i ∈ own) (hown1 : ∀ i ∈ tgIx tg1, i ∈ own1) (q : tL z (.comp2 elt own tg it cond own1 tg1 it1 cond1) σ H Q) :
    tLc2 (tI z it) (tG z.mute tg) (tCond z.mute cond) (tIQ z.mute it1) (tG z.mute tg1) (tCond z.mute cond1) (tE z.mute elt) own own1 σ H Q := by
  obtain ⟨S, F, am, hs, r, q⟩ := q
  rw [evL_comp2] at q
  exact ⟨S, F, am, hs, r, (SatL.bind r.sto q).mono fun src h1 F1 am1 H1 _ e1 s1 q1 J w p hp => lc2_at hown hown1 (r.to e1 s1) w q1 p hp⟩
end
end Ci

set_option Elab.async false
set_option linter.all false
set_option maxRecDepth 100000
set_option maxHeartbeats 4000000
namespace Ci
open PySem PySem.Spec PyProof.Rows L2
/-! ### dict comprehensions -/
section
variable {z : Si} {F F' F1 F2 : Addr → Prop} {am am' am1 am2 : List Addr} {H H' H1 H2 : Hp} {h h' : Hs} {σ0 : SV} {Q : VK} {p : Addr}
/-- what is wanted behind a dict's pairs -/
def SatP (z : Si) (σ : SV) (F : Addr → Prop) (am : List Addr) (H : Hp) (r : R (List (Ky × D))) (Q : VK) : Prop := match r with
  | .ok ps h => ∀ F' am' H' p ws, Ext F am H F' am' H' → Sto z.rc F' am' H' h → H' p = some (.dK ws) → RKv z.rc F' am' H' (dputs [] ps) ws → F' p → p ∉ am' → H p = none → Q (.ref p) H'
  | .exc c v h => excW z σ F am H c v h
  | .bad => False
theorem SatP.bind {α : Type} {r : R α} {f : α → Hs → R (List (Ky × D))} (rs : Sto z.rc F am H h) (q : SatP z σ0 F am H (r.bind f) Q) : SatR z σ0 F am H r (fun a h1 F1 am1 H1 => SatP z σ0 F1 am1 H1 (f a h1) Q) := by
  cases r with
  | ok a h1 =>
    intro F1 am1 H1 e1 s1
    have q : SatP z σ0 F am H (f a h1) Q := q
    show SatP z σ0 F1 am1 H1 (f a h1) Q
    generalize f a h1 = r2 at q ⊢
    cases r2 with
    | ok ds h2 => exact fun F2 am2 H2 p vs e2 s2 hp k fp np hn => q F2 am2 H2 p vs (e1.trans e2 rs.inF) s2 hp k fp np (e1.none_of rs s1 hn)
    | exc c v h => exact excW.ext e1 rs.inF q
    | bad => exact q
  | exc c v h => exact q
  | bad => exact q
theorem Sto.moreD {c : Rc} {kvs : List (Ky × D)} {ws : List (Key × V)} (s : Sto c F am H h) (hp : H p = some (.dK ws)) (k : RKv c F am H kvs ws) (fp : F p) (np : p ∉ am) : Sto c F (am ++ [p]) H (h ++ [.dct kvs]) := by
  refine ⟨?_, by simp [s.len], fun a hm => ?_, s.ok, fun i a o q1 q2 => ?_⟩
  · rw [List.nodup_append]
    exact ⟨s.nd, by simp, fun a hm b hb => by rw [List.mem_singleton.mp hb]; exact fun e => np (e ▸ hm)⟩
  · rcases List.mem_append.mp hm with m | m
    · exact s.inF a m
    · rw [List.mem_singleton.mp m]; exact fp
  · by_cases hi : i < am.length
    · rw [List.getElem?_append_left hi] at q1
      rw [List.getElem?_append_left (s.len ▸ hi)] at q2
      have q := s.obj i a o q1 q2
      cases o with
      | lst es =>
        obtain ⟨xs, q3, q4⟩ := q
        exact ⟨xs, q3, q4.more _⟩
      | dct es =>
        obtain ⟨xs, q3, qk, q4⟩ := q
        exact ⟨xs, q3, qk, q4.more _⟩
    · have e : i = am.length := by
        have := (List.getElem?_eq_some_iff.mp q1).1
        simp at this; omega
      subst e
      rw [List.getElem?_append_right (Nat.le_refl _), Nat.sub_self] at q1
      rw [s.len, List.getElem?_append_right (Nat.le_refl _), Nat.sub_self] at q2
      simp at q1 q2
      subst q1 q2
      exact ⟨ws, hp, k.1, k.2.more _⟩
/-- the new dict as a changing one -/
theorem md_of {r : R (List (Ky × D))} (rs : Sto z.rc F am H h) (q : SatR z σ0 F am H (r.bind fun ps h1 => .ok (.ref h1.length) (h1 ++ [.dct (dputs [] ps)])) (PostD z Q)) : SatP z σ0 F am H r Q := by
  cases r with
  | ok ds h1 =>
    intro F2 am2 H2 p vs e2 s2 hp k fp np hn
    obtain ⟨t, et⟩ := e2.pre
    have e3 : Ext F am H F2 (am2 ++ [p]) H2 := ⟨⟨t ++ [p], by rw [et, List.append_assoc]⟩, e2.keep, e2.fr, e2.up, fun a hm n => by
      rcases List.mem_append.mp hm with m | m
      · exact e2.nw a m n
      · rw [List.mem_singleton.mp m]; exact hn⟩
    refine q F2 _ H2 e3 (s2.moreD hp k fp np) (.ref p) (.ref ?_)
    rw [← s2.len, List.getElem?_append_right (Nat.le_refl _), Nat.sub_self]; rfl
  | exc c v h => exact q
  | bad => exact q
/-- a new object, guarded -/
theorem Sto.guardO {c : Rc} (o : HO) (s1 : Sto c F am H h) (hp : H p = none) : Ext F am H (fun a => F a ∨ a = p) am (upd H p o) ∧ Sto c (fun a => F a ∨ a = p) am (upd H p o) h ∧ p ∉ am := by
  obtain ⟨_, s2, n2⟩ := s1.laid hp o
  have e3 : Ext F am H (fun a => F a ∨ a = p) am (upd H p o) := ⟨⟨[], by simp⟩, fun a u q _ => by rw [upd_ne (ne_of_none q hp)]; exact q, fun a o q n m => m.elim n (fun e => by rw [e, hp] at q; cases q), fun a q => Or.inl q, fun _ a b => absurd a b⟩
  refine ⟨e3, ⟨s1.nd, s1.len, fun a hm => .inl (s1.inF a hm), fun a q => ?_, fun i a u q1 q2 => ?_⟩, fun hm => n2 (s1.inF p hm)⟩
  · rcases q with q | q
    · obtain ⟨u, q'⟩ := s1.ok a q
      exact ⟨u, by rw [upd_ne (ne_of_none q' hp)]; exact q'⟩
    · exact ⟨_, by rw [q]; exact upd_same⟩
  · have q := s1.obj i a u q1 q2
    cases u with
    | lst ds =>
      obtain ⟨xs, q3, q4⟩ := q
      exact ⟨xs, by rw [upd_ne (ne_of_none q3 hp)]; exact q3, q4.ext e3 s1.inF⟩
    | dct ds =>
      obtain ⟨xs, q3, qk, q4⟩ := q
      exact ⟨xs, by rw [upd_ne (ne_of_none q3 hp)]; exact q3, qk, q4.ext e3 s1.inF⟩
theorem SatP.noX {α β : Type} {σ σ2 : SV} {r : R α} {g : α → Hs → R β} {f : β → Hs → R (List (Ky × D))} (q : SatP z σ F am H ((noX (r.bind g)).bind f) Q) :
    SatR z.mute σ2 F2 am2 H2 r (fun a h1 _ _ _ => SatP z σ F am H ((Ci.noX (g a h1)).bind f) Q) := by
  cases r with
  | ok a h => exact fun _ _ _ _ _ => q
  | exc c v h => exact q.elim
  | bad => exact q.elim
theorem dputs_app : ∀ (ps : List (Ky × D)) (kvs : List (Ky × D)) (k : Ky) (d : D), dputs kvs (ps ++ [(k, d)]) = dput (dputs kvs ps) k d
  | [], _, _, _ => rfl
  | (j, e) :: ps, kvs, k, d => dputs_app ps (dput kvs j e) k d
theorem dputs_len : ∀ (ps : List (Ky × D)) (kvs : List (Ky × D)), (dputs kvs ps).length ≤ kvs.length + ps.length
  | [], kvs => by simp [dputs]
  | (j, e) :: ps, kvs => by
    have h1 := dputs_len ps (dput kvs j e)
    have h2 := dput_len kvs j e
    show (dputs (dput kvs j e) ps).length ≤ _
    simp only [List.length_cons]; omega
theorem RKv.ext {c : Rc} {kvs : List (Ky × D)} {ws : List (Key × V)} (k : RKv c F am H kvs ws) (e : Ext F am H F1 am1 H1) (i0 : ∀ x ∈ am, F x) : RKv c F1 am1 H1 kvs ws := ⟨k.1, k.2.ext e i0⟩
theorem RKv.poke {c : Rc} {o : HO} {kvs : List (Ky × D)} {ws : List (Key × V)} (k : RKv c F am H kvs ws) (f : F p) : RKv c F am (upd H p o) kvs ws := ⟨k.1, k.2.poke f⟩
end
section
variable {z : Si}
/-- a dict comprehension's turn -/
def turnP (z : Si) (k v : E) (own : List Nat) (tg : Tg) (cond : E) (S : Sl) : D → Hs → R (Option (Ky × D)) := fun x h2 => match put (wipe S own) x tg with
      | some S2 => noX ((if cond.isOmit then (.ok true h2 : R Bool) else tru (ev z.sub z.call cond S2 h2)).bind fun c h3 => if c then (ev z.sub z.call k S2 h3).bind fun y h4 => (ev z.sub z.call v S2 h4).bind fun z h5 => kvO y z h5 else .ok none h3)
      | none => .bad
theorem ev_dc {k v : E} {own : List Nat} {tg : Tg} {it : It} {cond : E} {S : Sl} {h : Hs} : ev z.sub z.call (.dc k v own tg it cond) S h = (evI z.sub z.call it S h).bind fun src h1 => (compP (turnP z k v own tg cond S) src wfuel 0 h1).bind fun ps h2 => .ok (.ref h2.length) (h2 ++ [.dct (dputs [] ps)]) := rfl
theorem dc_at {k v : E} {own : List Nat} {tg : Tg} {cond : E} {σ : SV} {Q : VK} {S : Sl} {F1 : Addr → Prop} {am1 : List Addr} {H1 : Hp} {h1 : Hs} {src : Src} {J : L2.It} (hown : ∀ i ∈ tgIx tg, i ∈ own) (r0 : Rel z.rc F1 am1 H1 h1 S σ) (w : Wk z.rc src F1 am1 H1 J)
    (q1 : SatP z σ F1 am1 H1 (compP (turnP z k v own tg cond S) src wfuel 0 h1) Q) (p : Addr) (hp : H1 p = none) :
    ∃ W : Nat → Nat → Hp → Prop, (∃ m, W 0 m (upd H1 p (.dK []))) ∧ ∀ i m H, W i m H →
  (J.stop i H ∧ Q (.ref p) H) ∨ (J.go i H ∧ ∃ Nx : Hp → Prop, (∀ H', Nx H' → ∃ m', m' < m ∧ W (i + 1) m' H') ∧ ∀ x H', J.yld i H x H' → tG z.mute tg x (L2.wipe σ own) H' fun σ2 H2 => L2.wipe σ2 own = L2.wipe σ own ∧ tCond z.mute cond σ2 H2 fun b H3 =>
    if b = true then tE z.mute k σ2 H3 fun y H4 => tE z.mute v σ2 H4 fun u H5 => ∃ kvs kk, y = kV kk ∧ H5 p = some (.dK kvs) ∧ kvs.length < sizeLine ∧ Nx (upd H5 p (.dK (putK kvs kk u))) else Nx H3) := by
  have s1 := r0.sto
  have r1 := r0.wiped own
  obtain ⟨e2, s2, np⟩ := s1.guardO (.dK []) hp
  have r2 := r1.to e2 s2
  generalize hturn : turnP z k v own tg cond S = turn at q1
  refine ⟨fun i m H' => ∃ F' am' h' acc accV, Ext F1 am1 H1 F' am' H' ∧ Rel z.rc F' am' H' h' (wipe S own) (L2.wipe σ own) ∧ F' p ∧ p ∉ am' ∧ H' p = some (.dK accV) ∧ RKv z.rc F' am' H' (dputs [] acc) accV ∧ acc.length + m ≤ wfuel ∧
      SatP z σ F1 am1 H1 ((compP turn src m i h').bind fun ys h2 => .ok (acc ++ ys) h2) Q, ⟨wfuel, _, am1, h1, [], [], e2, r2, .inr rfl, np, upd_same, .nil, by simp, ?_⟩, ?_⟩
  · have : ((compP turn src wfuel 0 h1).bind fun ys h2 => R.ok ([] ++ ys) h2) = compP turn src wfuel 0 h1 := by
      cases compP turn src wfuel 0 h1 <;> rfl
    rw [this]; exact q1
  · intro i m H' ⟨F', am', h', acc, accV, e3, r3, fp, np3, hD, kD, hm, q3⟩
    cases m with
    | zero => exact q3.elim
    | succ n =>
      unfold compP at q3
      obtain ⟨w1, w2⟩ := w F' am' H' h' e3 r3.sto i
      cases hi : itm src h' i with
      | none =>
        rw [hi] at q3
        have q3 : SatP z σ F1 am1 H1 ((if srcOk src h' = true then .ok [] h' else .bad : Ci.R (List (Ky × D))).bind fun ys h2 => .ok (acc ++ ys) h2) Q := q3
        cases hb : srcOk src h' with
        | false => rw [hb] at q3; exact q3.elim
        | true =>
          rw [hb] at q3
          refine .inl ⟨w2 hi hb, ?_⟩
          exact q3 F' am' H' p accV e3 r3.sto hD (by simpa using kD) fp np3 hp
      | some x =>
        rw [hi] at q3
        obtain ⟨g1, g2⟩ := w1 x hi
        refine .inr ⟨g1, _, fun H'' nx => ⟨n, Nat.lt_succ_self _, nx⟩, fun x' H'' y => ?_⟩
        obtain ⟨F4, am4, e4, s4, rx⟩ := g2 x' H'' y
        have r4 := r3.to e4 s4
        have e34 := e3.trans e4 s1.inF
        -- the dict at p, some steps on
        have keep : ∀ {F5 am5 H5}, Ext F' am' H' F5 am5 H5 → H5 p = some (.dK accV) ∧ p ∉ am5 ∧ F5 p ∧ RKv z.rc F5 am5 H5 (dputs [] acc) accV := fun {F5 am5 H5} e => by
          refine ⟨e.keep _ _ hD np3, fun hm' => ?_, e.up p fp, kD.ext e r3.sto.inF⟩
          have := e.nw p hm' np3
          rw [hD] at this; cases this
        have q3 : SatP z σ F1 am1 H1 (((turn x h').bind fun o h1 => (compP turn src n (i + 1) h1).bind fun ys h2 => match o with
            | some y => .ok (y :: ys) h2
            | none => .ok ys h2).bind fun ys h2 => .ok (acc ++ ys) h2) Q := q3
        have assoc : ∀ r : R (Option (Ky × D)), ((r.bind fun o h1 => (compP turn src n (i + 1) h1).bind fun ys h2 => match o with
            | some y => R.ok (y :: ys) h2
            | none => R.ok ys h2).bind fun ys h2 => R.ok (acc ++ ys) h2) = r.bind fun o h1 => (compP turn src n (i + 1) h1).bind fun ys h2 => R.ok (acc ++ (match o with | some y => [y] | none => []) ++ ys) h2 := by
          intro r
          cases r with
          | ok o h1 =>
            show ((compP turn src n (i + 1) h1).bind _).bind _ = (compP turn src n (i + 1) h1).bind _
            cases compP turn src n (i + 1) h1 with
            | ok ys h2 =>
              cases o with
              | none => simp [R.bind]
              | some y => simp [R.bind]
            | exc c v h => rfl
            | bad => rfl
          | exc c v h => rfl
          | bad => rfl
        rw [assoc] at q3
        rw [← hturn] at q3
        simp only [turnP] at q3
        cases hput : put (wipe S own) x tg with
        | none => rw [hput] at q3; exact q3.elim
        | some S2 =>
          rw [hput] at q3
          rw [hturn] at q3
          refine ⟨_, F4, am4, h', x, S2, r4, rx, hput, fun σ2 rσ sb => ⟨?_, ?_⟩⟩
          · rw [sb own hown, wipe_sub fun i hi => hi]
          · have fin : ∀ b h3 F5 am5 H5, Ext F4 am4 H'' F5 am5 H5 → Sto z.rc F5 am5 H5 h3 →
                SatP z σ F1 am1 H1 ((noX (if b = true then (ev z.sub z.call k S2 h3).bind fun y h4 => (ev z.sub z.call v S2 h4).bind fun z h5 => kvO y z h5 else R.ok none h3)).bind fun o h1 => (compP turn src n (i + 1) h1).bind fun ys h2 => R.ok (acc ++ (match o with | some y => [y] | none => []) ++ ys) h2) Q →
                (if b = true then tE z.mute k σ2 H5 fun y H4 => tE z.mute v σ2 H4 fun u H5 => ∃ kvs kk, y = kV kk ∧ H5 p = some (.dK kvs) ∧ kvs.length < sizeLine ∧ (∃ F' am' h' acc' accV, Ext F1 am1 H1 F' am' (upd H5 p (.dK (putK kvs kk u))) ∧ Rel z.rc F' am' (upd H5 p (.dK (putK kvs kk u))) h' (wipe S own) (L2.wipe σ own) ∧ F' p ∧ p ∉ am' ∧ (upd H5 p (.dK (putK kvs kk u))) p = some (.dK accV) ∧ RKv z.rc F' am' (upd H5 p (.dK (putK kvs kk u))) (dputs [] acc') accV ∧ acc'.length + n ≤ wfuel ∧
                    SatP z σ F1 am1 H1 ((compP turn src n (i + 1) h').bind fun ys h2 => .ok (acc' ++ ys) h2) Q)
                  else (∃ F' am' h' acc' accV, Ext F1 am1 H1 F' am' H5 ∧ Rel z.rc F' am' H5 h' (wipe S own) (L2.wipe σ own) ∧ F' p ∧ p ∉ am' ∧ H5 p = some (.dK accV) ∧ RKv z.rc F' am' H5 (dputs [] acc') accV ∧ acc'.length + n ≤ wfuel ∧
                    SatP z σ F1 am1 H1 ((compP turn src n (i + 1) h').bind fun ys h2 => .ok (acc' ++ ys) h2) Q)) := by
              intro b h3 F5 am5 H5 e5 s5 q5
              cases b with
              | false =>
                rw [if_neg Bool.false_ne_true] at q5 ⊢
                obtain ⟨k1, k2, k3, k4⟩ := keep (e4.trans e5 r3.sto.inF)
                have q5 : SatP z σ F1 am1 H1 ((compP turn src n (i + 1) h3).bind fun ys h2 => R.ok (acc ++ [] ++ ys) h2) Q := q5
                rw [List.append_nil] at q5
                exact ⟨F5, am5, h3, acc, accV, e34.trans e5 s1.inF, r4.to e5 s5, k3, k2, k1, k4, by omega, q5⟩
              | true =>
                rw [if_pos rfl] at q5 ⊢
                refine ⟨S2, F5, am5, h3, rσ.to e5 s5, (SatP.noX q5).mono fun y h6 F6 am6 H6 _ e6 s6 q6 yv ry => ?_⟩
                refine ⟨S2, F6, am6, h6, (rσ.to e5 s5).to e6 s6, (SatP.noX q6).mono fun u h7 F7 am7 H7 _ e7 s7 q7 uv ru => ?_⟩
                cases hk : kyOf y with
                | none => rw [show kvO y u h7 = .bad by simp only [kvO, hk]] at q7; exact q7.elim
                | some kk =>
                  rw [show kvO y u h7 = .ok (some (kk, u)) h7 by simp only [kvO, hk]] at q7
                  have q7 : SatP z σ F1 am1 H1 ((compP turn src n (i + 1) h7).bind fun ys h2 => R.ok (acc ++ [(kk, u)] ++ ys) h2) Q := q7
                  obtain ⟨k1, k2, k3, k4⟩ := keep (((e4.trans e5 r3.sto.inF).trans e6 r3.sto.inF).trans e7 r3.sto.inF)
                  have hk1 : 1 ≤ n := by
                    cases n with
                    | zero => exact q7.elim
                    | succ k => omega
                  have hz := dputs_len acc []
                  have hw : wfuel < sizeLine := by decide
                  refine ⟨accV, kk, ky_rel ry hk, k1, by rw [← k4.len]; simp only [List.length_nil] at hz; omega, F7, am7, h7, acc ++ [(kk, u)], putK accV kk uv, (((e34.trans e5 s1.inF).trans e6 s1.inF).trans e7 s1.inF).poke hp, (((r4.to e5 s5).to e6 s6).to e7 s7).poke k3 k2, k3, k2, upd_same, ?_, ?_, q7⟩
                  · rw [dputs_app]
                    exact (k4.put kk ru).poke k3
                  · simp only [List.length_append, List.length_singleton]; omega
            unfold tCond
            cases ho : cond.isOmit with
            | true =>
              rw [if_pos rfl]
              rw [ho] at q3
              exact fin true h' F4 am4 H'' .refl s4 q3
            | false =>
              rw [if_neg Bool.false_ne_true]
              rw [ho] at q3
              have q3 : SatP z σ F1 am1 H1 ((noX ((tru (ev z.sub z.call cond S2 h')).bind fun c h3 => if c then (ev z.sub z.call k S2 h3).bind fun y h4 => (ev z.sub z.call v S2 h4).bind fun z h5 => kvO y z h5 else .ok none h3)).bind _) Q := q3
              exact ⟨S2, F4, am4, h', rσ, (SatP.noX q3).mono fun b h3 F5 am5 H5 _ e5 s5 q5 => fin b h3 F5 am5 H5 e5 s5 q5⟩
theorem dc_sim {k v : E} {own : List Nat} {tg : Tg} {it : It} {cond : E} {σ : SV} {H : Hp} {Q : VK} (hown : ∀ i ∈ tgIx tg, i ∈ own) (q : tE z (.dc k v own tg it cond) σ H Q) :
    tDc (tI z it) (tG z.mute tg) (tCond z.mute cond) (tE z.mute k) (tE z.mute v) own σ H Q := by
  obtain ⟨S, F, am, hs, r, q⟩ := q
  rw [ev_dc] at q
  exact ⟨S, F, am, hs, r, q.bind r.sto.inF fun src h1 F1 am1 H1 _ e1 s1 q1 J w p hp => dc_at hown (r.to e1 s1) w (md_of s1 q1) p hp⟩
end
end Ci

set_option Elab.async false
set_option linter.all false
set_option maxRecDepth 100000
set_option maxHeartbeats 4000000
namespace Ci
open PySem PySem.Spec PyProof.Rows L2
/-! ### tests -/
section
variable {z : Si} {X : Cx} {N : List Str} {G : GT} {sc : Scope} {hot : Bool}
/-- a op b op' c op'' d -/
def tChain3 (r r' r'' : R2) (ta tb tc td : TE) : TE := fun σ H Q => ta σ H fun x H1 => tb σ H1 fun y H2 => r x y H2 fun z H3 => ∃ k, z = .bl k ∧
  (if k = true then tc σ H3 fun w H4 => r' y w H4 fun z' H5 => ∃ k', z' = .bl k' ∧ (if k' = true then td σ H5 fun v H6 => r'' w v H6 Q else Q (.bl false) H5) else Q (.bl false) H3)
theorem pe_chain3 {a b c d : Expr} {ta tb tc td : TE} {pos : Pos} {op op' op'' : CmpOp} {r r' r'' : R2} (ho : OpR X (compareOp op) r) (ho' : OpR X (compareOp op') r') (ho'' : OpR X (compareOp op'') r'') (ha : PE X a ta) (hb : PE X b tb) (hc : PE X c tc) (hd : PE X d td)
    (hm : lastMarks [op, op', op''] [b, c, d] = false) : PE X (.Compare a [op, op', op''] [b, c, d] pos) (tChain3 r r' r'' ta tb tc td) := by
  refine ⟨fun pins s σ H Q I h => ?_⟩
  refine Compare_chain (thn (ha.run pins s σ H _ I h) fun v s1 ⟨x, H1, I1, r1, q1⟩ => chain_link (thn (hb.run pins s1 σ H1 _ I1 q1) fun u s2 ⟨y, H2, I2, r2, q2⟩ =>
    thn (ho pins s2 σ H2 x y v u _ I2 r1 r2 q2) fun d s3 ⟨z, H3, I3, r3, k, e, q3⟩ => ?_)) hm
  subst e
  cases r3
  refine wpAny_truthy_bool ?_
  cases k with
  | false => exact ite_ff ⟨.bl false, H3, I3, rfl, q3⟩
  | true =>
    refine ite_tt (chain_link (thn (hc.run pins s3 σ H3 _ I3 q3) fun w' s4 ⟨z', H4, I4, r4, q4⟩ => thn (ho' pins s4 σ H4 y z' u w' _ I4 r2 r4 q4) fun d' s5 ⟨z5, H5, I5, r5, k', e, q5⟩ => ?_))
    subst e
    cases r5
    refine wpAny_truthy_bool ?_
    cases k' with
    | false => exact ite_ff ⟨.bl false, H5, I5, rfl, q5⟩
    | true => exact ite_tt (chain_last (thn (hd.run pins s5 σ H5 _ I5 q5) fun w6 s6 ⟨z6, H6, I6, r6, q6⟩ => ho'' pins s6 σ H6 z' z6 w' w6 Q I6 r4 r6 q6))
theorem pt_chain3 {a b c d : Expr} {ta tb tc td : TE} {pos : Pos} {op op' op'' : CmpOp} {r r' r'' : R2} (ho : OpR X (compareOp op) r) (ho' : OpR X (compareOp op') r') (ho'' : OpR X (compareOp op'') r'') (ha : PE X a ta) (hb : PE X b tb) (hc : PE X c tc) (hd : PE X d td)
    (hm : lastMarks [op, op', op''] [b, c, d] = false) : PT X (.Compare a [op, op', op''] [b, c, d] pos) (tTest (tChain3 r r' r'' ta tb tc td)) := by
  refine ⟨fun pins s σ H Q I h => ?_⟩
  refine isTrue_chain (thn (ha.run pins s σ H _ I h) fun v s1 ⟨x, H1, I1, r1, q1⟩ => test_link (thn (hb.run pins s1 σ H1 _ I1 q1) fun u s2 ⟨y, H2, I2, r2, q2⟩ =>
    thn (ho pins s2 σ H2 x y v u _ I2 r1 r2 q2) fun d s3 ⟨z, H3, I3, r3, k, e, q3⟩ => ?_)) hm
  subst e
  cases r3
  refine wpAny_truthy_bool ?_
  cases k with
  | false =>
    obtain ⟨k', e', q'⟩ := q3
    cases e'
    exact ite_ff ⟨H3, I3, q'⟩
  | true =>
    refine ite_tt (test_link (thn (hc.run pins s3 σ H3 _ I3 q3) fun w' s4 ⟨z', H4, I4, r4, q4⟩ => thn (ho' pins s4 σ H4 y z' u w' _ I4 r2 r4 q4) fun d' s5 ⟨z5, H5, I5, r5, k', e, q5⟩ => ?_))
    subst e
    cases r5
    refine wpAny_truthy_bool ?_
    cases k' with
    | false =>
      obtain ⟨k2, e', q'⟩ := q5
      cases e'
      exact ite_ff ⟨H5, I5, q'⟩
    | true =>
      refine ite_tt (test_last (thn (hd.run pins s5 σ H5 _ I5 q5) fun w6 s6 ⟨z6, H6, I6, r6, q6⟩ => thn (ho'' pins s6 σ H6 z' z6 w' w6 _ I6 r4 r6 q6) fun d7 s7 ⟨z7, H7, I7, r7, k7, e7, q7⟩ => ?_))
      subst e7
      cases r7
      exact wpAny_truthy_bool ⟨H7, I7, q7⟩
theorem chain_mark {o o' : CmpOp} {b c : Expr} (h : noSet c = true) : lastMarks [o, o'] [b, c] = false := mark_ok h
theorem chain_mark3 {o o' o'' : CmpOp} {b c d : Expr} (h : noSet d = true) : lastMarks [o, o', o''] [b, c, d] = false := mark_ok h
theorem cmp_imp {o : CmpOp} {a b : E} {σ : SV} {H : Hp} {Q : VK} : tE z (.cmp o a b) σ H Q → tOp (rCH z o) (tE z a) (tE z b) σ H Q := fun ⟨S, F, am, hs, r, q⟩ => two r (by simpa only [ev] using q) fun d e v u F am H h r1 r2 r3 q1 => ⟨σ, F, am, h, _, _, r1.sto, r2, r3, q1⟩
theorem cmp2_imp {o o' : CmpOp} {a b c : E} {σ : SV} {H : Hp} {Q : VK} : tE z (.cmp2 o o' a b c) σ H Q → tChain (rC z (cmpD o)) (rC z (cmpD o')) (tE z a) (tE z b) (tE z c) σ H Q := fun ⟨S, F, am, hs, r, q⟩ => two r (by simpa only [ev] using q) fun d e v u F am H h r1 r2 r3 q1 => by
  cases e1 : cmpD o (rd h d) (rd h e) with
  | none => rw [e1] at q1; exact q1.elim
  | some k =>
    rw [e1] at q1
    refine ⟨σ, F, am, h, _, _, r1.sto, rd_rel r1.sto r2, rd_rel r1.sto r3, ?_⟩
    rw [e1]
    intro F' am' H' ex st w' rw'
    cases rw'
    refine ⟨k, rfl, ?_⟩
    have q2 := SatR.ext ex r1.sto.inF q1
    cases k with
    | true =>
      refine ⟨S, F', am', h, r1.to ex st, q2.bind st.inF fun f h2 F2 am2 H2 _ ex2 st2 q3 w2 rw2 => ?_⟩
      exact ⟨σ, F2, am2, h2, _, _, st2, rd_rel st2 ((r3.ext ex r1.sto.inF).ext ex2 st.inF), rd_rel st2 rw2, q3⟩
    | false => exact PostD.at q2 st (.bl false)
theorem cmp3_imp {o o' o'' : CmpOp} {a b c d : E} {σ : SV} {H : Hp} {Q : VK} : tE z (.cmp3 o o' o'' a b c d) σ H Q → tChain3 (rC z (cmpD o)) (rC z (cmpD o')) (rC z (cmpD o'')) (tE z a) (tE z b) (tE z c) (tE z d) σ H Q := fun ⟨S, F, am, hs, r, q⟩ => two r (by simpa only [ev] using q) fun d' e v u F am H h r1 r2 r3 q1 => by
  cases e1 : cmpD o (rd h d') (rd h e) with
  | none => rw [e1] at q1; exact q1.elim
  | some k =>
    rw [e1] at q1
    refine ⟨σ, F, am, h, _, _, r1.sto, rd_rel r1.sto r2, rd_rel r1.sto r3, ?_⟩
    rw [e1]
    intro F' am' H' ex st w' rw'
    cases rw'
    refine ⟨k, rfl, ?_⟩
    have q2 := SatR.ext ex r1.sto.inF q1
    cases k with
    | true =>
      refine ⟨S, F', am', h, r1.to ex st, q2.bind st.inF fun f h2 F2 am2 H2 _ ex2 st2 q3 w2 rw2 => ?_⟩
      have k3 := (r3.ext ex r1.sto.inF).ext ex2 st.inF
      cases e2 : cmpD o' (rd h2 e) (rd h2 f) with
      | none => rw [e2] at q3; exact q3.elim
      | some k' =>
        rw [e2] at q3
        refine ⟨σ, F2, am2, h2, _, _, st2, rd_rel st2 k3, rd_rel st2 rw2, ?_⟩
        rw [e2]
        intro F3 am3 H3 ex3 st3 w3 rw3
        cases rw3
        refine ⟨k', rfl, ?_⟩
        have q4 := SatR.ext ex3 st2.inF q3
        cases k' with
        | true =>
          refine ⟨S, F3, am3, h2, ((r1.to ex st).to ex2 st2).to ex3 st3, q4.bind st3.inF fun g h4 F4 am4 H4 _ ex4 st4 q5 w4 rw4 => ?_⟩
          exact ⟨σ, F4, am4, h4, _, _, st4, rd_rel st4 ((rw2.ext ex3 st2.inF).ext ex4 st3.inF), rd_rel st4 rw4, q5⟩
        | false => exact PostD.at q4 st3 (.bl false)
    | false => exact PostD.at q2 st (.bl false)
theorem e_cmp3 {o o' o'' : CmpOp} {a b c d : E} {x y w v : Expr} {p : Pos} (ok : Ok z X N G sc hot) (hw : noSet v = true) (ha : PE X x (tE z a)) (hb : PE X y (tE z b)) (hc : PE X w (tE z c)) (hd : PE X v (tE z d)) : PE X (.Compare x [o, o', o''] [y, w, v] p) (tE z (.cmp3 o o' o'' a b c d)) :=
  (pe_chain3 (cmp_ok ok.hK ok.un o) (cmp_ok ok.hK ok.un o') (cmp_ok ok.hK ok.un o'') ha hb hc hd (chain_mark3 hw)).imp fun _ _ _ => cmp3_imp
/-- a comparison gives a bool -/
def IsB (e : E) : Prop := ∀ (sub : Nat → Nat → Bool) (call : Nat → List D → Hs → R D) (S : Sl) (h h' : Hs) (d : D), ev sub call e S h = .ok d h' → ∃ b, d = .bl b
theorem bl_lift {o : Option Bool} {h h' : Hs} {d : D} (e : liftO (o.map D.bl) h = .ok d h') : ∃ b, d = .bl b := by
  cases o with
  | none => cases e
  | some b => cases e; exact ⟨b, rfl⟩
theorem bind_ok {α β : Type} {r : R α} {f : α → Hs → R β} {b : β} {h : Hs} (e : r.bind f = .ok b h) : ∃ a h1, r = .ok a h1 ∧ f a h1 = .ok b h := by
  cases r with
  | ok a h1 => exact ⟨a, h1, rfl, e⟩
  | exc c v h => cases e
  | bad => cases e
theorem isB_cmp {o : CmpOp} {a b : E} : IsB (.cmp o a b) := fun sub call S h h' d e => by
  simp only [ev] at e
  obtain ⟨x, h1, _, e⟩ := bind_ok e
  obtain ⟨y, h2, _, e⟩ := bind_ok e
  exact bl_lift e
theorem isB_cmp2 {o p : CmpOp} {a b c : E} : IsB (.cmp2 o p a b c) := fun sub call S h h' d e => by
  simp only [ev] at e
  obtain ⟨x, h1, _, e⟩ := bind_ok e
  obtain ⟨y, h2, _, e⟩ := bind_ok e
  split at e
  · obtain ⟨w, h3, _, e⟩ := bind_ok e
    exact bl_lift e
  · cases e; exact ⟨_, rfl⟩
  · cases e
theorem isB_cmp3 {o p q : CmpOp} {a b c d : E} : IsB (.cmp3 o p q a b c d) := fun sub call S h h' d e => by
  simp only [ev] at e
  obtain ⟨x, h1, _, e⟩ := bind_ok e
  obtain ⟨y, h2, _, e⟩ := bind_ok e
  split at e
  · obtain ⟨w, h3, _, e⟩ := bind_ok e
    split at e
    · obtain ⟨w, h3, _, e⟩ := bind_ok e
      exact bl_lift e
    · cases e; exact ⟨_, rfl⟩
    · cases e
  · cases e; exact ⟨_, rfl⟩
  · cases e
theorem isB_isN {a : E} : IsB (.isN a) := fun sub call S h h' d e => by
  simp only [ev] at e
  obtain ⟨x, h1, _, e⟩ := bind_ok e
  cases e; exact ⟨_, rfl⟩
theorem isB_noN {a : E} : IsB (.noN a) := fun sub call S h h' d e => by
  simp only [ev] at e
  obtain ⟨x, h1, _, e⟩ := bind_ok e
  cases e; exact ⟨_, rfl⟩
theorem tB_bl {e : E} (hb : IsB e) {σ : SV} {H : Hp} {Q : Bool → Hp → Prop} (q : tB z e σ H Q) : tE z e σ H fun x H' => ∃ k, x = .bl k ∧ Q k H' := by
  obtain ⟨S, F, am, h, r, q⟩ := q
  refine ⟨S, F, am, h, r, SatR.bind (r := ev z.sub z.call e S h) r.sto.inF q fun d h1 F1 am1 H1 e0 e1 s1 q1 v rv => ?_⟩
  obtain ⟨b, rfl⟩ := hb _ _ _ _ _ _ e0
  cases rv
  exact ⟨b, rfl, SatR.now (a := b) q1 s1⟩
theorem pt_gen {e : E} {x : Expr} (ha : PE X x (tE z e)) (he : ∀ whole, isTrue x X.env whole = (do let v ← whole; standAt x.pos; holding [v] (truthy v))) : PT X x (tB z e) :=
  (pt_truth ha he).imp fun σ H Q ⟨S, F, am, h, r, q⟩ => ⟨S, F, am, h, r, SatR.bind (r := ev z.sub z.call e S h) r.sto.inF q fun d h1 F1 am1 H1 e0 e1 s1 q1 v rv => by
    cases e2 : truD (rd h1 d) with
    | none => rw [e2] at q1; exact q1.elim
    | some k =>
      rw [e2] at q1
      exact ⟨k, tru_of (rd_rel s1 rv) e2, SatR.now q1 s1⟩⟩
theorem t_cmp {o : CmpOp} {a b : E} {x y : Expr} {p : Pos} (ok : Ok z X N G sc hot) (hy : noSet y = true) (ha : PE X x (tE z a)) (hb : PE X y (tE z b)) : PT X (.Compare x [o] [y] p) (tB z (.cmp o a b)) :=
  (pt_cmpR (cmpH_ok ok.hK ok.un o) ha hb (mark_ok hy)).imp fun σ H Q q => cmp_imp (tB_bl isB_cmp q)
theorem t_cmp2 {o o' : CmpOp} {a b c : E} {x y w : Expr} {p : Pos} (ok : Ok z X N G sc hot) (hw : noSet w = true) (ha : PE X x (tE z a)) (hb : PE X y (tE z b)) (hc : PE X w (tE z c)) : PT X (.Compare x [o, o'] [y, w] p) (tB z (.cmp2 o o' a b c)) :=
  (pt_chain (cmp_ok ok.hK ok.un o) (cmp_ok ok.hK ok.un o') ha hb hc (chain_mark hw)).imp fun σ H Q q => cmp2_imp (tB_bl isB_cmp2 q)
theorem t_cmp3 {o o' o'' : CmpOp} {a b c d : E} {x y w v : Expr} {p : Pos} (ok : Ok z X N G sc hot) (hw : noSet v = true) (ha : PE X x (tE z a)) (hb : PE X y (tE z b)) (hc : PE X w (tE z c)) (hd : PE X v (tE z d)) : PT X (.Compare x [o, o', o''] [y, w, v] p) (tB z (.cmp3 o o' o'' a b c d)) :=
  (pt_chain3 (cmp_ok ok.hK ok.un o) (cmp_ok ok.hK ok.un o') (cmp_ok ok.hK ok.un o'') ha hb hc hd (chain_mark3 hw)).imp fun σ H Q q => cmp3_imp (tB_bl isB_cmp3 q)
theorem t_isN {a : E} {x : Expr} {j : Nat} {p p' : Pos} (ha : PE X x (tE z a)) : PT X (.Compare x [.Is] [.Constant .none j p'] p) (tB z (.isN a)) :=
  (pt_cmpR op_isN ha pe_non (nomark _)).imp fun σ H Q q => by
    obtain ⟨S, F, am, hs, r, q⟩ := tB_bl isB_isN q
    exact one r (by simpa only [ev] using q) fun d v F am H h r1 r2 q1 => ⟨rfl, by
      have e : decide (v = V.non) = isNonD d := by cases r2 <;> simp [isNonD]
      rw [e]
      exact PostD.at q1 r1.sto (.bl _)⟩
theorem t_noN {a : E} {x : Expr} {j : Nat} {p p' : Pos} (ha : PE X x (tE z a)) : PT X (.Compare x [.IsNot] [.Constant .none j p'] p) (tB z (.noN a)) :=
  (pt_cmpR op_notN ha pe_non (nomark _)).imp fun σ H Q q => by
    obtain ⟨S, F, am, hs, r, q⟩ := tB_bl isB_noN q
    exact one r (by simpa only [ev] using q) fun d v F am H h r1 r2 q1 => ⟨rfl, by
      have e : (!decide (v = V.non)) = !isNonD d := by cases r2 <;> simp [isNonD]
      rw [e]
      exact PostD.at q1 r1.sto (.bl _)⟩
theorem one' {a : E} {σ : SV} {H : Hp} {S : Sl} {F : Addr → Prop} {am : List Addr} {h : Hs} {f : D → Hs → R Bool} {P : Bool → Hs → (Addr → Prop) → List Addr → Hp → Prop} {R' : Bool → Hp → Prop} (r : Rel z.rc F am H h S σ)
    (q : SatR z σ F am H ((ev z.sub z.call a S h).bind f) P)
    (k : ∀ d b F am H h, Rel z.rc F am H h S σ → truD (rd h d) = some b → SatR z σ F am H (f d h) P → R' b H) (hn : ∀ d h, truD (rd h d) = none → f d h = .bad) :
    tB z a σ H R' :=
  ⟨S, F, am, h, r, by
    have q2 := q.bind (P1 := fun d h1 F1 am1 H1 => SatR z σ F1 am1 H1 (f d h1) P ∧ Rel z.rc F1 am1 H1 h1 S σ) r.sto.inF fun d h1 F1 am1 H1 _ e1 s1 q1 => ⟨q1, r.to e1 s1⟩
    unfold tst tru
    cases hr : ev z.sub z.call a S h with
    | bad => rw [hr] at q; exact q.elim
    | exc c v h1 => rw [hr] at q; exact q
    | ok d h1 =>
      rw [hr] at q2
      have q2 : ∀ F' am' H', Ext F am H F' am' H' → Sto z.rc F' am' H' h1 → SatR z σ F' am' H' (f d h1) P ∧ Rel z.rc F' am' H' h1 S σ := q2
      show SatR z σ F am H (liftO (truD (rd h1 d)) h1) _
      cases e : truD (rd h1 d) with
      | none =>
        rw [hr] at q
        have q : SatR z σ F am H (f d h1) P := q
        rw [hn d h1 e] at q; exact q.elim
      | some b => exact fun F' am' H' e1 s1 => k d b F' am' H' h1 (q2 F' am' H' e1 s1).2 e (q2 F' am' H' e1 s1).1⟩
theorem bind_bind {α β γ : Type} (r : R α) (f : α → Hs → R β) (g : β → Hs → R γ) : (r.bind f).bind g = r.bind fun a h => (f a h).bind g := by
  cases r <;> rfl
theorem t_not {a : E} {x : Expr} {p : Pos} (ha : PT X x (tB z a)) : PT X (.UnaryOp .Not x p) (tB z (.not_ a)) :=
  (pt_not ha).imp fun σ H Q ⟨S, F, am, hs, r, q⟩ => by
    unfold tst tru at q
    simp only [ev] at q
    rw [bind_bind] at q
    refine one' r q (fun d b F am H h r1 e q1 => ?_) fun d h e => ?_
    · rw [e] at q1
      exact SatR.now (a := !b) q1 r1.sto
    · rw [e]; rfl
theorem t_and {a b : E} {x y : Expr} {rest : List Expr} {p : Pos} (ha : PT X x (tB z a)) (hb : PW X (.BoolOp .And (y :: rest) p) (tB z b)) : PW X (.BoolOp .And (x :: y :: rest) p) (tB z (.and_ a b)) := by
  have h0 := pw_and ha hb
  refine ⟨fun wh pins s σ H Q I q => h0.run wh pins s σ H Q I ?_⟩
  obtain ⟨S, F, am, hs, r, q⟩ := q
  unfold tst tru at q
  simp only [ev] at q
  rw [bind_bind] at q
  refine one' r q (fun d k F am H h r1 e q1 => ?_) fun d h e => ?_
  · rw [e] at q1
    cases k with
    | true => exact ⟨S, F, am, h, r1, q1⟩
    | false =>
      have q1 : SatR z σ F am H (liftO (truD (rd h d)) h) _ := q1
      rw [e] at q1
      exact SatR.now (a := false) q1 r1.sto
  · rw [e]; rfl
theorem t_or {a b : E} {x y : Expr} {rest : List Expr} {p : Pos} (ha : PT X x (tB z a)) (hb : PW X (.BoolOp .Or (y :: rest) p) (tB z b)) : PW X (.BoolOp .Or (x :: y :: rest) p) (tB z (.or_ a b)) := by
  have h0 := pw_or ha hb
  refine ⟨fun wh pins s σ H Q I q => h0.run wh pins s σ H Q I ?_⟩
  obtain ⟨S, F, am, hs, r, q⟩ := q
  unfold tst tru at q
  simp only [ev] at q
  rw [bind_bind] at q
  refine one' r q (fun d k F am H h r1 e q1 => ?_) fun d h e => ?_
  · rw [e] at q1
    cases k with
    | false => exact ⟨S, F, am, h, r1, q1⟩
    | true =>
      have q1 : SatR z σ F am H (liftO (truD (rd h d)) h) _ := q1
      rw [e] at q1
      exact SatR.now (a := true) q1 r1.sto
  · rw [e]; rfl
end
end Ci

set_option Elab.async false
set_option linter.all false
set_option maxRecDepth 100000
set_option maxHeartbeats 4000000
namespace Ci
open PySem PySem.Spec PyProof.Rows L2
/-! ### the caught exception -/
section
variable {X : Cx}
/-- isinstance(e, c), e the exception at a -/
def rIsX (K : PySem.W.Frag) (D a dx : Addr) : List V → Hp → VK → Prop := fun xs H Q => ∃ (c : V) (cv : Value) (b : Bool) (fs : List (Str × V)), xs = [.ref a, c] ∧ (∀ u, RelV c u → u = cv) ∧ PySem.W.kitOne K (.ref D) cv = some b ∧ H dx = some (.xd fs) ∧ Q (.bl b) H
theorem xd_inst {pins : List (Addr × Obj)} {σ : SV} {H : Hp} {s : Shared} {a D dx : Addr} {oe : Obj} {fs : List (Str × V)} (I : Inv X pins σ H s) (hp : (a, oe) ∈ X.pn) (hz : Zc (.ref D) (some dx) oe) (hf : ∃ vs, oe.data = .fields vs) (hd : H dx = some (.xd fs)) :
    ∃ (od : Obj) (mA : Str → Option Value), s.heap.Ns1 dx mA ∧ (∀ f, RelO (fs.lookup f) (mA f)) ∧ s.heap.get? dx = some od ∧ PySem.W.InstAt s.heap a oe D (some od) := by
  obtain ⟨ha, _⟩ := I.pin (a, oe) (List.mem_append_left _ hp)
  obtain ⟨vs, hv⟩ := hf
  obtain ⟨mA, hns, hr⟩ := I.hok dx _ hd
  obtain ⟨od, ho, hl⟩ := lookIn_ns hns
  exact ⟨od, mA, hns, hr, ho, ha, hz.1, by unfold PySem.W.notCls; rw [hv] <;> rfl, by rw [hz.2]; exact ho⟩
theorem call_isX {a D dx : Addr} {oe : Obj} (hp : (a, oe) ∈ X.pn) (C : ExcC X.K D) (hz : Zc (.ref D) (some dx) oe) (hf : ∃ vs, oe.data = .fields vs) : CallR X (.builtin "isinstance") (rIsX X.K D a dx) := by
  intro pins s σ H xs us Q I r h
  obtain ⟨c, cv, b, fs, rfl, hcv, e, hd, q⟩ := h
  cases r with
  | cons rx rr =>
    cases rr with
    | cons rt rr =>
      cases rr
      cases rx
      have ec := hcv _ rt
      subst ec
      obtain ⟨od, mA, _, _, _, J⟩ := xd_inst I hp hz hf hd
      exact PySem.W.kia_one (PySem.W.kitx_exc (by obtain ⟨cd, hc, _⟩ := PySem.W.any_some C.hd; rw [hc]; rfl) C.hg C.hk C.hs C.ha C.hn C.ht C.hm) I.kIn J e (fun z => nomatch z) fun tk => ⟨.bl b, H, I.kept (t' := tk) fun _ _ z => z, rfl, q⟩
theorem pe_xa {a D dx : Addr} {oe : Obj} {e : Expr} {te : TE} {pos : Pos} {n : Str} (hp : (a, oe) ∈ X.pn) (C : ExcC X.K D) (hno : PySem.W.findIn X.K (.ref D) n = some none) (hz : Zc (.ref D) (some dx) oe) (hf : ∃ vs, oe.data = .fields vs) (he : PE X e te)
    (hb : attributeBase e n X.env (eval e X.env) = eval e X.env) : PE X (.Attribute e n pos) (fun σ H Q => te σ H fun x H1 => x = .ref a ∧ ∃ fs v, H1 dx = some (.xd fs) ∧ fs.lookup n = some v ∧ Q v H1) := by
  refine ⟨fun pins s σ H Q I h => ?_⟩
  refine attr_of hb (thn (he.run pins s σ H _ I h) fun u s1 ⟨x, H1, I1, rx, ex, fs, v, ea, l, q⟩ => ?_)
  subst ex
  obtain rfl : u = Value.ref a := rx
  obtain ⟨od, mA, hns, hr, ho, J⟩ := xd_inst I1 hp hz hf ea
  obtain ⟨od', ho', hl⟩ := lookIn_ns hns
  rw [ho] at ho'
  cases ho'
  obtain ⟨u, hu, ru⟩ := RelO.some_of (v := v) (o := mA n) (by rw [← l]; exact hr n)
  exact HandSPX.exc_get I1.kIn J C.hg C.hk C.hs (PySem.W.findObj_own C.hd hno rfl (by rw [hl, hu])) (handed_of ru) ⟨v, H1, I1.tok _, ru, q⟩
end
section
variable {z : Si} {X : Cx} {N : List Str} {G : GT} {sc : Scope} {hot : Bool}
theorem base_ok {x : Expr} {n : Str} {env : Env} (h : plainBase x = true) : attributeBase x n env (eval x env) = eval x env := by
  cases x <;> first | rfl | cases h
theorem RD.hx {F : Addr → Prop} {am : List Addr} {H : Hp} {c : Rc} {k : Nat} {d : D} {v : V} (r : RD c F am H (.exc k d) v) : ∃ x w, c.hx = some x ∧ x.c = k ∧ scV d = some w ∧ H x.d = some (.xd [(x.f, w)]) ∧ v = .ref x.a := by
  cases r with
  | exc h1 h2 h3 h4 => exact ⟨_, _, h1, rfl, h2, h3, rfl⟩
theorem e_isC {a : E} {c : Nat} {x : Expr} {y u : Str} {p p2 p3 : Pos} (ok : Ok z X N G sc hot) (hg : gl sc y = true) (hb : isBi G y "isinstance" = true) (hu : gl sc u = true) (ht : (isCls G u c || isTy G u "ValueError" && c == 99) = true) (hs : noStar x = true) (ha : PE X x (tE z a)) :
    PE X (.Call (.Name y p) [x, .Name u p2] [] p3) (tE z (.isC a c)) := by
  cases hh : z.rc.hx with
  | none =>
    refine ⟨fun pins s σ H Q I ⟨S, F, am, hq, r, q⟩ => ?_⟩
    simp only [ev] at q
    obtain ⟨g1, g2, g3⟩ := gl_ok ok hg
    obtain ⟨u1, u2, u3⟩ := gl_ok ok hu
    obtain ⟨b1, b2⟩ := bi_at ok hb
    have pt : ∃ v, PE X (.Name u p2) (tC v) := by
      simp only [Bool.or_eq_true, Bool.and_eq_true] at ht
      rcases ht with t | ⟨t, _⟩
      · obtain ⟨C, _, c2⟩ := cls_at ok t
        exact ⟨.ref C, pe_glob (v := .ref C) u1 c2 rfl u2⟩
      · obtain ⟨t1, t2⟩ := ty_at ok t
        exact ⟨.ty "ValueError", pe_bltn u1 t1 t2 rfl u3 u2⟩
    obtain ⟨vt, pt⟩ := pt
    exact (pe_callB (r := fun _ _ _ => False) (fun _ _ _ _ _ _ _ _ _ h => h.elim) g1 b1 b2 (pa_cons ha (pa_cons pt pa_nil) (star_ok hs)) g3 g2 (star_ok hs)).run pins s σ H Q I ⟨S, F, am, hq, r, q.bind r.sto.inF fun d h1 F1 am1 H1 _ e1 s1 q1 v rv => by
      cases d <;> first | exact q1.elim | skip
      obtain ⟨x', w, h1, _⟩ := rv.hx
      rw [hh] at h1; cases h1⟩
  | some x' =>
    have hk := ok.hx x' hh
    obtain ⟨oe, C, m, ca, hz, hf, ff, EC, _⟩ := hk.ex
    obtain ⟨g1, g2, g3⟩ := gl_ok ok hg
    obtain ⟨u1, u2, u3⟩ := gl_ok ok hu
    obtain ⟨b1, b2⟩ := bi_at ok hb
    have pt : ∃ v cv, PE X (.Name u p2) (tC v) ∧ (∀ w, RelV v w → w = cv) ∧ PySem.W.kitOne X.K (.ref C) cv = some (z.sub x'.c c) := by
      simp only [Bool.or_eq_true, Bool.and_eq_true, beq_iff_eq] at ht
      rcases ht with t | ⟨t, rfl⟩
      · obtain ⟨C', c1, c2⟩ := cls_at ok t
        exact ⟨.ref C', .ref C', pe_glob (v := .ref C') u1 c2 rfl u2, (fun w r => by cases r; rfl), hk.k C c C' ca c1⟩
      · obtain ⟨t1, t2⟩ := ty_at ok t
        exact ⟨.ty "ValueError", .type "ValueError", pe_bltn u1 t1 t2 rfl u3 u2, (fun w r => by cases r; rfl), hk.ve C ca⟩
    obtain ⟨vt, cv, pt, hr, hkit⟩ := pt
    refine (pe_callB (call_isX m EC hz hf) g1 b1 b2 (pa_cons ha (pa_cons pt pa_nil) (star_ok hs)) g3 g2 (star_ok hs)).imp fun σ H Q ⟨S, F, am, hs, r, q⟩ => ?_
    simp only [ev] at q
    refine ⟨S, F, am, hs, r, q.bind r.sto.inF fun d h1 F1 am1 H1 _ e1 s1 q1 v rv => ?_⟩
    cases d <;> first | exact q1.elim | skip
    obtain ⟨x2, w, h1, h2, h3, h4, rfl⟩ := rv.hx
    rw [hh] at h1
    cases h1
    subst h2
    exact ⟨vt, cv, _, _, rfl, hr, hkit, h4, PostD.at q1 s1 (.bl _)⟩
theorem e_attr {a : E} {k : Nat} {x : Expr} {n : Str} {p : Pos} (ok : Ok z X N G sc hot) (hn : n = atn k) (hk : 100 ≤ k) (hb : plainBase x = true) (ha : PE X x (tE z a)) : PE X (.Attribute x n p) (tE z (.attr a k)) := by
  cases hh : z.rc.hx with
  | none =>
    refine ⟨fun pins s σ H Q I ⟨S, F, am, hs, r, q⟩ => ?_⟩
    simp only [ev] at q
    refine attr_of (base_ok hb) (thn (ha.run pins s σ H (fun _ _ => False) I ⟨S, F, am, hs, r, q.bind r.sto.inF fun d h1 F1 am1 H1 _ e1 s1 q1 v rv => ?_⟩) fun u s1 ⟨x, H1, I1, rx, f⟩ => f.elim)
    cases d <;> first | exact q1.elim | skip
    obtain ⟨x', w, h1, _⟩ := rv.hx
    rw [hh] at h1; cases h1
  | some x' =>
    have hkx := ok.hx x' hh
    obtain ⟨oe, C, m, ca, hz, hf, ff, EC, hno⟩ := hkx.ex
    refine ⟨fun pins s σ H Q I ⟨S, F, am, hs, r, q⟩ => ?_⟩
    simp only [ev] at q
    by_cases hsub : z.sub x'.c k = true
    · have en := hkx.fl k hk hsub
      refine (pe_xa m EC (by rw [hn, en]; exact hno) hz hf ha (base_ok hb)).run pins s σ H Q I ⟨S, F, am, hs, r, q.bind r.sto.inF fun d h1 F1 am1 H1 _ e1 s1 q1 v rv => ?_⟩
      cases d <;> first | exact q1.elim | skip
      obtain ⟨x2, w, h1, h2, h3, h4, rfl⟩ := rv.hx
      rw [hh] at h1
      cases h1
      subst h2
      simp only at q1
      rw [hsub, if_pos rfl] at q1
      refine ⟨rfl, _, w, h4, ?_, PostD.at q1 s1 (sc_RD h3)⟩
      rw [hn, en]
      simp [List.lookup]
    · refine attr_of (base_ok hb) (thn (ha.run pins s σ H (fun _ _ => False) I ⟨S, F, am, hs, r, q.bind r.sto.inF fun d h1 F1 am1 H1 _ e1 s1 q1 v rv => ?_⟩) fun u s1 ⟨x, H1, I1, rx, f⟩ => f.elim)
      cases d <;> first | exact q1.elim | skip
      obtain ⟨x2, w, h1, h2, h3, h4, rfl⟩ := rv.hx
      rw [hh] at h1
      cases h1
      subst h2
      simp only at q1
      rw [if_neg hsub] at q1
      exact q1.elim
/-! ### methods -/
/-- l.count(x): as many as are equal -/
def rCountD (K : PySem.W.Frag) : V → List V → Hp → VK → Prop := fun x xs H Q => ∃ (a : Addr) (y : V) (d : PyData) (ds : List PyData), x = V.ref a ∧ xs = [y] ∧ Dp K H (V.ref a) (.list ds) ∧ Dp K H y d ∧
  SeqAt.shaped (.list ds) = true ∧ SeqAt.shaped d = true ∧ Q (.int ((ds.countP fun z => PyData.eqv z d : Nat) : Int)) H
theorem mt_countD (hu : X.A.units + 65 < cLine) : MtR X "list.count" (rCountD X.K) := by
  intro pins s σ H x xs v us Q I rx rxs h
  obtain ⟨a, y, d, ds, rfl, rfl, hl, hy, sl, sd, q⟩ := h
  cases rx
  cases rxs with
  | cons ry rt =>
    rename_i uy ut
    cases rt
    obtain ⟨bs, r1⟩ := Dp.reads I d y uy hy ry
    have lay : PyData.canLayAll0 ds = true := SeqAt.canLay_of_shaped sl
    have room : X.A.units + 1 + min (PyData.depthAll ds) d.depth < cLine := room_in_shaped sd hu
    cases hl with
    | lst hs ha =>
      obtain ⟨its, rv, ⟨⟨cls, dd, data, sls⟩, n, ho, hc, hdn, hdt⟩, hlen⟩ := I.list hs
      simp only at hc hdt
      subst hc hdt
      obtain ⟨as, h4⟩ := Dp.readsAll I ds _ its ha rv
      have hmap : its.map (SeqAt.readOf s.heap) = ds := SeqAt.readsAll_map ds its as lay h4
      refine call_meets PySem.F.slot_list_count ⟨_, ho, rfl⟩ PySem.F.entry_list_count (PySem.F.args_list_count_2 _ _)
        (SeqAt.list_countAt a its.toArray n dd sls uy (fun u => PyData.eqv (SeqAt.readOf s.heap u) d)) ⟨ho, SeqAt.items_eqAt (vs := its.toArray) (show ReadsAll s.heap its.toArray.toList ds as from h4) r1 lay (SeqAt.canLay_of_shaped sd) room, ?_⟩
      have ec : its.toArray.toList.countP (fun u => PyData.eqv (SeqAt.readOf s.heap u) d) = ds.countP fun z => PyData.eqv z d := by
        rw [← hmap, List.countP_map]
        rfl
      refine ⟨V.int ((ds.countP fun z => PyData.eqv z d : Nat) : Int), H, I.tok _, ⟨s.toks, ?_⟩, q⟩
      show Value.int ((its.toArray.toList.countP (fun u => PyData.eqv (SeqAt.readOf s.heap u) d) : Nat) : Int) s.toks = Value.int ((ds.countP fun z => PyData.eqv z d : Nat) : Int) s.toks
      rw [ec]
def rMe (z : Si) (m : Me) : V → List V → Hp → VK → Prop := fun x vs H Q => ∃ σ0 F am h d ds, Sto z.rc F am H h ∧ RD z.rc F am H d x ∧ RDs z.rc F am H ds vs ∧ SatR z σ0 F am H (methD m d ds h) (PostD z Q)
theorem findIdx_spec {α : Type} {p : α → Bool} : ∀ {xs : List α} {k : Nat}, xs.findIdx? p = some k → ∃ y, xs[k]? = some y ∧ p y = true ∧ ∀ m y', m < k → xs[m]? = some y' → p y' = false
  | [], _, h => by simp at h
  | x :: xs, k, h => by
    rw [List.findIdx?_cons] at h
    split at h
    · rename_i c
      cases h
      exact ⟨x, rfl, c, fun m _ hm => absurd hm (Nat.not_lt_zero _)⟩
    · rename_i c
      cases e : xs.findIdx? p with
      | none => rw [e] at h; cases h
      | some j =>
        rw [e] at h
        cases h
        obtain ⟨y, h1, h2, h3⟩ := findIdx_spec e
        refine ⟨y, by simpa using h1, h2, fun m y' hm hy => ?_⟩
        cases m with
        | zero => simp at hy; subst hy; simpa using c
        | succ m => exact h3 m y' (Nat.lt_of_succ_lt_succ hm) (by simpa using hy)
section
variable {c : Rc} {F : Addr → Prop} {am : List Addr} {H : Hp} {h : Hs} {n : Nat} {a : Addr} {ds : List D} {vs : List V}
theorem Sto.write (s : Sto c F am H h) (q : am[n]? = some a) (k : RDs c F am H ds vs) : Ext F am H F am (upd H a (.lst vs)) ∧ Sto c F am (upd H a (.lst vs)) (h.set n (.lst ds)) := by
  have hm : a ∈ am := List.mem_of_getElem? q
  have hF := s.inF a hm
  refine ⟨⟨⟨[], by simp⟩, fun b o e nb => by rw [upd_ne (fun z => nb (by rw [z]; exact hm))]; exact e, fun _ _ _ x => x, fun _ x => x, fun _ x y => absurd x y⟩, s.nd, by rw [List.length_set]; exact s.len, s.inF, fun b x => ?_, fun i b o q1 q2 => ?_⟩
  · by_cases e : b = a
    · subst e; exact ⟨_, upd_same⟩
    · rw [upd_ne e]; exact s.ok b x
  · by_cases e : n = i
    · subst e
      rw [q] at q1
      cases q1
      have hl : n < h.length := by rw [← s.len]; exact (List.getElem?_eq_some_iff.mp q).1
      rw [List.getElem?_set_self hl] at q2
      cases q2
      exact ⟨vs, upd_same, k.poke hF⟩
    · rw [List.getElem?_set_ne e] at q2
      have hne : b ≠ a := fun z => by
        subst z
        obtain ⟨l1, e1⟩ := List.getElem?_eq_some_iff.mp q
        obtain ⟨l2, e2⟩ := List.getElem?_eq_some_iff.mp q1
        have pw := List.pairwise_iff_getElem.mp s.nd
        rcases Nat.lt_or_gt_of_ne e with z | z
        · exact pw n i l1 l2 z (e1.trans e2.symm)
        · exact pw i n l2 l1 z (e2.trans e1.symm)
      have z := s.obj i b o q1 q2
      cases o with
      | lst es =>
        obtain ⟨xs, q3, q4⟩ := z
        exact ⟨xs, by rw [upd_ne hne]; exact q3, q4.poke hF⟩
      | dct es =>
        obtain ⟨xs, q3, qk, q4⟩ := z
        exact ⟨xs, by rw [upd_ne hne]; exact q3, qk, q4.poke hF⟩
end
theorem lst_ty {K : PySem.W.Frag} {c : Rc} {F : Addr → Prop} {am : List Addr} {H : Hp} {h : Hs} {d : D} {v : V} (s : Sto c F am H h) (r : RD c F am H d v) (e : isLst h d = true) : tyV K "list" v H := by
  have k := rd_rel s r
  unfold isLst at e
  split at e
  · rename_i xs e1
    rw [e1] at k
    obtain ⟨a, ys, rfl, e2, k2⟩ := k.list
    exact .inl ⟨rfl, ys, SqL.of e2⟩
  · cases e
theorem me_append : MtR X "list.append" (rMe z .append) := by
  intro pins s σ H x vs v us Q I rx rv ⟨σ0, F, am, h, d, ds, st, r1, r2, q⟩
  unfold methD at q
  split at q <;> first | exact q.elim | (rename_i e; cases e) | skip
  · rename_i n y
    cases r1 with
    | ref q1 =>
      rename_i a
      cases e : h[n]? with
      | none => rw [e] at q; exact q.elim
      | some o =>
        cases o with
        | dct xs => rw [e] at q; exact q.elim
        | lst xs =>
          rw [e] at q
          simp only at q
          split at q
          · rename_i hl
            cases r2 with
            | cons ry rn =>
              cases rn
              obtain ⟨ys, e2, k2⟩ := st.obj _ _ _ q1 e
              obtain ⟨e3, s3⟩ := st.write q1 (k2.append (.cons ry .nil))
              exact mt_append pins s σ H _ _ v us Q I rx rv ⟨a, ys, _, rfl, rfl, e2, by rw [← k2.length]; exact hl, q F am _ e3 s3 _ .non⟩
          · exact q.elim
theorem me_extend : MtR X "list.extend" (rMe z .extend) := by
  intro pins s σ H x vs v us Q I rx rv ⟨σ0, F, am, h, d, ds, st, r1, r2, q⟩
  unfold methD at q
  split at q <;> first | exact q.elim | (rename_i e; cases e) | skip
  · rename_i n ys
    cases r1 with
    | ref q1 =>
      rename_i a
      cases e : h[n]? with
      | none => rw [e] at q; exact q.elim
      | some o =>
        cases o with
        | dct xs => rw [e] at q; exact q.elim
        | lst xs =>
          rw [e] at q
          simp only at q
          split at q
          · rename_i hl
            cases r2 with
            | cons ry rn =>
              cases rn
              cases ry with
              | lst eb hb kb =>
                obtain ⟨ws, e2, k2⟩ := st.obj _ _ _ q1 e
                obtain ⟨e3, s3⟩ := st.write q1 (k2.append kb)
                exact mt_extend pins s σ H _ _ v us Q I rx rv ⟨a, _, ws, _, rfl, rfl, e2, eb, by rw [← k2.length, ← kb.length]; exact hl, q F am _ e3 s3 _ .non⟩
          · exact q.elim
theorem ints_vs {c : Rc} {F : Addr → Prop} {am : List Addr} {H : Hp} : ∀ {ds : List D} {vs : List V} {is : List Int}, RDs c F am H ds vs → intsOf ds = some is → vs = is.map V.int ∧ ds = is.map .int
  | _, _, _, .nil, e => by simp only [intsOf, Option.some.injEq] at e; subst e; exact ⟨rfl, rfl⟩
  | .int i :: ds, _, is, .cons r k, e => by
    simp only [intsOf, Option.map_eq_some_iff] at e
    obtain ⟨js, e1, rfl⟩ := e
    obtain ⟨h1, h2⟩ := ints_vs k e1
    cases r
    exact ⟨by rw [h1]; rfl, by rw [h2]; rfl⟩
  | .non :: _, _, _, .cons _ _, e => by simp [intsOf] at e
  | .bl _ :: _, _, _, .cons _ _, e => by simp [intsOf] at e
  | .str _ :: _, _, _, .cons _ _, e => by simp [intsOf] at e
  | .tup _ :: _, _, _, .cons _ _, e => by simp [intsOf] at e
  | .lst _ :: _, _, _, .cons _ _, e => by simp [intsOf] at e
  | .ref _ :: _, _, _, .cons _ _, e => by simp [intsOf] at e
  | .fn _ :: _, _, _, .cons _ _, e => by simp [intsOf] at e
  | .exc _ _ :: _, _, _, .cons _ _, e => by simp [intsOf] at e
  | .scr _ :: _, _, _, .cons _ _, e => by simp [intsOf] at e
theorem RDs.erase : ∀ {c : Rc} {F : Addr → Prop} {am : List Addr} {H : Hp} {ds : List D} {vs : List V} (i : Nat), RDs c F am H ds vs → RDs c F am H (ds.eraseIdx i) (vs.eraseIdx i)
  | _, _, _, _, [], [], _, .nil => .nil
  | _, _, _, _, _ :: _, _ :: _, 0, .cons r t => t
  | _, _, _, _, _ :: _, _ :: _, i + 1, .cons r t => .cons r (RDs.erase i t)
theorem erase_map : ∀ (is : List Int) (k : Nat), (is.map V.int).eraseIdx k = (is.eraseIdx k).map V.int
  | [], _ => rfl
  | _ :: _, 0 => rfl
  | i :: is, k + 1 => by simp only [List.map_cons, List.eraseIdx_cons_succ, erase_map is k]
theorem me_remove : MtR X "list.remove" (rMe z .remove) := by
  intro pins s σ H x vs v us Q I rx rv ⟨σ0, F, am, h, d, ds, st, r1, r2, q⟩
  unfold methD at q
  split at q <;> first | exact q.elim | (rename_i e; cases e) | skip
  · rename_i n i
    cases r1 with
    | ref q1 =>
      rename_i a
      cases e : h[n]? with
      | none => rw [e] at q; exact q.elim
      | some o =>
        cases o with
        | dct xs => rw [e] at q; exact q.elim
        | lst xs =>
          rw [e] at q
          simp only at q
          cases e2 : intsOf xs with
          | none => rw [e2] at q; exact q.elim
          | some is =>
            rw [e2] at q
            simp only at q
            cases e3 : is.findIdx? (fun j => decide (j = i)) with
            | none => rw [e3] at q; exact q.elim
            | some k =>
              rw [e3] at q
              cases r2 with
              | cons ry rn =>
                cases rn
                cases ry
                obtain ⟨ws, e4, k2⟩ := st.obj _ _ _ q1 e
                obtain ⟨rfl, hx⟩ := ints_vs k2 e2
                obtain ⟨e5, s5⟩ := st.write q1 (k2.erase k)
                obtain ⟨hk, h1, h2⟩ := List.findIdx?_eq_some_iff_getElem.1 e3
                refine mt_remove pins s σ H _ _ v us Q I rx rv ⟨a, is, i, k, rfl, rfl, e4, ?_, fun m hm => ?_, ?_⟩
                · rw [List.getElem?_eq_getElem hk]
                  exact congrArg some (of_decide_eq_true h1)
                · intro hm2
                  have hl : m < is.length := by omega
                  rw [List.getElem?_eq_getElem hl] at hm2
                  have := h2 m hm
                  simp only [decide_eq_true_eq] at this
                  exact this (Option.some.inj hm2)
                · have q6 : SatR z σ0 F am H (.ok D.non (h.set n (.lst (xs.eraseIdx k)))) _ := q
                  have er : (is.map V.int).eraseIdx k = (is.eraseIdx k).map V.int := erase_map is k
                  rw [← er]
                  exact q6 F am _ e5 s5 _ .non
theorem me_pop : MtR X "list.pop" (rMe z .pop) := by
  intro pins s σ H x vs v us Q I rx rv ⟨σ0, F, am, h, d, ds, st, r1, r2, q⟩
  unfold methD at q
  split at q <;> first | exact q.elim | (rename_i e; cases e) | skip
  · rename_i n i
    cases r1 with
    | ref q1 =>
      rename_i a
      cases e : h[n]? with
      | none => rw [e] at q; exact q.elim
      | some o =>
        cases o with
        | dct xs => rw [e] at q; exact q.elim
        | lst xs =>
          rw [e] at q
          simp only at q
          split at q
          · rename_i hl
            simp only [Bool.and_eq_true, decide_eq_true_eq] at hl
            split at q
            · rename_i y hy
              cases r2 with
              | cons ry rn =>
                cases rn
                cases ry
                obtain ⟨ws, e2, k2⟩ := st.obj _ _ _ q1 e
                obtain ⟨e3, s3⟩ := st.write q1 (k2.erase i.toNat)
                obtain ⟨w, hw, rw'⟩ := k2.get hy
                have lt : i.toNat < ws.length := by
                  by_cases hh : i.toNat < ws.length
                  · exact hh
                  · rw [List.getElem?_eq_none (by omega)] at hw; cases hw
                have sx : seqIndex? i ws.length = some i.toNat := by
                  simp only [seqIndex?]
                  rw [if_neg (show ¬ i < 0 by omega), if_pos (by simp; omega)]
                exact mt_popAt pins s σ H _ _ v us Q I rx rv ⟨a, ws, i, i.toNat, w, rfl, rfl, e2, by omega, by omega, sx, hw, q F am _ e3 s3 _ (rw'.ext e3 st.inF)⟩
            · exact q.elim
          · exact q.elim
theorem me_index (hu : X.A.units + 65 < cLine) : MtR X "list.index" (rMe z .index) := by
  intro pins s σ H x vs v us Q I rx rv ⟨σ0, F, am, h, d, ds, st, r1, r2, q⟩
  unfold methD at q
  split at q <;> first | exact q.elim | (rename_i e; cases e) | skip
  rename_i y
  have k := rd_rel st r1
  split at q
  · rename_i xs e1
    rw [e1] at k
    obtain ⟨a, ys, rfl, e2, k2⟩ := k.list
    cases r2 with
    | cons ry rn =>
      cases rn
      split at q
      · rename_i hc
        simp only [Bool.and_eq_true] at hc
        obtain ⟨h1, h2⟩ := hc
        unfold D.eqOk at h1 h2
        simp only [Bool.and_eq_true] at h1 h2
        split at q
        · rename_i kk e3
          obtain ⟨w, f1, f2, f3⟩ := findIdx_spec e3
          have hd : Dp X.K H (.ref a) (.list (D.pys xs)) := by
            have := RR.dp (K := X.K) (RR.lst e2 k2) h1.1
            simpa only [D.py] using this
          refine mt_indexD hu pins s σ H _ _ v us Q I rx rv ⟨a, _, y.py, D.pys xs, kk, w, rfl, rfl, hd, ry.dp h2.1, by simpa only [D.py] using h1.2, h2.2, f1, f2, f3, PostD.at q st (.int _)⟩
        · exact q.elim
      · exact q.elim
  · exact q.elim
theorem me_count (hu : X.A.units + 65 < cLine) : MtR X "list.count" (rMe z .count) := by
  intro pins s σ H x vs v us Q I rx rv ⟨σ0, F, am, h, d, ds, st, r1, r2, q⟩
  unfold methD at q
  split at q <;> first | exact q.elim | (rename_i e; cases e) | skip
  rename_i y
  have k := rd_rel st r1
  split at q
  · rename_i xs e1
    rw [e1] at k
    obtain ⟨a, ys, rfl, e2, k2⟩ := k.list
    cases r2 with
    | cons ry rn =>
      cases rn
      split at q
      · rename_i hc
        simp only [Bool.and_eq_true] at hc
        obtain ⟨h1, h2⟩ := hc
        unfold D.eqOk at h1 h2
        simp only [Bool.and_eq_true] at h1 h2
        have hd : Dp X.K H (.ref a) (.list (D.pys xs)) := by
          have := RR.dp (K := X.K) (RR.lst e2 k2) h1.1
          simpa only [D.py] using this
        exact mt_countD hu pins s σ H _ _ v us Q I rx rv ⟨a, _, y.py, D.pys xs, rfl, rfl, hd, ry.dp h2.1, by simpa only [D.py] using h1.2, h2.2, PostD.at q st (.int _)⟩
      · exact q.elim
  · exact q.elim
theorem few_ok {pos : Pos} {env : Env} : ∀ {xs : List Expr}, xs.all noStar = true → (backTo pos (starEach xs env)).all (fun x => !x.1) = true
  | [], _ => rfl
  | x :: xs, h => by
    simp only [List.all_cons, Bool.and_eq_true] at h
    rw [star_ok h.1]
    show (!false && (backTo pos (starEach xs env)).all (fun x => !x.1)) = true
    rw [few_ok h.2]; rfl
theorem e_pop0 {a : E} {x : Expr} {n : Str} {apos cpos : Pos} (hn : n = ("pop" : Str)) (hb : plainBase x = true) (hl : (apos.endLine == cpos.line) = true) (ha : PE X x (tE z a)) : PE X (.Call (.Attribute x n apos) [] [] cpos) (tE z (.pop0 a)) := by
  subst hn
  refine (pe_bm0 PySem.F.plainAttrs_list PySem.F.slot_list_pop PySem.F.type_list_pop mt_pop ha (base_ok hb) hl).imp fun σ H Q ⟨S, F, am, hq, r, q⟩ => ?_
  simp only [ev] at q
  refine ⟨S, F, am, hq, r, q.bind r.sto.inF fun d h1 F1 am1 H1 _ e1 s1 q1 v rv => ?_⟩
  cases d <;> first | exact q1.elim | skip
  rename_i n0 hd0
  cases rv with
  | ref g =>
    rename_i b
    simp only at q1
    cases e : h1[n0]? with
    | none => rw [e] at q1; exact q1.elim
    | some o =>
      cases o with
      | dct xs => rw [e] at q1; exact q1.elim
      | lst xs =>
        rw [e] at q1
        simp only at q1
        cases e2 : xs[xs.length - 1]? with
        | none => rw [e2] at q1; exact q1.elim
        | some y =>
          rw [e2] at q1
          obtain ⟨ws, e4, k2⟩ := s1.obj _ _ _ g e
          obtain ⟨w, hw, rw'⟩ := k2.get e2
          have kd : RDs z.rc F1 am1 H1 xs.dropLast ws.dropLast := by
            rw [List.dropLast_eq_take, List.dropLast_eq_take, ← k2.length]
            exact k2.take _
          obtain ⟨e5, s5⟩ := s1.write g kd
          rw [k2.length] at hw
          exact ⟨.inl ⟨rfl, ws, SqL.of e4⟩, b, ws, w, rfl, rfl, e4, hw, q1 F1 am1 _ e5 s5 _ (rw'.ext e5 s1.inF)⟩
theorem e_meth {m : Me} {a : E} {es : Es} {x y : Expr} {ys : List Expr} {n : Str} {apos cpos : Pos} (ok : Ok z X N G sc hot) (hn : n = m.name) (hb : plainBase x = true) (hl : (apos.endLine == cpos.line) = true) (hc : ys.length < 20) (hs : (y :: ys).all noStar = true)
    (ha : PE X x (tE z a)) (hes : PA X (y :: ys) (tEs z es)) : PE X (.Call (.Attribute x n apos) (y :: ys) [] cpos) (tE z (.meth m a es)) := by
  have hs2 := hs
  simp only [List.all_cons, Bool.and_eq_true] at hs2
  have key : ∀ {id : String}, Slot "list" n id → typeOf (.builtin id) = pure (.type "method_descriptor") → MtR X id (rMe z m) → PE X (.Call (.Attribute x n apos) (y :: ys) [] cpos) (tE z (.meth m a es)) := fun {id} slot ty hm =>
    (pe_bm PySem.F.plainAttrs_list slot ty hm ha hes (base_ok hb) (by
      rw [few_ok hs, Bool.true_and]
      show (true && decide ((y :: ys).length + 0 + 0 < 30)) = true
      rw [Bool.true_and]
      exact decide_eq_true (by simp only [List.length_cons]; omega)) hl (star_ok hs2.1) (plain_ok hs2.2)).imp fun σ H Q ⟨S, F, am, hq, r, q⟩ => by
        simp only [ev] at q
        refine ⟨S, F, am, hq, r, q.bind r.sto.inF fun d h1 F1 am1 H1 _ e1 s1 q1 v rv => ?_⟩
        split at q1
        · rename_i hl
          refine ⟨lst_ty s1 rv hl, S, F1, am1, h1, r.to e1 s1, q1.bind s1.inF fun ds h2 F2 am2 H2 _ e2 s2 q2 vs k => ?_⟩
          exact ⟨σ, F2, am2, h2, d, ds, s2, rv.ext e2 s1.inF, k, q2⟩
        · exact q1.elim
  cases m with
  | append => subst hn; exact key PySem.F.slot_list_append PySem.F.type_list_append me_append
  | index => subst hn; exact key PySem.F.slot_list_index PySem.F.type_list_index (me_index (by have := ok.un; omega))
  | pop => subst hn; exact key PySem.F.slot_list_pop PySem.F.type_list_pop me_pop
  | remove => subst hn; exact key PySem.F.slot_list_remove PySem.F.type_list_remove me_remove
  | extend => subst hn; exact key PySem.F.slot_list_extend PySem.F.type_list_extend me_extend
  | count => subst hn; exact key PySem.F.slot_list_count PySem.F.type_list_count (me_count (by have := ok.un; omega))
end
end Ci

set_option Elab.async false
set_option linter.all false
set_option maxRecDepth 100000
set_option maxHeartbeats 4000000
namespace Ci
open PySem PySem.Spec PySem.Calls PyProof.Rows
/-! ### t[::-1] of a tuple -/
section
variable {prog : Program} {w : World} {A : Around} {E : Value → Shared → Prop} {s : Shared}
theorem rev_adjust (n : Nat) : Builtin.Slice.sliceAdjust none none (-1) (n : Int) = ((n : Int) - 1, -1) := rfl
theorem rev_places (n : Nat) : Builtin.Slice.slicePlaces ((n : Int) - 1) (-1) (-1) = n := by
  unfold Builtin.Slice.slicePlaces
  have h1 : ¬ ((-1 : Int) > 0) := by decide
  have h2 : (- -1 : Int) = 1 := by decide
  simp only [h1, if_false, h2, Int.ediv_one]
  split <;> omega
theorem rev_pick (xs : Array Value) : ((List.range xs.size).filterMap fun (k : Nat) => xs[((xs.size : Int) - 1 + (k : Int) * (-1)).toNat]?).toArray = xs.toList.reverse.toArray := by
  have e : ((List.range xs.size).filterMap fun (k : Nat) => xs[((xs.size : Int) - 1 + (k : Int) * (-1)).toNat]?) = ((List.range xs.size).map fun k => xs.size - 1 - k).filterMap (xs[·]?) := by
    rw [List.filterMap_map]
    have key : ∀ l : List Nat, (∀ k ∈ l, k < xs.size) → l.filterMap (fun (k : Nat) => xs[((xs.size : Int) - 1 + (k : Int) * (-1)).toNat]?) = l.filterMap ((fun x => xs[x]?) ∘ fun k => xs.size - 1 - k) := by
      intro l
      induction l with
      | nil => intro _; rfl
      | cons k l ih =>
        intro hl
        have hk := hl k List.mem_cons_self
        have e2 : ((xs.size : Int) - 1 + (k : Int) * (-1)).toNat = xs.size - 1 - k := by omega
        rw [List.filterMap_cons, List.filterMap_cons, ih fun j hj => hl j (List.mem_cons_of_mem _ hj), e2]
        rfl
    exact key _ fun k hk => List.mem_range.mp hk
  rw [e, PySem.W.krv_range, List.filterMap_reverse, PySem.W.krv_all]
theorem getItem_rev {t sl : Addr} {items : Array Value} {vl vu vs : Value} {Q : Value → Shared → Prop} (ht : IsTup s.heap t items) (hs : s.heap.IsSliceOf sl vl vu vs) (pl : IsPart vl none) (pu : IsPart vu none) (ps : IsPart vs (some (-1)))
    (h : Q (.ref s.heap.objs.size) { s with heap := s.heap.push { cls := .type "tuple", data := .seq items.toList.reverse.toArray } }) (hsz : items.size ≤ sizeLine) : wpAny (model prog w) A (getItem (.ref t) (.ref sl)) Q E s := by
  have fit : sizeOk (.seq items.toList.reverse.toArray) := by
    show items.toList.reverse.toArray.size ≤ sizeLine
    rw [List.size_toArray, List.length_reverse, Array.length_toList]
    exact hsz
  obtain ⟨os, hos, hcs, hds⟩ := id hs
  have hT : s.TypeIs (.ref sl) "slice" := ⟨os, hos, hcs⟩
  unfold getItem
  try with_reducible refine wpAny_holding ?_
  first | refine wpAny_bind (wpAny_pure ?_) | skip
  refine wpAny_bind (wpAny_sequenceKey ht.typeIs (by decide) ?_)
  refine wpAny_bind (wpAny_callSpecial?_slot (name := Str.ofString "__getitem__") ht.typeIs PyProof.Rows.slot_tuple_getitem (wpAny_call_entry PyProof.Rows.slot_tuple_getitem ht.typeIs entry_tuple_getitem ?_ (args_tuple_getitem _ _)))
  show wpAny _ _ (Builtin.Tuple.tupleItemsOf (.ref t) >>= _) _ _ s
  refine wpAny_bind (tupleItemsOf_ ht ?_)
  refine wpAny_bind (wpAny_typeOf hT ?_)
  rw [if_pos (by decide)]
  obtain ⟨tk, rfl⟩ : ∃ tk, vs = .int (-1) tk := by cases ps; exact ⟨_, rfl⟩
  refine wpAny_bind ?_
  unfold Builtin.Slice.sliceApplied Builtin.Slice.sliceFields
  refine wpAny_bind (wpAny_bind (wpAny_field hos hds (x := vl) rfl (wpAny_bind (wpAny_field hos hds (x := vu) rfl (wpAny_bind (wpAny_field hos hds (x := .int (-1) tk) rfl (wpAny_pure ?_)))))))
  refine wpAny_bind (HT.slicePart_ (.int (-1) tk) ?_)
  show wpAny _ _ (if (((-1 : Int)) == 0) = true then _ else _) _ _ s
  rw [if_neg (by decide)]
  refine wpAny_bind (HT.slicePart_ pl (wpAny_bind (HT.slicePart_ pu (wpAny_bind (wpAny_pure ?_)))))
  show wpAny _ _ (match Builtin.Slice.sliceAdjust none none (-1) (items.size : Int) with | (lo, hi) => pure (lo, (-1 : Int), Builtin.Slice.slicePlaces lo hi (-1))) _ _ s
  rw [rev_adjust]
  show wpAny _ _ (pure ((items.size : Int) - 1, (-1 : Int), Builtin.Slice.slicePlaces ((items.size : Int) - 1) (-1) (-1))) _ _ s
  rw [rev_places]
  refine wpAny_pure ?_
  have no : ¬ (((items.size : Int) - 1 == 0 && (-1 : Int) == 1 && items.size == items.size) = true) := by
    intro q
    rw [Bool.and_eq_true, Bool.and_eq_true] at q
    exact absurd q.1.2 (by decide)
  show wpAny _ _ (if ((items.size : Int) - 1 == 0 && (-1 : Int) == 1 && items.size == items.size) = true then _ else _) _ _ s
  rw [if_neg no, rev_pick]
  first
    | exact wpAny_bind (m := Builtin.Tuple.tupleExact _) (wpAny_newObj_type (wpAny_pure ⟨_, rfl, wpAny_pure h⟩) fit)
    | exact wpAny_bind (m := Builtin.Tuple.tupleExact _) (wpAny_newObj_type (wpAny_bind (wpAny_pure (wpAny_pure ⟨_, rfl, wpAny_pure h⟩))) fit)
    | exact wpAny_bind (wpAny_bind (m := Builtin.Tuple.tupleExact _) (wpAny_newObj_type (wpAny_pure (wpAny_pure ⟨_, rfl, wpAny_pure h⟩)) fit))
    | exact wpAny_bind (wpAny_bind (m := Builtin.Tuple.tupleExact _) (wpAny_newObj_type (wpAny_pure ⟨_, rfl, wpAny_pure h⟩) fit))
end
end Ci
namespace Ci
open PySem PySem.Spec PyProof.Rows L2
section
variable {X : Cx}
/-- e[::-1], e a list or a tuple -/
def tRev (K : PySem.W.Frag) (te : TE) : TE := fun σ H Q => te σ H fun x H1 => ∃ a xs, x = .ref a ∧ ((SqL K H1 a xs ∧ ∀ p, H1 p = none → Q (.ref p) (upd H1 p (.lst xs.reverse))) ∨ (SqT K H1 a xs ∧ ∀ p, H1 p = none → Q (.ref p) (upd H1 p (.tup xs.reverse))))
theorem pe_rev {e : Expr} {te : TE} {k : Nat} {p1 p2 p3 pos : Pos} (he : PE X e te) : PE X (.Subscript e (.Slice none none (some (.UnaryOp .USub (.Constant (.int 1) k p1) p2)) p3) pos) (tRev X.K te) := by
  refine ⟨fun pins s σ H Q I w => ?_⟩
  refine Subscript_ (thn (he.run pins s σ H _ I w) fun v s1 ⟨x, H1, I1, r1, q1⟩ => ?_)
  obtain ⟨a, xs, ex, hx⟩ := q1
  subst ex
  cases r1
  have step : PO X (some (.UnaryOp .USub (.Constant (.int 1) k p1) p2)) (tPart (tUn (rU fun i => .int (-i)) (tC (.int 1)))) := po_some (pe_un un_neg pe_int)
  refine wpAny_Slice (thn (po_none.run pins s1 σ H1 (fun o H2 => o = none ∧ H2 = H1) I1 ⟨rfl, rfl⟩) fun ul s2 ⟨l, H2, I2, pl, el, e2⟩ => ?_)
  subst el e2
  refine thn (po_none.run pins s2 σ H2 (fun o H3 => o = none ∧ H3 = H2) I2 ⟨rfl, rfl⟩) fun uu s3 ⟨u, H3, I3, pu, eu, e3⟩ => ?_
  subst eu e3
  refine thn (step.run pins s3 σ H3 (fun o H4 => o = some (-1) ∧ H4 = H3) I3 ⟨1, rfl, -1, rfl, rfl, rfl⟩) fun us s4 ⟨o, H4, I4, ps, eo, e4⟩ => ?_
  subst eo e4
  have I5 : Inv X pins σ H4 { s4 with heap := s4.heap.push { cls := .type "slice", data := .fields #[ul, uu, us] } } := I4.kept (t' := s4.toks) fun b ob q => Heap.get?_push_of_some _ q
  show wpAny (model X.prog X.w) X.A (subscriptTail e (.Slice none none (some (.UnaryOp .USub (.Constant (.int 1) k p1) p2)) p3) (.ref a) (.ref s4.heap.objs.size)) (EP X pins σ Q) X.xe { s4 with heap := s4.heap.push { cls := .type "slice", data := .fields #[ul, uu, us] } }
  rcases hx with ⟨hx, q⟩ | ⟨hx, q⟩
  · obtain ⟨its, r, ht, hz⟩ := I5.list hx
    have hlen := r.length
    refine tail_any (ops := [.ref a, .ref s4.heap.objs.size]) ht.isList.typeIs (PySem.slot_list_getitem.lookup) ?_ (by with_unfolding_all rfl)
    refine wpAny_getItem_list_slice ht.isList (Heap.IsSliceOf.new _ ul uu us) pl pu ps (by decide) ?_ (by rw [List.size_toArray]; omega)
    rw [PySem.W.krv_pick]
    refine ⟨.ref _, _, I5.laid (t' := s4.toks) (o := .lst xs.reverse) (fun b ob y => Heap.get?_push_of_some _ y) (Nat.le_refl _) ?_, rfl, q _ (I5.hok.fresh (Nat.le_refl _))⟩
    exact ⟨by rw [List.length_reverse]; exact hz, _, 0, r.reverse, Heap.get?_push_size _ rfl⟩
  · obtain ⟨its, r, ht, hz⟩ := I5.tuple hx
    have hlen := r.length
    refine tail_any (ops := [.ref a, .ref s4.heap.objs.size]) ht.typeIs (PyProof.Rows.slot_tuple_getitem.lookup) ?_ (by with_unfolding_all rfl)
    refine getItem_rev ht (Heap.IsSliceOf.new _ ul uu us) pl pu ps ?_ (by rw [List.size_toArray]; omega)
    refine ⟨.ref _, _, I5.laid (t' := s4.toks) (o := .tup xs.reverse) (fun b ob y => Heap.get?_push_of_some _ y) (Nat.le_refl _) ?_, rfl, q _ (I5.hok.fresh (Nat.le_refl _))⟩
    exact ⟨by rw [List.length_reverse]; exact hz, _, r.reverse, IsTup.new _ _⟩
end
end Ci

set_option Elab.async false
set_option linter.all false
set_option maxRecDepth 100000
set_option maxHeartbeats 4000000
namespace Ci
open PySem PySem.Spec PyProof.Rows L2
section
variable {z : Si} {X : Cx} {N : List Str} {G : GT} {sc : Scope}
theorem rds_rg {c : Rc} {F : Addr → Prop} {am : List Addr} {H : Hp} (i : Int) : ∀ l : List Nat, RDs c F am H (l.map fun k => D.int (i + (k : Nat))) (l.map fun k => V.int (i + (k : Nat)))
  | [] => .nil
  | k :: l => .cons (.int _) (rds_rg i l)
/-- the list of a range, by data -/
theorem rg_at {t : Bool} {x y : D} {F : Addr → Prop} {am : List Addr} {H : Hp} {h : Hs} {σ : SV} {Q : VK} {v u : V} (st : Sto z.rc F am H h) (r1 : RD z.rc F am H x v) (r2 : RD z.rc F am H y u) (q : SatR z σ F am H (liftO (rlistD t x y) h) (PostD z Q)) :
    ∃ i j, v = .int i ∧ u = .int j ∧ RgOk i j ∧ ∀ p, H p = none → Q (.ref p) (upd H p (if t then .tup (rgV i j) else .lst (rgV i j))) := by
  unfold rlistD at q
  split at q
  · rename_i i j
    obtain ⟨c, q⟩ := ite_some q
    cases r1; cases r2
    simp only [Bool.and_eq_true, decide_eq_true_eq] at c
    refine ⟨i, j, rfl, rfl, ⟨by omega, by omega, by omega, by omega, by omega⟩, fun p hp => ?_⟩
    cases t with
    | true => exact PostD.tup q st (rds_rg i _) hp
    | false => exact PostD.lst q st (rds_rg i _) hp
  · exact q.elim
theorem e_rlist {t : Bool} {a b : E} {y y2 : Str} {xs : List Expr} {p p2 p3 p4 : Pos} (ok : Ok z X N G sc false) (g1 : gl sc y = true) (h1 : isTy G y (if t then "tuple" else "list") = true) (e1 : y = (if t then ("tuple" : Str) else ("list" : Str)))
    (g2 : gl sc y2 = true) (h2 : isTy G y2 "range" = true) (e2 : y2 = ("range" : Str))
    (hx : (∃ x, xs = [x] ∧ a.isOmit = true ∧ noStar x = true ∧ PE X x (tE z b)) ∨ ∃ x x', xs = [x, x'] ∧ a.isOmit = false ∧ noStar x = true ∧ noStar x' = true ∧ PE X x (tE z a) ∧ PE X x' (tE z b)) :
    PE X (.Call (.Name y p) [.Call (.Name y2 p2) xs [] p3] [] p4) (tE z (.rlist t a b)) := by
  obtain ⟨l1, l2, l3⟩ := gl_ok ok g1
  obtain ⟨m1, m2, m3⟩ := gl_ok ok g2
  obtain ⟨t1, t2⟩ := ty_at ok h1
  obtain ⟨u1, u2⟩ := ty_at ok h2
  subst e2
  have rg : ∃ te, PRg X (.Call (.Name "range" p2) xs [] p3) te ∧ ∀ {σ H Q}, tE z (.rlist t a b) σ H Q → te σ H fun i j H1 => RgOk i j ∧ ∀ q, H1 q = none → Q (.ref q) (upd H1 q (if t then .tup (rgV i j) else .lst (rgV i j))) := by
    rcases hx with ⟨x, rfl, ho, hs, hb⟩ | ⟨x, x', rfl, ho, hs, hs', ha, hb⟩
    · refine ⟨_, prg_1 m1 u1 hb (star_ok hs), fun {σ H Q} ⟨S, F, am, h, r, q⟩ => ?_⟩
      simp only [ev, ho, if_true] at q
      have q : SatR z σ F am H ((ev z.sub z.call b S h).bind fun y h2 => liftO (rlistD t (.int 0) y) h2) (PostD z Q) := q
      refine one r q fun d v F am H h r1 r2 q1 => ?_
      obtain ⟨i, j, e1, e2, e3, e4⟩ := rg_at r1.sto (.int 0) r2 q1
      cases e1
      exact ⟨j, e2, e3, e4⟩
    · refine ⟨_, prg_2 m1 u1 ha hb (star_ok hs) (star_ok hs') (plain_ok (by simp only [List.all_cons, hs', List.all_nil, Bool.and_self])), fun {σ H Q} ⟨S, F, am, h, r, q⟩ => ?_⟩
      simp only [ev, ho, Bool.false_eq_true, if_false] at q
      refine two r q fun d e v u F am H h r1 r2 r3 q1 => ?_
      obtain ⟨i, j, e1, e2, e3, e4⟩ := rg_at r1.sto r2 r3 q1
      exact ⟨i, j, e1, e2, e3, e4⟩
  obtain ⟨te, hp, himp⟩ := rg
  cases t with
  | true =>
    subst e1
    exact (pe_tupRg (p := p) (pos := p4) (ok.calm rfl) l1 t1 hp).imp fun σ H Q q => himp q
  | false =>
    subst e1
    exact (pe_listRg (p := p) (pos := p4) (ok.calm rfl) l1 t1 hp).imp fun σ H Q q => himp q
theorem RDs.rev {c : Rc} {F : Addr → Prop} {am : List Addr} {H : Hp} : ∀ {ds : List D} {vs : List V}, RDs c F am H ds vs → RDs c F am H ds.reverse vs.reverse
  | _, _, .nil => .nil
  | _, _, .cons r k => by
    rw [List.reverse_cons, List.reverse_cons]
    exact (RDs.rev k).append (.cons r .nil)
theorem e_rev {a : E} {x : Expr} {k : Nat} {p1 p2 p3 pos : Pos} (ha : PE X x (tE z a)) : PE X (.Subscript x (.Slice none none (some (.UnaryOp .USub (.Constant (.int 1) k p1) p2)) p3) pos) (tE z (.rev a)) :=
  (pe_rev ha).imp fun σ H Q ⟨S, F, am, hs, r, q⟩ => one r (by simpa only [ev] using q) fun d v F am H h r1 r2 q1 => by
    have k1 := rd_rel r1.sto r2
    generalize rd h d = e at k1 q1
    unfold revD at q1
    split at q1
    · obtain ⟨a, xs, rfl, e1, n1, k2⟩ := k1.tuple
      exact ⟨a, xs, rfl, .inr ⟨SqT.of e1, fun p hp => PostD.tup q1 r1.sto k2.rev hp⟩⟩
    · obtain ⟨a, xs, rfl, e1, k2⟩ := k1.list
      exact ⟨a, xs, rfl, .inl ⟨SqL.of e1, fun p hp => PostD.lst q1 r1.sto k2.rev hp⟩⟩
    · exact q1.elim
end
end Ci

set_option Elab.async false
set_option linter.all false
set_option maxRecDepth 100000
set_option maxHeartbeats 4000000
namespace Ci
open PySem PySem.Spec PyProof.Rows L2
section
variable {z : Si} {X : Cx} {N : List Str} {G : GT} {sc : Scope} {hot : Bool}
/-- d.get(k, v) -/
theorem e_dget {a k d : E} {x y w : Expr} {n : Str} {apos cpos : Pos} (ok : Ok z X N G sc hot) (hn : n = ("get" : Str)) (hb : plainBase x = true) (hl : (apos.endLine == cpos.line) = true) (hs1 : noStar y = true) (hs2 : noStar w = true)
    (ha : PE X x (tE z a)) (hk : PE X y (tE z k)) (hd : PE X w (tE z d)) : PE X (.Call (.Attribute x n apos) [y, w] [] cpos) (tE z (.dget a k d)) := by
  subst hn
  have m : M2 X x "get" apos y w cpos := ⟨base_ok hb, by
    rw [few_ok (by simp [hs1, hs2]), Bool.true_and]
    rfl, hl, by rw [star_ok hs1, star_ok hs2]; rfl⟩
  refine (pe_dget2 (by have := ok.un; omega) ha hk hd m).imp fun σ H Q ⟨S, F, am, h, r, q⟩ => ?_
  simp only [ev] at q
  refine ⟨S, F, am, h, r, q.bind r.sto.inF fun x1 h1 F1 am1 H1 _ e1 s1 q1 v rv => ?_⟩
  cases e : dct h1 x1 with
  | none => rw [e] at q1; exact q1.elim
  | some kvs =>
    rw [e] at q1
    obtain ⟨a', ws, rfl, g1, g2, g3⟩ := dct_rel s1 rv e
    refine ⟨a', rfl, .inl ⟨ws, .inl g1⟩, S, F1, am1, h1, r.to e1 s1, SatR.bind s1.inF q1 fun y1 h2 F2 am2 H2 _ e2 s2 q2 u ru => ⟨S, F2, am2, h2, (r.to e1 s1).to e2 s2, SatR.bind s2.inF q2 fun w1 h3 F3 am3 H3 _ e3 s3 q3 t rt => ?_⟩⟩
    have rv3 := (rv.ext e2 s1.inF).ext e3 s2.inF
    have ru3 := ru.ext e3 s2.inF
    cases e4 : dct h3 x1 with
    | none => rw [e4] at q3; exact q3.elim
    | some kv3 =>
      cases e5 : kyOf y1 with
      | none => rw [e4, e5] at q3; exact q3.elim
      | some ky =>
        rw [e4, e5] at q3
        obtain ⟨a2, ha2, o, g, hv⟩ := dget_of s3 rv3 e4 ru3 e5
        cases ha2
        refine ⟨o, g, ?_⟩
        rcases hv with ⟨h1, h2⟩ | ⟨d', v', h1, h2, r'⟩
        · subst h2
          simp only [h1] at q3
          exact SatR.now q3 s3 _ rt
        · subst h2
          simp only [h1] at q3
          exact SatR.now q3 s3 _ r'
/-- d.get(k) -/
theorem e_dget1 {a k : E} {x y : Expr} {n : Str} {apos cpos : Pos} (ok : Ok z X N G sc hot) (hn : n = ("get" : Str)) (hb : plainBase x = true) (hl : (apos.endLine == cpos.line) = true) (hs1 : noStar y = true)
    (ha : PE X x (tE z a)) (hk : PE X y (tE z k)) : PE X (.Call (.Attribute x n apos) [y] [] cpos) (tE z (.dget1 a k)) := by
  subst hn
  have m : M1 X x "get" apos y cpos := ⟨base_ok hb, by
    rw [few_ok (by simp [hs1]), Bool.true_and]
    rfl, hl, by rw [star_ok hs1]; rfl⟩
  refine (pe_dget1 (by have := ok.un; omega) ha hk m).imp fun σ H Q ⟨S, F, am, h, r, q⟩ => ?_
  simp only [ev] at q
  refine ⟨S, F, am, h, r, q.bind r.sto.inF fun x1 h1 F1 am1 H1 _ e1 s1 q1 v rv => ?_⟩
  cases e : dct h1 x1 with
  | none => rw [e] at q1; exact q1.elim
  | some kvs =>
    rw [e] at q1
    obtain ⟨a', ws, rfl, g1, g2, g3⟩ := dct_rel s1 rv e
    refine ⟨a', rfl, .inl ⟨ws, .inl g1⟩, S, F1, am1, h1, r.to e1 s1, SatR.bind s1.inF q1 fun y1 h2 F2 am2 H2 _ e2 s2 q2 u ru => ?_⟩
    have rv3 := rv.ext e2 s1.inF
    cases e4 : dct h2 x1 with
    | none => rw [e4] at q2; exact q2.elim
    | some kv3 =>
      cases e5 : kyOf y1 with
      | none => rw [e4, e5] at q2; exact q2.elim
      | some ky =>
        rw [e4, e5] at q2
        obtain ⟨a2, ha2, o, g, hv⟩ := dget_of s2 rv3 e4 ru e5
        cases ha2
        refine ⟨o, g, ?_⟩
        rcases hv with ⟨h1, h2⟩ | ⟨d', v', h1, h2, r'⟩
        · subst h2
          simp only [h1] at q2
          exact SatR.now q2 s2 _ .non
        · subst h2
          simp only [h1] at q2
          exact SatR.now q2 s2 _ r'
theorem SatP.go {α : Type} {F F2 : Addr → Prop} {am am2 : List Addr} {H H2 : Hp} {σ : SV} {Q : VK} {r : R α} {f : α → Hs → R (List (Ky × D))} (q : SatP z σ F am H (r.bind f) Q) (e : Ext F am H F2 am2 H2) (i0 : ∀ x ∈ am, F x) : SatR z σ F2 am2 H2 r (fun a h1 _ _ _ => SatP z σ F am H (f a h1) Q) := by
  cases r with
  | ok a h => exact fun _ _ _ _ _ => q
  | exc c v h => exact excW.ext e i0 q
  | bad => exact q
/-- {k: v} -/
theorem e_md1 {k v : E} {x y : Expr} {pos : Pos} (hk : PE X x (tE z k)) (hv : PE X y (tE z v)) : PE X (.Dict [some x] [y] pos) (tE z (.md1 k v)) := by
  refine (pe_disp (pps_cons hk hv pps_nil) rfl rfl (by simp) (by simp)).imp fun σ H Q ⟨S, F, am, h, r, q⟩ => ?_
  simp only [ev] at q
  intro p hp
  have q2 := md_of r.sto q
  obtain ⟨e3, s3, np⟩ := r.sto.guardO (.dK []) hp
  have r3 := r.to e3 s3
  have i0 := r.sto.inF
  -- the key, then the value
  refine ⟨S, _, am, h, r3, (SatP.go q2 e3 i0).mono fun d h1 F1 am1 H1 _ e1 s1 q4 xv rx => ?_⟩
  have e31 := e3.trans e1 i0
  refine ⟨S, F1, am1, h1, r3.to e1 s1, (SatP.go q4 e31 i0).mono fun d2 h2 F2 am2 H2 _ e2 s2 q6 yv ry => ?_⟩
  have e12 := e1.trans e2 s3.inF
  have hpv : H2 p = some (.dK []) := e12.keep p _ upd_same np
  have np2 : p ∉ am2 := fun hm => by
    have := e12.nw p hm np
    rw [upd_same] at this; cases this
  have fp2 : F2 p := e12.up p (.inr rfl)
  show H2 p = some (.dK []) ∧ _
  refine ⟨hpv, ?_⟩
  cases hk : kyOf d with
  | none => rw [hk] at q6; exact q6.elim
  | some kk =>
    rw [hk] at q6
    refine ⟨[(kk, yv)], by rw [ky_rel (rx.ext e2 s1.inF) hk]; rfl, by simp, ?_⟩
    have q7 : SatP z σ F am H (.ok [(kk, d2)] h2) _ := q6
    exact q7 F2 am2 _ p [(kk, yv)] ((e31.trans e2 i0).poke hp) (s2.poke fp2 np2) upd_same (RKv.cons (ry.poke fp2) RKv.nil) fp2 np2 hp
/-- [a, b, ..] * n as a changing list -/
theorem e_mrep {a b : E} {x y : Expr} {pos : Pos} (ha : PE X x (tE z a)) (hb : PE X y (tE z b)) : PE X (.BinOp x .Mult y pos) (tE z (.mrep a b)) :=
  (pe_op op_rep ha hb).imp fun σ H Q ⟨S, F, am, hs, r, q⟩ => two r (by simpa only [ev] using q) fun d e v u F am H h r1 r2 r3 q1 => by
    have k := rd_rel r1.sto r2
    split at q1
    · rename_i xs kk e1
      rw [e1] at k
      obtain ⟨l, ys, rfl, e2, k2⟩ := k.list
      cases r3
      split at q1
      · rename_i c
        simp only [Bool.and_eq_true, decide_eq_true_eq] at c
        obtain ⟨⟨c1, c2⟩, c3⟩ := c
        refine ⟨l, kk, ys, rfl, rfl, e2, by omega, by omega, ?_, fun p hp => ?_⟩
        · rw [← k2.length, sizeLine_eq]
          exact Nat.le_trans (Nat.mul_le_mul c3 (show _ ≤ 2000 by omega)) (by decide)
        · obtain ⟨e3, s3, np⟩ := r1.sto.guard hp (List.replicate kk.toNat ys).flatten
          have q2 : SatR z σ F am H ((.ok (List.replicate kk.toNat xs).flatten h : R (List D)).bind fun xs h1 => .ok (.ref h1.length) (h1 ++ [.lst xs])) (PostD z Q) := q1
          exact ml_of r1.sto q2 _ _ _ p _ e3 s3 upd_same ((k2.flatRep kk.toNat).ext e3 r1.sto.inF) (.inr rfl) np hp
      · exact q1.elim
    · exact q1.elim
/-- list + list as a changing list -/
theorem e_mcat {a b : E} {x y : Expr} {pos : Pos} (ha : PE X x (tE z a)) (hb : PE X y (tE z b)) : PE X (.BinOp x .Add y pos) (tE z (.mcat a b)) :=
  (pe_op op_cat ha hb).imp fun σ H Q ⟨S, F, am, hs, r, q⟩ => two r (by simpa only [ev] using q) fun d e v u F am H h r1 r2 r3 q1 => by
    have k := rd_rel r1.sto r2
    have k' := rd_rel r1.sto r3
    split at q1
    · rename_i xs ys e1 e2
      rw [e1] at k
      rw [e2] at k'
      obtain ⟨l, vs, rfl, e3, k2⟩ := k.list
      obtain ⟨l', ws, rfl, e4, k3⟩ := k'.list
      split at q1
      · rename_i c
        refine ⟨l, l', vs, ws, rfl, rfl, e3, e4, by rw [← k2.length, ← k3.length]; exact okL_le c, fun p hp => ?_⟩
        obtain ⟨e5, s5, np⟩ := r1.sto.guard hp (vs ++ ws)
        have q2 : SatR z σ F am H ((.ok (xs ++ ys) h : R (List D)).bind fun xs h1 => .ok (.ref h1.length) (h1 ++ [.lst xs])) (PostD z Q) := q1
        exact ml_of r1.sto q2 _ _ _ p _ e5 s5 upd_same ((k2.append k3).ext e5 r1.sto.inF) (.inr rfl) np hp
      · exact q1.elim
    · exact q1.elim
/-- {} -/
theorem e_mdct {pos : Pos} : PE X (.Dict [] [] pos) (tE z .mdct) := by
  refine (pe_dnewK).imp fun σ H Q ⟨S, F, am, h, r, q⟩ => ?_
  simp only [ev] at q
  intro p hp
  have q2 : SatR z σ F am H ((.ok [] h : R (List (Ky × D))).bind fun ps h1 => .ok (.ref h1.length) (h1 ++ [.dct (dputs [] ps)])) (PostD z Q) := q
  obtain ⟨e3, s3, np⟩ := r.sto.guardO (.dK []) hp
  exact md_of r.sto q2 _ _ _ p [] e3 s3 upd_same RKv.nil (.inr rfl) np hp
end
section
variable {c : Rc} {F : Addr → Prop} {am : List Addr} {H : Hp} {h : Hs} {n : Nat} {a : Addr}
theorem Sto.writeD {kvs : List (Ky × D)} {ws : List (Key × V)} (s : Sto c F am H h) (q : am[n]? = some a) (k : RKv c F am H kvs ws) : Ext F am H F am (upd H a (.dK ws)) ∧ Sto c F am (upd H a (.dK ws)) (h.set n (.dct kvs)) := by
  have hm : a ∈ am := List.mem_of_getElem? q
  have hF := s.inF a hm
  refine ⟨⟨⟨[], by simp⟩, fun b o e nb => by rw [upd_ne (fun z => nb (by rw [z]; exact hm))]; exact e, fun _ _ _ x => x, fun _ x => x, fun _ x y => absurd x y⟩, s.nd, by rw [List.length_set]; exact s.len, s.inF, fun b x => ?_, fun i b o q1 q2 => ?_⟩
  · by_cases e : b = a
    · subst e; exact ⟨_, upd_same⟩
    · rw [upd_ne e]; exact s.ok b x
  · by_cases e : n = i
    · subst e
      rw [q] at q1
      cases q1
      have hl : n < h.length := by rw [← s.len]; exact (List.getElem?_eq_some_iff.mp q).1
      rw [List.getElem?_set_self hl] at q2
      cases q2
      exact ⟨ws, upd_same, k.1, k.2.poke hF⟩
    · rw [List.getElem?_set_ne e] at q2
      have hne : b ≠ a := fun z => by
        subst z
        obtain ⟨l1, e1⟩ := List.getElem?_eq_some_iff.mp q
        obtain ⟨l2, e2⟩ := List.getElem?_eq_some_iff.mp q1
        have pw := List.pairwise_iff_getElem.mp s.nd
        rcases Nat.lt_or_gt_of_ne e with z | z
        · exact pw n i l1 l2 z (e1.trans e2.symm)
        · exact pw i n l2 l1 z (e2.trans e1.symm)
      have z := s.obj i b o q1 q2
      cases o with
      | lst es =>
        obtain ⟨xs, q3, q4⟩ := z
        exact ⟨xs, by rw [upd_ne hne]; exact q3, q4.poke hF⟩
      | dct es =>
        obtain ⟨xs, q3, qk, q4⟩ := z
        exact ⟨xs, by rw [upd_ne hne]; exact q3, qk, q4.poke hF⟩
end
/-- o[i] = v of a list or a dict -/
theorem set_both {X : Cx} (hu : X.A.units + 1 < cLine) : PSet X (fun o i v H Q => rSetL o i v H Q ∨ rSetD o i v H Q) := by
  intro pins s σ H o i v ov iv u Q I ro ri rv h
  rcases h with h | h
  · exact set_list pins s σ H o i v ov iv u Q I ro ri rv h
  · exact set_dict hu pins s σ H o i v ov iv u Q I ro ri rv h
end Ci

set_option Elab.async false
set_option linter.all false
set_option maxRecDepth 100000
set_option maxHeartbeats 8000000
namespace Ci
open PySem PySem.Spec PyProof.Rows L2
/-! ### every expression -/
/-- an expression does as the evaluator says, as a value and as a test -/
structure GoodE (z : Si) (X : Cx) (x : Expr) (e : E) : Prop where
  pe : PE X x (tE z e)
  pt : ∀ n, testOk n x = true → PT X x (tB z e)
  pw : ∀ n, testOk n x = true → isBool x = true → PW X x (tB z e)
section
variable {z : Si} {X : Cx} {N : List Str} {G : GT} {sc : Scope} {hot : Bool}
theorem pt_never {x : Expr} {e : E} (h : ∀ S hs, ev z.sub z.call e S hs = .bad) : PT X x (tB z e) := ⟨fun pins s σ H Q I ⟨S, F, am, hs, r, q⟩ => by
  unfold tst at q
  rw [h] at q; exact q.elim⟩
theorem pw_never {x : Expr} {e : E} (h : ∀ S hs, ev z.sub z.call e S hs = .bad) : PW X x (tB z e) := ⟨fun w pins s σ H Q I ⟨S, F, am, hs, r, q⟩ => by
  unfold tst at q
  rw [h] at q; exact q.elim⟩
theorem good_plain {x : Expr} {e : E} (ha : PE X x (tE z e)) (he : ∀ whole, isTrue x X.env whole = (do let v ← whole; standAt x.pos; holding [v] (truthy v))) (hb : isBool x = false) : GoodE z X x e :=
  ⟨ha, fun _ _ => pt_gen ha he, fun _ _ h => by rw [hb] at h; cases h⟩
theorem good_cmp {x : Expr} {e : E} (ha : PE X x (tE z e)) (ht : PT X x (tB z e)) (hb : isBool x = false) : GoodE z X x e :=
  ⟨ha, fun _ _ => ht, fun _ _ h => by rw [hb] at h; cases h⟩
theorem good_list {x : Expr} {l : L} (h : PE X x (tL z l)) (he : ∀ whole, isTrue x X.env whole = (do let v ← whole; standAt x.pos; holding [v] (truthy v))) (hb : isBool x = false) : GoodE z X x (.il l) ∧ GoodE z X x (.ml l) :=
  ⟨good_plain (e_il h) he hb, good_plain (e_ml h) he hb⟩
/-- the parts of a comprehension -/
structure CompP (z : Si) (X : Cx) (N : List Str) (sc' : Scope) (elt tgx iter : Expr) (ifs : List Expr) (el : E) (own : List Nat) (tg : Tg) (wi : TI) (cond : E) : Prop where
  hi : PI X tgx iter wi
  blk : BlkOk X.N X.env.scope sc' (own.filterMap fun k => N[k]?.map fun y => (y, k))
  own2 : (own.filterMap fun k => N[k]?.map fun y => (y, k)).map (·.2) = own
  hg : ∀ s H C cl fp, PG (X.blk s H sc' (compEnvC sc' cl C X.env) fp) tgx (tG z.mute tg)
  ht : ∀ s H C cl fp, PTs (X.blk s H sc' (compEnvC sc' cl C X.env) fp) ifs (tCond z.mute cond)
  he : ∀ s H C cl fp, PE (X.blk s H sc' (compEnvC sc' cl C X.env) fp) elt (tE z.mute el)
  hown : ∀ i ∈ tgIx tg, i ∈ own
  fld : noSet iter = true
  calm : X.calm = true
  nd : X.N.Nodup
theorem CompP.pe {elt tgx iter : Expr} {ifs : List Expr} {sc' : Scope} {pos : Pos} {el : E} {own : List Nat} {tg : Tg} {it : It} {cond : E} (c : CompP z X N sc' elt tgx iter ifs el own tg (tI z it) cond) : PE X (.ListComp elt [⟨tgx, iter, ifs, 0⟩] sc' pos) (tL z (.comp el own tg it cond)) := by
  have hp : PE X (.ListComp elt [⟨tgx, iter, ifs, 0⟩] sc' pos) _ := pe_lc (own := own.filterMap fun k => N[k]?.map fun y => (y, k)) c.calm c.nd c.hi c.blk c.hg c.ht c.he (fold_ok c.fld)
  rw [c.own2] at hp
  exact hp.imp fun σ H Q q => lc_sim c.hown q
theorem CompP.pc {elt tgx iter : Expr} {ifs : List Expr} {sc' : Scope} {pos : Pos} {el : E} {own : List Nat} {tg : Tg} {e : Bool} {i : Nat} {cond : E} (c : CompP z X N sc' elt tgx iter ifs el own tg (ovT X e i) cond) : PE X (.ListComp elt [⟨tgx, iter, ifs, 0⟩] sc' pos) (tL z (.compC e el own tg i cond)) := by
  have hp : PE X (.ListComp elt [⟨tgx, iter, ifs, 0⟩] sc' pos) _ := pe_lc (own := own.filterMap fun k => N[k]?.map fun y => (y, k)) c.calm c.nd c.hi c.blk c.hg c.ht c.he (fold_ok c.fld)
  rw [c.own2] at hp
  cases e with
  | true => exact hp.imp fun σ H Q q => cc_sim true c.hown q
  | false => exact (pe_lock hp).imp fun σ H Q q => cc_sim false c.hown q
theorem over_ok {e : Bool} {j : Nat} {t x : Expr} (ok : Ok z X N G sc hot) (h : overC N G e sc j t x = true) : PI X t x (ovT X e j) := by
  unfold overC at h
  split at h
  · simp only [Bool.and_eq_true, beq_iff_eq] at h
    obtain ⟨v1, v2, v3⟩ := vis_ok ok h.2
    exact pi_keys (pe_var (by rw [ok.hN]; exact h.1) v1 v2 v3)
  · simp only [Bool.and_eq_true, beq_iff_eq] at h
    obtain ⟨⟨⟨⟨⟨h1, h2⟩, rfl⟩, h3⟩, h4⟩, h5⟩ := h
    obtain ⟨v1, v2, v3⟩ := vis_ok ok h5
    obtain ⟨g1, g2, g3⟩ := gl_ok ok h1
    cases t <;> first | cases h3 | skip
    exact pi_enumA g1 (ty_at ok h2).1 (pa_cons (pe_var (by rw [ok.hN]; exact h4) v1 v2 v3) pa_nil rfl) rfl
  · cases h
theorem CompP.pd {kx vx tgx iter : Expr} {ifs : List Expr} {sc' : Scope} {pos : Pos} {k v : E} {own : List Nat} {tg : Tg} {it : It} {cond : E} (c : CompP z X N sc' kx tgx iter ifs k own tg (tI z it) cond)
    (hv : ∀ s H C cl fp, PE (X.blk s H sc' (compEnvC sc' cl C X.env) fp) vx (tE z.mute v)) : PE X (.DictComp kx vx [⟨tgx, iter, ifs, 0⟩] sc' pos) (tE z (.dc k v own tg it cond)) := by
  have hp : PE X (.DictComp kx vx [⟨tgx, iter, ifs, 0⟩] sc' pos) _ := pe_dc (own := own.filterMap fun k => N[k]?.map fun y => (y, k)) c.calm c.nd c.hi c.blk c.hg c.ht c.he hv (fold_ok c.fld)
  rw [c.own2] at hp
  exact hp.imp fun σ H Q q => dc_sim c.hown q
theorem comp_parts {elt tgx iter : Expr} {ifs : List Expr} {sc' : Scope} {el : E} {own : List Nat} {tg : Tg} {wi : TI} {cond : E} (ok : Ok z X N G sc false)
    (hc : (blkC N sc sc' (own.filterMap fun k => N[k]?.map fun y => (y, k)) && (own.filterMap fun k => N[k]?.map fun y => (y, k)).map (·.2) == own && noSet iter && (tgIx tg).all (own.contains ·) && own.all (fun k => match N[k]? with | some y => !(sc'.names.lookup y == some .free) | none => false)) = true)
    (hi : PI X tgx iter wi) (hg : tgB N (relS sc' sc) tg tgx = true)
    (ht : ∀ s H C cl fp, PTs (X.blk s H sc' (compEnvC sc' cl C X.env) fp) ifs (tCond z.mute cond))
    (he : ∀ s H C cl fp, PE (X.blk s H sc' (compEnvC sc' cl C X.env) fp) elt (tE z.mute el)) : CompP z X N sc' elt tgx iter ifs el own tg wi cond := by
  simp only [Bool.and_eq_true, beq_iff_eq, List.all_eq_true] at hc
  obtain ⟨⟨⟨⟨c1, c2⟩, c3⟩, c4⟩, c5⟩ := hc
  have hown : ∀ i ∈ tgIx tg, i ∈ own := fun i hi => by simpa using c4 i hi
  refine ⟨hi, by rw [ok.hN, ok.hsc]; exact blkOk_by c1, c2, fun s H C cl fp => g_ok (X := X.blk s H sc' (compEnvC sc' cl C X.env) fp) (z := z.mute) (N := N) (sc := relS sc' sc) (P := (· ∈ own)) ⟨ok.hN, ok.nd, (ok.blk s H C cl fp sc').hsc, ok.calm rfl, fun i y hi hy hl => ?_⟩ tg tgx hg hown, ht, he, hown, c3, ok.calm rfl, by rw [ok.hN]; exact ok.nd⟩
  obtain ⟨k', e1, e2⟩ := lookup_relS hl
  have q := c5 i hi
  rw [hy] at q
  simp only [Bool.not_eq_true'] at q
  show (sc'.names.lookup y == some .cell) = true
  rcases e2 with e2 | ⟨e2, _⟩
  · rw [e1, ← e2]; rfl
  · rw [e1, e2] at q; cases q
/-- the parts of a comprehension over two -/
structure CompP2 (z : Si) (X : Cx) (N : List Str) (sc' : Scope) (elt t i t1 i1 : Expr) (ifs ifs1 : List Expr) (el : E) (own : List Nat) (tg : Tg) (it : It) (cond : E) (own1 : List Nat) (tg1 : Tg) (it1 : It) (cond1 : E) : Prop where
  a : CompP z X N sc' elt t i ifs el own tg (tI z it) cond
  b : CompP z X N sc' elt t1 i1 ifs1 el own tg1 (fun _ _ _ => False) cond1
  hi1 : ∀ s H C cl fp, PI (X.blk s H sc' (compEnvC sc' cl C X.env) fp) t1 i1 (tIQ z.mute it1)
  hown1 : ∀ i ∈ tgIx tg1, i ∈ own1
  sub1 : ∀ i ∈ own1, i ∈ own
theorem CompP2.pe {elt t i t1 i1 : Expr} {ifs ifs1 : List Expr} {sc' : Scope} {pos : Pos} {el : E} {own : List Nat} {tg : Tg} {it : It} {cond : E} {own1 : List Nat} {tg1 : Tg} {it1 : It} {cond1 : E} (c : CompP2 z X N sc' elt t i t1 i1 ifs ifs1 el own tg it cond own1 tg1 it1 cond1) : PE X (.ListComp elt [⟨t, i, ifs, 0⟩, ⟨t1, i1, ifs1, 0⟩] sc' pos) (tL z (.comp2 el own tg it cond own1 tg1 it1 cond1)) := by
  have hp : PE X (.ListComp elt [⟨t, i, ifs, 0⟩, ⟨t1, i1, ifs1, 0⟩] sc' pos) _ := pe_lc2 (own := own.filterMap fun k => N[k]?.map fun y => (y, k)) (vs1 := own1) c.a.calm c.a.nd c.a.hi c.a.blk (by rw [c.a.own2]; exact c.sub1) c.a.hg c.a.ht c.hi1 c.b.hg c.b.ht c.a.he (fold_ok c.a.fld) (fun env => fold_ok c.b.fld)
  rw [c.a.own2] at hp
  exact hp.imp fun σ H Q q => lc2_sim c.a.hown c.hown1 q
/-- a list's expression -/
structure GoodL (z : Si) (X : Cx) (N : List Str) (x : Expr) (l : L) : Prop where
  pe : PE X x (tL z l)
  tru : ∀ whole, isTrue x X.env whole = (do let v ← whole; standAt x.pos; holding [v] (truthy v))
  nb : isBool x = false
  cp : ∀ a b c d, x = .ListComp a b c d → (∃ t i ifs el own tg wi cond, b = [⟨t, i, ifs, 0⟩] ∧ CompP z X N c a t i ifs el own tg wi cond ∧
    (∃ lk : Bool, ∀ σ H Q, tL z l σ H Q → LkE lk (tLc wi (tG z.mute tg) (tCond z.mute cond) (tE z.mute el) own) σ H Q) ∧
    ∀ el2 own2 tg2 it2 cond2, l = .comp el2 own2 tg2 it2 cond2 → el2 = el ∧ own2 = own ∧ tg2 = tg ∧ cond2 = cond) ∨
    ∃ t i ifs t1 i1 ifs1 el own tg it cond own1 tg1 it1 cond1, b = [⟨t, i, ifs, 0⟩, ⟨t1, i1, ifs1, 0⟩] ∧ CompP2 z X N c a t i t1 i1 ifs ifs1 el own tg it cond own1 tg1 it1 cond1 ∧ l = .comp2 el own tg it cond own1 tg1 it1 cond1
theorem all_ok (n : Nat) : (∀ (e : E) (z : Si) (X : Cx) (sc : Scope) (hot : Bool) (x : Expr), sizeOf e < n → Ok z X N G sc hot → chkE N G hot sc e x = true → GoodE z X x e) ∧
    (∀ (es : Es) (z : Si) (X : Cx) (sc : Scope) (hot : Bool) (xs : List Expr), sizeOf es < n → Ok z X N G sc hot → chkEs N G hot sc es xs = true → PA X xs (tEs z es)) ∧
    (∀ (l : L) (z : Si) (X : Cx) (sc : Scope) (hot : Bool) (x : Expr), sizeOf l < n → Ok z X N G sc hot → chkL N G hot sc l x = true → GoodL z X N x l) ∧
    (∀ (it : It) (z : Si) (X : Cx) (sc : Scope) (hot : Bool) (t x : Expr), sizeOf it < n → Ok z X N G sc hot → chkI N G hot sc t it x = true → PI X t x (tIQ z it)) := by
  induction n with
  | zero => exact ⟨fun _ _ _ _ _ _ h => absurd h (Nat.not_lt_zero _), fun _ _ _ _ _ _ h => absurd h (Nat.not_lt_zero _), fun _ _ _ _ _ _ h => absurd h (Nat.not_lt_zero _), fun _ _ _ _ _ _ _ h => absurd h (Nat.not_lt_zero _)⟩
  | succ n ih =>
    obtain ⟨iE, iEs, iL, iI⟩ := ih
    refine ⟨fun e z X sc hot x hs ok h => ?_, fun es z X sc hot xs hs ok h => ?_, fun l z X sc hot x hs ok h => ?_, fun it z X sc hot t x hs ok h => ?_⟩
    · unfold chkE at h
      split at h <;> (try simp only [Bool.and_eq_true, beq_iff_eq, Bool.not_eq_true'] at h) <;> (try simp only [E.nope.sizeOf_spec, E.bin.sizeOf_spec, E.neg.sizeOf_spec, E.not_.sizeOf_spec, E.and_.sizeOf_spec, E.or_.sizeOf_spec, E.ife.sizeOf_spec, E.cmp.sizeOf_spec, E.cmp2.sizeOf_spec, E.cmp3.sizeOf_spec, E.isN.sizeOf_spec, E.noN.sizeOf_spec, E.tup.sizeOf_spec, E.il.sizeOf_spec, E.ml.sizeOf_spec, E.ix.sizeOf_spec, E.sl.sizeOf_spec, E.rev.sizeOf_spec, E.rlist.sizeOf_spec, E.dc.sizeOf_spec, E.call.sizeOf_spec, E.pcall.sizeOf_spec, E.vcall.sizeOf_spec, E.pvcall.sizeOf_spec, E.isI.sizeOf_spec, E.isC.sizeOf_spec, E.attr.sizeOf_spec, E.meth.sizeOf_spec, E.blt.sizeOf_spec, E.dget.sizeOf_spec, E.mrep.sizeOf_spec, E.mcat.sizeOf_spec, E.dget1.sizeOf_spec, E.md1.sizeOf_spec, E.inv.sizeOf_spec, E.pop0.sizeOf_spec, E.pcallD.sizeOf_spec] at hs)
      · -- nope
        exact ⟨e_never fun _ _ => by simp only [ev], fun _ _ => pt_never fun _ _ => by simp only [ev], fun _ _ _ => pw_never fun _ _ => by simp only [ev]⟩
      · exact good_plain (e_var ok h.1 h.2) (fun _ => rfl) rfl
      · exact good_plain (e_lit h) (fun _ => rfl) rfl
      · obtain ⟨⟨rfl, h2⟩, h3⟩ := h
        exact good_plain (e_glb ok h2 h3) (fun _ => rfl) rfl
      · exact good_plain (e_fn ok h.1 h.2) (fun _ => rfl) rfl
      · obtain ⟨⟨rfl, h2⟩, h3⟩ := h
        exact good_plain (e_bin ok (iE _ z X sc hot _ (by omega) ok h2).pe (iE _ z X sc hot _ (by omega) ok h3).pe) (fun _ => rfl) rfl
      · exact good_plain (e_neg (iE _ z X sc hot _ (by omega) ok h).pe) (fun _ => rfl) rfl
      · -- not
        have g := iE _ z X sc hot _ (by omega) ok h
        refine ⟨e_not g.pe, fun n ht => ?_, fun _ _ hb => (nomatch hb)⟩
        cases n with
        | zero => cases ht
        | succ n => exact t_not (g.pt n ht)
      · -- and
        rename_i a b x' y r p
        have g := iE a z X sc hot _ (by omega) ok h.1
        have g2 := iE b z X sc hot _ (by omega) ok h.2
        have key : PE X (.BoolOp .And (y :: r) p) (tE z b) ∧ ∀ n, ((y :: r).all (testOk n)) = true → PW X (.BoolOp .And (y :: r) p) (tB z b) := by
          cases r with
          | nil => exact ⟨pe_one g2.pe, fun n ht => pw_and1 (g2.pt n (by simpa using ht))⟩
          | cons w r => exact ⟨g2.pe, fun n ht => g2.pw (n + 1) ht rfl⟩
        have w : ∀ n, testOk n (.BoolOp .And (x' :: y :: r) p) = true → PW X (.BoolOp .And (x' :: y :: r) p) (tB z (.and_ a b)) := fun n ht => by
          cases n with
          | zero => cases ht
          | succ n =>
            have ht : ((x' :: y :: r).all (testOk n)) = true := ht
            rw [List.all_cons, Bool.and_eq_true] at ht
            exact t_and (g.pt n ht.1) (key.2 n ht.2)
        exact ⟨e_and g.pe key.1, fun n ht => (w n ht).pt, fun n ht _ => w n ht⟩
      · -- or
        rename_i a b x' y r p
        have g := iE a z X sc hot _ (by omega) ok h.1
        have g2 := iE b z X sc hot _ (by omega) ok h.2
        have key : PE X (.BoolOp .Or (y :: r) p) (tE z b) ∧ ∀ n, ((y :: r).all (testOk n)) = true → PW X (.BoolOp .Or (y :: r) p) (tB z b) := by
          cases r with
          | nil => exact ⟨pe_one g2.pe, fun n ht => pw_or1 (g2.pt n (by simpa using ht))⟩
          | cons w r => exact ⟨g2.pe, fun n ht => g2.pw (n + 1) ht rfl⟩
        have w : ∀ n, testOk n (.BoolOp .Or (x' :: y :: r) p) = true → PW X (.BoolOp .Or (x' :: y :: r) p) (tB z (.or_ a b)) := fun n ht => by
          cases n with
          | zero => cases ht
          | succ n =>
            have ht : ((x' :: y :: r).all (testOk n)) = true := ht
            rw [List.all_cons, Bool.and_eq_true] at ht
            exact t_or (g.pt n ht.1) (key.2 n ht.2)
        exact ⟨e_or g.pe key.1, fun n ht => (w n ht).pt, fun n ht _ => w n ht⟩
      · -- a if c else b
        obtain ⟨⟨⟨h1, h2⟩, h3⟩, h4⟩ := h
        refine ⟨e_ife ((iE _ z X sc hot _ (by omega) ok h1).pt 30 h2) (iE _ z X sc hot _ (by omega) ok h3).pe (iE _ z X sc hot _ (by omega) ok h4).pe, fun n ht => ?_, fun _ _ hb => (nomatch hb)⟩
        cases n <;> cases ht
      · obtain ⟨⟨⟨rfl, h2⟩, h3⟩, h4⟩ := h
        have g3 := (iE _ z X sc hot _ (by omega) ok h3).pe
        have g4 := (iE _ z X sc hot _ (by omega) ok h4).pe
        exact good_cmp (e_cmp ok h2 g3 g4) (t_cmp ok h2 g3 g4) rfl
      · obtain ⟨⟨⟨⟨⟨rfl, rfl⟩, h2⟩, h3⟩, h4⟩, h5⟩ := h
        have g3 := (iE _ z X sc hot _ (by omega) ok h3).pe
        have g4 := (iE _ z X sc hot _ (by omega) ok h4).pe
        have g5 := (iE _ z X sc hot _ (by omega) ok h5).pe
        exact good_cmp (e_cmp2 ok h2 g3 g4 g5) (t_cmp2 ok h2 g3 g4 g5) rfl
      · obtain ⟨⟨⟨⟨⟨⟨⟨rfl, rfl⟩, rfl⟩, h2⟩, h3⟩, h4⟩, h5⟩, h6⟩ := h
        have g3 := (iE _ z X sc hot _ (by omega) ok h3).pe
        have g4 := (iE _ z X sc hot _ (by omega) ok h4).pe
        have g5 := (iE _ z X sc hot _ (by omega) ok h5).pe
        have g6 := (iE _ z X sc hot _ (by omega) ok h6).pe
        exact good_cmp (e_cmp3 ok h2 g3 g4 g5 g6) (t_cmp3 ok h2 g3 g4 g5 g6) rfl
      · have g := (iE _ z X sc hot _ (by omega) ok h).pe
        exact good_cmp (e_isN g) (t_isN g) rfl
      · have g := (iE _ z X sc hot _ (by omega) ok h).pe
        exact good_cmp (e_noN g) (t_noN g) rfl
      · exact good_plain (e_tup (iEs _ z X sc hot _ (by omega) ok h)) (fun _ => rfl) rfl
      · obtain ⟨g1, g2, g3, _⟩ := iL _ z X sc hot _ (by omega) ok h
        exact (good_list g1 g2 g3).1
      · obtain ⟨g1, g2, g3, _⟩ := iL _ z X sc hot _ (by omega) ok h
        exact (good_list g1 g2 g3).2
      · obtain ⟨⟨h1, h2⟩, h3⟩ := h
        exact good_plain (e_ix ok h1 (iE _ z X sc hot _ (by omega) ok h2).pe (iE _ z X sc hot _ (by omega) ok h3).pe) (fun _ => rfl) rfl
      · exact good_plain (e_rev (iE _ z X sc hot _ (by omega) ok h).pe) (fun _ => rfl) rfl
      · -- list(range(..))
        rename_i t a b y p y2 p2 xs p3 p4
        obtain ⟨⟨⟨⟨⟨⟨⟨rfl, h1⟩, h2⟩, h3⟩, h4⟩, h5⟩, h6⟩, h7⟩ := h
        refine good_plain (e_rlist ok h1 h2 h3 h4 h5 h6 ?_) (fun _ => rfl) rfl
        split at h7
        · simp only [Bool.and_eq_true] at h7
          exact .inl ⟨_, rfl, h7.1.1, h7.1.2, (iE _ z X sc _ _ (by omega) ok h7.2).pe⟩
        · simp only [Bool.and_eq_true, Bool.not_eq_true'] at h7
          exact .inr ⟨_, _, rfl, h7.1.1.1.1, h7.1.1.1.2, h7.1.1.2, (iE _ z X sc _ _ (by omega) ok h7.1.2).pe, (iE _ z X sc _ _ (by omega) ok h7.2).pe⟩
        · cases h7
      · -- a dict comprehension
        rename_i k v own tg it cond x' w t i ifs sc' p
        obtain ⟨⟨⟨⟨⟨h0, h1⟩, h2⟩, h3⟩, h3'⟩, h4⟩ := h
        obtain ⟨⟨⟨⟨⟨rfl, c1⟩, c2⟩, c3⟩, c4⟩, c5⟩ := h0
        have h0' : (blkC N sc sc' (own.filterMap fun k => N[k]?.map fun y => (y, k)) && (own.filterMap fun k => N[k]?.map fun y => (y, k)).map (·.2) == own && noSet i && (tgIx tg).all (own.contains ·) && own.all (fun k => match N[k]? with | some y => !(sc'.names.lookup y == some .free) | none => false)) = true := by
          simp only [Bool.and_eq_true, beq_iff_eq]
          exact ⟨⟨⟨⟨c1, c2⟩, c3⟩, c4⟩, c5⟩
        have parts : CompP z X N sc' x' t i ifs k own tg (tI z it) cond := comp_parts ok h0' (toI (iI _ z X sc _ _ _ (by omega) ok h1)) h2 (fun s H C cl fp => ?_) fun s H C cl fp => (iE _ z.mute _ (relS sc' sc) false _ (by omega) (ok.blk s H C cl fp sc') h3).pe
        · have hv : ∀ s H C cl fp, PE (X.blk s H sc' (compEnvC sc' cl C X.env) fp) w (tE z.mute v) := fun s H C cl fp => (iE _ z.mute _ (relS sc' sc) false _ (by omega) (ok.blk s H C cl fp sc') h3').pe
          exact good_plain (parts.pd hv) (fun _ => rfl) rfl
        split at h4
        · unfold tCond
          rw [if_pos h4]
          exact pts_nil
        · simp only [Bool.and_eq_true, Bool.not_eq_true'] at h4
          unfold tCond
          rw [if_neg (by rw [h4.1.1]; exact Bool.false_ne_true)]
          exact pts_one ((iE _ z.mute _ (relS sc' sc) false _ (by omega) (ok.blk s H C cl fp sc') h4.1.2).pt 30 h4.2)
        · cases h4
      · -- a slice
        rename_i a lo hi x' l u p2 p
        obtain ⟨⟨h1, h2⟩, h3⟩ := h
        refine good_plain (e_sl ok (iE _ z X sc hot _ (by omega) ok h1).pe ?_ ?_) (fun _ => rfl) rfl
        · cases l with
          | none => exact .inl ⟨rfl, h2⟩
          | some l =>
            simp only [Bool.and_eq_true, Bool.not_eq_true'] at h2
            exact .inr ⟨_, rfl, h2.1, (iE _ z X sc hot _ (by omega) ok h2.2).pe⟩
        · cases u with
          | none => exact .inl ⟨rfl, h3⟩
          | some l =>
            simp only [Bool.and_eq_true, Bool.not_eq_true'] at h3
            exact .inr ⟨_, rfl, h3.1, (iE _ z X sc hot _ (by omega) ok h3.2).pe⟩
      · obtain ⟨⟨⟨rfl, h2⟩, h3⟩, h4⟩ := h
        exact good_plain (e_call ok h2 h3 (chkEs_star h4) (iEs _ z X sc _ _ (by omega) ok h4)) (fun _ => rfl) rfl
      · obtain ⟨⟨⟨rfl, h2⟩, h3⟩, h4⟩ := h
        exact good_plain (e_pcall ok h2 h3 (chkEs_star h4) (iEs _ z X sc _ _ (by omega) ok h4)) (fun _ => rfl) rfl
      · obtain ⟨⟨⟨rfl, h2⟩, h3⟩, h4⟩ := h
        exact good_plain (e_pcallD ok h2 h3 (chkEs_star h4) (iEs _ z X sc _ _ (by omega) ok h4)) (fun _ => rfl) rfl
      · obtain ⟨⟨⟨rfl, h2⟩, h3⟩, h4⟩ := h
        exact good_plain (e_vcall ok h2 h3 (chkEs_star h4) (iEs _ z X sc _ _ (by omega) ok h4)) (fun _ => rfl) rfl
      · obtain ⟨⟨⟨rfl, h2⟩, h3⟩, h4⟩ := h
        exact good_plain (e_pvcall ok h2 h3 (chkEs_star h4) (iEs _ z X sc _ _ (by omega) ok h4)) (fun _ => rfl) rfl
      · obtain ⟨⟨⟨⟨⟨h1, h2⟩, h3⟩, h4⟩, h5⟩, h6⟩ := h
        exact good_plain (e_isI ok h1 h2 h3 h4 h5 (iE _ z X sc hot _ (by omega) ok h6).pe) (fun _ => rfl) rfl
      · obtain ⟨⟨⟨⟨⟨h1, h2⟩, h3⟩, h4⟩, h5⟩, h6⟩ := h
        exact good_plain (e_isC ok h1 h2 h3 (by simpa only [Bool.or_eq_true, Bool.and_eq_true, beq_iff_eq] using h4) h5 (iE _ z X sc hot _ (by omega) ok h6).pe) (fun _ => rfl) rfl
      · obtain ⟨⟨⟨h1, h2⟩, h3⟩, h4⟩ := h
        exact good_plain (e_attr ok h1 (of_decide_eq_true h2) h3 (iE _ z X sc hot _ (by omega) ok h4).pe) (fun _ => rfl) rfl
      · obtain ⟨⟨⟨⟨⟨h1, h2⟩, h3⟩, h4⟩, h5⟩, h6⟩ := h
        exact good_plain (e_meth ok h1 h2 (by simpa using h3) (of_decide_eq_true h4) (chkEs_star h6) (iE _ z X sc hot _ (by omega) ok h5).pe (iEs _ z X sc hot _ (by omega) ok h6)) (fun _ => rfl) rfl
      · obtain ⟨⟨⟨h1, h2⟩, h3⟩, h4⟩ := h
        exact good_plain (e_blt ok h1 h2 h3 (chkEs_star h4) (iEs _ z X sc hot _ (by omega) ok h4)) (fun _ => rfl) rfl
      · obtain ⟨⟨⟨⟨⟨⟨⟨h1, h2⟩, h3⟩, h4⟩, h5⟩, h6⟩, h7⟩, h8⟩ := h
        exact good_plain (e_dget ok h1 h2 (by simpa using h3) h4 h5 (iE _ z X sc hot _ (by omega) ok h6).pe (iE _ z X sc hot _ (by omega) ok h7).pe (iE _ z X sc hot _ (by omega) ok h8).pe) (fun _ => rfl) rfl
      · exact good_plain e_mdct (fun _ => rfl) rfl
      · obtain ⟨⟨⟨⟨⟨h1, h2⟩, h3⟩, h4⟩, h6⟩, h7⟩ := h
        exact good_plain (e_dget1 ok h1 h2 (by simpa using h3) h4 (iE _ z X sc hot _ (by omega) ok h6).pe (iE _ z X sc hot _ (by omega) ok h7).pe) (fun _ => rfl) rfl
      · exact good_plain (e_md1 (iE _ z X sc hot _ (by omega) ok h.1).pe (iE _ z X sc hot _ (by omega) ok h.2).pe) (fun _ => rfl) rfl
      · obtain ⟨⟨⟨h1, h2⟩, h3⟩, h4⟩ := h
        exact good_plain (e_pop0 h1 h2 (by simpa using h3) (iE _ z X sc hot _ (by omega) ok h4).pe) (fun _ => rfl) rfl
      · exact good_plain (e_inv (iE _ z X sc hot _ (by omega) ok h).pe) (fun _ => rfl) rfl
      · exact good_plain (e_mcat (iE _ z X sc hot _ (by omega) ok h.1).pe (iE _ z X sc hot _ (by omega) ok h.2).pe) (fun _ => rfl) rfl
      · exact good_plain (e_mrep (iE _ z X sc hot _ (by omega) ok h.1).pe (iE _ z X sc hot _ (by omega) ok h.2).pe) (fun _ => rfl) rfl
      · cases h
    · unfold chkEs at h
      split at h
      · exact es_nil
      · simp only [Bool.and_eq_true] at h
        simp only [Es.cons.sizeOf_spec] at hs
        exact es_cons h.1.1 (iE _ z X sc hot _ (by omega) ok h.1.2).pe (iEs _ z X sc hot _ (by omega) ok h.2)
      · cases h
    · unfold chkL at h
      split at h
      · simp only [L.disp.sizeOf_spec] at hs
        exact ⟨l_disp (iEs _ z X sc hot _ (by omega) ok h), fun _ => rfl, rfl, fun _ _ _ _ e => (nomatch e)⟩
      · rename_i elt own tg it cond x' t i ifs sc' p
        simp only [L.comp.sizeOf_spec] at hs
        rw [Bool.and_eq_true, Bool.and_eq_true, Bool.and_eq_true, Bool.and_eq_true] at h
        obtain ⟨⟨⟨⟨h0, h1⟩, h2⟩, h3⟩, h4⟩ := h
        have h0' : hot = false ∧ (blkC N sc sc' (own.filterMap fun k => N[k]?.map fun y => (y, k)) && (own.filterMap fun k => N[k]?.map fun y => (y, k)).map (·.2) == own && noSet i && (tgIx tg).all (own.contains ·) && own.all (fun k => match N[k]? with | some y => !(sc'.names.lookup y == some .free) | none => false)) = true := by
          simp only [Bool.and_eq_true, Bool.not_eq_true'] at h0 ⊢
          obtain ⟨⟨⟨⟨⟨c0, c1⟩, c2⟩, c3⟩, c4⟩, c5⟩ := h0
          exact ⟨c0, ⟨⟨⟨c1, c2⟩, c3⟩, c4⟩, c5⟩
        obtain ⟨rfl, h0'⟩ := h0'
        have parts : CompP z X N sc' x' t i ifs elt own tg (tI z it) cond := comp_parts ok h0' (toI (iI _ z X sc _ _ _ (by omega) ok h1)) h2 (fun s H C cl fp => ?_) fun s H C cl fp => (iE _ z.mute _ (relS sc' sc) false _ (by omega) (ok.blk s H C cl fp sc') h3).pe
        exact ⟨parts.pe, fun _ => rfl, rfl, fun a b c d e => by cases e; exact .inl ⟨t, i, ifs, elt, own, tg, tI z it, cond, rfl, parts, ⟨false, fun σ H Q q => lc_sim parts.hown q⟩, fun _ _ _ _ _ e => by cases e; exact ⟨rfl, rfl, rfl, rfl⟩⟩⟩
        split at h4
        · unfold tCond
          rw [if_pos h4]
          exact pts_nil
        · simp only [Bool.and_eq_true, Bool.not_eq_true'] at h4
          unfold tCond
          rw [if_neg (by rw [h4.1.1]; exact Bool.false_ne_true)]
          exact pts_one ((iE _ z.mute _ (relS sc' sc) false _ (by omega) (ok.blk s H C cl fp sc') h4.1.2).pt 30 h4.2)
        · cases h4
      · rename_i elt own tg it cond own1 tg1 it1 cond1 x' t i ifs t1 i1 ifs1 sc' p
        simp only [L.comp2.sizeOf_spec] at hs
        simp only [Bool.and_eq_true, Bool.not_eq_true'] at h
        obtain ⟨⟨⟨⟨⟨⟨⟨⟨⟨⟨⟨⟨⟨⟨⟨c0, c1⟩, c2⟩, c3⟩, c4⟩, c5⟩, d1⟩, d2⟩, d3⟩, h1⟩, h2⟩, h3⟩, h4⟩, h5⟩, h6⟩, h7⟩ := h
        subst c0
        have hw : ∀ (i : Expr) (tg : Tg), noSet i = true → ((tgIx tg).all (own.contains ·)) = true → (blkC N sc sc' (own.filterMap fun k => N[k]?.map fun y => (y, k)) && (own.filterMap fun k => N[k]?.map fun y => (y, k)).map (·.2) == own && noSet i && (tgIx tg).all (own.contains ·) && own.all (fun k => match N[k]? with | some y => !(sc'.names.lookup y == some .free) | none => false)) = true := fun i tg h1 h2 => by
          simp only [Bool.and_eq_true]
          exact ⟨⟨⟨⟨c1, c2⟩, h1⟩, h2⟩, c5⟩
        have sub1 : ∀ i ∈ own1, i ∈ own := fun i hi => by simpa using List.all_eq_true.1 d3 i hi
        have hown1 : ∀ i ∈ tgIx tg1, i ∈ own1 := fun i hi => by simpa using List.all_eq_true.1 d2 i hi
        have hto : ((tgIx tg1).all (own.contains ·)) = true := List.all_eq_true.2 fun i hi => by simpa using sub1 i (hown1 i hi)
        have tst : ∀ (ifs : List Expr) (cond : E), sizeOf cond < n → (match ifs with | [] => cond.isOmit | [c] => !cond.isOmit && chkE N G false (relS sc' sc) cond c && testOk 30 c | _ => false) = true → ∀ s H C cl fp, PTs (X.blk s H sc' (compEnvC sc' cl C X.env) fp) ifs (tCond z.mute cond) := fun ifs cond hn h4 s H C cl fp => by
          split at h4
          · unfold tCond
            rw [if_pos h4]
            exact pts_nil
          · simp only [Bool.and_eq_true, Bool.not_eq_true'] at h4
            unfold tCond
            rw [if_neg (by rw [h4.1.1]; exact Bool.false_ne_true)]
            exact pts_one ((iE _ z.mute _ (relS sc' sc) false _ hn (ok.blk s H C cl fp sc') h4.1.2).pt 30 h4.2)
          · cases h4
        have he : ∀ s H C cl fp, PE (X.blk s H sc' (compEnvC sc' cl C X.env) fp) x' (tE z.mute elt) := fun s H C cl fp => (iE _ z.mute _ (relS sc' sc) false _ (by omega) (ok.blk s H C cl fp sc') h3).pe
        have PA : CompP z X N sc' x' t i ifs elt own tg (tI z it) cond := comp_parts ok (hw i tg c3 c4) (toI (iI _ z X sc _ _ _ (by omega) ok h1)) h2 (tst ifs cond (by omega) h4) he
        have PB : CompP z X N sc' x' t1 i1 ifs1 elt own tg1 (fun _ _ _ => False) cond1 := comp_parts ok (hw i1 tg1 d1 hto) ⟨fun pins s σ H R I h => h.elim⟩ h6 (tst ifs1 cond1 (by omega) h7) he
        have P2 : CompP2 z X N sc' x' t i t1 i1 ifs ifs1 elt own tg it cond own1 tg1 it1 cond1 := ⟨PA, PB, fun s H C cl fp => iI _ z.mute _ (relS sc' sc) false _ _ (by omega) (ok.blk s H C cl fp sc') h5, hown1, sub1⟩
        exact ⟨P2.pe, fun _ => rfl, rfl, fun a b c d e => by cases e; exact .inr ⟨t, i, ifs, t1, i1, ifs1, elt, own, tg, it, cond, own1, tg1, it1, cond1, rfl, P2, rfl⟩⟩
      · rename_i ee elt own tg j cond x' t i ifs sc' p
        simp only [L.compC.sizeOf_spec] at hs
        rw [Bool.and_eq_true, Bool.and_eq_true, Bool.and_eq_true, Bool.and_eq_true] at h
        obtain ⟨⟨⟨⟨h0, h1⟩, h2⟩, h3⟩, h4⟩ := h
        have h0' : hot = false ∧ (blkC N sc sc' (own.filterMap fun k => N[k]?.map fun y => (y, k)) && (own.filterMap fun k => N[k]?.map fun y => (y, k)).map (·.2) == own && noSet i && (tgIx tg).all (own.contains ·) && own.all (fun k => match N[k]? with | some y => !(sc'.names.lookup y == some .free) | none => false)) = true := by
          simp only [Bool.and_eq_true, Bool.not_eq_true'] at h0 ⊢
          obtain ⟨⟨⟨⟨⟨c0, c1⟩, c2⟩, c3⟩, c4⟩, c5⟩ := h0
          exact ⟨c0, ⟨⟨⟨c1, c2⟩, c3⟩, c4⟩, c5⟩
        obtain ⟨rfl, h0'⟩ := h0'
        have parts : CompP z X N sc' x' t i ifs elt own tg (ovT X ee j) cond := comp_parts ok h0' (over_ok ok h1) h2 (fun s H C cl fp => ?_) fun s H C cl fp => (iE _ z.mute _ (relS sc' sc) false _ (by omega) (ok.blk s H C cl fp sc') h3).pe
        exact ⟨parts.pc, fun _ => rfl, rfl, fun a b c d e => by cases e; exact .inl ⟨t, i, ifs, elt, own, tg, ovT X ee j, cond, rfl, parts, ⟨!ee, fun σ H Q q => cc_sim ee parts.hown q⟩, fun _ _ _ _ _ e => (nomatch e)⟩⟩
        split at h4
        · unfold tCond
          rw [if_pos h4]
          exact pts_nil
        · simp only [Bool.and_eq_true, Bool.not_eq_true'] at h4
          unfold tCond
          rw [if_neg (by rw [h4.1.1]; exact Bool.false_ne_true)]
          exact pts_one ((iE _ z.mute _ (relS sc' sc) false _ (by omega) (ok.blk s H C cl fp sc') h4.1.2).pt 30 h4.2)
        · cases h4
      · cases h
    · unfold chkI at h
      split at h <;> (try simp only [Bool.and_eq_true, beq_iff_eq] at h) <;> (try simp only [It.val.sizeOf_spec, It.rng1.sizeOf_spec, It.rng2.sizeOf_spec, It.enum.sizeOf_spec, It.zip2.sizeOf_spec, It.rng3.sizeOf_spec] at hs)
      · exact i_val ok.hrK (iE _ z X sc hot _ (by omega) ok h).pe
      · obtain ⟨⟨⟨⟨h1, h2⟩, rfl⟩, h4⟩, h5⟩ := h
        exact i_rng1 ok h1 h2 h4 (iE _ z X sc hot _ (by omega) ok h5).pe
      · obtain ⟨⟨⟨⟨⟨⟨h1, h2⟩, rfl⟩, h4⟩, h5⟩, h6⟩, h7⟩ := h
        exact i_rng2 ok h1 h2 h4 h5 (iE _ z X sc hot _ (by omega) ok h6).pe (iE _ z X sc hot _ (by omega) ok h7).pe
      · obtain ⟨⟨⟨⟨⟨⟨⟨⟨h1, h2⟩, rfl⟩, h4⟩, h5⟩, h6⟩, h7⟩, h8⟩, h9⟩ := h
        exact i_rng3 ok h1 h2 h4 h5 h6 (iE _ z X sc hot _ (by omega) ok h7).pe (iE _ z X sc hot _ (by omega) ok h8).pe (iE _ z X sc hot _ (by omega) ok h9).pe
      · obtain ⟨⟨⟨⟨⟨h1, h2⟩, rfl⟩, h3⟩, h4⟩, h5⟩ := h
        cases t <;> first | exact i_enum ok h1 h2 h4 (iE _ z X sc hot _ (by omega) ok h5).pe | cases h3
      · obtain ⟨⟨⟨⟨⟨⟨⟨h1, h2⟩, rfl⟩, h3⟩, h4⟩, h5⟩, h6⟩, h7⟩ := h
        cases t <;> first | exact i_zip ok h1 h2 h4 h5 (iE _ z X sc hot _ (by omega) ok h6).pe (iE _ z X sc hot _ (by omega) ok h7).pe | cases h3
      · cases h
end
end Ci

set_option Elab.async false
set_option linter.all false
set_option maxRecDepth 100000
set_option maxHeartbeats 8000000
namespace Ci
open PySem PySem.Spec PyProof.Rows L2
/-! ### statements -/
def SatS (z : Si) (D : Ends) (F : Addr → Prop) (am : List Addr) (H : Hp) (r : RS) : Prop := match r with
  | .nx S h => ∀ F' am' H' σ', Ext F am H F' am' H' → Rel z.rc F' am' H' h S σ' → D.nx σ' H'
  | .rt d h => ∀ F' am' H' v, Ext F am H F' am' H' → Sto z.rc F' am' H' h → RD z.rc F' am' H' d v → D.rt v H'
  | .bk S h => ∀ F' am' H' σ', Ext F am H F' am' H' → Rel z.rc F' am' H' h S σ' → D.bk σ' H'
  | .ct S h => ∀ F' am' H' σ', Ext F am H F' am' H' → Rel z.rc F' am' H' h S σ' → D.ct σ' H'
  | .exc c v S h => ∀ F' am' H' σ' C dd w, Ext F am H F' am' H' → Rel z.rc F' am' H' h S σ' → z.ca c = some C → scV v = some w → H' dd = some (.xd [(z.fld c, w)]) → ¬ F' dd → z.W (.ref C) (some dd) σ' H'
  | .bad => False
def tS (z : Si) (st : Ci.St) : TS := fun D σ H => ∃ S F am h, Rel z.rc F am H h S σ ∧ SatS z D F am H (ex z.sub z.call st S h)
theorem _root_.L2.PS.imp {X : Cx} {e : Stmt} {t t' : TS} (h : PS X e t) (k : ∀ D σ H, t' D σ H → t D σ H) : PS X e t' := ⟨fun pins s σ H D I q => h.run pins s σ H D I (k D σ H q)⟩
theorem _root_.L2.PSs.imp {X : Cx} {e : List Stmt} {t t' : TS} (h : PSs X e t) (k : ∀ D σ H, t' D σ H → t D σ H) : PSs X e t' := ⟨fun pins s σ H D I q => h.run pins s σ H D I (k D σ H q)⟩
section
variable {z : Si} {D : Ends} {F F1 F2 : Addr → Prop} {am am1 am2 : List Addr} {H H1 H2 : Hp} {h : Hs} {S : Sl} {σ : SV}
theorem SatS.ext {r : RS} (e : Ext F am H F1 am1 H1) (i0 : ∀ x ∈ am, F x) (q : SatS z D F am H r) : SatS z D F1 am1 H1 r := by
  cases r with
  | nx S h => exact fun F' am' H' σ' e' => q F' am' H' σ' (e.trans e' i0)
  | rt d h => exact fun F' am' H' σ' e' => q F' am' H' σ' (e.trans e' i0)
  | bk S h => exact fun F' am' H' σ' e' => q F' am' H' σ' (e.trans e' i0)
  | ct S h => exact fun F' am' H' σ' e' => q F' am' H' σ' (e.trans e' i0)
  | exc c v S h => exact fun F' am' H' σ' C dd w e' => q F' am' H' σ' C dd w (e.trans e' i0)
  | bad => exact q
theorem SatS.st {α : Type} {r : R α} {f : α → Hs → RS} (rl : Rel z.rc F am H h S σ) (q : SatS z D F am H (r.st S f)) : SatR z σ F am H r (fun a h1 F1 am1 H1 => Rel z.rc F1 am1 H1 h1 S σ ∧ SatS z D F1 am1 H1 (f a h1)) := by
  cases r with
  | ok a h1 => exact fun F' am' H' e s => ⟨rl.to e s, SatS.ext e rl.sto.inF q⟩
  | exc c v h1 => exact fun F' am' H' C dd w e s => q F' am' H' σ C dd w e (rl.to e s)
  | bad => exact q
theorem SatS.nxt (q : SatS z D F am H (.nx S h)) (r : Rel z.rc F am H h S σ) : D.nx σ H := q F am H σ .refl r
theorem SatS.seq {r : RS} {t : Ci.St} (q : SatS z D F am H (r.andThen fun S' h' => ex z.sub z.call t S' h')) (i0 : ∀ x ∈ am, F x) : SatS z { D with nx := tS z t D } F am H r := by
  cases r with
  | nx S h => exact fun F' am' H' σ' e' r' => ⟨S, F', am', h, r', SatS.ext e' i0 q⟩
  | rt d h => exact q
  | bk S h => exact q
  | ct S h => exact q
  | exc c v S h => exact q
  | bad => exact q
/-- a loop's turn -/
theorem SatS.turn {r : RS} {A : Sl → Hs → RS} {N : SV → Hp → Prop} (i0 : ∀ x ∈ am, F x) (q : SatS z D F am H (match r with
      | .nx S' h' => A S' h'
      | .ct S' h' => A S' h'
      | .bk S' h' => .nx S' h'
      | r => r)) (k : ∀ F' am' H' S' h' σ', Ext F am H F' am' H' → Rel z.rc F' am' H' h' S' σ' → SatS z D F' am' H' (A S' h') → N σ' H') : SatS z { D with nx := N, ct := N, bk := D.nx } F am H r := by
  cases r with
  | nx S h => exact fun F' am' H' σ' e' r' => k F' am' H' S h σ' e' r' (SatS.ext e' i0 q)
  | ct S h => exact fun F' am' H' σ' e' r' => k F' am' H' S h σ' e' r' (SatS.ext e' i0 q)
  | bk S h => exact q
  | rt d h => exact q
  | exc c v S h => exact q
  | bad => exact q
end
theorem forF_G (turn : D → Sl → Hs → RS) (xs : List D) : ∀ (k i : Nat) (S : Sl) (h : Hs), xs.length < i + k → i ≤ xs.length → forF turn (xs.drop i) S h = forG turn (.fix xs) k i S h
  | 0, i, S, h, h1, h2 => by omega
  | k + 1, i, S, h, h1, h2 => by
    unfold forG
    simp only [itm]
    by_cases hl : i < xs.length
    · rw [List.drop_eq_getElem_cons hl, List.getElem?_eq_getElem hl]
      simp only [forF]
      cases turn xs[i] S h <;> simp only
      · exact forF_G turn xs k (i + 1) _ _ (by omega) (by omega)
      · exact forF_G turn xs k (i + 1) _ _ (by omega) (by omega)
    · have e : i = xs.length := by omega
      subst e
      rw [List.drop_length, List.getElem?_eq_none (Nat.le_refl _)]
      rfl
/-! ### the check -/
def noComp : Expr → Bool
  | .ListComp .. | .SetComp .. | .DictComp .. => false
  | _ => true
theorem noComp_ok {e : Expr} (h : noComp e = true) (tgt : Option Expr) (line : Nat) (env : Env) : swapsWith e tgt line env = pure false := by
  cases e <;> first | rfl | cases h
def isFnK : ScopeKind → Bool
  | .function => true
  | _ => false
/-- name = [..] on one line -/
def swC (sc : Scope) (y : Str) (py : Pos) : Expr → Bool
  | .ListComp _ _ s p => sc.names.lookup y == some .local && py.line == p.line && !(s.names.any fun (n, k) => n == y && (k == .local || k == .cell))
  | _ => false
theorem swC_no {sc : Scope} {y : Str} {py : Pos} {e : Expr} {line : Nat} {env : Env} (hk : env.scope.kind = .function) (hs : env.scope = sc) (hn : noComp e = true ∨ ∃ a b c d, e = .ListComp a b c d) (h : swC sc y py e = false) : swapsWith e (some (.Name y py)) line env = pure false := by
  rcases hn with hn | ⟨a, b, c, d, rfl⟩
  · exact noComp_ok hn _ _ _
  · have hb : env.blockKind = .function := by unfold Env.blockKind; rw [hk]; rfl
    unfold swC at h
    have key : (env.blockKind == .function && env.kindOf y == some .local && py.line == d.line && !(c.names.any fun (n, k) => n == y && (k == .local || k == .cell))) = false := by
      rw [hb, ← h, ← hs]; rfl
    unfold swapsWith
    show pure _ = pure _
    exact congrArg pure key
theorem swC_yes {sc : Scope} {y : Str} {py : Pos} {a : Expr} {b : List Comprehension} {c : Scope} {d : Pos} {line : Nat} {env : Env} (hk : env.scope.kind = .function) (hs : env.scope = sc) (h : swC sc y py (.ListComp a b c d) = true) : sc.names.lookup y = some .local ∧ swapsWith (.ListComp a b c d) (some (.Name y py)) line env = pure true := by
  simp only [swC, Bool.and_eq_true, beq_iff_eq, Bool.not_eq_true'] at h
  obtain ⟨⟨h1, h2⟩, h3⟩ := h
  exact ⟨h1, sw_true hk (by rw [hs]; exact h1) (by simpa using h2) h3⟩
/-- what stores in a pair or triple of names do -/
def swO (sc : Scope) (tg e : Expr) : Option (Option (List Str)) := match tg, e with
  | .Tuple ts _ _, .Tuple vs _ _ =>
    if !(ts.length == 2 || ts.length == 3) || vs.length != ts.length then some none
    else if vs.any fun | .Starred .. => true | _ => false then some none
    else
      let line := (ts.head?.map (·.pos.line)).getD 0
      let names := ts.filterMap fun
        | .Name id pos => if sc.names.lookup id == some .local && pos.line == line then some id else none
        | _ => none
      if names.length != ts.length || names.eraseDups.length != names.length then some none
      else if vs.all (foldedForSure 8) then some none
      else if vs.all (constantsAlone 8) then none else some (some names)
  | .List .., _ => none
  | _, _ => some none
theorem swO_ok {sc : Scope} {tg e : Expr} {env : Env} (hk : env.scope.kind = .function) (hs : env.scope = sc) {r : Option (List Str)} (h : swO sc tg e = some r) : swappedStores [tg] e env = pure r := by
  have hb : (env.blockKind != .function) = false := by unfold Env.blockKind; rw [hk]; rfl
  have hkd : ∀ x, env.kindOf x = sc.names.lookup x := fun x => by rw [← hs]; rfl
  subst hs
  unfold swO at h
  split at h
  · rename_i ts k p vs k2 p2
    unfold swappedStores
    simp only [hb, Bool.or_false, hkd]
    split at h
    · rename_i c
      cases h
      rw [if_pos (by simpa using c)]
    · rename_i c
      rw [if_neg (by simpa using c)]
      split at h
      · rename_i c2
        cases h
        exact if_pos c2
      · rename_i c2
        refine Eq.trans (if_neg c2) ?_
        dsimp only at h
        split at h
        · rename_i c3
          cases h
          exact if_pos c3
        · rename_i c3
          refine Eq.trans (if_neg c3) ?_
          split at h
          · rename_i c4
            cases h
            exact if_pos c4
          · rename_i c4
            refine Eq.trans (if_neg c4) ?_
            split at h
            · cases h
            · rename_i c5
              refine Eq.trans (if_neg c5) ?_
              cases h; rfl
  · cases h
  · rename_i hl hne
    cases h
    cases tg <;> first | rfl | exact (hl _ _ rfl).elim | (cases e <;> first | rfl | exact (hne _ _ _ _ _ _ rfl rfl).elim)
end Ci

set_option Elab.async false
set_option linter.all false
set_option maxRecDepth 100000
set_option maxHeartbeats 4000000
namespace Ci
open PySem PySem.Spec PyProof.Rows L2
/-! ### name = {k: v for ..} on one line -/
section
variable {X : Cx}
theorem ps_setDc {i : Nat} {y : Str} {py : Pos} {kx vx tg iter : Expr} {ifs : List Expr} {scope : Scope} {own : List (Str × Nat)} {pos spos : Pos} {wi : TI} {g : TG} {tt : TT} {tk tv : TE} (hc : X.calm = true) (hN : X.N.Nodup) (hy : X.N[i]? = some y) (hyl : X.env.scope.names.lookup y = some .local)
    (hsw : swapsWith (.DictComp kx vx [⟨tg, iter, ifs, 0⟩] scope pos) (some (.Name y py)) spos.line X.env = pure true) (hi : PI X tg iter wi) (ok : BlkOk X.N X.env.scope scope own)
    (hg : ∀ s H C cl fp, PG (X.blk s H scope (compEnvC scope cl C X.env) fp) tg g) (ht : ∀ s H C cl fp, PTs (X.blk s H scope (compEnvC scope cl C X.env) fp) ifs tt)
    (hk : ∀ s H C cl fp, PE (X.blk s H scope (compEnvC scope cl C X.env) fp) kx tk) (hv : ∀ s H C cl fp, PE (X.blk s H scope (compEnvC scope cl C X.env) fp) vx tv) (hs : ∀ x, foldedSetIterable iter X.env x = pure x) :
    PS X (.Assign [.Name y py] (.DictComp kx vx [⟨tg, iter, ifs, 0⟩] scope pos) spos) (tAsg (tDc wi g tt tk tv (own.map (·.2))) (gName i)) := by
  refine ⟨fun pins s σ H D I w => ?_⟩
  rw [exec_Assign_Name_used _ _ _ _ hsw]
  refine wpAny_bind (wpAny_standAt (wpAny_bind ?_))
  show wpAny _ X.A (do let _ ← comprehension (.DictComp kx vx [⟨tg, iter, ifs, 0⟩] scope pos) scope X.env (firstIterPos [⟨tg, iter, ifs, 0⟩] pos) newDict false (eval iter X.env) (some (assign (.Name y py) X.env))) _ _ s
  have w : tDc wi g tt tk tv (own.map (·.2)) σ H (fun x H1 => gName i x σ H1 D.nx) := w
  refine wpAny_bind (thn (dc_core (Qf := fun _ s' => SP X pins D .next s') hc hN I hi ok hg ht hk hv hs w fun L C s' m H' I' q hn fo => ?_) fun _ s' hq => wpAny_pure (wpAny_pure hq))
  show wpAny _ _ (assign (.Name y py) X.env (.ref L)) _ _ _
  refine wpAny_assign_Name (store_ok2 (v := V.ref L) I' hN hy (.inl hyl) rfl (fun s2 I2 ⟨a, sb, ha⟩ => ?_) (.inr hyl))
  have far : C ≠ a := by
    rcases ha with z | z
    · rw [z]; exact fo.2.1
    · exact fun e => fo.2.2.2.2.1 y a z e.symm
  refine ⟨m, hn.sameBut sb far, fun h3 sb3 => ⟨_, H', ?_, q⟩⟩
  exact I2.turned (t' := s2.toks) (fun b o hb e => (sb3.2 b hb).trans e) fo.1 fo.2.1 fo.2.2.2.1 fo.2.2.2.2.1 fo.2.2.2.2.2
end
def swD (sc : Scope) (y : Str) (py : Pos) (s : Scope) (p : Pos) : Bool := sc.names.lookup y == some .local && py.line == p.line && !(s.names.any fun (n, k) => n == y && (k == .local || k == .cell))
theorem swD_is {sc : Scope} {y : Str} {py d : Pos} {a a' : Expr} {b : List Comprehension} {c : Scope} {line : Nat} {env : Env} (hk : env.scope.kind = .function) (hs : env.scope = sc) : swapsWith (.DictComp a a' b c d) (some (.Name y py)) line env = pure (swD sc y py c d) := by
  have hb : env.blockKind = .function := by unfold Env.blockKind; rw [hk]; rfl
  have key : (env.blockKind == .function && env.kindOf y == some .local && py.line == d.line && !(c.names.any fun (n, k) => n == y && (k == .local || k == .cell))) = swD sc y py c d := by
    rw [hb, ← hs]; rfl
  unfold swapsWith
  show pure _ = pure _
  exact congrArg pure key
section
variable {z : Si} {X : Cx} {N : List Str} {G : GT} {sc : Scope}
/-- the parts of a dict comprehension that is looked at -/
theorem dc_parts {k v : E} {own : List Nat} {tg : Tg} {it : It} {cond : E} {x w : Expr} {gs : List Comprehension} {sc' : Scope} {p : Pos} (ok : Ok z X N G sc false) (h : chkE N G false sc (.dc k v own tg it cond) (.DictComp x w gs sc' p) = true) :
    ∃ t i ifs, gs = [⟨t, i, ifs, 0⟩] ∧ CompP z X N sc' x t i ifs k own tg (tI z it) cond ∧ ∀ s H C cl fp, PE (X.blk s H sc' (compEnvC sc' cl C X.env) fp) w (tE z.mute v) := by
  rcases gs with _ | ⟨⟨t, i, ifs, b⟩, _ | ⟨g2, gr⟩⟩
  · simp [chkE] at h
  · by_cases hb : b = 0
    · subst hb
      unfold chkE at h
      simp only [Bool.and_eq_true, beq_iff_eq, Bool.not_eq_true'] at h
      obtain ⟨⟨⟨⟨⟨h0, h1⟩, h2⟩, h3⟩, h3'⟩, h4⟩ := h
      obtain ⟨⟨⟨⟨⟨_, c1⟩, c2⟩, c3⟩, c4⟩, c5⟩ := h0
      have h0' : (blkC N sc sc' (own.filterMap fun k => N[k]?.map fun y => (y, k)) && (own.filterMap fun k => N[k]?.map fun y => (y, k)).map (·.2) == own && noSet i && (tgIx tg).all (own.contains ·) && own.all (fun k => match N[k]? with | some y => !(sc'.names.lookup y == some .free) | none => false)) = true := by
        simp only [Bool.and_eq_true, beq_iff_eq]
        exact ⟨⟨⟨⟨c1, c2⟩, c3⟩, c4⟩, c5⟩
      refine ⟨t, i, ifs, rfl, comp_parts ok h0' (toI ((all_ok (sizeOf it + 1)).2.2.2 it z X sc false t i (Nat.lt_succ_self _) ok h1)) h2 (fun s H C cl fp => ?_) fun s H C cl fp => ((all_ok (sizeOf k + 1)).1 k z.mute _ (relS sc' sc) false x (Nat.lt_succ_self _) (ok.blk s H C cl fp sc') h3).pe,
        fun s H C cl fp => ((all_ok (sizeOf v + 1)).1 v z.mute _ (relS sc' sc) false w (Nat.lt_succ_self _) (ok.blk s H C cl fp sc') h3').pe⟩
      split at h4
      · unfold tCond
        rw [if_pos h4]
        exact pts_nil
      · simp only [Bool.and_eq_true, Bool.not_eq_true'] at h4
        unfold tCond
        rw [if_neg (by rw [h4.1.1]; exact Bool.false_ne_true)]
        exact pts_one (((all_ok (sizeOf cond + 1)).1 cond z.mute _ (relS sc' sc) false _ (Nat.lt_succ_self _) (ok.blk s H C cl fp sc') h4.1.2).pt 30 h4.2)
      · cases h4
    · unfold chkE at h
      split at h <;> simp_all
  · simp [chkE] at h
end
end Ci

set_option Elab.async false
set_option linter.all false
set_option maxRecDepth 100000
set_option maxHeartbeats 8000000
namespace Ci
open PySem PySem.Spec PyProof.Rows L2 L2H
/-! ### a def called within a suite, with the exception -/
/-- its promise, told of the exception's object -/
structure FnX (P : Program) (w : World) (K : PySem.W.Frag) (mg : Str → Option Value) (base : Heap) (CX : CXT) (k : Nat) (f : Addr) (fd : FuncData) (ps : List Str) (spx : Addr × Obj → Sp) : Prop where
  arity : ∀ q vs H Q E, spx q vs H Q E → vs.length = ps.length
  go : ∀ (A : Around) (out : List Env) (s0 : Shared) (H : Hp) (ar : Args) (us : List Value) (vs : List V) (Q : VK) (E : XK) (q : Addr × Obj), RoomH k A → Hot1 A q → PinOk out H s0 q → Env0 P w K mg base A out s0 H → BindsTo s0 fd ar (ps.zip us) → Vals vs us →
    spx q vs H Q E → codeAny (model P w) A (.call (.ref f) ar) (CR CX out P w H s0 Q E) s0
theorem fnx_of {CX : CXT} {P : Program} {w : World} {K : PySem.W.Frag} {mg : Str → Option Value} {base : Heap} {k : Nat} {f : Addr} {name qual : Str} {params : Arguments} {bd : List Stmt} {scp : Scope} {dV kV doc pm cdv ct oc : Value} {an od : Option Addr}
    {osl : Array (Option Value)} {N ps : List Str} {spx : Addr × Obj → Sp} (at_ : K.lookup f = some ⟨oc, od, .func (PySem.W.fnOf name qual params bd scp dV kV doc pm an cdv ct), osl⟩) (cod : PySem.W.codeIn K cdv qual = true) (S : FnScope N ps scp)
    (arity : ∀ q vs H Q E, spx q vs H Q E → vs.length = ps.length)
    (inner : ∀ (A : Around) (out : List Env) (s0 : Shared) (H : Hp) (vs : List V) (Q : VK) (E : XK) (q : Addr × Obj), Hot1 A q → RoomH k (A.deeper (envOfC qual scp s0.heap.objs.size f cdv)) → spx q vs H Q E →
      ∃ t, PSs (cxH CX P w K mg base N qual scp f cdv A out s0 H E q) bd t ∧ t { nx := fun _ H' => Q .non H', rt := Q } (L2.start N vs) H) :
    FnX P w K mg base CX (k + 1) f (PySem.W.fnOf name qual params bd scp dV kV doc pm an cdv ct) ps spx := by
  refine ⟨arity, fun A out s0 H ar us vs Q E q room hot pin env bind vals want => ?_⟩
  have hl := arity _ _ _ _ _ want
  have inH : K.In s0.heap := env.mod.kin.keeps fun b o e => (env.bs b o e).1
  have nol : s0.heap.NoLimit := env.mod.nolimit.keeps fun b o e => (env.bs b o e).1
  have kinds : ∀ y ∈ ps.zip us, scp.names.lookup y.1 = some .local ∨ (scp.names.lookup y.1 = some .cell ∧ ((cellsFrom (s0.heap.objs.size + 1) scp.names []).lookup y.1).isSome = true) := fun y hy => by
    rcases S.par y.1 (List.of_mem_zip (show (y.1, y.2) ∈ _ from hy)).1 with c | c
    · exact .inl c
    · exact .inr ⟨c, PySem.W.cellsFrom_some _ _ _ (.inl c)⟩
  refine codeAny_call_function room.depth (inH _ _ at_) rfl S.co S.gen rfl (PySem.W.codeRec_of inH cod) (bind _ _ _ _ ?_)
  refine wpAny_newFunctionEnv_cells S.kind kinds fun env1 he s1 x => ?_
  subst he
  refine ⟨nol.keeps x.toInCall.keep, codeAny_func ?_⟩
  obtain ⟨t, ht, got⟩ := inner A out s0 H vs Q E q hot (room.deeper _) want
  have I := inv_startH (CX := CX) (E := E) S pin env hl vals x
  refine wpAny_mono (ht.run [] s1 (L2.start N vs) H _ I got) (fun fl s2 out2 => ?_) fun _ _ bad => bad
  have close : ∀ {σ2 : SV} {H2 : Hp} {v : V} {u : Value}, Inv (cxH CX P w K mg base N qual scp f cdv A out s0 H E q) [] σ2 H2 s2 → RelV v u → Q v H2 → CE out P w H s0 Q u s2 :=
    fun {σ2 H2 v u} J rv c => ⟨v, H2, J.os, J.bare, J.base, J.hok, rv, c⟩
  cases fl with
  | ret u => obtain ⟨v, σ2, H2, J, rv, c⟩ := out2; exact close J rv c
  | next => obtain ⟨σ2, H2, J, c⟩ := out2; exact close (v := V.non) (u := Value.none) J rfl c
  | brk => obtain ⟨_, _, _, c⟩ := out2; exact c.elim
  | cont => obtain ⟨_, _, _, c⟩ := out2; exact c.elim
section
variable {X : Cx} {CX : CXT} {k : Nat} {f : Addr} {fd : FuncData} {ps : List Str} {spx : Addr × Obj → Sp} {E : SV → XK} {x : Str} {p pos : Pos} {e : Expr} {es : List Expr} {t : TA}
theorem pe_callX {q : Addr × Obj} (F : FnX X.prog X.w X.K X.mg X.base CX k f fd ps spx) (room : RoomH k X.A) (hot : Hot1 X.A q) (hq : q ∈ X.pn) (hg : Gl X x) (hm : X.mg x = some (.ref f)) (kp : PySem.W.keepIn X.K (.ref f) = true) (bnd : Binds X.K fd ps []) (pas : ∀ σ, PassesAt CX X σ (E σ))
    (ha : PA X (e :: es) t) (ndb : (x == ("__debug__" : Str)) = false) (he : starEach (e :: es) X.env = (false, eval e X.env) :: starEach es X.env) (hpl : (backTo pos (starEach es X.env)).any (·.1) = false) :
    PE X (.Call (.Name x p) (e :: es) [] pos) (tCallS (spx q) E t) := by
  refine ⟨fun pins s σ H Q I want => ?_⟩
  refine wpAny_Call_Name_kw (ld_glob I hg hm ?_ ndb)
  refine PySem.W.callWith_K (h₀ := X.base) I.ok.mod.kin kp (thn (ha.run pos pins s σ H _ I want) fun us s1 ⟨vs, H1, I1, r, w1⟩ => ⟨I1.kIn, ?_⟩) he hpl
  have hl : us.length = ps.length := by rw [← r.length]; exact F.arity _ _ _ _ _ w1
  have b := bnd s1 us I1.kIn (by rw [List.append_nil]; exact hl)
  rw [List.append_nil] at b
  have pin1 := I1.pin q (List.mem_append_left _ hq)
  have pin : PinOk X.stack H1 s1 q := ⟨pin1.1, pin1.2.1, fun hm => (List.mem_cons.mp (I1.stkSub q.1 hm)).elim pin1.2.2.1 pin1.2.2.2.1, pin1.2.2.2.2⟩
  refine wpAny_call (codeAny_mono (F.go X.A X.stack s1 H1 ⟨us, []⟩ us vs Q (E σ) q room hot pin I1.env0 b r w1) fun r s2 c => ?_)
  cases r with
  | error e => exact pas σ pins H1 s1 e s2 I1 c
  | ok fl =>
    cases fl with
    | ret u => exact I1.after c
    | next => exact c.elim
    | brk => exact c.elim
    | cont => exact c.elim
end
/-! ### with and without the exception at hand -/
def Rc.with (c : Rc) (x : Hx) : Rc := { c with hx := some x }
section
variable {c : Rc} {x : Hx} {F : Addr → Prop} {am : List Addr} {H : Hp} {h : Hs} {S : Sl} {σ : SV}
mutual
theorem RD.toX (n : c.hx = none) : ∀ {d : D} {v : V}, RD c F am H d v → RD (c.with x) F am H d v
  | _, _, .non => .non
  | _, _, .bl b => .bl b
  | _, _, .int b => .int b
  | _, _, .str b => .str b
  | _, _, .tup r m l => .tup r m (RDs.toX n l)
  | _, _, .lst r m l => .lst r m (RDs.toX n l)
  | _, _, .scr r m l => .scr r m (RDs.toX n l)
  | _, _, .scrK r l => .scrK r (RDs.toX n l)
  | _, _, .ref q => .ref q
  | _, _, .fn q => .fn q
  | _, _, .exc a _ _ _ => by rw [n] at a; cases a
theorem RDs.toX (n : c.hx = none) : ∀ {ds : List D} {vs : List V}, RDs c F am H ds vs → RDs (c.with x) F am H ds vs
  | _, _, .nil => .nil
  | _, _, .cons r l => .cons (RD.toX n r) (RDs.toX n l)
end
mutual
theorem RD.unX : ∀ {d : D} {v : V}, RD (c.with x) F am H d v → d.noExc = true → RD c F am H d v
  | _, _, .non, _ => .non
  | _, _, .bl b, _ => .bl b
  | _, _, .int b, _ => .int b
  | _, _, .str b, _ => .str b
  | _, _, .tup r m l, e => .tup r m (RDs.unX l (by simpa only [D.noExc] using e))
  | _, _, .lst r m l, e => .lst r m (RDs.unX l (by simpa only [D.noExc] using e))
  | _, _, .scr (ds := ds) r m l, e => .scr r m (RDs.unX l (by simpa only [D.noExc] using e))
  | _, _, .scrK (ds := ds) r l, e => .scrK r (RDs.unX l (by simpa only [D.noExc] using e))
  | _, _, .ref q, _ => .ref q
  | _, _, .fn q, _ => .fn q
  | _, _, .exc a _ _ _, e => by simp [D.noExc] at e
theorem RDs.unX : ∀ {ds : List D} {vs : List V}, RDs (c.with x) F am H ds vs → D.noExcs ds = true → RDs c F am H ds vs
  | _, _, .nil, _ => .nil
  | _, _, .cons r l, e => by
    simp only [D.noExcs, Bool.and_eq_true] at e
    exact .cons (RD.unX r e.1) (RDs.unX l e.2)
end
theorem Sto.toX (n : c.hx = none) (s : Sto c F am H h) : Sto (c.with x) F am H h :=
  ⟨s.nd, s.len, s.inF, s.ok, fun i a o q1 q2 => by
    have z := s.obj i a o q1 q2
    cases o with
    | lst ds => obtain ⟨xs, e1, e2⟩ := z; exact ⟨xs, e1, e2.toX n⟩
    | dct ds => obtain ⟨xs, e1, ek, e2⟩ := z; exact ⟨xs, e1, ek, e2.toX n⟩⟩
theorem Sto.unX (s : Sto (c.with x) F am H h) (e : h.all O.noExc = true) : Sto c F am H h :=
  ⟨s.nd, s.len, s.inF, s.ok, fun i a o q1 q2 => by
    have z := s.obj i a o q1 q2
    have e2 := List.all_eq_true.mp e o (List.mem_of_getElem? q2)
    cases o with
    | lst ds => obtain ⟨xs, e1, e3⟩ := z; exact ⟨xs, e1, e3.unX (by simpa only [O.noExc] using e2)⟩
    | dct ds => obtain ⟨xs, e1, ek, e3⟩ := z; exact ⟨xs, e1, ek, e3.unX (by simpa only [O.noExc] using e2)⟩⟩
theorem Rel.toX (n : c.hx = none) (r : Rel c F am H h S σ) : Rel (c.with x) F am H h S σ :=
  ⟨r.sto.toX n, r.len, fun i d q => let ⟨v, h1, h2⟩ := r.sl i d q; ⟨v, h1, h2.toX n⟩⟩
end
end Ci

set_option Elab.async false
set_option linter.all false
set_option maxRecDepth 100000
set_option maxHeartbeats 8000000
namespace Ci
open PySem PySem.Spec PyProof.Rows L2
/-! ### every statement -/
/-- of a def called in a suite: the exception's object q is known -/
def spX (z : Si) (i : Nat) (q : Addr × Obj) : Sp := fun vs H Q E => ∃ F am h x ds C, x.a = q.1 ∧ z.ca x.c = some C ∧ Zc (.ref C) (some x.d) q.2 ∧ (∃ vs, q.2.data = .fields vs) ∧ x.f = z.fld x.c ∧ Sto (z.rc.with x) F am H h ∧ RDs (z.rc.with x) F am H ds vs ∧
  SatR { z.to E with rc := z.rc.with x } [] F am H (z.call i ds h) (PostD { z.to E with rc := z.rc.with x } Q)
/-- what the classes say -/
structure ClsOk (z : Si) : Prop where
  cl : ∀ c C, z.ca c = some C → ExcC z.K C ∧ PySem.W.findIn z.K (.ref C) (z.fld c) = some none ∧ PySem.W.kitOne z.K (.ref C) (.type "ValueError") = some (z.sub c 99)
  k : ∀ c C c' C', z.ca c = some C → z.ca c' = some C' → PySem.W.kitOne z.K (.ref C) (.ref C') = some (z.sub c c')
  em : ∀ c C c' C', z.ca c = some C → z.ca c' = some C' → PySem.W.exmOne z.K (.ref C) (.ref C') = some (z.sub c c')
  fl : ∀ c j, 100 ≤ j → z.sub c j = true → atn j = z.fld c
/-- a def's body's context -/
structure OkS (z : Si) (X : Cx) (N : List Str) (G : GT) (sc : Scope) (hot : Bool) : Prop extends Ok z X N G sc hot where
  po : PassesOwn (model X.prog X.w) X.A X.env X.xe
  fnc : ∀ y, sc.names.lookup y = some .cell → X.fn y = true
  kd : X.env.scope.kind = .function
  stk : hot = false → X.stack = X.env :: X.outer
  frm : hot = false → X.env.frame = some X.env.locals
  wd : hot = false → ∀ y i, G y = some (.wd i) → ∃ a, X.mg y = some (.ref a) ∧ PySem.W.keepIn X.K (.ref a) = true ∧ ∃ fd ps k, FnX X.prog X.w X.K X.mg X.base (L2N.CX X.prog X.w) k a fd ps (spX z i) ∧ L2H.RoomH k X.A ∧ Binds X.K fd ps []
  cls : ClsOk z
section
variable (N : List Str) (G : GT)
def locB (sc : Scope) (i : Nat) (y : Str) : Bool := N[i]? == some y && (sc.names.lookup y == some .local || sc.names.lookup y == some .cell)
def pLoc (sc : Scope) (i : Nat) (y : Str) : Bool := N[i]? == some y && sc.names.lookup y == some .local
def parB (hot : Bool) (sc : Scope) (t : Tg) (e : E) (tg v : Expr) : Bool := match t, e, tg, v with
  | .tp (.cons (.nm i) (.cons (.nm j) .nil)), .tup (.cons a (.cons b .nil)), .Tuple [.Name x _, .Name y _] _ _, .Tuple [ea, eb] _ _ =>
    swO sc tg v == some (some [x, y]) && pLoc N sc i x && pLoc N sc j y && !(i == j) && chkEs N G hot sc (.cons a (.cons b .nil)) [ea, eb]
  | .tp (.cons (.nm i) (.cons (.nm j) (.cons (.nm l) .nil))), .tup (.cons a (.cons b (.cons c .nil))), .Tuple [.Name x _, .Name y _, .Name w _] _ _, .Tuple [ea, eb, ec] _ _ =>
    swO sc tg v == some (some [x, y, w]) && pLoc N sc i x && pLoc N sc j y && pLoc N sc l w && !(i == j) && !(i == l) && !(j == l) && chkEs N G hot sc (.cons a (.cons b (.cons c .nil))) [ea, eb, ec]
  | _, _, _, _ => false
def isDcE : E → Bool
  | .dc .. => true
  | _ => false
def asgB (hot : Bool) (sc : Scope) (t : Tg) (e : E) (tg v : Expr) : Bool := match t, tg with
  | .nm i, .Name y py => locB N sc i y && (match v with
    | .ListComp a b c d => (if swC sc y py (.ListComp a b c d) then !hot && (match e with | .il l => chkL N G hot sc l (.ListComp a b c d) | .ml l => chkL N G hot sc l (.ListComp a b c d) | _ => false) else chkE N G hot sc e (.ListComp a b c d))
    | .DictComp a a' b c d => (if swD sc y py c d then !hot && isDcE e && chkE N G hot sc e (.DictComp a a' b c d) else chkE N G hot sc e (.DictComp a a' b c d))
    | v => noComp v && chkE N G hot sc e v)
  | t, tg => !hot && (parB N G hot sc t e tg v || (swO sc tg v == some none && noComp v && tgB N sc t tg && chkE N G hot sc e v))
def chkB (hot : Bool) (sc : Scope) : Ci.St → List Stmt → Bool
  | .skip, [] => true
  | .seq s t, x :: y :: xs => chkB hot sc s [x] && chkB hot sc t (y :: xs)
  | .asg t e, [.Assign [tg] v _] => asgB N G hot sc t e tg v
  | .set a i e, [.Assign [.Subscript o ix _] v _] => noSlice ix && noComp v && chkE N G hot sc a o && chkE N G hot sc i ix && chkE N G hot sc e v
  | .set2 a i b j e, [.Assign [.Tuple [.Subscript o ix p, .Subscript o2 ix2 p2] kt pt] (.Tuple [ea, eb] k2 pt2) _] => !hot && swO sc (.Tuple [.Subscript o ix p, .Subscript o2 ix2 p2] kt pt) (.Tuple [ea, eb] k2 pt2) == some none && noSlice ix && noSlice ix2 && chkE N G hot sc a o && chkE N G hot sc i ix && chkE N G hot sc b o2 && chkE N G hot sc j ix2 && chkE N G hot sc e (.Tuple [ea, eb] k2 pt2)
  | .asg2 i j e, [.Assign [.Name x _, .Name y _] v _] => !hot && locB N sc i x && locB N sc j y && chkE N G hot sc e v
  | .asg3 i j l e, [.Assign [.Name x _, .Name y _, .Name w _] v _] => !hot && locB N sc i x && locB N sc j y && locB N sc l w && chkE N G hot sc e v
  | .aug i op e, [.AugAssign (.Name y _) o v _] => op == o && (op == .Add || op == .Sub) && locB N sc i y && chkE N G hot sc e v
  | .augx a i op e, [.AugAssign (.Subscript o ix _) o' v _] => op == o' && (op == .Add || op == .Sub) && noSlice ix && chkE N G hot sc a o && chkE N G hot sc i ix && chkE N G hot sc e v
  | .ex e, [.Expr v _] => noComp v && chkE N G hot sc e v
  | .pass, [.Expr (.Constant (.str _) _ _) _] => true
  | .pass, [.Pass _] => true
  | .ret e, [.Return (some v) _] => chkE N G hot sc e v
  | .retn, [.Return none _] => true
  | .ife c s t, [.If x a b _] => chkE N G hot sc c x && testOk 30 x && chkB hot sc s a && chkB hot sc t b
  | .for_ t it s, [.For tg i body [] _] => !hot && noSet i && chkI N G hot sc tg it i && tgB N sc t tg && chkB hot sc s body
  | .whl c s, [.While x body [] _] => chkE N G hot sc c x && testOk 30 x && chkB hot sc s body
  | .rais c e, [.Raise (some (.Call (.Name y _) [x] [] _)) none _] => !hot && gl sc y && isErr G y c && noStar x && chkE N G hot sc e x
  | .try_ s c i (.ret (.call f (.cons (.var j) .nil))), [.Try body [.ExceptHandler (some (.Name y _)) (some n) [.Return (some (.Call (.Name w _) [.Name n' _] [] _)) _] _] [] [] _] =>
    !hot && gl sc y && isCls G y c && pLoc N sc i n && gl sc w && isWd G w f && j == i && n' == n && vis sc n && chkB hot sc s body
  | .brk, [.Break _] => true
  | .cnt, [.Continue _] => true
  | .nope, [_] => true
  | .enr i a elt own tg cond, [.Assign [.Name y _] (.Call (.Name g _) [x] [] _) _, .Return (some (.ListComp el [⟨.Tuple es k tp, .Name y' pn, ifs, 0⟩] sc' d)) _] =>
    !hot && g == "enumerate" && gl sc g && isTy G g "enumerate" && noStar x && locB N sc i y && y' == y && vis sc y && chkE N G hot sc a x && chkL N G hot sc (.comp elt own tg (.val (.var i)) cond) (.ListComp el [⟨.Tuple es k tp, .Name y' pn, ifs, 0⟩] sc' d)
  | _, _ => false
end
end Ci

set_option Elab.async false
set_option linter.all false
set_option maxRecDepth 100000
set_option maxHeartbeats 8000000
namespace Ci
open PySem PySem.Spec PyProof.Rows L2
section
variable {z : Si} {X : Cx} {N : List Str} {G : GT} {sc : Scope} {hot : Bool}
theorem eOk (ok : Ok z X N G sc hot) {e : E} {x : Expr} (h : chkE N G hot sc e x = true) : GoodE z X x e := (all_ok (sizeOf e + 1)).1 e z X sc hot x (Nat.lt_succ_self _) ok h
theorem esOk (ok : Ok z X N G sc hot) {e : Es} {x : List Expr} (h : chkEs N G hot sc e x = true) : PA X x (tEs z e) := (all_ok (sizeOf e + 1)).2.1 e z X sc hot x (Nat.lt_succ_self _) ok h
theorem lOk (ok : Ok z X N G sc hot) {e : L} {x : Expr} (h : chkL N G hot sc e x = true) : GoodL z X N x e := (all_ok (sizeOf e + 1)).2.2.1 e z X sc hot x (Nat.lt_succ_self _) ok h
theorem iOk (ok : Ok z X N G sc hot) {e : It} {t x : Expr} (h : chkI N G hot sc t e x = true) : PI X t x (tI z e) := toI ((all_ok (sizeOf e + 1)).2.2.2 e z X sc hot t x (Nat.lt_succ_self _) ok h)
theorem put_nm {S S' : Sl} {d : D} {i : Nat} (h : put S d (.nm i) = some S') : S' = S.set i (some d) := by
  unfold put at h
  split at h
  · cases h; rfl
  · cases h
theorem asg_imp {t : Tg} {e : E} {D : Ends} {σ : SV} {H : Hp} {g : TG} (q : tS z (.asg t e) D σ H) (k : ∀ v σ H Q, tG z t v σ H Q → g v σ H Q) : tAsg (tE z e) g D σ H := by
  obtain ⟨S, F, am, h, r, q⟩ := q
  simp only [ex] at q
  refine ⟨S, F, am, h, r, (SatS.st r q).mono fun d h1 F1 am1 H1 _ e1 s1 ⟨r1, q1⟩ v rv => k _ _ _ _ ?_⟩
  cases hp : put S d t with
  | none => rw [hp] at q1; exact q1.elim
  | some S' =>
    rw [hp] at q1
    exact ⟨S, F1, am1, h1, d, S', r1, rv, hp, fun σ' r' _ => SatS.nxt q1 r'⟩
theorem nm_imp {i : Nat} {v : V} {σ : SV} {H : Hp} {Q : SV → Hp → Prop} (q : tG z (.nm i) v σ H Q) : gName i v σ H Q := by
  obtain ⟨S, F, am, h, d, S', r, rv, hp, q⟩ := q
  rw [put_nm hp] at q
  exact q _ (r.set i rv) fun vs hv => wipe_at σ (hv i (by simp [tgIx]))
theorem loc_ok {i : Nat} {y : Str} (ok : OkS z X N G sc hot) (h : locB N sc i y = true) : X.N[i]? = some y ∧ Loc X.env.scope y ∧ (X.fn y = true ∨ X.env.scope.names.lookup y = some .local) := by
  unfold locB at h
  simp only [Bool.and_eq_true, Bool.or_eq_true, beq_iff_eq] at h
  refine ⟨by rw [ok.hN]; exact h.1, by rw [ok.hsc]; exact h.2, ?_⟩
  rcases h.2 with k | k
  · exact .inr (by rw [ok.hsc]; exact k)
  · exact .inl (ok.fnc y k)
theorem s_nm {i : Nat} {y : Str} {py pos : Pos} {e : E} {v : Expr} (ok : OkS z X N G sc hot) (h : locB N sc i y = true) (hv : PE X v (tE z e)) (hs : swapsWith v (some (.Name y py)) pos.line X.env = pure false) : PS X (.Assign [.Name y py] v pos) (tS z (.asg (.nm i) e)) := by
  obtain ⟨l1, l2, l3⟩ := loc_ok ok h
  exact (ps_set (by rw [ok.hN]; exact ok.nd) l1 l2 hv hs l3).imp fun D σ H q => asg_imp q fun _ _ _ _ => nm_imp
theorem s_lc {i : Nat} {y : Str} {py pos : Pos} {l : L} {e : E} {a : Expr} {b : List Comprehension} {c : Scope} {d : Pos} (ok : OkS z X N G sc hot) (h : locB N sc i y = true) (hsw : swC sc y py (.ListComp a b c d) = true) (hl : GoodL z X N (.ListComp a b c d) l)
    (he : ∀ {S F am h σ H Q}, Rel z.rc F am H h S σ → SatR z σ F am H (ev z.sub z.call e S h) (PostD z Q) → SatL z σ F am H (evL z.sub z.call l S h) Q) : PS X (.Assign [.Name y py] (.ListComp a b c d) pos) (tS z (.asg (.nm i) e)) := by
  obtain ⟨l1, l2, l3⟩ := loc_ok ok h
  obtain ⟨h1, h2⟩ := swC_yes (line := pos.line) ok.kd ok.hsc hsw
  rcases hl.cp a b c d rfl with ⟨t, it, ifs, el, own, tg, wi, cond, rfl, P, ⟨lk, hL⟩, _⟩ | ⟨t, it, ifs, t1, i1, ifs1, el, own, tg, it0, cond, own1, tg1, it1, cond1, rfl, P, rfl⟩
  · have hp := ps_setLc (own := own.filterMap fun k => N[k]?.map fun y => (y, k)) (i := i) (py := py) (pos := d) (spos := pos) P.calm P.nd l1 (by rw [ok.hsc]; exact h1) h2 P.hi P.blk P.hg P.ht P.he (fold_ok P.fld)
    rw [P.own2] at hp
    have key : ∀ D σ H, tS z (.asg (.nm i) e) D σ H → LkE lk (tLc wi (tG z.mute tg) (tCond z.mute cond) (tE z.mute el) own) σ H (fun v H' => D.nx (σ.set i (some v)) H') := fun D σ H q => by
      have q2 : tAsg (tE z e) (gName i) D σ H := asg_imp q fun _ _ _ _ => nm_imp
      obtain ⟨S, F, am, hs, r, q3⟩ := q2
      exact hL _ _ _ ⟨S, F, am, hs, r, he r q3⟩
    cases lk with
    | false => exact hp.imp fun D σ H q => key D σ H q
    | true => exact (ps_lock hp).imp fun D σ H q => key D σ H q
  · have hp := ps_setLc2 (own := own.filterMap fun k => N[k]?.map fun y => (y, k)) (vs1 := own1) (i := i) (py := py) (pos := d) (spos := pos) P.a.calm P.a.nd l1 (by rw [ok.hsc]; exact h1) h2 P.a.hi P.a.blk (by rw [P.a.own2]; exact P.sub1) P.a.hg P.a.ht P.hi1 P.b.hg P.b.ht P.a.he (fold_ok P.a.fld) (fun env => fold_ok P.b.fld)
    rw [P.a.own2] at hp
    refine hp.imp fun D σ H q => ?_
    have q2 : tAsg (tE z e) (gName i) D σ H := asg_imp q fun _ _ _ _ => nm_imp
    obtain ⟨S, F, am, hs, r, q3⟩ := q2
    exact lc2_sim P.a.hown P.hown1 ⟨S, F, am, hs, r, he r q3⟩
theorem s_dc {i : Nat} {y : Str} {py pos : Pos} {e : E} {a a' : Expr} {b : List Comprehension} {c : Scope} {d : Pos} (ok : OkS z X N G sc false) (h : locB N sc i y = true) (hsw : swD sc y py c d = true) (he : isDcE e = true) (hc : chkE N G false sc e (.DictComp a a' b c d) = true) : PS X (.Assign [.Name y py] (.DictComp a a' b c d) pos) (tS z (.asg (.nm i) e)) := by
  obtain ⟨l1, l2, l3⟩ := loc_ok ok h
  cases e <;> first | (simp [isDcE] at he; done) | skip
  rename_i k v own tg it cond
  obtain ⟨t, i2, ifs, rfl, P, hv⟩ := dc_parts ok.toOk hc
  have h2 := swD_is (a := a) (a' := a') (b := [⟨t, i2, ifs, 0⟩]) (line := pos.line) (py := py) (d := d) (c := c) (y := y) ok.kd ok.hsc
  rw [hsw] at h2
  have h1 : X.env.scope.names.lookup y = some .local := by
    rw [ok.hsc]
    simp only [swD, Bool.and_eq_true, beq_iff_eq] at hsw
    exact hsw.1.1
  have hp := ps_setDc (own := own.filterMap fun k => N[k]?.map fun y => (y, k)) (i := i) (py := py) (pos := d) (spos := pos) P.calm P.nd l1 h1 h2 P.hi P.blk P.hg P.ht P.he hv (fold_ok P.fld)
  rw [P.own2] at hp
  refine hp.imp fun D σ H q => ?_
  have q2 : tAsg (tE z (.dc k v own tg it cond)) (gName i) D σ H := asg_imp q fun _ _ _ _ => nm_imp
  exact dc_sim P.hown q2
theorem s_gen {t : Tg} {e : E} {tg v : Expr} {pos : Pos} (ok : OkS z X N G sc false) (hw : swO sc tg v = some none) (hn : noComp v = true) (ht : tgB N sc t tg = true) (hv : PE X v (tE z e)) : PS X (.Assign [tg] v pos) (tS z (.asg t e)) :=
  (ps_asg hv (g_ok (z := z) (P := fun _ => True) ⟨ok.hN, ok.nd, ok.hsc, ok.calm rfl, fun i y _ _ k => ok.fnc y k⟩ t tg ht fun _ _ => trivial) (noComp_ok hn _ _ _) (swO_ok ok.kd ok.hsc hw) (by rw [tg_one X.env [] ht]; rfl)).imp fun D σ H q => asg_imp q fun _ _ _ _ x => x
theorem ploc_ok {i : Nat} {y : Str} (ok : OkS z X N G sc hot) (h : pLoc N sc i y = true) : X.N[i]? = some y ∧ X.env.scope.names.lookup y = some .local := by
  unfold pLoc at h
  simp only [Bool.and_eq_true, beq_iff_eq] at h
  exact ⟨by rw [ok.hN]; exact h.1, by rw [ok.hsc]; exact h.2⟩
theorem tE_tup {es : Es} {σ : SV} {H : Hp} {S : Sl} {F : Addr → Prop} {am : List Addr} {h : Hs} {P : D → Hs → (Addr → Prop) → List Addr → Hp → Prop} (r : Rel z.rc F am H h S σ) (q : SatR z σ F am H (ev z.sub z.call (.tup es) S h) P) :
    SatR z σ F am H (evs z.sub z.call es S h) fun ds h1 F1 am1 H1 => P (.tup ds) h1 F1 am1 H1 := by
  simp only [ev] at q
  refine q.bind r.sto.inF fun ds h1 F1 am1 H1 _ e1 s1 q1 => ?_
  split at q1
  · exact SatR.now q1 s1
  · exact q1.elim
theorem s_par2 {i j : Nat} {x y : Str} {ea eb : Expr} {a b : E} {px py pt pt2 pos : Pos} {kt k2 : Nat} (ok : OkS z X N G sc false) (hw : swO sc (.Tuple [.Name x px, .Name y py] kt pt) (.Tuple [ea, eb] k2 pt2) = some (some [x, y])) (hx : pLoc N sc i x = true) (hy : pLoc N sc j y = true) (hij : i ≠ j)
    (he : PA X [ea, eb] (tEs z (.cons a (.cons b .nil)))) : PS X (.Assign [.Tuple [.Name x px, .Name y py] kt pt] (.Tuple [ea, eb] k2 pt2) pos) (tS z (.asg (.tp (.cons (.nm i) (.cons (.nm j) .nil))) (.tup (.cons a (.cons b .nil))))) := by
  obtain ⟨x1, x2⟩ := ploc_ok ok hx
  obtain ⟨y1, y2⟩ := ploc_ok ok hy
  refine (ps_par (ok.calm rfl) (by rw [ok.hN]; exact ok.nd) x1 y1 hij x2 y2 he (swO_ok ok.kd ok.hsc hw) rfl).imp fun D σ H ⟨S, F, am, h, r, q⟩ => ?_
  simp only [ex] at q
  refine ⟨S, F, am, h, r, (tE_tup r (SatS.st r q)).mono fun ds h1 F1 am1 H1 _ e1 s1 ⟨r1, q1⟩ vs k => ?_⟩
  cases hp : put S (.tup ds) (.tp (.cons (.nm i) (.cons (.nm j) .nil))) with
  | none => rw [hp] at q1; exact q1.elim
  | some S' =>
    rw [hp] at q1
    simp only [put, seqD, Option.bind_some] at hp
    cases k with
    | nil => simp [puts] at hp
    | cons k1 k =>
      cases k with
      | nil => simp only [puts] at hp; obtain ⟨S1, _, e2⟩ := bindS hp; cases e2
      | cons k2 k =>
        cases k with
        | cons _ _ => simp only [puts] at hp; obtain ⟨S1, _, e2⟩ := bindS hp; obtain ⟨S2, _, e3⟩ := bindS e2; cases e3
        | nil =>
          simp only [puts] at hp
          obtain ⟨S1, p1, e2⟩ := bindS hp
          obtain ⟨S2, p2, e3⟩ := bindS e2
          cases e3
          rw [put_nm p2, put_nm p1] at q1
          exact ⟨_, _, rfl, SatS.nxt q1 ((r1.set i k1).set j k2)⟩
theorem s_par3 {i j l : Nat} {x y w : Str} {ea eb ec : Expr} {a b c : E} {px py pw pt pt2 pos : Pos} {kt k2 : Nat} (ok : OkS z X N G sc false) (hw : swO sc (.Tuple [.Name x px, .Name y py, .Name w pw] kt pt) (.Tuple [ea, eb, ec] k2 pt2) = some (some [x, y, w])) (hx : pLoc N sc i x = true) (hy : pLoc N sc j y = true) (hz : pLoc N sc l w = true) (hij : i ≠ j) (hil : i ≠ l) (hjl : j ≠ l)
    (he : PA X [ea, eb, ec] (tEs z (.cons a (.cons b (.cons c .nil))))) : PS X (.Assign [.Tuple [.Name x px, .Name y py, .Name w pw] kt pt] (.Tuple [ea, eb, ec] k2 pt2) pos) (tS z (.asg (.tp (.cons (.nm i) (.cons (.nm j) (.cons (.nm l) .nil)))) (.tup (.cons a (.cons b (.cons c .nil)))))) := by
  obtain ⟨x1, x2⟩ := ploc_ok ok hx
  obtain ⟨y1, y2⟩ := ploc_ok ok hy
  obtain ⟨z1, z2⟩ := ploc_ok ok hz
  refine (ps_par3 (ok.calm rfl) (by rw [ok.hN]; exact ok.nd) x1 y1 z1 hij hil hjl x2 y2 z2 he (swO_ok ok.kd ok.hsc hw) rfl).imp fun D σ H ⟨S, F, am, h, r, q⟩ => ?_
  simp only [ex] at q
  refine ⟨S, F, am, h, r, (tE_tup r (SatS.st r q)).mono fun ds h1 F1 am1 H1 _ e1 s1 ⟨r1, q1⟩ vs k => ?_⟩
  cases hp : put S (.tup ds) (.tp (.cons (.nm i) (.cons (.nm j) (.cons (.nm l) .nil)))) with
  | none => rw [hp] at q1; exact q1.elim
  | some S' =>
    rw [hp] at q1
    simp only [put, seqD, Option.bind_some] at hp
    cases k with
    | nil => simp [puts] at hp
    | cons k1 k =>
      cases k with
      | nil => simp only [puts] at hp; obtain ⟨S1, _, e2⟩ := bindS hp; cases e2
      | cons k2 k =>
        cases k with
        | nil => simp only [puts] at hp; obtain ⟨S1, _, e2⟩ := bindS hp; obtain ⟨S2, _, e3⟩ := bindS e2; cases e3
        | cons k3 k =>
          cases k with
          | cons _ _ => simp only [puts] at hp; obtain ⟨S1, _, e2⟩ := bindS hp; obtain ⟨S2, _, e3⟩ := bindS e2; obtain ⟨S3, _, e4⟩ := bindS e3; cases e4
          | nil =>
            simp only [puts] at hp
            obtain ⟨S1, p1, e2⟩ := bindS hp
            obtain ⟨S2, p2, e3⟩ := bindS e2
            obtain ⟨S3, p3, e4⟩ := bindS e3
            cases e4
            rw [put_nm p3, put_nm p2, put_nm p1] at q1
            exact ⟨_, _, _, rfl, SatS.nxt q1 (((r1.set i k1).set j k2).set l k3)⟩
theorem sub_imp {a i : E} {σ : SV} {S : Sl} {F : Addr → Prop} {am : List Addr} {H : Hp} {h : Hs} {d : D} {v : V} {f : Hs → RS} {D : Ends} {Q : SV → Hp → Prop} (r1 : Rel z.rc F am H h S σ) (rv : RD z.rc F am H d v)
    (q1 : SatS z D F am H ((ev z.sub z.call a S h).st S fun o h2 => (ev z.sub z.call i S h2).st S fun k h3 => setK o k d h3 f))
    (k : ∀ F' am' H' h', Ext F am H F' am' H' → Rel z.rc F' am' H' h' S σ → SatS z D F' am' H' (f h') → Q σ H') : gSub (tE z a) (tE z i) (fun o i v H Q => rSetL o i v H Q ∨ rSetD o i v H Q) v σ H Q := by
  have s1 := r1.sto
  refine ⟨S, F, am, h, r1, (SatS.st r1 q1).mono fun o h2 F2 am2 H2 _ e2 s2 ⟨r2, q2⟩ u ru => ?_⟩
  refine ⟨S, F2, am2, h2, r2, (SatS.st r2 q2).mono fun kk h3 F3 am3 H3 _ e3 s3 ⟨r3, q3⟩ t rt => ?_⟩
  have rv := (rv.ext e2 s1.inF).ext e3 s2.inF
  have ru := ru.ext e3 s2.inF
  have e13 := e2.trans e3 s1.inF
  obtain ⟨n, rfl⟩ : ∃ n, o = .ref n := by cases o <;> first | exact ⟨_, rfl⟩ | exact q3.elim
  cases ru with
  | ref hn =>
    simp only [setK] at q3
    cases hh : h3[n]? with
    | none => rw [hh] at q3; exact q3.elim
    | some o =>
      cases o with
      | dct ds =>
        rw [hh] at q3
        simp only at q3
        obtain ⟨ws, g1, gk, g2⟩ := s3.obj _ _ _ hn hh
        cases hk : kyOf kk with
        | none => rw [hk] at q3; exact q3.elim
        | some ky =>
          rw [hk] at q3
          simp only at q3
          split at q3
          · rename_i hl
            have kv : RKv z.rc F3 am3 H3 ds ws := ⟨gk, g2⟩
            obtain ⟨e4, s4⟩ := s3.writeD hn (kv.put ky rv)
            refine .inr ⟨_, _, rfl, by rw [ky_rel rt hk]; exact DPut.k (k := ky) g1 (by rw [← kv.len]; exact hl), ?_⟩
            exact k _ _ _ _ (e13.trans e4 s1.inF) (r3.to e4 s4) (SatS.ext e4 s3.inF q3)
          · exact q3.elim
      | lst ds =>
        rw [hh] at q3
        simp only at q3
        obtain ⟨xs, g1, g2⟩ := s3.obj _ _ _ hn hh
        obtain ⟨j, rfl⟩ : ∃ j, kk = .int j := by cases kk <;> first | exact ⟨_, rfl⟩ | exact q3.elim
        cases rt
        simp only at q3
        unfold setD at q3
        rw [ixI_eq] at q3
        cases hk : ixN ds.length j with
        | none => rw [hk] at q3; exact q3.elim
        | some m =>
          rw [hk] at q3
          obtain ⟨e4, s4⟩ := s3.write hn (g2.set rv m)
          exact .inl ⟨_, xs, j, m, rfl, rfl, g1, by rw [← g2.length]; exact hk, k _ _ _ _ (e13.trans e4 s1.inF) (r3.to e4 s4) (SatS.ext e4 s3.inF q3)⟩
theorem s_set {a i e : E} {o ix v : Expr} {p pos : Pos} (hu : X.A.units + 1 < cLine) (hix : noSlice ix = true) (hn : noComp v = true) (ho : PE X o (tE z a)) (hi : PE X ix (tE z i)) (hv : PE X v (tE z e)) : PS X (.Assign [.Subscript o ix p] v pos) (tS z (.set a i e)) := by
  refine (ps_asg (tg := .Subscript o ix p) hv (pg_sub ho hi (set_both hu) (by intro u; cases ix <;> first | rfl | cases hix)) (noComp_ok hn (some (.Subscript o ix p)) pos.line X.env) rfl rfl).imp fun D σ H ⟨S, F, am, h, r, q⟩ => ?_
  simp only [ex] at q
  refine ⟨S, F, am, h, r, (SatS.st r q).mono fun w h1 F1 am1 H1 _ e1 s1 ⟨r1, q1⟩ v rv => ?_⟩
  exact sub_imp r1 rv q1 fun _ _ _ _ _ r4 q4 => SatS.nxt q4 r4
/-- a[i], b[j] = x, y -/
theorem s_set2 {a i b j e : E} {o ix o2 ix2 ea eb : Expr} {p p2 pt pt2 pos : Pos} {kt k2 : Nat} (ok : OkS z X N G sc false) (hu : X.A.units + 1 < cLine) (hw : swO sc (.Tuple [.Subscript o ix p, .Subscript o2 ix2 p2] kt pt) (.Tuple [ea, eb] k2 pt2) = some none) (hix : noSlice ix = true) (hix2 : noSlice ix2 = true)
    (ho : PE X o (tE z a)) (hi : PE X ix (tE z i)) (ho2 : PE X o2 (tE z b)) (hi2 : PE X ix2 (tE z j)) (hv : PE X (.Tuple [ea, eb] k2 pt2) (tE z e)) : PS X (.Assign [.Tuple [.Subscript o ix p, .Subscript o2 ix2 p2] kt pt] (.Tuple [ea, eb] k2 pt2) pos) (tS z (.set2 a i b j e)) := by
  have g1 := pg_sub (pos := p) ho hi (set_both hu) (by intro u; cases ix <;> first | rfl | cases hix)
  have g2 := pg_sub (pos := p2) ho2 hi2 (set_both hu) (by intro u; cases ix2 <;> first | rfl | cases hix2)
  refine (ps_asg hv (pg_tup (ok.calm rfl) (pgs_cons g1 (pgs_cons g2 pgs_nil))) rfl (swO_ok ok.kd ok.hsc hw) rfl).imp fun D σ H ⟨S, F, am, h, r, q⟩ => ?_
  simp only [ex] at q
  refine ⟨S, F, am, h, r, (SatS.st r q).mono fun d h1 F1 am1 H1 _ e1 s1 ⟨r1, q1⟩ v rv => ?_⟩
  split at q1
  · rename_i v1 w1
    cases rv with
    | tup g n kk =>
      cases kk with
      | cons ra kk =>
        cases kk with
        | cons rb kk =>
          cases kk
          refine ⟨_, _, rfl, SqT.of g, rfl, _, _, rfl, sub_imp r1 ra q1 fun F2 am2 H2 h2 e2 r2 q2 => ⟨_, _, rfl, sub_imp r2 (rb.ext e2 s1.inF) q2 fun _ _ _ _ _ r4 q4 => ⟨rfl, SatS.nxt q4 r4⟩⟩⟩
  · exact q1.elim
/-- x = y = e -/
theorem s_asg2 {i j : Nat} {x y : Str} {px py pos : Pos} {e : E} {v : Expr} (ok : OkS z X N G sc false) (hx : locB N sc i x = true) (hy : locB N sc j y = true) (hv : PE X v (tE z e)) : PS X (.Assign [.Name x px, .Name y py] v pos) (tS z (.asg2 i j e)) := by
  have go : ∀ {i : Nat} {x : Str} {p : Pos}, locB N sc i x = true → PG X (.Name x p) (tG z (.nm i)) := fun {i x p} h => g_ok (z := z) (P := fun _ => True) ⟨ok.hN, ok.nd, ok.hsc, ok.calm rfl, fun i y _ _ k => ok.fnc y k⟩ (.nm i) (.Name x p) h fun _ _ => trivial
  refine (ps_asg2 hv (go hx) (go hy) rfl rfl).imp fun D σ H ⟨S, F, am, h, r, q⟩ => ?_
  simp only [ex] at q
  refine ⟨S, F, am, h, r, (SatS.st r q).mono fun d h1 F1 am1 H1 _ e1 s1 ⟨r1, q1⟩ v rv => ?_⟩
  cases hp : put S d (.nm i) with
  | none => rw [hp] at q1; exact q1.elim
  | some S' =>
    rw [hp] at q1
    simp only at q1
    refine ⟨S, F1, am1, h1, d, S', r1, rv, hp, fun σ' r' _ => ?_⟩
    cases hp2 : put S' d (.nm j) with
    | none => rw [hp2] at q1; exact q1.elim
    | some S2 =>
      rw [hp2] at q1
      exact ⟨S', F1, am1, h1, d, S2, r', rv, hp2, fun σ2 r2 _ => SatS.nxt q1 r2⟩
/-- x = y = w = e -/
theorem s_asg3 {i j l : Nat} {x y w : Str} {px py pw pos : Pos} {e : E} {v : Expr} (ok : OkS z X N G sc false) (hx : locB N sc i x = true) (hy : locB N sc j y = true) (hl : locB N sc l w = true) (hv : PE X v (tE z e)) : PS X (.Assign [.Name x px, .Name y py, .Name w pw] v pos) (tS z (.asg3 i j l e)) := by
  have go : ∀ {i : Nat} {x : Str} {p : Pos}, locB N sc i x = true → PG X (.Name x p) (tG z (.nm i)) := fun {i x p} h => g_ok (z := z) (P := fun _ => True) ⟨ok.hN, ok.nd, ok.hsc, ok.calm rfl, fun i y _ _ k => ok.fnc y k⟩ (.nm i) (.Name x p) h fun _ _ => trivial
  refine (ps_asg3 hv (go hx) (go hy) (go hl) rfl rfl).imp fun D σ H ⟨S, F, am, h, r, q⟩ => ?_
  simp only [ex] at q
  refine ⟨S, F, am, h, r, (SatS.st r q).mono fun d h1 F1 am1 H1 _ e1 s1 ⟨r1, q1⟩ v rv => ?_⟩
  cases hp : put S d (.nm i) with
  | none => rw [hp] at q1; exact q1.elim
  | some S' =>
    rw [hp] at q1
    simp only at q1
    refine ⟨S, F1, am1, h1, d, S', r1, rv, hp, fun σ' r' _ => ?_⟩
    cases hp2 : put S' d (.nm j) with
    | none => rw [hp2] at q1; exact q1.elim
    | some S2 =>
      rw [hp2] at q1
      simp only at q1
      refine ⟨S', F1, am1, h1, d, S2, r', rv, hp2, fun σ2 r2 _ => ?_⟩
      cases hp3 : put S2 d (.nm l) with
      | none => rw [hp3] at q1; exact q1.elim
      | some S3 =>
        rw [hp3] at q1
        exact ⟨S2, F1, am1, h1, d, S3, r2, rv, hp3, fun σ3 r3 _ => SatS.nxt q1 r3⟩
theorem get_list : PGet X (fun o i H Q => ∃ p xs k z, o = .ref p ∧ i = .int k ∧ SqL X.K H p xs ∧ atI xs k = some z ∧ Q z H) := by
  intro pins s σ H o i ov iv Q I ro ri w
  obtain ⟨p, xs, k, z, rfl, rfl, hq, he, q⟩ := w
  cases ro
  obtain ⟨t, rfl⟩ := ri
  obtain ⟨its, r, pl, hz⟩ := I.list hq
  obtain ⟨j, a1, a2, a3, a4, a5⟩ := atI_get he
  obtain ⟨w, ew, rw'⟩ := r.get a2
  have hl := r.length
  have hn := line63
  by_cases h0 : 0 ≤ k
  · have hj : k.toNat = j := by
      rw [seqIndex_of h0 a5] at a1
      exact Option.some.inj a1
    exact wpAny_getItem_list (Q := EP X pins σ Q) pl.isList h0 (by omega) (by rw [hj]; simpa using ew) ⟨z, H, I, rw', q⟩
  · have hj : (k + (its.toArray.size : Int)).toNat = j := by
      rw [seqIndex_neg (by omega) a4] at a1
      rw [List.size_toArray, ← hl]
      exact Option.some.inj a1
    exact wpAny_getItem_list_neg (Q := EP X pins σ Q) pl.isList (by omega) (by rw [List.size_toArray] <;> omega) (by omega) (by rw [hj]; simpa using ew) ⟨z, H, I, rw', q⟩
theorem s_augx {a i e : E} {op : Operator} {o ix v : Expr} {p pos : Pos} (ho : op = .Add ∨ op = .Sub) (hix : noSlice ix = true) (h1 : PE X o (tE z a)) (h2 : PE X ix (tE z i)) (hv : PE X v (tE z e)) : PS X (.AugAssign (.Subscript o ix p) op v pos) (tS z (.augx a i op e)) := by
  have hst : ∀ ov iv new, augStore ix ov iv new = (do holding [new, ov, iv] (setItem ov iv new); release [new, ov, iv] []; pure .next) := by
    intro ov iv new
    cases ix <;> first | rfl | cases hix
  have key : ∀ {f : Int → Int → Int}, PIp X op (ipI f) → (∀ x y v, augV op x y = some v → ∃ j, y = .int j ∧ v = .int (f x j)) → PS X (.AugAssign (.Subscript o ix p) op v pos) (tS z (.augx a i op e)) := fun {f} hp hf => by
    refine (ps_augS h1 h2 get_list hv hp set_list hst).imp fun D σ H ⟨S, F, am, h, r, q⟩ => ?_
    simp only [ex] at q
    refine ⟨S, F, am, h, r, (SatS.st r q).mono fun d h1 F1 am1 H1 _ e1 s1 ⟨r1, q1⟩ vo ro => ?_⟩
    refine ⟨S, F1, am1, h1, r1, (SatS.st r1 q1).mono fun k h2 F2 am2 H2 _ e2 s2 ⟨r2, q2⟩ vk rk => ?_⟩
    have ko := rd_rel s2 (ro.ext e2 s1.inF)
    generalize rd h2 d = od at ko q2
    obtain ⟨xs, rfl⟩ : ∃ xs, od = .lst xs := by cases od <;> first | exact ⟨_, rfl⟩ | exact q2.elim
    obtain ⟨j, rfl⟩ : ∃ j, k = .int j := by cases k <;> first | exact ⟨_, rfl⟩ | exact q2.elim
    obtain ⟨b, ws, rfl, g1, k1⟩ := ko.list
    cases rk
    simp only at q2
    cases ha : atD xs j with
    | none => rw [ha] at q2; exact q2.elim
    | some w =>
      rw [ha] at q2
      obtain ⟨x, rfl⟩ : ∃ x, w = .int x := by cases w <;> first | exact ⟨_, rfl⟩ | exact q2.elim
      simp only at q2
      have hat : atI ws j = some (.int x) := by
        unfold atD at ha
        rw [ixI_eq] at ha
        cases e2 : ixN xs.length j with
        | none => rw [e2] at ha; cases ha
        | some n =>
          rw [e2, Option.bind_some] at ha
          obtain ⟨w', q1, q2⟩ := k1.get ha
          cases q2
          unfold atI
          rw [← k1.length, e2, Option.bind_some]
          exact q1
      refine ⟨b, ws, j, .int x, rfl, rfl, SqL.of g1, hat, S, F2, am2, h2, r2, (SatS.st r2 q2).mono fun y h3 F3 am3 H3 _ e3 s3 ⟨r3, q3⟩ vy ry => ?_⟩
      cases hv : augV op x y with
      | none => rw [hv] at q3; exact q3.elim
      | some nv =>
        rw [hv] at q3
        obtain ⟨j2, rfl, rfl⟩ := hf _ _ _ hv
        cases ry
        obtain ⟨n, rfl⟩ : ∃ n, d = .ref n := by cases d <;> first | exact ⟨_, rfl⟩ | exact q3.elim
        have ro := (ro.ext e2 s1.inF).ext e3 s2.inF
        cases ro with
        | ref hn =>
          refine ⟨x, j2, rfl, rfl, ?_⟩
          simp only [augO] at q3
          cases hh : h3[n]? with
          | none => rw [hh] at q3; exact q3.elim
          | some ob =>
            cases ob with
            | dct ds => rw [hh] at q3; exact q3.elim
            | lst ds =>
              rw [hh] at q3
              simp only at q3
              obtain ⟨zs, g3, g4⟩ := s3.obj _ _ _ hn hh
              unfold setD at q3
              rw [ixI_eq] at q3
              cases hk : ixN ds.length j with
              | none => rw [hk] at q3; exact q3.elim
              | some m =>
                rw [hk] at q3
                obtain ⟨e4, s4⟩ := s3.write hn (g4.set (.int (f x j2)) m)
                exact ⟨_, zs, j, m, rfl, rfl, g3, by rw [← g4.length]; exact hk, q3 F3 am3 _ σ e4 (r3.to e4 s4)⟩
  rcases ho with rfl | rfl
  · exact key ip_add fun x y v e => by
      cases y <;> simp only [augV, reduceCtorEq, Option.some.injEq] at e
      exact ⟨_, rfl, e.symm⟩
  · exact key ip_sub fun x y v e => by
      cases y <;> simp only [augV, reduceCtorEq, Option.some.injEq] at e
      exact ⟨_, rfl, e.symm⟩
theorem s_aug {i : Nat} {op : Operator} {e : E} {y : Str} {py pos : Pos} {v : Expr} (ok : OkS z X N G sc hot) (ho : op = .Add ∨ op = .Sub) (h : locB N sc i y = true) (hv : PE X v (tE z e)) : PS X (.AugAssign (.Name y py) op v pos) (tS z (.aug i op e)) := by
  obtain ⟨l1, l2, l3⟩ := loc_ok ok h
  have key : ∀ {f : Int → Int → Int}, PIp X op (ipI f) → (∀ (x y : Int) (S S' : Sl) (h : Hs), (match op, D.int y with | .Add, .int y => RS.nx (S.set i (some (.int (x + y)))) h | .Sub, .int y => .nx (S.set i (some (.int (x - y)))) h | _, _ => .bad) = .nx (S.set i (some (.int (f x y)))) h) →
      PS X (.AugAssign (.Name y py) op v pos) (tS z (.aug i op e)) := fun {f} hp hf =>
    (ps_aug (by rw [ok.hN]; exact ok.nd) l1 l2 hv hp l3).imp fun D σ H ⟨S, F, am, h, r, q⟩ => by
      simp only [ex] at q
      split at q
      · rename_i x hx
        obtain ⟨w, g1, g2⟩ := r.sl i _ hx
        cases g2
        refine ⟨_, g1, S, F, am, h, r, (SatS.st r q).mono fun d h1 F1 am1 H1 _ e1 s1 ⟨r1, q1⟩ v rv => ?_⟩
        obtain ⟨y, rfl⟩ : ∃ y, d = .int y := by cases d <;> first | exact ⟨_, rfl⟩ | (rcases ho with rfl | rfl <;> exact q1.elim)
        cases rv
        exact ⟨x, y, rfl, rfl, SatS.nxt (Eq.mp (congrArg (SatS z D F1 am1 H1) (hf x y S S h1)) q1) (r1.set i (.int _))⟩
      · exact q.elim
  rcases ho with rfl | rfl
  · exact key ip_add fun _ _ _ _ _ => rfl
  · exact key ip_sub fun _ _ _ _ _ => rfl
theorem s_ex {e : E} {v : Expr} {pos : Pos} (hn : noComp v = true) (hv : PE X v (tE z e)) : PS X (.Expr v pos) (tS z (.ex e)) :=
  (ps_expr hv (noComp_ok hn _ _ _)).imp fun D σ H ⟨S, F, am, h, r, q⟩ => by
    simp only [ex] at q
    exact ⟨S, F, am, h, r, (SatS.st r q).mono fun d h1 F1 am1 H1 _ e1 s1 ⟨r1, q1⟩ v rv => SatS.nxt q1 r1⟩
theorem s_ret {e : E} {v : Expr} {pos : Pos} (hv : PE X v (tE z e)) : PS X (.Return (some v) pos) (tS z (.ret e)) :=
  (ps_ret hv).imp fun D σ H ⟨S, F, am, h, r, q⟩ => by
    simp only [ex] at q
    exact ⟨S, F, am, h, r, (SatS.st r q).mono fun d h1 F1 am1 H1 _ e1 s1 ⟨r1, q1⟩ v rv => q1 F1 am1 H1 v .refl s1 rv⟩
theorem Rel.drop {F : Addr → Prop} {am : List Addr} {H : Hp} {h : Hs} {S : Sl} {σ : SV} {c : Rc} (r : Rel c F am H h S σ) (i : Nat) (x : Option V) : Rel c F am H h (S.set i none) (σ.set i x) := by
  refine ⟨r.sto, by simp [r.len], fun j d q => ?_⟩
  by_cases e : i = j
  · subst e
    rw [List.getElem?_set_self'] at q
    cases hS : S[i]? with
    | none => rw [hS] at q; cases q
    | some o => rw [hS] at q; cases q
  · rw [List.getElem?_set_ne e] at q ⊢
    exact r.sl j d q
theorem s_enr {i : Nat} {a elt : E} {own : List Nat} {tg : Tg} {cond : E} {y g y' : Str} {py p p2 pa tp pn d pr : Pos} {x el : Expr} {es : List Expr} {k : Nat} {ifs : List Expr} {sc' : Scope} (ok : OkS z X N G sc false) (hg : gl sc g = true) (hg2 : g = "enumerate") (hb : isTy G g "enumerate" = true) (hs : noStar x = true)
    (h : locB N sc i y = true) (hy : y' = y) (hv : vis sc y = true) (ha : PE X x (tE z a)) (hl : GoodL z X N (.ListComp el [⟨.Tuple es k tp, .Name y' pn, ifs, 0⟩] sc' d) (.comp elt own tg (.val (.var i)) cond)) :
    PSs X [.Assign [.Name y py] (.Call (.Name g p) [x] [] p2) pa, .Return (some (.ListComp el [⟨.Tuple es k tp, .Name y' pn, ifs, 0⟩] sc' d)) pr] (tS z (.enr i a elt own tg cond)) := by
  subst hg2 hy
  obtain ⟨l1, l2, l3⟩ := loc_ok ok h
  obtain ⟨v1, v2, v3⟩ := vis_ok ok.toOk hv
  obtain ⟨g1, g2, g3⟩ := gl_ok ok.toOk hg
  obtain ⟨t, it, ifs', el', own', tg', i2, cond', e1, P, _, e2⟩ := (hl.cp _ _ _ _ rfl).elim id (fun ⟨_, _, _, _, _, _, _, _, _, _, _, _, _, _, _, e, _⟩ => by simp at e)
  cases e1
  obtain ⟨rfl, rfl, rfl, rfl⟩ := e2 _ _ _ _ _ rfl
  have hA := ps_set (i := i) (pos' := py) (pos := pa) (by rw [ok.hN]; exact ok.nd) l1 l2 (pe_enV (p := p) (pos := p2) g1 (ty_at ok.toOk hb).1 (pa_cons ha pa_nil (star_ok hs)) (star_ok hs)) (noComp_ok rfl _ _ _) l3
  have hI : PI X (.Tuple es k tp) (.Name y' pn) (iEnV X (tVar i)) := pi_enV (pe_var l1 v1 v2 v3)
  have hp := pe_lc (own := own.filterMap fun k => N[k]?.map fun y => (y, k)) (pos := d) P.calm P.nd hI P.blk P.hg P.ht P.he (fold_ok rfl)
  rw [P.own2] at hp
  refine (pss_cons hA (pss_one (ps_ret (pos := pr) hp))).imp fun D σ H ⟨S, F, am, h, r, q⟩ => ?_
  simp only [ex] at q
  refine ⟨S, F, am, h, r, (SatS.st r q).mono fun b h1 F1 am1 H1 _ e1 s1 ⟨r1, q1⟩ v rv => ?_⟩
  cases b <;> first | exact q1.elim | skip
  cases rv with
  | lst g n kk =>
    by_cases hi : i < S.length
    rotate_left
    · simp only [hi, decide_false, Bool.false_eq_true, if_false] at q1
      exact q1.elim
    simp only [hi, decide_true, if_true] at q1
    have hi2 : i < σ.length := by rw [← r1.len]; exact hi
    refine ⟨_, _, rfl, SqL.of g, fun e it he hit hne me mi => ?_⟩
    have hd : ∀ (o1 o2 : HO), delH (delH (upd (upd H1 it o1) e o2) e) it = H1 := fun o1 o2 => by
      rw [delH_new (by rw [upd_ne hne]; exact he), delH_new hit]
    refine ⟨.ref e, ?_, e, it, _, _, rfl, upd_same, by rw [upd_ne (Ne.symm hne)]; exact upd_same, hne, me, mi, SqL.of ((upd_ne (ne_of_none g he)).trans ((upd_ne (ne_of_none g hit)).trans g)), ?_⟩
    · exact List.getElem?_set_self hi2
    · rw [hd]
      intro p hp
      have r2 : Rel z.rc F1 am1 H1 h1 (S.set i none) (σ.set i (some (.ref e))) := r1.drop i _
      simp only [ev] at q1
      have q2 := il_of (Q := D.rt) s1 ((SatS.st r2 q1).mono fun d h2 F2 am2 H2 _ e2 s2 ⟨r3, q3⟩ v rv => q3 F2 am2 H2 v .refl s2 rv)
      simp only [evL, evI, ev, seqD, liftO, Option.map] at q2
      exact lc_at (src := .fix (enumD 0 _)) P.hown r2 (wk_enum s1.inF kk (keepL s1.inF g n)) q2 p hp
theorem s_if {c : E} {s t : Ci.St} {x : Expr} {a b : List Stmt} {pos : Pos} (hc : PT X x (tB z c)) (ha : PSs X a (tS z s)) (hb : PSs X b (tS z t)) : PS X (.If x a b pos) (tS z (.ife c s t)) :=
  (ps_if hc ha hb).imp fun D σ H ⟨S, F, am, h, r, q⟩ => by
    simp only [ex] at q
    refine ⟨S, F, am, h, r, (SatS.st r q).mono fun k h1 F1 am1 H1 _ e1 s1 ⟨r1, q1⟩ => ?_⟩
    cases k with
    | true => exact ⟨S, F1, am1, h1, r1, q1⟩
    | false => exact ⟨S, F1, am1, h1, r1, q1⟩
theorem s_while {c : E} {s : Ci.St} {x : Expr} {body : List Stmt} {pos : Pos} (po : PassesOwn (model X.prog X.w) X.A X.env X.xe) (hc : PT X x (tB z c)) (hb : PSs X body (tS z s)) : PS X (.While x body [] pos) (tS z (.whl c s)) :=
  (ps_while po hc hb).imp fun D σ H ⟨S, F, am, h, r, q⟩ => by
    simp only [ex] at q
    refine ⟨fun m σ' H' => ∃ S F am h, Rel z.rc F am H' h S σ' ∧ SatS z D F am H' (whlF (tst z.sub z.call c) (ex z.sub z.call s) m S h), ⟨_, S, F, am, h, r, q⟩, fun m σ1 H1 ⟨S1, F1, am1, h1, r1, q1⟩ => ?_⟩
    cases m with
    | zero => exact q1.elim
    | succ m =>
      unfold whlF at q1
      refine ⟨S1, F1, am1, h1, r1, (SatS.st r1 q1).mono fun k h2 F2 am2 H2 _ e2 s2 ⟨r2, q2⟩ => ?_⟩
      cases k with
      | false => exact SatS.nxt q2 r2
      | true => exact ⟨fun σ3 H3 => ∃ S F am h, Rel z.rc F am H3 h S σ3 ∧ SatS z D F am H3 (whlF (tst z.sub z.call c) (ex z.sub z.call s) m S h), fun σ3 H3 w => ⟨m, Nat.lt_succ_self _, w⟩, S1, F2, am2, h2, r2,
          SatS.turn s2.inF q2 fun F' am' H' S' h' σ' _ r' q' => ⟨S', F', am', h', r', q'⟩⟩
theorem s_for {t : Tg} {it : It} {s : Ci.St} {tg x : Expr} {body : List Stmt} {pos : Pos} (po : PassesOwn (model X.prog X.w) X.A X.env X.xe) (hc : X.calm = true) (hns : noSet x = true) (hi : PI X tg x (tI z it)) (hg : PG X tg (tG z t)) (hb : PSs X body (tS z s)) : PS X (.For tg x body [] pos) (tS z (.for_ t it s)) :=
  (ps_for po hc hi hg hb (fold_ok hns)).imp fun D σ H ⟨S, F, am, h, r, q⟩ => by
    simp only [ex] at q
    refine ⟨S, F, am, h, r, (SatS.st r q).mono fun src h1 F1 am1 H1 _ e1 s1 ⟨r1, q1⟩ J w => ?_⟩
    generalize hturn : (fun (x : Ci.D) (S : Sl) (h : Hs) => match put S x t with
      | some S' => ex z.sub z.call s S' h
      | none => RS.bad) = turn at q1
    have q2 : ∃ k, SatS z D F1 am1 H1 (forG turn src k 0 S h1) := by
      cases src with
      | fix xs =>
        refine ⟨xs.length + 1, ?_⟩
        rw [← forF_G turn xs (xs.length + 1) 0 S h1 (by omega) (Nat.zero_le _)]
        exact q1
      | dyn n => exact ⟨wfuel, q1⟩
      | enm n => exact ⟨wfuel, q1⟩
    obtain ⟨k0, q2⟩ := q2
    refine ⟨fun i m σ' H' => ∃ F am h S, Ext F1 am1 H1 F am H' ∧ Rel z.rc F am H' h S σ' ∧ SatS z D F am H' (forG turn src m i S h), ⟨k0, F1, am1, h1, S, .refl, r1, q2⟩, fun i m σ2 H2 ⟨F2, am2, h2, S2, e2, r2, q3⟩ => ?_⟩
    cases m with
    | zero => exact q3.elim
    | succ m =>
      unfold forG at q3
      obtain ⟨w1, w2⟩ := w F2 am2 H2 h2 e2 r2.sto i
      cases hi : itm src h2 i with
      | none =>
        rw [hi] at q3
        have q3 : SatS z D F2 am2 H2 (if srcOk src h2 = true then RS.nx S2 h2 else RS.bad) := q3
        cases hb : srcOk src h2 with
        | false => rw [hb] at q3; exact q3.elim
        | true =>
          rw [hb] at q3
          exact .inl ⟨w2 hi hb, SatS.nxt q3 r2⟩
      | some d =>
        rw [hi] at q3
        obtain ⟨g1, g2⟩ := w1 d hi
        refine .inr ⟨g1, fun σ3 H3 => ∃ F am h S, Ext F1 am1 H1 F am H3 ∧ Rel z.rc F am H3 h S σ3 ∧ SatS z D F am H3 (forG turn src m (i + 1) S h), fun σ3 H3 w => ⟨m, Nat.lt_succ_self _, w⟩, fun v H3 y => ?_⟩
        obtain ⟨F3, am3, e3, s3, rd⟩ := g2 v H3 y
        have r3 := r2.to e3 s3
        have q4 := SatS.ext e3 r2.sto.inF q3
        have q5 : SatS z { D with nx := fun σ3 H3 => ∃ F am h S, Ext F1 am1 H1 F am H3 ∧ Rel z.rc F am H3 h S σ3 ∧ SatS z D F am H3 (forG turn src m (i + 1) S h), ct := fun σ3 H3 => ∃ F am h S, Ext F1 am1 H1 F am H3 ∧ Rel z.rc F am H3 h S σ3 ∧ SatS z D F am H3 (forG turn src m (i + 1) S h), bk := D.nx } F3 am3 H3 (turn d S2 h2) :=
          SatS.turn s3.inF q4 fun F' am' H' S' h' σ' e' r' q' => ⟨F', am', h', S', (e2.trans e3 s1.inF).trans e' s1.inF, r', q'⟩
        rw [← hturn] at q5
        simp only at q5
        cases hp : put S2 d t with
        | none => rw [hp] at q5; exact q5.elim
        | some S3 =>
          rw [hp] at q5
          exact ⟨S2, F3, am3, h2, d, S3, r3, rd, hp, fun σ' r' _ => ⟨S3, F3, am3, h2, r', by rw [hturn] at *; exact q5⟩⟩
end
end Ci

set_option Elab.async false
set_option linter.all false
set_option maxRecDepth 100000
set_option maxHeartbeats 8000000
namespace Ci
open PySem PySem.Spec PyProof.Rows L2
section
variable {z : Si} {X : Cx} {N : List Str} {G : GT} {sc : Scope} {hot : Bool}
theorem scal_V {d : Ci.D} (h : d.scal = true) : ∃ w, scV d = some w := by
  cases d <;> first | exact ⟨_, rfl⟩ | (simp [D.scal] at h)
theorem s_rais {c : Nat} {e : E} {y : Str} {x : Expr} {p p2 pos : Pos} (ok : OkS z X N G sc false) (hg : gl sc y = true) (he : isErr G y c = true) (hs : noStar x = true) (hx : PE X x (tE z e)) : PS X (.Raise (some (.Call (.Name y p) [x] [] p2)) none pos) (tS z (.rais c e)) := by
  obtain ⟨g1, g2, g3⟩ := gl_ok ok.toOk hg
  obtain ⟨C, c1, c2, T⟩ := err_at ok.toOk he
  refine (L2N.ps_raise (ok.calm rfl) ok.tk (pmk_err T c2 ok.su (by have := ok.dp; omega) (pa_cons hx pa_nil (star_ok hs)) g1 g2 (star_ok hs))).imp fun D σ H ⟨S, F, am, h, r, q⟩ => ?_
  simp only [ex] at q
  refine ⟨S, F, am, h, r, (SatS.st r q).mono fun d h1 F1 am1 H1 _ e1 s1 ⟨r1, q1⟩ v rv => ?_⟩
  refine ⟨v, rfl, fun dd hd => ?_⟩
  split at q1
  · rename_i hsc
    obtain ⟨w, hw⟩ := scal_V hsc
    cases rv.sc hw
    obtain ⟨e2, s2, n2⟩ := s1.laid hd (.xd [(z.fld c, v)])
    exact q1 F1 am1 _ σ C dd v e2 (r1.to e2 s2) c1 hw upd_same n2
  · exact q1.elim
/-- what a suite wants -/
def tsX (z : Si) (t : Ci.St) : Addr → Value → Option Addr → TS := fun a cls d D σ H => ∃ (x : Hx) (C : Addr), x.a = a ∧ d = some x.d ∧ z.ca x.c = some C ∧ cls = .ref C ∧ x.f = z.fld x.c ∧ tS { z with rc := z.rc.with x, W := fun _ _ _ _ => False } t D σ H
theorem mark_h {A : Around} {a : Addr} : (A.mark (some (.ref a))).handled = some (.ref a) := rfl
theorem s_suite {f j : Nat} {w n : Str} {p1 p2 p3 p4 : Pos} (ok : OkS z X N G sc false) (hw : gl sc w = true) (hf : isWd G w f = true) (hj : N[j]? = some n) (hv : vis sc n = true) (a : Addr) (oe : Obj) (cls : Value) (d : Option Addr) (pn : List (Addr × Obj)) (hz : L2N.Zn cls d oe) (hvs : ∃ vs, oe.data = .fields vs) :
    PSs (X.suite a ((a, oe) :: pn)) [.Return (some (.Call (.Name w p1) [.Name n p2] [] p3)) p4] (tsX z (.ret (.call f (.cons (.var j) .nil))) a cls d) := by
  refine ⟨fun pins s σ H D I ⟨x, C, xa, xd, xc, xC, xf, q⟩ => ?_⟩
  obtain ⟨g1, g2, g3⟩ := gl_ok ok.toOk hw
  obtain ⟨fa, hm, hk, fd, ps, k, FO, hr, hb⟩ := ok.wd rfl w f (wd_at hf)
  obtain ⟨v1, v2, v3⟩ := vis_ok ok.toOk hv
  obtain ⟨fv, hfv⟩ := hvs
  have hot : L2H.Hot1 (X.suite a ((a, oe) :: pn)).A (a, oe) := ⟨mark_h, fv, hfv, hz.2.2 fv hfv⟩
  have room : L2H.RoomH k (X.suite a ((a, oe) :: pn)).A := ⟨hr.dp, hr.un⟩
  have pv : PE (X.suite a ((a, oe) :: pn)) (.Name n p2) (tVar j) := pe_var (i := j) (by show X.N[j]? = some n; rw [ok.hN]; exact hj) v1 v2 v3
  have tk : L2N.Takes (X.suite a ((a, oe) :: pn)) (fun _ _ _ _ => False) := fun u s' ⟨a, B, sI, pins, σ, H, cls, d, e, I, nb, up, sky, na, os, ag, w⟩ => w.elim
  refine (pss_one (ps_ret (pe_callX (X := X.suite a ((a, oe) :: pn)) (E := WE fun _ _ _ _ => False) FO room hot List.mem_cons_self g1 hm hk hb (fun σ => L2N.passAt tk σ) (pa_cons pv pa_nil (star_ok (x := .Name n p2) rfl)) g2 (star_ok (x := .Name n p2) rfl) rfl))).run pins s σ H D I ?_
  obtain ⟨S, F, am, h, r, q⟩ := q
  simp only [ex] at q
  have q1 := SatS.st r q
  simp only [ev, evs] at q1
  cases e : S[j]? with
  | none => rw [e] at q1; exact q1.elim
  | some o =>
    rw [e] at q1
    cases o with
    | none => exact q1.elim
    | some dd =>
      obtain ⟨v, h1, h2⟩ := r.sl j dd e
      refine ⟨v, h1, ?_⟩
      refine ⟨F, am, h, x, [dd], C, xa, xc, ⟨by rw [hz.1, xC], by rw [hz.2.1, xd]⟩, ⟨fv, hfv⟩, xf, r.sto, .cons h2 .nil, ?_⟩
      have q2 : SatR { z with rc := z.rc.with x, W := fun _ _ _ _ => False } σ F am H (z.call f [dd] h) (fun a h1 F1 am1 H1 => Rel (z.rc.with x) F1 am1 H1 h1 S σ ∧ SatS { z with rc := z.rc.with x, W := fun _ _ _ _ => False } D F1 am1 H1 (.rt a h1)) := q1
      generalize z.call f [dd] h = r2 at q2 ⊢
      cases r2 with
      | ok d2 h2 => exact fun F' am' H' e' s' v' rv' => (q2 F' am' H' e' s').2 F' am' H' v' .refl s' rv'
      | exc c v h => exact fun F' am' H' C dd w e s h1 h2 h3 h4 => q2 F' am' H' C dd w e s h1 h2 h3 h4
      | bad => exact q2
theorem s_try {s : Ci.St} {c i f : Nat} {y n w : Str} {np p1 p2 p3 p4 p5 pos : Pos} {body : List Stmt} (ok : OkS z X N G sc false) (hg : gl sc y = true) (hc : isCls G y c = true) (hi : pLoc N sc i n = true) (hw : gl sc w = true) (hf : isWd G w f = true) (hv : vis sc n = true)
    (hb : ∀ (W : WX) (pn : List (Addr × Obj)) (xe : Value → Shared → Prop), L2N.Takes (X.tr pn xe) W → PassesOwn (model X.prog X.w) X.A X.env xe → PSs (X.tr pn xe) body (tS { z with W := W } s)) :
    PS X (.Try body [.ExceptHandler (some (.Name y np)) (some n) [.Return (some (.Call (.Name w p1) [.Name n p2] [] p3)) p4] p5] [] [] pos) (tS z (.try_ s c i (.ret (.call f (.cons (.var i) .nil))))) := by
  obtain ⟨g1, g2, g3⟩ := gl_ok ok.toOk hg
  obtain ⟨C0, c1, c2⟩ := cls_at ok.toOk hc
  obtain ⟨i1, i2⟩ := ploc_ok ok hi
  have hin : N[i]? = some n := by rw [← ok.hN]; exact i1
  refine (L2N.ps_try_as (c := .ref C0) (i := i) (tb := fun W => tS { z with W := W } s) (ts := tsX z (.ret (.call f (.cons (.var i) .nil)))) (Wout := z.W) (ok.stk rfl) (ok.frm rfl) (by rw [ok.hN]; exact ok.nd) i1 i2 ⟨g1, g2, .inl c2⟩ ok.tk hb (s_suite ok hw hf hin hv)).imp fun D σ H ⟨S, F, am, h, r, q⟩ => ?_
  have hx0 := (ok.cf rfl).1
  have em := ok.cls.em
  rw [← ok.hK] at em
  refine ⟨S, F, am, h, r, ?_⟩
  unfold ex at q
  show SatS _ D F am H (ex z.sub z.call s S h)
  generalize ex z.sub z.call s S h = r1 at q ⊢
  cases r1 with
  | nx S1 h1 => exact q
  | rt d h1 => exact q
  | bk S1 h1 => exact q
  | ct S1 h1 => exact q
  | bad => exact q
  | exc e v S1 h1 =>
    intro F' am' H' σ' C dd w' e1 r1 k1 k2 k3 k4
    refine ⟨z.sub e c, em e C c C0 k1 c1, fun hs a na => ?_, fun hs => ?_⟩
    · simp only at q
      rw [hs, if_pos rfl] at q
      have q' := SatS.ext e1 r.sto.inF q
      refine ⟨⟨a, e, dd, z.fld e⟩, C, rfl, rfl, k1, rfl, rfl, S1.set i (some (.exc e v)), F', am', h1, (r1.toX hx0).set i (.exc (x := ⟨a, e, dd, z.fld e⟩) rfl k2 k3 k4), ?_⟩
      show SatS _ _ F' am' H' (ex z.sub z.call _ _ h1)
      generalize ex z.sub z.call (St.ret (E.call f (Es.cons (E.var i) Es.nil))) (S1.set i (some (.exc e v))) h1 = r2 at q' ⊢
      cases r2 with
      | rt d h2 =>
        simp only at q'
        split at q'
        · rename_i hc
          simp only [Bool.and_eq_true] at hc
          exact fun F2 am2 H2 v2 e2 s2 rv2 => q' F2 am2 H2 v2 e2 (s2.unX hc.2) (rv2.unX hc.1)
        · exact q'.elim
      | nx S1 h1 => exact q'.elim
      | bk S1 h1 => exact q'.elim
      | ct S1 h1 => exact q'.elim
      | exc c v S h => exact q'.elim
      | bad => exact q'.elim
    · simp only at q
      rw [hs, if_neg Bool.false_ne_true] at q
      exact q F' am' H' σ' C dd w' e1 r1 k1 k2 k3 k4
/-- a block does as the evaluator says -/
structure GoodS (z : Si) (X : Cx) (xs : List Stmt) (st : Ci.St) : Prop where
  pss : PSs X xs (tS z st)
  ps : ∀ x, xs = [x] → PS X x (tS z st)
theorem good_one {x : Stmt} {st : Ci.St} (h : PS X x (tS z st)) : GoodS z X [x] st := ⟨pss_one h, fun y e => by cases e; exact h⟩
theorem OkS.tr (ok : OkS z X N G sc false) (W : WX) (pn : List (Addr × Obj)) (xe : Value → Shared → Prop) (tk : L2N.Takes (X.tr pn xe) W) (po : PassesOwn (model X.prog X.w) X.A X.env xe) : OkS { z with W := W } (X.tr pn xe) N G sc false where
  hK := ok.hK
  hrK := ok.hrK
  hN := ok.hN
  nd := ok.nd
  hsc := ok.hsc
  calm := ok.calm
  un := ok.un
  tk := tk
  g := ok.g
  dp := ok.dp
  su := ok.su
  hx := fun x e => by
    have e : z.rc.hx = some x := e
    rw [(ok.cf rfl).1] at e; cases e
  cf := ok.cf
  po := po
  fnc := ok.fnc
  kd := ok.kd
  stk := ok.stk
  frm := ok.frm
  wd := ok.wd
  cls := ⟨ok.cls.cl, ok.cls.k, ok.cls.em, ok.cls.fl⟩
theorem st_ok (n : Nat) : ∀ (st : Ci.St) (z : Si) (X : Cx) (sc : Scope) (hot : Bool) (xs : List Stmt), sizeOf st < n → OkS z X N G sc hot → chkB N G hot sc st xs = true → GoodS z X xs st := by
  induction n with
  | zero => exact fun _ _ _ _ _ _ h => absurd h (Nat.not_lt_zero _)
  | succ n ih =>
    intro st z X sc hot xs hs ok h
    unfold chkB at h
    split at h <;> (try simp only [St.seq.sizeOf_spec, St.ife.sizeOf_spec, St.for_.sizeOf_spec, St.whl.sizeOf_spec, St.try_.sizeOf_spec] at hs)
    · -- nothing
      refine ⟨pss_nil.imp fun D σ H ⟨S, F, am, h, r, q⟩ => ?_, fun x e => (nomatch e)⟩
      simp only [ex] at q
      exact SatS.nxt q r
    · -- one, then more
      rename_i s t x y xs
      simp only [Bool.and_eq_true] at h
      have g1 := ih s z X sc hot _ (by omega) ok h.1
      have g2 := ih t z X sc hot _ (by omega) ok h.2
      refine ⟨(pss_cons (g1.ps x rfl) g2.pss).imp fun D σ H ⟨S, F, am, h, r, q⟩ => ?_, fun x e => (nomatch e)⟩
      simp only [ex] at q
      exact ⟨S, F, am, h, r, SatS.seq q r.sto.inF⟩
    · -- target = value
      rename_i t e tg v p
      refine good_one ?_
      unfold asgB at h
      split at h
      · rename_i i y py
        simp only [Bool.and_eq_true] at h
        obtain ⟨h1, h2⟩ := h
        split at h2
        · rename_i a b c d
          split at h2
          · rename_i hsw
            simp only [Bool.and_eq_true, Bool.not_eq_true'] at h2
            obtain ⟨rfl, h3⟩ := h2
            split at h3
            · exact s_lc ok h1 hsw (lOk ok.toOk h3) fun r q => il_of r.sto (by simpa only [ev] using q)
            · exact s_lc ok h1 hsw (lOk ok.toOk h3) fun r q => ml_of r.sto (by simpa only [ev] using q)
            · cases h3
          · rename_i hsw
            exact s_nm ok h1 (eOk ok.toOk h2).pe (swC_no ok.kd ok.hsc (.inr ⟨_, _, _, _, rfl⟩) (by simpa using hsw))
        · split at h2
          · rename_i hsw
            simp only [Bool.and_eq_true, Bool.not_eq_true'] at h2
            obtain ⟨⟨rfl, h3⟩, h4⟩ := h2
            exact s_dc ok h1 hsw h3 h4
          · rename_i hsw
            refine s_nm ok h1 (eOk ok.toOk h2).pe ?_
            rw [swD_is ok.kd ok.hsc, Bool.eq_false_iff.mpr hsw]
        · rename_i v' hv'
          simp only [Bool.and_eq_true] at h2
          exact s_nm ok h1 (eOk ok.toOk h2.2).pe (noComp_ok h2.1 _ _ _)
      · simp only [Bool.and_eq_true, Bool.or_eq_true, Bool.not_eq_true', beq_iff_eq] at h
        obtain ⟨rfl, h⟩ := h
        rcases h with h | h
        · unfold parB at h
          split at h
          · simp only [Bool.and_eq_true, Bool.not_eq_true', beq_iff_eq, beq_eq_false_iff_ne] at h
            obtain ⟨⟨⟨⟨h1, h2⟩, h3⟩, h4⟩, h5⟩ := h
            exact s_par2 ok h1 h2 h3 h4 (esOk ok.toOk h5)
          · simp only [Bool.and_eq_true, Bool.not_eq_true', beq_iff_eq, beq_eq_false_iff_ne] at h
            obtain ⟨⟨⟨⟨⟨⟨⟨h1, h2⟩, h3⟩, h4⟩, h5⟩, h6⟩, h7⟩, h8⟩ := h
            exact s_par3 ok h1 h2 h3 h4 h5 h6 h7 (esOk ok.toOk h8)
          · cases h
        · obtain ⟨⟨⟨h1, h2⟩, h3⟩, h4⟩ := h
          exact s_gen ok h1 h2 h3 (eOk ok.toOk h4).pe
    · simp only [Bool.and_eq_true] at h
      obtain ⟨⟨⟨⟨h1, h2⟩, h3⟩, h4⟩, h5⟩ := h
      exact good_one (s_set (by have := ok.toOk.un; omega) h1 h2 (eOk ok.toOk h3).pe (eOk ok.toOk h4).pe (eOk ok.toOk h5).pe)
    · simp only [Bool.and_eq_true, Bool.not_eq_true', beq_iff_eq] at h
      obtain ⟨⟨⟨⟨⟨⟨⟨⟨rfl, h1⟩, h2⟩, h3⟩, h4⟩, h5⟩, h6⟩, h7⟩, h8⟩ := h
      exact good_one (s_set2 ok (by have := ok.toOk.un; omega) h1 h2 h3 (eOk ok.toOk h4).pe (eOk ok.toOk h5).pe (eOk ok.toOk h6).pe (eOk ok.toOk h7).pe (eOk ok.toOk h8).pe)
    · simp only [Bool.and_eq_true, Bool.not_eq_true'] at h
      obtain ⟨⟨⟨rfl, h1⟩, h2⟩, h3⟩ := h
      exact good_one (s_asg2 ok h1 h2 (eOk ok.toOk h3).pe)
    · simp only [Bool.and_eq_true, Bool.not_eq_true'] at h
      obtain ⟨⟨⟨⟨rfl, h1⟩, h2⟩, h3⟩, h4⟩ := h
      exact good_one (s_asg3 ok h1 h2 h3 (eOk ok.toOk h4).pe)
    · simp only [Bool.and_eq_true, Bool.or_eq_true, beq_iff_eq] at h
      obtain ⟨⟨⟨rfl, h2⟩, h3⟩, h4⟩ := h
      exact good_one (s_aug ok h2 h3 (eOk ok.toOk h4).pe)
    · simp only [Bool.and_eq_true, Bool.or_eq_true, beq_iff_eq] at h
      obtain ⟨⟨⟨⟨⟨rfl, h2⟩, h3⟩, h4⟩, h5⟩, h6⟩ := h
      exact good_one (s_augx h2 h3 (eOk ok.toOk h4).pe (eOk ok.toOk h5).pe (eOk ok.toOk h6).pe)
    · simp only [Bool.and_eq_true] at h
      exact good_one (s_ex h.1 (eOk ok.toOk h.2).pe)
    · exact good_one (ps_doc.imp fun D σ H ⟨S, F, am, h, r, q⟩ => by simp only [ex] at q; exact SatS.nxt q r)
    · exact good_one (ps_pass.imp fun D σ H ⟨S, F, am, h, r, q⟩ => by simp only [ex] at q; exact SatS.nxt q r)
    · exact good_one (s_ret (eOk ok.toOk h).pe)
    · exact good_one (ps_retN.imp fun D σ H ⟨S, F, am, h, r, q⟩ => by simp only [ex] at q; exact q F am H .non .refl r.sto .non)
    · simp only [Bool.and_eq_true] at h
      obtain ⟨⟨⟨h1, h2⟩, h3⟩, h4⟩ := h
      exact good_one (s_if ((eOk ok.toOk h1).pt 30 h2) (ih _ z X sc hot _ (by omega) ok h3).pss (ih _ z X sc hot _ (by omega) ok h4).pss)
    · simp only [Bool.and_eq_true, Bool.not_eq_true'] at h
      obtain ⟨⟨⟨⟨rfl, h2⟩, h3⟩, h4⟩, h5⟩ := h
      exact good_one (s_for ok.po (ok.calm rfl) h2 (iOk ok.toOk h3) (g_ok (P := fun _ => True) ⟨ok.hN, ok.nd, ok.hsc, ok.calm rfl, fun i y _ _ k => ok.fnc y k⟩ _ _ h4 fun _ _ => trivial) (ih _ z X sc _ _ (by omega) ok h5).pss)
    · simp only [Bool.and_eq_true] at h
      obtain ⟨⟨h1, h2⟩, h3⟩ := h
      exact good_one (s_while ok.po ((eOk ok.toOk h1).pt 30 h2) (ih _ z X sc hot _ (by omega) ok h3).pss)
    · simp only [Bool.and_eq_true, Bool.not_eq_true'] at h
      obtain ⟨⟨⟨⟨rfl, h2⟩, h3⟩, h4⟩, h5⟩ := h
      exact good_one (s_rais ok h2 h3 h4 (eOk ok.toOk h5).pe)
    · simp only [Bool.and_eq_true, Bool.not_eq_true', beq_iff_eq] at h
      obtain ⟨⟨⟨⟨⟨⟨⟨⟨⟨rfl, h2⟩, h3⟩, h4⟩, h5⟩, h6⟩, rfl⟩, rfl⟩, h9⟩, h10⟩ := h
      exact good_one (s_try ok h2 h3 h4 h5 h6 h9 fun W pn xe tk po => (ih _ { z with W := W } (X.tr pn xe) sc false _ (by omega) (ok.tr W pn xe tk po) h10).pss)
    · exact good_one (ps_break.imp fun D σ H ⟨S, F, am, h, r, q⟩ => by simp only [ex] at q; exact q F am H σ .refl r)
    · exact good_one (ps_continue.imp fun D σ H ⟨S, F, am, h, r, q⟩ => by simp only [ex] at q; exact q F am H σ .refl r)
    · exact good_one ⟨fun pins s σ H D I ⟨S, F, am, h, r, q⟩ => by simp only [ex] at q; exact q.elim⟩
    · simp only [Bool.and_eq_true, Bool.not_eq_true', beq_iff_eq] at h
      obtain ⟨⟨⟨⟨⟨⟨⟨⟨⟨rfl, h1⟩, h2⟩, h3⟩, h4⟩, h5⟩, h6⟩, h7⟩, h8⟩, h9⟩ := h
      exact ⟨s_enr ok h2 h1 h3 h4 h5 h6 h7 (eOk ok.toOk h8).pe (lOk ok.toOk h9), fun _ e => nomatch e⟩
    · cases h
theorem stOk {st : Ci.St} {xs : List Stmt} (ok : OkS z X N G sc hot) (h : chkB N G hot sc st xs = true) : PSs X xs (tS z st) := (st_ok (sizeOf st + 1) st z X sc hot xs (Nat.lt_succ_self _) ok h).pss
end
end Ci

set_option Elab.async false
set_option linter.all false
set_option maxRecDepth 100000
set_option maxHeartbeats 8000000
namespace Ci
open PySem PySem.Spec PyProof.Rows L2
open PySem.W (Frag nsIn findIn alongIn typeIn subIn mroIn hasDictIn keepIn kitOne exmOne specialIn takesIn codeIn clsIn ksFn)
/-! ### the module -/
theorem lk_zip : ∀ {ps : List Str} {us : List Value}, ps.Nodup → us.length = ps.length → ∀ p ∈ ps, ((ps.zip us).lookup p).isSome = true
  | p :: ps, u :: us, nd, hl, q, hq => by
    rw [List.zip_cons_cons, List.lookup_cons]
    cases e : q == p with
    | true => rfl
    | false =>
      simp only
      refine lk_zip (List.nodup_cons.mp nd).2 (by simpa using hl) q ?_
      rcases List.mem_cons.mp hq with r | r
      · rw [r, beq_self_eq_true] at e; cases e
      · exact r
theorem fm_zip : ∀ {ps : List Str} {us : List Value} {f : Str → Option (Str × Value)}, ps.Nodup → us.length = ps.length → (∀ p ∈ ps, f p = ((ps.zip us).lookup p).map (p, ·)) → ps.filterMap f = ps.zip us
  | [], [], f, _, _, _ => rfl
  | p :: ps, u :: us, f, nd, hl, h => by
    have h0 := h p List.mem_cons_self
    rw [List.zip_cons_cons, List.lookup_cons, beq_self_eq_true] at h0
    rw [List.filterMap_cons, h0]
    simp only [Option.map_some, List.zip_cons_cons]
    rw [fm_zip (List.nodup_cons.mp nd).2 (by simpa using hl) fun q hq => ?_]
    rw [h q (List.mem_cons_of_mem _ hq), List.zip_cons_cons, List.lookup_cons]
    have e : (q == p) = false := by rw [beq_eq_false_iff_ne]; exact fun e => (List.nodup_cons.mp nd).1 (e ▸ hq)
    rw [e]
theorem bind_plain {fd : FuncData} {us : List Value} (h1 : fd.params.posonlyargs = []) (h2 : fd.params.vararg.isNone = true) (h3 : fd.params.kwonlyargs = []) (h4 : fd.params.kwarg.isNone = true) (hd : fd.defaults = .none) (nd : (fd.params.args.map (·.arg)).Nodup)
    (hl : us.length = (fd.params.args.map (·.arg)).length) : bindArgs fd ⟨us, []⟩ = pure ((fd.params.args.map (·.arg)).zip us) := by
  have h2 : fd.params.vararg = none := by simpa using h2
  have h4 : fd.params.kwarg = none := by simpa using h4
  unfold bindArgs
  simp only [h1, h2, h3, h4, hd]
  generalize fd.params.args.map (·.arg) = ps at nd hl
  have m : (ps.filter fun n => ((ps.zip us).lookup n).isNone) = [] := by
    rw [List.filter_eq_nil_iff]
    intro p hp
    have := lk_zip nd hl p hp
    simpa using this
  have e2 : (ps.filterMap fun n => ((ps.zip us).lookup n).map (n, ·)) = ps.zip us := fm_zip nd hl fun _ _ => rfl
  have e3 : seqItems? .none = pure none := rfl
  simp [e3, m, e2, hl]
/-- a def: its name, its mirror, its names, is it called in suites -/
structure De where
  x : Str
  fd : Fd
  N : List Str
  wd : Bool
  df : Option D
/-- an exception class: its name, its field, is it raised -/
structure Ce where
  x : Str
  f : Str
  r : Bool
/-- the module's mirror -/
structure Md where
  ds : List De
  cs : List Ce
  gs : List (Str × GV)
  tb : List (List Nat)
def Md.sub (M : Md) : Nat → Nat → Bool := fun c j => if 100 ≤ j then (match M.cs[c]? with
  | some e => e.f == atn j
  | none => false) else ((M.tb[c]?).getD []).contains j
def Md.PF (M : Md) : Nat → Option Fd := fun i => (M.ds[i]?).map (·.fd)
def Md.G (M : Md) : GT := fun y => M.gs.lookup y
def refOf (K : Frag) (x : Str) : Option Addr := match nsIn K mainGlobals x with
  | some (some (.ref a)) => some a
  | _ => none
def Md.dfl (M : Md) : Nat → Option D := fun i => (M.ds[i]?).bind (·.df)
def Md.fa (M : Md) (K : Frag) : Nat → Option Addr := fun i => (M.ds[i]?).bind fun e => if e.wd then none else refOf K e.x
def Md.ca (M : Md) (K : Frag) : Nat → Option Addr := fun i => (M.cs[i]?).bind fun e => refOf K e.x
def Md.fld (M : Md) : Nat → Str := fun i => match M.cs[i]? with
  | some e => e.f
  | none => Str.empty
/-- the mirror's reading with fuel k -/
def Md.si (M : Md) (K : Frag) (k : Nat) : Si := { K := K, rc := ⟨K, M.fa K, none⟩, ca := M.ca K, fld := M.fld, sub := M.sub, call := callF M.sub M.PF k, dfl := M.dfl, W := fun _ _ _ _ => False }
def isNone0 : Value → Bool
  | .none => true
  | _ => false
def psOf (fd : FuncData) : List Str := fd.params.args.map (·.arg)
def scopeB (N P : List Str) (sc : Scope) : Bool :=
  isFnK sc.kind && !sc.isCoroutine && !sc.isGenerator && decide N.Nodup && (N.take P.length == P) && P.all (fun x => sc.names.lookup x == some .local || sc.names.lookup x == some .cell) && sc.names.all fun y => !(y.2 == .free)
def plainFd (fd : FuncData) : Bool := fd.params.posonlyargs.isEmpty && fd.params.vararg.isNone && fd.params.kwonlyargs.isEmpty && fd.params.kwarg.isNone && isNone0 fd.defaults && fd.globals == mainGlobals && fd.closure.isEmpty && fd.builtins == builtinsNs
def cstB : D → Value → Bool
  | .non, .none => true
  | .bl a, .bool b => a == b
  | .int a, .int b _ => a == b
  | .str a, .str b _ => a == b
  | _, _ => false
theorem cstB_ok {d : D} {v : Value} (h : cstB d v = true) : ∃ w, scV d = some w ∧ RelV w v := by
  unfold cstB at h
  split at h <;> first | cases h | skip
  · exact ⟨.non, rfl, rfl⟩
  · rw [beq_iff_eq] at h; subst h; exact ⟨.bl _, rfl, rfl⟩
  · rw [beq_iff_eq] at h; subst h; exact ⟨.int _, rfl, ⟨_, rfl⟩⟩
  · rw [beq_iff_eq] at h; subst h; exact ⟨.str _, rfl, ⟨_, rfl⟩⟩
/-- two parameters, the second with a default -/
def dflFd (K : Frag) (fd : FuncData) (d : D) : Bool := fd.params.posonlyargs.isEmpty && fd.params.vararg.isNone && fd.params.kwonlyargs.isEmpty && fd.params.kwarg.isNone && fd.globals == mainGlobals && fd.closure.isEmpty && fd.builtins == builtinsNs &&
  (match fd.params.args with | [_, _] => true | _ => false) &&
  (match fd.defaults with
    | .ref T => (match K.lookup T with
      | some ⟨_, _, .seq its _, _⟩ => (match its.toList with | [v] => cstB d v | _ => false)
      | _ => false)
    | _ => false)
def fdB (K : Frag) (fd : FuncData) : Option D → Bool
  | none => plainFd fd
  | some d => dflFd K fd d
def defB (K : Frag) (G : GT) (e : De) : Bool := match refOf K e.x with
  | some f => (match K.lookup f with
    | some ⟨_, _, .func fd, _⟩ => (match fd.body with
      | .stmts bd => fdB K fd e.df && codeIn K fd.code fd.qualname && keepIn K (.ref f) && scopeB e.N (psOf fd) fd.scope && e.fd.np == (psOf fd).length && e.fd.nl == e.N.length && chkB e.N G e.wd fd.scope e.fd.body bd
      | _ => false)
    | _ => false)
  | none => false
theorem scopeB_ok {N P : List Str} {sc : Scope} (h : scopeB N P sc = true) : FnScope N P sc := by
  unfold scopeB at h
  simp only [Bool.and_eq_true, Bool.not_eq_true', decide_eq_true_eq, beq_iff_eq, List.all_eq_true, Bool.or_eq_true] at h
  obtain ⟨⟨⟨⟨⟨⟨h1, h2⟩, h3⟩, h4⟩, h5⟩, h6⟩, h7⟩ := h
  refine ⟨?_, h2, h3, h4, h5, h6, fun y hy e => ?_⟩
  · cases e : sc.kind <;> first | rfl | (rw [e] at h1; cases h1)
  · have := h7 y hy
    rw [e] at this
    cases this
theorem bind_dfl {K : Frag} {fd : FuncData} {d : D} (h : dflFd K fd d = true) (nd : (psOf fd).Nodup) : L2.Binds K fd (psOf fd) [] ∧ ∃ w ds, scV d = some w ∧ Vals [w] ds ∧ L2.Binds K fd (psOf fd) ds := by
  unfold dflFd at h
  simp only [Bool.and_eq_true, beq_iff_eq, List.isEmpty_iff] at h
  obtain ⟨⟨⟨⟨⟨⟨⟨⟨p1, p2⟩, p3⟩, p4⟩, p6⟩, p7⟩, p8⟩, h9⟩, h10⟩ := h
  have p2 : fd.params.vararg = none := by simpa using p2
  have p4 : fd.params.kwarg = none := by simpa using p4
  split at h9
  rotate_left
  · cases h9
  rename_i a1 a2 ha
  split at h10
  rotate_left
  · cases h10
  rename_i T hT
  split at h10
  rotate_left
  · cases h10
  rename_i oc od its n osl hl
  split at h10
  rotate_left
  · cases h10
  rename_i v hv
  obtain ⟨w, e1, e2⟩ := cstB_ok h10
  have hi : its = [v].toArray := by rw [← hv]
  have hps : psOf fd = [a1.arg, a2.arg] := by unfold psOf; rw [ha]; rfl
  rw [hps] at nd ⊢
  have ne : a1.arg ≠ a2.arg := by simpa using nd
  have ne' : (a2.arg == a1.arg) = false := beq_eq_false_iff_ne.2 fun z => ne z.symm
  refine ⟨fun s us X hlen => ?_, w, [v], e1, .cons e2 .nil, fun s us X hlen => ?_⟩
  · rw [List.append_nil] at hlen ⊢
    match us, hlen with
    | [u1, u2], _ =>
      refine BindsTo.of_looks fun M => ?_
      have e : ∃ k, bindArgs fd ⟨[u1, u2], []⟩ = seqItems? (.ref T) >>= k ∧ k (some [v].toArray) = pure [(a1.arg, u1), (a2.arg, u2)] := by
        unfold bindArgs
        simp only [p1, p2, p3, p4, hT, ha]
        refine ⟨_, rfl, ?_⟩
        simp [List.lookup, ne']
      obtain ⟨k, k1, k2⟩ := e
      rw [k1]
      exact looks_items X hl (by rw [hi]) (.of_pure k2)
  · obtain ⟨u1, rfl⟩ : ∃ u1, us = [u1] := by
      match us, hlen with
      | [u], _ => exact ⟨u, rfl⟩
      | [], h => simp at h
      | _ :: _ :: _, h => simp at h
    · refine BindsTo.of_looks fun M => ?_
      have e : ∃ k, bindArgs fd ⟨[u1], []⟩ = seqItems? (.ref T) >>= k ∧ k (some [v].toArray) = pure [(a1.arg, u1), (a2.arg, v)] := by
        unfold bindArgs
        simp only [p1, p2, p3, p4, hT, ha]
        refine ⟨_, rfl, ?_⟩
        simp [List.lookup, ne']
      obtain ⟨k, k1, k2⟩ := e
      rw [k1]
      exact looks_items X hl (by rw [hi]) (.of_pure k2)
/-- what defB says -/
structure DefOk (K : Frag) (G : GT) (e : De) (f : Addr) : Prop where
  ex : ∃ (oc : Value) (od : Option Addr) (osl : Array (Option Value)) (name qual : Str) (params : Arguments) (bd : List Stmt) (scp : Scope) (dV kV doc pm : Value) (an : Option Addr) (cdv ct : Value) (ps : List Str),
    K.lookup f = some ⟨oc, od, .func (PySem.W.fnOf name qual params bd scp dV kV doc pm an cdv ct), osl⟩ ∧ codeIn K cdv qual = true ∧ keepIn K (.ref f) = true ∧ FnScope e.N ps scp ∧ e.fd.np = ps.length ∧ e.fd.nl = e.N.length ∧ chkB e.N G e.wd scp e.fd.body bd = true ∧
    L2.Binds K (PySem.W.fnOf name qual params bd scp dV kV doc pm an cdv ct) ps [] ∧ (e.df = none → ∀ us : List Value, us.length = ps.length → bindArgs (PySem.W.fnOf name qual params bd scp dV kV doc pm an cdv ct) ⟨us, []⟩ = pure (ps.zip us)) ∧ ps = params.args.map (·.arg) ∧
    (∀ d, e.df = some d → ∃ w ds, scV d = some w ∧ Vals [w] ds ∧ L2.Binds K (PySem.W.fnOf name qual params bd scp dV kV doc pm an cdv ct) ps ds)
theorem defB_ok {K : Frag} {G : GT} {e : De} (h : defB K G e = true) : ∃ f, refOf K e.x = some f ∧ DefOk K G e f := by
  unfold defB at h
  split at h
  · rename_i f hf
    refine ⟨f, hf, ?_⟩
    split at h
    · rename_i oc od fd osl hl
      split at h
      · rename_i bd hb
        simp only [Bool.and_eq_true, beq_iff_eq] at h
        obtain ⟨⟨⟨⟨⟨⟨h1, h2⟩, h3⟩, h4⟩, h5⟩, h6⟩, h7⟩ := h
        have S := scopeB_ok h4
        have nd : (psOf fd).Nodup := by rw [← S.pre]; exact S.nd.sublist (List.take_sublist _ _)
        have p678 : fd.globals = mainGlobals ∧ fd.closure = [] ∧ fd.builtins = builtinsNs := by
          unfold fdB at h1
          split at h1
          · unfold plainFd at h1
            simp only [Bool.and_eq_true, beq_iff_eq, List.isEmpty_iff] at h1
            exact ⟨h1.1.1.2, h1.1.2, h1.2⟩
          · unfold dflFd at h1
            simp only [Bool.and_eq_true, beq_iff_eq, List.isEmpty_iff] at h1
            exact ⟨h1.1.1.1.1.2, h1.1.1.1.2, h1.1.1.2⟩
        obtain ⟨p6, p7, p8⟩ := p678
        have all : L2.Binds K fd (psOf fd) [] ∧ (e.df = none → ∀ us : List Value, us.length = (psOf fd).length → bindArgs fd ⟨us, []⟩ = pure ((psOf fd).zip us)) ∧ (∀ d, e.df = some d → ∃ w ds, scV d = some w ∧ Vals [w] ds ∧ L2.Binds K fd (psOf fd) ds) := by
          cases hdf : e.df with
          | none =>
            rw [hdf] at h1
            have h1 : plainFd fd = true := h1
            unfold plainFd at h1
            simp only [Bool.and_eq_true, beq_iff_eq, List.isEmpty_iff] at h1
            obtain ⟨⟨⟨⟨⟨⟨⟨p1, p2⟩, p3⟩, p4⟩, p5⟩, p6⟩, p7⟩, p8⟩ := h1
            have p5' : fd.defaults = .none := by cases e : fd.defaults <;> first | rfl | (rw [e] at p5; cases p5)
            have ba : ∀ us : List Value, us.length = (psOf fd).length → bindArgs fd ⟨us, []⟩ = pure ((psOf fd).zip us) := fun us hl => bind_plain p1 p2 p3 p4 p5' nd hl
            exact ⟨L2.Binds.all ba, fun _ => ba, fun d z => nomatch z⟩
          | some d =>
            rw [hdf] at h1
            have h1 : dflFd K fd d = true := h1
            obtain ⟨hb1, w, ds, e1, e2, hb2⟩ := bind_dfl h1 nd
            exact ⟨hb1, (fun z => nomatch z), fun d' z => by cases z; exact ⟨w, ds, e1, e2, hb2⟩⟩
        obtain ⟨bn, ba, bd2⟩ := all
        have e : fd = PySem.W.fnOf fd.name fd.qualname fd.params bd fd.scope fd.defaults fd.kwdefaults fd.doc fd.pyModule fd.annotations fd.code fd.closureTuple := by
          obtain ⟨a1, a2, a3, a4, a5, a6, a7, a8, a9, a10, a11, a12, a13, a14, a15⟩ := fd
          simp only at hb p6 p7 p8
          subst hb p6 p7 p8
          rfl
        refine ⟨oc, od, osl, fd.name, fd.qualname, fd.params, bd, fd.scope, fd.defaults, fd.kwdefaults, fd.doc, fd.pyModule, fd.annotations, fd.code, fd.closureTuple, psOf fd, ?_, h2, h3, S, h5, h6, h7, ?_, ?_, rfl, ?_⟩
        · rw [← e]; exact hl
        · rw [← e]; exact bn
        · rw [← e]; exact ba
        · rw [← e]; exact bd2
      · cases h
    · cases h
  · cases h
/-! ### the names of the module -/
def isBlt (y : Str) (s : String) : Bool := match bootBuiltins y with
  | some (.builtin t) => t == s
  | _ => false
def isTyp (y : Str) (s : String) : Bool := match bootBuiltins y with
  | some (.type t) => t == s
  | _ => false
def noG (K : Frag) (y : Str) : Bool := match nsIn K mainGlobals y with
  | some none => true
  | _ => false
def posB : Stmt → Stmt → Bool
  | _, _ => true
/-- __init__ as it has to be -/
def iniB (par : Str) (bd : List Stmt) (params : Arguments) (sc : Scope) : Bool := match bd, params.args with
  | [.Expr (.Call (.Attribute (.Call (.Name s _) [] [] _) i q3) [.Constant (.str _) _ _] [] q5) _, .Assign [.Attribute (.Name se _) f _] (.Name p _) _], [a1, a2] =>
    s == ("super" : Str) && i == ("__init__" : Str) && se == ("self" : Str) && f == par && p == par && a1.arg == ("self" : Str) && a2.arg == par && a1.annotation.isNone && a2.annotation.isNone && q3.endLine == q5.line
  | _, _ => false
def argsB (p : Arguments) : Bool := p.posonlyargs.isEmpty && p.vararg.isNone && p.kwonlyargs.isEmpty && p.kw_defaults.isEmpty && p.kwarg.isNone && p.defaults.isEmpty
def initScopeB (par : Str) (sc : Scope) : Bool := isFnK sc.kind && !sc.isCoroutine && !sc.isGenerator && sc.more.isEmpty && sc.names == (eS par).names
def clsShape : Option Obj → Addr → Option (List Value)
  | some ⟨.type t, _, .cls cd, sl⟩, C => (match cd.mro, sl.toList with
    | .ref c :: bm, [_, _, _, _, some (.builtin n), _] => if t == "type" && c == C && cd.hasDict && !cd.hasDel && n == "ValueError.__new__" && sl.size == 6 then some bm else none
    | _, _ => none)
  | _, _ => none
def parOk (par : Str) : Bool := par == ("reason" : Str) || par == ("at" : Str) || par == ("line" : Str)
def errB (P : Program) (K : Frag) (C : Addr) (par : Str) : Bool := match clsShape (K.lookup C) C, findIn K (.ref C) "__init__" with
  | some bm, some (some (.ref fI)) => PySem.HandSPX.refsVE bm && decide (alongIn K "__init__" bm = some (some (.builtin "ValueError.__init__"))) && decide (typeIn K (.ref fI) = some (.type "function")) && parOk par &&
    (match K.lookup fI with
      | some ⟨_, _, .func fd, _⟩ => (match fd.body, fd.closure, fd.code with
        | .stmts bd, [(cn, cc)], .ref cda => cn == ("__class__" : Str) && fd.name == ("__init__" : Str) && iniB par bd fd.params fd.scope && argsB fd.params && initScopeB par fd.scope && isNone0 fd.defaults && isNone0 fd.kwdefaults && fd.globals == mainGlobals && fd.builtins == builtinsNs && codeIn K (.ref cda) fd.qualname &&
          (match K.lookup cc with
            | some ⟨_, _, .cell (some (.ref D)), _⟩ => D == C
            | _ => false) &&
          (match K.lookup cda with
            | some ⟨_, _, .fields vs, _⟩ => (match (vs[2]? : Option Value) with
              | some (Value.str file _) => (P.main.file : Str) == file
              | _ => false)
            | _ => false)
        | _, _, _ => false)
      | _ => false) &&
    decide (findIn K (.ref C) "__setattr__" = some (some (.builtin "object.__setattr__"))) && decide (findIn K (.ref C) par = some none) && keepIn K (.ref C) && decide (subIn K (.ref C) (.type "BaseException") = some true) &&
    decide (subIn K (.ref C) (.type "ValueError") = some true) && decide (mroIn K C (.ref C) = some true) && decide (typeIn K (.ref C) = some (.type "type")) && decide (nsIn K cStatics "thirdparty.any" = some none) && !(P.main.scope.names.lookup ("super" : Str)).isSome &&
    hasDictIn K C && decide (findIn K (.ref C) "__getattribute__" = some (some (.builtin "BaseException.__getattribute__"))) && decide (findIn K (.ref C) "__getattr__" = some none)
  | _, _ => false

theorem none0 {v : Value} (h : isNone0 v = true) : v = .none := by cases v <;> first | rfl | cases h
theorem fnK {k : ScopeKind} (h : isFnK k = true) : k = .function := by cases k <;> first | rfl | cases h
theorem parBind {par : Str} (h : parOk par = true) : BindPar par ∧ (par == ("self" : Str)) = false ∧ (par == ("__class__" : Str)) = false ∧ (par == ("super" : Str)) = false ∧ (par == ("__debug__" : Str)) = false := by
  unfold parOk at h
  simp only [Bool.or_eq_true, beq_iff_eq] at h
  rcases h with (rfl | rfl) | rfl
  · exact ⟨bind_reason, by decide +kernel, by decide +kernel, by decide +kernel, by decide +kernel⟩
  · exact ⟨bind_at, by decide +kernel, by decide +kernel, by decide +kernel, by decide +kernel⟩
  · exact ⟨bind_line, by decide +kernel, by decide +kernel, by decide +kernel, by decide +kernel⟩
theorem clsShape_ok {o : Option Obj} {C : Addr} {bm : List Value} (h : clsShape o C = some bm) : ∃ (nm q : Str) (N : Addr) (bs : List Value) (sn : List Str) (sub : List Value) (ab : Bool) (col : Option Bool) (dd : Option Addr) (k0 k1 k2 k3 k5 : Option Value),
    o = some (excClassObj nm q C N bs bm true sn sub ab col dd k0 k1 k2 k3 k5 "ValueError.__new__") := by
  unfold clsShape at h
  split at h
  · rename_i t dd cd sl
    split at h
    · rename_i c bm' k0 k1 k2 k3 n k5 e1 e2
      split at h
      · rename_i hc
        cases h
        simp only [Bool.and_eq_true, Bool.not_eq_true', beq_iff_eq] at hc
        obtain ⟨⟨⟨⟨⟨rfl, rfl⟩, h3⟩, h4⟩, rfl⟩, h6⟩ := hc
        obtain ⟨nm, bs, mro, N, q, hd, sn, sub, ab, col, del⟩ := cd
        have h3 : hd = true := h3
        have h4 : del = false := h4
        have e1 : mro = _ := e1
        subst e1 h3 h4
        have es : sl = #[k0, k1, k2, k3, some (.builtin "ValueError.__new__"), k5] := by
          apply Array.toList_inj.mp
          rw [e2]
        subst es
        exact ⟨nm, q, N, bs, sn, sub, ab, col, dd, k0, k1, k2, k3, k5, rfl⟩
      · cases h
    · cases h
  · cases h
theorem args_ok {p : Arguments} {a1 a2 : Arg} {par : Str} (h : argsB p = true) (e : p.args = [a1, a2]) (h1 : a1.arg = ("self" : Str)) (h2 : a2.arg = par) (h3 : a1.annotation.isNone = true) (h4 : a2.annotation.isNone = true) : p = eA par a1.pos a2.pos := by
  unfold argsB at h
  simp only [Bool.and_eq_true, List.isEmpty_iff] at h
  obtain ⟨⟨⟨⟨⟨q1, q2⟩, q3⟩, q4⟩, q5⟩, q6⟩ := h
  obtain ⟨po, ar, va, ko, kd, kw, df⟩ := p
  obtain ⟨n1, an1, ps1⟩ := a1
  obtain ⟨n2, an2, ps2⟩ := a2
  have r2 : va = none := Option.isNone_iff_eq_none.mp q2
  have r5 : kw = none := Option.isNone_iff_eq_none.mp q5
  have r3 : an1 = none := Option.isNone_iff_eq_none.mp h3
  have r4 : an2 = none := Option.isNone_iff_eq_none.mp h4
  have r1 : po = [] := q1
  have r6 : ko = [] := q3
  have r7 : kd = [] := q4
  have r8 : df = [] := q6
  have r9 : n1 = _ := h1
  have r10 : n2 = par := h2
  have r11 : ar = _ := e
  subst r11 r10 r9 r8 r7 r6 r5 r4 r3 r2 r1
  rfl
theorem errB_ok {P : Program} {K : Frag} {C : Addr} {par : Str} (h : errB P K C par = true) : ErrTxt P K C par := by
  unfold errB at h
  split at h
  · rename_i bm fI e1 e2
    simp only [Bool.and_eq_true, Bool.not_eq_true', decide_eq_true_eq] at h
    obtain ⟨⟨⟨⟨⟨⟨⟨⟨⟨⟨⟨⟨⟨⟨⟨⟨h1, h2⟩, h3⟩, h4⟩, h5⟩, h6⟩, h7⟩, h8⟩, h9⟩, h10⟩, h11⟩, h12⟩, h13⟩, h14⟩, h15⟩, h16⟩, h17⟩ := h
    obtain ⟨nm, q, N, bs, sn, sub, ab, col, dd, k0, k1, k2, k3, k5, eC⟩ := clsShape_ok e1
    obtain ⟨pb, pn⟩ := parBind h4
    refine { ex := ⟨fI, ?_⟩, sa := h6, noN := h7, kC := h8, exC := h9, veC := h10, slC := h11, tyC := h12, op := h13, top := h14, pn := pn, hdC := h15, bd := pb, ga := h16, gg := h17 }
    split at h5
    · rename_i oc od fd osl eF
      split at h5
      · rename_i bd cn cc cda b1 b2 b3
        simp only [Bool.and_eq_true, beq_iff_eq] at h5
        obtain ⟨⟨⟨⟨⟨⟨⟨⟨⟨⟨⟨rfl, g2⟩, g3⟩, g4⟩, g5⟩, g6⟩, g7⟩, g8⟩, g9⟩, g10⟩, g11⟩, g12⟩ := h5
        unfold iniB at g3
        split at g3
        · rename_i s1 q1 q2 i1 q3 msg kk q4 q5 q6 se q7 f1 q8 p1 q9 q10 a1 a2 ea
          simp only [Bool.and_eq_true, beq_iff_eq] at g3
          obtain ⟨⟨⟨⟨⟨⟨⟨⟨⟨rfl, rfl⟩, rfl⟩, rfl⟩, rfl⟩, i6⟩, i7⟩, i8⟩, i9⟩, i10⟩ := g3
          have ep := args_ok g4 ea i6 i7 i8 i9
          have es : fd.scope = eS p1 := by
            unfold initScopeB at g5
            simp only [Bool.and_eq_true, Bool.not_eq_true', beq_iff_eq, List.isEmpty_iff] at g5
            obtain ⟨⟨⟨⟨s1, s2⟩, s3⟩, s4⟩, s5⟩ := g5
            have s1 := fnK s1
            generalize fd.scope = sc at s1 s2 s3 s4 s5
            obtain ⟨k, n, g, c, m⟩ := sc
            simp only at s1 s2 s3 s4 s5
            subst s1 s2 s3 s4 s5
            rfl
          have g6 := none0 g6
          have g7 := none0 g7
          split at g11
          · rename_i cl cld D csl eCell
            rw [beq_iff_eq] at g11
            subst g11
            split at g12
            · rename_i ccl cdd vs ccs eCode
              split at g12
              · rename_i file tf ev
                refine ⟨cc, cda, msg, nm, q, N, bs, bm, sn, sub, ab, col, dd, k0, k1, k2, k3, k5, eC, h1, h2, e2, h3, ⟨oc, od, fd.doc, fd.pyModule, fd.annotations, fd.closureTuple, osl, fd.qualname, a1.pos, a2.pos, q1, q2, q3, q4, q5, q6, q7, q8, q9, q10, kk, ?_, g10, by simpa using i10⟩, ⟨cl, cld, csl, eCell⟩, ⟨ccl, cdd, vs, ccs, file, tf, eCode, ev, by simpa using g12⟩⟩
                rw [eF]
                obtain ⟨x1, x2, x3, x4, x5, x6, x7, x8, x9, x10, x11, x12, x13, x14, x15⟩ := fd
                simp only at *
                subst b1 b2 b3 g2 g6 g7 g8 g9 ep es
                rfl
              · cases g12
            · cases g12
          · cases g11
        · cases g3
      · cases h5
    · cases h5
  · cases h
end Ci

set_option Elab.async false
set_option linter.all false
set_option maxRecDepth 100000
set_option maxHeartbeats 8000000
namespace Ci
open PySem PySem.Spec PyProof.Rows L2
open PySem.W (Frag nsIn findIn alongIn typeIn subIn mroIn hasDictIn keepIn kitOne exmOne specialIn takesIn codeIn clsIn ksFn)
/-! ### the module's check and what it gives -/
def exB (K : Frag) (D : Addr) : Bool :=
  decide (findIn K (.ref D) "__getattribute__" = some (some (.builtin "BaseException.__getattribute__"))) && decide (findIn K (.ref D) "__getattr__" = some none) && decide (subIn K (.ref D) (.type "BaseException") = some true) && hasDictIn K D &&
    decide (findIn K (.ref D) "__class__" = some (some (.builtin "object.__class__"))) && decide (specialIn K (.builtin "object.__class__") "__get__" = some (some (.builtin "getset_descriptor.__get__"))) && decide (takesIn K (.builtin "object.__class__") = some true) && decide (mroIn K D (.type "object") = some true)
theorem exB_ok {K : Frag} {D : Addr} (h : exB K D = true) : ExcC K D := by
  unfold exB at h
  simp only [Bool.and_eq_true, decide_eq_true_eq] at h
  obtain ⟨⟨⟨⟨⟨⟨⟨h1, h2⟩, h3⟩, h4⟩, h5⟩, h6⟩, h7⟩, h8⟩ := h
  exact ⟨h1, h2, h3, h4, h5, h6, h7, h8⟩
def clsB (M : Md) (K : Frag) : Bool := (List.range M.cs.length).all fun c => match M.ca K c with
  | none => true
  | some C => exB K C && decide (findIn K (.ref C) (M.fld c) = some none) && decide (kitOne K (.ref C) (.type "ValueError") = some (M.sub c 99)) &&
    (List.range M.cs.length).all fun c' => match M.ca K c' with
      | none => true
      | some C' => decide (kitOne K (.ref C) (.ref C') = some (M.sub c c')) && decide (exmOne K (.ref C) (.ref C') = some (M.sub c c'))
theorem ca_lt {M : Md} {K : Frag} {c : Nat} {C : Addr} (h : M.ca K c = some C) : c ∈ List.range M.cs.length := by
  unfold Md.ca at h
  cases e : M.cs[c]? with
  | none => rw [e] at h; cases h
  | some x => exact List.mem_range.mpr (List.getElem?_eq_some_iff.mp e).1
theorem clsB_ok {M : Md} {K : Frag} {k : Nat} (h : clsB M K = true) : ClsOk (M.si K k) := by
  unfold clsB at h
  rw [List.all_eq_true] at h
  have h1 : ∀ c C, M.ca K c = some C → exB K C = true ∧ findIn K (.ref C) (M.fld c) = some none ∧ kitOne K (.ref C) (.type "ValueError") = some (M.sub c 99) ∧ ∀ c' C', M.ca K c' = some C' → kitOne K (.ref C) (.ref C') = some (M.sub c c') ∧ exmOne K (.ref C) (.ref C') = some (M.sub c c') := fun c C e => by
    have q := h c (ca_lt e)
    rw [e] at q
    simp only [Bool.and_eq_true, decide_eq_true_eq, List.all_eq_true] at q
    obtain ⟨⟨⟨q1, q2⟩, q3⟩, q4⟩ := q
    refine ⟨q1, q2, q3, fun c' C' e' => ?_⟩
    have r := q4 c' (ca_lt e')
    rw [e'] at r
    simpa only [Bool.and_eq_true, decide_eq_true_eq] using r
  refine ⟨fun c C e => ⟨exB_ok (h1 c C e).1, (h1 c C e).2.1, (h1 c C e).2.2.1⟩, fun c C c' C' e e' => ((h1 c C e).2.2.2 c' C' e').1, fun c C c' C' e e' => ((h1 c C e).2.2.2 c' C' e').2, fun c j hj hs => ?_⟩
  have hs : M.sub c j = true := hs
  unfold Md.sub at hs
  rw [if_pos hj] at hs
  show atn j = M.fld c
  unfold Md.fld
  split at hs
  · rename_i e he
    exact (beq_iff_eq.mp hs).symm
  · cases hs
def gB (P : Program) (K : Frag) (M : Md) (y : Str) : GV → Bool
  | .bi s => noG K y && isBlt y s
  | .ty s => noG K y && isTyp y s
  | .fn i => (match M.fa K i, refOf K y with | some a, some b => a == b | _, _ => false)
  | .fnD i d => (match M.fa K i, refOf K y with | some a, some b => a == b | _, _ => false) && (match M.dfl i with | some e => D.beq e d | none => false)
  | .wd _ => true
  | .cst d => (match nsIn K mainGlobals y with | some (some u) => cstB d u | _ => false)
  | .cls c r => (match M.ca K c, refOf K y with | some a, some b => a == b && (!r || errB P K a (M.fld c)) | _, _ => false)
def wdB (K : Frag) (M : Md) (p : Str × GV) : Bool := match p.2 with
  | .wd i => (match M.ds[i]? with | some e => e.wd && e.x == p.1 | none => false)
  | _ => true
def modB (P : Program) (K : Frag) (M : Md) : Bool := M.ds.all (defB K M.G) && clsB M K && M.gs.all (fun p => gB P K M p.1 p.2) && M.gs.all (wdB K M) && noG K "super"
section
variable {P : Program} {K : Frag} {M : Md} {mg : Str → Option Value}
theorem refOf_ns {y : Str} {a : Addr} (h : refOf K y = some a) : nsIn K mainGlobals y = some (some (.ref a)) := by
  unfold refOf at h
  split at h
  · rename_i e; cases h; exact e
  · cases h
theorem noG_ns {y : Str} (h : noG K y = true) : nsIn K mainGlobals y = some none := by
  unfold noG at h
  split at h
  · rename_i e; exact e
  · cases h
theorem gB_ok {y : Str} {v : GV} {k : Nat} (h1 : ∀ n u, nsIn K mainGlobals n = some (some u) → mg n = some u) (h0 : ∀ n, nsIn K mainGlobals n = some none → mg n = none) (h : gB P K M y v = true) : GOk (M.si K k) P mg y v := by
  cases v with
  | bi s =>
    simp only [gB, Bool.and_eq_true] at h
    refine ⟨h0 _ (noG_ns h.1), ?_⟩
    have h2 := h.2
    unfold isBlt at h2
    split at h2
    · rename_i t e; rw [beq_iff_eq] at h2; rw [e, h2]
    · cases h2
  | ty s =>
    simp only [gB, Bool.and_eq_true] at h
    refine ⟨h0 _ (noG_ns h.1), ?_⟩
    have h2 := h.2
    unfold isTyp at h2
    split at h2
    · rename_i t e; rw [beq_iff_eq] at h2; rw [e, h2]
    · cases h2
  | fn i =>
    simp only [gB] at h
    split at h
    · rename_i a b e1 e2
      rw [beq_iff_eq] at h
      subst h
      exact ⟨a, e1, h1 _ _ (refOf_ns e2)⟩
    · cases h
  | fnD i d =>
    simp only [gB, Bool.and_eq_true] at h
    obtain ⟨h, h3⟩ := h
    refine ⟨?_, ?_⟩
    · split at h
      · rename_i a b e1 e2
        rw [beq_iff_eq] at h
        subst h
        exact ⟨a, e1, h1 _ _ (refOf_ns e2)⟩
      · cases h
    · split at h3
      · rename_i e he
        show M.dfl i = some d
        rw [he, D.beq_eq h3]
      · cases h3
  | wd i => trivial
  | cst d =>
    simp only [gB] at h
    split at h
    · rename_i u e
      refine ⟨u, ?_⟩
      unfold cstB at h
      split at h
      · exact ⟨.non, h1 _ _ e, rfl, rfl⟩
      · rw [beq_iff_eq] at h; subst h; exact ⟨.bl _, h1 _ _ e, rfl, rfl⟩
      · rw [beq_iff_eq] at h; subst h; exact ⟨.int _, h1 _ _ e, ⟨_, rfl⟩, rfl⟩
      · rw [beq_iff_eq] at h; subst h; exact ⟨.str _, h1 _ _ e, ⟨_, rfl⟩, rfl⟩
      · cases h
    · cases h
  | cls c r =>
    simp only [gB] at h
    split at h
    · rename_i a b e1 e2
      simp only [Bool.and_eq_true, beq_iff_eq, Bool.or_eq_true, Bool.not_eq_true'] at h
      obtain ⟨rfl, h2⟩ := h
      refine ⟨a, e1, h1 _ _ (refOf_ns e2), fun hr => ?_⟩
      rcases h2 with h2 | h2
      · rw [hr] at h2; cases h2
      · exact errB_ok h2
    · cases h
theorem gs_at {y : Str} {v : GV} (h : M.gs.all (fun p => gB P K M p.1 p.2) = true) (e : M.G y = some v) : gB P K M y v = true := by
  rw [List.all_eq_true] at h
  exact h (y, v) (PySem.mem_of_lookup e)
/-- a def's start -/
theorem start_rel {c : Rc} {F : Addr → Prop} {am : List Addr} {H : Hp} {h : Hs} {ds : List Ci.D} {vs : List V} {N : List Str} {np nl : Nat} (s : Sto c F am H h) (r : RDs c F am H ds vs) (h1 : ds.length = np) (h2 : nl = N.length) : Rel c F am H h (ds.map some ++ List.replicate (nl - np) none) (L2.start N vs) := by
  have hl := r.length
  refine ⟨s, ?_, fun i d e => ?_⟩
  · unfold L2.start
    simp only [List.length_append, List.length_map, List.length_replicate]
    omega
  · have hi : i < ds.length := by
      by_cases hi : i < ds.length
      · exact hi
      · rw [List.getElem?_append_right (by simpa using hi), List.getElem?_replicate] at e
        split at e <;> cases e
    rw [List.getElem?_append_left (by simpa using hi), List.getElem?_map] at e
    cases e2 : ds[i]? with
    | none => rw [e2] at e; cases e
    | some d' =>
      rw [e2] at e
      cases e
      obtain ⟨v, g1, g2⟩ := r.get e2
      refine ⟨v, ?_, g2⟩
      unfold L2.start
      rw [List.getElem?_append_left (by simp; omega), List.getElem?_map, g1]
      rfl
theorem call_sat {z : Si} {F : Addr → Prop} {am : List Addr} {H : Hp} {h : Hs} {Q : VK} {fd : Fd} {ds : List Ci.D} {vs : List V} {N : List Str} (h2 : fd.nl = N.length) (s : Sto z.rc F am H h) (r : RDs z.rc F am H ds vs) (hW : ∀ c d σ σ' H', z.W c d σ H' → z.W c d σ' H')
    (q : SatR z [] F am H (callB z.sub z.call fd ds h) (PostD z Q)) : tS z fd.body { nx := fun _ H' => Q .non H', rt := Q } (L2.start N vs) H := by
  unfold callB at q
  split at q
  · rename_i hl
    refine ⟨_, F, am, h, start_rel s r hl h2, ?_⟩
    generalize ex z.sub z.call fd.body (ds.map some ++ List.replicate (fd.nl - fd.np) none) h = r1 at q ⊢
    cases r1 with
    | nx S1 h1 => exact fun F' am' H' σ' e r' => q F' am' H' e r'.sto .non .non
    | rt d h1 => exact fun F' am' H' v e s' rv => q F' am' H' e s' v rv
    | exc c v S1 h1 => exact fun F' am' H' σ' C dd w e r' k1 k2 k3 k4 => hW _ _ _ _ _ (q F' am' H' C dd w e r'.sto k1 k2 k3 k4)
    | bk S1 h1 => exact q.elim
    | ct S1 h1 => exact q.elim
    | bad => exact q.elim
  · exact q.elim
theorem callF_zero {sub : Nat → Nat → Bool} {PF : Nat → Option Fd} {i : Nat} {ds : List Ci.D} {h : Hs} : callF sub PF 0 i ds h = .bad := rfl
/-- every def of the module does as the evaluator says -/
theorem fn_all {w : World} {base : Heap} (hm : modB P K M = true) (h1 : ∀ n u, nsIn K mainGlobals n = some (some u) → mg n = some u) (h0 : ∀ n, nsIn K mainGlobals n = some none → mg n = none) : ∀ k,
    (∀ i e f, M.ds[i]? = some e → refOf K e.x = some f → e.wd = false → ∀ oc od osl fd bd, K.lookup f = some ⟨oc, od, .func fd, osl⟩ → fd.body = .stmts bd → FnG P w K mg base (L2N.CX P w) k f fd (psOf fd) (spF (M.si K k) i)) ∧
    (∀ i e f, M.ds[i]? = some e → refOf K e.x = some f → e.wd = true → ∀ oc od osl fd bd, K.lookup f = some ⟨oc, od, .func fd, osl⟩ → fd.body = .stmts bd → FnX P w K mg base (L2N.CX P w) k f fd (psOf fd) (spX (M.si K k) i)) := by
  unfold modB at hm
  simp only [Bool.and_eq_true] at hm
  obtain ⟨⟨⟨⟨hd, hc⟩, hg⟩, hw⟩, hs⟩ := hm
  rw [List.all_eq_true] at hd hw
  have hdef : ∀ i e, M.ds[i]? = some e → ∃ f, refOf K e.x = some f ∧ DefOk K M.G e f := fun i e he => defB_ok (hd e (List.mem_of_getElem? he))
  intro k
  induction k with
  | zero =>
    refine ⟨fun i e f _ _ _ oc od osl fd bd _ _ => ⟨fun vs H Q E h => ?_, fun A out s H ar us vs Q E _ _ _ _ _ h => ?_⟩, fun i e f _ _ _ oc od osl fd bd _ _ => ⟨fun q vs H Q E h => ?_, fun A out s H ar us vs Q E q _ _ _ _ _ _ h => ?_⟩⟩
    · obtain ⟨F, am, h, ds, _, _, q⟩ := h; exact q.elim
    · obtain ⟨F, am, h, ds, _, _, q⟩ := h; exact q.elim
    · obtain ⟨F, am, h, x, ds, C, _, _, _, _, _, _, _, q⟩ := h; exact q.elim
    · obtain ⟨F, am, h, x, ds, C, _, _, _, _, _, _, _, q⟩ := h; exact q.elim
  | succ k ih =>
    have ca : ∀ X : Cx, X.prog = P → X.w = w → X.K = K → X.mg = mg → X.base = base → Room k X.A → X.A.guards = some [] → ∀ i a, M.fa K i = some a → keepIn X.K (.ref a) = true ∧ ∃ (fd : FuncData) (ps : List Str) (j : Nat),
        FnG X.prog X.w X.K X.mg X.base (L2N.CX X.prog X.w) j a fd ps (spF (M.si K k) i) ∧ Room j X.A ∧ L2.Binds X.K fd ps [] ∧ ∀ d, (M.si K k).dfl i = some d → ∃ w ds, scV d = some w ∧ Vals [w] ds ∧ L2.Binds X.K fd ps ds := fun X e1 e2 e3 e4 e5 hr hgd i a hf => by
      subst e1 e2 e3 e4 e5
      unfold Md.fa at hf
      cases he : M.ds[i]? with
      | none => rw [he] at hf; cases hf
      | some e =>
        rw [he] at hf
        have hf : (if e.wd = true then none else refOf X.K e.x) = some a := hf
        cases hwd : e.wd with
        | true => rw [hwd] at hf; cases hf
        | false =>
          rw [hwd] at hf
          have hf : refOf X.K e.x = some a := hf
          obtain ⟨f, r1, D⟩ := hdef i e he
          rw [hf] at r1
          cases r1
          obtain ⟨oc, od, osl, name, qual, params, bd, scp, dV, kV, doc, pm, an, cdv, ct, ps, g1, g2, g3, g4, g5, g6, g7, g8, g9, rfl, g10⟩ := D.ex
          exact ⟨g3, _, _, k, ih.1 i e a he hf hwd oc od osl _ bd g1 rfl, hr, g8, fun d hd => g10 d (by
            have hd : (M.ds[i]?).bind (·.df) = some d := hd
            rw [he] at hd
            exact hd)⟩
    have wd : ∀ X : Cx, X.prog = P → X.w = w → X.K = K → X.mg = mg → X.base = base → L2H.RoomH k X.A → ∀ y i, M.G y = some (.wd i) → ∃ a, X.mg y = some (.ref a) ∧ keepIn X.K (.ref a) = true ∧ ∃ fd ps j, FnX X.prog X.w X.K X.mg X.base (L2N.CX X.prog X.w) j a fd ps (spX (M.si K k) i) ∧ L2H.RoomH j X.A ∧ L2.Binds X.K fd ps [] := fun X e1 e2 e3 e4 e5 hr y i hy => by
      subst e1 e2 e3 e4 e5
      have q := hw _ (PySem.mem_of_lookup hy)
      unfold wdB at q
      simp only at q
      split at q
      · rename_i e he
        simp only [Bool.and_eq_true, beq_iff_eq] at q
        obtain ⟨q1, rfl⟩ := q
        obtain ⟨f, r1, D⟩ := hdef i e he
        obtain ⟨oc, od, osl, name, qual, params, bd, scp, dV, kV, doc, pm, an, cdv, ct, ps, g1, g2, g3, g4, g5, g6, g7, g8, g9, rfl, g10⟩ := D.ex
        exact ⟨f, h1 _ _ (refOf_ns r1), g3, _, _, k, ih.2 i e f he r1 q1 oc od osl _ bd g1 rfl, hr, g8⟩
      · cases q
    refine ⟨fun i e f he hr hwd oc od osl fd bd hl hb => ?_, fun i e f he hr hwd oc od osl fd bd hl hb => ?_⟩
    · obtain ⟨f', r1, D⟩ := hdef i e he
      rw [hr] at r1
      cases r1
      obtain ⟨oc', od', osl', name, qual, params, bd', scp, dV, kV, doc, pm, an, cdv, ct, ps, g1, g2, g3, g4, g5, g6, g7, g8, g9, rfl, g10⟩ := D.ex
      rw [hl] at g1
      cases g1
      have len : ∀ vs H Q E, spF (M.si K (k + 1)) i vs H Q E → vs.length = (params.args.map (·.arg)).length := fun vs H Q E ⟨F, am, h, ds, s, r, q⟩ => by
        have q : SatR _ _ F am H (callF M.sub M.PF (k + 1) i ds h) _ := q
        simp only [callF, Md.PF, he, Option.map_some, callB] at q
        split at q
        · rename_i hlen
          rw [← r.length, hlen, g5]
        · exact q.elim
      refine fng_of hl g2 g4 len fun A out s H vs Q E hgd room ⟨F, am, h, ds, st, r, q⟩ => ?_
      have q : SatR ((M.si K (k + 1)).to E) [] F am H (callF M.sub M.PF (k + 1) i ds h) (PostD ((M.si K (k + 1)).to E) Q) := q
      simp only [callF, Md.PF, he, Option.map_some] at q
      refine ⟨tS ((M.si K k).to E) e.fd.body, stOk (N := e.N) (G := M.G) (sc := scp) (hot := e.wd) ?_ g7, call_sat (z := (M.si K k).to E) g6 st r (fun _ _ _ _ _ x => x) q⟩
      rw [hwd]
      exact {
        hK := rfl, hrK := rfl, hN := rfl, nd := g4.nd, hsc := rfl, calm := fun _ => rfl
        un := Nat.lt_of_le_of_lt (show (A.deeper (envOfC qual scp s.heap.objs.size f cdv)).units + 70 ≤ _ by omega) room.un
        tk := L2N.takes_of rfl rfl rfl rfl
        g := fun y v hy => by
          have z := gB_ok (k := k) h1 h0 (gs_at hg hy)
          cases v <;> exact z
        dp := Nat.lt_of_le_of_lt (show (A.deeper (envOfC qual scp s.heap.objs.size f cdv)).depth + 5 ≤ _ by omega) room.dp
        su := h0 _ (noG_ns hs)
        hx := fun x hx => nomatch hx
        cf := fun _ => ⟨rfl, hgd, ca _ rfl rfl rfl rfl rfl room hgd⟩
        po := passes_of rfl
        fnc := fun _ _ => rfl
        kd := g4.kind
        stk := fun _ => rfl
        frm := fun _ => rfl
        wd := fun _ => wd _ rfl rfl rfl rfl rfl (L2H.roomH_of room)
        cls := ⟨(clsB_ok (k := k) hc).cl, (clsB_ok (k := k) hc).k, (clsB_ok (k := k) hc).em, (clsB_ok (k := k) hc).fl⟩ }
    · obtain ⟨f', r1, D⟩ := hdef i e he
      rw [hr] at r1
      cases r1
      obtain ⟨oc', od', osl', name, qual, params, bd', scp, dV, kV, doc, pm, an, cdv, ct, ps, g1, g2, g3, g4, g5, g6, g7, g8, g9, rfl, g10⟩ := D.ex
      rw [hl] at g1
      cases g1
      have len : ∀ q vs H Q E, spX (M.si K (k + 1)) i q vs H Q E → vs.length = (params.args.map (·.arg)).length := fun q vs H Q E ⟨F, am, h, x, ds, C, x1, x2, x3, x4, x5, s, r, q⟩ => by
        have q : SatR _ _ F am H (callF M.sub M.PF (k + 1) i ds h) _ := q
        simp only [callF, Md.PF, he, Option.map_some, callB] at q
        split at q
        · rename_i hlen
          rw [← r.length, hlen, g5]
        · exact q.elim
      refine fnx_of hl g2 g4 len fun A out s H vs Q E p hot room ⟨F, am, h, x, ds, C, x1, x2, x3, x4, x5, st, r, q⟩ => ?_
      have q : SatR { (M.si K (k + 1)).to E with rc := (M.si K (k + 1)).rc.with x } [] F am H (callF M.sub M.PF (k + 1) i ds h) (PostD { (M.si K (k + 1)).to E with rc := (M.si K (k + 1)).rc.with x } Q) := q
      simp only [callF, Md.PF, he, Option.map_some] at q
      refine ⟨tS { (M.si K k).to E with rc := (M.si K k).rc.with x } e.fd.body, stOk (N := e.N) (G := M.G) (sc := scp) (hot := e.wd) ?_ g7, call_sat (z := { (M.si K k).to E with rc := (M.si K k).rc.with x }) g6 st r (fun _ _ _ _ _ x => x) q⟩
      rw [hwd]
      have cl := clsB_ok (k := k) hc
      exact {
        hK := rfl, hrK := rfl, hN := rfl, nd := g4.nd, hsc := rfl, calm := fun h => nomatch h
        un := Nat.lt_of_le_of_lt (show (A.deeper (envOfC qual scp s.heap.objs.size f cdv)).units + 70 ≤ _ by omega) room.un
        tk := L2N.takes_of rfl rfl rfl rfl
        g := fun y v hy => by
          have z := gB_ok (k := k) h1 h0 (gs_at hg hy)
          cases v <;> exact z
        dp := Nat.lt_of_le_of_lt (show (A.deeper (envOfC qual scp s.heap.objs.size f cdv)).depth + 5 ≤ _ by omega) room.dp
        su := h0 _ (noG_ns hs)
        hx := fun x' hx => by
          have hx : some x = some x' := hx
          cases hx
          exact ⟨⟨p.2, C, by rw [x1]; exact List.mem_singleton.mpr rfl, x2, x3, x4, x5, (cl.cl _ _ x2).1, by rw [x5]; exact (cl.cl _ _ x2).2.1⟩, fun C' c' C2 e1 e2 => cl.k _ _ _ _ e1 e2, fun C' e1 => (cl.cl _ _ e1).2.2, fun j hj hs => by rw [x5]; exact cl.fl _ j hj hs⟩
        cf := fun h => nomatch h
        po := passes_of rfl
        fnc := fun _ _ => rfl
        kd := g4.kind
        stk := fun h => nomatch h
        frm := fun h => nomatch h
        wd := fun h => nomatch h
        cls := ⟨cl.cl, cl.k, cl.em, cl.fl⟩ }
end
end Ci

set_option Elab.async false
set_option linter.all false
set_option maxRecDepth 100000
set_option maxHeartbeats 8000000
namespace Ci
open PySem PySem.Spec PyProof.Rows L2
open PySem.W (Frag nsIn)
/-! ### the end -/
def lawB (M : Md) (i : Nat) : Bool := match M.ds[i]? with
  | some e => e.x == ("law" : Str) && !e.wd && e.df.isNone && (match e.N with | x :: _ => x == ("script" : Str) | [] => false) && e.fd.np == 1
  | none => false
theorem scr_rel {c : Rc} {F : Addr → Prop} {am : List Addr} {H : Hp} : ∀ ns : List Int, RDs c F am H (ns.map Ci.D.int) (ns.map V.int)
  | [] => .nil
  | n :: ns => .cons (.int n) (scr_rel ns)
theorem law_S {M : Md} {K : Frag} {k i : Nat} {H : Hp} {a : Addr} {ns : List Int} (hO : Only H) (hS : SqL K H a (ns.map V.int)) (h : ∃ h', callF M.sub M.PF k i [.scr (ns.map .int)] [] = .ok (.bl true) h') : spF (M.si K k) i [.ref a] H (fun v _ => v = .bl true) fun _ _ _ => False := by
  obtain ⟨h', e⟩ := h
  refine ⟨fun _ => False, [], [], [.scr (ns.map .int)], ⟨List.nodup_nil, rfl, (fun _ m => nomatch m), (fun _ m => m.elim), (fun i a o e => by simp at e)⟩, .cons ?_ .nil, ?_⟩
  · rcases hS with (hS | ⟨o, hS⟩) | hS
    · rcases hO a with z | ⟨o, xs, z⟩
      · rw [hS] at z; cases z
      · rw [hS] at z; cases z
    · exact .scr hS (fun x => x) (scr_rel ns)
    · exact .scrK (.inr hS) (scr_rel ns)
  · show SatR _ [] _ [] H (callF M.sub M.PF k i [.scr (ns.map .int)] []) _
    rw [e]
    intro F' am' H' _ _ v rv
    cases rv
    rfl
theorem law_F {M : Md} {P : Program} {K : Frag} {k i : Nat} {w : World} {mg : Str → Option Value} {fa : Addr} {h : Heap} (hm : modB P K M = true) (hl : lawB M i = true) (KX : K.In h) (G : h.Ns mainGlobals mg) (hmg : mg "law" = some (.ref fa)) :
    ∃ fd : FuncData, (∀ (s : Shared) (u : Value), BindsTo s fd ⟨[u], []⟩ [(("script" : Str), u)]) ∧ ∀ base : Heap, K.In base → base.Ns mainGlobals mg → FnG P w K mg base (L2N.CX P w) k fa fd ["script"] (spF (M.si K k) i) := by
  have h1 : ∀ n u, nsIn K mainGlobals n = some (some u) → mg n = some u := fun n u e => PySem.W.mg_of KX G e
  have h0 : ∀ n, nsIn K mainGlobals n = some none → mg n = none := fun n e => PySem.W.mg_none_of KX G e
  unfold lawB at hl
  split at hl
  · rename_i e he
    simp only [Bool.and_eq_true, Bool.not_eq_true', beq_iff_eq] at hl
    obtain ⟨⟨⟨⟨hx, hwd⟩, hdf⟩, hN⟩, hnp⟩ := hl
    have hdf : e.df = none := by simpa using hdf
    have hm' := hm
    unfold modB at hm'
    simp only [Bool.and_eq_true, List.all_eq_true] at hm'
    obtain ⟨f, r1, D⟩ := defB_ok (hm'.1.1.1.1 e (List.mem_of_getElem? he))
    obtain ⟨oc, od, osl, name, qual, params, bd, scp, dV, kV, doc, pm, an, cdv, ct, ps, g1, g2, g3, g4, g5, g6, g7, g8, g9, rfl, g10⟩ := D.ex
    have e2 := h1 _ _ (refOf_ns r1)
    rw [hx] at e2
    have e3 := hmg.symm.trans e2
    cases e3
    have hps : params.args.map (·.arg) = [("script" : Str)] := by
      have hpre := g4.pre
      rw [← g5, hnp] at hpre
      rw [← hpre]
      split at hN
      · rename_i x t e4
        rw [e4, beq_iff_eq.mp hN]
        rfl
      · cases hN
    refine ⟨PySem.W.fnOf name qual params bd scp dV kV doc pm an cdv ct, fun s u => .of_eq ?_, fun base hb hg => ?_⟩
    · have z := g9 hdf [u] (by rw [hps]; rfl)
      rw [hps] at z
      exact z
    · have z := (fn_all (w := w) (base := base) hm h1 h0 k).1 i e fa he r1 hwd _ _ _ _ _ g1 rfl
      have z2 : psOf (PySem.W.fnOf name qual params bd scp dV kV doc pm an cdv ct) = [("script" : Str)] := hps
      rw [z2] at z
      exact z
  · cases hl
theorem law_X {P : Program} {w : World} {H : Hp} {s : Shared} {e : Value} {s' : Shared} (h : L2N.CX P w [] H s (fun _ _ _ => False) e s') : False := by
  obtain ⟨_, _, _, _, _, _, _, _, _, _, _, _, z⟩ := h
  exact z
/-- the end of a law, from its plain reading -/
theorem law_end {l : PySem.W.OpenLaw} {n k i : Nat} {M : Md} {q : Program} {loose : List Str} {XP : (Str → Option Value) → Heap → Prop} {YP : World → Heap → Prop} {d : DefRec} {K : Params → Frag}
    (hn : l.most = some n) (hn2 : n ≤ sizeLine) (hdf : d.params.defaults = []) (hr : Room k callerA) (hY : ∀ (w : World) (h : Heap), YP w h → (K w.params).In h) (hd : d.name = ("law" : Str)) (hK : ∀ p : Params, modB l.prog (K p) M = true) (hl : lawB M i = true)
    (plain : ∀ ns : List Int, ns.length ≤ n → ∃ h', callF M.sub M.PF k i [.scr (ns.map .int)] [] = .ok (.bl true) h') : PySem.W.WalkO q loose XP YP l.row.toRowW d [] (fun f vs => PySem.call f vs) :=
  walk_ofG (K := K) (x := "script") (CX := fun w => L2N.CX l.prog w) (sp := fun w => spF (M.si (K w.params) k) i) hn hn2 hdf hr hY (fun w mg fa h KX G hmg => law_F (hK w.params) hl KX G (by rw [← hd]; exact hmg)) (fun w H a ns h1 h2 h3 => law_S h2 h3 (plain ns h1)) fun _ _ _ _ _ h => law_X h
end Ci

set_option maxRecDepth 100000
namespace Ci
open PySem
/-- is_integer: value -/
def i_is_integer : Fd := ⟨1, 1, (.ret (.and_ (.isI (.var 0) .int) (.not_ (.isI (.var 0) .bool))))⟩
/-- check_storm: storm, low, high, slow, fast, half, own -/
def i_check_storm : Fd := ⟨1, 7, (.seq (.ife (.or_ (.not_ (.isI (.var 0) .tuple)) (.or_ (.cmp .NotEq (.blt .len (.cons (.var 0) .nil)) (.lit (.int (5)))) (.not_ (.blt .all (.cons (.il (.comp (.pcall 2 (.cons (.var 6) .nil)) [6] (.nm 6) (.val (.var 0)) .omit)) .nil))))) (.rais 2 (.lit (.str (Str.ofString "storm")))) .skip) (.seq (.asg (.tp (.cons (.nm 1) (.cons (.nm 2) (.cons (.nm 3) (.cons (.nm 4) (.cons (.nm 5) .nil)))))) (.var 0)) (.ife (.or_ (.cmp .Gt (.var 1) (.var 2)) (.or_ (.cmp .Gt (.var 3) (.var 4)) (.cmp .Lt (.var 5) (.lit (.int (0)))))) (.rais 2 (.lit (.str (Str.ofString "storm")))) .skip)))⟩
/-- is_place: value -/
def i_is_place : Fd := ⟨1, 1, (.ret (.and_ (.pcall 0 (.cons (.var 0) .nil)) (.cmp2 .LtE .LtE (.neg (.glb (Str.ofString "MAX_SIZE") (.int (1000000000000)))) (.var 0) (.glb (Str.ofString "MAX_SIZE") (.int (1000000000000))))))⟩
/-- check_hour: hour, reason -/
def i_check_hour : Fd := ⟨2, 2, (.ife (.or_ (.not_ (.pcall 0 (.cons (.var 0) .nil))) (.not_ (.cmp2 .LtE .LtE (.lit (.int (0))) (.var 0) (.glb (Str.ofString "MAX_HOURS") (.int (1000)))))) (.rais 3 (.var 1)) .skip)⟩
/-- check_place: place -/
def i_check_place : Fd := ⟨1, 1, (.ife (.not_ (.pcall 2 (.cons (.var 0) .nil))) (.rais 3 (.lit (.str (Str.ofString "place")))) .skip)⟩
/-- middle_at: storm, hour -/
def i_middle_at : Fd := ⟨2, 2, (.seq (.ex (.pcall 1 (.cons (.var 0) .nil))) (.seq (.ex (.pcallD 3 (.cons (.var 1) .nil) (.str (Str.ofString "hour")))) (.ret (.tup (.cons (.bin .Add (.ix (.var 0) (.lit (.int (0)))) (.bin .Mult (.ix (.var 0) (.lit (.int (2)))) (.var 1))) (.cons (.bin .Add (.ix (.var 0) (.lit (.int (1)))) (.bin .Mult (.ix (.var 0) (.lit (.int (3)))) (.var 1))) .nil))))))⟩
/-- may_strike: storm, place, hour, low, high -/
def i_may_strike : Fd := ⟨3, 5, (.seq (.asg (.tp (.cons (.nm 3) (.cons (.nm 4) .nil))) (.tup (.cons (.bin .Add (.ix (.var 0) (.lit (.int (0)))) (.bin .Mult (.ix (.var 0) (.lit (.int (2)))) (.var 2))) (.cons (.bin .Add (.ix (.var 0) (.lit (.int (1)))) (.bin .Mult (.ix (.var 0) (.lit (.int (3)))) (.var 2))) .nil)))) (.ret (.cmp2 .LtE .LtE (.bin .Sub (.var 3) (.ix (.var 0) (.lit (.int (4))))) (.var 1) (.bin .Add (.var 4) (.ix (.var 0) (.lit (.int (4))))))))⟩
/-- must_strike: storm, place, hour, low, high -/
def i_must_strike : Fd := ⟨3, 5, (.seq (.asg (.tp (.cons (.nm 3) (.cons (.nm 4) .nil))) (.tup (.cons (.bin .Add (.ix (.var 0) (.lit (.int (0)))) (.bin .Mult (.ix (.var 0) (.lit (.int (2)))) (.var 2))) (.cons (.bin .Add (.ix (.var 0) (.lit (.int (1)))) (.bin .Mult (.ix (.var 0) (.lit (.int (3)))) (.var 2))) .nil)))) (.ret (.cmp2 .LtE .LtE (.bin .Sub (.var 4) (.ix (.var 0) (.lit (.int (4))))) (.var 1) (.bin .Add (.var 3) (.ix (.var 0) (.lit (.int (4))))))))⟩
/-- first_strike: storm, place, last, hour -/
def i_first_strike : Fd := ⟨3, 4, (.seq (.ex (.pcall 1 (.cons (.var 0) .nil))) (.seq (.ex (.pcall 4 (.cons (.var 1) .nil))) (.seq (.ex (.pcall 3 (.cons (.var 2) (.cons (.lit (.str (Str.ofString "last"))) .nil)))) (.seq (.for_ (.nm 3) (.rng1 (.bin .Add (.var 2) (.lit (.int (1))))) (.ife (.pcall 6 (.cons (.var 0) (.cons (.var 1) (.cons (.var 3) .nil)))) (.ret (.var 3)) .skip)) (.ret (.lit .non))))))⟩
/-- struck_hours: storm, place, last, hours, may, hour -/
def i_struck_hours : Fd := ⟨3, 6, (.seq (.ex (.pcall 1 (.cons (.var 0) .nil))) (.seq (.ex (.pcall 4 (.cons (.var 1) .nil))) (.seq (.ex (.pcall 3 (.cons (.var 2) (.cons (.lit (.str (Str.ofString "last"))) .nil)))) (.seq (.asg (.nm 3) (.rlist false .omit (.bin .Add (.var 2) (.lit (.int (1)))))) (.seq (.asg (.nm 4) (.blt .len (.cons (.il (.comp (.var 5) [5] (.nm 5) (.val (.var 3)) (.pcall 6 (.cons (.var 0) (.cons (.var 1) (.cons (.var 5) .nil)))))) .nil))) (.ret (.tup (.cons (.var 4) (.cons (.blt .len (.cons (.il (.comp (.var 5) [5] (.nm 5) (.val (.var 3)) (.pcall 7 (.cons (.var 0) (.cons (.var 1) (.cons (.var 5) .nil)))))) .nil)) .nil)))))))))⟩
/-- safe_places: storm, places, last, found, at, place, hour -/
def i_safe_places : Fd := ⟨3, 7, (.seq (.ex (.pcall 1 (.cons (.var 0) .nil))) (.seq (.ex (.pcall 11 (.cons (.var 1) .nil))) (.seq (.ex (.pcall 3 (.cons (.var 2) (.cons (.lit (.str (Str.ofString "last"))) .nil)))) (.seq (.asg (.nm 3) (.ml (.disp .nil))) (.seq (.for_ (.tp (.cons (.nm 4) (.cons (.nm 5) .nil))) (.enum (.var 1)) (.ife (.not_ (.il (.comp (.lit (.int (1))) [6] (.nm 6) (.rng1 (.bin .Add (.var 2) (.lit (.int (1))))) (.pcall 6 (.cons (.var 0) (.cons (.var 5) (.cons (.var 6) .nil))))))) (.ex (.meth .append (.var 3) (.cons (.var 4) .nil))) .skip)) (.ret (.blt .tuple (.cons (.var 3) .nil))))))))⟩
/-- check_places: places, own -/
def i_check_places : Fd := ⟨1, 2, (.ife (.or_ (.not_ (.isI (.var 0) .tuple)) (.or_ (.cmp .Gt (.blt .len (.cons (.var 0) .nil)) (.glb (Str.ofString "MAX_PLACES") (.int (30)))) (.not_ (.blt .all (.cons (.il (.comp (.pcall 2 (.cons (.var 1) .nil)) [1] (.nm 1) (.val (.var 0)) .omit)) .nil))))) (.rais 3 (.lit (.str (Str.ofString "places")))) .skip)⟩
/-- check_reports: reports, row, at, own -/
def i_check_reports : Fd := ⟨1, 4, (.seq (.ife (.or_ (.not_ (.isI (.var 0) .tuple)) (.not_ (.cmp2 .LtE .LtE (.lit (.int (1))) (.blt .len (.cons (.var 0) .nil)) (.glb (Str.ofString "MAX_ROWS") (.int (60)))))) (.rais 2 (.lit (.str (Str.ofString "reports")))) .skip) (.seq (.for_ (.nm 1) (.val (.var 0)) (.seq (.ife (.or_ (.not_ (.isI (.var 1) .tuple)) (.or_ (.cmp .NotEq (.blt .len (.cons (.var 1) .nil)) (.lit (.int (3)))) (.not_ (.blt .all (.cons (.il (.comp (.pcall 2 (.cons (.var 3) .nil)) [3] (.nm 3) (.val (.var 1)) .omit)) .nil))))) (.rais 2 (.lit (.str (Str.ofString "reports")))) .skip) (.ife (.or_ (.not_ (.cmp2 .LtE .LtE (.lit (.int (0))) (.ix (.var 1) (.lit (.int (0)))) (.glb (Str.ofString "MAX_HOURS") (.int (1000))))) (.cmp .Gt (.ix (.var 1) (.lit (.int (1)))) (.ix (.var 1) (.lit (.int (2)))))) (.rais 2 (.lit (.str (Str.ofString "reports")))) .skip))) (.ife (.il (.comp (.lit (.int (1))) [2] (.nm 2) (.rng1 (.bin .Sub (.blt .len (.cons (.var 0) .nil)) (.lit (.int (1))))) (.cmp .GtE (.ix (.ix (.var 0) (.var 2)) (.lit (.int (0)))) (.ix (.ix (.var 0) (.bin .Add (.var 2) (.lit (.int (1))))) (.lit (.int (0))))))) (.rais 2 (.lit (.str (Str.ofString "reports")))) .skip)))⟩
/-- check_speeds: slow, fast, reason, own -/
def i_check_speeds : Fd := ⟨2, 4, (.seq (.for_ (.tp (.cons (.nm 2) (.cons (.nm 3) .nil))) (.val (.tup (.cons (.tup (.cons (.lit (.str (Str.ofString "slow"))) (.cons (.var 0) .nil))) (.cons (.tup (.cons (.lit (.str (Str.ofString "fast"))) (.cons (.var 1) .nil))) .nil)))) (.ife (.not_ (.pcall 2 (.cons (.var 3) .nil))) (.rais 3 (.var 2)) .skip)) (.ife (.cmp .Gt (.var 0) (.var 1)) (.rais 3 (.lit (.str (Str.ofString "fast")))) .skip))⟩
/-- spans_forward: reports, slow, fast, found, at, hour, low, high, hours -/
def i_spans_forward : Fd := ⟨3, 9, (.seq (.asg (.nm 3) (.ml (.disp .nil))) (.seq (.for_ (.tp (.cons (.nm 4) (.cons (.tp (.cons (.nm 5) (.cons (.nm 6) (.cons (.nm 7) .nil)))) .nil))) (.enum (.var 0)) (.seq (.ife (.var 4) (.seq (.asg (.nm 8) (.bin .Sub (.var 5) (.ix (.ix (.var 0) (.bin .Sub (.var 4) (.lit (.int (1))))) (.lit (.int (0)))))) (.seq (.asg (.nm 6) (.blt .max2 (.cons (.var 6) (.cons (.bin .Add (.ix (.ix (.var 3) (.neg (.lit (.int (1))))) (.lit (.int (0)))) (.bin .Mult (.var 1) (.var 8))) .nil)))) (.asg (.nm 7) (.blt .min2 (.cons (.var 7) (.cons (.bin .Add (.ix (.ix (.var 3) (.neg (.lit (.int (1))))) (.lit (.int (1)))) (.bin .Mult (.var 2) (.var 8))) .nil)))))) .skip) (.seq (.ex (.meth .append (.var 3) (.cons (.tup (.cons (.var 6) (.cons (.var 7) .nil))) .nil))) (.ife (.cmp .Gt (.var 6) (.var 7)) .brk .skip)))) (.ret (.var 3))))⟩
/-- judge_reports: reports, slow, fast, spans, at, hours, low, high -/
def i_judge_reports : Fd := ⟨3, 8, (.seq (.ex (.pcall 12 (.cons (.var 0) .nil))) (.seq (.ex (.pcall 13 (.cons (.var 1) (.cons (.var 2) .nil)))) (.seq (.asg (.nm 3) (.call 14 (.cons (.var 0) (.cons (.var 1) (.cons (.var 2) .nil))))) (.seq (.ife (.cmp .Gt (.ix (.ix (.var 3) (.neg (.lit (.int (1))))) (.lit (.int (0)))) (.ix (.ix (.var 3) (.neg (.lit (.int (1))))) (.lit (.int (1))))) (.ret (.tup (.cons (.lit (.str (Str.ofString "against"))) (.cons (.bin .Sub (.blt .len (.cons (.var 3) .nil)) (.lit (.int (1)))) .nil)))) .skip) (.seq (.for_ (.nm 4) (.rng3 (.bin .Sub (.blt .len (.cons (.var 3) .nil)) (.lit (.int (2)))) (.neg (.lit (.int (1)))) (.neg (.lit (.int (1))))) (.seq (.asg (.nm 5) (.bin .Sub (.ix (.ix (.var 0) (.bin .Add (.var 4) (.lit (.int (1))))) (.lit (.int (0)))) (.ix (.ix (.var 0) (.var 4)) (.lit (.int (0)))))) (.seq (.asg (.nm 6) (.blt .max2 (.cons (.ix (.ix (.var 3) (.var 4)) (.lit (.int (0)))) (.cons (.bin .Sub (.ix (.ix (.var 3) (.bin .Add (.var 4) (.lit (.int (1))))) (.lit (.int (0)))) (.bin .Mult (.var 2) (.var 5))) .nil)))) (.seq (.asg (.nm 7) (.blt .min2 (.cons (.ix (.ix (.var 3) (.var 4)) (.lit (.int (1)))) (.cons (.bin .Sub (.ix (.ix (.var 3) (.bin .Add (.var 4) (.lit (.int (1))))) (.lit (.int (1)))) (.bin .Mult (.var 1) (.var 5))) .nil)))) (.set (.var 3) (.var 4) (.tup (.cons (.var 6) (.cons (.var 7) .nil)))))))) (.ret (.tup (.cons (.lit (.str (Str.ofString "spans"))) (.cons (.blt .tuple (.cons (.var 3) .nil)) .nil)))))))))⟩
/-- accept_course: reports, slow, fast, places, at, hours, place, hour, low, high, own -/
def i_accept_course : Fd := ⟨4, 11, (.seq (.ex (.pcall 12 (.cons (.var 0) .nil))) (.seq (.ex (.pcall 13 (.cons (.var 1) (.cons (.var 2) .nil)))) (.seq (.ife (.or_ (.not_ (.isI (.var 3) .tuple)) (.or_ (.cmp .NotEq (.blt .len (.cons (.var 3) .nil)) (.blt .len (.cons (.var 0) .nil))) (.not_ (.blt .all (.cons (.il (.comp (.pcall 0 (.cons (.var 10) .nil)) [10] (.nm 10) (.val (.var 3)) .omit)) .nil))))) (.rais 4 (.lit (.str (Str.ofString "form")))) .skip) (.seq (.ife (.il (.comp (.lit (.int (1))) [6, 7, 8, 9] (.tp (.cons (.nm 6) (.cons (.tp (.cons (.nm 7) (.cons (.nm 8) (.cons (.nm 9) .nil)))) .nil))) (.zip2 (.var 3) (.var 0)) (.not_ (.cmp2 .LtE .LtE (.var 8) (.var 6) (.var 9))))) (.rais 4 (.lit (.str (Str.ofString "report")))) .skip) (.for_ (.nm 4) (.rng1 (.bin .Sub (.blt .len (.cons (.var 3) .nil)) (.lit (.int (1))))) (.seq (.asg (.nm 5) (.bin .Sub (.ix (.ix (.var 0) (.bin .Add (.var 4) (.lit (.int (1))))) (.lit (.int (0)))) (.ix (.ix (.var 0) (.var 4)) (.lit (.int (0)))))) (.ife (.not_ (.cmp2 .LtE .LtE (.bin .Mult (.var 1) (.var 5)) (.bin .Sub (.ix (.var 3) (.bin .Add (.var 4) (.lit (.int (1))))) (.ix (.var 3) (.var 4))) (.bin .Mult (.var 2) (.var 5)))) (.rais 4 (.lit (.str (Str.ofString "speed")))) .skip)))))))⟩
/-- accept_against: reports, slow, fast, one, other, hours, low, high, own -/
def i_accept_against : Fd := ⟨5, 9, (.seq (.ex (.pcall 12 (.cons (.var 0) .nil))) (.seq (.ex (.pcall 13 (.cons (.var 1) (.cons (.var 2) .nil)))) (.seq (.ife (.or_ (.not_ (.blt .all (.cons (.il (.comp (.and_ (.pcall 0 (.cons (.var 8) .nil)) (.cmp2 .LtE .Lt (.lit (.int (0))) (.var 8) (.blt .len (.cons (.var 0) .nil)))) [8] (.nm 8) (.val (.tup (.cons (.var 3) (.cons (.var 4) .nil)))) .omit)) .nil))) (.cmp .GtE (.var 3) (.var 4))) (.rais 4 (.lit (.str (Str.ofString "form")))) .skip) (.seq (.asg (.nm 5) (.bin .Sub (.ix (.ix (.var 0) (.var 4)) (.lit (.int (0)))) (.ix (.ix (.var 0) (.var 3)) (.lit (.int (0)))))) (.seq (.asg (.tp (.cons (.nm 6) (.cons (.nm 7) .nil))) (.tup (.cons (.bin .Add (.ix (.ix (.var 0) (.var 3)) (.lit (.int (1)))) (.bin .Mult (.var 1) (.var 5))) (.cons (.bin .Add (.ix (.ix (.var 0) (.var 3)) (.lit (.int (2)))) (.bin .Mult (.var 2) (.var 5))) .nil)))) (.ife (.and_ (.cmp .LtE (.var 6) (.ix (.ix (.var 0) (.var 4)) (.lit (.int (2))))) (.cmp .LtE (.ix (.ix (.var 0) (.var 4)) (.lit (.int (1)))) (.var 7))) (.rais 4 (.lit (.str (Str.ofString "suits")))) .skip))))))⟩
/-- first_against: reports, slow, fast, other, one, hours, low, high -/
def i_first_against : Fd := ⟨3, 8, (.seq (.ex (.pcall 12 (.cons (.var 0) .nil))) (.seq (.ex (.pcall 13 (.cons (.var 1) (.cons (.var 2) .nil)))) (.seq (.for_ (.nm 3) (.rng1 (.blt .len (.cons (.var 0) .nil))) (.for_ (.nm 4) (.rng1 (.var 3)) (.seq (.asg (.nm 5) (.bin .Sub (.ix (.ix (.var 0) (.var 3)) (.lit (.int (0)))) (.ix (.ix (.var 0) (.var 4)) (.lit (.int (0)))))) (.seq (.asg (.tp (.cons (.nm 6) (.cons (.nm 7) .nil))) (.tup (.cons (.bin .Add (.ix (.ix (.var 0) (.var 4)) (.lit (.int (1)))) (.bin .Mult (.var 1) (.var 5))) (.cons (.bin .Add (.ix (.ix (.var 0) (.var 4)) (.lit (.int (2)))) (.bin .Mult (.var 2) (.var 5))) .nil)))) (.ife (.or_ (.cmp .Gt (.var 6) (.ix (.ix (.var 0) (.var 3)) (.lit (.int (2))))) (.cmp .Gt (.ix (.ix (.var 0) (.var 3)) (.lit (.int (1)))) (.var 7))) (.ret (.tup (.cons (.var 4) (.cons (.var 3) .nil)))) .skip))))) (.ret (.lit .non)))))⟩
/-- whole_speeds: reports, other, lows, highs, one, hours -/
def i_whole_speeds : Fd := ⟨1, 6, (.seq (.ex (.pcall 12 (.cons (.var 0) .nil))) (.seq (.ife (.cmp .Lt (.blt .len (.cons (.var 0) .nil)) (.lit (.int (2)))) (.ret (.lit .non)) .skip) (.seq (.asg (.tp (.cons (.nm 2) (.cons (.nm 3) .nil))) (.tup (.cons (.ml (.disp .nil)) (.cons (.ml (.disp .nil)) .nil)))) (.seq (.for_ (.nm 1) (.rng1 (.blt .len (.cons (.var 0) .nil))) (.for_ (.nm 4) (.rng1 (.var 1)) (.seq (.asg (.nm 5) (.bin .Sub (.ix (.ix (.var 0) (.var 1)) (.lit (.int (0)))) (.ix (.ix (.var 0) (.var 4)) (.lit (.int (0)))))) (.seq (.ex (.meth .append (.var 2) (.cons (.neg (.bin .FloorDiv (.bin .Sub (.ix (.ix (.var 0) (.var 4)) (.lit (.int (2)))) (.ix (.ix (.var 0) (.var 1)) (.lit (.int (1))))) (.var 5))) .nil))) (.ex (.meth .append (.var 3) (.cons (.bin .FloorDiv (.bin .Sub (.ix (.ix (.var 0) (.var 1)) (.lit (.int (2)))) (.ix (.ix (.var 0) (.var 4)) (.lit (.int (1))))) (.var 5)) .nil))))))) (.ret (.ife (.cmp .LtE (.blt .max1 (.cons (.var 2) .nil)) (.blt .min1 (.cons (.var 3) .nil))) (.tup (.cons (.blt .max1 (.cons (.var 2) .nil)) (.cons (.blt .min1 (.cons (.var 3) .nil)) .nil))) (.lit .non)))))))⟩
/-- steady: reports, speed, lows, highs, hour, low, high -/
def i_steady : Fd := ⟨2, 7, (.seq (.ex (.pcall 12 (.cons (.var 0) .nil))) (.seq (.ife (.not_ (.pcall 2 (.cons (.var 1) .nil))) (.rais 3 (.lit (.str (Str.ofString "speed")))) .skip) (.seq (.asg (.nm 2) (.il (.comp (.bin .Sub (.var 5) (.bin .Mult (.var 1) (.var 4))) [4, 5, 6] (.tp (.cons (.nm 4) (.cons (.nm 5) (.cons (.nm 6) .nil)))) (.val (.var 0)) .omit))) (.seq (.asg (.nm 3) (.il (.comp (.bin .Sub (.var 6) (.bin .Mult (.var 1) (.var 4))) [4, 5, 6] (.tp (.cons (.nm 4) (.cons (.nm 5) (.cons (.nm 6) .nil)))) (.val (.var 0)) .omit))) (.ret (.ife (.cmp .LtE (.blt .max1 (.cons (.var 2) .nil)) (.blt .min1 (.cons (.var 3) .nil))) (.tup (.cons (.blt .max1 (.cons (.var 2) .nil)) (.cons (.blt .min1 (.cons (.var 3) .nil)) .nil))) (.lit .non)))))))⟩
/-- _law_start: script, seed, cell -/
def i__law_start : Fd := ⟨1, 3, (.seq (.asg (.nm 1) (.lit (.int (7)))) (.seq (.for_ (.nm 2) (.val (.var 0)) (.asg (.nm 1) (.bin .Add (.bin .Mod (.blt .int (.cons (.bin .Add (.bin .Mult (.var 1) (.lit (.int (48271)))) (.var 2)) .nil)) (.lit (.int (2147483629)))) (.lit (.int (1)))))) (.ret (.ml (.disp (.cons (.blt .list (.cons (.var 0) .nil)) (.cons (.lit (.int (0))) (.cons (.lit (.int (0))) (.cons (.var 1) .nil)))))))))⟩
/-- _law_draw: cur, many, drawn -/
def i__law_draw : Fd := ⟨2, 3, (.seq (.ife (.and_ (.cmp .Eq (.ix (.var 0) (.lit (.int (1)))) (.lit (.int (0)))) (.cmp .GtE (.ix (.var 0) (.lit (.int (2)))) (.blt .len (.cons (.ix (.var 0) (.lit (.int (0)))) .nil)))) (.seq (.set (.var 0) (.lit (.int (3))) (.bin .Mod (.blt .int (.cons (.bin .Add (.bin .Mult (.ix (.var 0) (.lit (.int (3)))) (.lit (.int (48271)))) (.lit (.int (69621)))) .nil)) (.lit (.int (2147483629))))) (.ret (.bin .Mod (.blt .int (.cons (.bin .FloorDiv (.ix (.var 0) (.lit (.int (3)))) (.lit (.int (13)))) .nil)) (.var 1)))) .skip) (.seq (.ife (.cmp .Eq (.ix (.var 0) (.lit (.int (1)))) (.lit (.int (0)))) (.seq (.set (.var 0) (.lit (.int (1))) (.blt .abs (.cons (.ix (.ix (.var 0) (.lit (.int (0)))) (.ix (.var 0) (.lit (.int (2))))) .nil))) (.set (.var 0) (.lit (.int (2))) (.bin .Add (.ix (.var 0) (.lit (.int (2)))) (.lit (.int (1)))))) .skip) (.seq (.asg (.nm 2) (.bin .Mod (.blt .int (.cons (.ix (.var 0) (.lit (.int (1)))) .nil)) (.var 1))) (.seq (.set (.var 0) (.lit (.int (1))) (.bin .FloorDiv (.ix (.var 0) (.lit (.int (1)))) (.var 1))) (.ret (.var 2))))))⟩
/-- _law_pick: cur, some -/
def i__law_pick : Fd := ⟨2, 2, (.ret (.ix (.var 1) (.call 22 (.cons (.var 0) (.cons (.blt .len (.cons (.var 1) .nil)) .nil)))))⟩
/-- _law_same: actual, due -/
def i__law_same : Fd := ⟨2, 2, (.ret (.and_ (.cmp .Eq (.var 0) (.var 1)) (.cmp .Eq (.blt .repr (.cons (.var 0) .nil)) (.blt .repr (.cons (.var 1) .nil)))))⟩
/-- _law_word: error, heads, kinds_of -/
def i__law_word : Fd := ⟨1, 3, (.seq (.asg (.nm 1) (.il (.disp (.cons (.lit (.str (Str.ofString "storm "))) (.cons (.lit (.str (Str.ofString "argument "))) (.cons (.lit (.str (Str.ofString "paper "))) (.cons (.lit (.str (Str.ofString "many "))) .nil))))))) (.seq (.asg (.nm 2) (.il (.disp (.cons (.isC (.var 0) 2) (.cons (.isC (.var 0) 3) (.cons (.isC (.var 0) 4) (.cons (.isC (.var 0) 5) (.cons (.isC (.var 0) 1) .nil)))))))) (.seq (.ife (.or_ (.cmp .NotEq (.meth .count (.var 2) (.cons (.lit (.bl true)) .nil)) (.lit (.int (1)))) (.not_ (.isC (.var 0) 99))) (.ret (.lit (.str (Str.ofString "other")))) .skip) (.ret (.ife (.ix (.var 2) (.lit (.int (4)))) (.bin .Add (.lit (.str (Str.ofString "text "))) (.blt .str (.cons (.attr (.var 0) 101) .nil))) (.bin .Add (.ix (.var 1) (.meth .index (.var 2) (.cons (.lit (.bl true)) .nil))) (.attr (.var 0) 100)))))))⟩
/-- _law_called: call, some -/
def i__law_called : Fd := ⟨2, 2, (.seq (.ife (.cmp .Lt (.blt .len (.cons (.var 1) .nil)) (.lit (.int (3)))) (.ret (.ife (.cmp .Eq (.blt .len (.cons (.var 1) .nil)) (.lit (.int (1)))) (.pvcall 0 (.cons (.ix (.var 1) (.lit (.int (0)))) .nil)) (.pvcall 0 (.cons (.ix (.var 1) (.lit (.int (0)))) (.cons (.ix (.var 1) (.lit (.int (1)))) .nil))))) .skip) (.seq (.ife (.cmp .Lt (.blt .len (.cons (.var 1) .nil)) (.lit (.int (5)))) (.ret (.ife (.cmp .Eq (.blt .len (.cons (.var 1) .nil)) (.lit (.int (3)))) (.pvcall 0 (.cons (.ix (.var 1) (.lit (.int (0)))) (.cons (.ix (.var 1) (.lit (.int (1)))) (.cons (.ix (.var 1) (.lit (.int (2)))) .nil)))) (.pvcall 0 (.cons (.ix (.var 1) (.lit (.int (0)))) (.cons (.ix (.var 1) (.lit (.int (1)))) (.cons (.ix (.var 1) (.lit (.int (2)))) (.cons (.ix (.var 1) (.lit (.int (3)))) .nil))))))) .skip) (.seq (.ife (.cmp .Eq (.blt .len (.cons (.var 1) .nil)) (.lit (.int (7)))) (.ret (.pvcall 0 (.cons (.ix (.var 1) (.lit (.int (0)))) (.cons (.ix (.var 1) (.lit (.int (1)))) (.cons (.ix (.var 1) (.lit (.int (2)))) (.cons (.ix (.var 1) (.lit (.int (3)))) (.cons (.ix (.var 1) (.lit (.int (4)))) (.cons (.ix (.var 1) (.lit (.int (5)))) (.cons (.ix (.var 1) (.lit (.int (6)))) .nil))))))))) .skip) (.ret (.ife (.cmp .Eq (.blt .len (.cons (.var 1) .nil)) (.lit (.int (5)))) (.pvcall 0 (.cons (.ix (.var 1) (.lit (.int (0)))) (.cons (.ix (.var 1) (.lit (.int (1)))) (.cons (.ix (.var 1) (.lit (.int (2)))) (.cons (.ix (.var 1) (.lit (.int (3)))) (.cons (.ix (.var 1) (.lit (.int (4)))) .nil)))))) (.pvcall 0 (.cons (.ix (.var 1) (.lit (.int (0)))) (.cons (.ix (.var 1) (.lit (.int (1)))) (.cons (.ix (.var 1) (.lit (.int (2)))) (.cons (.ix (.var 1) (.lit (.int (3)))) (.cons (.ix (.var 1) (.lit (.int (4)))) (.cons (.ix (.var 1) (.lit (.int (5)))) .nil))))))))))))⟩
/-- _law_asked: call, some, error -/
def i__law_asked : Fd := ⟨2, 3, (.try_ (.ret (.il (.disp (.cons (.pcall 26 (.cons (.var 0) (.cons (.var 1) .nil))) .nil)))) 0 2 (.ret (.call 25 (.cons (.var 2) .nil))))⟩
/-- _law_bent: cur, content, at, pick -/
def i__law_bent : Fd := ⟨2, 4, (.seq (.ife (.and_ (.isI (.var 1) .int) (.and_ (.not_ (.isI (.var 1) .bool)) (.cmp .Gt (.call 22 (.cons (.var 0) (.cons (.lit (.int (4))) .nil))) (.lit (.int (0)))))) (.ret (.bin .Add (.var 1) (.call 23 (.cons (.var 0) (.cons (.il (.disp (.cons (.lit (.int (1))) (.cons (.neg (.lit (.int (1)))) (.cons (.lit (.int (2))) (.cons (.neg (.lit (.int (2)))) (.cons (.lit (.int (40))) .nil))))))) .nil))))) .skip) (.seq (.ife (.or_ (.not_ (.isI (.var 1) .tuple)) (.or_ (.not_ (.var 1)) (.cmp .Eq (.call 22 (.cons (.var 0) (.cons (.lit (.int (9))) .nil))) (.lit (.int (0)))))) (.ret (.call 23 (.cons (.var 0) (.cons (.il (.disp (.cons (.lit .non) (.cons (.lit (.bl true)) (.cons (.lit (.bl false)) (.cons (.lit (.int (0))) (.cons (.lit (.int (1))) (.cons (.neg (.lit (.int (1)))) (.cons (.lit (.str (Str.ofString ""))) (.cons (.lit (.str (Str.ofString "a"))) (.cons (.tup .nil) (.cons (.tup (.cons (.lit (.int (0))) .nil)) (.cons (.tup (.cons (.lit (.int (1))) .nil)) (.cons (.tup (.cons (.lit .non) .nil)) (.cons (.tup (.cons (.lit (.bl true)) .nil)) (.cons (.tup (.cons (.lit (.int (0))) (.cons (.lit (.int (0))) .nil))) (.cons (.tup (.cons (.lit (.int (0))) (.cons (.lit (.int (1))) .nil))) (.cons (.tup (.cons (.tup (.cons (.lit (.int (0))) .nil)) .nil)) (.cons (.bin .Pow (.lit (.int (10))) (.lit (.int (30)))) .nil))))))))))))))))))) .nil)))) .skip) (.seq (.asg (.tp (.cons (.nm 2) (.cons (.nm 3) .nil))) (.tup (.cons (.call 22 (.cons (.var 0) (.cons (.blt .len (.cons (.var 1) .nil)) .nil))) (.cons (.call 22 (.cons (.var 0) (.cons (.lit (.int (7))) .nil))) .nil)))) (.seq (.ife (.cmp .Lt (.var 3) (.lit (.int (2)))) (.ret (.ife (.cmp .Eq (.var 3) (.lit (.int (0)))) (.bin .Add (.sl (.var 1) .omit (.var 2)) (.sl (.var 1) (.bin .Add (.var 2) (.lit (.int (1)))) .omit)) (.bin .Add (.bin .Add (.sl (.var 1) .omit (.var 2)) (.sl (.var 1) (.var 2) (.bin .Add (.var 2) (.lit (.int (1)))))) (.sl (.var 1) (.var 2) .omit)))) .skip) (.seq (.ife (.and_ (.cmp .Eq (.var 3) (.lit (.int (2)))) (.cmp .Gt (.var 2) (.lit (.int (0))))) (.ret (.bin .Add (.bin .Add (.sl (.var 1) .omit (.bin .Sub (.var 2) (.lit (.int (1))))) (.tup (.cons (.ix (.var 1) (.var 2)) (.cons (.ix (.var 1) (.bin .Sub (.var 2) (.lit (.int (1))))) .nil)))) (.sl (.var 1) (.bin .Add (.var 2) (.lit (.int (1)))) .omit))) .skip) (.ret (.bin .Add (.bin .Add (.sl (.var 1) .omit (.var 2)) (.tup (.cons (.call 28 (.cons (.var 0) (.cons (.ix (.var 1) (.var 2)) .nil))) .nil))) (.sl (.var 1) (.bin .Add (.var 2) (.lit (.int (1)))) .omit))))))))⟩
/-- _law_is_whole: content, low, high -/
def i__law_is_whole : Fd := ⟨3, 3, (.ret (.and_ (.isI (.var 0) .int) (.and_ (.not_ (.isI (.var 0) .bool)) (.cmp2 .LtE .LtE (.var 1) (.var 0) (.var 2)))))⟩
/-- _law_is: told, due -/
def i__law_is : Fd := ⟨2, 2, (.ret (.ife (.cmp .Eq (.var 1) (.lit (.str (Str.ofString "")))) (.not_ (.isI (.var 0) .str)) (.cmp .Eq (.var 0) (.var 1))))⟩
/-- _law_any: value -/
def i__law_any : Fd := ⟨1, 1, (.ret (.pcall 29 (.cons (.var 0) (.cons (.bin .Sub (.lit (.int (0))) (.bin .Pow (.lit (.int (10))) (.lit (.int (60))))) (.cons (.bin .Pow (.lit (.int (10))) (.lit (.int (60)))) .nil)))))⟩
/-- _law_course_due: reports, slow, fast, places, k, hours, own -/
def i__law_course_due : Fd := ⟨4, 7, (.seq (.ife (.or_ (.not_ (.isI (.var 3) .tuple)) (.or_ (.cmp .NotEq (.blt .len (.cons (.var 3) .nil)) (.blt .len (.cons (.var 0) .nil))) (.il (.comp (.var 6) [6] (.nm 6) (.val (.var 3)) (.not_ (.pcall 31 (.cons (.var 6) .nil))))))) (.ret (.lit (.str (Str.ofString "paper form")))) .skip) (.seq (.ife (.il (.comp (.var 4) [4] (.nm 4) (.rng1 (.blt .len (.cons (.var 3) .nil))) (.not_ (.cmp2 .LtE .LtE (.ix (.ix (.var 0) (.var 4)) (.lit (.int (1)))) (.ix (.var 3) (.var 4)) (.ix (.ix (.var 0) (.var 4)) (.lit (.int (2)))))))) (.ret (.lit (.str (Str.ofString "paper report")))) .skip) (.seq (.for_ (.nm 4) (.rng2 (.lit (.int (1))) (.blt .len (.cons (.var 3) .nil))) (.seq (.asg (.nm 5) (.bin .Sub (.ix (.ix (.var 0) (.var 4)) (.lit (.int (0)))) (.ix (.ix (.var 0) (.bin .Sub (.var 4) (.lit (.int (1))))) (.lit (.int (0)))))) (.ife (.not_ (.cmp2 .LtE .LtE (.bin .Mult (.var 1) (.var 5)) (.bin .Sub (.ix (.var 3) (.var 4)) (.ix (.var 3) (.bin .Sub (.var 4) (.lit (.int (1)))))) (.bin .Mult (.var 2) (.var 5)))) (.ret (.lit (.str (Str.ofString "paper speed")))) .skip))) (.ret (.il (.disp (.cons (.lit .non) .nil)))))))⟩
/-- _law_against_due: reports, slow, fast, one, other, hours -/
def i__law_against_due : Fd := ⟨5, 6, (.seq (.ife (.or_ (.not_ (.pcall 29 (.cons (.var 3) (.cons (.lit (.int (0))) (.cons (.bin .Sub (.blt .len (.cons (.var 0) .nil)) (.lit (.int (1)))) .nil))))) (.not_ (.pcall 29 (.cons (.var 4) (.cons (.bin .Add (.var 3) (.lit (.int (1)))) (.cons (.bin .Sub (.blt .len (.cons (.var 0) .nil)) (.lit (.int (1)))) .nil)))))) (.ret (.lit (.str (Str.ofString "paper form")))) .skip) (.seq (.asg (.nm 5) (.bin .Sub (.ix (.ix (.var 0) (.var 4)) (.lit (.int (0)))) (.ix (.ix (.var 0) (.var 3)) (.lit (.int (0)))))) (.ret (.ife (.and_ (.cmp .LtE (.bin .Add (.ix (.ix (.var 0) (.var 3)) (.lit (.int (1)))) (.bin .Mult (.var 1) (.var 5))) (.ix (.ix (.var 0) (.var 4)) (.lit (.int (2))))) (.cmp .LtE (.ix (.ix (.var 0) (.var 4)) (.lit (.int (1)))) (.bin .Add (.ix (.ix (.var 0) (.var 3)) (.lit (.int (2)))) (.bin .Mult (.var 2) (.var 5))))) (.lit (.str (Str.ofString "paper suits"))) (.il (.disp (.cons (.lit .non) .nil)))))))⟩
/-- _law_papers_hold: cur, fast, k, wrong, slow, hour, here, rows, course, more, reports, some, told, at, one, other, own -/
def i__law_papers_hold : Fd := ⟨1, 17, (.seq (.asg (.tp (.cons (.nm 4) (.cons (.nm 5) (.cons (.nm 6) (.cons (.nm 7) (.cons (.nm 8) .nil)))))) (.tup (.cons (.bin .Sub (.call 22 (.cons (.var 0) (.cons (.lit (.int (5))) .nil))) (.lit (.int (2)))) (.cons (.lit (.int (0))) (.cons (.lit (.int (0))) (.cons (.ml (.disp .nil)) (.cons (.ml (.disp .nil)) .nil))))))) (.seq (.asg (.nm 1) (.bin .Add (.var 4) (.call 22 (.cons (.var 0) (.cons (.lit (.int (3))) .nil))))) (.seq (.for_ (.nm 2) (.rng1 (.bin .Add (.lit (.int (1))) (.call 22 (.cons (.var 0) (.cons (.lit (.int (5))) .nil))))) (.seq (.ex (.meth .append (.var 7) (.cons (.tup (.cons (.var 5) (.cons (.bin .Sub (.var 6) (.call 22 (.cons (.var 0) (.cons (.lit (.int (3))) .nil)))) (.cons (.bin .Add (.var 6) (.call 22 (.cons (.var 0) (.cons (.lit (.int (3))) .nil)))) .nil)))) .nil))) (.seq (.ex (.meth .append (.var 8) (.cons (.var 6) .nil))) (.seq (.asg (.nm 9) (.bin .Add (.lit (.int (1))) (.call 22 (.cons (.var 0) (.cons (.lit (.int (3))) .nil))))) (.asg (.tp (.cons (.nm 5) (.cons (.nm 6) .nil))) (.tup (.cons (.bin .Add (.var 5) (.var 9)) (.cons (.bin .Add (.bin .Add (.var 6) (.bin .Mult (.var 4) (.var 9))) (.call 22 (.cons (.var 0) (.cons (.bin .Add (.bin .Mult (.bin .Sub (.var 1) (.var 4)) (.var 9)) (.lit (.int (1)))) .nil)))) .nil)))))))) (.seq (.asg (.tp (.cons (.nm 10) (.cons (.nm 8) .nil))) (.tup (.cons (.blt .tuple (.cons (.var 7) .nil)) (.cons (.blt .tuple (.cons (.var 8) .nil)) .nil)))) (.seq (.asg (.nm 3) (.bin .Add (.sl (.var 10) .omit (.neg (.lit (.int (1))))) (.tup (.cons (.tup (.cons (.ix (.ix (.var 10) (.neg (.lit (.int (1))))) (.lit (.int (0)))) (.cons (.bin .Add (.ix (.ix (.var 10) (.neg (.lit (.int (1))))) (.lit (.int (1)))) (.lit (.int (9)))) (.cons (.bin .Add (.ix (.ix (.var 10) (.neg (.lit (.int (1))))) (.lit (.int (2)))) (.lit (.int (9)))) .nil)))) .nil)))) (.seq (.for_ (.nm 2) (.rng1 (.lit (.int (14)))) (.seq (.asg (.tp (.cons (.nm 13) (.cons (.nm 9) .nil))) (.tup (.cons (.call 22 (.cons (.var 0) (.cons (.blt .len (.cons (.var 8) .nil)) .nil))) (.cons (.bin .Sub (.call 22 (.cons (.var 0) (.cons (.lit (.int (7))) .nil))) (.lit (.int (3)))) .nil)))) (.seq (.asg (.nm 11) (.call 23 (.cons (.var 0) (.cons (.il (.disp (.cons (.var 8) (.cons (.var 8) (.cons (.bin .Add (.bin .Add (.sl (.var 8) .omit (.var 13)) (.tup (.cons (.bin .Add (.ix (.var 8) (.var 13)) (.var 9)) .nil))) (.sl (.var 8) (.bin .Add (.var 13) (.lit (.int (1)))) .omit)) (.cons (.blt .tuple (.cons (.il (.comp (.bin .Add (.var 16) (.var 9)) [16] (.nm 16) (.val (.var 8)) .omit)) .nil)) (.cons (.sl (.var 8) .omit (.neg (.lit (.int (1))))) (.cons (.call 28 (.cons (.var 0) (.cons (.var 8) .nil))) .nil)))))))) .nil)))) (.seq (.ife (.not_ (.pcall 24 (.cons (.pcall 27 (.cons (.fn 16) (.cons (.il (.disp (.cons (.var 10) (.cons (.var 4) (.cons (.var 1) (.cons (.var 11) .nil)))))) .nil))) (.cons (.pcall 32 (.cons (.var 10) (.cons (.var 4) (.cons (.var 1) (.cons (.var 11) .nil))))) .nil)))) (.ret (.lit (.bl false))) .skip) (.seq (.asg (.nm 12) (.call 23 (.cons (.var 0) (.cons (.il (.disp (.cons (.var 10) (.cons (.var 3) (.cons (.var 3) .nil))))) .nil)))) (.seq (.asg (.tp (.cons (.nm 14) (.cons (.nm 15) .nil))) (.tup (.cons (.call 23 (.cons (.var 0) (.cons (.il (.disp (.cons (.lit (.int (0))) (.cons (.lit (.int (0))) (.cons (.lit (.int (1))) (.cons (.bin .Sub (.blt .len (.cons (.var 7) .nil)) (.lit (.int (1)))) (.cons (.neg (.lit (.int (1)))) (.cons (.lit .non) (.cons (.lit (.bl false)) .nil))))))))) .nil))) (.cons (.call 23 (.cons (.var 0) (.cons (.il (.disp (.cons (.lit (.int (1))) (.cons (.bin .Sub (.blt .len (.cons (.var 7) .nil)) (.lit (.int (1)))) (.cons (.bin .Sub (.blt .len (.cons (.var 7) .nil)) (.lit (.int (1)))) (.cons (.blt .len (.cons (.var 7) .nil)) (.cons (.lit (.int (0))) (.cons (.lit .non) (.cons (.lit (.bl true)) .nil))))))))) .nil))) .nil)))) (.ife (.not_ (.pcall 24 (.cons (.pcall 27 (.cons (.fn 17) (.cons (.il (.disp (.cons (.var 12) (.cons (.var 4) (.cons (.var 1) (.cons (.var 14) (.cons (.var 15) .nil))))))) .nil))) (.cons (.pcall 33 (.cons (.var 12) (.cons (.var 4) (.cons (.var 1) (.cons (.var 14) (.cons (.var 15) .nil)))))) .nil)))) (.ret (.lit (.bl false))) .skip))))))) (.ret (.lit (.bl true)))))))))⟩
/-- _law_great_holds: cur, speed, reports, course, wrong, heard, k -/
def i__law_great_holds : Fd := ⟨1, 7, (.seq (.asg (.nm 1) (.bin .Sub (.call 22 (.cons (.var 0) (.cons (.bin .Mult (.lit (.int (2))) (.bin .Pow (.lit (.int (10))) (.lit (.int (9))))) .nil))) (.bin .Pow (.lit (.int (10))) (.lit (.int (9)))))) (.seq (.asg (.nm 2) (.blt .tuple (.cons (.il (.comp (.tup (.cons (.var 6) (.cons (.bin .Sub (.bin .Mult (.var 1) (.var 6)) (.lit (.int (1)))) (.cons (.bin .Add (.bin .Mult (.var 1) (.var 6)) (.lit (.int (1)))) .nil)))) [6] (.nm 6) (.rng1 (.lit (.int (60)))) .omit)) .nil))) (.seq (.asg (.nm 3) (.blt .tuple (.cons (.il (.comp (.bin .Mult (.var 1) (.var 6)) [6] (.nm 6) (.rng1 (.lit (.int (60)))) .omit)) .nil))) (.seq (.asg (.nm 4) (.bin .Add (.sl (.var 2) .omit (.neg (.lit (.int (1))))) (.tup (.cons (.tup (.cons (.lit (.int (59))) (.cons (.bin .Add (.bin .Mult (.var 1) (.lit (.int (59)))) (.lit (.int (2)))) (.cons (.bin .Add (.bin .Mult (.var 1) (.lit (.int (59)))) (.lit (.int (3)))) .nil)))) .nil)))) (.seq (.asg (.nm 5) (.ml (.disp (.cons (.pcall 27 (.cons (.fn 16) (.cons (.il (.disp (.cons (.var 2) (.cons (.var 1) (.cons (.var 1) (.cons (.var 3) .nil)))))) .nil))) (.cons (.pcall 27 (.cons (.fn 16) (.cons (.il (.disp (.cons (.var 2) (.cons (.var 1) (.cons (.var 1) (.cons (.bin .Add (.sl (.var 3) .omit (.neg (.lit (.int (1))))) (.tup (.cons (.bin .Add (.bin .Mult (.var 1) (.lit (.int (59)))) (.lit (.int (1)))) .nil))) .nil)))))) .nil))) .nil))))) (.seq (.ex (.meth .append (.var 5) (.cons (.pcall 27 (.cons (.fn 16) (.cons (.il (.disp (.cons (.var 2) (.cons (.var 1) (.cons (.var 1) (.cons (.bin .Add (.sl (.var 3) .omit (.neg (.lit (.int (1))))) (.tup (.cons (.bin .Add (.bin .Mult (.var 1) (.lit (.int (59)))) (.lit (.int (2)))) .nil))) .nil)))))) .nil))) .nil))) (.seq (.asg (.nm 5) (.mcat (.var 5) (.il (.disp (.cons (.pcall 27 (.cons (.fn 16) (.cons (.il (.disp (.cons (.var 2) (.cons (.var 1) (.cons (.bin .Add (.var 1) (.lit (.int (1)))) (.cons (.bin .Add (.sl (.var 3) .omit (.neg (.lit (.int (1))))) (.tup (.cons (.bin .Add (.bin .Mult (.var 1) (.lit (.int (59)))) (.lit (.int (1)))) .nil))) .nil)))))) .nil))) (.cons (.pcall 27 (.cons (.fn 16) (.cons (.il (.disp (.cons (.var 2) (.cons (.var 1) (.cons (.var 1) (.cons (.sl (.var 3) .omit (.neg (.lit (.int (1))))) .nil)))))) .nil))) .nil)))))) (.seq (.asg (.nm 5) (.mcat (.var 5) (.il (.disp (.cons (.pcall 27 (.cons (.fn 17) (.cons (.il (.disp (.cons (.var 4) (.cons (.var 1) (.cons (.var 1) (.cons (.lit (.int (0))) (.cons (.lit (.int (59))) .nil))))))) .nil))) (.cons (.pcall 27 (.cons (.fn 17) (.cons (.il (.disp (.cons (.var 2) (.cons (.var 1) (.cons (.var 1) (.cons (.lit (.int (0))) (.cons (.lit (.int (59))) .nil))))))) .nil))) .nil)))))) (.seq (.asg (.nm 5) (.mcat (.var 5) (.il (.disp (.cons (.pcall 27 (.cons (.fn 17) (.cons (.il (.disp (.cons (.var 4) (.cons (.var 1) (.cons (.bin .Add (.var 1) (.lit (.int (1)))) (.cons (.lit (.int (58))) (.cons (.lit (.int (59))) .nil))))))) .nil))) (.cons (.pcall 27 (.cons (.fn 17) (.cons (.il (.disp (.cons (.var 4) (.cons (.var 1) (.cons (.var 1) (.cons (.lit (.int (59))) (.cons (.lit (.int (59))) .nil))))))) .nil))) .nil)))))) (.seq (.ex (.meth .append (.var 5) (.cons (.pcall 27 (.cons (.fn 17) (.cons (.il (.disp (.cons (.var 4) (.cons (.var 1) (.cons (.var 1) (.cons (.lit (.int (0))) (.cons (.lit (.int (60))) .nil))))))) .nil))) .nil))) (.ret (.call 24 (.cons (.var 5) (.cons (.il (.disp (.cons (.il (.disp (.cons (.lit .non) .nil))) (.cons (.lit (.str (Str.ofString "paper speed"))) (.cons (.lit (.str (Str.ofString "paper report"))) (.cons (.il (.disp (.cons (.lit .non) .nil))) (.cons (.lit (.str (Str.ofString "paper form"))) (.cons (.il (.disp (.cons (.lit .non) .nil))) (.cons (.lit (.str (Str.ofString "paper suits"))) (.cons (.lit (.str (Str.ofString "paper suits"))) (.cons (.lit (.str (Str.ofString "paper form"))) (.cons (.lit (.str (Str.ofString "paper form"))) .nil)))))))))))) .nil))))))))))))))⟩
/-- _law_place: value -/
def i__law_place : Fd := ⟨1, 1, (.ret (.pcall 29 (.cons (.var 0) (.cons (.bin .Sub (.lit (.int (0))) (.bin .Pow (.lit (.int (10))) (.lit (.int (12))))) (.cons (.bin .Pow (.lit (.int (10))) (.lit (.int (12)))) .nil)))))⟩
/-- _law_is_storm: value, own -/
def i__law_is_storm : Fd := ⟨1, 2, (.seq (.ife (.or_ (.not_ (.isI (.var 0) .tuple)) (.or_ (.cmp .NotEq (.blt .len (.cons (.var 0) .nil)) (.lit (.int (5)))) (.il (.comp (.var 1) [1] (.nm 1) (.val (.var 0)) (.not_ (.pcall 36 (.cons (.var 1) .nil))))))) (.ret (.lit (.bl false))) .skip) (.ret (.and_ (.cmp .LtE (.ix (.var 0) (.lit (.int (0)))) (.ix (.var 0) (.lit (.int (1))))) (.and_ (.cmp .LtE (.ix (.var 0) (.lit (.int (2)))) (.ix (.var 0) (.lit (.int (3))))) (.cmp .GtE (.ix (.var 0) (.lit (.int (4)))) (.lit (.int (0))))))))⟩
/-- _law_are_reports: value, row, k -/
def i__law_are_reports : Fd := ⟨1, 3, (.seq (.ife (.or_ (.not_ (.isI (.var 0) .tuple)) (.or_ (.not_ (.cmp2 .LtE .LtE (.lit (.int (1))) (.blt .len (.cons (.var 0) .nil)) (.lit (.int (60))))) (.il (.comp (.var 1) [1] (.nm 1) (.val (.var 0)) (.or_ (.not_ (.isI (.var 1) .tuple)) (.cmp .NotEq (.blt .len (.cons (.var 1) .nil)) (.lit (.int (3))))))))) (.ret (.lit (.bl false))) .skip) (.seq (.ife (.il (.comp (.var 1) [1] (.nm 1) (.val (.var 0)) (.or_ (.not_ (.pcall 29 (.cons (.ix (.var 1) (.lit (.int (0)))) (.cons (.lit (.int (0))) (.cons (.lit (.int (1000))) .nil))))) (.or_ (.not_ (.pcall 36 (.cons (.ix (.var 1) (.lit (.int (1)))) .nil))) (.or_ (.not_ (.pcall 36 (.cons (.ix (.var 1) (.lit (.int (2)))) .nil))) (.cmp .Gt (.ix (.var 1) (.lit (.int (1)))) (.ix (.var 1) (.lit (.int (2)))))))))) (.ret (.lit (.bl false))) .skip) (.ret (.cmp .Eq (.il (.comp (.var 2) [2] (.nm 2) (.rng2 (.lit (.int (1))) (.blt .len (.cons (.var 0) .nil))) (.cmp .GtE (.ix (.ix (.var 0) (.bin .Sub (.var 2) (.lit (.int (1))))) (.lit (.int (0)))) (.ix (.ix (.var 0) (.var 2)) (.lit (.int (0))))))) (.il (.disp .nil))))))⟩
/-- _law_arguments_hold: cur, k, good, some, wild, storm, due, last, own, places, well, reports, heard, hour, place, slow, fast, call, one, j -/
def i__law_arguments_hold : Fd := ⟨1, 20, (.seq (.asg (.tp (.cons (.nm 2) (.cons (.nm 3) .nil))) (.tup (.cons (.tup (.cons (.neg (.lit (.int (3)))) (.cons (.lit (.int (5))) (.cons (.neg (.lit (.int (1)))) (.cons (.lit (.int (2))) (.cons (.lit (.int (4))) .nil)))))) (.cons (.tup (.cons (.tup (.cons (.lit (.int (0))) (.cons (.neg (.lit (.int (2)))) (.cons (.lit (.int (3))) .nil)))) (.cons (.tup (.cons (.lit (.int (4))) (.cons (.lit (.int (1))) (.cons (.lit (.int (9))) .nil)))) .nil))) .nil)))) (.seq (.for_ (.nm 1) (.rng1 (.lit (.int (12)))) (.seq (.asg (.nm 4) (.il (.disp (.cons (.tup (.cons (.lit (.int (0))) (.cons (.lit (.int (0))) (.cons (.lit (.int (0))) (.cons (.lit (.int (0))) (.cons (.lit (.int (0))) .nil)))))) (.cons (.tup (.cons (.lit (.int (1))) (.cons (.lit (.int (0))) (.cons (.lit (.int (0))) (.cons (.lit (.int (0))) (.cons (.lit (.int (0))) .nil)))))) (.cons (.tup (.cons (.lit (.int (0))) (.cons (.lit (.int (0))) (.cons (.lit (.int (1))) (.cons (.lit (.int (0))) (.cons (.lit (.int (0))) .nil)))))) (.cons (.tup (.cons (.lit (.int (0))) (.cons (.lit (.int (0))) (.cons (.lit (.int (0))) (.cons (.lit (.int (0))) (.cons (.neg (.lit (.int (1)))) .nil)))))) (.cons (.tup (.cons (.bin .Sub (.lit (.int (0))) (.bin .Pow (.lit (.int (10))) (.lit (.int (12))))) (.cons (.bin .Pow (.lit (.int (10))) (.lit (.int (12)))) (.cons (.bin .Sub (.lit (.int (0))) (.bin .Pow (.lit (.int (10))) (.lit (.int (12))))) (.cons (.bin .Pow (.lit (.int (10))) (.lit (.int (12)))) (.cons (.bin .Pow (.lit (.int (10))) (.lit (.int (12)))) .nil)))))) (.cons (.tup (.cons (.lit (.int (0))) (.cons (.bin .Add (.bin .Pow (.lit (.int (10))) (.lit (.int (12)))) (.lit (.int (1)))) (.cons (.lit (.int (0))) (.cons (.lit (.int (0))) (.cons (.lit (.int (0))) .nil)))))) .nil))))))))) (.seq (.asg (.nm 4) (.bin .Add (.var 4) (.il (.disp (.cons (.tup (.cons (.lit (.int (0))) (.cons (.lit (.int (0))) (.cons (.lit (.int (0))) (.cons (.lit (.int (0))) .nil))))) (.cons (.lit .non) (.cons (.tup (.cons (.lit (.bl true)) (.cons (.lit (.int (1))) (.cons (.lit (.int (0))) (.cons (.lit (.int (0))) (.cons (.lit (.int (0))) .nil)))))) .nil))))))) (.seq (.asg (.nm 5) (.call 23 (.cons (.var 0) (.cons (.il (.disp (.cons (.var 2) (.cons (.var 2) (.cons (.call 28 (.cons (.var 0) (.cons (.var 2) .nil))) (.cons (.call 23 (.cons (.var 0) (.cons (.var 4) .nil))) .nil)))))) .nil)))) (.seq (.asg (.nm 6) (.ife (.pcall 37 (.cons (.var 5) .nil)) (.lit (.str (Str.ofString ""))) (.lit (.str (Str.ofString "storm storm"))))) (.seq (.asg (.tp (.cons (.nm 13) (.cons (.nm 14) .nil))) (.tup (.cons (.call 23 (.cons (.var 0) (.cons (.il (.disp (.cons (.lit (.int (0))) (.cons (.lit (.int (20))) (.cons (.lit (.int (1001))) (.cons (.neg (.lit (.int (1)))) (.cons (.lit (.bl true)) (.cons (.lit .non) .nil)))))))) .nil))) (.cons (.call 23 (.cons (.var 0) (.cons (.il (.disp (.cons (.lit (.int (0))) (.cons (.bin .Pow (.lit (.int (10))) (.lit (.int (12)))) (.cons (.bin .Add (.bin .Pow (.lit (.int (10))) (.lit (.int (12)))) (.lit (.int (1)))) (.cons (.bin .Sub (.bin .Sub (.lit (.int (0))) (.bin .Pow (.lit (.int (10))) (.lit (.int (12))))) (.lit (.int (1)))) (.cons (.lit (.bl true)) (.cons (.lit .non) .nil)))))))) .nil))) .nil)))) (.seq (.asg (.nm 7) (.ife (.pcall 29 (.cons (.var 13) (.cons (.lit (.int (0))) (.cons (.lit (.int (1000))) .nil)))) (.lit (.str (Str.ofString ""))) (.lit (.str (Str.ofString "argument last"))))) (.seq (.ife (.not_ (.pcall 30 (.cons (.pcall 27 (.cons (.fn 5) (.cons (.il (.disp (.cons (.var 5) (.cons (.var 13) .nil)))) .nil))) (.cons (.ife (.cmp .NotEq (.var 6) (.lit (.str (Str.ofString "")))) (.var 6) (.ife (.cmp .Eq (.var 7) (.lit (.str (Str.ofString "")))) (.lit (.str (Str.ofString ""))) (.lit (.str (Str.ofString "argument hour"))))) .nil)))) (.ret (.lit (.bl false))) .skip) (.seq (.asg (.nm 8) (.ife (.cmp .NotEq (.var 6) (.lit (.str (Str.ofString "")))) (.var 6) (.ife (.pcall 36 (.cons (.var 14) .nil)) (.var 7) (.lit (.str (Str.ofString "argument place")))))) (.seq (.ife (.il (.comp (.var 17) [17] (.nm 17) (.val (.il (.disp (.cons (.fn 8) (.cons (.fn 9) .nil))))) (.not_ (.pcall 30 (.cons (.pcall 27 (.cons (.var 17) (.cons (.il (.disp (.cons (.var 5) (.cons (.var 14) (.cons (.var 13) .nil))))) .nil))) (.cons (.var 8) .nil)))))) (.ret (.lit (.bl false))) .skip) (.seq (.asg (.nm 9) (.call 23 (.cons (.var 0) (.cons (.il (.disp (.cons (.tup .nil) (.cons (.tup (.cons (.lit (.int (3))) (.cons (.neg (.lit (.int (5)))) .nil))) (.cons (.bin .Mult (.tup (.cons (.lit (.int (0))) .nil)) (.lit (.int (30)))) (.cons (.bin .Mult (.tup (.cons (.lit (.int (0))) .nil)) (.lit (.int (31)))) (.cons (.tup (.cons (.bin .Add (.bin .Pow (.lit (.int (10))) (.lit (.int (12)))) (.lit (.int (1)))) .nil)) (.cons (.tup (.cons (.lit (.bl true)) .nil)) (.cons (.lit .non) (.cons (.call 28 (.cons (.var 0) (.cons (.tup (.cons (.lit (.int (3))) (.cons (.neg (.lit (.int (5)))) .nil))) .nil))) .nil)))))))))) .nil)))) (.seq (.asg (.nm 10) (.and_ (.isI (.var 9) .tuple) (.and_ (.cmp .LtE (.blt .len (.cons (.var 9) .nil)) (.lit (.int (30)))) (.cmp .Eq (.il (.comp (.var 18) [18] (.nm 18) (.val (.var 9)) (.not_ (.pcall 36 (.cons (.var 18) .nil))))) (.il (.disp .nil)))))) (.seq (.ife (.not_ (.pcall 30 (.cons (.pcall 27 (.cons (.fn 10) (.cons (.il (.disp (.cons (.var 5) (.cons (.var 9) (.cons (.var 13) .nil))))) .nil))) (.cons (.ife (.cmp .NotEq (.var 6) (.lit (.str (Str.ofString "")))) (.var 6) (.ife (.var 10) (.var 7) (.lit (.str (Str.ofString "argument places"))))) .nil)))) (.ret (.lit (.bl false))) .skip) (.seq (.asg (.nm 4) (.il (.disp (.cons (.tup (.cons (.tup (.cons (.lit (.int (0))) (.cons (.lit (.int (0))) (.cons (.lit (.int (0))) .nil)))) .nil)) (.cons (.tup .nil) (.cons (.blt .tuple (.cons (.il (.comp (.tup (.cons (.var 19) (.cons (.lit (.int (0))) (.cons (.lit (.int (0))) .nil)))) [19] (.nm 19) (.rng1 (.lit (.int (60)))) .omit)) .nil)) (.cons (.blt .tuple (.cons (.il (.comp (.tup (.cons (.var 19) (.cons (.lit (.int (0))) (.cons (.lit (.int (0))) .nil)))) [19] (.nm 19) (.rng1 (.lit (.int (61)))) .omit)) .nil)) (.cons (.tup (.cons (.tup (.cons (.lit (.int (1000))) (.cons (.lit (.int (0))) (.cons (.lit (.int (0))) .nil)))) .nil)) (.cons (.tup (.cons (.tup (.cons (.lit (.int (1001))) (.cons (.lit (.int (0))) (.cons (.lit (.int (0))) .nil)))) .nil)) (.cons (.tup (.cons (.tup (.cons (.neg (.lit (.int (1)))) (.cons (.lit (.int (0))) (.cons (.lit (.int (0))) .nil)))) .nil)) (.cons (.tup (.cons (.tup (.cons (.lit (.int (0))) (.cons (.lit (.int (1))) (.cons (.lit (.int (0))) .nil)))) .nil)) .nil))))))))))) (.seq (.asg (.nm 4) (.bin .Add (.var 4) (.il (.disp (.cons (.tup (.cons (.tup (.cons (.lit (.int (0))) (.cons (.lit (.int (0))) (.cons (.bin .Add (.bin .Pow (.lit (.int (10))) (.lit (.int (12)))) (.lit (.int (1)))) .nil)))) .nil)) (.cons (.tup (.cons (.tup (.cons (.lit (.int (3))) (.cons (.lit (.int (0))) (.cons (.lit (.int (0))) .nil)))) (.cons (.tup (.cons (.lit (.int (3))) (.cons (.lit (.int (0))) (.cons (.lit (.int (0))) .nil)))) .nil))) (.cons (.tup (.cons (.tup (.cons (.lit (.int (3))) (.cons (.lit (.int (0))) (.cons (.lit (.int (0))) .nil)))) (.cons (.tup (.cons (.lit (.int (2))) (.cons (.lit (.int (0))) (.cons (.lit (.int (0))) .nil)))) .nil))) (.cons (.tup (.cons (.tup (.cons (.lit (.int (0))) (.cons (.lit (.int (0))) .nil))) .nil)) (.cons (.lit .non) (.cons (.tup (.cons (.tup (.cons (.lit (.bl false)) (.cons (.lit (.int (0))) (.cons (.lit (.int (0))) .nil)))) .nil)) .nil)))))))))) (.seq (.asg (.nm 11) (.call 23 (.cons (.var 0) (.cons (.il (.disp (.cons (.var 3) (.cons (.var 3) (.cons (.call 28 (.cons (.var 0) (.cons (.var 3) .nil))) (.cons (.call 28 (.cons (.var 0) (.cons (.var 3) .nil))) (.cons (.call 23 (.cons (.var 0) (.cons (.var 4) .nil))) .nil))))))) .nil)))) (.seq (.asg (.nm 6) (.ife (.pcall 38 (.cons (.var 11) .nil)) (.lit (.str (Str.ofString ""))) (.lit (.str (Str.ofString "storm reports"))))) (.seq (.asg (.tp (.cons (.nm 15) (.cons (.nm 16) .nil))) (.tup (.cons (.call 23 (.cons (.var 0) (.cons (.il (.disp (.cons (.lit (.int (0))) (.cons (.neg (.lit (.int (3)))) (.cons (.bin .Pow (.lit (.int (10))) (.lit (.int (12)))) (.cons (.bin .Add (.bin .Pow (.lit (.int (10))) (.lit (.int (12)))) (.lit (.int (1)))) (.cons (.lit (.bl true)) (.cons (.lit .non) .nil)))))))) .nil))) (.cons (.call 23 (.cons (.var 0) (.cons (.il (.disp (.cons (.lit (.int (0))) (.cons (.lit (.int (5))) (.cons (.bin .Sub (.lit (.int (0))) (.bin .Pow (.lit (.int (10))) (.lit (.int (12))))) (.cons (.bin .Pow (.lit (.int (10))) (.lit (.int (12)))) (.cons (.bin .Add (.bin .Pow (.lit (.int (10))) (.lit (.int (12)))) (.lit (.int (1)))) (.cons (.lit (.bl true)) (.cons (.lit .non) .nil))))))))) .nil))) .nil)))) (.seq (.asg (.nm 8) (.ife (.cmp .NotEq (.var 6) (.lit (.str (Str.ofString "")))) (.var 6) (.ife (.not_ (.pcall 36 (.cons (.var 15) .nil))) (.lit (.str (Str.ofString "argument slow"))) (.ife (.and_ (.pcall 36 (.cons (.var 16) .nil)) (.cmp .GtE (.var 16) (.var 15))) (.lit (.str (Str.ofString ""))) (.lit (.str (Str.ofString "argument fast"))))))) (.seq (.ife (.il (.comp (.var 17) [17] (.nm 17) (.val (.il (.disp (.cons (.fn 15) (.cons (.fn 18) .nil))))) (.not_ (.pcall 30 (.cons (.pcall 27 (.cons (.var 17) (.cons (.il (.disp (.cons (.var 11) (.cons (.var 15) (.cons (.var 16) .nil))))) .nil))) (.cons (.var 8) .nil)))))) (.ret (.lit (.bl false))) .skip) (.seq (.asg (.nm 12) (.il (.disp (.cons (.pcall 27 (.cons (.fn 16) (.cons (.il (.disp (.cons (.var 11) (.cons (.var 15) (.cons (.var 16) (.cons (.lit .non) .nil)))))) .nil))) (.cons (.pcall 27 (.cons (.fn 17) (.cons (.il (.disp (.cons (.var 11) (.cons (.var 15) (.cons (.var 16) (.cons (.lit .non) (.cons (.lit (.int (0))) .nil))))))) .nil))) .nil))))) (.seq (.ife (.or_ (.cmp .NotEq (.var 12) (.bin .Mult (.il (.disp (.cons (.ife (.cmp .NotEq (.var 8) (.lit (.str (Str.ofString "")))) (.var 8) (.lit (.str (Str.ofString "paper form")))) .nil))) (.lit (.int (2))))) (.not_ (.pcall 30 (.cons (.pcall 27 (.cons (.fn 19) (.cons (.il (.disp (.cons (.var 11) .nil))) .nil))) (.cons (.var 6) .nil))))) (.ret (.lit (.bl false))) .skip) (.ife (.not_ (.pcall 30 (.cons (.pcall 27 (.cons (.fn 20) (.cons (.il (.disp (.cons (.var 11) (.cons (.var 15) .nil)))) .nil))) (.cons (.ife (.cmp .NotEq (.var 6) (.lit (.str (Str.ofString "")))) (.var 6) (.ife (.pcall 36 (.cons (.var 15) .nil)) (.lit (.str (Str.ofString ""))) (.lit (.str (Str.ofString "argument speed"))))) .nil)))) (.ret (.lit (.bl false))) .skip))))))))))))))))))))))) (.ret (.lit (.bl true)))))⟩
/-- law: script, cur -/
def i_law : Fd := ⟨1, 2, (.seq (.asg (.nm 1) (.call 21 (.cons (.var 0) .nil))) (.ret (.and_ (.call 34 (.cons (.var 1) .nil)) (.and_ (.call 34 (.cons (.var 1) .nil)) (.and_ (.call 35 (.cons (.var 1) .nil)) (.call 39 (.cons (.var 1) .nil)))))))⟩
def mDs : List De := [⟨(Str.ofString "is_integer"), i_is_integer, [(Str.ofString "value")], false, none⟩,
  ⟨(Str.ofString "check_storm"), i_check_storm, [(Str.ofString "storm"), (Str.ofString "low"), (Str.ofString "high"), (Str.ofString "slow"), (Str.ofString "fast"), (Str.ofString "half"), (Str.ofString "own")], false, none⟩,
  ⟨(Str.ofString "is_place"), i_is_place, [(Str.ofString "value")], false, none⟩,
  ⟨(Str.ofString "check_hour"), i_check_hour, [(Str.ofString "hour"), (Str.ofString "reason")], false, some (.str (Str.ofString "hour"))⟩,
  ⟨(Str.ofString "check_place"), i_check_place, [(Str.ofString "place")], false, none⟩,
  ⟨(Str.ofString "middle_at"), i_middle_at, [(Str.ofString "storm"), (Str.ofString "hour")], false, none⟩,
  ⟨(Str.ofString "may_strike"), i_may_strike, [(Str.ofString "storm"), (Str.ofString "place"), (Str.ofString "hour"), (Str.ofString "low"), (Str.ofString "high")], false, none⟩,
  ⟨(Str.ofString "must_strike"), i_must_strike, [(Str.ofString "storm"), (Str.ofString "place"), (Str.ofString "hour"), (Str.ofString "low"), (Str.ofString "high")], false, none⟩,
  ⟨(Str.ofString "first_strike"), i_first_strike, [(Str.ofString "storm"), (Str.ofString "place"), (Str.ofString "last"), (Str.ofString "hour")], false, none⟩,
  ⟨(Str.ofString "struck_hours"), i_struck_hours, [(Str.ofString "storm"), (Str.ofString "place"), (Str.ofString "last"), (Str.ofString "hours"), (Str.ofString "may"), (Str.ofString "hour")], false, none⟩,
  ⟨(Str.ofString "safe_places"), i_safe_places, [(Str.ofString "storm"), (Str.ofString "places"), (Str.ofString "last"), (Str.ofString "found"), (Str.ofString "at"), (Str.ofString "place"), (Str.ofString "hour")], false, none⟩,
  ⟨(Str.ofString "check_places"), i_check_places, [(Str.ofString "places"), (Str.ofString "own")], false, none⟩,
  ⟨(Str.ofString "check_reports"), i_check_reports, [(Str.ofString "reports"), (Str.ofString "row"), (Str.ofString "at"), (Str.ofString "own")], false, none⟩,
  ⟨(Str.ofString "check_speeds"), i_check_speeds, [(Str.ofString "slow"), (Str.ofString "fast"), (Str.ofString "reason"), (Str.ofString "own")], false, none⟩,
  ⟨(Str.ofString "spans_forward"), i_spans_forward, [(Str.ofString "reports"), (Str.ofString "slow"), (Str.ofString "fast"), (Str.ofString "found"), (Str.ofString "at"), (Str.ofString "hour"), (Str.ofString "low"), (Str.ofString "high"), (Str.ofString "hours")], false, none⟩,
  ⟨(Str.ofString "judge_reports"), i_judge_reports, [(Str.ofString "reports"), (Str.ofString "slow"), (Str.ofString "fast"), (Str.ofString "spans"), (Str.ofString "at"), (Str.ofString "hours"), (Str.ofString "low"), (Str.ofString "high")], false, none⟩,
  ⟨(Str.ofString "accept_course"), i_accept_course, [(Str.ofString "reports"), (Str.ofString "slow"), (Str.ofString "fast"), (Str.ofString "places"), (Str.ofString "at"), (Str.ofString "hours"), (Str.ofString "place"), (Str.ofString "hour"), (Str.ofString "low"), (Str.ofString "high"), (Str.ofString "own")], false, none⟩,
  ⟨(Str.ofString "accept_against"), i_accept_against, [(Str.ofString "reports"), (Str.ofString "slow"), (Str.ofString "fast"), (Str.ofString "one"), (Str.ofString "other"), (Str.ofString "hours"), (Str.ofString "low"), (Str.ofString "high"), (Str.ofString "own")], false, none⟩,
  ⟨(Str.ofString "first_against"), i_first_against, [(Str.ofString "reports"), (Str.ofString "slow"), (Str.ofString "fast"), (Str.ofString "other"), (Str.ofString "one"), (Str.ofString "hours"), (Str.ofString "low"), (Str.ofString "high")], false, none⟩,
  ⟨(Str.ofString "whole_speeds"), i_whole_speeds, [(Str.ofString "reports"), (Str.ofString "other"), (Str.ofString "lows"), (Str.ofString "highs"), (Str.ofString "one"), (Str.ofString "hours")], false, none⟩,
  ⟨(Str.ofString "steady"), i_steady, [(Str.ofString "reports"), (Str.ofString "speed"), (Str.ofString "lows"), (Str.ofString "highs"), (Str.ofString "hour"), (Str.ofString "low"), (Str.ofString "high")], false, none⟩,
  ⟨(Str.ofString "_law_start"), i__law_start, [(Str.ofString "script"), (Str.ofString "seed"), (Str.ofString "cell")], false, none⟩,
  ⟨(Str.ofString "_law_draw"), i__law_draw, [(Str.ofString "cur"), (Str.ofString "many"), (Str.ofString "drawn")], false, none⟩,
  ⟨(Str.ofString "_law_pick"), i__law_pick, [(Str.ofString "cur"), (Str.ofString "some")], false, none⟩,
  ⟨(Str.ofString "_law_same"), i__law_same, [(Str.ofString "actual"), (Str.ofString "due")], false, none⟩,
  ⟨(Str.ofString "_law_word"), i__law_word, [(Str.ofString "error"), (Str.ofString "heads"), (Str.ofString "kinds_of")], true, none⟩,
  ⟨(Str.ofString "_law_called"), i__law_called, [(Str.ofString "call"), (Str.ofString "some")], false, none⟩,
  ⟨(Str.ofString "_law_asked"), i__law_asked, [(Str.ofString "call"), (Str.ofString "some"), (Str.ofString "error")], false, none⟩,
  ⟨(Str.ofString "_law_bent"), i__law_bent, [(Str.ofString "cur"), (Str.ofString "content"), (Str.ofString "at"), (Str.ofString "pick")], false, none⟩,
  ⟨(Str.ofString "_law_is_whole"), i__law_is_whole, [(Str.ofString "content"), (Str.ofString "low"), (Str.ofString "high")], false, none⟩,
  ⟨(Str.ofString "_law_is"), i__law_is, [(Str.ofString "told"), (Str.ofString "due")], false, none⟩,
  ⟨(Str.ofString "_law_any"), i__law_any, [(Str.ofString "value")], false, none⟩,
  ⟨(Str.ofString "_law_course_due"), i__law_course_due, [(Str.ofString "reports"), (Str.ofString "slow"), (Str.ofString "fast"), (Str.ofString "places"), (Str.ofString "k"), (Str.ofString "hours"), (Str.ofString "own")], false, none⟩,
  ⟨(Str.ofString "_law_against_due"), i__law_against_due, [(Str.ofString "reports"), (Str.ofString "slow"), (Str.ofString "fast"), (Str.ofString "one"), (Str.ofString "other"), (Str.ofString "hours")], false, none⟩,
  ⟨(Str.ofString "_law_papers_hold"), i__law_papers_hold, [(Str.ofString "cur"), (Str.ofString "fast"), (Str.ofString "k"), (Str.ofString "wrong"), (Str.ofString "slow"), (Str.ofString "hour"), (Str.ofString "here"), (Str.ofString "rows"), (Str.ofString "course"), (Str.ofString "more"), (Str.ofString "reports"), (Str.ofString "some"), (Str.ofString "told"), (Str.ofString "at"), (Str.ofString "one"), (Str.ofString "other"), (Str.ofString "own")], false, none⟩,
  ⟨(Str.ofString "_law_great_holds"), i__law_great_holds, [(Str.ofString "cur"), (Str.ofString "speed"), (Str.ofString "reports"), (Str.ofString "course"), (Str.ofString "wrong"), (Str.ofString "heard"), (Str.ofString "k")], false, none⟩,
  ⟨(Str.ofString "_law_place"), i__law_place, [(Str.ofString "value")], false, none⟩,
  ⟨(Str.ofString "_law_is_storm"), i__law_is_storm, [(Str.ofString "value"), (Str.ofString "own")], false, none⟩,
  ⟨(Str.ofString "_law_are_reports"), i__law_are_reports, [(Str.ofString "value"), (Str.ofString "row"), (Str.ofString "k")], false, none⟩,
  ⟨(Str.ofString "_law_arguments_hold"), i__law_arguments_hold, [(Str.ofString "cur"), (Str.ofString "k"), (Str.ofString "good"), (Str.ofString "some"), (Str.ofString "wild"), (Str.ofString "storm"), (Str.ofString "due"), (Str.ofString "last"), (Str.ofString "own"), (Str.ofString "places"), (Str.ofString "well"), (Str.ofString "reports"), (Str.ofString "heard"), (Str.ofString "hour"), (Str.ofString "place"), (Str.ofString "slow"), (Str.ofString "fast"), (Str.ofString "call"), (Str.ofString "one"), (Str.ofString "j")], false, none⟩,
  ⟨(Str.ofString "law"), i_law, [(Str.ofString "script"), (Str.ofString "cur")], false, none⟩]
def mCs : List Ce := [⟨(Str.ofString "SignalError"), (Str.ofString ""), false⟩, ⟨(Str.ofString "TextError"), (Str.ofString "at"), true⟩, ⟨(Str.ofString "StormError"), (Str.ofString "reason"), true⟩, ⟨(Str.ofString "ArgumentError"), (Str.ofString "reason"), true⟩, ⟨(Str.ofString "PaperError"), (Str.ofString "reason"), true⟩, ⟨(Str.ofString "TooMany"), (Str.ofString "reason"), true⟩]
def mGs : List (Str × GV) := [((Str.ofString "len"), .bi "len"),
  ((Str.ofString "all"), .bi "all"),
  ((Str.ofString "abs"), .bi "abs"),
  ((Str.ofString "max"), .bi "max"),
  ((Str.ofString "min"), .bi "min"),
  ((Str.ofString "repr"), .bi "repr"),
  ((Str.ofString "isinstance"), .bi "isinstance"),
  ((Str.ofString "tuple"), .ty "tuple"),
  ((Str.ofString "list"), .ty "list"),
  ((Str.ofString "int"), .ty "int"),
  ((Str.ofString "str"), .ty "str"),
  ((Str.ofString "bool"), .ty "bool"),
  ((Str.ofString "range"), .ty "range"),
  ((Str.ofString "enumerate"), .ty "enumerate"),
  ((Str.ofString "zip"), .ty "zip"),
  ((Str.ofString "ValueError"), .ty "ValueError"),
  ((Str.ofString "is_integer"), .fn 0),
  ((Str.ofString "check_storm"), .fn 1),
  ((Str.ofString "is_place"), .fn 2),
  ((Str.ofString "check_hour"), .fnD 3 (.str (Str.ofString "hour"))),
  ((Str.ofString "check_place"), .fn 4),
  ((Str.ofString "middle_at"), .fn 5),
  ((Str.ofString "may_strike"), .fn 6),
  ((Str.ofString "must_strike"), .fn 7),
  ((Str.ofString "first_strike"), .fn 8),
  ((Str.ofString "struck_hours"), .fn 9),
  ((Str.ofString "safe_places"), .fn 10),
  ((Str.ofString "check_places"), .fn 11),
  ((Str.ofString "check_reports"), .fn 12),
  ((Str.ofString "check_speeds"), .fn 13),
  ((Str.ofString "spans_forward"), .fn 14),
  ((Str.ofString "judge_reports"), .fn 15),
  ((Str.ofString "accept_course"), .fn 16),
  ((Str.ofString "accept_against"), .fn 17),
  ((Str.ofString "first_against"), .fn 18),
  ((Str.ofString "whole_speeds"), .fn 19),
  ((Str.ofString "steady"), .fn 20),
  ((Str.ofString "_law_start"), .fn 21),
  ((Str.ofString "_law_draw"), .fn 22),
  ((Str.ofString "_law_pick"), .fn 23),
  ((Str.ofString "_law_same"), .fn 24),
  ((Str.ofString "_law_word"), .wd 25),
  ((Str.ofString "_law_called"), .fn 26),
  ((Str.ofString "_law_asked"), .fn 27),
  ((Str.ofString "_law_bent"), .fn 28),
  ((Str.ofString "_law_is_whole"), .fn 29),
  ((Str.ofString "_law_is"), .fn 30),
  ((Str.ofString "_law_any"), .fn 31),
  ((Str.ofString "_law_course_due"), .fn 32),
  ((Str.ofString "_law_against_due"), .fn 33),
  ((Str.ofString "_law_papers_hold"), .fn 34),
  ((Str.ofString "_law_great_holds"), .fn 35),
  ((Str.ofString "_law_place"), .fn 36),
  ((Str.ofString "_law_is_storm"), .fn 37),
  ((Str.ofString "_law_are_reports"), .fn 38),
  ((Str.ofString "_law_arguments_hold"), .fn 39),
  ((Str.ofString "law"), .fn 40),
  ((Str.ofString "MAX_HOURS"), .cst (.int (1000))),
  ((Str.ofString "MAX_SIZE"), .cst (.int (1000000000000))),
  ((Str.ofString "MAX_PLACES"), .cst (.int (30))),
  ((Str.ofString "MAX_ROWS"), .cst (.int (60))),
  ((Str.ofString "SignalError"), .cls 0 false),
  ((Str.ofString "TextError"), .cls 1 true),
  ((Str.ofString "StormError"), .cls 2 true),
  ((Str.ofString "ArgumentError"), .cls 3 true),
  ((Str.ofString "PaperError"), .cls 4 true),
  ((Str.ofString "TooMany"), .cls 5 true)]
def mTb : List (List Nat) := [[0, 99], [1, 0, 99], [2, 0, 99], [3, 0, 99], [4, 0, 99], [5, 0, 99]]
def mM : Md := ⟨mDs, mCs, mGs, mTb⟩
def mLaw : Nat := 40
end Ci

set_option Elab.async false
set_option linter.all false
set_option maxRecDepth 100000
set_option maxHeartbeats 4000000
namespace Pl
open PySem Ci
/-! ### a kit for plain laws: the evaluator's steps as rules for simp; what follows a step has a name, so that simp does not look into it -/
section
variable {α β : Type}
@[simp ↓] theorem bindOk (a : α) (h : Hs) (f : α → Hs → R β) : (R.ok a h).bind f = f a h := rfl
@[simp ↓] theorem bindExc (c : Nat) (v : D) (h : Hs) (f : α → Hs → R β) : (R.exc c v h : R α).bind f = .exc c v h := rfl
@[simp ↓] theorem bindBad (f : α → Hs → R β) : (R.bad : R α).bind f = .bad := rfl
@[simp ↓] theorem stOk (a : α) (h : Hs) (S : Sl) (f : α → Hs → RS) : (R.ok a h).st S f = f a h := rfl
@[simp ↓] theorem stExc (c : Nat) (v : D) (h : Hs) (S : Sl) (f : α → Hs → RS) : (R.exc c v h : R α).st S f = .exc c v S h := rfl
@[simp ↓] theorem atNx (S : Sl) (h : Hs) (f : Sl → Hs → RS) : (RS.nx S h).andThen f = f S h := rfl
@[simp ↓] theorem atRt (d : D) (h : Hs) (f : Sl → Hs → RS) : (RS.rt d h).andThen f = .rt d h := rfl
@[simp ↓] theorem atExc (c : Nat) (v : D) (S : Sl) (h : Hs) (f : Sl → Hs → RS) : (RS.exc c v S h).andThen f = .exc c v S h := rfl
@[simp] theorem liftSome (a : α) (h : Hs) : liftO (some a) h = .ok a h := rfl
end
/-! what is read -/
theorem rdCl {h : Hs} {d : D} (c : d.clear = true) : rd h d = d := by
  cases d <;> first | rfl | (simp [D.clear] at c)
@[simp] theorem rdInt (h : Hs) (i : Int) : rd h (.int i) = .int i := rfl
@[simp] theorem rdNon (h : Hs) : rd h .non = .non := rfl
@[simp] theorem rdBl (h : Hs) (b : Bool) : rd h (.bl b) = .bl b := rfl
@[simp] theorem rdStr (h : Hs) (b : Str) : rd h (.str b) = .str b := rfl
@[simp] theorem rdTup (h : Hs) (b : List D) : rd h (.tup b) = .tup b := rfl
@[simp] theorem rdLst (h : Hs) (b : List D) : rd h (.lst b) = .lst b := rfl
@[simp] theorem rdScr (h : Hs) (b : List D) : rd h (.scr b) = .scr b := rfl
@[simp] theorem rdFn (h : Hs) (b : Nat) : rd h (.fn b) = .fn b := rfl
@[simp] theorem rdRef (xs : List D) (r : Hs) : rd (.lst xs :: r) (.ref 0) = .lst xs := rfl
theorem callS (sub : Nat → Nat → Bool) (P : Nat → Option Fd) (k f : Nat) (ds : List D) (h : Hs) (fd : Fd) (e : P f = some fd) : callF sub P (k + 1) f ds h = callB sub (callF sub P k) fd ds h := by
  simp only [callF, e]
theorem okLt {n : Nat} (h : n ≤ 100000) : okL n = true := decide_eq_true (by unfold sizeLine; omega)
@[simp] theorem okC (n : Nat) : okL n = decide (n ≤ 16777216) := rfl
/-- o[k] = v -/
def setO (S : Sl) (o k v : D) (h3 : Hs) : RS := setK o k v h3 fun h4 => .nx S h4
def cond1 {α : Type} (a b : R α) : Bool → R α
  | true => a
  | false => b
section
variable {sub : Nat → Nat → Bool} {call : Nat → List D → Hs → R D} {S : Sl} {h h1 h2 h3 : Hs} {x y z d : D} {i j : Int} {a b c e : E} {es : Es} {op : Operator} {o o2 : CmpOp} {xs ys : List D}
def gVar : Option (Option D) → Hs → R D
  | some (some d), h => .ok d h
  | _, _ => .bad
@[simp] theorem gVar1 : gVar (some (some d)) h = .ok d h := rfl
@[simp] theorem evVar {i} : ev sub call (.var i) S h = gVar S[i]? h := by
  show (match S[i]? with
    | some (some d) => (.ok d h : R D)
    | _ => .bad) = _
  cases S[i]? with
  | none => rfl
  | some o => cases o <;> rfl
@[simp] theorem evLit : ev sub call (.lit d) S h = .ok d h := rfl
@[simp] theorem evGlb {g} : ev sub call (.glb g d) S h = .ok d h := rfl
@[simp] theorem evFn {i} : ev sub call (.fn i) S h = .ok (.fn i) h := rfl
def kBin2 (op : Operator) (x y : D) (h2 : Hs) : R D := liftO (binD op (rd h2 x) (rd h2 y)) h2
def kBin (sub : Nat → Nat → Bool) (call : Nat → List D → Hs → R D) (op : Operator) (b : E) (S : Sl) (x : D) (h1 : Hs) : R D := (ev sub call b S h1).bind (kBin2 op x)
@[simp] theorem evBin : ev sub call (.bin op a b) S h = (ev sub call a S h).bind (kBin sub call op b S) := rfl
@[simp] theorem kBin_ : kBin sub call op b S x h1 = (ev sub call b S h1).bind (kBin2 op x) := rfl
@[simp] theorem kBin2_ : kBin2 op x y h2 = liftO (binD op (rd h2 x) (rd h2 y)) h2 := rfl
def kNeg (x : D) (h1 : Hs) : R D := match x with
    | .int i => .ok (.int (-i)) h1
    | _ => .bad
@[simp] theorem evNeg : ev sub call (.neg a) S h = (ev sub call a S h).bind kNeg := rfl
@[simp] theorem kNeg_ : kNeg (.int i) h = .ok (.int (-i)) h := rfl
def notO : Option Bool → Option D
  | some b => some (.bl (!b))
  | none => none
@[simp] theorem notO_ {b} : notO (some b) = some (.bl (!b)) := rfl
def kNot (x : D) (h1 : Hs) : R D := liftO (notO (truD (rd h1 x))) h1
theorem notE (o : Option Bool) : (o.map fun b => D.bl (!b)) = notO o := by cases o <;> rfl
@[simp] theorem evNot : ev sub call (.not_ a) S h = (ev sub call a S h).bind kNot := by
  show (ev sub call a S h).bind _ = _
  congr 1
  funext x h1
  exact congrArg (liftO · h1) (notE _)
@[simp] theorem kNot_ : kNot x h1 = liftO (notO (truD (rd h1 x))) h1 := rfl
def kAnd2 (sub : Nat → Nat → Bool) (call : Nat → List D → Hs → R D) (b : E) (S : Sl) (x : D) (h1 : Hs) : Option Bool → R D
  | some true => ev sub call b S h1
  | some false => .ok x h1
  | none => .bad
@[simp] theorem kAnd2t : kAnd2 sub call b S x h1 (some true) = ev sub call b S h1 := rfl
@[simp] theorem kAnd2f : kAnd2 sub call b S x h1 (some false) = .ok x h1 := rfl
def kAnd (sub : Nat → Nat → Bool) (call : Nat → List D → Hs → R D) (b : E) (S : Sl) (x : D) (h1 : Hs) : R D := kAnd2 sub call b S x h1 (truD (rd h1 x))
@[simp] theorem kAnd_ : kAnd sub call b S x h1 = kAnd2 sub call b S x h1 (truD (rd h1 x)) := rfl
@[simp] theorem evAnd : ev sub call (.and_ a b) S h = (ev sub call a S h).bind (kAnd sub call b S) := by
  rfl
def kOr2 (sub : Nat → Nat → Bool) (call : Nat → List D → Hs → R D) (b : E) (S : Sl) (x : D) (h1 : Hs) : Option Bool → R D
  | some true => .ok x h1
  | some false => ev sub call b S h1
  | none => .bad
@[simp] theorem kOr2t : kOr2 sub call b S x h1 (some true) = .ok x h1 := rfl
@[simp] theorem kOr2f : kOr2 sub call b S x h1 (some false) = ev sub call b S h1 := rfl
def kOr (sub : Nat → Nat → Bool) (call : Nat → List D → Hs → R D) (b : E) (S : Sl) (x : D) (h1 : Hs) : R D := kOr2 sub call b S x h1 (truD (rd h1 x))
@[simp] theorem kOr_ : kOr sub call b S x h1 = kOr2 sub call b S x h1 (truD (rd h1 x)) := rfl
@[simp] theorem evOr : ev sub call (.or_ a b) S h = (ev sub call a S h).bind (kOr sub call b S) := by
  rfl
def kIfe (sub : Nat → Nat → Bool) (call : Nat → List D → Hs → R D) (a b : E) (S : Sl) : Bool → Hs → R D
  | true, h1 => ev sub call a S h1
  | false, h1 => ev sub call b S h1
@[simp] theorem evIfe : ev sub call (.ife c a b) S h = (tru (ev sub call c S h)).bind (kIfe sub call a b S) := by
  show (tru (ev sub call c S h)).bind _ = _
  congr 1
  funext k h1
  cases k <;> rfl
@[simp] theorem kIfet : kIfe sub call a b S true h = ev sub call a S h := rfl
@[simp] theorem kIfef : kIfe sub call a b S false h = ev sub call b S h := rfl
def blO : Option Bool → Option D
  | some b => some (.bl b)
  | none => none
@[simp] theorem blO_ {b} : blO (some b) = some (.bl b) := rfl
theorem blE (o : Option Bool) : o.map D.bl = blO o := by cases o <;> rfl
def kCmp2 (o : CmpOp) (x y : D) (h2 : Hs) : R D := liftO (blO (cmpH h2 o x y)) h2
def kCmpD2 (o : CmpOp) (x y : D) (h2 : Hs) : R D := liftO (blO (cmpD o (rd h2 x) (rd h2 y))) h2
@[simp] theorem kCmpD2_ : kCmpD2 o x y h2 = liftO (blO (cmpD o (rd h2 x) (rd h2 y))) h2 := rfl
def kCmp (sub : Nat → Nat → Bool) (call : Nat → List D → Hs → R D) (o : CmpOp) (b : E) (S : Sl) (x : D) (h1 : Hs) : R D := (ev sub call b S h1).bind (kCmp2 o x)
@[simp] theorem kCmp2_ : kCmp2 o x y h2 = liftO (blO (cmpH h2 o x y)) h2 := rfl
@[simp] theorem kCmp_ : kCmp sub call o b S x h1 = (ev sub call b S h1).bind (kCmp2 o x) := rfl
@[simp] theorem evCmp : ev sub call (.cmp o a b) S h = (ev sub call a S h).bind (kCmp sub call o b S) := by
  show (ev sub call a S h).bind _ = _
  congr 1
  funext x h1
  show (ev sub call b S h1).bind _ = (ev sub call b S h1).bind _
  congr 1
  funext y h2
  exact congrArg (liftO · h2) (blE _)
def kC22 (sub : Nat → Nat → Bool) (call : Nat → List D → Hs → R D) (p : CmpOp) (c : E) (S : Sl) (y : D) (h2 : Hs) : Option Bool → R D
  | some true => (ev sub call c S h2).bind (kCmpD2 p y)
  | some false => .ok (.bl false) h2
  | none => .bad
@[simp] theorem kC22t {p} : kC22 sub call p c S y h2 (some true) = (ev sub call c S h2).bind (kCmpD2 p y) := rfl
@[simp] theorem kC22f {p} : kC22 sub call p c S y h2 (some false) = .ok (.bl false) h2 := rfl
def kC21 (sub : Nat → Nat → Bool) (call : Nat → List D → Hs → R D) (o p : CmpOp) (c : E) (S : Sl) (x y : D) (h2 : Hs) : R D := kC22 sub call p c S y h2 (cmpD o (rd h2 x) (rd h2 y))
@[simp] theorem kC21_ {p} : kC21 sub call o p c S x y h2 = kC22 sub call p c S y h2 (cmpD o (rd h2 x) (rd h2 y)) := rfl
def kC20 (sub : Nat → Nat → Bool) (call : Nat → List D → Hs → R D) (o p : CmpOp) (b c : E) (S : Sl) (x : D) (h1 : Hs) : R D := (ev sub call b S h1).bind (kC21 sub call o p c S x)
@[simp] theorem kC20_ {p} : kC20 sub call o p b c S x h1 = (ev sub call b S h1).bind (kC21 sub call o p c S x) := rfl
@[simp] theorem evCmp2 {p} : ev sub call (.cmp2 o p a b c) S h = (ev sub call a S h).bind (kC20 sub call o p b c S) := by
  show (ev sub call a S h).bind _ = _
  congr 1
  funext x h1
  show (ev sub call b S h1).bind _ = (ev sub call b S h1).bind _
  congr 1
  funext y h2
  show _ = kC22 sub call p c S y h2 _
  cases cmpD o (rd h2 x) (rd h2 y) with
  | none => rfl
  | some t => cases t with
    | false => rfl
    | true =>
      show (ev sub call c S h2).bind _ = (ev sub call c S h2).bind _
      congr 1
      funext z h3
      exact congrArg (liftO · h3) (blE _)
def kIsN (x : D) (h1 : Hs) : R D := .ok (.bl (isNonD x)) h1
@[simp] theorem kIsN_ : kIsN x h1 = .ok (.bl (isNonD x)) h1 := rfl
@[simp] theorem evIsN : ev sub call (.isN a) S h = (ev sub call a S h).bind kIsN := rfl
def kNoN (x : D) (h1 : Hs) : R D := .ok (.bl (!isNonD x)) h1
@[simp] theorem kNoN_ : kNoN x h1 = .ok (.bl (!isNonD x)) h1 := rfl
@[simp] theorem evNoN : ev sub call (.noN a) S h = (ev sub call a S h).bind kNoN := rfl
@[simp] theorem isNn : isNonD .non = true := rfl
@[simp] theorem isNi : isNonD (.int i) = false := rfl
@[simp] theorem isNb {b} : isNonD (.bl b) = false := rfl
@[simp] theorem isNs {b} : isNonD (.str b) = false := rfl
@[simp] theorem isNt : isNonD (.tup xs) = false := rfl
@[simp] theorem isNl : isNonD (.lst xs) = false := rfl
def kTup (xs : List D) (h1 : Hs) : R D := if okL xs.length then .ok (.tup xs) h1 else .bad
@[simp] theorem kTup_ : kTup xs h1 = if okL xs.length then .ok (.tup xs) h1 else .bad := rfl
@[simp] theorem evTup : ev sub call (.tup es) S h = (evs sub call es S h).bind kTup := rfl
def kIl (xs : List D) (h1 : Hs) : R D := .ok (.lst xs) h1
@[simp] theorem kIl_ : kIl xs h1 = .ok (.lst xs) h1 := rfl
@[simp] theorem evIl {l} : ev sub call (.il l) S h = (evL sub call l S h).bind kIl := rfl
def kMl (xs : List D) (h1 : Hs) : R D := .ok (.ref h1.length) (h1 ++ [.lst xs])
@[simp] theorem kMl_ : kMl xs h1 = .ok (.ref h1.length) (h1 ++ [.lst xs]) := rfl
@[simp] theorem evMl {l} : ev sub call (.ml l) S h = (evL sub call l S h).bind kMl := rfl
def kIx2 (x y : D) (h2 : Hs) : R D := liftO (ixH h2 x y) h2
@[simp] theorem kIx2_ : kIx2 x y h2 = liftO (ixH h2 x y) h2 := rfl
def kIx (sub : Nat → Nat → Bool) (call : Nat → List D → Hs → R D) (b : E) (S : Sl) (x : D) (h1 : Hs) : R D := (ev sub call b S h1).bind (kIx2 x)
@[simp] theorem kIx_ : kIx sub call b S x h1 = (ev sub call b S h1).bind (kIx2 x) := rfl
@[simp] theorem evIx : ev sub call (.ix a b) S h = (ev sub call a S h).bind (kIx sub call b S) := rfl
def kOpt (x : D) (h : Hs) : R (Option Int) := match x with
  | .int i => .ok (some i) h
  | _ => .bad
@[simp] theorem kOpt_ : kOpt (.int i) h = .ok (some i) h := rfl
def opE (sub : Nat → Nat → Bool) (call : Nat → List D → Hs → R D) (e : E) (S : Sl) (h : Hs) : R (Option Int) := if e.isOmit then .ok none h else (ev sub call e S h).bind kOpt
@[simp] theorem opE_ : opE sub call e S h = if e.isOmit then .ok none h else (ev sub call e S h).bind kOpt := rfl
def kSl3 (x : D) (i : Option Int) (j : Option Int) (h3 : Hs) : R D := liftO (slD (rd h3 x) i j) h3
@[simp] theorem kSl3_ {i j} : kSl3 x i j h = liftO (slD (rd h x) i j) h := rfl
def kSl2 (sub : Nat → Nat → Bool) (call : Nat → List D → Hs → R D) (hi : E) (S : Sl) (x : D) (i : Option Int) (h2 : Hs) : R D := (opE sub call hi S h2).bind (kSl3 x i)
@[simp] theorem kSl2_ {hi i} : kSl2 sub call hi S x i h = (opE sub call hi S h).bind (kSl3 x i) := rfl
def kSl (sub : Nat → Nat → Bool) (call : Nat → List D → Hs → R D) (lo hi : E) (S : Sl) (x : D) (h1 : Hs) : R D := (opE sub call lo S h1).bind (kSl2 sub call hi S x)
@[simp] theorem kSl_ {lo hi} : kSl sub call lo hi S x h = (opE sub call lo S h).bind (kSl2 sub call hi S x) := rfl
@[simp] theorem evSl {lo hi} : ev sub call (.sl a lo hi) S h = (ev sub call a S h).bind (kSl sub call lo hi S) := rfl
@[simp] theorem evCall {f} : ev sub call (.call f es) S h = (evs sub call es S h).bind (call f) := rfl
def kPc (call : Nat → List D → Hs → R D) (f : Nat) (xs : List D) (h : Hs) : R D := pcallF call f xs h
@[simp] theorem kPc_ {f} : kPc call f xs h = pcallF call f xs h := rfl
@[simp] theorem evPc {f} : ev sub call (.pcall f es) S h = (evs sub call es S h).bind (kPc call f) := rfl
def gPv (sub : Nat → Nat → Bool) (call : Nat → List D → Hs → R D) (es : Es) (S : Sl) (h : Hs) : Option (Option D) → R D
  | some (some (.fn f)) => (evs sub call es S h).bind (kPc call f)
  | _ => .bad
@[simp] theorem gPv_ {f} : gPv sub call es S h (some (some (.fn f))) = (evs sub call es S h).bind (kPc call f) := rfl
@[simp] theorem evPv {i} : ev sub call (.pvcall i es) S h = gPv sub call es S h S[i]? := rfl
def kIsI (t : Ty) (x : D) (h1 : Hs) : R D := liftO (blO (isiD (rd h1 x) t)) h1
@[simp] theorem kIsI_ {t} : kIsI t x h1 = liftO (blO (isiD (rd h1 x) t)) h1 := rfl
@[simp] theorem evIsI {t} : ev sub call (.isI a t) S h = (ev sub call a S h).bind (kIsI t) := by
  show (ev sub call a S h).bind _ = _
  congr 1
  funext x h1
  exact congrArg (liftO · h1) (blE _)
def kIsC (sub : Nat → Nat → Bool) (c : Nat) (x : D) (h1 : Hs) : R D := match x with
    | .exc e _ => .ok (.bl (sub e c)) h1
    | _ => .bad
@[simp] theorem kIsC_ {c e} : kIsC sub c (.exc e x) h = .ok (.bl (sub e c)) h := rfl
@[simp] theorem evIsC {c} : ev sub call (.isC a c) S h = (ev sub call a S h).bind (kIsC sub c) := rfl
def kBlt (b : Bl) (xs : List D) (h1 : Hs) : R D := liftO (bltH h1 b xs) h1
@[simp] theorem kBlt_ {b} : kBlt b xs h1 = liftO (bltH h1 b xs) h1 := rfl
@[simp] theorem evBlt {b} : ev sub call (.blt b es) S h = (evs sub call es S h).bind (kBlt b) := rfl
def kMe3 (sub : Nat → Nat → Bool) (call : Nat → List D → Hs → R D) (m : Me) (es : Es) (S : Sl) (x : D) (h1 : Hs) : Bool → R D
  | true => (evs sub call es S h1).bind (methD m x)
  | false => .bad
@[simp] theorem kMe3_ {m} : kMe3 sub call m es S x h1 true = (evs sub call es S h1).bind (methD m x) := rfl
def kMe (sub : Nat → Nat → Bool) (call : Nat → List D → Hs → R D) (m : Me) (es : Es) (S : Sl) (x : D) (h1 : Hs) : R D := kMe3 sub call m es S x h1 (isLst h1 x)
@[simp] theorem kMe_ {m} : kMe sub call m es S x h1 = kMe3 sub call m es S x h1 (isLst h1 x) := rfl
@[simp] theorem isL1 : isLst h (.lst xs) = true := rfl
@[simp] theorem isL2 {r : Hs} : isLst (.lst xs :: r) (.ref 0) = true := rfl
@[simp] theorem evMe {m} : ev sub call (.meth m a es) S h = (ev sub call a S h).bind (kMe sub call m es S) := by
  show (ev sub call a S h).bind _ = _
  congr 1
  funext x h1
  show _ = kMe3 sub call m es S x h1 (isLst h1 x)
  cases isLst h1 x <;> rfl
@[simp] theorem evsNil : evs sub call .nil S h = .ok [] h := rfl
def kEs2 (x : D) (xs : List D) (h2 : Hs) : R (List D) := .ok (x :: xs) h2
@[simp] theorem kEs2_ : kEs2 x xs h2 = .ok (x :: xs) h2 := rfl
def kEs (sub : Nat → Nat → Bool) (call : Nat → List D → Hs → R D) (es : Es) (S : Sl) (x : D) (h1 : Hs) : R (List D) := (evs sub call es S h1).bind (kEs2 x)
@[simp] theorem kEs_ : kEs sub call es S x h1 = (evs sub call es S h1).bind (kEs2 x) := rfl
@[simp] theorem evsCons : evs sub call (.cons e es) S h = (ev sub call e S h).bind (kEs sub call es S) := rfl
def kDisp (xs : List D) (h1 : Hs) : R (List D) := if okL xs.length then .ok xs h1 else .bad
@[simp] theorem kDisp_ : kDisp xs h1 = if okL xs.length then .ok xs h1 else .bad := rfl
@[simp] theorem evDisp : evL sub call (.disp es) S h = (evs sub call es S h).bind kDisp := rfl
/-! walks -/
/-- a walk's turn -/
def turnF (sub : Nat → Nat → Bool) (call : Nat → List D → Hs → R D) (t : Tg) (s : St) : D → Sl → Hs → RS := fun x S h => match put S x t with
  | some S' => ex sub call s S' h
  | none => .bad
def putK (sub : Nat → Nat → Bool) (call : Nat → List D → Hs → R D) (s : St) (h : Hs) : Option Sl → RS
  | some S' => ex sub call s S' h
  | none => .bad
@[simp] theorem putK_ {s S'} : putK sub call s h (some S') = ex sub call s S' h := rfl
theorem turnF_ {t s} : turnF sub call t s x S h = putK sub call s h (put S x t) := by
  unfold turnF
  cases put S x t <;> rfl
def kCt2 (y : D) (h4 : Hs) : R (Option D) := .ok (some y) h4
@[simp] theorem kCt2_ : kCt2 y h = .ok (some y) h := rfl
def kCt (sub : Nat → Nat → Bool) (call : Nat → List D → Hs → R D) (elt : E) (S2 : Sl) : Bool → Hs → R (Option D)
  | true, h3 => (ev sub call elt S2 h3).bind kCt2
  | false, h3 => .ok none h3
@[simp] theorem kCtt {elt S2} : kCt sub call elt S2 true h3 = (ev sub call elt S2 h3).bind kCt2 := rfl
@[simp] theorem kCtf {elt S2} : kCt sub call elt S2 false h3 = .ok none h3 := rfl
def cdE (sub : Nat → Nat → Bool) (call : Nat → List D → Hs → R D) (cond : E) (S2 : Sl) (h2 : Hs) : R Bool := if cond.isOmit then (.ok true h2 : R Bool) else tru (ev sub call cond S2 h2)
@[simp] theorem cdE_ {S2} : cdE sub call c S2 h2 = if c.isOmit then (.ok true h2 : R Bool) else tru (ev sub call c S2 h2) := rfl
def putC (sub : Nat → Nat → Bool) (call : Nat → List D → Hs → R D) (elt cond : E) (h2 : Hs) : Option Sl → R (Option D)
  | some S2 => noX ((cdE sub call cond S2 h2).bind (kCt sub call elt S2))
  | none => .bad
@[simp] theorem putC_ {elt S2} : putC sub call elt c h2 (some S2) = noX ((cdE sub call c S2 h2).bind (kCt sub call elt S2)) := rfl
/-- a comprehension's turn -/
def turnC (sub : Nat → Nat → Bool) (call : Nat → List D → Hs → R D) (elt : E) (own : List Nat) (tg : Tg) (cond : E) (S : Sl) (x : D) (h2 : Hs) : R (Option D) := putC sub call elt cond h2 (put (wipe S own) x tg)
theorem turnC_ {elt own tg} : turnC sub call elt own tg c S x h2 = putC sub call elt c h2 (put (wipe S own) x tg) := rfl
@[simp] theorem noXOk {α : Type} {a : α} : noX (R.ok a h) = .ok a h := rfl
@[simp] theorem compNil {t} : compF t [] h = .ok [] h := rfl
def kTn2 (o : Option D) (ys : List D) (h2 : Hs) : R (List D) := match o with
    | some y => .ok (y :: ys) h2
    | none => .ok ys h2
@[simp] theorem kTn2s : kTn2 (some y) ys h = .ok (y :: ys) h := rfl
@[simp] theorem kTn2n : kTn2 none ys h = .ok ys h := rfl
def kTn (t : D → Hs → R (Option D)) (xs : List D) (o : Option D) (h1 : Hs) : R (List D) := (compF t xs h1).bind (kTn2 o)
@[simp] theorem kTn_ {t o} : kTn t xs o h1 = (compF t xs h1).bind (kTn2 o) := rfl
@[simp] theorem compCons {t} : compF t (x :: xs) h = (t x h).bind (kTn t xs) := rfl
def kComp (t : D → Hs → R (Option D)) (src : Src) (h1 : Hs) : R (List D) := match src with
    | .fix xs => if okL xs.length then compF t xs h1 else .bad
    | .dyn n => compG t (.dyn n) wfuel 0 h1
    | .enm n => compG t (.enm n) wfuel 0 h1
@[simp] theorem kCompF {t} : kComp t (.fix xs) h = if okL xs.length then compF t xs h else .bad := rfl
@[simp] theorem evComp {elt own tg it} : evL sub call (.comp elt own tg it c) S h = (evI sub call it S h).bind (kComp (turnC sub call elt own tg c S)) := by
  show (evI sub call it S h).bind _ = _
  congr 1
  funext src h1
  have e : turnC sub call elt own tg c S = fun x h2 => match put (wipe S own) x tg with
      | some S2 => noX ((if c.isOmit then (.ok true h2 : R Bool) else tru (ev sub call c S2 h2)).bind fun k h3 => if k then (ev sub call elt S2 h3).bind fun y h4 => .ok (some y) h4 else .ok none h3)
      | none => .bad := by
    funext x h2
    unfold turnC
    cases put (wipe S own) x tg with
    | none => rfl
    | some S2 =>
      show noX _ = noX _
      congr 2
      funext k h3
      cases k <;> rfl
  cases src <;> simp only [kComp, e] <;> rfl
def srcO (h1 : Hs) : Option (List D) → R Src
  | some xs => .ok (.fix xs) h1
  | none => .bad
@[simp] theorem srcO_ : srcO h (some xs) = .ok (.fix xs) h := rfl
theorem srcE (o : Option (List D)) : liftO (o.map Src.fix) h = srcO h o := by cases o <;> rfl
def kVal (x : D) (h1 : Hs) : R Src := match x with
    | .ref n => if srcOk (.dyn n) h1 then .ok (.dyn n) h1 else .bad
    | .scr xs => .ok (.fix xs) h1
    | .str _ => .bad
    | d => liftO ((seqD d).map .fix) h1
@[simp] theorem kValT : kVal (.tup xs) h = .ok (.fix xs) h := rfl
@[simp] theorem kValL : kVal (.lst xs) h = .ok (.fix xs) h := rfl
@[simp] theorem kValS : kVal (.scr xs) h = .ok (.fix xs) h := rfl
@[simp] theorem kValR {n} : kVal (.ref n) h = if srcOk (.dyn n) h then .ok (.dyn n) h else .bad := rfl
@[simp] theorem evIVal : evI sub call (.val e) S h = (ev sub call e S h).bind kVal := rfl
def kRg (x : D) (h1 : Hs) : R Src := match x with
    | .int j => srcO h1 (rangeD 0 j)
    | _ => .bad
@[simp] theorem kRg_ : kRg (.int j) h = srcO h (rangeD 0 j) := rfl
@[simp] theorem evIRng : evI sub call (.rng1 a) S h = (ev sub call a S h).bind kRg := by
  show (ev sub call a S h).bind _ = _
  congr 1
  funext x h1
  cases x <;> first | rfl | exact srcE _
def kRg3 (x y : D) (h2 : Hs) : R Src := match x, y with
    | .int i, .int j => srcO h2 (rangeD i j)
    | _, _ => .bad
@[simp] theorem kRg3_ : kRg3 (.int i) (.int j) h = srcO h (rangeD i j) := rfl
def kRg2 (sub : Nat → Nat → Bool) (call : Nat → List D → Hs → R D) (b : E) (S : Sl) (x : D) (h1 : Hs) : R Src := (ev sub call b S h1).bind (kRg3 x)
@[simp] theorem kRg2_ : kRg2 sub call b S x h1 = (ev sub call b S h1).bind (kRg3 x) := rfl
@[simp] theorem evIRng2 : evI sub call (.rng2 a b) S h = (ev sub call a S h).bind (kRg2 sub call b S) := by
  show (ev sub call a S h).bind _ = _
  congr 1
  funext x h1
  show (ev sub call b S h1).bind _ = (ev sub call b S h1).bind _
  congr 1
  funext y h2
  cases x <;> cases y <;> first | rfl | exact srcE _
def kEnu (x : D) (h1 : Hs) : R Src := match x with
    | .lst xs => .ok (.fix (enumD 0 xs)) h1
    | .tup xs => .ok (.fix (enumD 0 xs)) h1
    | .ref n => if srcOk (.dyn n) h1 then .ok (.enm n) h1 else .bad
    | _ => .bad
@[simp] theorem kEnuL : kEnu (.lst xs) h = .ok (.fix (enumD 0 xs)) h := rfl
@[simp] theorem kEnuR {n} : kEnu (.ref n) h = if srcOk (.dyn n) h then .ok (.enm n) h else .bad := rfl
@[simp] theorem kEnuT : kEnu (.tup xs) h = .ok (.fix (enumD 0 xs)) h := rfl
@[simp] theorem evIEnum : evI sub call (.enum a) S h = (ev sub call a S h).bind kEnu := rfl
def kZp2 (x y : D) (h2 : Hs) : R Src := match x, y with
    | .lst xs, .lst ys => .ok (.fix (zipD xs ys)) h2
    | .tup xs, .tup ys => .ok (.fix (zipD xs ys)) h2
    | _, _ => .bad
@[simp] theorem kZp2L : kZp2 (.lst xs) (.lst ys) h = .ok (.fix (zipD xs ys)) h := rfl
@[simp] theorem kZp2T : kZp2 (.tup xs) (.tup ys) h = .ok (.fix (zipD xs ys)) h := rfl
def kZp (sub : Nat → Nat → Bool) (call : Nat → List D → Hs → R D) (b : E) (S : Sl) (x : D) (h1 : Hs) : R Src := (ev sub call b S h1).bind (kZp2 x)
@[simp] theorem kZp_ : kZp sub call b S x h1 = (ev sub call b S h1).bind (kZp2 x) := rfl
@[simp] theorem evIZip : evI sub call (.zip2 a b) S h = (ev sub call a S h).bind (kZp sub call b S) := rfl
def kR3c (x y w : D) (h3 : Hs) : R Src := match x, y, w with
    | .int i, .int j, .int k => srcO h3 (rangeC i j k)
    | _, _, _ => .bad
@[simp] theorem kR3c_ {k : Int} : kR3c (.int i) (.int j) (.int k) h = srcO h (rangeC i j k) := rfl
def kR3b (sub : Nat → Nat → Bool) (call : Nat → List D → Hs → R D) (c : E) (S : Sl) (x y : D) (h1 : Hs) : R Src := (ev sub call c S h1).bind (kR3c x y)
@[simp] theorem kR3b_ : kR3b sub call c S x y h = (ev sub call c S h).bind (kR3c x y) := rfl
def kR3a (sub : Nat → Nat → Bool) (call : Nat → List D → Hs → R D) (b c : E) (S : Sl) (x : D) (h1 : Hs) : R Src := (ev sub call b S h1).bind (kR3b sub call c S x)
@[simp] theorem kR3a_ : kR3a sub call b c S x h = (ev sub call b S h).bind (kR3b sub call c S x) := rfl
@[simp] theorem evIRng3 : evI sub call (.rng3 a b c) S h = (ev sub call a S h).bind (kR3a sub call b c S) := by
  show (ev sub call a S h).bind _ = _
  congr 1
  funext x h1
  show (ev sub call b S h1).bind _ = (ev sub call b S h1).bind _
  congr 1
  funext y h2
  show (ev sub call c S h2).bind _ = (ev sub call c S h2).bind _
  congr 1
  funext w h3
  cases x <;> cases y <;> cases w <;> first | rfl | exact srcE _
/-! more expressions -/
def gDg (x : D) (h2 : Hs) (dflt : D) : Option (List (Ky × D)) → Option Ky → R D
  | some kvs, some ky => .ok ((dval kvs ky).getD dflt) h2
  | _, _ => .bad
@[simp] theorem gDg_ {kvs ky} : gDg x h d (some kvs) (some ky) = .ok ((dval kvs ky).getD d) h := rfl
def kDg1b (x y : D) (h2 : Hs) : R D := gDg x h2 .non (dct h2 x) (kyOf y)
@[simp] theorem kDg1b_ : kDg1b x y h = gDg x h .non (dct h x) (kyOf y) := rfl
def kDg1 (sub : Nat → Nat → Bool) (call : Nat → List D → Hs → R D) (k : E) (S : Sl) (x : D) (h1 : Hs) : Option (List (Ky × D)) → R D
  | some _ => (ev sub call k S h1).bind (kDg1b x)
  | none => .bad
@[simp] theorem kDg1_ {k kvs} : kDg1 sub call k S x h (some kvs) = (ev sub call k S h).bind (kDg1b x) := rfl
def kDg1a (sub : Nat → Nat → Bool) (call : Nat → List D → Hs → R D) (k : E) (S : Sl) (x : D) (h1 : Hs) : R D := kDg1 sub call k S x h1 (dct h1 x)
@[simp] theorem kDg1a_ {k} : kDg1a sub call k S x h = kDg1 sub call k S x h (dct h x) := rfl
@[simp] theorem evDget1 {k} : ev sub call (.dget1 a k) S h = (ev sub call a S h).bind (kDg1a sub call k S) := by
  show (ev sub call a S h).bind _ = _
  refine congrArg (R.bind _) ?_
  funext x h1
  show _ = kDg1 sub call k S x h1 (dct h1 x)
  cases dct h1 x with
  | none => rfl
  | some kvs =>
    show (ev sub call k S h1).bind _ = (ev sub call k S h1).bind _
    refine congrArg (R.bind _) ?_
    funext y h2
    show _ = gDg x h2 .non (dct h2 x) (kyOf y)
    cases dct h2 x <;> cases kyOf y <;> rfl
def kDg2c (x y w : D) (h3 : Hs) : R D := gDg x h3 w (dct h3 x) (kyOf y)
@[simp] theorem kDg2c_ : kDg2c x y d h = gDg x h d (dct h x) (kyOf y) := rfl
def kDg2b (sub : Nat → Nat → Bool) (call : Nat → List D → Hs → R D) (c : E) (S : Sl) (x y : D) (h2 : Hs) : R D := (ev sub call c S h2).bind (kDg2c x y)
@[simp] theorem kDg2b_ : kDg2b sub call c S x y h = (ev sub call c S h).bind (kDg2c x y) := rfl
def kDg2 (sub : Nat → Nat → Bool) (call : Nat → List D → Hs → R D) (k c : E) (S : Sl) (x : D) (h1 : Hs) : Option (List (Ky × D)) → R D
  | some _ => (ev sub call k S h1).bind (kDg2b sub call c S x)
  | none => .bad
@[simp] theorem kDg2_ {k kvs} : kDg2 sub call k c S x h (some kvs) = (ev sub call k S h).bind (kDg2b sub call c S x) := rfl
def kDg2a (sub : Nat → Nat → Bool) (call : Nat → List D → Hs → R D) (k c : E) (S : Sl) (x : D) (h1 : Hs) : R D := kDg2 sub call k c S x h1 (dct h1 x)
@[simp] theorem kDg2a_ {k} : kDg2a sub call k c S x h = kDg2 sub call k c S x h (dct h x) := rfl
@[simp] theorem evDget {k} : ev sub call (.dget a k c) S h = (ev sub call a S h).bind (kDg2a sub call k c S) := by
  show (ev sub call a S h).bind _ = _
  refine congrArg (R.bind _) ?_
  funext x h1
  show _ = kDg2 sub call k c S x h1 (dct h1 x)
  cases dct h1 x with
  | none => rfl
  | some kvs =>
    show (ev sub call k S h1).bind _ = (ev sub call k S h1).bind _
    refine congrArg (R.bind _) ?_
    funext y h2
    show (ev sub call c S h2).bind _ = (ev sub call c S h2).bind _
    refine congrArg (R.bind _) ?_
    funext w h3
    show _ = gDg x h3 w (dct h3 x) (kyOf y)
    cases dct h3 x <;> cases kyOf y <;> rfl
@[simp] theorem evMdct : ev sub call .mdct S h = .ok (.ref h.length) (h ++ [.dct []]) := rfl
def gMd (y : D) (h2 : Hs) : Option Ky → R D
  | some kk => .ok (.ref h2.length) (h2 ++ [.dct [(kk, y)]])
  | none => .bad
@[simp] theorem gMd_ {kk} : gMd y h (some kk) = .ok (.ref h.length) (h ++ [.dct [(kk, y)]]) := rfl
def kMd2 (x y : D) (h2 : Hs) : R D := gMd y h2 (kyOf x)
@[simp] theorem kMd2_ : kMd2 x y h = gMd y h (kyOf x) := rfl
def kMd1 (sub : Nat → Nat → Bool) (call : Nat → List D → Hs → R D) (b : E) (S : Sl) (x : D) (h1 : Hs) : R D := (ev sub call b S h1).bind (kMd2 x)
@[simp] theorem kMd1_ : kMd1 sub call b S x h = (ev sub call b S h).bind (kMd2 x) := rfl
@[simp] theorem evMd1 : ev sub call (.md1 a b) S h = (ev sub call a S h).bind (kMd1 sub call b S) := by
  show R.bind ((ev sub call a S h).bind _) _ = _
  cases ev sub call a S h with
  | bad => rfl
  | exc _ _ _ => rfl
  | ok x h1 =>
    show R.bind ((ev sub call b S h1).bind _) _ = (ev sub call b S h1).bind _
    cases ev sub call b S h1 with
    | bad => rfl
    | exc _ _ _ => rfl
    | ok y h2 =>
      show R.bind (match kyOf x with
        | some kk => (.ok [(kk, y)] h2 : R (List (Ky × D)))
        | none => .bad) _ = gMd y h2 (kyOf x)
      cases kyOf x <;> rfl
def kInv (x : D) (h1 : Hs) : R D := match x with
    | .int i => .ok (.int (Builtin.bitNot i)) h1
    | _ => .bad
@[simp] theorem kInv_ : kInv (.int i) h = .ok (.int (Builtin.bitNot i)) h := rfl
@[simp] theorem evInv : ev sub call (.inv a) S h = (ev sub call a S h).bind kInv := rfl
def kPop0 (x : D) (h1 : Hs) : R D := match x with
    | .ref n => match h1[n]? with
      | some (.lst xs) => match xs[xs.length - 1]? with
        | some y => .ok y (h1.set n (.lst xs.dropLast))
        | none => .bad
      | _ => .bad
    | _ => .bad
@[simp] theorem evPop0 : ev sub call (.pop0 a) S h = (ev sub call a S h).bind kPop0 := rfl
theorem kPop0_ {n : Nat} (e : h[n]? = some (.lst (xs ++ [y]))) : kPop0 (.ref n) h = .ok y (h.set n (.lst xs)) := by
  have : (xs ++ [y])[(xs ++ [y]).length - 1]? = some y := by simp
  simp only [kPop0, e, this, List.dropLast_concat]
def kMrep2 (x y : D) (h2 : Hs) : R D := match rd h2 x, y with
    | .lst xs, .int k => if decide (0 ≤ k) && decide (k ≤ 2000) && decide (xs.length ≤ 2000) then .ok (.ref h2.length) (h2 ++ [.lst (List.replicate k.toNat xs).flatten]) else .bad
    | _, _ => .bad
def kMrep (sub : Nat → Nat → Bool) (call : Nat → List D → Hs → R D) (b : E) (S : Sl) (x : D) (h1 : Hs) : R D := (ev sub call b S h1).bind (kMrep2 x)
@[simp] theorem kMrep_ : kMrep sub call b S x h = (ev sub call b S h).bind (kMrep2 x) := rfl
@[simp] theorem evMrep : ev sub call (.mrep a b) S h = (ev sub call a S h).bind (kMrep sub call b S) := rfl
theorem kMrep2_ {k : Nat} (l : k ≤ 1000) : kMrep2 (.lst [x]) (.int (k : Int)) h = .ok (.ref h.length) (h ++ [.lst (List.replicate k x)]) := by
  have h1 : (0 : Int) ≤ (k : Int) := by omega
  have h2 : (k : Int) ≤ 2000 := by omega
  have e : (List.replicate k [x]).flatten = List.replicate k x := by simp
  show (if decide ((0 : Int) ≤ (k : Int)) && decide ((k : Int) ≤ 2000) && decide (([x] : List D).length ≤ 2000) then (.ok (.ref h.length) (h ++ [.lst (List.replicate (k : Int).toNat [x]).flatten]) : R D) else .bad) = _
  rw [decide_eq_true h1, decide_eq_true h2, Int.toNat_natCast, e]
  rfl
def kMcat2 (x y : D) (h2 : Hs) : R D := match rd h2 x, rd h2 y with
    | .lst xs, .lst ys => if okL (xs.length + ys.length) then .ok (.ref h2.length) (h2 ++ [.lst (xs ++ ys)]) else .bad
    | _, _ => .bad
def kMcat (sub : Nat → Nat → Bool) (call : Nat → List D → Hs → R D) (b : E) (S : Sl) (x : D) (h1 : Hs) : R D := (ev sub call b S h1).bind (kMcat2 x)
@[simp] theorem kMcat_ : kMcat sub call b S x h = (ev sub call b S h).bind (kMcat2 x) := rfl
@[simp] theorem evMcat : ev sub call (.mcat a b) S h = (ev sub call a S h).bind (kMcat sub call b S) := rfl
/-- a comprehension over two: a turn within, a turn without -/
def turnC2i (sub : Nat → Nat → Bool) (call : Nat → List D → Hs → R D) (elt : E) (own1 : List Nat) (tg1 : Tg) (cond1 : E) (S2 : Sl) : D → Hs → R (Option D) := fun x1 h5 => match put (wipe S2 own1) x1 tg1 with
  | some S3 => (if cond1.isOmit then (.ok true h5 : R Bool) else tru (ev sub call cond1 S3 h5)).bind fun k1 h6 => if k1 then (ev sub call elt S3 h6).bind fun y h7 => .ok (some y) h7 else .ok none h6
  | none => .bad
def turnC2 (sub : Nat → Nat → Bool) (call : Nat → List D → Hs → R D) (elt : E) (own : List Nat) (tg : Tg) (cond : E) (own1 : List Nat) (tg1 : Tg) (it1 : It) (cond1 : E) (S : Sl) : D → Hs → R (List D) := fun x h2 => match put (wipe S own) x tg with
  | some S2 => noX ((if cond.isOmit then (.ok true h2 : R Bool) else tru (ev sub call cond S2 h2)).bind fun k h3 => if k then (evI sub call it1 S2 h3).bind fun src1 h4 => compG (turnC2i sub call elt own1 tg1 cond1 S2) src1 4000 0 h4 else .ok [] h3)
  | none => .bad
def kCm2 (t : D → Hs → R (List D)) (src : Src) (h1 : Hs) : R (List D) := compGL t src 4000 0 h1
@[simp] theorem evComp2 {elt own tg it cond own1 tg1 it1 cond1} : evL sub call (.comp2 elt own tg it cond own1 tg1 it1 cond1) S h = (evI sub call it S h).bind (kCm2 (turnC2 sub call elt own tg cond own1 tg1 it1 cond1 S)) := by
  simp only [evL]
  rfl
theorem compG_fix (turn : D → Hs → R (Option D)) (xs : List D) : ∀ (k i : Nat) (h : Hs), xs.length < i + k → i ≤ xs.length → compG turn (.fix xs) k i h = compF turn (xs.drop i) h
  | 0, i, h, h1, h2 => by omega
  | k + 1, i, h, h1, h2 => by
    unfold compG
    by_cases hl : i < xs.length
    · rw [List.drop_eq_getElem_cons hl]
      simp only [itm, List.getElem?_eq_getElem hl, compF]
      congr 1
      funext o h3
      rw [compG_fix turn xs k (i + 1) h3 (by omega) (by omega)]
    · have e : i = xs.length := by omega
      subst e
      rw [List.drop_length]
      simp [itm, srcOk, compF]
theorem compGL_fix (turn : D → Hs → R (List D)) (xs : List D) : ∀ (k i : Nat) (h : Hs), xs.length < i + k → i ≤ xs.length → compGL turn (.fix xs) k i h = compFL turn (xs.drop i) h
  | 0, i, h, h1, h2 => by omega
  | k + 1, i, h, h1, h2 => by
    unfold compGL
    by_cases hl : i < xs.length
    · rw [List.drop_eq_getElem_cons hl]
      simp only [itm, List.getElem?_eq_getElem hl, compFL]
      congr 1
      funext o h3
      rw [compGL_fix turn xs k (i + 1) h3 (by omega) (by omega)]
    · have e : i = xs.length := by omega
      subst e
      rw [List.drop_length]
      simp [itm, srcOk, compFL]
theorem kCm2F {t : D → Hs → R (List D)} (l : xs.length < 4000) : kCm2 t (.fix xs) h = compFL t xs h := by
  have := compGL_fix t xs 4000 0 h (by omega) (Nat.zero_le _)
  rwa [List.drop_zero] at this
def kTru (x : D) (h : Hs) : R Bool := liftO (truD (rd h x)) h
@[simp] theorem truOk {d : D} : tru (.ok d h) = liftO (truD (rd h d)) h := rfl
@[simp] theorem truExc {c} {d : D} : tru (.exc c d h) = .exc c d h := rfl
/-! dicts -/
/-- a dict comprehension's turn -/
def turnD (sub : Nat → Nat → Bool) (call : Nat → List D → Hs → R D) (k v : E) (own : List Nat) (tg : Tg) (cond : E) (S : Sl) : D → Hs → R (Option (Ky × D)) := fun x h2 => match put (wipe S own) x tg with
      | some S2 => noX ((if cond.isOmit then (.ok true h2 : R Bool) else tru (ev sub call cond S2 h2)).bind fun c h3 => if c then (ev sub call k S2 h3).bind fun y h4 => (ev sub call v S2 h4).bind fun z h5 => kvO y z h5 else .ok none h3)
      | none => .bad
def kDm (ps : List (Ky × D)) (h2 : Hs) : R D := .ok (.ref h2.length) (h2 ++ [.dct (dputs [] ps)])
@[simp] theorem kDm_ {ps} : kDm ps h2 = .ok (.ref h2.length) (h2 ++ [.dct (dputs [] ps)]) := rfl
def kDc (t : D → Hs → R (Option (Ky × D))) (src : Src) (h1 : Hs) : R D := (compP t src wfuel 0 h1).bind kDm
@[simp] theorem kDc_ {t src} : kDc t src h = (compP t src wfuel 0 h).bind kDm := rfl
@[simp] theorem evDc {k v own tg it} : ev sub call (.dc k v own tg it c) S h = (evI sub call it S h).bind (kDc (turnD sub call k v own tg c S)) := rfl
def rlA (sub : Nat → Nat → Bool) (call : Nat → List D → Hs → R D) (a : E) (S : Sl) (h : Hs) : R D := if a.isOmit then (.ok (.int 0) h : R D) else ev sub call a S h
@[simp] theorem rlA_ : rlA sub call a S h = if a.isOmit then (.ok (.int 0) h : R D) else ev sub call a S h := rfl
def kRl2 (t : Bool) (x y : D) (h2 : Hs) : R D := liftO (rlistD t x y) h2
@[simp] theorem kRl2_ {t} : kRl2 t x y h2 = liftO (rlistD t x y) h2 := rfl
def kRl (sub : Nat → Nat → Bool) (call : Nat → List D → Hs → R D) (t : Bool) (b : E) (S : Sl) (x : D) (h1 : Hs) : R D := (ev sub call b S h1).bind (kRl2 t x)
@[simp] theorem kRl_ {t} : kRl sub call t b S x h = (ev sub call b S h).bind (kRl2 t x) := rfl
@[simp] theorem evRl {t} : ev sub call (.rlist t a b) S h = (rlA sub call a S h).bind (kRl sub call t b S) := rfl
/-! statements -/
def kAsg (S : Sl) (t : Tg) (x : D) (h1 : Hs) : RS := match put S x t with
    | some S' => .nx S' h1
    | none => .bad
def nxO (h1 : Hs) : Option Sl → RS
  | some S' => .nx S' h1
  | none => .bad
@[simp] theorem nxO_ {S'} : nxO h (some S') = .nx S' h := rfl
@[simp] theorem kAsg_ {t} : kAsg S t x h1 = nxO h1 (put S x t) := by
  unfold kAsg
  cases put S x t <;> rfl
@[simp] theorem exAsg {t} : ex sub call (.asg t e) S h = (ev sub call e S h).st S (kAsg S t) := rfl
def kAs2 (S : Sl) (i j : Nat) (x : D) (h1 : Hs) : RS := match put S x (.nm i) with
    | some S' => match put S' x (.nm j) with
      | some S2 => .nx S2 h1
      | none => .bad
    | none => .bad
@[simp] theorem exAsg2 {i j} : ex sub call (.asg2 i j e) S h = (ev sub call e S h).st S (kAs2 S i j) := rfl
def kSet3 (S : Sl) (v o k : D) (h3 : Hs) : RS := setO S o k v h3
@[simp] theorem kSet3_ : kSet3 S x y z h = setO S y z x h := rfl
def kSet2 (sub : Nat → Nat → Bool) (call : Nat → List D → Hs → R D) (i : E) (S : Sl) (v o : D) (h2 : Hs) : RS := (ev sub call i S h2).st S (kSet3 S v o)
@[simp] theorem kSet2_ : kSet2 sub call e S x y h = (ev sub call e S h).st S (kSet3 S x y) := rfl
def kSet (sub : Nat → Nat → Bool) (call : Nat → List D → Hs → R D) (a i : E) (S : Sl) (v : D) (h1 : Hs) : RS := (ev sub call a S h1).st S (kSet2 sub call i S v)
@[simp] theorem kSet_ : kSet sub call a b S x h = (ev sub call a S h).st S (kSet2 sub call b S x) := rfl
@[simp] theorem exSet : ex sub call (.set a b e) S h = (ev sub call e S h).st S (kSet sub call a b S) := rfl
theorem setRef {r : Hs} (e : setD xs i x = some ys) : setO S (.ref 0) (.int i) x (.lst xs :: r) = .nx S (.lst ys :: r) := by
  simp only [setO, setK, List.getElem?_cons_zero, e, List.set_cons_zero]
def kEx (S : Sl) (_ : D) (h1 : Hs) : RS := .nx S h1
@[simp] theorem kEx_ : kEx S x h = .nx S h := rfl
@[simp] theorem exEx : ex sub call (.ex e) S h = (ev sub call e S h).st S (kEx S) := rfl
def kRet (x : D) (h1 : Hs) : RS := .rt x h1
@[simp] theorem kRet_ : kRet x h = .rt x h := rfl
@[simp] theorem exRet : ex sub call (.ret e) S h = (ev sub call e S h).st S kRet := rfl
@[simp] theorem exRetn : ex sub call .retn S h = .rt .non h := rfl
def kIf (sub : Nat → Nat → Bool) (call : Nat → List D → Hs → R D) (s t : St) (S : Sl) : Bool → Hs → RS
  | true, h1 => ex sub call s S h1
  | false, h1 => ex sub call t S h1
@[simp] theorem kIf1 {s t} : kIf sub call s t S true h = ex sub call s S h := rfl
@[simp] theorem kIf0 {s t} : kIf sub call s t S false h = ex sub call t S h := rfl
@[simp] theorem exIfe {s t} : ex sub call (.ife c s t) S h = (tru (ev sub call c S h)).st S (kIf sub call s t S) := by
  show (tru (ev sub call c S h)).st S _ = _
  congr 1
  funext k h1
  cases k <;> rfl
def kFor (t : D → Sl → Hs → RS) (S : Sl) (src : Src) (h1 : Hs) : RS := match src with
    | .fix xs => forF t xs S h1
    | .dyn n => forG t (.dyn n) wfuel 0 S h1
    | .enm n => forG t (.enm n) wfuel 0 S h1
@[simp] theorem kForF {t} : kFor t S (.fix xs) h = forF t xs S h := rfl
@[simp] theorem exFor {t it s} : ex sub call (.for_ t it s) S h = (evI sub call it S h).st S (kFor (turnF sub call t s) S) := rfl
@[simp] theorem forNil {t : D → Sl → Hs → RS} : forF t [] S h = .nx S h := rfl
def kFt (t : D → Sl → Hs → RS) (xs : List D) : RS → RS
  | .nx S' h' => forF t xs S' h'
  | .ct S' h' => forF t xs S' h'
  | .bk S' h' => .nx S' h'
  | r => r
@[simp] theorem kFtN {t : D → Sl → Hs → RS} : kFt t xs (.nx S h) = forF t xs S h := rfl
@[simp] theorem kFtC {t : D → Sl → Hs → RS} : kFt t xs (.ct S h) = forF t xs S h := rfl
@[simp] theorem kFtB {t : D → Sl → Hs → RS} : kFt t xs (.bk S h) = .nx S h := rfl
@[simp] theorem kFtR {t : D → Sl → Hs → RS} : kFt t xs (.rt x h) = .rt x h := rfl
@[simp] theorem kFtX {t : D → Sl → Hs → RS} {c} : kFt t xs (.exc c x S h) = .exc c x S h := rfl
@[simp] theorem forCons {t : D → Sl → Hs → RS} : forF t (x :: xs) S h = kFt t xs (t x S h) := by
  show (match t x S h with
    | .nx S' h' => forF t xs S' h'
    | .ct S' h' => forF t xs S' h'
    | .bk S' h' => .nx S' h'
    | r => r) = _
  cases t x S h <;> rfl
def kRai (c : Nat) (S : Sl) (v : D) (h1 : Hs) : RS := if v.scal then .exc c v S h1 else .bad
@[simp] theorem kRai_ {c} : kRai c S x h = if x.scal then .exc c x S h else .bad := rfl
@[simp] theorem exRais {c} : ex sub call (.rais c e) S h = (ev sub call e S h).st S (kRai c S) := rfl
@[simp] theorem exSkip : ex sub call .skip S h = .nx S h := rfl
@[simp] theorem exPass : ex sub call .pass S h = .nx S h := rfl
@[simp] theorem exBrk : ex sub call .brk S h = .bk S h := rfl
@[simp] theorem exCnt : ex sub call .cnt S h = .ct S h := rfl
@[simp] theorem exSeq {s t} : ex sub call (.seq s t) S h = (ex sub call s S h).andThen (ex sub call t) := rfl
theorem step {s t : St} {S' : Sl} {h' : Hs} {r : RS} (e : ex sub call s S h = .nx S' h') (f : ex sub call t S' h' = r) : ex sub call (.seq s t) S h = r := by
  rw [exSeq, e, atNx, f]
@[simp] theorem scalInt : D.scal (.int i) = true := rfl
@[simp] theorem scalStr {b} : D.scal (.str b) = true := rfl
@[simp] theorem scalNon : D.scal .non = true := rfl
@[simp] theorem scalBl {b} : D.scal (.bl b) = true := rfl
def kCall : RS → R D
  | .nx _ h' => .ok .non h'
  | .rt d h' => .ok d h'
  | .exc c v _ h' => .exc c v h'
  | _ => .bad
@[simp] theorem kCallN : kCall (.nx S h) = .ok .non h := rfl
@[simp] theorem kCallR : kCall (.rt x h) = .ok x h := rfl
@[simp] theorem kCallX {c} : kCall (.exc c x S h) = .exc c x h := rfl
theorem callB_ {f : Fd} : callB sub call f xs h = if xs.length = f.np then kCall (ex sub call f.body (xs.map some ++ List.replicate (f.nl - f.np) none) h) else .bad := by
  unfold callB
  split
  · cases ex sub call f.body (xs.map some ++ List.replicate (f.nl - f.np) none) h <;> rfl
  · rfl
end
/-! places of a frame -/
@[simp] theorem putNm {S : Sl} {x : D} {i : Nat} : put S x (.nm i) = if i < S.length then some (S.set i (some x)) else none := rfl
def kPuts (xs : List D) (ts : Tgs) : Option Sl → Option Sl
  | some S' => puts S' xs ts
  | none => none
@[simp] theorem kPuts_ {S : Sl} {xs : List D} {ts : Tgs} : kPuts xs ts (some S) = puts S xs ts := rfl
@[simp] theorem putsCons {S : Sl} {x : D} {xs : List D} {t : Tg} {ts : Tgs} : puts S (x :: xs) (.cons t ts) = kPuts xs ts (put S x t) := by
  show (put S x t).bind _ = _
  cases put S x t <;> rfl
@[simp] theorem putsNil {S : Sl} : puts S [] .nil = some S := rfl
@[simp] theorem putTpT {S : Sl} {xs : List D} {ts : Tgs} : put S (.tup xs) (.tp ts) = puts S xs ts := rfl
@[simp] theorem putTpL {S : Sl} {xs : List D} {ts : Tgs} : put S (.lst xs) (.tp ts) = puts S xs ts := rfl
@[simp] theorem wipeN {S : Sl} : wipe S [] = S := rfl
@[simp] theorem wipeC {S : Sl} {v : Nat} {vs : List Nat} : wipe S (v :: vs) = (wipe S vs).set v none := rfl
@[simp] theorem omitT : E.isOmit .omit = true := rfl
@[simp] theorem omitCmp {o a b} : E.isOmit (.cmp o a b) = false := rfl
@[simp] theorem omitCmp2 {o p a b c} : E.isOmit (.cmp2 o p a b c) = false := rfl
@[simp] theorem omitNot {a} : E.isOmit (.not_ a) = false := rfl
@[simp] theorem omitAnd {a b} : E.isOmit (.and_ a b) = false := rfl
@[simp] theorem omitOr {a b} : E.isOmit (.or_ a b) = false := rfl
@[simp] theorem omitNoN {a} : E.isOmit (.noN a) = false := rfl
@[simp] theorem omitIsN {a} : E.isOmit (.isN a) = false := rfl
@[simp] theorem omitPc {f a} : E.isOmit (.pcall f a) = false := rfl
@[simp] theorem omitBin {f a b} : E.isOmit (.bin f a b) = false := rfl
@[simp] theorem omitVar {a} : E.isOmit (.var a) = false := rfl
@[simp] theorem omitLit {a} : E.isOmit (.lit a) = false := rfl
@[simp] theorem omitBlt {a b} : E.isOmit (.blt a b) = false := rfl
/-! data -/
section
variable {xs ys : List D} {i j : Int} {a b : D}
@[simp] theorem ixTup : ixD (.tup xs) (.int i) = atD xs i := rfl
@[simp] theorem ixLst : ixD (.lst xs) (.int i) = atD xs i := rfl
@[simp] theorem lenTup : bltD .len [.tup xs] = some (.int xs.length) := rfl
@[simp] theorem lenLst : bltD .len [.lst xs] = some (.int xs.length) := rfl
@[simp] theorem tupLst : bltD .tuple [.lst xs] = some (.tup xs) := rfl
@[simp] theorem tupTup : bltD .tuple [.tup xs] = some (.tup xs) := rfl
@[simp] theorem listScr : bltD .list [.scr xs] = some (.lst xs) := rfl
def allO : Option (List Bool) → Option D
  | some bs => some (.bl (bs.all id))
  | none => none
@[simp] theorem allO_ {bs} : allO (some bs) = some (.bl (bs.all id)) := rfl
@[simp] theorem allLst : bltD .all [.lst xs] = allO (blsOf xs) := by
  show (blsOf xs).map _ = _
  cases blsOf xs <;> rfl
@[simp] theorem blsNil : blsOf [] = some [] := rfl
def consO (b : Bool) : Option (List Bool) → Option (List Bool)
  | some bs => some (b :: bs)
  | none => none
@[simp] theorem consO_ {b bs} : consO b (some bs) = some (b :: bs) := rfl
@[simp] theorem blsCons {b} : blsOf (.bl b :: xs) = consO b (blsOf xs) := by
  show (blsOf xs).map _ = _
  cases blsOf xs <;> rfl
@[simp] theorem absInt : bltD .abs [.int i] = some (.int (if i < 0 then -i else i)) := rfl
@[simp] theorem intInt : bltD .int [.int i] = some (.int i) := rfl
@[simp] theorem max2I : bltD .max2 [.int i, .int j] = some (.int (if j > i then j else i)) := rfl
@[simp] theorem min2I : bltD .min2 [.int i, .int j] = some (.int (if j < i then j else i)) := rfl
@[simp] theorem binAdd : binD .Add a b = addD a b := rfl
@[simp] theorem addInt : addD (.int i) (.int j) = some (.int (i + j)) := rfl
theorem addLst : addD (.lst xs) (.lst ys) = if okL (xs.length + ys.length) then some (.lst (xs ++ ys)) else none := rfl
theorem addTup : addD (.tup xs) (.tup ys) = if okL (xs.length + ys.length) then some (.tup (xs ++ ys)) else none := rfl
@[simp] theorem binSub : binD .Sub (.int i) (.int j) = some (.int (i - j)) := rfl
@[simp] theorem binMul : binD .Mult (.int i) (.int j) = if mulOk i j then some (.int (i * j)) else none := rfl
@[simp] theorem binDiv : binD .FloorDiv (.int i) (.int j) = if decide (0 < j) && decide (j.natAbs.log2 < 9000) then some (.int (i / j)) else none := rfl
@[simp] theorem binMod : binD .Mod (.int i) (.int j) = if decide (0 < j) then some (.int (i % j)) else none := rfl
@[simp] theorem cmpEq : cmpD .Eq a b = eqD a b := rfl
def negO : Option Bool → Option Bool
  | some b => some (!b)
  | none => none
@[simp] theorem negO_ {b} : negO (some b) = some (!b) := rfl
@[simp] theorem cmpNe : cmpD .NotEq a b = negO (eqD a b) := by
  show (eqD a b).map _ = _
  cases eqD a b <;> rfl
@[simp] theorem cmpLt : cmpD .Lt (.int i) (.int j) = some (decide (i < j)) := rfl
@[simp] theorem cmpLe : cmpD .LtE (.int i) (.int j) = some (decide (i ≤ j)) := rfl
@[simp] theorem cmpGt : cmpD .Gt (.int i) (.int j) = some (decide (j < i)) := rfl
@[simp] theorem cmpGe : cmpD .GtE (.int i) (.int j) = some (decide (j ≤ i)) := rfl
@[simp] theorem eqInt : eqD (.int i) (.int j) = some (i == j) := by
  simp only [eqD, D.eqOk, D.pure, D.py, SeqAt.shaped]
  rfl
@[simp] theorem isiTup {t : Ty} : isiD (.tup xs) t = some (t == .tuple) := rfl
@[simp] theorem isiInt {t : Ty} : isiD (.int i) t = some (t == .int) := rfl
@[simp] theorem isiBl {t : Ty} {b : Bool} : isiD (.bl b) t = some (t == .bool || t == .int) := rfl
@[simp] theorem isiNon {t : Ty} : isiD .non t = some false := rfl
@[simp] theorem isiStr {t : Ty} {b : Str} : isiD (.str b) t = some (t == .str) := rfl
@[simp] theorem isiLst {t : Ty} : isiD (.lst xs) t = some (t == .list) := rfl
@[simp] theorem truBl (b : Bool) : truD (.bl b) = some b := rfl
@[simp] theorem truInt (i : Int) : truD (.int i) = some (i != 0) := rfl
@[simp] theorem truNon : truD .non = some false := rfl
@[simp] theorem truTup : truD (.tup xs) = some (!xs.isEmpty) := rfl
@[simp] theorem truLst : truD (.lst xs) = some (!xs.isEmpty) := rfl
@[simp] theorem ty1 : (Ty.int == Ty.str) = false := rfl
@[simp] theorem ty2 : (Ty.bool == Ty.int) = false := rfl
@[simp] theorem ty3 : (Ty.int == Ty.bool) = false := rfl
@[simp] theorem ty4 : (Ty.tuple == Ty.int) = false := rfl
@[simp] theorem ty5 : (Ty.bool == Ty.str) = false := rfl
@[simp] theorem ty6 : (Ty.tuple == Ty.str) = false := rfl
@[simp] theorem ty7 : (Ty.tuple == Ty.bool) = false := rfl
@[simp] theorem ty8 : (Ty.tuple == Ty.list) = false := rfl
@[simp] theorem ty9 : (Ty.int == Ty.tuple) = false := rfl
@[simp] theorem ty10 : (Ty.bool == Ty.tuple) = false := rfl
@[simp] theorem ty11 : (Ty.str == Ty.int) = false := rfl
@[simp] theorem ty12 : (Ty.str == Ty.tuple) = false := rfl
@[simp] theorem ty13 : (Ty.str == Ty.bool) = false := rfl
@[simp] theorem seqTup (xs : List D) : seqD (.tup xs) = some xs := rfl
@[simp] theorem seqLst (xs : List D) : seqD (.lst xs) = some xs := rfl
end
section
variable {h r : Hs} {x y : D} {xs : List D} {i j : Int}
@[simp] theorem cmpHEq : cmpH h .Eq x y = cmpD .Eq (rd h x) (rd h y) := rfl
@[simp] theorem cmpHNe : cmpH h .NotEq x y = cmpD .NotEq (rd h x) (rd h y) := rfl
@[simp] theorem cmpHLt : cmpH h .Lt x y = cmpD .Lt (rd h x) (rd h y) := rfl
@[simp] theorem cmpHLe : cmpH h .LtE x y = cmpD .LtE (rd h x) (rd h y) := rfl
@[simp] theorem cmpHGt : cmpH h .Gt x y = cmpD .Gt (rd h x) (rd h y) := rfl
@[simp] theorem cmpHGe : cmpH h .GtE x y = cmpD .GtE (rd h x) (rd h y) := rfl
@[simp] theorem ixHT : ixH h (.tup xs) y = ixD (.tup xs) y := rfl
@[simp] theorem ixHL : ixH h (.lst xs) y = ixD (.lst xs) y := rfl
@[simp] theorem ixHR : ixH (.lst xs :: r) (.ref 0) y = ixD (.lst xs) y := rfl
theorem bltHo {b : Bl} {ds : List D} (e : b ≠ .sorted) : bltH h b ds = bltD b (ds.map (rd h)) := by
  unfold bltH
  split
  · exact absurd rfl e
  · rfl
@[simp] theorem bltHLen {ds} : bltH h .len ds = bltD .len (ds.map (rd h)) := bltHo (by decide)
@[simp] theorem bltHAll {ds} : bltH h .all ds = bltD .all (ds.map (rd h)) := bltHo (by decide)
@[simp] theorem bltHAny {ds} : bltH h .any ds = bltD .any (ds.map (rd h)) := bltHo (by decide)
@[simp] theorem bltHTup {ds} : bltH h .tuple ds = bltD .tuple (ds.map (rd h)) := bltHo (by decide)
@[simp] theorem bltHLst {ds} : bltH h .list ds = bltD .list (ds.map (rd h)) := bltHo (by decide)
@[simp] theorem bltHAbs {ds} : bltH h .abs ds = bltD .abs (ds.map (rd h)) := bltHo (by decide)
@[simp] theorem bltHInt {ds} : bltH h .int ds = bltD .int (ds.map (rd h)) := bltHo (by decide)
@[simp] theorem bltHSum {ds} : bltH h .sum ds = bltD .sum (ds.map (rd h)) := bltHo (by decide)
@[simp] theorem bltHMax1 {ds} : bltH h .max1 ds = bltD .max1 (ds.map (rd h)) := bltHo (by decide)
@[simp] theorem bltHMin1 {ds} : bltH h .min1 ds = bltD .min1 (ds.map (rd h)) := bltHo (by decide)
@[simp] theorem bltHMax2 {ds} : bltH h .max2 ds = bltD .max2 (ds.map (rd h)) := bltHo (by decide)
@[simp] theorem bltHMin2 {ds} : bltH h .min2 ds = bltD .min2 (ds.map (rd h)) := bltHo (by decide)
@[simp] theorem bltHStr {ds} : bltH h .str ds = bltD .str (ds.map (rd h)) := bltHo (by decide)
@[simp] theorem binAnd : binD .BitAnd (.int i) (.int j) = some (.int (Builtin.bitAnd i j)) := rfl
end
/-- the drawing state -/
def StD (h : Hs) : Prop := ∃ cs : List Int, ∃ a b s : Int, h = [.lst [.lst (cs.map .int), .int a, .int b, .int s]] ∧ 0 ≤ a ∧ 0 ≤ b ∧ 0 ≤ s ∧ s < 2147483648
end Pl

set_option Elab.async false
set_option linter.all false
set_option maxRecDepth 100000
set_option maxHeartbeats 4000000
namespace Pl
open PySem Ci
/-! ### more of the kit for plain laws: no mirror in it -/
def stSnd : St → St
  | .seq _ b => b
  | s => s
def stFst : St → St
  | .seq a _ => a
  | s => s
def stFor : St → St
  | .for_ _ _ s => s
  | s => s
theorem pcOk {call : Nat → List D → Hs → R D} {f : Nat} {ds : List D} {h : Hs} {d : D} (c : D.clears ds = true) (e : call f ds [] = .ok d []) (s : d.scal = true) : pcallF call f ds h = .ok d h := by
  cases d <;> first | (simp [D.scal] at s; done) | (simp [pcallF, c, e, thaw, rd, D.clear])
theorem pcExc {call : Nat → List D → Hs → R D} {f c : Nat} {ds : List D} {h g : Hs} {v : D} (cl : D.clears ds = true) (e : call f ds [] = .exc c v g) (s : v.scal = true) : pcallF call f ds h = .exc c v h := by
  simp [pcallF, cl, e, s]
theorem pcRef {call : Nat → List D → Hs → R D} {f : Nat} {ds xs : List D} {h : Hs} (c : D.clears ds = true) (e : call f ds [] = .ok (.ref 0) [.lst xs]) (cx : D.clears xs = true) (t : xs.map (thaw [.lst xs] 5) = xs) : pcallF call f ds h = .ok (.lst xs) h := by
  have e2 : thaw [.lst xs] 6 (.ref 0) = .lst (xs.map (thaw [.lst xs] 5)) := rfl
  simp only [pcallF, c, e, if_true, e2, t, D.clear, cx]
def cl1 (d : D) (h : d.clear = true) : D.clears [d] = true := by simp [D.clears, h]
theorem clT (xs : List D) (h : D.clears xs = true) : (D.tup xs).clear = true := by simp [D.clear, h]
def compElt : E → E
  | .not_ (.blt .all (.cons (.il (.comp e _ _ _ _)) .nil)) => e
  | e => e
def ifC : St → E
  | .ife c _ _ => c
  | _ => .nope
theorem comp_all (t : D → Hs → R (Option D)) (h : Hs) : ∀ (xs : List D), (∀ x ∈ xs, t x h = .ok (some (.bl true)) h) → compF t xs h = .ok (xs.map fun _ => .bl true) h
  | [], _ => rfl
  | x :: xs, a => by
    simp only [compF, a x List.mem_cons_self, bindOk, comp_all t h xs (fun y hy => a y (List.mem_cons_of_mem _ hy)), List.map_cons]
theorem bls_true (xs : List D) : blsOf (xs.map fun _ => .bl true) = some (xs.map fun _ => true) := by
  induction xs with
  | nil => rfl
  | cons x xs ih => simp [ih]
theorem bls_all (xs : List D) : ((xs.map fun _ => true).all id) = true := by
  induction xs with
  | nil => rfl
  | cons x xs ih => simp
theorem allT {α : Type} (xs : List α) : (xs.all fun _ => true) = true := by induction xs <;> simp_all
theorem scCl {d : D} (s : d.scal = true) : d.clear = true := by cases d <;> simp_all [D.scal, D.clear]
/-- a result with nothing of a store in it -/
def flatR : R D → Bool
  | .ok v [] => v.scal
  | .exc _ v [] => v.scal
  | _ => false
/-- in any store -/
def inSt {α : Type} (r : R α) (h : Hs) : R α := match r with
  | .ok v _ => .ok v h
  | .exc c v _ => .exc c v h
  | .bad => .bad
theorem pcFlat {call : Nat → List D → Hs → R D} {f : Nat} {ds : List D} {h : Hs} {r : R D} (c : D.clears ds = true) (e : call f ds [] = r) (s : flatR r = true) : pcallF call f ds h = inSt r h := by
  cases r with
  | ok v g => cases g with
    | nil => exact pcOk c e s
    | cons _ _ => cases s
  | exc cc v g => cases g with
    | nil => exact pcExc c e s
    | cons _ _ => cases s
  | bad => cases s
/-- a comprehension with draws -/
theorem comp_draw (P : D → Prop) (t : D → Hs → R (Option D)) : ∀ (xs : List D) (h : Hs), (∀ x ∈ xs, ∀ h, StD h → ∃ y h', StD h' ∧ P y ∧ t x h = .ok (some y) h') → StD h → ∃ ys h', StD h' ∧ (∀ y ∈ ys, P y) ∧ ys.length = xs.length ∧ compF t xs h = .ok ys h'
  | [], h, _, g => ⟨[], h, g, by simp, rfl, rfl⟩
  | x :: xs, h, a, g => by
    obtain ⟨y, h1, g1, py, e⟩ := a x List.mem_cons_self h g
    obtain ⟨ys, h2, g2, p, l, e2⟩ := comp_draw P t xs h1 (fun z hz => a z (List.mem_cons_of_mem _ hz)) g1
    refine ⟨y :: ys, h2, g2, ?_, by simp [l], ?_⟩
    · intro z hz
      rcases List.mem_cons.1 hz with rfl | hz
      · exact py
      · exact p z hz
    · simp only [compF, e, bindOk, e2]
theorem for_draw (I : Sl → Prop) (t : D → Sl → Hs → RS) : ∀ (xs : List D) (S : Sl) (h : Hs), (∀ x ∈ xs, ∀ S h, I S → StD h → ∃ S' h', I S' ∧ StD h' ∧ t x S h = .nx S' h') → I S → StD h → ∃ S' h', I S' ∧ StD h' ∧ forF t xs S h = .nx S' h'
  | [], S, h, _, i, g => ⟨S, h, i, g, rfl⟩
  | x :: xs, S, h, a, i, g => by
    obtain ⟨S1, h1, i1, g1, e⟩ := a x List.mem_cons_self S h i g
    obtain ⟨S2, h2, i2, g2, e2⟩ := for_draw I t xs S1 h1 (fun z hz => a z (List.mem_cons_of_mem _ hz)) i1 g1
    exact ⟨S2, h2, i2, g2, by simp only [forF, e, e2]⟩
theorem ex_map {α : Type} (Q : α → Prop) (f : α → D) : ∀ ys : List D, (∀ y ∈ ys, ∃ p, Q p ∧ y = f p) → ∃ l : List α, ys = l.map f ∧ ∀ p ∈ l, Q p
  | [], _ => ⟨[], rfl, by simp⟩
  | y :: ys, a => by
    obtain ⟨p, q, rfl⟩ := a y List.mem_cons_self
    obtain ⟨l, rfl, b⟩ := ex_map Q f ys (fun z hz => a z (List.mem_cons_of_mem _ hz))
    refine ⟨p :: l, rfl, ?_⟩
    intro z hz
    rcases List.mem_cons.1 hz with rfl | hz
    · exact q
    · exact b z hz
theorem rng_len (n : Int) (a : 0 ≤ n) (b : n ≤ 1000) : ∃ xs, rangeD 0 n = some xs ∧ xs.length = n.toNat := by
  have h1 : n < 2 ^ 62 := by omega
  have h2 : -(2 ^ 62) ≤ n := by omega
  exact ⟨(List.range (n - 0).toNat).map fun k => .int (0 + (k : Nat)), by simp [rangeD]; omega, by simp⟩
def isExc (r : R D) (c : Nat) (x : Str) : Bool := match r with
  | .exc d (.str y) [] => d == c && y == x
  | _ => false
theorem isExc_eq {r : R D} {c : Nat} {x : Str} (h : isExc r c x = true) : r = .exc c (.str x) [] := by
  unfold isExc at h
  split at h
  · simp only [Bool.and_eq_true, beq_iff_eq] at h
    rw [h.1, h.2]
  · cases h
def isOk (r : R D) (d : D) : Bool := match r with
  | .ok e [] => D.beq e d
  | _ => false
theorem isOk_eq {r : R D} {d : D} (h : isOk r d = true) : r = .ok d [] := by
  unfold isOk at h
  split at h
  · rw [D.beq_eq h]
  · cases h
/-- a pure call is the same in any store -/
theorem pcSt {call : Nat → List D → Hs → R D} {f : Nat} {ds : List D} {r : R D} (e : pcallF call f ds [] = r) (h : Hs) : pcallF call f ds h = inSt r h := by
  subst e
  unfold pcallF
  split
  · cases call f ds [] with
    | ok d g => simp only []; split <;> rfl
    | exc c v g => simp only []; split <;> rfl
    | bad => rfl
  · rfl
theorem all_mem {xs : List D} {p : D → Bool} (h : xs.all p = true) {x : D} (m : x ∈ xs) : p x = true := List.all_eq_true.1 h x m
theorem isOkN {r : R D} (h : isOk r .non = true) : r = .ok .non [] := isOk_eq h
theorem at_nat {xs : List D} {i : Int} {x : D} (h0 : 0 ≤ i) (e : xs[i.toNat]? = some x) : atD xs i = some x := by
  have l : i.toNat < xs.length := by
    rcases Nat.lt_or_ge i.toNat xs.length with h | h
    · exact h
    · rw [List.getElem?_eq_none h] at e; cases e
  have h1 : i < (xs.length : Int) := by omega
  simp only [atD, ixI, h0, h1, if_true, Option.bind_some, e]
/-- what is kept of a walk over data -/
theorem comp_pick {α : Type} (f : α → D) (c : α → Bool) (g : α → D) (t : D → Hs → R (Option D)) (h : Hs) : ∀ (xs : List α), (∀ x ∈ xs, t (f x) h = .ok (if c x then some (g x) else none) h) → compF t (xs.map f) h = .ok ((xs.filter c).map g) h
  | [], _ => rfl
  | x :: xs, a => by
    simp only [List.map_cons, compF, a x List.mem_cons_self, bindOk, comp_pick f c g t h xs (fun y hy => a y (List.mem_cons_of_mem _ hy))]
    cases e : c x <;> simp [List.filter_cons, e]
theorem mem1 {p : D → Bool} {xs : List D} (h : (xs.all fun g => g.clear && p g) = true) {x : D} (m : x ∈ xs) : x.clear = true ∧ p x = true := by
  have := List.all_eq_true.1 h x m
  simpa only [Bool.and_eq_true] using this
end Pl

set_option Elab.async false
set_option linter.all false
set_option maxRecDepth 100000
set_option maxHeartbeats 4000000
namespace Pl
open PySem Ci
/-- the drawing state, and what else lies in the store -/
def StR (r : Hs) (h : Hs) : Prop := ∃ cs : List Int, ∃ a b s : Int, h = .lst [.lst (cs.map .int), .int a, .int b, .int s] :: r ∧ 0 ≤ a ∧ 0 ≤ b ∧ 0 ≤ s ∧ s < 2147483648
/-- a comprehension whose turns keep T -/
theorem comp_T (T : Hs → Prop) (P : D → Prop) (t : D → Hs → R (Option D)) : ∀ (xs : List D) (h : Hs), (∀ x ∈ xs, ∀ h, T h → ∃ y h', T h' ∧ P y ∧ t x h = .ok (some y) h') → T h → ∃ ys h', T h' ∧ (∀ y ∈ ys, P y) ∧ ys.length = xs.length ∧ compF t xs h = .ok ys h'
  | [], h, _, g => ⟨[], h, g, by simp, rfl, rfl⟩
  | x :: xs, h, a, g => by
    obtain ⟨y, h1, g1, py, e⟩ := a x List.mem_cons_self h g
    obtain ⟨ys, h2, g2, p, l, e2⟩ := comp_T T P t xs h1 (fun z hz => a z (List.mem_cons_of_mem _ hz)) g1
    refine ⟨y :: ys, h2, g2, ?_, by simp [l], ?_⟩
    · intro z hz
      rcases List.mem_cons.1 hz with rfl | hz
      · exact py
      · exact p z hz
    · simp only [compF, e, bindOk, e2]
theorem for_T (T : Sl → Hs → Prop) (t : D → Sl → Hs → RS) : ∀ (xs : List D) (S : Sl) (h : Hs), (∀ x ∈ xs, ∀ S h, T S h → ∃ S' h', T S' h' ∧ t x S h = .nx S' h') → T S h → ∃ S' h', T S' h' ∧ forF t xs S h = .nx S' h'
  | [], S, h, _, g => ⟨S, h, g, rfl⟩
  | x :: xs, S, h, a, g => by
    obtain ⟨S1, h1, g1, e⟩ := a x List.mem_cons_self S h g
    obtain ⟨S2, h2, g2, e2⟩ := for_T T t xs S1 h1 (fun z hz => a z (List.mem_cons_of_mem _ hz)) g1
    exact ⟨S2, h2, g2, by simp only [forF, e, e2]⟩
theorem filter_any {α : Type} (f : α → D) (c : α → Bool) : ∀ xs : List α, ((xs.filter c).map f).isEmpty = !xs.any c
  | [] => rfl
  | x :: xs => by
    cases e : c x <;> simp [List.filter_cons, e, filter_any f c xs]
/-- a result out of any store -/
theorem pcAny {call : Nat → List D → Hs → R D} {f : Nat} {ds : List D} {h g : Hs} {d : D} (c : D.clears ds = true) (e : call f ds [] = .ok d g) (t : thaw g 6 d = d) (cd : d.clear = true) : pcallF call f ds h = .ok d h := by
  simp only [pcallF, c, e, if_true, t, cd]
@[simp] theorem exAugx {sub : Nat → Nat → Bool} {call : Nat → List D → Hs → R D} {S : Sl} {h : Hs} {a i e : E} {op : Operator} : ex sub call (.augx a i op e) S h = (ev sub call a S h).st S fun o h1 => (ev sub call i S h1).st S fun k h2 => match rd h2 o, k with
    | .lst xs, .int j => match atD xs j with
      | some (.int x) => (ev sub call e S h2).st S fun y h3 => match augV op x y with
        | some v => augO S o j v h3
        | none => .bad
      | _ => .bad
    | _, _ => .bad := rfl
def kRev (x : D) (h1 : Hs) : R D := liftO (revD (rd h1 x)) h1
@[simp] theorem kRev_ {x : D} {h : Hs} : kRev x h = liftO (revD (rd h x)) h := rfl
@[simp] theorem evRev {sub : Nat → Nat → Bool} {call : Nat → List D → Hs → R D} {S : Sl} {h : Hs} {a : E} : ev sub call (.rev a) S h = (ev sub call a S h).bind kRev := rfl
@[simp] theorem revT {xs : List D} : revD (.tup xs) = some (.tup xs.reverse) := rfl
@[simp] theorem revL {xs : List D} : revD (.lst xs) = some (.lst xs.reverse) := rfl
theorem compP_all (t : D → Hs → R (Option (Ky × D))) (h : Hs) (g : D → Ky × D) (xs : List D) (ht : ∀ x ∈ xs, t x h = .ok (some (g x)) h) : ∀ (k i : Nat), i ≤ xs.length → xs.length < i + k → compP t (.fix xs) k i h = .ok ((xs.drop i).map g) h
  | 0, i, h1, h2 => by omega
  | k + 1, i, h1, h2 => by
    unfold compP
    by_cases hl : i < xs.length
    · rw [List.drop_eq_getElem_cons hl]
      simp only [itm, List.getElem?_eq_getElem hl, ht _ (List.getElem_mem hl), bindOk, compP_all t h g xs ht k (i + 1) hl (by omega), List.map_cons]
    · have e : i = xs.length := by omega
      subst e
      simp [itm, srcOk]
/-- a new key at the end -/
def addK (ks : List Int) (p : Int) : List Int := if p ∈ ks then ks else ks ++ [p]
def addKs (ks : List Int) : List Int → List Int
  | [] => ks
  | p :: r => addKs (addK ks p) r
def mkK (k : Int) : Ky × D := (.inl k, .bl true)
theorem dput_mk (ks : List Int) (p : Int) : dput (ks.map mkK) (.inl p) (.bl true) = (addK ks p).map mkK := by
  have e : ((ks.map mkK).any fun kv => decide (kv.1 = Sum.inl p)) = decide (p ∈ ks) := by
    induction ks with
    | nil => rfl
    | cons k ks ih =>
      simp only [List.map_cons, List.any_cons, ih, mkK, List.mem_cons]
      by_cases q : k = p
      · simp [q]
      · simp [q, Ne.symm q]
  unfold dput addK
  rw [e]
  by_cases q : p ∈ ks
  · rw [if_pos (by simpa using q), if_pos q, List.map_map]
    apply List.map_congr_left
    intro k _
    simp only [Function.comp, mkK]
    exact ite_self _
  · rw [if_neg (by simpa using q), if_neg q]
    simp [mkK]
theorem dputs_mk : ∀ (ps ks : List Int), dputs (ks.map mkK) (ps.map mkK) = (addKs ks ps).map mkK
  | [], ks => rfl
  | p :: ps, ks => by
    show dputs (dput (ks.map mkK) (.inl p) (.bl true)) (ps.map mkK) = _
    rw [dput_mk, dputs_mk ps]
    rfl
theorem keys_mk : ∀ ks : List Int, keysI (ks.map mkK) = some ks
  | [] => rfl
  | k :: ks => by simp [keysI, mkK, keys_mk ks]
theorem at_any (qs : List Int) (j : Int) (h1 : -(qs.length : Int) ≤ j) (h2 : j < qs.length) : ∃ l, atD (qs.map .int) j = some (.int l) := by
  unfold atD
  by_cases h0 : 0 ≤ j
  · have t : j.toNat < qs.length := by omega
    exact ⟨qs[j.toNat], by simp [ixI, h0, h2, t]⟩
  · have t : (j + qs.length).toNat < qs.length := by omega
    exact ⟨qs[(j + qs.length).toNat], by simp [ixI, h0, h1, t]⟩
def isP (d : D) : Prop := ∃ a b, d = .tup [.int a, .int b]
theorem isP_facts : ∀ (rows : List D), (∀ r ∈ rows, isP r) → D.pures rows = true ∧ PyData.depthAll (D.pys rows) ≤ 2
  | [], _ => ⟨rfl, by simp [D.pys, PyData.depthAll]⟩
  | r :: rows, h => by
    obtain ⟨a, b, rfl⟩ := h r List.mem_cons_self
    obtain ⟨h1, h2⟩ := isP_facts rows fun x hx => h x (List.mem_cons_of_mem _ hx)
    refine ⟨by simp [D.pures, D.pure, h1], ?_⟩
    simp only [D.pys, D.py, PyData.depthAll, PyData.depth]
    omega
theorem isP_alike {x y : D} (hx : isP x) (hy : isP y) : PySem.W.alike x.py y.py = true := by
  obtain ⟨a, b, rfl⟩ := hx
  obtain ⟨c, d, rfl⟩ := hy
  simp [D.py, D.pys, PySem.W.alike, PySem.W.alikeAll]
theorem isP_all {rows : List D} (h : ∀ r ∈ rows, isP r) : alikeB rows = true := by
  obtain ⟨h1, h2⟩ := isP_facts rows h
  unfold alikeB
  simp only [h1, Bool.true_and, Bool.and_eq_true, decide_eq_true_eq, List.all_eq_true]
  refine ⟨⟨fun x hx y hy => isP_alike (h x hx) (h y hy), fun x hx => ?_⟩, by omega⟩
  obtain ⟨a, b, rfl⟩ := h x hx
  rfl
theorem addKs_len : ∀ (ps ks : List Int), (addKs ks ps).length ≤ ks.length + ps.length
  | [], ks => by simp [addKs]
  | p :: ps, ks => by
    have h1 := addKs_len ps (addK ks p)
    have h2 : (addK ks p).length ≤ ks.length + 1 := by unfold addK; split <;> simp
    show (addKs (addK ks p) ps).length ≤ _
    simp only [List.length_cons]; omega
theorem addKs_mem (x : Int) : ∀ (ps ks : List Int), x ∈ addKs ks ps ↔ x ∈ ks ∨ x ∈ ps
  | [], ks => by simp [addKs]
  | p :: ps, ks => by
    have h1 := addKs_mem x ps (addK ks p)
    have h2 : x ∈ addK ks p ↔ x ∈ ks ∨ x = p := by
      unfold addK
      split
      · constructor
        · exact Or.inl
        · rintro (h | rfl)
          · exact h
          · assumption
      · simp
    show x ∈ addKs (addK ks p) ps ↔ _
    rw [h1, h2, List.mem_cons]
    constructor
    · rintro ((h | h) | h)
      · exact .inl h
      · exact .inr (.inl h)
      · exact .inr (.inr h)
    · rintro (h | h | h)
      · exact .inl (.inl h)
      · exact .inl (.inr h)
      · exact .inr h
/-- pairs in order -/
theorem sort_pairs {rows : List D} (h : ∀ r ∈ rows, isP r) (l : rows.length ≤ 1000) : ∃ out, bltD .sorted [.lst rows] = some (.lst out) ∧ out.Perm rows := by
  cases rows with
  | nil => exact ⟨[], rfl, .refl _⟩
  | cons r rows =>
    have hi : intsOf (r :: rows) = none := by
      obtain ⟨c, d, rfl⟩ := h r List.mem_cons_self
      rfl
    have hs : sortB (r :: rows) = true := by
      unfold sortB
      rw [List.all_eq_true]
      intro x hx
      obtain ⟨c, d, rfl⟩ := h x hx
      rfl
    have ho : okL (r :: rows).length = true := okLt (by omega)
    refine ⟨(r :: rows).mergeSort (PySem.W.dataLe false D.py), ?_, List.mergeSort_perm _ _⟩
    simp only [bltD, hi, isP_all h, hs, ho, Bool.and_self, if_true]
theorem cut_mem {xs : List D} {lo hi : Option Int} {x : D} (h : x ∈ cutL xs lo hi) : x ∈ xs := by
  unfold cutL at h
  exact List.mem_of_mem_drop (List.mem_of_mem_take h)
theorem cut_len (xs : List D) (lo hi : Option Int) : (cutL xs lo hi).length ≤ xs.length := by
  unfold cutL
  rw [List.length_take, List.length_drop]
  omega
/-- places and items -/
def enumP {α : Type} (i : Nat) : List α → List (Nat × α)
  | [] => []
  | x :: xs => (i, x) :: enumP (i + 1) xs
theorem enum_map {α : Type} (f : α → D) : ∀ (xs : List α) (i : Nat), enumD i (xs.map f) = (enumP i xs).map fun z => .tup [.int (z.1 : Nat), f z.2]
  | [], _ => rfl
  | x :: xs, i => by simp [enumD, enumP, enum_map f xs (i + 1)]
theorem enum_len {α : Type} : ∀ (xs : List α) (i : Nat), (enumP i xs).length = xs.length
  | [], _ => rfl
  | x :: xs, i => by simp [enumP, enum_len xs (i + 1)]
theorem enum_filter {α : Type} (c : α → Bool) : ∀ (xs : List α) (i : Nat), ((enumP i xs).filter fun z => c z.2).length = (xs.filter c).length
  | [], _ => rfl
  | x :: xs, i => by
    have := enum_filter c xs (i + 1)
    cases e : c x <;> simp [enumP, List.filter_cons, e, this]
end Pl

set_option Elab.async false
set_option linter.all false
set_option maxRecDepth 100000
set_option maxHeartbeats 4000000
namespace Pl
open PySem Ci
theorem PFs : mM.PF 21 = some i__law_start := rfl
theorem PFd : mM.PF 22 = some i__law_draw := rfl
theorem PFp : mM.PF 23 = some i__law_pick := rfl
theorem log_le {x : Int} {n : Nat} (h0 : 0 ≤ x) (h : x < 2 ^ n) : x.natAbs.log2 ≤ n := by
  rcases Nat.eq_zero_or_pos x.natAbs with e | p
  · rw [e]; exact Nat.zero_le n
  · have : x.natAbs < 2 ^ n := by
      have : (x.natAbs : Int) < 2 ^ n := by rw [Int.natAbs_of_nonneg h0]; exact h
      exact_mod_cast this
    exact Nat.le_of_lt ((Nat.log2_lt (by omega)).2 this)
theorem mul_ok {x y : Int} (h0 : 0 ≤ x) (h : x < 2 ^ 100) (h1 : 0 ≤ y) (h2 : y < 2 ^ 100) : mulOk x y = true := by
  unfold mulOk
  have := log_le h0 h
  have := log_le h1 h2
  exact decide_eq_true (by omega)
theorem start_turn (sub : Nat → Nat → Bool) (call : Nat → List D → Hs → R D) (o : D) (v : Option D) (c s : Int) (h0 : 0 ≤ s) (h1 : s < 2147483648) : 
   ex sub call (.asg (.nm 1) (.bin .Add (.bin .Mod (.blt .int (.cons (.bin .Add (.bin .Mult (.var 1) (.lit (.int (48271)))) (.var 2)) .nil)) (.lit (.int (2147483629)))) (.lit (.int (1))))) [some o, some (.int s), some (.int c)] [] = .nx [some o, some (.int ((s * 48271 + c) % 2147483629 + 1)), some (.int c)] [] := by
  have m : mulOk s 48271 = true := mul_ok h0 (by omega) (by omega) (by omega)
  simp [m]
def startB : St := .asg (.nm 1) (.bin .Add (.bin .Mod (.blt .int (.cons (.bin .Add (.bin .Mult (.var 1) (.lit (.int (48271)))) (.var 2)) .nil)) (.lit (.int (2147483629)))) (.lit (.int (1))))
theorem start_loop (sub : Nat → Nat → Bool) (call : Nat → List D → Hs → R D) (o : D) : ∀ (ns : List Int) (s : Int) (v : Option D), 0 ≤ s → s < 2147483648 → ∃ s' v', 0 ≤ s' ∧ s' < 2147483648 ∧ forF (turnF sub call (.nm 2) startB) (ns.map .int) [some o, some (.int s), v] [] = .nx [some o, some (.int s'), v'] []
  | [], s, v, h0, h1 => ⟨s, v, h0, h1, rfl⟩
  | c :: ns, s, v, h0, h1 => by
    obtain ⟨s', v', a, b, f⟩ := start_loop sub call o ns ((s * 48271 + c) % 2147483629 + 1) (some (.int c)) (by omega) (by omega)
    refine ⟨s', v', a, b, ?_⟩
    rw [List.map_cons, forF]
    have e : turnF sub call (.nm 2) startB (.int c) [some o, some (.int s), v] [] = .nx [some o, some (.int ((s * 48271 + c) % 2147483629 + 1)), some (.int c)] [] := start_turn sub call o v c s h0 h1
    rw [e]
    exact f
theorem start_ok (k : Nat) (ns : List Int) : ∃ h, StR [] h ∧ callF mM.sub mM.PF (k + 1) 21 [.scr (ns.map .int)] [] = .ok (.ref 0) h := by
  rw [callS _ _ _ _ _ _ _ PFs]
  obtain ⟨s', v', a, b, f⟩ := start_loop mM.sub (callF mM.sub mM.PF k) (.scr (ns.map .int)) ns 7 none (by omega) (by omega)
  unfold startB at f
  simp [callB_, i__law_start, f, okL, sizeLine]
  exact ⟨ns, 0, 0, s', rfl, by omega, by omega, a, b⟩
theorem at0 (a b c d : D) : atD [a, b, c, d] 0 = some a := rfl
theorem at1 (a b c d : D) : atD [a, b, c, d] 1 = some b := rfl
theorem at2 (a b c d : D) : atD [a, b, c, d] 2 = some c := rfl
theorem at3 (a b c d : D) : atD [a, b, c, d] 3 = some d := rfl
theorem st1 (S : Sl) (r : Hs) (a b c d v : D) : setO S (.ref 0) (.int 1) v (.lst [a, b, c, d] :: r) = .nx S (.lst [a, v, c, d] :: r) := setRef rfl
theorem st2 (S : Sl) (r : Hs) (a b c d v : D) : setO S (.ref 0) (.int 2) v (.lst [a, b, c, d] :: r) = .nx S (.lst [a, b, v, d] :: r) := setRef rfl
theorem st3 (S : Sl) (r : Hs) (a b c d v : D) : setO S (.ref 0) (.int 3) v (.lst [a, b, c, d] :: r) = .nx S (.lst [a, b, c, v] :: r) := setRef rfl
theorem atL {f : Int → D} {cs : List Int} {i : Int} (h0 : 0 ≤ i) (h : i < cs.length) : atD (cs.map f) i = some (f (cs[i.toNat]'(by omega))) := by
  have hx : i < ((cs.map f).length : Int) := by simpa using h
  simp only [atD, ixI, h0, hx, if_true, Option.bind_some]
  rw [List.getElem?_eq_getElem (by simp; omega)]
  simp
theorem draw_ok {r : Hs} (k : Nat) (h : Hs) (m : Int) (g : StR r h) (m0 : 0 < m) (m1 : m < 2 ^ 100) : ∃ v h', StR r h' ∧ 0 ≤ v ∧ v < m ∧ callF mM.sub mM.PF (k + 1) 22 [.ref 0, .int m] h = .ok (.int v) h' := by
  obtain ⟨cs, a, b, s, rfl, ha, hb, hs, hs2⟩ := g
  rw [callS _ _ _ _ _ _ _ PFd]
  have ml : mulOk s 48271 = true := mul_ok hs (by omega) (by omega) (by omega)
  have lg : m.natAbs.log2 < 9000 := Nat.lt_of_le_of_lt (log_le (n := 100) (by omega) m1) (by omega)
  have l13 : Nat.log2 13 < 9000 := by decide
  have md : ∀ x : Int, 0 ≤ x % m ∧ x % m < m := fun x => ⟨Int.emod_nonneg _ (by omega), Int.emod_lt_of_pos _ m0⟩
  by_cases e : a = 0
  · by_cases e2 : (cs.length : Int) ≤ b
    · simp [callB_, i__law_draw, at0, at1, at2, at3, st1, st2, st3, e, e2, ml, lg, m0, l13]
      exact ⟨_, _, ⟨cs, 0, b, _, rfl, by omega, hb, by omega, by omega⟩, (md _).1, (md _).2, rfl, rfl⟩
    · have l := atL (f := D.int) hb (Int.not_le.1 e2)
      simp [callB_, i__law_draw, at0, at1, at2, at3, st1, st2, st3, e, e2, ml, lg, m0, l13, l]
      exact ⟨_, _, ⟨cs, _, b + 1, s, rfl, Int.ediv_nonneg (by split <;> omega) (by omega), by omega, hs, hs2⟩, (md _).1, (md _).2, rfl, rfl⟩
  · have eb : (a == 0) = false := by simp [e]
    simp [callB_, i__law_draw, at0, at1, at2, at3, st1, st2, st3, eb, ml, lg, m0, l13]
    exact ⟨_, _, ⟨cs, _, b, s, rfl, Int.ediv_nonneg (by omega) (by omega), by omega, hs, hs2⟩, (md _).1, (md _).2, rfl, rfl⟩
/-- any item of what is offered -/
theorem pick_ok {r : Hs} (k : Nat) (h : Hs) (xs : List D) (g : StR r h) (e : xs ≠ []) (l : xs.length < 1000) : ∃ x h', StR r h' ∧ x ∈ xs ∧ callF mM.sub mM.PF (k + 2) 23 [.ref 0, .lst xs] h = .ok x h' := by
  rw [callS _ _ _ _ _ _ _ PFp]
  have p : 0 < xs.length := List.length_pos_iff.2 e
  obtain ⟨v, h', g', v0, v1, ev⟩ := draw_ok k h xs.length g (by omega) (by omega)
  have t : v.toNat < xs.length := by omega
  have at' : atD xs v = some xs[v.toNat] := by
    simp only [atD, ixI, v0, v1, if_true, Option.bind_some]
    rw [List.getElem?_eq_getElem t]
  refine ⟨xs[v.toNat], h', g', List.getElem_mem t, ?_⟩
  simp [callB_, i__law_pick, ev, at']
theorem pickT_ok {r : Hs} (k : Nat) (h : Hs) (xs : List D) (g : StR r h) (e : xs ≠ []) (l : xs.length < 1000) : ∃ x h', StR r h' ∧ x ∈ xs ∧ callF mM.sub mM.PF (k + 2) 23 [.ref 0, .tup xs] h = .ok x h' := by
  rw [callS _ _ _ _ _ _ _ PFp]
  have p : 0 < xs.length := List.length_pos_iff.2 e
  obtain ⟨v, h', g', v0, v1, ev⟩ := draw_ok k h xs.length g (by omega) (by omega)
  have t : v.toNat < xs.length := by omega
  have at' : atD xs v = some xs[v.toNat] := by
    simp only [atD, ixI, v0, v1, if_true, Option.bind_some]
    rw [List.getElem?_eq_getElem t]
  refine ⟨xs[v.toNat], h', g', List.getElem_mem t, ?_⟩
  simp [callB_, i__law_pick, ev, at']
end Pl

set_option Elab.async false
set_option linter.all false
set_option maxRecDepth 100000
set_option maxHeartbeats 4000000
namespace Pl
open PySem Ci
theorem PF0 : mM.PF 0 = some i_is_integer := rfl
theorem PF1 : mM.PF 1 = some i_check_storm := rfl
theorem PF2 : mM.PF 2 = some i_is_place := rfl
theorem PF3 : mM.PF 3 = some i_check_hour := rfl
theorem PF4 : mM.PF 4 = some i_check_place := rfl
theorem PF5 : mM.PF 5 = some i_middle_at := rfl
theorem PF6 : mM.PF 6 = some i_may_strike := rfl
theorem PF7 : mM.PF 7 = some i_must_strike := rfl
theorem PF8 : mM.PF 8 = some i_first_strike := rfl
theorem PF9 : mM.PF 9 = some i_struck_hours := rfl
theorem PF10 : mM.PF 10 = some i_safe_places := rfl
theorem PF11 : mM.PF 11 = some i_check_places := rfl
theorem PF12 : mM.PF 12 = some i_check_reports := rfl
theorem PF13 : mM.PF 13 = some i_check_speeds := rfl
theorem PF14 : mM.PF 14 = some i_spans_forward := rfl
theorem PF15 : mM.PF 15 = some i_judge_reports := rfl
theorem PF16 : mM.PF 16 = some i_accept_course := rfl
theorem PF17 : mM.PF 17 = some i_accept_against := rfl
theorem PF18 : mM.PF 18 = some i_first_against := rfl
theorem PF19 : mM.PF 19 = some i_whole_speeds := rfl
theorem PF20 : mM.PF 20 = some i_steady := rfl
theorem PF21 : mM.PF 21 = some i__law_start := rfl
theorem PF22 : mM.PF 22 = some i__law_draw := rfl
theorem PF23 : mM.PF 23 = some i__law_pick := rfl
theorem PF24 : mM.PF 24 = some i__law_same := rfl
theorem PF25 : mM.PF 25 = some i__law_word := rfl
theorem PF26 : mM.PF 26 = some i__law_called := rfl
theorem PF27 : mM.PF 27 = some i__law_asked := rfl
theorem PF28 : mM.PF 28 = some i__law_bent := rfl
theorem PF29 : mM.PF 29 = some i__law_is_whole := rfl
theorem PF30 : mM.PF 30 = some i__law_is := rfl
theorem PF31 : mM.PF 31 = some i__law_any := rfl
theorem PF32 : mM.PF 32 = some i__law_course_due := rfl
theorem PF33 : mM.PF 33 = some i__law_against_due := rfl
theorem PF34 : mM.PF 34 = some i__law_papers_hold := rfl
theorem PF35 : mM.PF 35 = some i__law_great_holds := rfl
theorem PF36 : mM.PF 36 = some i__law_place := rfl
theorem PF37 : mM.PF 37 = some i__law_is_storm := rfl
theorem PF38 : mM.PF 38 = some i__law_are_reports := rfl
theorem PF39 : mM.PF 39 = some i__law_arguments_hold := rfl
theorem PF40 : mM.PF 40 = some i_law := rfl
/-! plain data: no list, no reference; tuples of at most N items -/
mutual
def pln (N : Nat) : D → Bool
  | .non => true
  | .bl _ => true
  | .int i => decide (i.natAbs ≤ 10 ^ 30 + 100 * N)
  | .str _ => true
  | .tup xs => decide (xs.length ≤ N) && plns N xs
  | _ => false
def plns (N : Nat) : List D → Bool
  | [] => true
  | x :: xs => pln N x && plns N xs
end
theorem plns_iff {N : Nat} : ∀ {xs : List D}, plns N xs = true ↔ ∀ x ∈ xs, pln N x = true
  | [] => by simp [plns]
  | x :: xs => by
    simp only [plns, Bool.and_eq_true, List.mem_cons, forall_eq_or_imp]
    rw [plns_iff]
theorem pln_tup {N : Nat} {xs : List D} : pln N (.tup xs) = true ↔ xs.length ≤ N ∧ ∀ x ∈ xs, pln N x = true := by
  simp only [pln, Bool.and_eq_true, decide_eq_true_eq]
  rw [plns_iff]
mutual
theorem pln_clear {N : Nat} : ∀ {d : D}, pln N d = true → d.clear = true
  | .non, _ => rfl
  | .bl _, _ => rfl
  | .int _, _ => rfl
  | .str _, _ => rfl
  | .tup xs, h => by
    simp only [pln, Bool.and_eq_true] at h
    simp only [D.clear]
    exact plns_clear h.2
  | .lst _, h => by simp [pln] at h
  | .ref _, h => by simp [pln] at h
  | .fn _, h => by simp [pln] at h
  | .exc _ _, h => by simp [pln] at h
  | .scr _, h => by simp [pln] at h
theorem plns_clear {N : Nat} : ∀ {xs : List D}, plns N xs = true → D.clears xs = true
  | [], _ => rfl
  | x :: xs, h => by
    simp only [plns, Bool.and_eq_true] at h
    simp only [D.clears, pln_clear h.1, plns_clear h.2, Bool.and_self]
end
mutual
theorem pln_mono {N M : Nat} (l : N ≤ M) : ∀ {d : D}, pln N d = true → pln M d = true
  | .non, _ => rfl
  | .bl _, _ => rfl
  | .int _, h => by
    simp only [pln, decide_eq_true_eq] at h ⊢
    omega
  | .str _, _ => rfl
  | .tup xs, h => by
    simp only [pln, Bool.and_eq_true, decide_eq_true_eq] at h ⊢
    exact ⟨by omega, plns_mono l h.2⟩
  | .lst _, h => by simp [pln] at h
  | .ref _, h => by simp [pln] at h
  | .fn _, h => by simp [pln] at h
  | .exc _ _, h => by simp [pln] at h
  | .scr _, h => by simp [pln] at h
theorem plns_mono {N M : Nat} (l : N ≤ M) : ∀ {xs : List D}, plns N xs = true → plns M xs = true
  | [], _ => rfl
  | x :: xs, h => by
    simp only [plns, Bool.and_eq_true] at h ⊢
    exact ⟨pln_mono l h.1, plns_mono l h.2⟩
end
mutual
theorem thaw_pure (g : Hs) : ∀ (n : Nat) {d : D}, d.pure = true → thaw g n d = d
  | 0, _, _ => rfl
  | n + 1, .non, _ => rfl
  | n + 1, .bl _, _ => rfl
  | n + 1, .int _, _ => rfl
  | n + 1, .str _, _ => rfl
  | n + 1, .tup xs, h => by
    simp only [D.pure] at h
    show D.tup (xs.map (thaw g n)) = _
    rw [thaws_pure g n h]
  | n + 1, .lst xs, h => by
    simp only [D.pure] at h
    show D.lst (xs.map (thaw g n)) = _
    rw [thaws_pure g n h]
  | n + 1, .ref _, h => by simp [D.pure] at h
  | n + 1, .fn _, h => by simp [D.pure] at h
  | n + 1, .exc _ _, h => by simp [D.pure] at h
  | n + 1, .scr _, h => by simp [D.pure] at h
theorem thaws_pure (g : Hs) : ∀ (n : Nat) {xs : List D}, D.pures xs = true → xs.map (thaw g n) = xs
  | n, [], _ => rfl
  | n, x :: xs, h => by
    simp only [D.pures, Bool.and_eq_true] at h
    rw [List.map_cons, thaw_pure g n h.1, thaws_pure g n h.2]
end
mutual
theorem pure_clear : ∀ {d : D}, d.pure = true → d.clear = true
  | .non, _ => rfl
  | .bl _, _ => rfl
  | .int _, _ => rfl
  | .str _, _ => rfl
  | .tup xs, h => by simp only [D.pure] at h; simp only [D.clear]; exact pures_clear h
  | .lst xs, h => by simp only [D.pure] at h; simp only [D.clear]; exact pures_clear h
  | .ref _, h => by simp [D.pure] at h
  | .fn _, h => by simp [D.pure] at h
  | .exc _ _, h => by simp [D.pure] at h
  | .scr _, h => by simp [D.pure] at h
theorem pures_clear : ∀ {xs : List D}, D.pures xs = true → D.clears xs = true
  | [], _ => rfl
  | x :: xs, h => by
    simp only [D.pures, Bool.and_eq_true] at h
    simp only [D.clears, pure_clear h.1, pures_clear h.2, Bool.and_self]
end
theorem pcPure {call : Nat → List D → Hs → R D} {f : Nat} {ds : List D} {h g : Hs} {d : D} (c : D.clears ds = true) (e : call f ds [] = .ok d g) (p : d.pure = true) : pcallF call f ds h = .ok d h :=
  pcAny c e (thaw_pure _ _ p) (pure_clear p)
def isW : D → Bool
  | .int _ => true
  | _ => false
theorem isint_any {N : Nat} (k : Nat) (h : Hs) (d : D) (s : pln N d = true) : pcallF (callF mM.sub mM.PF (k + 1)) 0 [d] h = .ok (.bl (isW d)) h := by
  have e : callF mM.sub mM.PF (k + 1) 0 [d] [] = .ok (.bl (isW d)) [] := by
    rw [callS _ _ _ _ _ _ _ PF0]
    cases d <;> first | (simp [pln] at s; done) | (simp [callB_, i_is_integer, isW])
  exact pcOk (cl1 d (pln_clear s)) e rfl
def whB (a b : Int) : D → Bool
  | .int i => decide (a ≤ i) && decide (i ≤ b)
  | _ => false
theorem whole_any {N : Nat} (k : Nat) (h : Hs) (d : D) (a b : Int) (s : pln N d = true) : pcallF (callF mM.sub mM.PF (k + 1)) 29 [d, .int a, .int b] h = .ok (.bl (whB a b d)) h := by
  have e : callF mM.sub mM.PF (k + 1) 29 [d, .int a, .int b] [] = .ok (.bl (whB a b d)) [] := by
    rw [callS _ _ _ _ _ _ _ PF29]
    cases d with
    | int i =>
      by_cases q : a ≤ i
      · simp [callB_, i__law_is_whole, whB, q]
      · simp [callB_, i__law_is_whole, whB, q]
    | non => simp [callB_, i__law_is_whole, whB]
    | bl b => simp [callB_, i__law_is_whole, whB]
    | str b => simp [callB_, i__law_is_whole, whB]
    | tup b => simp [callB_, i__law_is_whole, whB]
    | _ => simp [pln] at s
  exact pcOk (by simp [D.clears, D.clear, pln_clear s]) e rfl
theorem comp_map (g : D → D) (t : D → Hs → R (Option D)) (h : Hs) : ∀ xs : List D, (∀ x ∈ xs, t x h = .ok (some (g x)) h) → compF t xs h = .ok (xs.map g) h
  | [], _ => rfl
  | x :: xs, a => by simp only [compF, a x List.mem_cons_self, bindOk, comp_map g t h xs (fun y hy => a y (List.mem_cons_of_mem _ hy)), List.map_cons]
theorem comp_mapf {α : Type} (f g : α → D) (t : D → Hs → R (Option D)) (h : Hs) : ∀ (xs : List α), (∀ x ∈ xs, t (f x) h = .ok (some (g x)) h) → compF t (xs.map f) h = .ok (xs.map g) h
  | [], _ => rfl
  | x :: xs, a => by
    simp only [List.map_cons, compF, a x List.mem_cons_self, bindOk, comp_mapf f g t h xs (fun y hy => a y (List.mem_cons_of_mem _ hy))]
theorem bls_map (f : D → Bool) : ∀ xs : List D, blsOf (xs.map fun x => .bl (f x)) = some (xs.map f)
  | [] => rfl
  | x :: xs => by simp [bls_map f xs]
theorem all_map (f : D → Bool) (xs : List D) : ((xs.map f).all id) = xs.all f := by
  induction xs with
  | nil => rfl
  | cons x xs ih => simp_all
theorem ints_pure (is : List Int) : D.pures (is.map .int) = true := by
  induction is with
  | nil => rfl
  | cons p ps ih => simp [D.pures, D.pure, ih]
theorem ints_clear (is : List Int) : D.clears (is.map .int) = true := pures_clear (ints_pure is)
theorem b0 (x y : D) : atD [x, y] 0 = some x := rfl
theorem b1 (x y : D) : atD [x, y] 1 = some y := rfl
theorem t0 (x y z : D) : atD [x, y, z] 0 = some x := rfl
theorem t1 (x y z : D) : atD [x, y, z] 1 = some y := rfl
theorem t2 (x y z : D) : atD [x, y, z] 2 = some z := rfl
theorem at_last (xs : List D) (x : D) : atD (xs ++ [x]) (-1) = some x := by
  have h1 : ((-1 : Int) + ((xs.length + 1 : Nat) : Int)).toNat = xs.length := by omega
  simp only [atD, ixI, List.length_append, List.length_singleton]
  rw [if_neg (by omega), if_pos (by omega), h1]
  simp
theorem set_last (xs : List D) (x y : D) : setD (xs ++ [x]) (-1) y = some (xs ++ [y]) := by
  have h1 : ((-1 : Int) + ((xs.length + 1 : Nat) : Int)).toNat = xs.length := by omega
  simp only [setD, ixI, List.length_append, List.length_singleton]
  rw [if_neg (by omega), if_pos (by omega), h1]
  simp
theorem snoc {α : Type} (L : List α) : L = [] ∨ ∃ M x, L = M ++ [x] := by
  rcases List.eq_nil_or_concat L with h | ⟨M, x, h⟩
  · exact .inl h
  · exact .inr ⟨M, x, by simpa using h⟩
def Fin (k f : Nat) (ds : List D) : Prop := ∃ v g, callF mM.sub mM.PF k f ds [] = .ok v g ∧ v.pure = true
theorem slLst {xs : List D} {lo hi : Option Int} : slD (.lst xs) lo hi = some (.lst (cutL xs lo hi)) := rfl
theorem slTup {xs : List D} {lo hi : Option Int} : slD (.tup xs) lo hi = some (.tup (cutL xs lo hi)) := rfl
theorem dyn_fix (t : D → Hs → R (Option D)) (n : Nat) (xs : List D) (h : Hs) (q : h[n]? = some (.lst xs)) (a : ∀ x ∈ xs, ∃ o, t x h = .ok o h) : ∀ (k i : Nat), i ≤ xs.length → xs.length < i + k → compG t (.dyn n) k i h = compF t (xs.drop i) h
  | 0, i, h1, h2 => by omega
  | k + 1, i, h1, h2 => by
    unfold compG
    by_cases hl : i < xs.length
    · obtain ⟨o, e⟩ := a xs[i] (List.getElem_mem hl)
      have d : xs.drop i = xs[i] :: xs.drop (i + 1) := List.drop_eq_getElem_cons hl
      rw [d, compF]
      simp only [itm, q, List.getElem?_eq_getElem hl, e, bindOk, dyn_fix t n xs h q a k (i + 1) hl (by omega)]
    · have e : i = xs.length := by omega
      subst e
      rw [List.drop_length]
      simp [itm, q, srcOk, compF]
theorem kCompD {t : D → Hs → R (Option D)} {n : Nat} {h : Hs} : kComp t (.dyn n) h = compG t (.dyn n) wfuel 0 h := rfl
theorem set_nat (xs : List D) (n : Nat) (v : D) (l : n < xs.length) : setD xs (n : Nat) v = some (xs.set n v) := by
  have h0 : (0 : Int) ≤ (n : Int) := by omega
  have h1 : (n : Int) < (xs.length : Int) := by omega
  simp only [setD, ixI, h0, h1, if_true, Option.map_some, Int.toNat_natCast]
theorem pures_set : ∀ (xs : List D) (n : Nat) (v : D), D.pures xs = true → v.pure = true → D.pures (xs.set n v) = true
  | [], _, _, h, _ => h
  | x :: xs, 0, v, h, hv => by
    simp only [D.pures, Bool.and_eq_true] at h
    simp only [List.set_cons_zero, D.pures, hv, h.2, Bool.and_self]
  | x :: xs, n + 1, v, h, hv => by
    simp only [D.pures, Bool.and_eq_true] at h
    simp only [List.set_cons_succ, D.pures, h.1, pures_set xs n v h.2 hv, Bool.and_self]
def intsD : List D → List Int
  | [] => []
  | .int i :: r => i :: intsD r
  | _ :: r => intsD r
theorem rng_is (a j : Int) (h1 : -1000 ≤ a) (h2 : a ≤ 1000) (h3 : -1 ≤ j) (h4 : j ≤ 1000) : rangeD a j = some ((List.range (j - a).toNat).map fun k => .int (a + (k : Nat))) := by
  unfold rangeD
  have e : (decide (-(2 ^ 62) ≤ a) && decide (a < 2 ^ 62) && decide (-(2 ^ 62) ≤ j) && decide (j < 2 ^ 62)) = true := by
    simp; omega
  rw [if_pos e]
theorem rng_n (n : Nat) (l : n ≤ 1000) : rangeD 0 (n : Int) = some ((List.range n).map fun k => .int (k : Nat)) := by
  rw [rng_is 0 _ (by omega) (by omega) (by omega) (by omega)]
  simp
theorem il1 {sub : Nat → Nat → Bool} {call : Nat → List D → Hs → R D} {e : E} {vs : List Nat} {w : Tg} {c : E} {a : E} {j : Int} {S : Sl} {h : Hs} {L M : List D} (ha : ev sub call a S h = .ok (.int j) h) (r : rangeD 0 j = some M) (c2 : compF (turnC sub call e vs w c S) M h = .ok L h) (l : M.length ≤ 16777216) : ev sub call (.il (.comp e vs w (.rng1 a) c)) S h = .ok (.lst L) h := by
  simp [ha, r, c2, l]
theorem for1 {sub : Nat → Nat → Bool} {call : Nat → List D → Hs → R D} {t : Tg} {a : E} {b : St} {S : Sl} {h : Hs} {j : Int} {xs : List D} (ha : ev sub call a S h = .ok (.int j) h) (r : rangeD 0 j = some xs) : ex sub call (.for_ t (.rng1 a) b) S h = forF (turnF sub call t b) xs S h := by
  simp -implicitDefEqProofs [ha, r]
theorem at_is {is : List Int} {k : Nat} (h : k < is.length) : atD (is.map .int) (k : Nat) = some (.int (is.getD k 0)) := by
  have := atL (f := D.int) (cs := is) (i := (k : Nat)) (by omega) (by omega)
  rw [this]
  simp [List.getD_eq_getElem?_getD, h]
theorem intsD_map : ∀ is : List Int, intsD (is.map .int) = is
  | [] => rfl
  | i :: is => by simp [intsD, intsD_map is]
theorem rr0 (is : List Int) (l : is.length ≤ 1000) : rangeD 0 ((is.length : Int) - 1) = some ((List.range (is.length - 1)).map fun k => .int (k : Nat)) := by
  rw [rng_is 0 _ (by omega) (by omega) (by omega) (by omega)]
  have e : ((is.length : Int) - 1 - 0).toNat = is.length - 1 := by omega
  rw [e]
  simp
theorem rr1 (is : List Int) (l : is.length ≤ 1000) : rangeD 1 (is.length : Int) = some ((List.range (is.length - 1)).map fun k => .int (1 + (k : Nat))) := by
  rw [rng_is 1 _ (by omega) (by omega) (by omega) (by omega)]
  have e : ((is.length : Int) - 1).toNat = is.length - 1 := by omega
  rw [e]

theorem stepR' {sub : Nat → Nat → Bool} {call : Nat → List D → Hs → R D} {s t : St} {S : Sl} {h h' : Hs} {v : D} (e : ex sub call s S h = .rt v h') : ex sub call (.seq s t) S h = .rt v h' := by
  rw [exSeq, e, atRt]
theorem cutI_nat (n d j : Nat) (l : j ≤ n) : cutI n d (some (j : Int)) = j := by
  simp only [cutI]
  rw [if_neg (by omega), Int.toNat_natCast]
  omega
theorem cut_take (xs : List D) (j : Nat) (l : j ≤ xs.length) : cutL xs none (some (j : Int)) = xs.take j := by
  simp only [cutL, cutI_nat _ _ _ l]
  simp [cutI]
theorem cut_drop (xs : List D) (j : Nat) (l : j ≤ xs.length) : cutL xs (some (j : Int)) none = xs.drop j := by
  simp only [cutL, cutI_nat _ _ _ l]
  simp only [cutI]
  rw [List.take_of_length_le (by simp)]
theorem cut_one (xs : List D) (j : Nat) (l : j + 1 ≤ xs.length) : cutL xs (some (j : Int)) (some ((j + 1 : Nat) : Int)) = (xs.drop j).take 1 := by
  have e1 := cutI_nat xs.length 0 j (by omega)
  have e2 := cutI_nat xs.length xs.length (j + 1) l
  simp only [cutL, e1, e2]
  congr 1
  omega
theorem addT {xs ys : List D} (l : xs.length + ys.length ≤ 100000) : addD (.tup xs) (.tup ys) = some (.tup (xs ++ ys)) := by
  rw [addTup, okLt l]; rfl
theorem comp_pickD (c : D → Bool) (t : D → Hs → R (Option D)) (h : Hs) (xs : List D) (a : ∀ x ∈ xs, t x h = .ok (if c x then some x else none) h) : compF t xs h = .ok (xs.filter c) h := by
  have := comp_pick (fun x : D => x) c (fun x => x) t h xs a
  simpa using this
theorem filter_anyD (c : D → Bool) (xs : List D) : (xs.filter c).isEmpty = !xs.any c := by
  have := filter_any (fun x : D => x) c xs
  simpa using this
theorem not_all (c : D → Bool) (xs : List D) : (!xs.any fun x => !c x) = xs.all c := by
  induction xs with
  | nil => rfl
  | cons x xs ih => simp only [List.any_cons, List.all_cons, Bool.not_or, Bool.not_not, ih]
end Pl

set_option Elab.async false
set_option linter.all false
set_option maxRecDepth 100000
set_option maxHeartbeats 4000000
namespace Pl
open PySem Ci
abbrev q (x : String) : Str := Str.ofString x
abbrev plB : D → Bool := whB (-1000000000000) 1000000000000
theorem place_any {N : Nat} (k : Nat) (h : Hs) (d : D) (s : pln N d = true) : pcallF (callF mM.sub mM.PF (k + 2)) 2 [d] h = .ok (.bl (plB d)) h := by
  have e : callF mM.sub mM.PF (k + 2) 2 [d] [] = .ok (.bl (plB d)) [] := by
    have i := isint_any k [] d s
    rw [callS _ _ _ _ _ _ _ PF2]
    cases d with
    | int y =>
      by_cases q1 : (-1000000000000 : Int) ≤ y
      · simp [callB_, i_is_place, i, isW, plB, whB, q1]
      · simp [callB_, i_is_place, i, isW, plB, whB, q1]
    | non => simp [callB_, i_is_place, i, isW, plB, whB]
    | bl b => simp [callB_, i_is_place, i, isW, plB, whB]
    | str b => simp [callB_, i_is_place, i, isW, plB, whB]
    | tup b => simp [callB_, i_is_place, i, isW, plB, whB]
    | _ => simp [pln] at s
  exact pcOk (cl1 d (pln_clear s)) e rfl
theorem plB_int {d : D} (h : plB d = true) : ∃ i : Int, d = .int i ∧ -1000000000000 ≤ i ∧ i ≤ 1000000000000 := by
  cases d <;> simp [plB, whB] at h
  exact ⟨_, rfl, h.1, h.2⟩
/-- a check's answer -/
def ifR (b : Bool) (c : Nat) (x : Str) (h : Hs) : R D := if b then .ok .non h else .exc c (.str x) h
theorem pcIf {call : Nat → List D → Hs → R D} {f : Nat} {ds : List D} {b : Bool} {c : Nat} {x : Str} (cl : D.clears ds = true) (e : call f ds [] = ifR b c x []) (h : Hs) : pcallF call f ds h = ifR b c x h := by
  cases b with
  | true => exact pcOk cl e rfl
  | false => exact pcExc cl e rfl
theorem v0 (a b c d e : D) : atD [a, b, c, d, e] 0 = some a := rfl
theorem v1 (a b c d e : D) : atD [a, b, c, d, e] 1 = some b := rfl
theorem v2 (a b c d e : D) : atD [a, b, c, d, e] 2 = some c := rfl
theorem v3 (a b c d e : D) : atD [a, b, c, d, e] 3 = some d := rfl
theorem v4 (a b c d e : D) : atD [a, b, c, d, e] 4 = some e := rfl
def stB : D → Bool
  | .tup [.int a, .int b, .int c, .int d, .int e] => [D.int a, .int b, .int c, .int d, .int e].all plB && (decide (a ≤ b) && (decide (c ≤ d) && decide (0 ≤ e)))
  | _ => false
theorem stB_len {xs : List D} (l : xs.length ≠ 5) : stB (.tup xs) = false := by
  unfold stB
  split
  · rename_i e; cases e; simp at l
  · rfl
theorem stB_all {xs : List D} (h : xs.all plB = false) : stB (.tup xs) = false := by
  unfold stB
  split
  · rename_i e
    cases e
    rw [h]; rfl
  · rfl
theorem storm_any {N : Nat} (k : Nat) (d : D) (s : pln N d = true) (n1 : N ≤ 1000) (h : Hs) : pcallF (callF mM.sub mM.PF (k + 3)) 1 [d] h = ifR (stB d) 2 (q "storm") h := by
  refine pcIf (cl1 d (pln_clear s)) ?_ h
  rw [callS _ _ _ _ _ _ _ PF1]
  cases d with
  | non => simp [callB_, i_check_storm, ifR, stB]
  | bl b => simp [callB_, i_check_storm, ifR, stB]
  | int b => simp [callB_, i_check_storm, ifR, stB]
  | str b => simp [callB_, i_check_storm, ifR, stB]
  | tup xs =>
    obtain ⟨lx, px⟩ := pln_tup.1 s
    by_cases l : xs.length = 5
    · have c := comp_map (fun x => .bl (plB x)) (turnC mM.sub (callF mM.sub mM.PF (k + 2)) (.pcall 2 (.cons (.var 6) .nil)) [6] (.nm 6) .omit [some (.tup xs), none, none, none, none, none, none]) [] xs (fun x hx => by
        simp [turnC_, place_any k [] x (px x hx)])
      have l1 : xs.length ≤ 16777216 := by omega
      have l2 : ((xs.length : Int) == 5) = true := by simp [l]
      cases e : xs.all plB with
      | false => simp [callB_, i_check_storm, ifR, stB_all e, l1, l2, c, bls_map, all_map, e, -List.all_map, -List.all_eq_true, -List.all_eq_false]
      | true =>
        obtain ⟨x1, x2, x3, x4, x5, rfl⟩ : ∃ x1 x2 x3 x4 x5, xs = [x1, x2, x3, x4, x5] := by
          match xs, l with
          | [x1, x2, x3, x4, x5], _ => exact ⟨_, _, _, _, _, rfl⟩
        have e' := e
        simp only [List.all_cons, List.all_nil, Bool.and_true, Bool.and_eq_true] at e'
        obtain ⟨a, rfl, _, _⟩ := plB_int e'.1
        obtain ⟨b, rfl, _, _⟩ := plB_int e'.2.1
        obtain ⟨c1, rfl, _, _⟩ := plB_int e'.2.2.1
        obtain ⟨d1, rfl, _, _⟩ := plB_int e'.2.2.2.1
        obtain ⟨f1, rfl, _, _⟩ := plB_int e'.2.2.2.2
        have g : stB (.tup [.int a, .int b, .int c1, .int d1, .int f1]) = (decide (a ≤ b) && (decide (c1 ≤ d1) && decide (0 ≤ f1))) := by
          show ([D.int a, .int b, .int c1, .int d1, .int f1].all plB && _) = _
          rw [e]; rfl
        rw [g]
        have c : compF _ _ _ = .ok ([D.int a, .int b, .int c1, .int d1, .int f1].map fun x => .bl (plB x)) [] := c
        have am := all_map plB [D.int a, .int b, .int c1, .int d1, .int f1]
        have bm := bls_map plB [D.int a, .int b, .int c1, .int d1, .int f1]
        rw [e] at am
        generalize ([D.int a, .int b, .int c1, .int d1, .int f1].map fun x => D.bl (plB x)) = Z at c bm
        generalize ([D.int a, .int b, .int c1, .int d1, .int f1].map plB) = Y at am bm
        by_cases q1 : a ≤ b
        · by_cases q2 : c1 ≤ d1
          · by_cases q3 : 0 ≤ f1
            · have q3' : ¬ f1 < 0 := by omega
              have q1' : ¬ b < a := by omega
              have q2' : ¬ d1 < c1 := by omega
              simp [callB_, i_check_storm, ifR, c, am, bm, q1, q2, q3, q1', q2', q3', -List.all_map, -List.all_eq_true, -List.all_eq_false]
            · have q3' : f1 < 0 := by omega
              have q1' : ¬ b < a := by omega
              have q2' : ¬ d1 < c1 := by omega
              simp [callB_, i_check_storm, ifR, c, am, bm, q1, q2, q3, q1', q2', q3', -List.all_map, -List.all_eq_true, -List.all_eq_false]
          · have q1' : ¬ b < a := by omega
            have q2' : d1 < c1 := by omega
            simp [callB_, i_check_storm, ifR, c, am, bm, q1, q2, q1', q2', -List.all_map, -List.all_eq_true, -List.all_eq_false]
        · have q1' : b < a := by omega
          simp [callB_, i_check_storm, ifR, c, am, bm, q1, q1', -List.all_map, -List.all_eq_true, -List.all_eq_false]
    · have l2 : ((xs.length : Int) == 5) = false := by simp; omega
      simp [callB_, i_check_storm, ifR, stB_len l, l2]
  | _ => simp [pln] at s
theorem hour_any {N : Nat} (k : Nat) (d : D) (x : Str) (s : pln N d = true) (h : Hs) : pcallF (callF mM.sub mM.PF (k + 2)) 3 [d, .str x] h = ifR (whB 0 1000 d) 3 x h := by
  refine pcIf (by simp [D.clears, D.clear, pln_clear s]) ?_ h
  have i := isint_any k [] d s
  rw [callS _ _ _ _ _ _ _ PF3]
  cases d with
  | int y =>
    by_cases q1 : 0 ≤ y
    · by_cases q2 : y ≤ 1000
      · simp [callB_, i_check_hour, i, isW, whB, ifR, q1, q2]
      · simp [callB_, i_check_hour, i, isW, whB, ifR, q1, q2]
    · simp [callB_, i_check_hour, i, isW, whB, ifR, q1]
  | non => simp [callB_, i_check_hour, i, isW, whB, ifR]
  | bl b => simp [callB_, i_check_hour, i, isW, whB, ifR]
  | str b => simp [callB_, i_check_hour, i, isW, whB, ifR]
  | tup b => simp [callB_, i_check_hour, i, isW, whB, ifR]
  | _ => simp [pln] at s
theorem cplace_any {N : Nat} (k : Nat) (d : D) (s : pln N d = true) (h : Hs) : pcallF (callF mM.sub mM.PF (k + 3)) 4 [d] h = ifR (plB d) 3 (q "place") h := by
  refine pcIf (cl1 d (pln_clear s)) ?_ h
  have i := place_any k [] d s
  rw [callS _ _ _ _ _ _ _ PF4]
  cases e : plB d with
  | true => rw [e] at i; simp [callB_, i_check_place, i, ifR]
  | false => rw [e] at i; simp [callB_, i_check_place, i, ifR]
def psB : D → Bool
  | .tup xs => decide (xs.length ≤ 30) && xs.all plB
  | _ => false
theorem cplaces_any {N : Nat} (k : Nat) (d : D) (s : pln N d = true) (n1 : N ≤ 1000) (h : Hs) : pcallF (callF mM.sub mM.PF (k + 3)) 11 [d] h = ifR (psB d) 3 (q "places") h := by
  refine pcIf (cl1 d (pln_clear s)) ?_ h
  rw [callS _ _ _ _ _ _ _ PF11]
  cases d with
  | non => simp [callB_, i_check_places, ifR, psB]
  | bl b => simp [callB_, i_check_places, ifR, psB]
  | int b => simp [callB_, i_check_places, ifR, psB]
  | str b => simp [callB_, i_check_places, ifR, psB]
  | tup xs =>
    obtain ⟨lx, px⟩ := pln_tup.1 s
    by_cases l : xs.length ≤ 30
    · have c := comp_map (fun x => .bl (plB x)) (turnC mM.sub (callF mM.sub mM.PF (k + 2)) (.pcall 2 (.cons (.var 1) .nil)) [1] (.nm 1) .omit [some (.tup xs), none]) [] xs (fun x hx => by
        simp [turnC_, place_any k [] x (px x hx)])
      have l1 : xs.length ≤ 16777216 := by omega
      have l2 : ¬ (30 : Int) < xs.length := by omega
      cases e : xs.all plB with
      | true => simp [callB_, i_check_places, ifR, psB, l, l1, l2, c, bls_map, all_map, e, -List.all_map, -List.all_eq_true, -List.all_eq_false]
      | false => simp [callB_, i_check_places, ifR, psB, l, l1, l2, c, bls_map, all_map, e, -List.all_map, -List.all_eq_true, -List.all_eq_false]
    · have l2 : (30 : Int) < xs.length := by omega
      simp [callB_, i_check_places, ifR, psB, l, l2]
  | _ => simp [pln] at s
def spdE (s f : D) : Str := if plB s then q "fast" else q "slow"
def spdB (s f : D) : Bool := match s, f with
  | .int i, .int j => plB s && (plB f && decide (i ≤ j))
  | _, _ => false
theorem speeds_any {N : Nat} (k : Nat) (s f : D) (ps : pln N s = true) (pf : pln N f = true) (h : Hs) : pcallF (callF mM.sub mM.PF (k + 3)) 13 [s, f] h = ifR (spdB s f) 3 (spdE s f) h := by
  refine pcIf (by simp [D.clears, D.clear, pln_clear ps, pln_clear pf]) ?_ h
  have i1 := place_any k [] s ps
  have i2 := place_any k [] f pf
  rw [callS _ _ _ _ _ _ _ PF13]
  have b0 : ∀ x y : D, spdB x y = true → plB x = true ∧ plB y = true := by
    intro x y h
    unfold spdB at h
    split at h
    · simp only [Bool.and_eq_true] at h; exact ⟨h.1, h.2.1⟩
    · cases h
  cases e1 : plB s with
  | false =>
    have z : spdB s f = false := by
      cases z : spdB s f with
      | false => rfl
      | true => rw [(b0 _ _ z).1] at e1; cases e1
    rw [e1] at i1
    simp [callB_, i_check_speeds, i1, turnF_, ifR, z, spdE, e1]
  | true =>
    rw [e1] at i1
    cases e2 : plB f with
    | false =>
      have z : spdB s f = false := by
        cases z : spdB s f with
        | false => rfl
        | true => rw [(b0 _ _ z).2] at e2; cases e2
      rw [e2] at i2
      simp [callB_, i_check_speeds, i1, i2, turnF_, ifR, z, spdE, e1]
    | true =>
      rw [e2] at i2
      obtain ⟨i, rfl, _, _⟩ := plB_int e1
      obtain ⟨j, rfl, _, _⟩ := plB_int e2
      have z : spdB (.int i) (.int j) = decide (i ≤ j) := by simp only [spdB, e1, e2, Bool.true_and]
      by_cases q1 : i ≤ j
      · have q1' : ¬ j < i := by omega
        simp [callB_, i_check_speeds, i1, i2, turnF_, ifR, z, spdE, e1, q1, q1']
      · have q1' : j < i := by omega
        simp [callB_, i_check_speeds, i1, i2, turnF_, ifR, z, spdE, e1, q1, q1']
end Pl

set_option Elab.async false
set_option linter.all false
set_option maxRecDepth 100000
set_option maxHeartbeats 4000000
namespace Pl
open PySem Ci
def nr (is : List Int) : Bool := (List.range (is.length - 1)).any fun k => decide (is.getD (k + 1) 0 ≤ is.getD k 0)
abbrev Rw := Int × Int × Int
def rD (r : Rw) : D := .tup [.int r.1, .int r.2.1, .int r.2.2]
def rsD (rs : List Rw) : List D := rs.map rD
theorem rs_len (rs : List Rw) : (rsD rs).length = rs.length := by simp [rsD]
theorem rs_pure (rs : List Rw) : D.pures (rsD rs) = true := by
  induction rs with
  | nil => rfl
  | cons p ds ih => simp [rsD, rD, D.pures, D.pure] at ih ⊢; exact ih
theorem rs_clear (rs : List Rw) : D.clears (rsD rs) = true := pures_clear (rs_pure rs)
def okRow (r : Rw) : Prop := 0 ≤ r.1 ∧ r.1 ≤ 1000 ∧ -1000000000000 ≤ r.2.1 ∧ r.2.1 ≤ r.2.2 ∧ r.2.2 ≤ 1000000000000
def rowB : D → Bool
  | .tup [.int h, .int l, .int u] => decide (0 ≤ h) && (decide (h ≤ 1000) && (decide (-1000000000000 ≤ l) && (decide (l ≤ u) && decide (u ≤ 1000000000000))))
  | _ => false
theorem rowB_is {d : D} (h : rowB d = true) : ∃ r, okRow r ∧ d = rD r := by
  unfold rowB at h
  split at h
  · simp only [Bool.and_eq_true, decide_eq_true_eq] at h
    exact ⟨(_, _, _), h, rfl⟩
  · cases h
theorem rowB_len {xs : List D} (l : xs.length ≠ 3) : rowB (.tup xs) = false := by
  unfold rowB
  split
  · rename_i e; cases e; simp at l
  · rfl
theorem rowB_pl {xs : List D} (h : xs.all plB = false) : rowB (.tup xs) = false := by
  cases e : rowB (.tup xs) with
  | false => rfl
  | true =>
    obtain ⟨r, o, er⟩ := rowB_is e
    cases er
    obtain ⟨a, b, c, d, e⟩ := o
    have : [D.int r.1, .int r.2.1, .int r.2.2].all plB = true := by
      simp [plB, whB]; omega
    rw [this] at h; cases h
abbrev crT (sub : Nat → Nat → Bool) (call : Nat → List D → Hs → R D) : D → Sl → Hs → RS := turnF sub call (.nm 1) (stFor (stFst (stSnd i_check_reports.body)))
theorem cr_turn {N : Nat} (k : Nat) (T x : D) (p : pln N x = true) (n1 : N ≤ 1000) (v : Option D) : crT mM.sub (callF mM.sub mM.PF (k + 2)) x [some T, v, none, none] [] = if rowB x then .nx [some T, some x, none, none] [] else .exc 2 (.str (q "reports")) [some T, some x, none, none] [] := by
  cases x with
  | non => simp [crT, turnF_, stFor, stFst, stSnd, i_check_reports, rowB]
  | bl b => simp [crT, turnF_, stFor, stFst, stSnd, i_check_reports, rowB]
  | int b => simp [crT, turnF_, stFor, stFst, stSnd, i_check_reports, rowB]
  | str b => simp [crT, turnF_, stFor, stFst, stSnd, i_check_reports, rowB]
  | tup xs =>
    obtain ⟨lx, px⟩ := pln_tup.1 p
    by_cases l : xs.length = 3
    · have c := comp_map (fun x => .bl (plB x)) (turnC mM.sub (callF mM.sub mM.PF (k + 2)) (.pcall 2 (.cons (.var 3) .nil)) [3] (.nm 3) .omit [some T, some (.tup xs), none, none]) [] xs (fun x hx => by
        simp [turnC_, place_any k [] x (px x hx)])
      have l1 : xs.length ≤ 16777216 := by omega
      have l2 : ((xs.length : Int) == 3) = true := by simp [l]
      cases e : xs.all plB with
      | false => simp [crT, turnF_, stFor, stFst, stSnd, i_check_reports, rowB_pl e, l1, l2, c, bls_map, all_map, e, -List.all_map, -List.all_eq_true, -List.all_eq_false]
      | true =>
        obtain ⟨x1, x2, x3, rfl⟩ : ∃ x1 x2 x3, xs = [x1, x2, x3] := by
          match xs, l with
          | [x1, x2, x3], _ => exact ⟨_, _, _, rfl⟩
        have e' := e
        simp only [List.all_cons, List.all_nil, Bool.and_true, Bool.and_eq_true] at e'
        obtain ⟨a, rfl, _, _⟩ := plB_int e'.1
        obtain ⟨b, rfl, hb, _⟩ := plB_int e'.2.1
        obtain ⟨c1, rfl, _, hc⟩ := plB_int e'.2.2
        have am := all_map plB [D.int a, .int b, .int c1]
        have bm := bls_map plB [D.int a, .int b, .int c1]
        rw [e] at am
        have g : rowB (.tup [.int a, .int b, .int c1]) = (decide (0 ≤ a) && (decide (a ≤ 1000) && decide (b ≤ c1))) := by
          show (decide (0 ≤ a) && (decide (a ≤ 1000) && (decide (-1000000000000 ≤ b) && (decide (b ≤ c1) && decide (c1 ≤ 1000000000000))))) = _
          rw [decide_eq_true hb, decide_eq_true hc, Bool.true_and, Bool.and_true]
        rw [g]
        generalize ([D.int a, .int b, .int c1].map fun x => D.bl (plB x)) = Z at c bm
        generalize ([D.int a, .int b, .int c1].map plB) = Y at am bm
        by_cases q1 : 0 ≤ a
        · by_cases q2 : a ≤ 1000
          · by_cases q3 : b ≤ c1
            · have q3' : ¬ c1 < b := by omega
              simp [crT, turnF_, stFor, stFst, stSnd, i_check_reports, c, am, bm, t0, t1, t2, q1, q2, q3, q3', -List.all_map, -List.all_eq_true, -List.all_eq_false]
            · have q3' : c1 < b := by omega
              simp [crT, turnF_, stFor, stFst, stSnd, i_check_reports, c, am, bm, t0, t1, t2, q1, q2, q3, q3', -List.all_map, -List.all_eq_true, -List.all_eq_false]
          · simp [crT, turnF_, stFor, stFst, stSnd, i_check_reports, c, am, bm, t0, t1, t2, q1, q2, -List.all_map, -List.all_eq_true, -List.all_eq_false]
        · simp [crT, turnF_, stFor, stFst, stSnd, i_check_reports, c, am, bm, t0, t1, t2, q1, -List.all_map, -List.all_eq_true, -List.all_eq_false]
    · have l2 : ((xs.length : Int) == 3) = false := by simp; omega
      simp [crT, turnF_, stFor, stFst, stSnd, i_check_reports, rowB_len l, l2]
  | _ => simp [pln] at p
theorem cr_loop {N : Nat} (k : Nat) (T : D) (n1 : N ≤ 1000) : ∀ (xs : List D) (v : Option D), (∀ x ∈ xs, pln N x = true) → (xs.all rowB = true ∧ ∃ v', forF (crT mM.sub (callF mM.sub mM.PF (k + 2))) xs [some T, v, none, none] [] = .nx [some T, v', none, none] []) ∨ (xs.all rowB = false ∧ ∃ v', forF (crT mM.sub (callF mM.sub mM.PF (k + 2))) xs [some T, v, none, none] [] = .exc 2 (.str (q "reports")) [some T, v', none, none] [])
  | [], v, _ => .inl ⟨rfl, v, rfl⟩
  | x :: xs, v, a => by
    have t := cr_turn k T x (a x List.mem_cons_self) n1 v
    cases e : rowB x with
    | false =>
      rw [e] at t
      refine .inr ⟨by simp [e], some x, ?_⟩
      unfold forF
      rw [t]; rfl
    | true =>
      rw [e] at t
      have f : forF (crT mM.sub (callF mM.sub mM.PF (k + 2))) (x :: xs) [some T, v, none, none] [] = forF (crT mM.sub (callF mM.sub mM.PF (k + 2))) xs [some T, some x, none, none] [] := by
        rw [forCons, t]; rfl
      rw [f, List.all_cons, e, Bool.true_and]
      exact cr_loop k T n1 xs (some x) (fun y hy => a y (List.mem_cons_of_mem _ hy))
def hrsD : List D → List Int
  | [] => []
  | .tup (.int h :: _) :: xs => h :: hrsD xs
  | _ :: xs => 0 :: hrsD xs
theorem hrs_rs : ∀ rs : List Rw, hrsD (rsD rs) = rs.map (·.1)
  | [] => rfl
  | r :: rs => by
    show r.1 :: hrsD (rsD rs) = _
    rw [hrs_rs rs]; rfl
def rpB : D → Bool
  | .tup xs => decide (1 ≤ xs.length) && (decide (xs.length ≤ 60) && (xs.all rowB && !nr (hrsD xs)))
  | _ => false
theorem rpB_t (xs : List D) : rpB (.tup xs) = (decide (1 ≤ xs.length) && (decide (xs.length ≤ 60) && (xs.all rowB && !nr (hrsD xs)))) := rfl
/-- good reports -/
def okR (rs : List Rw) : Prop := 1 ≤ rs.length ∧ rs.length ≤ 60 ∧ (∀ r ∈ rs, okRow r) ∧ nr (rs.map (·.1)) = false
theorem rows_is {xs : List D} (h : xs.all rowB = true) : ∃ rs, xs = rsD rs ∧ ∀ r ∈ rs, okRow r := by
  obtain ⟨rs, rfl, a⟩ := ex_map okRow rD xs (fun y hy => rowB_is (List.all_eq_true.1 h y hy))
  exact ⟨rs, rfl, a⟩
theorem rowB_r {r : Rw} (h : okRow r) : rowB (rD r) = true := by
  obtain ⟨a, b, c, d, e⟩ := h
  simp [rD, rowB, a, b, c, d, e]
theorem rpB_is {d : D} (h : rpB d = true) : ∃ rs, d = .tup (rsD rs) ∧ okR rs := by
  unfold rpB at h
  split at h
  · rename_i xs
    simp only [Bool.and_eq_true, decide_eq_true_eq, Bool.not_eq_true'] at h
    obtain ⟨a, b, c, e⟩ := h
    obtain ⟨rs, rfl, f⟩ := rows_is c
    rw [hrs_rs] at e
    rw [rs_len] at a b
    exact ⟨rs, rfl, a, b, f, e⟩
  · cases h
theorem rpB_r {rs : List Rw} (o : okR rs) : rpB (.tup (rsD rs)) = true := by
  obtain ⟨a, b, c, d⟩ := o
  have e : (rsD rs).all rowB = true := by
    rw [List.all_eq_true]
    intro x hx
    obtain ⟨r, hr, rfl⟩ := List.mem_map.1 hx
    exact rowB_r (c r hr)
  rw [rpB_t, e, hrs_rs, d, rs_len]
  simp [a, b]
theorem at_rs {rs : List Rw} {k : Nat} (h : k < rs.length) : atD (rsD rs) (k : Nat) = some (rD rs[k]) := by
  refine at_nat (by omega) ?_
  rw [Int.toNat_natCast, rsD, List.getElem?_map, List.getElem?_eq_getElem h]; rfl
theorem at_rs1 {rs : List Rw} {k : Nat} (h : k + 1 < rs.length) : atD (rsD rs) ((k : Nat) + 1) = some (rD rs[k + 1]) := by
  have := at_rs (rs := rs) h
  exact this
theorem reports_any {N : Nat} (k : Nat) (d : D) (s : pln N d = true) (n1 : N ≤ 1000) (h : Hs) : pcallF (callF mM.sub mM.PF (k + 3)) 12 [d] h = ifR (rpB d) 2 (q "reports") h := by
  refine pcIf (cl1 d (pln_clear s)) ?_ h
  rw [callS _ _ _ _ _ _ _ PF12]
  cases d with
  | non => simp [callB_, i_check_reports, ifR, rpB]
  | bl b => simp [callB_, i_check_reports, ifR, rpB]
  | int b => simp [callB_, i_check_reports, ifR, rpB]
  | str b => simp [callB_, i_check_reports, ifR, rpB]
  | tup xs =>
    obtain ⟨lx, px⟩ := pln_tup.1 s
    by_cases l : 1 ≤ xs.length
    · by_cases l6 : xs.length ≤ 60
      · have l' : (1 : Int) ≤ xs.length := by omega
        have l6' : (xs.length : Int) ≤ 60 := by omega
        have l3 : xs.length ≤ 16777216 := by omega
        rcases cr_loop k (.tup xs) n1 xs none px with ⟨e, v', f⟩ | ⟨e, v', f⟩
        · obtain ⟨rs, rfl, okr⟩ := rows_is e
          simp only [crT, stFor, stFst, stSnd, i_check_reports] at f
          rw [rs_len] at l l6 l' l6' l3
          have r1 : rangeD 0 ((rs.length : Int) - 1) = some ((List.range (rs.length - 1)).map fun k => .int (k : Nat)) := by
            have := rr0 (rs.map (·.1)) (by simp; omega)
            simpa using this
          have c := comp_pick (fun k : Nat => D.int (k : Nat)) (fun k => decide ((rs.map (·.1)).getD (k + 1) 0 ≤ (rs.map (·.1)).getD k 0)) (fun _ => D.int 1) (turnC mM.sub (callF mM.sub mM.PF (k + 2)) (.lit (.int (1))) [2] (.nm 2) (.cmp .GtE (.ix (.ix (.var 0) (.var 2)) (.lit (.int (0)))) (.ix (.ix (.var 0) (.bin .Add (.var 2) (.lit (.int (1))))) (.lit (.int (0))))) [some (.tup (rsD rs)), v', none, none]) [] (List.range (rs.length - 1)) (by
            intro j hj
            have hj := List.mem_range.1 hj
            have a1 := at_rs (rs := rs) (k := j) (by omega)
            have a2 := at_rs1 (rs := rs) (k := j) (by omega)
            have g1 : (rs.map (·.1)).getD j 0 = (rs[j]'(by omega)).1 := by simp [List.getD, List.getElem?_eq_getElem (show j < rs.length by omega)]
            have g2 : (rs.map (·.1)).getD (j + 1) 0 = (rs[j + 1]'(by omega)).1 := by simp [List.getD, List.getElem?_eq_getElem (show j + 1 < rs.length by omega)]
            rw [g1, g2]
            generalize (rs[j]'(by omega)) = r1 at a1
            generalize (rs[j + 1]'(by omega)) = r2 at a2
            by_cases z : r2.1 ≤ r1.1
            · simp [turnC_, a1, a2, rD, t0, z]
            · simp [turnC_, a1, a2, rD, t0, z])
          have ne := filter_any (fun _ : Nat => D.int 1) (fun k => decide ((rs.map (·.1)).getD (k + 1) 0 ≤ (rs.map (·.1)).getD k 0)) (List.range (rs.length - 1))
          have nn : (List.range (rs.length - 1)).any (fun k => decide ((rs.map (·.1)).getD (k + 1) 0 ≤ (rs.map (·.1)).getD k 0)) = nr (rs.map (·.1)) := by unfold nr; rw [List.length_map]
          rw [nn] at ne
          have rp : rpB (.tup (rsD rs)) = !nr (rs.map (·.1)) := by
            rw [rpB_t, e, hrs_rs, rs_len]
            simp [l, l6]
          rw [rp]
          generalize (List.filter (fun k => decide ((rs.map (·.1)).getD (k + 1) 0 ≤ (rs.map (·.1)).getD k 0)) (List.range (rs.length - 1))).map (fun _ : Nat => D.int 1) = Z at c ne
          have l4 : rs.length ≤ 16777217 := by omega
          cases nz : nr (rs.map (·.1)) with
          | false => rw [nz] at ne; simp [callB_, i_check_reports, ifR, rs_len, l', l6', l3, l4, f, r1, c, ne, -List.isEmpty_iff, -List.isEmpty_eq_false_iff]
          | true => rw [nz] at ne; simp [callB_, i_check_reports, ifR, rs_len, l', l6', l3, l4, f, r1, c, ne, -List.isEmpty_iff, -List.isEmpty_eq_false_iff]
        · simp only [crT, stFor, stFst, stSnd, i_check_reports] at f
          have rp : rpB (.tup xs) = false := by rw [rpB_t, e]; simp
          rw [rp]
          simp [callB_, i_check_reports, ifR, l', l6', l3, f]
      · have l6' : ¬ (xs.length : Int) ≤ 60 := by omega
        have l' : (1 : Int) ≤ xs.length := by omega
        have rp : rpB (.tup xs) = false := by rw [rpB_t, decide_eq_false l6]; simp
        rw [rp]
        simp [callB_, i_check_reports, ifR, l', l6']
    · have l' : ¬ (1 : Int) ≤ xs.length := by omega
      have rp : rpB (.tup xs) = false := by rw [rpB_t, decide_eq_false l]; simp
      rw [rp]
      simp [callB_, i_check_reports, ifR, l']
  | _ => simp [pln] at s
end Pl

set_option Elab.async false
set_option linter.all false
set_option maxRecDepth 100000
set_option maxHeartbeats 4000000
namespace Pl
open PySem Ci
def kPcD (call : Nat → List D → Hs → R D) (f : Nat) (d : D) (xs : List D) (h : Hs) : R D := pcallF call f (xs ++ [d]) h
@[simp] theorem kPcD_ {call : Nat → List D → Hs → R D} {f : Nat} {d : D} {xs : List D} {h : Hs} : kPcD call f d xs h = pcallF call f (xs ++ [d]) h := rfl
@[simp] theorem evPcD {sub : Nat → Nat → Bool} {call : Nat → List D → Hs → R D} {S : Sl} {h : Hs} {f : Nat} {es : Es} {d : D} : ev sub call (.pcallD f es d) S h = (evs sub call es S h).bind (kPcD call f d) := rfl
theorem mulB {x y : Int} (hx : x.natAbs < 2 ^ 200) (hy : y.natAbs < 2 ^ 200) : mulOk x y = true := by
  have lg : ∀ n : Nat, n < 2 ^ 200 → n.log2 ≤ 200 := by
    intro n h
    rcases Nat.eq_zero_or_pos n with e | p
    · rw [e]; exact Nat.zero_le _
    · exact Nat.le_of_lt ((Nat.log2_lt (by omega)).2 h)
  unfold mulOk
  have := lg _ hx
  have := lg _ hy
  exact decide_eq_true (by omega)
theorem rng_b (a j : Int) (h1 : -100000 ≤ a) (h2 : a ≤ 100000) (h3 : -100000 ≤ j) (h4 : j ≤ 100000) : rangeD a j = some ((List.range (j - a).toNat).map fun k => .int (a + (k : Nat))) := by
  unfold rangeD
  have e : (decide (-(2 ^ 62) ≤ a) && decide (a < 2 ^ 62) && decide (-(2 ^ 62) ≤ j) && decide (j < 2 ^ 62)) = true := by
    simp; omega
  rw [if_pos e]
/-- hours up to the last -/
theorem rng_l (j : Int) (h3 : 0 ≤ j) (h4 : j ≤ 1000) : rangeD 0 (j + 1) = some ((List.range (j.toNat + 1)).map fun k => .int (k : Nat)) := by
  rw [rng_b 0 _ (by omega) (by omega) (by omega) (by omega)]
  rw [show (j + 1 - 0).toNat = j.toNat + 1 by omega]
  simp
/-- a loop that goes on or answers -/
theorem for_or (T : Sl → Hs → Prop) (t : D → Sl → Hs → RS) : ∀ (xs : List D) (S : Sl) (h : Hs), (∀ x ∈ xs, ∀ S h, T S h → (∃ v h', v.pure = true ∧ t x S h = .rt v h') ∨ ∃ S' h', T S' h' ∧ t x S h = .nx S' h') → T S h → (∃ v h', v.pure = true ∧ forF t xs S h = .rt v h') ∨ ∃ S' h', T S' h' ∧ forF t xs S h = .nx S' h'
  | [], S, h, _, g => .inr ⟨S, h, g, rfl⟩
  | x :: xs, S, h, a, g => by
    rcases a x List.mem_cons_self S h g with ⟨v, h1, p, e⟩ | ⟨S1, h1, g1, e⟩
    · exact .inl ⟨v, h1, p, by simp only [forF, e]⟩
    · rcases for_or T t xs S1 h1 (fun z hz => a z (List.mem_cons_of_mem _ hz)) g1 with ⟨v, h2, p, e2⟩ | ⟨S2, h2, g2, e2⟩
      · exact .inl ⟨v, h2, p, by simp only [forF, e, e2]⟩
      · exact .inr ⟨S2, h2, g2, by simp only [forF, e, e2]⟩
/-- storms -/
structure Stm where
  (a b c d e : Int)
def sD (s : Stm) : D := .tup [.int s.a, .int s.b, .int s.c, .int s.d, .int s.e]
def bd (x : Int) : Prop := -1000000000000 ≤ x ∧ x ≤ 1000000000000
def okS (s : Stm) : Prop := bd s.a ∧ bd s.b ∧ bd s.c ∧ bd s.d ∧ bd s.e ∧ s.a ≤ s.b ∧ s.c ≤ s.d ∧ 0 ≤ s.e
theorem stB_is {d : D} (h : stB d = true) : ∃ s, d = sD s ∧ okS s := by
  unfold stB at h
  split at h
  · rename_i a b c d e
    simp [plB, whB] at h
    exact ⟨⟨a, b, c, d, e⟩, rfl, by unfold okS bd; simp; omega⟩
  · cases h
theorem bd_abs {x : Int} (h : bd x) : x.natAbs < 2 ^ 200 := by
  have : x.natAbs ≤ 1000000000000 := by unfold bd at h; omega
  exact Nat.lt_of_le_of_lt this (by decide)
theorem bd_pln {x : Int} (h : bd x) : pln 100 (.int x) = true := by
  simp only [pln, decide_eq_true_eq]
  unfold bd at h; omega
theorem bd_pl {x : Int} (h : bd x) : plB (.int x) = true := by
  unfold bd at h; simp [plB, whB, h]
theorem sD_pln {s : Stm} (o : okS s) : pln 100 (sD s) = true := by
  obtain ⟨h1, h2, h3, h4, h5, _⟩ := o
  simp only [sD, pln_tup, List.mem_cons, List.not_mem_nil, or_false]
  refine ⟨by simp, ?_⟩
  rintro x (rfl | rfl | rfl | rfl | rfl) <;> exact bd_pln (by assumption)
theorem sD_ok {s : Stm} (o : okS s) : stB (sD s) = true := by
  obtain ⟨h1, h2, h3, h4, h5, h6, h7, h8⟩ := o
  show ([D.int s.a, .int s.b, .int s.c, .int s.d, .int s.e].all plB && (decide (s.a ≤ s.b) && (decide (s.c ≤ s.d) && decide (0 ≤ s.e)))) = true
  simp only [List.all_cons, List.all_nil, bd_pl h1, bd_pl h2, bd_pl h3, bd_pl h4, bd_pl h5, decide_eq_true h6, decide_eq_true h7, decide_eq_true h8, Bool.and_self]
theorem storm_ok (k : Nat) {s : Stm} (o : okS s) (h : Hs) : pcallF (callF mM.sub mM.PF (k + 3)) 1 [sD s] h = .ok .non h := by
  rw [storm_any (N := 100) k _ (sD_pln o) (by omega), sD_ok o]; rfl
theorem hour_ok (k : Nat) {y : Int} (x : Str) (h0 : 0 ≤ y) (h1 : y ≤ 1000) (h : Hs) : pcallF (callF mM.sub mM.PF (k + 2)) 3 [.int y, .str x] h = .ok .non h := by
  rw [hour_any (N := 100) k _ x (by simp only [pln, decide_eq_true_eq]; omega)]
  simp [ifR, whB, h0, h1]
theorem cplace_ok (k : Nat) {y : Int} (b : bd y) (h : Hs) : pcallF (callF mM.sub mM.PF (k + 3)) 4 [.int y] h = .ok .non h := by
  rw [cplace_any (N := 100) k _ (bd_pln b), bd_pl b]; rfl
theorem hr_abs {y : Int} (h0 : 0 ≤ y) (h1 : y ≤ 1000) : y.natAbs < 2 ^ 200 := Nat.lt_of_le_of_lt (show y.natAbs ≤ 1000 by omega) (by decide)
theorem may_ok (k : Nat) {s : Stm} (o : okS s) (p : Int) {y : Int} (h0 : 0 ≤ y) (h1 : y ≤ 1000) : ∃ b, ∀ h, pcallF (callF mM.sub mM.PF (k + 1)) 6 [sD s, .int p, .int y] h = .ok (.bl b) h := by
  have m1 := mulB (bd_abs o.2.2.1) (hr_abs h0 h1)
  have m2 := mulB (bd_abs o.2.2.2.1) (hr_abs h0 h1)
  have cl : D.clears [sD s, .int p, .int y] = true := by rfl
  by_cases q1 : s.a + s.c * y - s.e ≤ p
  · refine ⟨decide (p ≤ s.b + s.d * y + s.e), fun h => pcOk cl ?_ rfl⟩
    rw [callS _ _ _ _ _ _ _ PF6]
    simp [callB_, i_may_strike, sD, v0, v1, v2, v3, v4, m1, m2, q1]
  · refine ⟨false, fun h => pcOk cl ?_ rfl⟩
    rw [callS _ _ _ _ _ _ _ PF6]
    simp [callB_, i_may_strike, sD, v0, v1, v2, v3, v4, m1, m2, q1]
theorem must_ok (k : Nat) {s : Stm} (o : okS s) (p : Int) {y : Int} (h0 : 0 ≤ y) (h1 : y ≤ 1000) : ∃ b, ∀ h, pcallF (callF mM.sub mM.PF (k + 1)) 7 [sD s, .int p, .int y] h = .ok (.bl b) h := by
  have m1 := mulB (bd_abs o.2.2.1) (hr_abs h0 h1)
  have m2 := mulB (bd_abs o.2.2.2.1) (hr_abs h0 h1)
  have cl : D.clears [sD s, .int p, .int y] = true := by rfl
  by_cases q1 : s.b + s.d * y - s.e ≤ p
  · refine ⟨decide (p ≤ s.a + s.c * y + s.e), fun h => pcOk cl ?_ rfl⟩
    rw [callS _ _ _ _ _ _ _ PF7]
    simp [callB_, i_must_strike, sD, v0, v1, v2, v3, v4, m1, m2, q1]
  · refine ⟨false, fun h => pcOk cl ?_ rfl⟩
    rw [callS _ _ _ _ _ _ _ PF7]
    simp [callB_, i_must_strike, sD, v0, v1, v2, v3, v4, m1, m2, q1]
theorem middle_fin (k : Nat) {s : Stm} (o : okS s) {y : Int} (h0 : 0 ≤ y) (h1 : y ≤ 1000) : Fin (k + 4) 5 [sD s, .int y] := by
  have m1 := mulB (bd_abs o.2.2.1) (hr_abs h0 h1)
  have m2 := mulB (bd_abs o.2.2.2.1) (hr_abs h0 h1)
  have c1 := storm_ok k o []
  have c2 := hour_ok (k + 1) (q "hour") h0 h1 []
  refine ⟨.tup [.int (s.a + s.c * y), .int (s.b + s.d * y)], [], ?_, rfl⟩
  rw [callS _ _ _ _ _ _ _ PF5]
  simp only [sD] at c1 ⊢
  simp [callB_, i_middle_at, v0, v1, v2, v3, v4, m1, m2, c1, c2]
theorem first_fin (k : Nat) {s : Stm} (o : okS s) {p : Int} (bp : bd p) {y : Int} (h0 : 0 ≤ y) (h1 : y ≤ 1000) : Fin (k + 4) 8 [sD s, .int p, .int y] := by
  have c1 := storm_ok k o []
  have c2 := cplace_ok k bp []
  have c3 := hour_ok (k + 1) (q "last") h0 h1 []
  have r := rng_l y h0 h1
  have f := for_or (fun S h => (∃ v, S = [some (sD s), some (.int p), some (.int y), v]) ∧ h = []) (turnF mM.sub (callF mM.sub mM.PF (k + 3)) (.nm 3) (.ife (.pcall 6 (.cons (.var 0) (.cons (.var 1) (.cons (.var 3) .nil)))) (.ret (.var 3)) .skip)) ((List.range (y.toNat + 1)).map fun k => .int (k : Nat)) [some (sD s), some (.int p), some (.int y), none] [] (by
    intro x hx S h hS
    obtain ⟨⟨v, rfl⟩, rfl⟩ := hS
    obtain ⟨j, hj, rfl⟩ := List.mem_map.1 hx
    have hj := List.mem_range.1 hj
    obtain ⟨b, e⟩ := may_ok (k + 2) o p (y := (j : Nat)) (by omega) (by omega)
    have e := e []
    cases b with
    | true => exact .inl ⟨.int (j : Nat), [], rfl, by simp [turnF_, e]⟩
    | false => exact .inr ⟨[some (sD s), some (.int p), some (.int y), some (.int (j : Nat))], [], ⟨⟨_, rfl⟩, rfl⟩, by simp [turnF_, e]⟩) ⟨⟨none, rfl⟩, rfl⟩
  rcases f with ⟨v, h', pv, f⟩ | ⟨S', h', ⟨⟨v, rfl⟩, rfl⟩, f⟩
  · refine ⟨v, h', ?_, pv⟩
    rw [callS _ _ _ _ _ _ _ PF8]
    simp [callB_, i_first_strike, c1, c2, c3, r, f]
  · refine ⟨.non, [], ?_, rfl⟩
    rw [callS _ _ _ _ _ _ _ PF8]
    simp [callB_, i_first_strike, c1, c2, c3, r, f]
theorem may_fn (k : Nat) {s : Stm} (o : okS s) (p : Int) : ∃ f : Nat → Bool, ∀ j : Nat, j ≤ 1000 → ∀ h, pcallF (callF mM.sub mM.PF (k + 1)) 6 [sD s, .int p, .int (j : Nat)] h = .ok (.bl (f j)) h := by
  refine ⟨fun j => if q : j ≤ 1000 then Classical.choose (may_ok k o p (y := (j : Nat)) (by omega) (by omega)) else false, fun j hj h => ?_⟩
  simp only [dif_pos hj]
  exact Classical.choose_spec (may_ok k o p (y := (j : Nat)) (by omega) (by omega)) h
theorem must_fn (k : Nat) {s : Stm} (o : okS s) (p : Int) : ∃ f : Nat → Bool, ∀ j : Nat, j ≤ 1000 → ∀ h, pcallF (callF mM.sub mM.PF (k + 1)) 7 [sD s, .int p, .int (j : Nat)] h = .ok (.bl (f j)) h := by
  refine ⟨fun j => if q : j ≤ 1000 then Classical.choose (must_ok k o p (y := (j : Nat)) (by omega) (by omega)) else false, fun j hj h => ?_⟩
  simp only [dif_pos hj]
  exact Classical.choose_spec (must_ok k o p (y := (j : Nat)) (by omega) (by omega)) h
theorem rlist_l (j : Int) (h3 : 0 ≤ j) (h4 : j ≤ 1000) : rlistD false (.int 0) (.int (j + 1)) = some (.lst ((List.range (j.toNat + 1)).map fun k => .int (k : Nat))) := by
  have c : (decide (-16777216 ≤ (0 : Int)) && decide ((0 : Int) ≤ 16777216) && decide (-16777216 ≤ j + 1) && decide (j + 1 ≤ 16777216) && decide (j + 1 - 0 ≤ 16777216)) = true := by
    simp; omega
  simp only [rlistD, c, if_true]
  rw [show (j + 1 - 0).toNat = j.toNat + 1 by omega]
  simp
theorem struck_fin (k : Nat) {s : Stm} (o : okS s) {p : Int} (bp : bd p) {y : Int} (h0 : 0 ≤ y) (h1 : y ≤ 1000) : Fin (k + 4) 9 [sD s, .int p, .int y] := by
  have c1 := storm_ok k o []
  have c2 := cplace_ok k bp []
  have c3 := hour_ok (k + 1) (q "last") h0 h1 []
  have r := rlist_l y h0 h1
  obtain ⟨f1, e1⟩ := may_fn (k + 2) o p
  obtain ⟨f2, e2⟩ := must_fn (k + 2) o p
  obtain ⟨L, hL⟩ : ∃ L : D, L = .lst ((List.range (y.toNat + 1)).map fun k => .int (k : Nat)) := ⟨_, rfl⟩
  have d1 := comp_pick (fun k : Nat => D.int (k : Nat)) f1 (fun k : Nat => D.int (k : Nat)) (turnC mM.sub (callF mM.sub mM.PF (k + 3)) (.var 5) [5] (.nm 5) (.pcall 6 (.cons (.var 0) (.cons (.var 1) (.cons (.var 5) .nil)))) [some (sD s), some (.int p), some (.int y), some L, none, none]) [] (List.range (y.toNat + 1)) (by
    intro j hj
    have hj := List.mem_range.1 hj
    have e := e1 j (by omega) []
    cases b : f1 j with
    | true => rw [b] at e; simp [turnC_, e]
    | false => rw [b] at e; simp [turnC_, e])
  have d2 : ∀ v : D, _ := fun v => comp_pick (fun k : Nat => D.int (k : Nat)) f2 (fun k : Nat => D.int (k : Nat)) (turnC mM.sub (callF mM.sub mM.PF (k + 3)) (.var 5) [5] (.nm 5) (.pcall 7 (.cons (.var 0) (.cons (.var 1) (.cons (.var 5) .nil)))) [some (sD s), some (.int p), some (.int y), some L, some v, none]) [] (List.range (y.toNat + 1)) (by
    intro j hj
    have hj := List.mem_range.1 hj
    have e := e2 j (by omega) []
    cases b : f2 j with
    | true => rw [b] at e; simp [turnC_, e]
    | false => rw [b] at e; simp [turnC_, e])
  obtain ⟨R1, hR1⟩ : ∃ R1, ((List.range (y.toNat + 1)).filter f1).map (fun k : Nat => D.int (k : Nat)) = R1 := ⟨_, rfl⟩
  obtain ⟨R2, hR2⟩ : ∃ R2, ((List.range (y.toNat + 1)).filter f2).map (fun k : Nat => D.int (k : Nat)) = R2 := ⟨_, rfl⟩
  rw [hR1] at d1
  rw [hR2] at d2
  subst hL
  refine ⟨.tup [.int (R1.length : Nat), .int (R2.length : Nat)], [], ?_, rfl⟩
  rw [callS _ _ _ _ _ _ _ PF9]
  have ly : ((List.range (y.toNat + 1)).map fun k => D.int (k : Nat)).length ≤ 16777216 := by simp; omega
  have l1 : R1.length ≤ 16777216 := by rw [← hR1, List.length_map]; have := List.length_filter_le f1 (List.range (y.toNat + 1)); simp at this; omega
  have l2 : R2.length ≤ 16777216 := by rw [← hR2, List.length_map]; have := List.length_filter_le f2 (List.range (y.toNat + 1)); simp at this; omega
  generalize ((List.range (y.toNat + 1)).map fun k => D.int (k : Nat)) = W at d1 d2 r ly
  simp [callB_, i_struck_hours, c1, c2, c3, r, rlA, Ci.E.isOmit, ly, d1, d2, l1, l2]
end Pl

set_option Elab.async false
set_option linter.all false
set_option maxRecDepth 100000
set_option maxHeartbeats 4000000
namespace Pl
open PySem Ci
/-- a loop with a count, that goes on, answers, or breaks -/
theorem for_idx (T : Nat → Sl → Hs → Prop) (U : Sl → Hs → Prop) (t : D → Sl → Hs → RS) : ∀ (xs : List D) (i : Nat) (S : Sl) (h : Hs), (∀ j x, xs[j]? = some x → ∀ S h, T (i + j) S h → (∃ v h', v.pure = true ∧ t x S h = .rt v h') ∨ (∃ S' h', T (i + j + 1) S' h' ∧ t x S h = .nx S' h') ∨ ∃ S' h', U S' h' ∧ t x S h = .bk S' h') → T i S h → (∃ v h', v.pure = true ∧ forF t xs S h = .rt v h') ∨ ∃ S' h', (T (i + xs.length) S' h' ∨ U S' h') ∧ forF t xs S h = .nx S' h'
  | [], i, S, h, _, g => .inr ⟨S, h, .inl g, rfl⟩
  | x :: xs, i, S, h, a, g => by
    rcases a 0 x rfl S h g with ⟨v, h1, p, e⟩ | ⟨S1, h1, g1, e⟩ | ⟨S1, h1, g1, e⟩
    · exact .inl ⟨v, h1, p, by simp only [forF, e]⟩
    · rcases for_idx T U t xs (i + 1) S1 h1 (fun j z hz S h hT => by
        have := a (j + 1) z (by simpa using hz) S h (by rw [show i + (j + 1) = i + 1 + j by omega]; exact hT)
        rw [show i + (j + 1) + 1 = i + 1 + j + 1 by omega] at this
        exact this) g1 with ⟨v, h2, p, e2⟩ | ⟨S2, h2, g2, e2⟩
      · exact .inl ⟨v, h2, p, by simp only [forF, e, e2]⟩
      · refine .inr ⟨S2, h2, ?_, by simp only [forF, e, e2]⟩
        rw [List.length_cons, show i + (xs.length + 1) = i + 1 + xs.length by omega]
        exact g2
    · exact .inr ⟨S1, h1, .inr g1, by simp only [forF, e]⟩
theorem ints_of : ∀ is : List Int, intsOf (is.map .int) = some is
  | [] => rfl
  | i :: is => by simp [intsOf, ints_of is]
theorem max_ok (i : Int) (is : List Int) : ∃ m, bltD .max1 [.lst ((i :: is).map .int)] = some (.int m) := by
  refine ⟨maxI (i :: is), ?_⟩
  simp only [bltD, ints_of]
  rfl
theorem min_ok (i : Int) (is : List Int) : ∃ m, bltD .min1 [.lst ((i :: is).map .int)] = some (.int m) := by
  refine ⟨minI (i :: is), ?_⟩
  simp only [bltD, ints_of]
  rfl
theorem row_pln {r : Rw} (o : okRow r) : pln 100 (rD r) = true := by
  obtain ⟨a, b, c, d, e⟩ := o
  simp only [rD, pln_tup, List.mem_cons, List.not_mem_nil, or_false]
  refine ⟨by simp, ?_⟩
  rintro x (rfl | rfl | rfl) <;> (simp only [pln, decide_eq_true_eq]; omega)
theorem rs_pln {rs : List Rw} (o : okR rs) : pln 100 (.tup (rsD rs)) = true := by
  rw [pln_tup, rs_len]
  refine ⟨by have := o.2.1; omega, fun x hx => ?_⟩
  obtain ⟨r, hr, rfl⟩ := List.mem_map.1 hx
  exact row_pln (o.2.2.1 r hr)
theorem reports_ok (k : Nat) {rs : List Rw} (o : okR rs) (h : Hs) : pcallF (callF mM.sub mM.PF (k + 3)) 12 [.tup (rsD rs)] h = .ok .non h := by
  rw [reports_any (N := 100) k _ (rs_pln o) (by omega), rpB_r o]; rfl
theorem speeds_ok (k : Nat) {s f : Int} (bs : bd s) (bf : bd f) (l : s ≤ f) (h : Hs) : pcallF (callF mM.sub mM.PF (k + 3)) 13 [.int s, .int f] h = .ok .non h := by
  rw [speeds_any (N := 100) k _ _ (bd_pln bs) (bd_pln bf)]
  simp [ifR, spdB, bd_pl bs, bd_pl bf, l]
theorem row_abs {r r' : Rw} (o : okRow r) (o' : okRow r') : (r.1 - r'.1).natAbs < 2 ^ 200 := Nat.lt_of_le_of_lt (show (r.1 - r'.1).natAbs ≤ 1000 by obtain ⟨a, b, _⟩ := o; obtain ⟨c, d, _⟩ := o'; omega) (by decide)
theorem steady_fin (k : Nat) {rs : List Rw} (o : okR rs) {s : Int} (bs : bd s) : Fin (k + 4) 20 [.tup (rsD rs), .int s] := by
  have c1 := reports_ok k o []
  have c2 := place_any (N := 100) (k + 1) [] (.int s) (bd_pln bs)
  rw [bd_pl bs] at c2
  have ml : ∀ r ∈ rs, mulOk s r.1 = true := fun r hr => by
    obtain ⟨a, b, _⟩ := o.2.2.1 r hr
    exact mulB (bd_abs bs) (hr_abs a b)
  have d1 := comp_mapf rD (fun r => D.int (r.2.1 - s * r.1)) (turnC mM.sub (callF mM.sub mM.PF (k + 3)) (.bin .Sub (.var 5) (.bin .Mult (.var 1) (.var 4))) [4, 5, 6] (.tp (.cons (.nm 4) (.cons (.nm 5) (.cons (.nm 6) .nil)))) .omit [some (.tup (rsD rs)), some (.int s), none, none, none, none, none]) [] rs (by
    intro r hr
    simp [turnC_, rD, ml r hr])
  have d2 : ∀ v : D, _ := fun v => comp_mapf rD (fun r => D.int (r.2.2 - s * r.1)) (turnC mM.sub (callF mM.sub mM.PF (k + 3)) (.bin .Sub (.var 6) (.bin .Mult (.var 1) (.var 4))) [4, 5, 6] (.tp (.cons (.nm 4) (.cons (.nm 5) (.cons (.nm 6) .nil)))) .omit [some (.tup (rsD rs)), some (.int s), some v, none, none, none, none]) [] rs (by
    intro r hr
    simp [turnC_, rD, ml r hr])
  obtain ⟨r, rs', er⟩ : ∃ r rs', rs = r :: rs' := by
    cases rs with
    | nil => exact absurd o.1 (by simp)
    | cons r rs' => exact ⟨r, rs', rfl⟩
  obtain ⟨m1, e1⟩ := max_ok (r.2.1 - s * r.1) (rs'.map fun r => r.2.1 - s * r.1)
  obtain ⟨m2, e2⟩ := min_ok (r.2.2 - s * r.1) (rs'.map fun r => r.2.2 - s * r.1)
  have f1 : rs.map (fun r => D.int (r.2.1 - s * r.1)) = ((r.2.1 - s * r.1) :: rs'.map fun r => r.2.1 - s * r.1).map .int := by rw [er]; simp
  have f2 : rs.map (fun r => D.int (r.2.2 - s * r.1)) = ((r.2.2 - s * r.1) :: rs'.map fun r => r.2.2 - s * r.1).map .int := by rw [er]; simp
  rw [← f1] at e1
  rw [← f2] at e2
  have d1 : compF _ (rsD rs) [] = _ := d1
  have d2 : ∀ v : D, compF _ (rsD rs) [] = _ := d2
  generalize rs.map (fun r => D.int (r.2.1 - s * r.1)) = L1 at d1 e1
  generalize rs.map (fun r => D.int (r.2.2 - s * r.1)) = L2 at d2 e2
  have l3 : rs.length ≤ 16777216 := by have := o.2.1; omega
  by_cases z : m1 ≤ m2
  · refine ⟨.tup [.int m1, .int m2], [], ?_, rfl⟩
    rw [callS _ _ _ _ _ _ _ PF20]
    simp [callB_, i_steady, rs_len, l3, c1, c2, d1, d2, e1, e2, z]
  · refine ⟨.non, [], ?_, rfl⟩
    rw [callS _ _ _ _ _ _ _ PF20]
    simp [callB_, i_steady, rs_len, l3, c1, c2, d1, d2, e1, e2, z]
/-! safe_places -/
theorem psB_is {d : D} (h : psB d = true) : ∃ is : List Int, d = .tup (is.map .int) ∧ is.length ≤ 30 ∧ ∀ i ∈ is, bd i := by
  unfold psB at h
  split at h
  · rename_i xs
    simp only [Bool.and_eq_true, decide_eq_true_eq] at h
    obtain ⟨is, rfl, a⟩ := ex_map bd D.int xs (fun y hy => by
      obtain ⟨i, rfl, a, b⟩ := plB_int (List.all_eq_true.1 h.2 y hy)
      exact ⟨i, ⟨a, b⟩, rfl⟩)
    exact ⟨is, rfl, by simpa using h.1, a⟩
  · cases h
theorem cplaces_ok (k : Nat) {d : D} (p : pln 100 d = true) (e : psB d = true) (h : Hs) : pcallF (callF mM.sub mM.PF (k + 3)) 11 [d] h = .ok .non h := by
  rw [cplaces_any (N := 100) k _ p (by omega), e]; rfl
theorem safe_fin (k : Nat) {s : Stm} (o : okS s) {d : D} (pd : pln 100 d = true) (ed : psB d = true) {y : Int} (h0 : 0 ≤ y) (h1 : y ≤ 1000) : Fin (k + 4) 10 [sD s, d, .int y] := by
  have c1 := storm_ok k o []
  have c2 := cplaces_ok k pd ed []
  have c3 := hour_ok (k + 1) (q "last") h0 h1 []
  have r := rng_l y h0 h1
  obtain ⟨is, rfl, l30, _⟩ := psB_is ed
  have en := enum_map D.int is 0
  have f := for_idx (fun n S h => (∃ a b, S = [some (sD s), some (.tup (is.map .int)), some (.int y), some (.ref 0), a, b, none]) ∧ ∃ L : List Int, h = [.lst (L.map .int)] ∧ L.length ≤ n) (fun _ _ => False) (turnF mM.sub (callF mM.sub mM.PF (k + 3)) (.tp (.cons (.nm 4) (.cons (.nm 5) .nil))) (.ife (.not_ (.il (.comp (.lit (.int (1))) [6] (.nm 6) (.rng1 (.bin .Add (.var 2) (.lit (.int (1))))) (.pcall 6 (.cons (.var 0) (.cons (.var 5) (.cons (.var 6) .nil))))))) (.ex (.meth .append (.var 3) (.cons (.var 4) .nil))) .skip)) (enumD 0 (is.map .int)) 0 [some (sD s), some (.tup (is.map .int)), some (.int y), some (.ref 0), none, none, none] [.lst []] (by
    intro j x hx S h hS
    obtain ⟨⟨a, b, rfl⟩, L, rfl, lL⟩ := hS
    have hm := List.mem_of_getElem? hx
    have lj : j < 30 := by
      have hl := (List.getElem?_eq_some_iff.1 hx).1
      rw [en, List.length_map, enum_len] at hl
      omega
    rw [en] at hm
    obtain ⟨z, hz, rfl⟩ := List.mem_map.1 hm
    obtain ⟨fm, em⟩ := may_fn (k + 2) o z.2
    have cc := comp_pick (fun k : Nat => D.int (k : Nat)) fm (fun _ : Nat => D.int 1) (turnC mM.sub (callF mM.sub mM.PF (k + 3)) (.lit (.int (1))) [6] (.nm 6) (.pcall 6 (.cons (.var 0) (.cons (.var 5) (.cons (.var 6) .nil)))) [some (sD s), some (.tup (is.map .int)), some (.int y), some (.ref 0), some (.int (z.1 : Nat)), some (.int z.2), none]) [.lst (L.map .int)] (List.range (y.toNat + 1)) (by
      intro i hi
      have hi := List.mem_range.1 hi
      have e := em i (by omega) [.lst (L.map .int)]
      cases b : fm i with
      | true => rw [b] at e; simp [turnC_, e]
      | false => rw [b] at e; simp [turnC_, e])
    obtain ⟨R1, hR1⟩ : ∃ R1, ((List.range (y.toNat + 1)).filter fm).map (fun _ : Nat => D.int 1) = R1 := ⟨_, rfl⟩
    rw [hR1] at cc
    have lL2 : L.length < 16777216 := by omega
    have ly : y ≤ 16777215 := by omega
    cases ie : R1.isEmpty with
    | true =>
      refine .inr (.inl ⟨[some (sD s), some (.tup (is.map .int)), some (.int y), some (.ref 0), some (.int (z.1 : Nat)), some (.int z.2), none], [.lst ((L ++ [((z.1 : Nat) : Int)]).map .int)], ⟨⟨_, _, rfl⟩, L ++ [((z.1 : Nat) : Int)], rfl, by simp; omega⟩, ?_⟩)
      rw [List.map_append, List.map_cons, List.map_nil]
      simp [turnF_, r, ly, cc, ie, methD, isLst, sizeLine, lL2, -List.isEmpty_iff, -List.isEmpty_eq_false_iff]
    | false =>
      refine .inr (.inl ⟨[some (sD s), some (.tup (is.map .int)), some (.int y), some (.ref 0), some (.int (z.1 : Nat)), some (.int z.2), none], [.lst (L.map .int)], ⟨⟨_, _, rfl⟩, L, rfl, by omega⟩, ?_⟩)
      simp [turnF_, r, ly, cc, ie, -List.isEmpty_iff, -List.isEmpty_eq_false_iff]) ⟨⟨none, none, rfl⟩, [], rfl, by simp⟩
  have le : (enumD 0 (is.map .int)).length ≤ 30 := by rw [en, List.length_map, enum_len]; omega
  rcases f with ⟨v, h', pv, f⟩ | ⟨S', h', g, f⟩
  · refine ⟨v, h', ?_, pv⟩
    rw [callS _ _ _ _ _ _ _ PF10]
    have le2 : (enumD 0 (is.map .int)).length ≤ 16777216 := by omega
    simp [callB_, i_safe_places, c1, c2, c3, f, le2]
  · rcases g with ⟨⟨a, b, rfl⟩, L, rfl, lL⟩ | g
    · refine ⟨.tup (L.map .int), [.lst (L.map .int)], ?_, by simp [D.pure, ints_pure]⟩
      rw [callS _ _ _ _ _ _ _ PF10]
      have le2 : (enumD 0 (is.map .int)).length ≤ 16777216 := by omega
      have lL2 : L.length ≤ 16777216 := by omega
      simp [callB_, i_safe_places, c1, c2, c3, f, le2, lL2]
    · exact g.elim
end Pl

set_option Elab.async false
set_option linter.all false
set_option maxRecDepth 100000
set_option maxHeartbeats 4000000
namespace Pl
open PySem Ci
theorem range_get {n j : Nat} {f : Nat → D} {x : D} (h : ((List.range n).map f)[j]? = some x) : j < n ∧ x = f j := by
  rw [List.getElem?_map] at h
  obtain ⟨a, ha, rfl⟩ := Option.map_eq_some_iff.1 h
  rw [List.getElem?_range (by
    have := (List.getElem?_eq_some_iff.1 ha).1
    simpa using this)] at ha
  cases ha
  refine ⟨?_, rfl⟩
  by_cases l : j < n
  · exact l
  · rw [List.getElem?_eq_none (by simp; omega)] at h; cases h
theorem rising {is : List Int} (h : nr is = false) {i j : Nat} (hij : i < j) (hj : j < is.length) : is.getD i 0 < is.getD j 0 := by
  have st : ∀ k, k + 1 < is.length → is.getD k 0 < is.getD (k + 1) 0 := by
    intro k hk
    unfold nr at h
    have := List.any_eq_false.1 h k (List.mem_range.2 (by omega))
    simp only [decide_eq_true_eq] at this
    omega
  induction j with
  | zero => omega
  | succ j ih =>
    by_cases e : i = j
    · subst e; exact st i hj
    · exact Int.lt_trans (ih (by omega) (by omega)) (st j hj)
theorem hours_pos {rs : List Rw} (o : okR rs) {i j : Nat} (hij : i < j) (hj : j < rs.length) : 0 < (rs[j]'hj).1 - (rs[i]'(by omega)).1 := by
  have := rising o.2.2.2 hij (by simpa using hj)
  have g1 : (rs.map (·.1)).getD i 0 = (rs[i]'(by omega)).1 := by simp [List.getD, List.getElem?_eq_getElem (show i < rs.length by omega)]
  have g2 : (rs.map (·.1)).getD j 0 = (rs[j]'hj).1 := by simp [List.getD, List.getElem?_eq_getElem hj]
  rw [g1, g2] at this
  omega
/-! first_against -/
theorem turn_nm {sub : Nat → Nat → Bool} {call : Nat → List D → Hs → R D} {i : Nat} {s : St} {x : D} {S : Sl} {h : Hs} (l : i < S.length) : turnF sub call (.nm i) s x S h = ex sub call s (S.set i (some x)) h := by
  rw [turnF_]; simp only [put, l, if_true, putK_]
def faB : St := stFor (stFst (stSnd (stSnd i_first_against.body)))
theorem fa_in (sub : Nat → Nat → Bool) (call : Nat → List D → Hs → R D) {rs : List Rw} (o : okR rs) {s f : Int} (bs : bd s) (bf : bd f) {i : Nat} (hi : i < rs.length) : ∀ v4 v5 v6 v7, (∃ v h', v.pure = true ∧ ex sub call faB [some (.tup (rsD rs)), some (.int s), some (.int f), some (.int (i : Nat)), v4, v5, v6, v7] [] = .rt v h') ∨ ∃ w4 w5 w6 w7, ex sub call faB [some (.tup (rsD rs)), some (.int s), some (.int f), some (.int (i : Nat)), v4, v5, v6, v7] [] = .nx [some (.tup (rsD rs)), some (.int s), some (.int f), some (.int (i : Nat)), w4, w5, w6, w7] [] := by
  intro v4 v5 v6 v7
  have l6 := o.2.1
  have r := rng_n i (by omega)
  have a2 := at_rs hi
  have f := for_idx (fun _ S h => (∃ v4 v5 v6 v7, S = [some (.tup (rsD rs)), some (.int s), some (.int f), some (.int (i : Nat)), v4, v5, v6, v7]) ∧ h = []) (fun _ _ => False) (turnF sub call (.nm 4) (stFor faB)) ((List.range i).map fun k => .int (k : Nat)) 0 [some (.tup (rsD rs)), some (.int s), some (.int f), some (.int (i : Nat)), v4, v5, v6, v7] [] (by
    intro j x hx S h hS
    obtain ⟨⟨u4, u5, u6, u7, rfl⟩, rfl⟩ := hS
    obtain ⟨hj, rfl⟩ := range_get hx
    have a1 := at_rs (show j < rs.length by omega)
    have o1 := o.2.2.1 _ (List.getElem_mem (show j < rs.length by omega))
    have o2 := o.2.2.1 _ (List.getElem_mem hi)
    generalize (rs[j]'(by omega)) = r1 at a1 o1
    generalize (rs[i]'(by omega)) = r2 at a2 o2
    have m1 := mulB (bd_abs bs) (row_abs o2 o1)
    have m2 := mulB (bd_abs bf) (row_abs o2 o1)
    by_cases q1 : r2.2.2 < r1.2.1 + s * (r2.1 - r1.1)
    · refine .inl ⟨.tup [.int (j : Nat), .int (i : Nat)], [], rfl, ?_⟩
      simp -implicitDefEqProofs [turnF_, faB, stFor, stFst, stSnd, i_first_against, a1, a2, rD, t0, t1, t2, m1, m2, q1]
    · by_cases q2 : r1.2.2 + f * (r2.1 - r1.1) < r2.2.1
      · refine .inl ⟨.tup [.int (j : Nat), .int (i : Nat)], [], rfl, ?_⟩
        simp -implicitDefEqProofs [turnF_, faB, stFor, stFst, stSnd, i_first_against, a1, a2, rD, t0, t1, t2, m1, m2, q1, q2]
      · refine .inr (.inl ⟨_, _, ⟨⟨some (.int (j : Nat)), some (.int (r2.1 - r1.1)), some (.int (r1.2.1 + s * (r2.1 - r1.1))), some (.int (r1.2.2 + f * (r2.1 - r1.1))), rfl⟩, rfl⟩, ?_⟩)
        simp -implicitDefEqProofs [turnF_, faB, stFor, stFst, stSnd, i_first_against, a1, a2, rD, t0, t1, t2, m1, m2, q1, q2]) ⟨⟨v4, v5, v6, v7, rfl⟩, rfl⟩
  rcases f with ⟨v, h', pv, f⟩ | ⟨S', h', g, f⟩
  · refine .inl ⟨v, h', pv, ?_⟩
    simp only [faB, stFor, stFst, stSnd, i_first_against] at f ⊢
    simp -implicitDefEqProofs [r, f]
  · rcases g with ⟨⟨u4, u5, u6, u7, rfl⟩, rfl⟩ | g
    · refine .inr ⟨u4, u5, u6, u7, ?_⟩
      simp only [faB, stFor, stFst, stSnd, i_first_against] at f ⊢
      simp -implicitDefEqProofs [r, f]
    · exact g.elim
theorem against_fin (k : Nat) {rs : List Rw} (o : okR rs) {s f : Int} (bs : bd s) (bf : bd f) (l : s ≤ f) : Fin (k + 4) 18 [.tup (rsD rs), .int s, .int f] := by
  have c1 := reports_ok k o []
  have c2 := speeds_ok k bs bf l []
  have l6 := o.2.1
  have r := rng_n rs.length (by omega)
  have l3 : rs.length ≤ 16777216 := by omega
  have f := for_idx (fun _ S h => (∃ v3 v4 v5 v6 v7, S = [some (.tup (rsD rs)), some (.int s), some (.int f), v3, v4, v5, v6, v7]) ∧ h = []) (fun _ _ => False) (turnF mM.sub (callF mM.sub mM.PF (k + 3)) (.nm 3) faB) ((List.range rs.length).map fun k => .int (k : Nat)) 0 [some (.tup (rsD rs)), some (.int s), some (.int f), none, none, none, none, none] [] (by
    intro j x hx S h hS
    obtain ⟨⟨u3, u4, u5, u6, u7, rfl⟩, rfl⟩ := hS
    obtain ⟨hj, rfl⟩ := range_get hx
    rcases fa_in mM.sub (callF mM.sub mM.PF (k + 3)) o bs bf hj u4 u5 u6 u7 with ⟨v, h', pv, e⟩ | ⟨w4, w5, w6, w7, e⟩
    · exact .inl ⟨v, h', pv, by rw [turn_nm (by simp)]; exact e⟩
    · exact .inr (.inl ⟨_, _, ⟨⟨_, w4, w5, w6, w7, rfl⟩, rfl⟩, by rw [turn_nm (by simp)]; exact e⟩)) ⟨⟨none, none, none, none, none, rfl⟩, rfl⟩
  rcases f with ⟨v, h', pv, f⟩ | ⟨S', h', g, f⟩
  · refine ⟨v, h', ?_, pv⟩
    rw [callS _ _ _ _ _ _ _ PF18]
    simp only [faB, stFor, stFst, stSnd, i_first_against] at f ⊢
    simp -implicitDefEqProofs [callB_, rs_len, l3, c1, c2, r, f]
  · rcases g with ⟨⟨u3, u4, u5, u6, u7, rfl⟩, rfl⟩ | g
    · refine ⟨.non, [], ?_, rfl⟩
      rw [callS _ _ _ _ _ _ _ PF18]
      simp only [faB, stFor, stFst, stSnd, i_first_against] at f ⊢
      simp -implicitDefEqProofs [callB_, rs_len, l3, c1, c2, r, f]
    · exact g.elim
end Pl

set_option Elab.async false
set_option linter.all false
set_option maxRecDepth 100000
set_option maxHeartbeats 4000000
namespace Pl
open PySem Ci
/-- a loop with a count that only goes on -/
theorem for_nx (T : Nat → Sl → Hs → Prop) (t : D → Sl → Hs → RS) : ∀ (xs : List D) (i : Nat) (S : Sl) (h : Hs), (∀ j x, xs[j]? = some x → ∀ S h, T (i + j) S h → ∃ S' h', T (i + j + 1) S' h' ∧ t x S h = .nx S' h') → T i S h → ∃ S' h', T (i + xs.length) S' h' ∧ forF t xs S h = .nx S' h'
  | [], i, S, h, _, g => ⟨S, h, g, rfl⟩
  | x :: xs, i, S, h, a, g => by
    obtain ⟨S1, h1, g1, e⟩ := a 0 x rfl S h g
    obtain ⟨S2, h2, g2, e2⟩ := for_nx T t xs (i + 1) S1 h1 (fun j z hz S h hT => by
        have := a (j + 1) z (by simpa using hz) S h (by rw [show i + (j + 1) = i + 1 + j by omega]; exact hT)
        rw [show i + (j + 1) + 1 = i + 1 + j + 1 by omega] at this
        exact this) g1
    refine ⟨S2, h2, ?_, by simp only [forF, e, e2]⟩
    rw [List.length_cons, show i + (xs.length + 1) = i + 1 + xs.length by omega]
    exact g2
def tri : Nat → Nat
  | 0 => 0
  | n + 1 => tri n + n
theorem tri_le : ∀ i, tri i ≤ i * 60 ∨ 60 < i
  | 0 => .inl (Nat.le_refl _)
  | i + 1 => by
    rcases tri_le i with h | h
    · by_cases l : i < 60
      · left; unfold tri; omega
      · right; omega
    · right; omega
theorem tri_pos : ∀ i, 2 ≤ i → 1 ≤ tri i
  | 2, _ => by decide
  | i + 3, _ => by
    have := tri_pos (i + 2) (by omega)
    show 1 ≤ tri (i + 2) + (i + 2)
    omega
def wsB : St := stFor (stFst (stSnd (stSnd (stSnd i_whole_speeds.body))))
theorem methB {a : O} {xs : List D} {r : Hs} {y : D} (l : xs.length < 16777216) : methD .append (.ref 1) [y] (a :: .lst xs :: r) = .ok .non (a :: .lst (xs ++ [y]) :: r) := by
  simp [methD, sizeLine, l]
theorem methA {xs : List D} {r : Hs} {y : D} (l : xs.length < 16777216) : methD .append (.ref 0) [y] (.lst xs :: r) = .ok .non (.lst (xs ++ [y]) :: r) := by
  simp [methD, sizeLine, l]
theorem lstB {a : O} {xs : List D} {r : Hs} : isLst (a :: .lst xs :: r) (.ref 1) = true := rfl
theorem lstA {xs : List D} {r : Hs} : isLst (.lst xs :: r) (.ref 0) = true := rfl
theorem rdB {a : O} {xs : List D} {r : Hs} : rd (a :: .lst xs :: r) (.ref 1) = .lst xs := rfl
theorem hr_log {r r' : Rw} (o : okRow r) (o' : okRow r') : (r.1 - r'.1).natAbs.log2 < 9000 := by
  have : (r.1 - r'.1).natAbs ≤ 1000 := by obtain ⟨a, b, _⟩ := o; obtain ⟨c, d, _⟩ := o'; omega
  rcases Nat.eq_zero_or_pos (r.1 - r'.1).natAbs with e | p
  · rw [e]; decide
  · exact Nat.lt_of_lt_of_le ((Nat.log2_lt (k := 10) (by omega)).2 (by omega)) (by decide)
theorem ws_in (sub : Nat → Nat → Bool) (call : Nat → List D → Hs → R D) {rs : List Rw} (o : okR rs) {i : Nat} (hi : i < rs.length) : ∀ (v4 v5 : Option D) (A B : List Int), A.length ≤ 10000 → B.length = A.length → ∃ w4 w5, ∃ A' B' : List Int, A'.length = A.length + i ∧ B'.length = A.length + i ∧ ex sub call wsB [some (.tup (rsD rs)), some (.int (i : Nat)), some (.ref 0), some (.ref 1), v4, v5] [.lst (A.map .int), .lst (B.map .int)] = .nx [some (.tup (rsD rs)), some (.int (i : Nat)), some (.ref 0), some (.ref 1), w4, w5] [.lst (A'.map .int), .lst (B'.map .int)] := by
  intro v4 v5 A B lA lB
  have l6 := o.2.1
  have r := rng_n i (by omega)
  have a2 := at_rs hi
  have f := for_nx (fun n S h => (∃ v4 v5, S = [some (.tup (rsD rs)), some (.int (i : Nat)), some (.ref 0), some (.ref 1), v4, v5]) ∧ ∃ A' B' : List Int, h = [.lst (A'.map .int), .lst (B'.map .int)] ∧ A'.length = A.length + n ∧ B'.length = A.length + n) (turnF sub call (.nm 4) (stFor wsB)) ((List.range i).map fun k => .int (k : Nat)) 0 [some (.tup (rsD rs)), some (.int (i : Nat)), some (.ref 0), some (.ref 1), v4, v5] [.lst (A.map .int), .lst (B.map .int)] (by
    intro j x hx S h hS
    obtain ⟨⟨u4, u5, rfl⟩, A', B', rfl, la, lb⟩ := hS
    obtain ⟨hj, rfl⟩ := range_get hx
    have a1 := at_rs (show j < rs.length by omega)
    have o1 := o.2.2.1 _ (List.getElem_mem (show j < rs.length by omega))
    have o2 := o.2.2.1 _ (List.getElem_mem hi)
    have hp := hours_pos o hj hi
    generalize (rs[j]'(by omega)) = r1 at a1 o1 hp
    generalize (rs[i]'(by omega)) = r2 at a2 o2 hp
    have lg := hr_log o2 o1
    have l1 : (A'.map D.int).length < 16777216 := by simp; omega
    have l2 : (B'.map D.int).length < 16777216 := by simp; omega
    have hp' : r1.1 < r2.1 := by omega
    refine ⟨_, [.lst ((A' ++ [-((r1.2.2 - r2.2.1) / (r2.1 - r1.1))]).map .int), .lst ((B' ++ [(r2.2.2 - r1.2.1) / (r2.1 - r1.1)]).map .int)], ⟨⟨some (.int (j : Nat)), some (.int (r2.1 - r1.1)), rfl⟩, _, _, rfl, by simp; omega, by simp; omega⟩, ?_⟩
    have ma := fun y => methA (r := [.lst (B'.map .int)]) (y := y) l1
    have mb := fun a y => methB (a := a) (r := []) (y := y) l2
    rw [List.map_append, List.map_append, List.map_cons, List.map_cons, List.map_nil]
    generalize A'.map D.int = AL at ma l1 ⊢
    generalize B'.map D.int = BL at ma mb l2 ⊢
    rw [turn_nm (by simp)]
    simp only [List.set_cons_succ, List.set_cons_zero]
    simp -implicitDefEqProofs [wsB, stFor, stFst, stSnd, i_whole_speeds, a1, a2, rD, t0, t1, t2, hp', lg, ma, mb, lstA, lstB]) ⟨⟨v4, v5, rfl⟩, A, B, rfl, by omega, by omega⟩
  obtain ⟨S', h', ⟨⟨u4, u5, rfl⟩, A', B', rfl, la, lb⟩, f⟩ := f
  refine ⟨u4, u5, A', B', by simpa using la, by simpa using lb, ?_⟩
  simp only [wsB, stFor, stFst, stSnd, i_whole_speeds] at f ⊢
  simp -implicitDefEqProofs [r, f]
theorem whole_fin (k : Nat) {rs : List Rw} (o : okR rs) : Fin (k + 4) 19 [.tup (rsD rs)] := by
  have c1 := reports_ok k o []
  have l6 := o.2.1
  have r := rng_n rs.length (by omega)
  have l3 : rs.length ≤ 16777216 := by omega
  by_cases l2 : rs.length < 2
  · refine ⟨.non, [], ?_, rfl⟩
    have l2' : (rs.length : Int) < 2 := by omega
    rw [callS _ _ _ _ _ _ _ PF19]
    simp -implicitDefEqProofs [callB_, i_whole_speeds, rs_len, c1, l2']
  · have l2' : ¬ (rs.length : Int) < 2 := by omega
    have f := for_nx (fun n S h => (∃ v1 v4 v5, S = [some (.tup (rsD rs)), v1, some (.ref 0), some (.ref 1), v4, v5]) ∧ ∃ A B : List Int, h = [.lst (A.map .int), .lst (B.map .int)] ∧ A.length = tri n ∧ B.length = tri n) (turnF mM.sub (callF mM.sub mM.PF (k + 3)) (.nm 1) wsB) ((List.range rs.length).map fun k => .int (k : Nat)) 0 [some (.tup (rsD rs)), none, some (.ref 0), some (.ref 1), none, none] [.lst [], .lst []] (by
      intro j x hx S h hS
      obtain ⟨⟨u1, u4, u5, rfl⟩, A, B, rfl, la, lb⟩ := hS
      obtain ⟨hj, rfl⟩ := range_get hx
      have tl := tri_le (0 + j)
      obtain ⟨w4, w5, A', B', la', lb', e⟩ := ws_in mM.sub (callF mM.sub mM.PF (k + 3)) o hj u4 u5 A B (by omega) (by omega)
      refine ⟨_, _, ⟨⟨_, w4, w5, rfl⟩, A', B', rfl, ?_, ?_⟩, by rw [turn_nm (by simp)]; exact e⟩
      · show _ = tri (0 + j) + (0 + j); omega
      · show _ = tri (0 + j) + (0 + j); omega) ⟨⟨none, none, none, rfl⟩, [], [], rfl, rfl, rfl⟩
    obtain ⟨S', h', ⟨⟨u1, u4, u5, rfl⟩, A, B, rfl, la, lb⟩, f⟩ := f
    have tp := tri_pos rs.length (by omega)
    have ll : (((List.range rs.length).map fun k => D.int (k : Nat)) : List D).length = rs.length := by simp
    rw [ll, Nat.zero_add] at la lb
    obtain ⟨a, A', rfl⟩ : ∃ a A', A = a :: A' := by
      cases A with
      | nil => simp at la; omega
      | cons a A' => exact ⟨a, A', rfl⟩
    obtain ⟨b, B', rfl⟩ : ∃ a A', B = a :: A' := by
      cases B with
      | nil => simp at lb; omega
      | cons a A' => exact ⟨a, A', rfl⟩
    obtain ⟨m1, e1⟩ := max_ok a A'
    obtain ⟨m2, e2⟩ := min_ok b B'
    generalize (a :: A').map D.int = AL at e1 f
    generalize (b :: B').map D.int = BL at e2 f
    simp only [wsB, stFor, stFst, stSnd, i_whole_speeds] at f
    by_cases z : m1 ≤ m2
    · refine ⟨.tup [.int m1, .int m2], [.lst AL, .lst BL], ?_, rfl⟩
      rw [callS _ _ _ _ _ _ _ PF19]
      simp -implicitDefEqProofs [callB_, i_whole_speeds, rs_len, l3, c1, l2', r, f, rdB, e1, e2, z]
    · refine ⟨.non, [.lst AL, .lst BL], ?_, rfl⟩
      rw [callS _ _ _ _ _ _ _ PF19]
      simp -implicitDefEqProofs [callB_, i_whole_speeds, rs_len, l3, c1, l2', r, f, rdB, e1, e2, z]
end Pl

set_option Elab.async false
set_option linter.all false
set_option maxRecDepth 100000
set_option maxHeartbeats 4000000
namespace Pl
open PySem Ci
def pD (p : Int × Int) : D := .tup [.int p.1, .int p.2]
def psD (ps : List (Int × Int)) : List D := ps.map pD
theorem ps_len (ps : List (Int × Int)) : (psD ps).length = ps.length := by simp [psD]
theorem ps_pure (ps : List (Int × Int)) : D.pures (psD ps) = true := by
  induction ps with
  | nil => rfl
  | cons p ds ih => simp [psD, pD, D.pures, D.pure] at ih ⊢; exact ih
theorem ps_snoc (L : List (Int × Int)) (a b : Int) : psD (L ++ [(a, b)]) = psD L ++ [.tup [.int a, .int b]] := by simp [psD, pD]
theorem at_ps {L : List (Int × Int)} {k : Nat} (h : k < L.length) : atD (psD L) (k : Nat) = some (pD L[k]) := by
  refine at_nat (by omega) ?_
  rw [Int.toNat_natCast, psD, List.getElem?_map, List.getElem?_eq_getElem h]; rfl
theorem at_ps1 {L : List (Int × Int)} {k : Nat} (h : k + 1 < L.length) : atD (psD L) ((k : Nat) + 1) = some (pD L[k + 1]) := at_ps h
theorem set_ps {L : List (Int × Int)} {k : Nat} {a b : Int} (h : k < L.length) : setD (psD L) (k : Nat) (.tup [.int a, .int b]) = some (psD (L.set k (a, b))) := by
  rw [set_nat _ _ _ (by rw [ps_len]; exact h), psD, psD, List.map_set]; rfl
/-- a loop with a count, that goes on or breaks -/
theorem for_brk (T : Nat → Sl → Hs → Prop) (U : Sl → Hs → Prop) (t : D → Sl → Hs → RS) : ∀ (xs : List D) (i : Nat) (S : Sl) (h : Hs), (∀ j x, xs[j]? = some x → ∀ S h, T (i + j) S h → (∃ S' h', T (i + j + 1) S' h' ∧ t x S h = .nx S' h') ∨ ∃ S' h', U S' h' ∧ t x S h = .bk S' h') → T i S h → ∃ S' h', (T (i + xs.length) S' h' ∨ U S' h') ∧ forF t xs S h = .nx S' h'
  | [], i, S, h, _, g => ⟨S, h, .inl g, rfl⟩
  | x :: xs, i, S, h, a, g => by
    rcases a 0 x rfl S h g with ⟨S1, h1, g1, e⟩ | ⟨S1, h1, g1, e⟩
    · obtain ⟨S2, h2, g2, e2⟩ := for_brk T U t xs (i + 1) S1 h1 (fun j z hz S h hT => by
        have := a (j + 1) z (by simpa using hz) S h (by rw [show i + (j + 1) = i + 1 + j by omega]; exact hT)
        rw [show i + (j + 1) + 1 = i + 1 + j + 1 by omega] at this
        exact this) g1
      refine ⟨S2, h2, ?_, by simp only [forF, e, e2]⟩
      rw [List.length_cons, show i + (xs.length + 1) = i + 1 + xs.length by omega]
      exact g2
    · exact ⟨S1, h1, .inr g1, by simp only [forF, e]⟩
/-! spans_forward -/
def sfB : St := stFor (stFst (stSnd i_spans_forward.body))
def sfF (rs : List Rw) (s f : Int) (v4 v5 v6 v7 v8 : Option D) : Sl := [some (.tup (rsD rs)), some (.int s), some (.int f), some (.ref 0), v4, v5, v6, v7, v8]
theorem sf_tail (sub : Nat → Nat → Bool) (call : Nat → List D → Hs → R D) (rs : List Rw) (s f : Int) (v4 v5 v8 : Option D) (a b : Int) (L : List (Int × Int)) (l : L.length ≤ 1000) : ex sub call (stSnd sfB) (sfF rs s f v4 v5 (some (.int a)) (some (.int b)) v8) [.lst (psD L)] = if b < a then .bk (sfF rs s f v4 v5 (some (.int a)) (some (.int b)) v8) [.lst (psD (L ++ [(a, b)]))] else .nx (sfF rs s f v4 v5 (some (.int a)) (some (.int b)) v8) [.lst (psD (L ++ [(a, b)]))] := by
  have ml := methA (xs := psD L) (r := []) (y := .tup [.int a, .int b]) (by rw [ps_len]; omega)
  rw [ps_snoc]
  generalize psD L = W at ml ⊢
  by_cases z : b < a
  · rw [if_pos z]
    have B : ex sub call (stFst (stSnd sfB)) (sfF rs s f v4 v5 (some (.int a)) (some (.int b)) v8) [.lst W] = .nx (sfF rs s f v4 v5 (some (.int a)) (some (.int b)) v8) [.lst (W ++ [.tup [.int a, .int b]])] := by
      simp -implicitDefEqProofs [sfF, sfB, stFor, stFst, stSnd, i_spans_forward, ml, lstA]
    refine step B ?_
    simp -implicitDefEqProofs [sfF, sfB, stFor, stFst, stSnd, i_spans_forward, z]
  · rw [if_neg z]
    simp -implicitDefEqProofs [sfF, sfB, stFor, stFst, stSnd, i_spans_forward, ml, lstA, z]
theorem sf_ok (k : Nat) {rs : List Rw} (o : okR rs) {s f : Int} (bs : bd s) (bf : bd f) : ∃ L : List (Int × Int), 1 ≤ L.length ∧ L.length ≤ rs.length ∧ callF mM.sub mM.PF (k + 1) 14 [.tup (rsD rs), .int s, .int f] [] = .ok (.ref 0) [.lst (psD L)] := by
  have l6 := o.2.1
  have en := enum_map rD rs 0
  have F := for_brk (fun n S h => (∃ v4 v5 v6 v7 v8, S = sfF rs s f v4 v5 v6 v7 v8) ∧ ∃ L : List (Int × Int), h = [.lst (psD L)] ∧ L.length = n) (fun S h => (∃ v4 v5 v6 v7 v8, S = sfF rs s f v4 v5 v6 v7 v8) ∧ ∃ L : List (Int × Int), h = [.lst (psD L)] ∧ 1 ≤ L.length ∧ L.length ≤ rs.length) (turnF mM.sub (callF mM.sub mM.PF k) (.tp (.cons (.nm 4) (.cons (.tp (.cons (.nm 5) (.cons (.nm 6) (.cons (.nm 7) .nil)))) .nil))) sfB) (enumD 0 (rsD rs)) 0 (sfF rs s f none none none none none) [.lst []] (by
    intro j x hx S h hS
    obtain ⟨⟨u4, u5, u6, u7, u8, rfl⟩, L, rfl, lL⟩ := hS
    have lj : j < rs.length := by
      have hl := (List.getElem?_eq_some_iff.1 hx).1
      rw [show enumD 0 (rsD rs) = _ from en, List.length_map, enum_len] at hl
      exact hl
    obtain ⟨r, hr, rfl⟩ : ∃ r, r ∈ rs ∧ x = .tup [.int (j : Nat), rD r] := by
      have ee : ∀ (xs : List Rw) (i j : Nat) (x : D), (enumD i (xs.map rD))[j]? = some x → ∃ r, r ∈ xs ∧ x = .tup [.int ((i + j : Nat) : Int), rD r] := by
        intro xs
        induction xs with
        | nil => intro i j x h; simp [enumD] at h
        | cons y ys ih =>
          intro i j x h
          cases j with
          | zero =>
            simp only [List.map_cons, enumD, List.getElem?_cons_zero, Option.some.injEq] at h
            exact ⟨y, List.mem_cons_self, h.symm⟩
          | succ j =>
            simp only [List.map_cons, enumD, List.getElem?_cons_succ] at h
            obtain ⟨r, hr, e⟩ := ih (i + 1) j x h
            refine ⟨r, List.mem_cons_of_mem _ hr, ?_⟩
            rw [e, show i + 1 + j = i + (j + 1) by omega]
      obtain ⟨r, hr, e⟩ := ee rs 0 j x hx
      rw [Nat.zero_add] at e
      exact ⟨r, hr, e⟩
    have o2 := o.2.2.1 _ hr
    -- the first part
    obtain ⟨a, b, v8, s1⟩ : ∃ a b v8, ex mM.sub (callF mM.sub mM.PF k) (stFst sfB) (sfF rs s f (some (.int (j : Nat))) (some (.int r.1)) (some (.int r.2.1)) (some (.int r.2.2)) u8) [.lst (psD L)] = .nx (sfF rs s f (some (.int (j : Nat))) (some (.int r.1)) (some (.int a)) (some (.int b)) v8) [.lst (psD L)] := by
      by_cases j0 : j = 0
      · subst j0
        exact ⟨r.2.1, r.2.2, u8, by simp -implicitDefEqProofs [sfF, sfB, stFor, stFst, stSnd, i_spans_forward]⟩
      · obtain ⟨i, rfl⟩ : ∃ i, j = i + 1 := ⟨j - 1, by omega⟩
        have a1 := at_rs (show i < rs.length by omega)
        have o1 := o.2.2.1 _ (List.getElem_mem (show i < rs.length by omega))
        generalize (rs[i]'(by omega)) = r1 at a1 o1
        have m1 := mulB (bd_abs bs) (row_abs o2 o1)
        have m2 := mulB (bd_abs bf) (row_abs o2 o1)
        have lt : atD (psD L) (-1) ≠ none := by
          rcases snoc L with rfl | ⟨M, p, rfl⟩
          · simp at lL
          · rw [show psD (M ++ [p]) = psD M ++ [pD p] by simp [psD], at_last]; simp
        obtain ⟨p, hp⟩ : ∃ p : Int × Int, atD (psD L) (-1) = some (.tup [.int p.1, .int p.2]) := by
          rcases snoc L with rfl | ⟨M, p, rfl⟩
          · simp at lL
          · exact ⟨p, by rw [show psD (M ++ [p]) = psD M ++ [pD p] by simp [psD], at_last]; rfl⟩
        have i1 : ((i + 1 : Nat) : Int) - 1 = (i : Nat) := by omega
        have nz : (((i + 1 : Nat) : Int) != 0) = true := by simp; omega
        refine ⟨if p.1 + s * (r.1 - r1.1) > r.2.1 then p.1 + s * (r.1 - r1.1) else r.2.1, if p.2 + f * (r.1 - r1.1) < r.2.2 then p.2 + f * (r.1 - r1.1) else r.2.2, some (.int (r.1 - r1.1)), ?_⟩
        generalize ((i + 1 : Nat) : Int) = jj at i1 nz ⊢
        generalize psD L = W at hp ⊢
        simp -implicitDefEqProofs [sfF, sfB, stFor, stFst, stSnd, i_spans_forward, nz, i1, a1, rD, t0, m1, m2, hp, b0, b1]
    have s2 := sf_tail mM.sub (callF mM.sub mM.PF k) rs s f (some (.int (j : Nat))) (some (.int r.1)) v8 a b L (by omega)
    have tn : turnF mM.sub (callF mM.sub mM.PF k) (.tp (.cons (.nm 4) (.cons (.tp (.cons (.nm 5) (.cons (.nm 6) (.cons (.nm 7) .nil)))) .nil))) sfB (.tup [.int (j : Nat), rD r]) (sfF rs s f u4 u5 u6 u7 u8) [.lst (psD L)] = ex mM.sub (callF mM.sub mM.PF k) sfB (sfF rs s f (some (.int (j : Nat))) (some (.int r.1)) (some (.int r.2.1)) (some (.int r.2.2)) u8) [.lst (psD L)] := by
      rw [turnF_]
      simp only [sfF, rD, put, puts, seqTup, Option.bind_some]
      simp
    have s3 : ex mM.sub (callF mM.sub mM.PF k) sfB (sfF rs s f (some (.int (j : Nat))) (some (.int r.1)) (some (.int r.2.1)) (some (.int r.2.2)) u8) [.lst (psD L)] = ex mM.sub (callF mM.sub mM.PF k) (stSnd sfB) (sfF rs s f (some (.int (j : Nat))) (some (.int r.1)) (some (.int a)) (some (.int b)) v8) [.lst (psD L)] := by
      have hs : sfB = .seq (stFst sfB) (stSnd sfB) := rfl
      rw [hs]
      exact step s1 rfl
    rw [tn, s3, s2]
    by_cases z : b < a
    · rw [if_pos z]
      exact .inr ⟨_, _, ⟨⟨_, _, _, _, _, rfl⟩, _, rfl, by simp, by simp; omega⟩, rfl⟩
    · rw [if_neg z]
      exact .inl ⟨_, _, ⟨⟨_, _, _, _, _, rfl⟩, _, rfl, by simp [lL]⟩, rfl⟩) ⟨⟨_, _, _, _, _, rfl⟩, [], rfl, rfl⟩
  have le : (enumD 0 (rsD rs)).length = rs.length := by
    rw [show enumD 0 (rsD rs) = _ from en, List.length_map, enum_len]
  have le2 : (enumD 0 (rsD rs)).length ≤ 16777216 := by omega
  have fin : ∀ S h, ((∃ v4 v5 v6 v7 v8, S = sfF rs s f v4 v5 v6 v7 v8) ∧ ∃ L : List (Int × Int), h = [.lst (psD L)] ∧ 1 ≤ L.length ∧ L.length ≤ rs.length) → forF (turnF mM.sub (callF mM.sub mM.PF k) (.tp (.cons (.nm 4) (.cons (.tp (.cons (.nm 5) (.cons (.nm 6) (.cons (.nm 7) .nil)))) .nil))) sfB) (enumD 0 (rsD rs)) (sfF rs s f none none none none none) [.lst []] = .nx S h → ∃ L : List (Int × Int), 1 ≤ L.length ∧ L.length ≤ rs.length ∧ callF mM.sub mM.PF (k + 1) 14 [.tup (rsD rs), .int s, .int f] [] = .ok (.ref 0) [.lst (psD L)] := by
    rintro S h ⟨⟨v4, v5, v6, v7, v8, rfl⟩, L, rfl, l1, l2⟩ F
    refine ⟨L, l1, l2, ?_⟩
    rw [callS _ _ _ _ _ _ _ PF14]
    simp only [sfF, sfB, stFor, stFst, stSnd, i_spans_forward] at F
    simp -implicitDefEqProofs [callB_, i_spans_forward, le2, F]
  obtain ⟨S', h', g, F⟩ := F
  rcases g with ⟨e, L, rfl, lL⟩ | g
  · exact fin _ _ ⟨e, L, rfl, by have := o.1; omega, by omega⟩ F
  · exact fin _ _ g F
/-! judge_reports -/
theorem rng_down (m : Nat) (l : m ≤ 1000) : ∃ n, n = m - 1 ∧ rangeC ((m : Int) - 2) (-1) (-1) = some ((List.range n).map fun k => .int ((m : Int) - 2 + (k : Nat) * -1)) := by
  refine ⟨m - 1, rfl, ?_⟩
  have sz : Builtin.Range.rangeSize ((m : Int) - 2) (-1) (-1) = ((m - 1 : Nat) : Int) := by
    unfold Builtin.Range.rangeSize
    rw [if_neg (by omega)]
    by_cases z : 2 ≤ m
    · rw [if_pos (by omega), show (-(-1 : Int)) = 1 by omega, Int.ediv_one]; omega
    · rw [if_neg (by omega)]; omega
  have fl : ∀ x : Int, -10000 ≤ x → x ≤ 10000 → Builtin.Range.rangeFitsLong x = true := by
    intro x h1 h2
    simp [Builtin.Range.rangeFitsLong]
    omega
  have sm : Builtin.Range.small ((m : Int) - 2) (-1) (-1) = true := by
    unfold Builtin.Range.small
    rw [sz, fl _ (by omega) (by omega), fl _ (by omega) (by omega), fl _ (by omega) (by omega), if_neg (by omega), fl _ (by omega) (by omega)]
    simp
  unfold rangeC
  rw [sm, sz]
  simp
def jgB : St := stFor (stFst (stSnd (stSnd (stSnd (stSnd i_judge_reports.body)))))
def jgF (rs : List Rw) (s f : Int) (v4 v5 v6 v7 : Option D) : Sl := [some (.tup (rsD rs)), some (.int s), some (.int f), some (.ref 0), v4, v5, v6, v7]
theorem judge_fin (k : Nat) {rs : List Rw} (o : okR rs) {s f : Int} (bs : bd s) (bf : bd f) (l : s ≤ f) : Fin (k + 4) 15 [.tup (rsD rs), .int s, .int f] := by
  have c1 := reports_ok k o []
  have c2 := speeds_ok k bs bf l []
  have l6 := o.2.1
  obtain ⟨L, l1, l2, c3⟩ := sf_ok (k + 2) o bs bf
  have c3 : callF mM.sub mM.PF (k + 3) 14 [.tup (rsD rs), .int s, .int f] [] = .ok (.ref 0) [.lst (psD L)] := c3
  obtain ⟨n, hn, r⟩ := rng_down L.length (by omega)
  obtain ⟨p, hp⟩ : ∃ p : Int × Int, atD (psD L) (-1) = some (.tup [.int p.1, .int p.2]) := by
    rcases snoc L with rfl | ⟨M, p, rfl⟩
    · simp at l1
    · exact ⟨p, by rw [show psD (M ++ [p]) = psD M ++ [pD p] by simp [psD], at_last]; rfl⟩
  have l3 : L.length ≤ 16777216 := by omega
  by_cases z : p.2 < p.1
  · refine ⟨.tup [.str (q "against"), .int ((L.length : Nat) - 1)], [.lst (psD L)], ?_, rfl⟩
    rw [callS _ _ _ _ _ _ _ PF15]
    have pl := ps_len L
    generalize psD L = W at c3 hp pl ⊢
    simp -implicitDefEqProofs [callB_, i_judge_reports, c1, c2, c3, hp, b0, b1, z, pl, l3]
  · have F := for_nx (fun _ S h => (∃ v4 v5 v6 v7, S = jgF rs s f v4 v5 v6 v7) ∧ ∃ L' : List (Int × Int), h = [.lst (psD L')] ∧ L'.length = L.length) (turnF mM.sub (callF mM.sub mM.PF (k + 3)) (.nm 4) jgB) ((List.range n).map fun k => .int ((L.length : Int) - 2 + (k : Nat) * -1)) 0 (jgF rs s f none none none none) [.lst (psD L)] (by
      intro j x hx S h hS
      obtain ⟨⟨u4, u5, u6, u7, rfl⟩, M, rfl, lM⟩ := hS
      obtain ⟨hj, rfl⟩ := range_get hx
      obtain ⟨a, ha, la⟩ : ∃ a : Nat, (L.length : Int) - 2 + (j : Nat) * -1 = (a : Int) ∧ a + 1 < L.length := ⟨L.length - 2 - j, by omega, by omega⟩
      rw [ha]
      have a1 := at_rs (show a < rs.length by omega)
      have a2 := at_rs1 (rs := rs) (show a + 1 < rs.length by omega)
      have o1 := o.2.2.1 _ (List.getElem_mem (show a < rs.length by omega))
      have o2 := o.2.2.1 _ (List.getElem_mem (show a + 1 < rs.length by omega))
      generalize (rs[a]'(by omega)) = r1 at a1 o1
      generalize (rs[a + 1]'(by omega)) = r2 at a2 o2
      have p1 := at_ps (L := M) (show a < M.length by omega)
      have p2 := at_ps1 (L := M) (show a + 1 < M.length by omega)
      generalize (M[a]'(by omega)) = w1 at p1
      generalize (M[a + 1]'(by omega)) = w2 at p2
      have m1 := mulB (bd_abs bs) (row_abs o2 o1)
      have m2 := mulB (bd_abs bf) (row_abs o2 o1)
      obtain ⟨lo, hlo⟩ : ∃ lo : Int, lo = if w2.1 - f * (r2.1 - r1.1) > w1.1 then w2.1 - f * (r2.1 - r1.1) else w1.1 := ⟨_, rfl⟩
      obtain ⟨hi, hhi⟩ : ∃ hi : Int, hi = if w2.2 - s * (r2.1 - r1.1) < w1.2 then w2.2 - s * (r2.1 - r1.1) else w1.2 := ⟨_, rfl⟩
      have st := set_ps (L := M) (k := a) (a := lo) (b := hi) (by omega)
      refine ⟨jgF rs s f (some (.int (a : Nat))) (some (.int (r2.1 - r1.1))) (some (.int lo)) (some (.int hi)), [.lst (psD (M.set a (lo, hi)))], ⟨⟨_, _, _, _, rfl⟩, _, rfl, by simp [lM]⟩, ?_⟩
      have sr := fun S => setRef (S := S) (r := []) st
      generalize psD (M.set a (lo, hi)) = W2 at sr ⊢
      generalize psD M = W at p1 p2 sr ⊢
      rw [turn_nm (by simp [jgF])]
      simp only [jgF, List.set_cons_succ, List.set_cons_zero]
      simp only [hlo, hhi] at sr ⊢
      simp -implicitDefEqProofs [jgB, stFor, stFst, stSnd, i_judge_reports, a1, a2, p1, p2, rD, pD, t0, b0, b1, m1, m2, sr]) ⟨⟨none, none, none, none, rfl⟩, L, rfl, rfl⟩
    obtain ⟨S', h', ⟨⟨v4, v5, v6, v7, rfl⟩, M, rfl, lM⟩, F⟩ := F
    refine ⟨.tup [.str (q "spans"), .tup (psD M)], [.lst (psD M)], ?_, by simp [D.pure, D.pures, ps_pure]⟩
    rw [callS _ _ _ _ _ _ _ PF15]
    have pl := ps_len L
    have pm := ps_len M
    have lm3 : M.length ≤ 16777216 := by omega
    simp only [jgF, jgB, stFor, stFst, stSnd, i_judge_reports] at F
    generalize ((List.range n).map fun k => D.int ((L.length : Int) - 2 + (k : Nat) * -1)) = RL at r F
    generalize psD L = W at c3 hp pl F ⊢
    generalize psD M = W2 at pm F ⊢
    simp -implicitDefEqProofs [callB_, i_judge_reports, c1, c2, c3, hp, b0, b1, z, pl, l3, r, F, pm, lm3]
end Pl

set_option Elab.async false
set_option linter.all false
set_option maxRecDepth 100000
set_option maxHeartbeats 4000000
namespace Pl
open PySem Ci
theorem pcP {k f : Nat} {ds : List D} {h g : Hs} {v : D} (c : D.clears ds = true) (e : callF mM.sub mM.PF k f ds [] = .ok v g) (p : v.pure = true) : pcallF (callF mM.sub mM.PF k) f ds h = .ok v h := pcPure c e p
theorem tryR {sub : Nat → Nat → Bool} {call : Nat → List D → Hs → R D} {s t : St} {S : Sl} {h h2 : Hs} {d : D} {c i : Nat} (e : ex sub call s S h = .rt d h2) : ex sub call (.try_ s c i t) S h = .rt d h2 := by
  simp only [ex, e]
theorem tryX {sub : Nat → Nat → Bool} {call : Nat → List D → Hs → R D} {s t : St} {S S' : Sl} {h h' h2 : Hs} {d v : D} {c cc i : Nat} (e : ex sub call s S h = .exc cc v S' h') (sb : sub cc c = true) (et : ex sub call t (S'.set i (some (.exc cc v))) h' = .rt d h2) (n : (d.noExc && h2.all O.noExc) = true) : ex sub call (.try_ s c i t) S h = .rt d h2 := by
  simp only [ex, e, sb, et, n, if_true]
theorem stBad {α : Type} (S : Sl) (f : α → Hs → RS) : (R.bad : R α).st S f = .bad := rfl
theorem atBad (f : Sl → Hs → RS) : RS.bad.andThen f = .bad := rfl
theorem kCallB : kCall .bad = .bad := rfl
theorem o0 (a : D) : atD [a] 0 = some a := rfl
theorem called_r {f : Nat} {ds : List D} (l : 1 ≤ ds.length ∧ ds.length ≤ 5) : callF mM.sub mM.PF 197 26 [.fn f, .lst ds] [] = (match pcallF (callF mM.sub mM.PF 196) f ds [] with | .ok v g => (.ok v g : R D) | .exc c v g => .exc c v g | .bad => .bad) := by
  rw [callS _ _ 196 _ _ _ _ PF26]
  match ds, l with
  | [a], _ =>
    cases e : pcallF (callF mM.sub mM.PF 196) f [a] [] <;> simp -implicitDefEqProofs [callB_, i__law_called, o0, e, stBad, atBad, kCallB]
  | [a, b], _ =>
    cases e : pcallF (callF mM.sub mM.PF 196) f [a, b] [] <;> simp -implicitDefEqProofs [callB_, i__law_called, b0, b1, e, stBad, atBad, kCallB]
  | [a, b, d], _ =>
    cases e : pcallF (callF mM.sub mM.PF 196) f [a, b, d] [] <;> simp -implicitDefEqProofs [callB_, i__law_called, t0, t1, t2, e, stBad, atBad, kCallB]
  | [a, b, d, e], _ =>
    cases e' : pcallF (callF mM.sub mM.PF 196) f [a, b, d, e] [] <;> simp -implicitDefEqProofs [callB_, i__law_called, at0, at1, at2, at3, e', stBad, atBad, kCallB]
  | [a, b, d, e, f5], _ =>
    cases e' : pcallF (callF mM.sub mM.PF 196) f [a, b, d, e, f5] [] <;> simp -implicitDefEqProofs [callB_, i__law_called, v0, v1, v2, v3, v4, e', stBad, atBad, kCallB]
  | [], l => exact absurd l.1 (by simp)
  | _ :: _ :: _ :: _ :: _ :: _ :: _, l => exact absurd l.2 (by simp)
def tryS : St := match i__law_asked.body with
  | .try_ s _ _ _ => s
  | s => s
/-- what asked says -/
def Asks (f : Nat) (ds : List D) (t : D) : Prop := ∀ h, pcallF (callF mM.sub mM.PF 198) 27 [.fn f, .lst ds] h = .ok t h
theorem asked_ok {f : Nat} {ds : List D} {v : D} {g : Hs} (c : D.clears ds = true) (l : 1 ≤ ds.length ∧ ds.length ≤ 5) (e : callF mM.sub mM.PF 196 f ds [] = .ok v g) (p : v.pure = true) : Asks f ds (.lst [v]) := by
  have pc : pcallF (callF mM.sub mM.PF 196) f ds [] = .ok v [] := pcP c e p
  have c2 : D.clears [.fn f, .lst ds] = true := by simp [D.clears, D.clear, c]
  have cd := called_r (f := f) l
  rw [pc] at cd
  have pc2 : pcallF (callF mM.sub mM.PF 197) 26 [.fn f, .lst ds] [] = .ok v [] := pcP c2 cd p
  have B : ex mM.sub (callF mM.sub mM.PF 197) tryS [some (.fn f), some (.lst ds), none] [] = .rt (.lst [v]) [] := by
    simp -implicitDefEqProofs [tryS, i__law_asked, pc2]
  have T := tryR (c := 0) (i := 2) (t := .ret (.call 25 (.cons (.var 2) .nil))) B
  simp only [tryS, i__law_asked] at T
  have e2 : callF mM.sub mM.PF 198 27 [.fn f, .lst ds] [] = .ok (.lst [v]) [] := by
    rw [callS _ _ 197 _ _ _ _ PF27]
    simp -implicitDefEqProofs [callB_, i__law_asked, T]
  exact fun h => pcP c2 e2 (by simp [D.pure, D.pures, p])
theorem asked_exc {f cc : Nat} {ds : List D} {x w : Str} {g : Hs} (c : D.clears ds = true) (l : 1 ≤ ds.length ∧ ds.length ≤ 5) (e : callF mM.sub mM.PF 196 f ds [] = .exc cc (.str x) g) (s0 : mM.sub cc 0 = true) (hw : callF mM.sub mM.PF 197 25 [.exc cc (.str x)] [] = .ok (.str w) []) : Asks f ds (.str w) := by
  have pc : pcallF (callF mM.sub mM.PF 196) f ds [] = .exc cc (.str x) [] := pcExc c e rfl
  have c2 : D.clears [.fn f, .lst ds] = true := by simp [D.clears, D.clear, c]
  have cd := called_r (f := f) l
  rw [pc] at cd
  have pc2 : pcallF (callF mM.sub mM.PF 197) 26 [.fn f, .lst ds] [] = .exc cc (.str x) [] := pcExc c2 cd rfl
  have B : ex mM.sub (callF mM.sub mM.PF 197) tryS [some (.fn f), some (.lst ds), none] [] = .exc cc (.str x) [some (.fn f), some (.lst ds), none] [] := by
    simp -implicitDefEqProofs [tryS, i__law_asked, pc2]
  have T := tryX (c := 0) (i := 2) (t := .ret (.call 25 (.cons (.var 2) .nil))) (d := .str w) (h2 := []) B s0 (by simp [hw]) rfl
  simp only [tryS, i__law_asked] at T
  have e2 : callF mM.sub mM.PF 198 27 [.fn f, .lst ds] [] = .ok (.str w) [] := by
    rw [callS _ _ 197 _ _ _ _ PF27]
    simp -implicitDefEqProofs [callB_, i__law_asked, T]
  exact fun h => pcP c2 e2 rfl
/-- the words -/
def wordO : Nat → Str → Option Str
  | 2, x => if x = q "storm" then some (q "storm storm") else if x = q "reports" then some (q "storm reports") else none
  | 3, x => if x = q "hour" then some (q "argument hour") else if x = q "last" then some (q "argument last") else if x = q "place" then some (q "argument place") else if x = q "places" then some (q "argument places") else if x = q "slow" then some (q "argument slow") else if x = q "fast" then some (q "argument fast") else if x = q "speed" then some (q "argument speed") else none
  | 4, x => if x = q "form" then some (q "paper form") else if x = q "report" then some (q "paper report") else if x = q "speed" then some (q "paper speed") else if x = q "suits" then some (q "paper suits") else none
  | _, _ => none
def WL : List Str := [q "storm storm", q "storm reports", q "argument hour", q "argument last", q "argument place", q "argument places", q "argument slow", q "argument fast", q "argument speed", q "paper form", q "paper report", q "paper speed", q "paper suits"]
def Wd (cc : Nat) (x w : Str) : Prop := mM.sub cc 0 = true ∧ callF mM.sub mM.PF 197 25 [.exc cc (.str x)] [] = .ok (.str w) [] ∧ w ∈ WL
theorem w_storm : Wd 2 (q "storm") (q "storm storm") := ⟨rfl, by rfl, by simp [WL]⟩
theorem w_reports : Wd 2 (q "reports") (q "storm reports") := ⟨rfl, by rfl, by simp [WL]⟩
theorem w_hour : Wd 3 (q "hour") (q "argument hour") := ⟨rfl, by rfl, by simp [WL]⟩
theorem w_last : Wd 3 (q "last") (q "argument last") := ⟨rfl, by rfl, by simp [WL]⟩
theorem w_place : Wd 3 (q "place") (q "argument place") := ⟨rfl, by rfl, by simp [WL]⟩
theorem w_places : Wd 3 (q "places") (q "argument places") := ⟨rfl, by rfl, by simp [WL]⟩
theorem w_slow : Wd 3 (q "slow") (q "argument slow") := ⟨rfl, by rfl, by simp [WL]⟩
theorem w_fast : Wd 3 (q "fast") (q "argument fast") := ⟨rfl, by rfl, by simp [WL]⟩
theorem w_speed : Wd 3 (q "speed") (q "argument speed") := ⟨rfl, by rfl, by simp [WL]⟩
theorem w_form : Wd 4 (q "form") (q "paper form") := ⟨rfl, by rfl, by simp [WL]⟩
theorem w_report : Wd 4 (q "report") (q "paper report") := ⟨rfl, by rfl, by simp [WL]⟩
theorem w_pspeed : Wd 4 (q "speed") (q "paper speed") := ⟨rfl, by rfl, by simp [WL]⟩
theorem w_suits : Wd 4 (q "suits") (q "paper suits") := ⟨rfl, by rfl, by simp [WL]⟩
theorem clsP : ∀ {ds : List D}, (∀ d ∈ ds, pln 100 d = true) → D.clears ds = true
  | [], _ => rfl
  | d :: ds, h => by
    simp only [D.clears, pln_clear (h d List.mem_cons_self), Bool.true_and]
    exact clsP fun x hx => h x (List.mem_cons_of_mem _ hx)
theorem eqE0 : eqD (.str (Str.ofString "")) (.str (Str.ofString "")) = some true := by decide +kernel
/-- what the law's _law_is takes -/
def Is (f : Nat) (ds : List D) (w : Str) : Prop := ∃ t, Asks f ds t ∧ ∀ h, pcallF (callF mM.sub mM.PF 198) 30 [t, .str w] h = .ok (.bl true) h
theorem is_ok {f : Nat} {ds : List D} (c : ∀ d ∈ ds, pln 100 d = true) (l : 1 ≤ ds.length ∧ ds.length ≤ 5) (e : Fin 196 f ds) : Is f ds (q "") := by
  obtain ⟨v, g, e, p⟩ := e
  refine ⟨_, asked_ok (clsP c) l e p, fun h => pcP ?_ (g := []) ?_ rfl⟩
  · simp [D.clears, D.clear, pure_clear p]
  · rw [callS _ _ 197 _ _ _ _ PF30]
    simp -implicitDefEqProofs [callB_, i__law_is, q, eqE0]
theorem eqW {w : Str} (h : w ∈ WL) : eqD (.str w) (.str w) = some true := by
  have : WL.all (fun w => decide (eqD (.str w) (.str w) = some true)) = true := by decide +kernel
  exact of_decide_eq_true (List.all_eq_true.1 this w h)
theorem eqWE {w : Str} (h : w ∈ WL) : eqD (.str w) (.str (Str.ofString "")) = some false := by
  have : WL.all (fun w => decide (eqD (.str w) (.str (Str.ofString "")) = some false)) = true := by decide +kernel
  exact of_decide_eq_true (List.all_eq_true.1 this w h)
theorem law_is_w {w : Str} (m : w ∈ WL) (h : Hs) : pcallF (callF mM.sub mM.PF 198) 30 [.str w, .str w] h = .ok (.bl true) h := by
  refine pcP rfl (g := []) ?_ rfl
  have e1 := eqW m
  have e2 := eqWE m
  rw [callS _ _ 197 _ _ _ _ PF30]
  simp -implicitDefEqProofs [callB_, i__law_is, e1, e2]
theorem ask_exc {f cc : Nat} {ds : List D} {x w : Str} (c : ∀ d ∈ ds, pln 100 d = true) (l : 1 ≤ ds.length ∧ ds.length ≤ 5) (hw : Wd cc x w) (e : callF mM.sub mM.PF 196 f ds [] = .exc cc (.str x) []) : Asks f ds (.str w) := asked_exc (clsP c) l e hw.1 hw.2.1
theorem is_exc {f cc : Nat} {ds : List D} {x w : Str} (c : ∀ d ∈ ds, pln 100 d = true) (l : 1 ≤ ds.length ∧ ds.length ≤ 5) (hw : Wd cc x w) (e : callF mM.sub mM.PF 196 f ds [] = .exc cc (.str x) []) : Is f ds w := ⟨_, ask_exc c l hw e, law_is_w hw.2.2⟩
end Pl

set_option Elab.async false
set_option linter.all false
set_option maxRecDepth 100000
set_option maxHeartbeats 4000000
namespace Pl
open PySem Ci
section
variable {s p y r f : D}
theorem bad_st (ps : pln 100 s = true) (e : stB s = false) (h : Hs) : pcallF (callF mM.sub mM.PF 195) 1 [s] h = .exc 2 (.str (q "storm")) h := by
  have := storm_any (N := 100) 192 s ps (by omega) h
  rw [e] at this; exact this
theorem ok_st (ps : pln 100 s = true) (e : stB s = true) (h : Hs) : pcallF (callF mM.sub mM.PF 195) 1 [s] h = .ok .non h := by
  have := storm_any (N := 100) 192 s ps (by omega) h
  rw [e] at this; exact this
theorem bad_hr (x : Str) (py : pln 100 y = true) (e : whB 0 1000 y = false) (h : Hs) : pcallF (callF mM.sub mM.PF 195) 3 [y, .str x] h = .exc 3 (.str x) h := by
  have := hour_any (N := 100) 193 y x py h
  rw [e] at this; exact this
theorem ok_hr (x : Str) (py : pln 100 y = true) (e : whB 0 1000 y = true) (h : Hs) : pcallF (callF mM.sub mM.PF 195) 3 [y, .str x] h = .ok .non h := by
  have := hour_any (N := 100) 193 y x py h
  rw [e] at this; exact this
theorem bad_pl (pp : pln 100 p = true) (e : plB p = false) (h : Hs) : pcallF (callF mM.sub mM.PF 195) 4 [p] h = .exc 3 (.str (q "place")) h := by
  have := cplace_any (N := 100) 192 p pp h
  rw [e] at this; exact this
theorem ok_pl (pp : pln 100 p = true) (e : plB p = true) (h : Hs) : pcallF (callF mM.sub mM.PF 195) 4 [p] h = .ok .non h := by
  have := cplace_any (N := 100) 192 p pp h
  rw [e] at this; exact this
theorem bad_pls (pp : pln 100 p = true) (e : psB p = false) (h : Hs) : pcallF (callF mM.sub mM.PF 195) 11 [p] h = .exc 3 (.str (q "places")) h := by
  have := cplaces_any (N := 100) 192 p pp (by omega) h
  rw [e] at this; exact this
theorem ok_pls (pp : pln 100 p = true) (e : psB p = true) (h : Hs) : pcallF (callF mM.sub mM.PF 195) 11 [p] h = .ok .non h := by
  have := cplaces_any (N := 100) 192 p pp (by omega) h
  rw [e] at this; exact this
theorem bad_rp (pr : pln 100 r = true) (e : rpB r = false) (h : Hs) : pcallF (callF mM.sub mM.PF 195) 12 [r] h = .exc 2 (.str (q "reports")) h := by
  have := reports_any (N := 100) 192 r pr (by omega) h
  rw [e] at this; exact this
theorem ok_rp (pr : pln 100 r = true) (e : rpB r = true) (h : Hs) : pcallF (callF mM.sub mM.PF 195) 12 [r] h = .ok .non h := by
  have := reports_any (N := 100) 192 r pr (by omega) h
  rw [e] at this; exact this
theorem bad_sp (ps : pln 100 s = true) (pf : pln 100 f = true) (e : spdB s f = false) (h : Hs) : pcallF (callF mM.sub mM.PF 195) 13 [s, f] h = .exc 3 (.str (spdE s f)) h := by
  have := speeds_any (N := 100) 192 s f ps pf h
  rw [e] at this; exact this
theorem ok_sp (ps : pln 100 s = true) (pf : pln 100 f = true) (e : spdB s f = true) (h : Hs) : pcallF (callF mM.sub mM.PF 195) 13 [s, f] h = .ok .non h := by
  have := speeds_any (N := 100) 192 s f ps pf h
  rw [e] at this; exact this
theorem hr_int (e : whB 0 1000 y = true) : ∃ i : Int, y = .int i ∧ 0 ≤ i ∧ i ≤ 1000 := by
  cases y <;> simp [whB] at e
  exact ⟨_, rfl, e.1, e.2⟩
theorem sp_int (e : spdB s f = true) : ∃ i j : Int, s = .int i ∧ f = .int j ∧ bd i ∧ bd j ∧ i ≤ j := by
  unfold spdB at e
  split at e
  · simp only [Bool.and_eq_true, decide_eq_true_eq] at e
    obtain ⟨i, h1, a, b⟩ := plB_int e.1
    obtain ⟨j, h2, c, d⟩ := plB_int e.2.1
    cases h1; cases h2
    exact ⟨_, _, rfl, rfl, ⟨a, b⟩, ⟨c, d⟩, e.2.2⟩
  · cases e
theorem is5 (ps : pln 100 s = true) (py : pln 100 y = true) : Is 5 [s, y] (if stB s then (if whB 0 1000 y then q "" else q "argument hour") else q "storm storm") := by
  have c : ∀ d ∈ [s, y], pln 100 d = true := by
    simp only [List.mem_cons, List.not_mem_nil, or_false]; rintro d (rfl | rfl) <;> assumption
  cases e1 : stB s with
  | false =>
    refine is_exc c (by simp) w_storm ?_
    have c1 := bad_st ps e1 []
    rw [callS _ _ 195 _ _ _ _ PF5]
    simp -implicitDefEqProofs [callB_, i_middle_at, c1]
  | true =>
    have c1 := ok_st ps e1 []
    cases e2 : whB 0 1000 y with
    | false =>
      refine is_exc c (by simp) w_hour ?_
      have c2 := bad_hr (q "hour") py e2 []
      rw [callS _ _ 195 _ _ _ _ PF5]
      simp -implicitDefEqProofs [callB_, i_middle_at, c1, c2]
    | true =>
      obtain ⟨t, rfl, o⟩ := stB_is e1
      obtain ⟨i, rfl, h0, h1⟩ := hr_int e2
      exact is_ok c (by simp) (middle_fin 192 o h0 h1)
theorem is8 (ps : pln 100 s = true) (pp : pln 100 p = true) (py : pln 100 y = true) : Is 8 [s, p, y] (if stB s then (if plB p then (if whB 0 1000 y then q "" else q "argument last") else q "argument place") else q "storm storm") := by
  have c : ∀ d ∈ [s, p, y], pln 100 d = true := by
    simp only [List.mem_cons, List.not_mem_nil, or_false]; rintro d (rfl | rfl | rfl) <;> assumption
  cases e1 : stB s with
  | false =>
    refine is_exc c (by simp) w_storm ?_
    have c1 := bad_st ps e1 []
    rw [callS _ _ 195 _ _ _ _ PF8]
    simp -implicitDefEqProofs [callB_, i_first_strike, c1]
  | true =>
    have c1 := ok_st ps e1 []
    cases e3 : plB p with
    | false =>
      refine is_exc c (by simp) w_place ?_
      have c2 := bad_pl pp e3 []
      rw [callS _ _ 195 _ _ _ _ PF8]
      simp -implicitDefEqProofs [callB_, i_first_strike, c1, c2]
    | true =>
      have c2 := ok_pl pp e3 []
      cases e2 : whB 0 1000 y with
      | false =>
        refine is_exc c (by simp) w_last ?_
        have c3 := bad_hr (q "last") py e2 []
        rw [callS _ _ 195 _ _ _ _ PF8]
        simp -implicitDefEqProofs [callB_, i_first_strike, c1, c2, c3]
      | true =>
        obtain ⟨t, rfl, o⟩ := stB_is e1
        obtain ⟨i, rfl, h0, h1⟩ := hr_int e2
        obtain ⟨j, rfl, h2, h3⟩ := plB_int e3
        exact is_ok c (by simp) (first_fin 192 o ⟨h2, h3⟩ h0 h1)
theorem is9 (ps : pln 100 s = true) (pp : pln 100 p = true) (py : pln 100 y = true) : Is 9 [s, p, y] (if stB s then (if plB p then (if whB 0 1000 y then q "" else q "argument last") else q "argument place") else q "storm storm") := by
  have c : ∀ d ∈ [s, p, y], pln 100 d = true := by
    simp only [List.mem_cons, List.not_mem_nil, or_false]; rintro d (rfl | rfl | rfl) <;> assumption
  cases e1 : stB s with
  | false =>
    refine is_exc c (by simp) w_storm ?_
    have c1 := bad_st ps e1 []
    rw [callS _ _ 195 _ _ _ _ PF9]
    simp -implicitDefEqProofs [callB_, i_struck_hours, c1]
  | true =>
    have c1 := ok_st ps e1 []
    cases e3 : plB p with
    | false =>
      refine is_exc c (by simp) w_place ?_
      have c2 := bad_pl pp e3 []
      rw [callS _ _ 195 _ _ _ _ PF9]
      simp -implicitDefEqProofs [callB_, i_struck_hours, c1, c2]
    | true =>
      have c2 := ok_pl pp e3 []
      cases e2 : whB 0 1000 y with
      | false =>
        refine is_exc c (by simp) w_last ?_
        have c3 := bad_hr (q "last") py e2 []
        rw [callS _ _ 195 _ _ _ _ PF9]
        simp -implicitDefEqProofs [callB_, i_struck_hours, c1, c2, c3]
      | true =>
        obtain ⟨t, rfl, o⟩ := stB_is e1
        obtain ⟨i, rfl, h0, h1⟩ := hr_int e2
        obtain ⟨j, rfl, h2, h3⟩ := plB_int e3
        exact is_ok c (by simp) (struck_fin 192 o ⟨h2, h3⟩ h0 h1)
theorem is10 (ps : pln 100 s = true) (pp : pln 100 p = true) (py : pln 100 y = true) : Is 10 [s, p, y] (if stB s then (if psB p then (if whB 0 1000 y then q "" else q "argument last") else q "argument places") else q "storm storm") := by
  have c : ∀ d ∈ [s, p, y], pln 100 d = true := by
    simp only [List.mem_cons, List.not_mem_nil, or_false]; rintro d (rfl | rfl | rfl) <;> assumption
  cases e1 : stB s with
  | false =>
    refine is_exc c (by simp) w_storm ?_
    have c1 := bad_st ps e1 []
    rw [callS _ _ 195 _ _ _ _ PF10]
    simp -implicitDefEqProofs [callB_, i_safe_places, c1]
  | true =>
    have c1 := ok_st ps e1 []
    cases e3 : psB p with
    | false =>
      refine is_exc c (by simp) w_places ?_
      have c2 := bad_pls pp e3 []
      rw [callS _ _ 195 _ _ _ _ PF10]
      simp -implicitDefEqProofs [callB_, i_safe_places, c1, c2]
    | true =>
      have c2 := ok_pls pp e3 []
      cases e2 : whB 0 1000 y with
      | false =>
        refine is_exc c (by simp) w_last ?_
        have c3 := bad_hr (q "last") py e2 []
        rw [callS _ _ 195 _ _ _ _ PF10]
        simp -implicitDefEqProofs [callB_, i_safe_places, c1, c2, c3]
      | true =>
        obtain ⟨t, rfl, o⟩ := stB_is e1
        obtain ⟨i, rfl, h0, h1⟩ := hr_int e2
        exact is_ok c (by simp) (safe_fin 192 o pp e3 h0 h1)
/-- what is said of reports and speeds -/
def wR (r s f : D) : Str := if rpB r then (if spdB s f then q "" else if plB s then q "argument fast" else q "argument slow") else q "storm reports"
theorem w_spd (s f : D) : Wd 3 (spdE s f) (if plB s then q "argument fast" else q "argument slow") := by
  unfold spdE
  cases plB s with
  | false => exact w_slow
  | true => exact w_fast
theorem is15 (pr : pln 100 r = true) (ps : pln 100 s = true) (pf : pln 100 f = true) : Is 15 [r, s, f] (wR r s f) := by
  have c : ∀ d ∈ [r, s, f], pln 100 d = true := by
    simp only [List.mem_cons, List.not_mem_nil, or_false]; rintro d (rfl | rfl | rfl) <;> assumption
  unfold wR
  cases e1 : rpB r with
  | false =>
    refine is_exc c (by simp) w_reports ?_
    have c1 := bad_rp pr e1 []
    rw [callS _ _ 195 _ _ _ _ PF15]
    simp -implicitDefEqProofs [callB_, i_judge_reports, c1]
  | true =>
    have c1 := ok_rp pr e1 []
    cases e2 : spdB s f with
    | false =>
      refine is_exc c (by simp) (w_spd s f) ?_
      have c2 := bad_sp ps pf e2 []
      rw [callS _ _ 195 _ _ _ _ PF15]
      simp -implicitDefEqProofs [callB_, i_judge_reports, c1, c2]
    | true =>
      obtain ⟨rs, rfl, o⟩ := rpB_is e1
      obtain ⟨i, j, rfl, rfl, b1, b2, l⟩ := sp_int e2
      exact is_ok c (by simp) (judge_fin 192 o b1 b2 l)
theorem is18 (pr : pln 100 r = true) (ps : pln 100 s = true) (pf : pln 100 f = true) : Is 18 [r, s, f] (wR r s f) := by
  have c : ∀ d ∈ [r, s, f], pln 100 d = true := by
    simp only [List.mem_cons, List.not_mem_nil, or_false]; rintro d (rfl | rfl | rfl) <;> assumption
  unfold wR
  cases e1 : rpB r with
  | false =>
    refine is_exc c (by simp) w_reports ?_
    have c1 := bad_rp pr e1 []
    rw [callS _ _ 195 _ _ _ _ PF18]
    simp -implicitDefEqProofs [callB_, i_first_against, c1]
  | true =>
    have c1 := ok_rp pr e1 []
    cases e2 : spdB s f with
    | false =>
      refine is_exc c (by simp) (w_spd s f) ?_
      have c2 := bad_sp ps pf e2 []
      rw [callS _ _ 195 _ _ _ _ PF18]
      simp -implicitDefEqProofs [callB_, i_first_against, c1, c2]
    | true =>
      obtain ⟨rs, rfl, o⟩ := rpB_is e1
      obtain ⟨i, j, rfl, rfl, b1, b2, l⟩ := sp_int e2
      exact is_ok c (by simp) (against_fin 192 o b1 b2 l)
theorem is19 (pr : pln 100 r = true) : Is 19 [r] (if rpB r then q "" else q "storm reports") := by
  have c : ∀ d ∈ [r], pln 100 d = true := by
    simp only [List.mem_cons, List.not_mem_nil, or_false]; rintro d rfl; assumption
  cases e1 : rpB r with
  | false =>
    refine is_exc c (by simp) w_reports ?_
    have c1 := bad_rp pr e1 []
    rw [callS _ _ 195 _ _ _ _ PF19]
    simp -implicitDefEqProofs [callB_, i_whole_speeds, c1]
  | true =>
    obtain ⟨rs, rfl, o⟩ := rpB_is e1
    exact is_ok c (by simp) (whole_fin 192 o)
theorem is20 (pr : pln 100 r = true) (ps : pln 100 s = true) : Is 20 [r, s] (if rpB r then (if plB s then q "" else q "argument speed") else q "storm reports") := by
  have c : ∀ d ∈ [r, s], pln 100 d = true := by
    simp only [List.mem_cons, List.not_mem_nil, or_false]; rintro d (rfl | rfl) <;> assumption
  cases e1 : rpB r with
  | false =>
    refine is_exc c (by simp) w_reports ?_
    have c1 := bad_rp pr e1 []
    rw [callS _ _ 195 _ _ _ _ PF20]
    simp -implicitDefEqProofs [callB_, i_steady, c1]
  | true =>
    have c1 := ok_rp pr e1 []
    cases e2 : plB s with
    | false =>
      refine is_exc c (by simp) w_speed ?_
      have c2 := place_any (N := 100) 193 [] s ps
      have c2 : pcallF (callF mM.sub mM.PF 195) 2 [s] [] = .ok (.bl (plB s)) [] := c2
      rw [e2] at c2
      rw [callS _ _ 195 _ _ _ _ PF20]
      simp -implicitDefEqProofs [callB_, i_steady, c1, c2]
    | true =>
      obtain ⟨rs, rfl, o⟩ := rpB_is e1
      obtain ⟨j, rfl, h2, h3⟩ := plB_int e2
      exact is_ok c (by simp) (steady_fin 192 o ⟨h2, h3⟩)
/-- the papers' answers at bad papers -/
abbrev pfW (w : Str) : Str := if w = q "" then q "paper form" else w
theorem pf_ne {w : Str} (h : w ∈ WL) : pfW w = w := by
  unfold pfW
  rw [if_neg]
  rintro rfl
  have : (WL.contains (q "")) = false := by decide +kernel
  rw [List.contains_eq_mem] at this
  simp [h] at this
theorem ask16 (pr : pln 100 r = true) (ps : pln 100 s = true) (pf : pln 100 f = true) : Asks 16 [r, s, f, .non] (.str (pfW (wR r s f))) := by
  have c : ∀ d ∈ [r, s, f, .non], pln 100 d = true := by
    simp only [List.mem_cons, List.not_mem_nil, or_false]; rintro d (rfl | rfl | rfl | rfl) <;> first | assumption | rfl
  unfold wR
  cases e1 : rpB r with
  | false =>
    rw [if_neg (by simp), pf_ne (by simp [WL])]
    refine ask_exc c (by simp) w_reports ?_
    have c1 := bad_rp pr e1 []
    rw [callS _ _ 195 _ _ _ _ PF16]
    simp -implicitDefEqProofs [callB_, i_accept_course, c1]
  | true =>
    have c1 := ok_rp pr e1 []
    cases e2 : spdB s f with
    | false =>
      have w := w_spd s f
      rw [if_pos rfl, if_neg (by simp), pf_ne w.2.2]
      refine ask_exc c (by simp) w ?_
      have c2 := bad_sp ps pf e2 []
      rw [callS _ _ 195 _ _ _ _ PF16]
      simp -implicitDefEqProofs [callB_, i_accept_course, c1, c2]
    | true =>
      have c2 := ok_sp ps pf e2 []
      rw [if_pos rfl, if_pos rfl]
      refine ask_exc c (by simp) w_form ?_
      rw [callS _ _ 195 _ _ _ _ PF16]
      simp -implicitDefEqProofs [callB_, i_accept_course, c1, c2]
theorem ask17 (pr : pln 100 r = true) (ps : pln 100 s = true) (pf : pln 100 f = true) : Asks 17 [r, s, f, .non, .int 0] (.str (pfW (wR r s f))) := by
  have c : ∀ d ∈ [r, s, f, .non, .int 0], pln 100 d = true := by
    simp only [List.mem_cons, List.not_mem_nil, or_false]; rintro d (rfl | rfl | rfl | rfl | rfl) <;> first | assumption | rfl
  unfold wR
  cases e1 : rpB r with
  | false =>
    rw [if_neg (by simp), pf_ne (by simp [WL])]
    refine ask_exc c (by simp) w_reports ?_
    have c1 := bad_rp pr e1 []
    rw [callS _ _ 195 _ _ _ _ PF17]
    simp -implicitDefEqProofs [callB_, i_accept_against, c1]
  | true =>
    have c1 := ok_rp pr e1 []
    cases e2 : spdB s f with
    | false =>
      have w := w_spd s f
      rw [if_pos rfl, if_neg (by simp), pf_ne w.2.2]
      refine ask_exc c (by simp) w ?_
      have c2 := bad_sp ps pf e2 []
      rw [callS _ _ 195 _ _ _ _ PF17]
      simp -implicitDefEqProofs [callB_, i_accept_against, c1, c2]
    | true =>
      have c2 := ok_sp ps pf e2 []
      rw [if_pos rfl, if_pos rfl]
      refine ask_exc c (by simp) w_form ?_
      obtain ⟨rs, rfl, o⟩ := rpB_is e1
      have i1 := isint_any (N := 100) 194 [] .non rfl
      have i2 := isint_any (N := 100) 194 [] (.int 0) rfl
      have i1 : pcallF (callF mM.sub mM.PF 195) 0 [.non] [] = .ok (.bl false) [] := i1
      have i2 : pcallF (callF mM.sub mM.PF 195) 0 [.int 0] [] = .ok (.bl true) [] := i2
      have l : (0 : Int) < rs.length := by have := o.1; omega
      rw [callS _ _ 195 _ _ _ _ PF17]
      simp -implicitDefEqProofs [callB_, i_accept_against, c1, c2, turnC_, i1, i2, rs_len, l]
end
end Pl

set_option Elab.async false
set_option linter.all false
set_option maxRecDepth 100000
set_option maxHeartbeats 4000000
namespace Pl
open PySem Ci
theorem pow60 : binD .Pow (.int 10) (.int 60) = some (.int 1000000000000000000000000000000000000000000000000000000000000) := rfl
theorem any_ok {N : Nat} (k : Nat) (h : Hs) (d : D) (s : pln N d = true) (n1 : N ≤ 1000) : pcallF (callF mM.sub mM.PF (k + 2)) 31 [d] h = .ok (.bl (isW d)) h := by
  have w := whole_any k [] d (-1000000000000000000000000000000000000000000000000000000000000) 1000000000000000000000000000000000000000000000000000000000000 s
  have e : whB (-1000000000000000000000000000000000000000000000000000000000000) 1000000000000000000000000000000000000000000000000000000000000 d = isW d := by
    cases d with
    | int i =>
      simp only [pln, decide_eq_true_eq] at s
      have : i.natAbs ≤ 1000000000000000000000000100000 := by
        have : (10 : Nat) ^ 30 = 1000000000000000000000000000000 := by decide
        omega
      simp only [whB, isW, Bool.and_eq_true, decide_eq_true_eq]
      omega
    | _ => rfl
  rw [e] at w
  refine pcOk (cl1 d (pln_clear s)) ?_ rfl
  rw [callS _ _ _ _ _ _ _ PF31]
  simp -implicitDefEqProofs [callB_, i__law_any, pow60, w]
/-! what is due of a course -/
def rpC (rs : List Rw) (is : List Int) : Bool := (List.range is.length).any fun k => !(decide ((rs.getD k (0, 0, 0)).2.1 ≤ is.getD k 0) && decide (is.getD k 0 ≤ (rs.getD k (0, 0, 0)).2.2))
def spC (rs : List Rw) (s f : Int) (is : List Int) : Bool := (List.range (is.length - 1)).any fun k => !(decide (s * ((rs.getD (k + 1) (0, 0, 0)).1 - (rs.getD k (0, 0, 0)).1) ≤ is.getD (k + 1) 0 - is.getD k 0) && decide (is.getD (k + 1) 0 - is.getD k 0 ≤ f * ((rs.getD (k + 1) (0, 0, 0)).1 - (rs.getD k (0, 0, 0)).1)))
def crI (rs : List Rw) (s f : Int) (is : List Int) : D := if rpC rs is then .str (q "paper report") else if spC rs s f is then .str (q "paper speed") else .lst [.non]
def crW (rs : List Rw) (s f : Int) : D → D
  | .tup xs => if decide (xs.length = rs.length) && xs.all isW then crI rs s f (intsD xs) else .str (q "paper form")
  | _ => .str (q "paper form")
theorem allW_is : ∀ {xs : List D}, xs.all isW = true → xs = (intsD xs).map .int
  | [], _ => rfl
  | x :: xs, h => by
    simp only [List.all_cons, Bool.and_eq_true] at h
    cases x with
    | int i => simp only [intsD, List.map_cons]; rw [← allW_is h.2]
    | _ => simp [isW] at h
theorem zip_is : ∀ (is : List Int) (rs : List Rw), zipD (is.map .int) (rsD rs) = (is.zip rs).map fun z => .tup [.int z.1, rD z.2]
  | [], _ => by simp [zipD]
  | i :: is, [] => by simp [zipD, rsD]
  | i :: is, r :: rs => by
    show D.tup [.int i, rD r] :: zipD (is.map .int) (rsD rs) = _
    rw [zip_is is rs]; rfl
theorem any_rng {α : Type} (p : α → Bool) (d : α) : ∀ L : List α, L.any p = (List.range L.length).any fun k => p (L.getD k d)
  | [] => rfl
  | x :: L => by
    rw [List.any_cons, any_rng p d L, List.length_cons, List.range_succ_eq_map, List.any_cons, List.any_map]
    rfl
theorem zip_rp (is : List Int) (rs : List Rw) (l : is.length = rs.length) : (is.zip rs).any (fun z => !(decide (z.2.2.1 ≤ z.1) && decide (z.1 ≤ z.2.2.2))) = rpC rs is := by
  rw [any_rng _ (0, (0, 0, 0)), List.length_zip, l, Nat.min_self]
  unfold rpC
  rw [l]
  have : ∀ (n : Nat) (p p' : Nat → Bool), (∀ k, k < n → p k = p' k) → (List.range n).any p = (List.range n).any p' := by
    intro n p p' h
    rw [Bool.eq_iff_iff, List.any_eq_true, List.any_eq_true]
    constructor
    · rintro ⟨x, hx, e⟩; exact ⟨x, hx, by rw [← h x (List.mem_range.1 hx)]; exact e⟩
    · rintro ⟨x, hx, e⟩; exact ⟨x, hx, by rw [h x (List.mem_range.1 hx)]; exact e⟩
  apply this
  intro k hk
  have e : (is.zip rs).getD k (0, (0, 0, 0)) = (is.getD k 0, rs.getD k (0, 0, 0)) := by
    simp only [List.getD, List.getElem?_eq_getElem (show k < (is.zip rs).length by simp; omega), List.getElem?_eq_getElem (show k < is.length by omega), List.getElem?_eq_getElem hk, List.getElem_zip, Option.getD_some]
  rw [e]
/-- the first bad one -/
theorem for_bad (O : RS → Prop) (hO : ∀ r, O r → (∃ v h, r = .rt v h) ∨ ∃ c v S h, r = .exc c v S h) (P : Sl → Prop) (t : D → Sl → Hs → RS) (fn : Nat → D) (bad : Nat → Bool) (h : Hs) : ∀ (xs : List Nat) (S : Sl), (∀ k ∈ xs, ∀ S, P S → if bad k then O (t (fn k) S h) else ∃ S', P S' ∧ t (fn k) S h = .nx S' h) → P S → if xs.any bad then O (forF t (xs.map fn) S h) else ∃ S', P S' ∧ forF t (xs.map fn) S h = .nx S' h
  | [], S, _, g => ⟨S, g, rfl⟩
  | x :: xs, S, a, g => by
    have ax := a x List.mem_cons_self S g
    cases e : bad x with
    | true =>
      rw [e, if_pos rfl] at ax
      rw [List.any_cons, e, Bool.true_or, if_pos rfl]
      rcases hO _ ax with ⟨v, h', er⟩ | ⟨c, v, S', h', er⟩
      · have : forF t ((x :: xs).map fn) S h = t (fn x) S h := by rw [List.map_cons, forF, er]
        rw [this]; exact ax
      · have : forF t ((x :: xs).map fn) S h = t (fn x) S h := by rw [List.map_cons, forF, er]
        rw [this]; exact ax
    | false =>
      rw [e] at ax
      obtain ⟨S1, g1, e1⟩ := ax
      rw [List.any_cons, e, Bool.false_or]
      have : forF t ((x :: xs).map fn) S h = forF t (xs.map fn) S1 h := by rw [List.map_cons, forF, e1]
      rw [this]
      exact for_bad O hO P t fn bad h xs S1 (fun k hk => a k (List.mem_cons_of_mem _ hk)) g1
theorem getD_rs {rs : List Rw} {k : Nat} (h : k < rs.length) : rs.getD k (0, 0, 0) = rs[k] := by simp [List.getD, List.getElem?_eq_getElem h]
theorem at_isD {is : List Int} {k : Nat} (h : k + 1 < is.length) : atD (is.map .int) ((k : Nat) + 1) = some (.int (is.getD (k + 1) 0)) := at_is h
/-! accept_course -/
def acB : St := stFor (stSnd (stSnd (stSnd (stSnd i_accept_course.body))))
def acF (rs : List Rw) (s f : Int) (d : D) (v4 v5 : Option D) : Sl := [some (.tup (rsD rs)), some (.int s), some (.int f), some d, v4, v5, none, none, none, none, none]
theorem ac_loop (call : Nat → List D → Hs → R D) {rs : List Rw} (o : okR rs) {s f : Int} (bs : bd s) (bf : bd f) {is : List Int} (l : is.length = rs.length) : if spC rs s f is then (∃ S', forF (turnF mM.sub call (.nm 4) acB) ((List.range (is.length - 1)).map fun k => .int (k : Nat)) (acF rs s f (.tup (is.map .int)) none none) [] = .exc 4 (.str (q "speed")) S' []) else ∃ S', (∃ v4 v5, S' = acF rs s f (.tup (is.map .int)) v4 v5) ∧ forF (turnF mM.sub call (.nm 4) acB) ((List.range (is.length - 1)).map fun k => .int (k : Nat)) (acF rs s f (.tup (is.map .int)) none none) [] = .nx S' [] := by
  refine for_bad (fun r => ∃ S', r = .exc 4 (.str (q "speed")) S' []) (fun r hr => by
    obtain ⟨S', rfl⟩ := hr
    exact .inr ⟨_, _, _, _, rfl⟩) (fun S => ∃ v4 v5, S = acF rs s f (.tup (is.map .int)) v4 v5) _ (fun k => .int (k : Nat)) (fun k => !(decide (s * ((rs.getD (k + 1) (0, 0, 0)).1 - (rs.getD k (0, 0, 0)).1) ≤ is.getD (k + 1) 0 - is.getD k 0) && decide (is.getD (k + 1) 0 - is.getD k 0 ≤ f * ((rs.getD (k + 1) (0, 0, 0)).1 - (rs.getD k (0, 0, 0)).1)))) [] _ _ (fun k hk S hS => ?_) ⟨none, none, rfl⟩
  obtain ⟨v4, v5, rfl⟩ := hS
  have hk := List.mem_range.1 hk
  have a1 := at_rs (rs := rs) (k := k) (by omega)
  have a2 := at_rs1 (rs := rs) (k := k) (by omega)
  have o1 := o.2.2.1 _ (List.getElem_mem (show k < rs.length by omega))
  have o2 := o.2.2.1 _ (List.getElem_mem (show k + 1 < rs.length by omega))
  have i1 := at_is (is := is) (k := k) (by omega)
  have i2 := at_isD (is := is) (k := k) (by omega)
  rw [getD_rs (show k < rs.length by omega), getD_rs (show k + 1 < rs.length by omega)]
  generalize (rs[k]'(by omega)) = r1 at a1 o1
  generalize (rs[k + 1]'(by omega)) = r2 at a2 o2
  generalize is.getD k 0 = x1 at i1
  generalize is.getD (k + 1) 0 = x2 at i2
  have m1 := mulB (bd_abs bs) (row_abs o2 o1)
  have m2 := mulB (bd_abs bf) (row_abs o2 o1)
  have tn : turnF mM.sub call (.nm 4) acB (.int (k : Nat)) (acF rs s f (.tup (is.map .int)) v4 v5) [] = ex mM.sub call acB (acF rs s f (.tup (is.map .int)) (some (.int (k : Nat))) v5) [] := by
    rw [turn_nm (by simp [acF])]; rfl
  rw [tn]
  generalize is.map D.int = XS at i1 i2 ⊢
  by_cases q1 : s * (r2.1 - r1.1) ≤ x2 - x1
  · by_cases q2 : x2 - x1 ≤ f * (r2.1 - r1.1)
    · rw [if_neg (by simp [q1, q2])]
      refine ⟨_, ⟨some (.int (k : Nat)), some (.int (r2.1 - r1.1)), rfl⟩, ?_⟩
      simp -implicitDefEqProofs [acF, acB, stFor, stSnd, i_accept_course, a1, a2, i1, i2, rD, t0, m1, m2, q1, q2]
    · rw [if_pos (by simp [q1, q2])]
      refine ⟨acF rs s f (.tup XS) (some (.int (k : Nat))) (some (.int (r2.1 - r1.1))), ?_⟩
      simp -implicitDefEqProofs [acF, acB, stFor, stSnd, i_accept_course, a1, a2, i1, i2, rD, t0, m1, m2, q1, q2]
  · rw [if_pos (by simp [q1])]
    refine ⟨acF rs s f (.tup XS) (some (.int (k : Nat))) (some (.int (r2.1 - r1.1))), ?_⟩
    simp -implicitDefEqProofs [acF, acB, stFor, stSnd, i_accept_course, a1, a2, i1, i2, rD, t0, m1, m2, q1]
end Pl

set_option Elab.async false
set_option linter.all false
set_option maxRecDepth 100000
set_option maxHeartbeats 4000000
namespace Pl
open PySem Ci
theorem crW_t (rs : List Rw) (s f : Int) (xs : List D) : crW rs s f (.tup xs) = if decide (xs.length = rs.length) && xs.all isW then crI rs s f (intsD xs) else .str (q "paper form") := rfl
theorem isint195 {x : D} (px : pln 100 x = true) (h : Hs) : pcallF (callF mM.sub mM.PF 195) 0 [x] h = .ok (.bl (isW x)) h := isint_any 194 h x px
theorem ok_none {f : Nat} {ds : List D} {g : Hs} (c : ∀ d ∈ ds, pln 100 d = true) (l : 1 ≤ ds.length ∧ ds.length ≤ 5) (e : callF mM.sub mM.PF 196 f ds [] = .ok .non g) : Asks f ds (.lst [.non]) := asked_ok (clsP c) l e rfl
theorem course_ask {rs : List Rw} (o : okR rs) {s f : Int} (bs : bd s) (bf : bd f) (l : s ≤ f) {d : D} (pd : pln 100 d = true) : Asks 16 [.tup (rsD rs), .int s, .int f, d] (crW rs s f d) := by
  have c : ∀ x ∈ [D.tup (rsD rs), .int s, .int f, d], pln 100 x = true := by
    simp only [List.mem_cons, List.not_mem_nil, or_false]; rintro x (rfl | rfl | rfl | rfl)
    · exact rs_pln o
    · exact bd_pln bs
    · exact bd_pln bf
    · exact pd
  have c1 := reports_ok 192 o []
  have c2 := speeds_ok 192 bs bf l []
  have c1 : pcallF (callF mM.sub mM.PF 195) 12 [.tup (rsD rs)] [] = .ok .non [] := c1
  have c2 : pcallF (callF mM.sub mM.PF 195) 13 [.int s, .int f] [] = .ok .non [] := c2
  have l60 := o.2.1
  cases d with
  | non =>
    refine ask_exc c (by simp) w_form ?_
    rw [callS _ _ 195 _ _ _ _ PF16]
    simp -implicitDefEqProofs [callB_, i_accept_course, c1, c2]
  | bl b =>
    refine ask_exc c (by simp) w_form ?_
    rw [callS _ _ 195 _ _ _ _ PF16]
    simp -implicitDefEqProofs [callB_, i_accept_course, c1, c2]
  | int b =>
    refine ask_exc c (by simp) w_form ?_
    rw [callS _ _ 195 _ _ _ _ PF16]
    simp -implicitDefEqProofs [callB_, i_accept_course, c1, c2]
  | str b =>
    refine ask_exc c (by simp) w_form ?_
    rw [callS _ _ 195 _ _ _ _ PF16]
    simp -implicitDefEqProofs [callB_, i_accept_course, c1, c2]
  | tup xs =>
    obtain ⟨lx, px⟩ := pln_tup.1 pd
    by_cases ln : xs.length = rs.length
    · have l2 : ((xs.length : Int) == (rs.length : Int)) = true := by simp [ln]
      have l3 : xs.length ≤ 16777216 := by omega
      have cm := comp_map (fun x => .bl (isW x)) (turnC mM.sub (callF mM.sub mM.PF 195) (.pcall 0 (.cons (.var 10) .nil)) [10] (.nm 10) .omit (acF rs s f (.tup xs) none none)) [] xs (fun x hx => by simp [turnC_, acF, isint195 (px x hx)])
      cases a : xs.all isW with
      | false =>
        have e : crW rs s f (.tup xs) = .str (q "paper form") := by
          rw [crW_t, a]; simp
        rw [e]
        refine ask_exc c (by simp) w_form ?_
        simp only [acF] at cm
        rw [callS _ _ 195 _ _ _ _ PF16]
        simp -implicitDefEqProofs [callB_, i_accept_course, c1, c2, rs_len, l2, l3, cm, bls_map, all_map, a, -List.all_map, -List.all_eq_true, -List.all_eq_false]
      | true =>
        have e : crW rs s f (.tup xs) = crI rs s f (intsD xs) := by
          rw [crW_t, a, ln]; simp
        rw [e]
        have xi := allW_is a
        obtain ⟨is, his⟩ : ∃ is, intsD xs = is := ⟨_, rfl⟩
        rw [his] at xi ⊢
        have li : is.length = rs.length := by rw [← ln, xi]; simp
        -- the head
        have hd : ∀ R, ex mM.sub (callF mM.sub mM.PF 195) (stSnd (stSnd (stSnd i_accept_course.body))) (acF rs s f (.tup xs) none none) [] = R → ex mM.sub (callF mM.sub mM.PF 195) i_accept_course.body (acF rs s f (.tup xs) none none) [] = R := by
          intro R hR
          have s1 : ex mM.sub (callF mM.sub mM.PF 195) (stFst (stSnd (stSnd i_accept_course.body))) (acF rs s f (.tup xs) none none) [] = .nx (acF rs s f (.tup xs) none none) [] := by
            simp only [acF] at cm ⊢
            simp -implicitDefEqProofs [stFst, stSnd, i_accept_course, rs_len, l2, l3, cm, bls_map, all_map, a, -List.all_map, -List.all_eq_true, -List.all_eq_false]
          refine step (S' := acF rs s f (.tup xs) none none) (h' := []) (by simp -implicitDefEqProofs [acF, c1]) ?_
          refine step (S' := acF rs s f (.tup xs) none none) (h' := []) (by simp -implicitDefEqProofs [acF, c2]) ?_
          exact step s1 hR
        have zc := comp_pick (fun z : Int × Rw => D.tup [.int z.1, rD z.2]) (fun z => !(decide (z.2.2.1 ≤ z.1) && decide (z.1 ≤ z.2.2.2))) (fun _ => D.int 1) (turnC mM.sub (callF mM.sub mM.PF 195) (.lit (.int (1))) [6, 7, 8, 9] (.tp (.cons (.nm 6) (.cons (.tp (.cons (.nm 7) (.cons (.nm 8) (.cons (.nm 9) .nil)))) .nil))) (.not_ (.cmp2 .LtE .LtE (.var 8) (.var 6) (.var 9))) (acF rs s f (.tup xs) none none)) [] (is.zip rs) (by
          intro z hz
          by_cases q1 : z.2.2.1 ≤ z.1
          · by_cases q2 : z.1 ≤ z.2.2.2
            · simp -implicitDefEqProofs [turnC_, acF, rD, q1, q2]
            · simp -implicitDefEqProofs [turnC_, acF, rD, q1, q2]
          · simp -implicitDefEqProofs [turnC_, acF, rD, q1])
        have ne := filter_any (fun _ : Int × Rw => D.int 1) (fun z => !(decide (z.2.2.1 ≤ z.1) && decide (z.1 ≤ z.2.2.2))) (is.zip rs)
        rw [zip_rp is rs li] at ne
        rw [← zip_is, ← xi] at zc
        generalize (((is.zip rs).filter fun z => !(decide (z.2.2.1 ≤ z.1) && decide (z.1 ≤ z.2.2.2))).map fun _ => D.int 1) = Z at zc ne
        have zl : (zipD xs (rsD rs)).length ≤ 16777216 := by rw [xi, zip_is, List.length_map, List.length_zip]; omega
        unfold crI
        cases rp : rpC rs is with
        | true =>
          rw [if_pos rfl]
          refine ask_exc c (by simp) w_report ?_
          rw [rp] at ne
          have B := hd (.exc 4 (.str (q "report")) (acF rs s f (.tup xs) none none) []) (by
            simp only [acF] at zc ⊢
            simp -implicitDefEqProofs [stSnd, i_accept_course, zl, zc, ne, -List.isEmpty_iff, -List.isEmpty_eq_false_iff])
          rw [callS _ _ 195 _ _ _ _ PF16]
          simp only [acF] at B
          simp -implicitDefEqProofs [callB_, show i_accept_course.np = 4 from rfl, show i_accept_course.nl = 11 from rfl, B]
        | false =>
          rw [if_neg (by simp)]
          rw [rp] at ne
          have s4 : ex mM.sub (callF mM.sub mM.PF 195) (stFst (stSnd (stSnd (stSnd i_accept_course.body)))) (acF rs s f (.tup xs) none none) [] = .nx (acF rs s f (.tup xs) none none) [] := by
            simp only [acF] at zc ⊢
            simp -implicitDefEqProofs [stFst, stSnd, i_accept_course, zl, zc, ne, -List.isEmpty_iff, -List.isEmpty_eq_false_iff]
          have r0 := rr0 is (by omega)
          have xl : xs.length = is.length := by rw [xi]; simp
          have F := ac_loop (callF mM.sub mM.PF 195) o bs bf li
          rw [← xi] at F
          have bt : ∀ R, forF (turnF mM.sub (callF mM.sub mM.PF 195) (.nm 4) acB) ((List.range (is.length - 1)).map fun k => .int (k : Nat)) (acF rs s f (.tup xs) none none) [] = R → ex mM.sub (callF mM.sub mM.PF 195) (stSnd (stSnd (stSnd (stSnd i_accept_course.body)))) (acF rs s f (.tup xs) none none) [] = R := by
            intro R hR
            have l3' : is.length ≤ 16777216 := by omega
            simp only [acF, acB, stFor, stSnd, i_accept_course] at hR ⊢
            generalize ((List.range (is.length - 1)).map fun k => D.int (k : Nat)) = RL at r0 hR
            simp -implicitDefEqProofs [xl, r0, l3', hR]
          cases sp : spC rs s f is with
          | true =>
            rw [sp, if_pos rfl] at F
            obtain ⟨S', F⟩ := F
            rw [if_pos rfl]
            refine ask_exc c (by simp) w_pspeed ?_
            have B := hd _ (step s4 (bt _ F))
            rw [callS _ _ 195 _ _ _ _ PF16]
            simp only [acF] at B
            simp -implicitDefEqProofs [callB_, show i_accept_course.np = 4 from rfl, show i_accept_course.nl = 11 from rfl, B]
          | false =>
            rw [sp, if_neg (by simp)] at F
            obtain ⟨S', ⟨v4, v5, rfl⟩, F⟩ := F
            rw [if_neg (by simp)]
            refine ok_none (g := []) c (by simp) ?_
            have B := hd _ (step s4 (bt _ F))
            rw [callS _ _ 195 _ _ _ _ PF16]
            simp only [acF] at B
            simp -implicitDefEqProofs [callB_, show i_accept_course.np = 4 from rfl, show i_accept_course.nl = 11 from rfl, B]
    · have l2 : ((xs.length : Int) == (rs.length : Int)) = false := by simp; omega
      have e : crW rs s f (.tup xs) = .str (q "paper form") := by
        rw [crW_t, decide_eq_false ln]; simp
      rw [e]
      refine ask_exc c (by simp) w_form ?_
      rw [callS _ _ 195 _ _ _ _ PF16]
      simp -implicitDefEqProofs [callB_, i_accept_course, c1, c2, rs_len, l2]
  | _ => simp [pln] at pd
end Pl

set_option Elab.async false
set_option linter.all false
set_option maxRecDepth 100000
set_option maxHeartbeats 4000000
namespace Pl
open PySem Ci
def cdF (rs : List Rw) (s f : Int) (d : D) (v4 v5 : Option D) : Sl := [some (.tup (rsD rs)), some (.int s), some (.int f), some d, v4, v5, none]
def cdB : St := stFor (stFst (stSnd (stSnd i__law_course_due.body)))
theorem cd_loop (call : Nat → List D → Hs → R D) {rs : List Rw} (o : okR rs) {s f : Int} (bs : bd s) (bf : bd f) {is : List Int} (l : is.length = rs.length) : if spC rs s f is then (forF (turnF mM.sub call (.nm 4) cdB) ((List.range (is.length - 1)).map fun k => .int (1 + (k : Nat))) (cdF rs s f (.tup (is.map .int)) none none) [] = .rt (.str (q "paper speed")) []) else ∃ S', (∃ v4 v5, S' = cdF rs s f (.tup (is.map .int)) v4 v5) ∧ forF (turnF mM.sub call (.nm 4) cdB) ((List.range (is.length - 1)).map fun k => .int (1 + (k : Nat))) (cdF rs s f (.tup (is.map .int)) none none) [] = .nx S' [] := by
  refine for_bad (fun r => r = .rt (.str (q "paper speed")) []) (fun r hr => by
    subst hr
    exact .inl ⟨_, _, rfl⟩) (fun S => ∃ v4 v5, S = cdF rs s f (.tup (is.map .int)) v4 v5) _ (fun k => .int (1 + (k : Nat))) (fun k => !(decide (s * ((rs.getD (k + 1) (0, 0, 0)).1 - (rs.getD k (0, 0, 0)).1) ≤ is.getD (k + 1) 0 - is.getD k 0) && decide (is.getD (k + 1) 0 - is.getD k 0 ≤ f * ((rs.getD (k + 1) (0, 0, 0)).1 - (rs.getD k (0, 0, 0)).1)))) [] _ _ (fun k hk S hS => ?_) ⟨none, none, rfl⟩
  obtain ⟨v4, v5, rfl⟩ := hS
  have hk := List.mem_range.1 hk
  have a1 := at_rs (rs := rs) (k := k) (by omega)
  have a2 := at_rs (rs := rs) (k := k + 1) (by omega)
  have o1 := o.2.2.1 _ (List.getElem_mem (show k < rs.length by omega))
  have o2 := o.2.2.1 _ (List.getElem_mem (show k + 1 < rs.length by omega))
  have i1 := at_is (is := is) (k := k) (by omega)
  have i2 := at_is (is := is) (k := k + 1) (by omega)
  rw [getD_rs (show k < rs.length by omega), getD_rs (show k + 1 < rs.length by omega)]
  generalize (rs[k]'(by omega)) = r1 at a1 o1
  generalize (rs[k + 1]'(by omega)) = r2 at a2 o2
  generalize is.getD k 0 = x1 at i1
  generalize is.getD (k + 1) 0 = x2 at i2
  have m1 := mulB (bd_abs bs) (row_abs o2 o1)
  have m2 := mulB (bd_abs bf) (row_abs o2 o1)
  have j1 : (1 : Int) + (k : Nat) = ((k + 1 : Nat) : Int) := by omega
  have j2 : ((k + 1 : Nat) : Int) - 1 = (k : Nat) := by omega
  show if _ then turnF mM.sub call (.nm 4) cdB (.int (1 + (k : Nat))) _ _ = _ else ∃ S', _ ∧ turnF mM.sub call (.nm 4) cdB (.int (1 + (k : Nat))) _ _ = _
  rw [j1]
  generalize ((k + 1 : Nat) : Int) = jj at a2 i2 j2 ⊢
  have tn : turnF mM.sub call (.nm 4) cdB (.int jj) (cdF rs s f (.tup (is.map .int)) v4 v5) [] = ex mM.sub call cdB (cdF rs s f (.tup (is.map .int)) (some (.int jj)) v5) [] := by
    rw [turn_nm (by simp [cdF])]; rfl
  rw [tn]
  generalize is.map D.int = XS at i1 i2 ⊢
  by_cases q1 : s * (r2.1 - r1.1) ≤ x2 - x1
  · by_cases q2 : x2 - x1 ≤ f * (r2.1 - r1.1)
    · rw [if_neg (by simp [q1, q2])]
      refine ⟨_, ⟨some (.int jj), some (.int (r2.1 - r1.1)), rfl⟩, ?_⟩
      simp -implicitDefEqProofs [cdF, cdB, stFor, stFst, stSnd, i__law_course_due, a1, a2, i1, i2, j2, rD, t0, m1, m2, q1, q2]
    · rw [if_pos (by simp [q1, q2])]
      simp -implicitDefEqProofs [cdF, cdB, stFor, stFst, stSnd, i__law_course_due, a1, a2, i1, i2, j2, rD, t0, m1, m2, q1, q2]
  · rw [if_pos (by simp [q1])]
    simp -implicitDefEqProofs [cdF, cdB, stFor, stFst, stSnd, i__law_course_due, a1, a2, i1, i2, j2, rD, t0, m1, m2, q1]
theorem crW_pure (rs : List Rw) (s f : Int) (d : D) : (crW rs s f d).pure = true := by
  unfold crW
  split
  · split
    · unfold crI; split
      · rfl
      · split <;> rfl
    · rfl
  · rfl
theorem course_due {rs : List Rw} (o : okR rs) {s f : Int} (bs : bd s) (bf : bd f) {d : D} (pd : pln 100 d = true) (h : Hs) : pcallF (callF mM.sub mM.PF 198) 32 [.tup (rsD rs), .int s, .int f, d] h = .ok (crW rs s f d) h := by
  refine pcP (g := []) (by simp [D.clears, D.clear, rs_clear, pln_clear pd]) ?_ (crW_pure _ _ _ _)
  have l60 := o.2.1
  rw [callS _ _ 197 _ _ _ _ PF32]
  cases d with
  | non => simp -implicitDefEqProofs [callB_, i__law_course_due, crW]
  | bl b => simp -implicitDefEqProofs [callB_, i__law_course_due, crW]
  | int b => simp -implicitDefEqProofs [callB_, i__law_course_due, crW]
  | str b => simp -implicitDefEqProofs [callB_, i__law_course_due, crW]
  | tup xs =>
    obtain ⟨lx, px⟩ := pln_tup.1 pd
    by_cases ln : xs.length = rs.length
    · have l2 : ((xs.length : Int) == (rs.length : Int)) = true := by simp [ln]
      have l3 : xs.length ≤ 16777216 := by omega
      have cm := comp_pickD (fun x => !isW x) (turnC mM.sub (callF mM.sub mM.PF 197) (.var 6) [6] (.nm 6) (.not_ (.pcall 31 (.cons (.var 6) .nil))) (cdF rs s f (.tup xs) none none)) [] xs (fun x hx => by
        have a : pcallF (callF mM.sub mM.PF 197) 31 [x] [] = .ok (.bl (isW x)) [] := any_ok 195 [] x (px x hx) (by omega)
        cases e : isW x with
        | true => rw [e] at a; simp -implicitDefEqProofs [turnC_, cdF, a]
        | false => rw [e] at a; simp -implicitDefEqProofs [turnC_, cdF, a])
      have ne := filter_anyD (fun x => !isW x) xs
      rw [not_all isW xs] at ne
      generalize (xs.filter fun x => !isW x) = Z at cm ne
      cases a : xs.all isW with
      | false =>
        have e : crW rs s f (.tup xs) = .str (q "paper form") := by
          rw [crW_t, a]; simp
        rw [e]
        rw [a] at ne
        simp only [cdF] at cm
        simp -implicitDefEqProofs [callB_, i__law_course_due, rs_len, l2, l3, cm, ne, -List.isEmpty_iff, -List.isEmpty_eq_false_iff]
      | true =>
        have e : crW rs s f (.tup xs) = crI rs s f (intsD xs) := by
          rw [crW_t, a, ln]; simp
        rw [e]
        rw [a] at ne
        have xi := allW_is a
        obtain ⟨is, his⟩ : ∃ is, intsD xs = is := ⟨_, rfl⟩
        rw [his] at xi ⊢
        have li : is.length = rs.length := by rw [← ln, xi]; simp
        have xl : xs.length = is.length := by rw [xi]; simp
        have s1 : ex mM.sub (callF mM.sub mM.PF 197) (stFst i__law_course_due.body) (cdF rs s f (.tup xs) none none) [] = .nx (cdF rs s f (.tup xs) none none) [] := by
          simp only [cdF] at cm ⊢
          simp -implicitDefEqProofs [stFst, i__law_course_due, rs_len, l2, l3, cm, ne, -List.isEmpty_iff, -List.isEmpty_eq_false_iff]
        have zc := comp_pick (fun k : Nat => D.int (k : Nat)) (fun k => !(decide ((rs.getD k (0, 0, 0)).2.1 ≤ is.getD k 0) && decide (is.getD k 0 ≤ (rs.getD k (0, 0, 0)).2.2))) (fun k : Nat => D.int (k : Nat)) (turnC mM.sub (callF mM.sub mM.PF 197) (.var 4) [4] (.nm 4) (.not_ (.cmp2 .LtE .LtE (.ix (.ix (.var 0) (.var 4)) (.lit (.int (1)))) (.ix (.var 3) (.var 4)) (.ix (.ix (.var 0) (.var 4)) (.lit (.int (2)))))) (cdF rs s f (.tup xs) none none)) [] (List.range is.length) (by
          intro k hk
          have hk := List.mem_range.1 hk
          have a1 := at_rs (rs := rs) (k := k) (by omega)
          have i1 := at_is (is := is) (k := k) (by omega)
          rw [← xi] at i1
          rw [getD_rs (show k < rs.length by omega)]
          generalize (rs[k]'(by omega)) = r1 at a1
          generalize is.getD k 0 = x1 at i1
          by_cases q1 : r1.2.1 ≤ x1
          · by_cases q2 : x1 ≤ r1.2.2
            · simp -implicitDefEqProofs [turnC_, cdF, a1, i1, rD, t1, t2, q1, q2]
            · simp -implicitDefEqProofs [turnC_, cdF, a1, i1, rD, t1, t2, q1, q2]
          · simp -implicitDefEqProofs [turnC_, cdF, a1, i1, rD, t1, t2, q1])
        have ne2 := filter_any (fun k : Nat => D.int (k : Nat)) (fun k => !(decide ((rs.getD k (0, 0, 0)).2.1 ≤ is.getD k 0) && decide (is.getD k 0 ≤ (rs.getD k (0, 0, 0)).2.2))) (List.range is.length)
        rw [show (List.range is.length).any (fun k => !(decide ((rs.getD k (0, 0, 0)).2.1 ≤ is.getD k 0) && decide (is.getD k 0 ≤ (rs.getD k (0, 0, 0)).2.2))) = rpC rs is from rfl] at ne2
        generalize ((List.range is.length).filter fun k => !(decide ((rs.getD k (0, 0, 0)).2.1 ≤ is.getD k 0) && decide (is.getD k 0 ≤ (rs.getD k (0, 0, 0)).2.2))).map (fun k : Nat => D.int (k : Nat)) = Z2 at zc ne2
        have rn := rng_n is.length (by omega)
        have lr : ((List.range is.length).map fun k => D.int (k : Nat)).length ≤ 16777216 := by simp; omega
        have l3' : is.length ≤ 16777216 := by omega
        have fin : ∀ v, ex mM.sub (callF mM.sub mM.PF 197) (stSnd i__law_course_due.body) (cdF rs s f (.tup xs) none none) [] = .rt v [] → callB mM.sub (callF mM.sub mM.PF 197) i__law_course_due [.tup (rsD rs), .int s, .int f, .tup xs] [] = .ok v [] := by
          intro v hv
          have B : ex mM.sub (callF mM.sub mM.PF 197) i__law_course_due.body (cdF rs s f (.tup xs) none none) [] = .rt v [] := step s1 hv
          simp only [cdF] at B
          simp -implicitDefEqProofs [callB_, show i__law_course_due.np = 4 from rfl, show i__law_course_due.nl = 7 from rfl, B]
        refine fin _ ?_
        unfold crI
        cases rp : rpC rs is with
        | true =>
          rw [if_pos rfl]
          rw [rp] at ne2
          simp only [cdF] at zc ⊢
          generalize ((List.range is.length).map fun k => D.int (k : Nat)) = RL at rn zc lr
          simp -implicitDefEqProofs [stSnd, i__law_course_due, xl, l3', rn, lr, zc, ne2, -List.isEmpty_iff, -List.isEmpty_eq_false_iff]
        | false =>
          rw [if_neg (by simp)]
          rw [rp] at ne2
          have s2 : ex mM.sub (callF mM.sub mM.PF 197) (stFst (stSnd i__law_course_due.body)) (cdF rs s f (.tup xs) none none) [] = .nx (cdF rs s f (.tup xs) none none) [] := by
            simp only [cdF] at zc ⊢
            generalize ((List.range is.length).map fun k => D.int (k : Nat)) = RL at rn zc lr
            simp -implicitDefEqProofs [stFst, stSnd, i__law_course_due, xl, l3', rn, lr, zc, ne2, -List.isEmpty_iff, -List.isEmpty_eq_false_iff]
          refine step s2 ?_
          have r1 := rr1 is (by omega)
          have F := cd_loop (callF mM.sub mM.PF 197) o bs bf li
          rw [← xi] at F
          cases sp : spC rs s f is with
          | true =>
            rw [sp, if_pos rfl] at F
            rw [if_pos rfl]
            simp only [cdF, cdB, stFor, stFst, stSnd, i__law_course_due] at F ⊢
            generalize ((List.range (is.length - 1)).map fun k => D.int (1 + (k : Nat))) = RL at r1 F
            simp -implicitDefEqProofs [xl, l3', r1, F]
          | false =>
            rw [sp, if_neg (by simp)] at F
            obtain ⟨S', ⟨v4, v5, rfl⟩, F⟩ := F
            rw [if_neg (by simp)]
            simp only [cdF, cdB, stFor, stFst, stSnd, i__law_course_due] at F ⊢
            generalize ((List.range (is.length - 1)).map fun k => D.int (1 + (k : Nat))) = RL at r1 F
            simp -implicitDefEqProofs [xl, l3', r1, F]
    · have l2 : ((xs.length : Int) == (rs.length : Int)) = false := by simp; omega
      have e : crW rs s f (.tup xs) = .str (q "paper form") := by
        rw [crW_t, decide_eq_false ln]; simp
      rw [e]
      simp -implicitDefEqProofs [callB_, i__law_course_due, rs_len, l2]
  | _ => simp [pln] at pd
end Pl

set_option Elab.async false
set_option linter.all false
set_option maxRecDepth 100000
set_option maxHeartbeats 4000000
namespace Pl
open PySem Ci
def agI (rs : List Rw) (s f : Int) (i j : Nat) : D := if decide ((rs.getD i (0, 0, 0)).2.1 + s * ((rs.getD j (0, 0, 0)).1 - (rs.getD i (0, 0, 0)).1) ≤ (rs.getD j (0, 0, 0)).2.2) && decide ((rs.getD j (0, 0, 0)).2.1 ≤ (rs.getD i (0, 0, 0)).2.2 + f * ((rs.getD j (0, 0, 0)).1 - (rs.getD i (0, 0, 0)).1)) then .str (q "paper suits") else .lst [.non]
def inB (n : Nat) : D → Bool
  | .int i => decide (0 ≤ i) && decide (i < (n : Int))
  | _ => false
def agB (n : Nat) : D → D → Bool
  | .int i, .int j => decide (0 ≤ i) && (decide (i < j) && decide (j < (n : Int)))
  | _, _ => false
def toN : D → Nat
  | .int i => i.toNat
  | _ => 0
def agW (rs : List Rw) (s f : Int) (a b : D) : D := if agB rs.length a b then agI rs s f (toN a) (toN b) else .str (q "paper form")
theorem agI_pure (rs : List Rw) (s f : Int) (i j : Nat) : (agI rs s f i j).pure = true := by unfold agI; split <;> rfl
theorem agW_pure (rs : List Rw) (s f : Int) (a b : D) : (agW rs s f a b).pure = true := by
  unfold agW; split
  · exact agI_pure _ _ _ _ _
  · rfl
theorem agB_f1 {n : Nat} {a b : D} (h : inB n a = false) : agB n a b = false := by
  cases a with
  | int i =>
    cases b with
    | int j =>
      simp only [agB, inB, Bool.and_eq_false_iff, decide_eq_false_iff_not] at h ⊢
      omega
    | _ => rfl
  | _ => rfl
theorem agB_f2 {n : Nat} {a b : D} (h : inB n b = false) : agB n a b = false := by
  cases a with
  | int i =>
    cases b with
    | int j =>
      simp only [agB, inB, Bool.and_eq_false_iff, decide_eq_false_iff_not] at h ⊢
      omega
    | _ => rfl
  | _ => rfl
theorem inB_int {n : Nat} {a : D} (h : inB n a = true) : ∃ i : Nat, a = .int (i : Nat) ∧ i < n := by
  cases a with
  | int i =>
    simp only [inB, Bool.and_eq_true, decide_eq_true_eq] at h
    exact ⟨i.toNat, by rw [Int.toNat_of_nonneg h.1], by omega⟩
  | _ => simp [inB] at h
theorem inB_false_of {n : Nat} {a : D} (h : isW a = false) : inB n a = false := by
  cases a <;> first | rfl | (simp [isW] at h)
theorem against_ask {rs : List Rw} (o : okR rs) {s f : Int} (bs : bd s) (bf : bd f) (l : s ≤ f) {a b : D} (pa : pln 100 a = true) (pb : pln 100 b = true) : Asks 17 [.tup (rsD rs), .int s, .int f, a, b] (agW rs s f a b) := by
  have c : ∀ x ∈ [D.tup (rsD rs), .int s, .int f, a, b], pln 100 x = true := by
    simp only [List.mem_cons, List.not_mem_nil, or_false]; rintro x (rfl | rfl | rfl | rfl | rfl)
    · exact rs_pln o
    · exact bd_pln bs
    · exact bd_pln bf
    · exact pa
    · exact pb
  have c1 : pcallF (callF mM.sub mM.PF 195) 12 [.tup (rsD rs)] [] = .ok .non [] := reports_ok 192 o []
  have c2 : pcallF (callF mM.sub mM.PF 195) 13 [.int s, .int f] [] = .ok .non [] := speeds_ok 192 bs bf l []
  have l60 := o.2.1
  have l3 : rs.length ≤ 16777216 := by omega
  have cm := comp_map (fun x => .bl (inB rs.length x)) (turnC mM.sub (callF mM.sub mM.PF 195) (.and_ (.pcall 0 (.cons (.var 8) .nil)) (.cmp2 .LtE .Lt (.lit (.int (0))) (.var 8) (.blt .len (.cons (.var 0) .nil)))) [8] (.nm 8) .omit [some (.tup (rsD rs)), some (.int s), some (.int f), some a, some b, none, none, none, none]) [] [a, b] (fun x hx => by
    have px : pln 100 x = true := by
      simp only [List.mem_cons, List.not_mem_nil, or_false] at hx
      rcases hx with rfl | rfl <;> assumption
    have ii := isint195 px []
    cases w : isW x with
    | false => rw [w] at ii; simp -implicitDefEqProofs [turnC_, ii, inB_false_of w]
    | true =>
      rw [w] at ii
      cases x with
      | int i =>
        by_cases q1 : 0 ≤ i
        · by_cases q2 : i < (rs.length : Int)
          · simp -implicitDefEqProofs [turnC_, ii, inB, rs_len, l3, q1, q2]
          · simp -implicitDefEqProofs [turnC_, ii, inB, rs_len, l3, q1, q2]
        · simp -implicitDefEqProofs [turnC_, ii, inB, rs_len, l3, q1]
      | _ => simp [isW] at w)
  have cm : compF _ [a, b] [] = .ok [.bl (inB rs.length a), .bl (inB rs.length b)] [] := cm
  have form : agB rs.length a b = false → (inB rs.length a && inB rs.length b) = false → Asks 17 [.tup (rsD rs), .int s, .int f, a, b] (agW rs s f a b) := by
    intro h1 h2
    have e : agW rs s f a b = .str (q "paper form") := by unfold agW; rw [h1]; rfl
    rw [e]
    refine ask_exc c (by simp) w_form ?_
    rw [callS _ _ 195 _ _ _ _ PF17]
    cases w1 : inB rs.length a with
    | false =>
      rw [w1] at cm
      simp -implicitDefEqProofs [callB_, i_accept_against, c1, c2, cm]
    | true =>
      rw [w1, Bool.true_and] at h2
      rw [w1, h2] at cm
      simp -implicitDefEqProofs [callB_, i_accept_against, c1, c2, cm]
  cases w1 : inB rs.length a with
  | false => exact form (agB_f1 w1) (by rw [w1]; rfl)
  | true =>
    cases w2 : inB rs.length b with
    | false => exact form (agB_f2 w2) (by rw [w1, w2]; rfl)
    | true =>
      rw [w1, w2] at cm
      obtain ⟨i, rfl, hi⟩ := inB_int w1
      obtain ⟨j, rfl, hj⟩ := inB_int w2
      by_cases lt : i < j
      · have lt' : ¬ (j : Int) ≤ (i : Int) := by omega
        have ag : agB rs.length (.int (i : Nat)) (.int (j : Nat)) = true := by
          simp only [agB, Bool.and_eq_true, decide_eq_true_eq]; omega
        have e : agW rs s f (.int (i : Nat)) (.int (j : Nat)) = agI rs s f i j := by
          unfold agW; rw [ag, if_pos rfl]; rfl
        rw [e]
        have a1 := at_rs hi
        have a2 := at_rs hj
        have o1 := o.2.2.1 _ (List.getElem_mem hi)
        have o2 := o.2.2.1 _ (List.getElem_mem hj)
        unfold agI
        rw [getD_rs hi, getD_rs hj]
        generalize (rs[i]'hi) = r1 at a1 o1
        generalize (rs[j]'hj) = r2 at a2 o2
        have m1 := mulB (bd_abs bs) (row_abs o2 o1)
        have m2 := mulB (bd_abs bf) (row_abs o2 o1)
        by_cases q1 : r1.2.1 + s * (r2.1 - r1.1) ≤ r2.2.2
        · by_cases q2 : r2.2.1 ≤ r1.2.2 + f * (r2.1 - r1.1)
          · rw [if_pos (by simp [q1, q2])]
            refine ask_exc c (by simp) w_suits ?_
            rw [callS _ _ 195 _ _ _ _ PF17]
            simp -implicitDefEqProofs [callB_, i_accept_against, c1, c2, cm, lt, lt', a1, a2, rD, t0, t1, t2, m1, m2, q1, q2]
          · rw [if_neg (by simp [q1, q2])]
            refine ok_none (g := []) c (by simp) ?_
            rw [callS _ _ 195 _ _ _ _ PF17]
            simp -implicitDefEqProofs [callB_, i_accept_against, c1, c2, cm, lt, lt', a1, a2, rD, t0, t1, t2, m1, m2, q1, q2]
        · rw [if_neg (by simp [q1])]
          refine ok_none (g := []) c (by simp) ?_
          rw [callS _ _ 195 _ _ _ _ PF17]
          simp -implicitDefEqProofs [callB_, i_accept_against, c1, c2, cm, lt, lt', a1, a2, rD, t0, t1, t2, m1, m2, q1]
      · have lt' : (j : Int) ≤ (i : Int) := by omega
        have ag : agB rs.length (.int (i : Nat)) (.int (j : Nat)) = false := by
          simp only [agB, Bool.and_eq_false_iff, decide_eq_false_iff_not]; omega
        have e : agW rs s f (.int (i : Nat)) (.int (j : Nat)) = .str (q "paper form") := by
          unfold agW; rw [ag]; rfl
        rw [e]
        refine ask_exc c (by simp) w_form ?_
        rw [callS _ _ 195 _ _ _ _ PF17]
        simp -implicitDefEqProofs [callB_, i_accept_against, c1, c2, cm, lt, lt']
theorem against_due {rs : List Rw} (o : okR rs) {s f : Int} (bs : bd s) (bf : bd f) {a b : D} (pa : pln 100 a = true) (pb : pln 100 b = true) (h : Hs) : pcallF (callF mM.sub mM.PF 198) 33 [.tup (rsD rs), .int s, .int f, a, b] h = .ok (agW rs s f a b) h := by
  refine pcP (g := []) (by simp [D.clears, D.clear, rs_clear, pln_clear pa, pln_clear pb]) ?_ (agW_pure _ _ _ _ _)
  have l60 := o.2.1
  have l3 : rs.length ≤ 16777216 := by omega
  rw [callS _ _ 197 _ _ _ _ PF33]
  have wa : pcallF (callF mM.sub mM.PF 197) 29 [a, .int 0, .int ((rs.length : Int) - 1)] [] = .ok (.bl (whB 0 ((rs.length : Int) - 1) a)) [] := whole_any 196 [] a _ _ pa
  cases w1 : whB 0 ((rs.length : Int) - 1) a with
  | false =>
    have e : agB rs.length a b = false := by
      refine agB_f1 ?_
      cases a with
      | int i =>
        simp only [whB, inB, Bool.and_eq_false_iff, decide_eq_false_iff_not] at w1 ⊢
        omega
      | _ => rfl
    unfold agW
    rw [e]
    rw [w1] at wa
    simp -implicitDefEqProofs [callB_, i__law_against_due, rs_len, l3, wa]
  | true =>
    rw [w1] at wa
    obtain ⟨i, rfl, hi0, hi1⟩ : ∃ i : Int, a = .int i ∧ 0 ≤ i ∧ i < rs.length := by
      cases a with
      | int i =>
        simp only [whB, Bool.and_eq_true, decide_eq_true_eq] at w1
        exact ⟨i, rfl, w1.1, by omega⟩
      | _ => simp [whB] at w1
    obtain ⟨n, rfl⟩ : ∃ n : Nat, i = (n : Nat) := ⟨i.toNat, by omega⟩
    have hn : n < rs.length := by omega
    have wb : pcallF (callF mM.sub mM.PF 197) 29 [b, .int ((n : Int) + 1), .int ((rs.length : Int) - 1)] [] = .ok (.bl (whB ((n : Int) + 1) ((rs.length : Int) - 1) b)) [] := whole_any 196 [] b _ _ pb
    cases w2 : whB ((n : Int) + 1) ((rs.length : Int) - 1) b with
    | false =>
      have e : agB rs.length (.int (n : Nat)) b = false := by
        cases b with
        | int j =>
          simp only [whB, agB, Bool.and_eq_false_iff, decide_eq_false_iff_not] at w2 ⊢
          omega
        | _ => rfl
      unfold agW
      rw [e]
      rw [w2] at wb
      simp -implicitDefEqProofs [callB_, i__law_against_due, rs_len, l3, wa, wb]
    | true =>
      rw [w2] at wb
      obtain ⟨j, rfl, hj0, hj1⟩ : ∃ j : Int, b = .int j ∧ (n : Int) + 1 ≤ j ∧ j < rs.length := by
        cases b with
        | int i =>
          simp only [whB, Bool.and_eq_true, decide_eq_true_eq] at w2
          exact ⟨i, rfl, w2.1, by omega⟩
        | _ => simp [whB] at w2
      obtain ⟨m, rfl⟩ : ∃ m : Nat, j = (m : Nat) := ⟨j.toNat, by omega⟩
      have hm : m < rs.length := by omega
      have ag : agB rs.length (.int (n : Nat)) (.int (m : Nat)) = true := by
        simp only [agB, Bool.and_eq_true, decide_eq_true_eq]; omega
      have e : agW rs s f (.int (n : Nat)) (.int (m : Nat)) = agI rs s f n m := by
        unfold agW; rw [ag, if_pos rfl]; rfl
      rw [e]
      have a1 := at_rs hn
      have a2 := at_rs hm
      have o1 := o.2.2.1 _ (List.getElem_mem hn)
      have o2 := o.2.2.1 _ (List.getElem_mem hm)
      unfold agI
      rw [getD_rs hn, getD_rs hm]
      generalize (rs[n]'hn) = r1 at a1 o1
      generalize (rs[m]'hm) = r2 at a2 o2
      have m1 := mulB (bd_abs bs) (row_abs o2 o1)
      have m2 := mulB (bd_abs bf) (row_abs o2 o1)
      by_cases q1 : r1.2.1 + s * (r2.1 - r1.1) ≤ r2.2.2
      · by_cases q2 : r2.2.1 ≤ r1.2.2 + f * (r2.1 - r1.1)
        · simp -implicitDefEqProofs [callB_, i__law_against_due, rs_len, l3, wa, wb, a1, a2, rD, t0, t1, t2, m1, m2, q1, q2]
        · simp -implicitDefEqProofs [callB_, i__law_against_due, rs_len, l3, wa, wb, a1, a2, rD, t0, t1, t2, m1, m2, q1, q2]
      · simp -implicitDefEqProofs [callB_, i__law_against_due, rs_len, l3, wa, wb, a1, a2, rD, t0, t1, t2, m1, m2, q1]
/-! the same -/
def AL : List D := [.lst [.non], .str (q "paper form"), .str (q "paper report"), .str (q "paper speed"), .str (q "paper suits")]
theorem crW_mem (rs : List Rw) (s f : Int) (d : D) : crW rs s f d ∈ AL := by
  unfold crW
  split
  · split
    · unfold crI; split
      · simp [AL]
      · split <;> simp [AL]
    · simp [AL]
  · simp [AL]
theorem agW_mem (rs : List Rw) (s f : Int) (a b : D) : agW rs s f a b ∈ AL := by
  unfold agW
  split
  · unfold agI; split <;> simp [AL]
  · simp [AL]
def sameB (d : D) : Bool := match callF mM.sub mM.PF 198 24 [d, d] [] with
  | .ok (.bl true) [] => true
  | _ => false
theorem same_ok {d : D} (m : d ∈ AL) (h : Hs) : pcallF (callF mM.sub mM.PF 198) 24 [d, d] h = .ok (.bl true) h := by
  have a : AL.all (fun d => d.clear && sameB d) = true := by decide +kernel
  have b := List.all_eq_true.1 a d m
  simp only [Bool.and_eq_true] at b
  refine pcP (g := []) (by simp [D.clears, b.1]) ?_ rfl
  have b2 := b.2
  unfold sameB at b2
  split at b2
  · assumption
  · cases b2
end Pl

set_option Elab.async false
set_option linter.all false
set_option maxRecDepth 100000
set_option maxHeartbeats 4000000
namespace Pl
open PySem Ci
theorem slTup' {xs : List D} {lo hi : Option Int} : slD (.tup xs) lo hi = some (.tup (cutL xs lo hi)) := rfl
theorem pow30 : binD .Pow (.int 10) (.int 30) = some (.int 1000000000000000000000000000000) := rfl
def lv : Nat → D → Bool
  | 0, .tup xs => xs.isEmpty
  | n + 1, .tup xs => xs.all (lv n)
  | _, .str x => (D.str x).py.canLay0
  | _, _ => true
theorem lv_mono : ∀ (n : Nat) (d : D), lv n d = true → lv (n + 1) d = true
  | 0, .tup xs, h => by
    simp only [lv, List.isEmpty_iff] at h
    subst h; rfl
  | n + 1, .tup xs, h => by
    simp only [lv, List.all_eq_true] at h ⊢
    exact fun x hx => lv_mono n x (h x hx)
  | 0, .non, _ => rfl
  | 0, .bl _, _ => rfl
  | 0, .int _, _ => rfl
  | 0, .str _, h => by simpa [lv] using h
  | 0, .lst _, _ => rfl
  | 0, .ref _, _ => rfl
  | 0, .fn _, _ => rfl
  | 0, .exc _ _, _ => rfl
  | 0, .scr _, _ => rfl
  | n + 1, .non, _ => rfl
  | n + 1, .bl _, _ => rfl
  | n + 1, .int _, _ => rfl
  | n + 1, .str _, h => by simpa [lv] using h
  | n + 1, .lst _, _ => rfl
  | n + 1, .ref _, _ => rfl
  | n + 1, .fn _, _ => rfl
  | n + 1, .exc _ _, _ => rfl
  | n + 1, .scr _, _ => rfl
theorem lv2 : ∀ (n : Nat) (d : D), lv 2 d = true → lv (n + 2) d = true
  | 0, _, h => h
  | n + 1, d, h => lv_mono (n + 2) d (lv2 n d h)
def leafL : List D := [.non, .bl true, .bl false, .int 0, .int 1, .int (-1), .str (Str.ofString ""), .str (Str.ofString "a"), .tup [], .tup [.int 0], .tup [.int 1], .tup [.non], .tup [.bl true], .tup [.int 0, .int 0], .tup [.int 0, .int 1], .tup [.tup [.int 0]], .int 1000000000000000000000000000000]
theorem leafL_pln {N : Nat} {x : D} (h : x ∈ leafL) : pln (N + 2) x = true := by
  have : leafL.all (pln 2) = true := by decide +kernel
  exact pln_mono (by omega) (List.all_eq_true.1 this x h)
theorem leafL_lv {x : D} (h : x ∈ leafL) : lv 2 x = true := by
  have : leafL.all (lv 2) = true := by decide +kernel
  exact List.all_eq_true.1 this x h
theorem leafL_both {N : Nat} {x : D} (h : x ∈ leafL) : pln (N + 2) x = true ∧ lv 2 x = true := ⟨leafL_pln h, leafL_lv h⟩
def addL : List D := [.int 1, .int (-1), .int 2, .int (-2), .int 40]
theorem addL_int {x : D} (h : x ∈ addL) : ∃ i : Int, x = .int i ∧ i.natAbs ≤ 40 := by
  simp only [addL, List.mem_cons, List.not_mem_nil, or_false] at h
  rcases h with rfl | rfl | rfl | rfl | rfl <;> exact ⟨_, rfl, by decide⟩
def leafD : D → Bool
  | .tup xs => xs.isEmpty
  | _ => true
theorem bent_leaf (m N : Nat) {r h : Hs} {d : D} (g : StR r h) (lf : leafD d = true) (p : pln N d = true) : ∃ d' h', StR r h' ∧ (pln (N + 2) d' = true ∧ lv 2 d' = true) ∧ callF mM.sub mM.PF (m + 3) 28 [.ref 0, d] h = .ok d' h' := by
  cases d with
  | int i =>
    obtain ⟨v, h1, g1, v0, v1, e1⟩ := draw_ok (m + 1) h 4 g (by omega) (by omega)
    by_cases z : 0 < v
    · obtain ⟨x, h2, g2, mx, e2⟩ := pick_ok m h1 addL g1 (by simp [addL]) (by simp [addL])
      obtain ⟨j, rfl, lj⟩ := addL_int mx
      simp only [addL] at e2
      refine ⟨.int (i + j), h2, g2, ?_, ?_⟩
      · refine ⟨?_, rfl⟩
        simp only [pln, decide_eq_true_eq] at p ⊢
        omega
      · rw [callS _ _ (m + 2) _ _ _ _ PF28]
        simp -implicitDefEqProofs [callB_, i__law_bent, e1, e2, z]
    · obtain ⟨x, h2, g2, mx, e2⟩ := pick_ok m h1 leafL g1 (by simp [leafL]) (by simp [leafL])
      refine ⟨x, h2, g2, leafL_both mx, ?_⟩
      simp only [leafL] at e2
      rw [callS _ _ (m + 2) _ _ _ _ PF28]
      simp -implicitDefEqProofs [callB_, i__law_bent, pow30, e1, e2, z]
  | tup xs =>
    simp only [leafD, List.isEmpty_iff] at lf
    subst lf
    obtain ⟨x, h2, g2, mx, e2⟩ := pick_ok m h leafL g (by simp [leafL]) (by simp [leafL])
    refine ⟨x, h2, g2, leafL_both mx, ?_⟩
    simp only [leafL] at e2
    rw [callS _ _ (m + 2) _ _ _ _ PF28]
    simp -implicitDefEqProofs [callB_, i__law_bent, pow30, e2]
  | non =>
    obtain ⟨x, h2, g2, mx, e2⟩ := pick_ok m h leafL g (by simp [leafL]) (by simp [leafL])
    refine ⟨x, h2, g2, leafL_both mx, ?_⟩
    simp only [leafL] at e2
    rw [callS _ _ (m + 2) _ _ _ _ PF28]
    simp -implicitDefEqProofs [callB_, i__law_bent, pow30, e2]
  | bl b =>
    obtain ⟨x, h2, g2, mx, e2⟩ := pick_ok m h leafL g (by simp [leafL]) (by simp [leafL])
    refine ⟨x, h2, g2, leafL_both mx, ?_⟩
    simp only [leafL] at e2
    rw [callS _ _ (m + 2) _ _ _ _ PF28]
    simp -implicitDefEqProofs [callB_, i__law_bent, pow30, e2]
  | str b =>
    obtain ⟨x, h2, g2, mx, e2⟩ := pick_ok m h leafL g (by simp [leafL]) (by simp [leafL])
    refine ⟨x, h2, g2, leafL_both mx, ?_⟩
    simp only [leafL] at e2
    rw [callS _ _ (m + 2) _ _ _ _ PF28]
    simp -implicitDefEqProofs [callB_, i__law_bent, pow30, e2]
  | _ => simp [pln] at p
theorem at_D {xs : List D} {j : Nat} (lj : j < xs.length) : atD xs (j : Int) = some xs[j] := at_nat (by omega) (by rw [Int.toNat_natCast]; exact List.getElem?_eq_getElem lj)
theorem bent_tup (m n N : Nat) (ih : ∀ (N : Nat) {r h : Hs} {d : D}, StR r h → lv n d = true → pln N d = true → N ≤ 90 → ∃ d' h', StR r h' ∧ (pln (N + 2) d' = true ∧ lv (n + 2) d' = true) ∧ callF mM.sub mM.PF (m + 3) 28 [.ref 0, d] h = .ok d' h') {r h : Hs} {xs : List D} (g : StR r h) (lf : lv (n + 1) (.tup xs) = true) (p : pln N (.tup xs) = true) (n9 : N ≤ 90) (ne : xs ≠ []) : ∃ d' h', StR r h' ∧ (pln (N + 2) d' = true ∧ lv (n + 3) d' = true) ∧ callF mM.sub mM.PF (m + 4) 28 [.ref 0, .tup xs] h = .ok d' h' := by
  obtain ⟨lx, px⟩ := pln_tup.1 p
  have l0 : 0 < xs.length := List.length_pos_iff.2 ne
  have ie : xs.isEmpty = false := by simpa using ne
  obtain ⟨w0, h0, g0, w00, w01, e0⟩ := draw_ok (m + 2) h 9 g (by omega) (by omega)
  by_cases z0 : w0 = 0
  · obtain ⟨x, h2, g2, mx, e2⟩ := pick_ok (m + 1) h0 leafL g0 (by simp [leafL]) (by simp [leafL])
    refine ⟨x, h2, g2, ⟨leafL_pln mx, lv2 (n + 1) _ (leafL_lv mx)⟩, ?_⟩
    simp only [leafL] at e2
    subst z0
    rw [callS _ _ (m + 3) _ _ _ _ PF28]
    simp -implicitDefEqProofs [callB_, i__law_bent, pow30, e0, e2, ie, -List.isEmpty_iff, -List.isEmpty_eq_false_iff]
  obtain ⟨a, h1, g1, a0, a1, e1⟩ := draw_ok (m + 2) h0 xs.length g0 (by omega) (by omega)
  obtain ⟨w, h2, g2, w0', w1, e2⟩ := draw_ok (m + 2) h1 7 g1 (by omega) (by omega)
  obtain ⟨j, hj, lj⟩ : ∃ j : Nat, a = (j : Int) ∧ j < xs.length := ⟨a.toNat, by omega, by omega⟩
  subst hj
  have aj := at_D lj
  have my : xs[j] ∈ xs := List.getElem_mem lj
  obtain ⟨y, hy⟩ : ∃ y, xs[j] = y := ⟨_, rfl⟩
  rw [hy] at aj my
  obtain ⟨A, hA⟩ : ∃ A, xs.take j = A := ⟨_, rfl⟩
  obtain ⟨B, hB⟩ : ∃ B, xs.drop (j + 1) = B := ⟨_, rfl⟩
  obtain ⟨C, hC⟩ : ∃ C, (xs.drop j).take 1 = C := ⟨_, rfl⟩
  obtain ⟨E, hE⟩ : ∃ E, xs.drop j = E := ⟨_, rfl⟩
  have lA : A.length = j := by rw [← hA, List.length_take]; omega
  have lB : B.length = xs.length - (j + 1) := by rw [← hB, List.length_drop]
  have lC : C.length = 1 := by rw [← hC, List.length_take, List.length_drop]; omega
  have lE : E.length = xs.length - j := by rw [← hE, List.length_drop]
  have mA : ∀ x ∈ A, x ∈ xs := fun x hx => (List.mem_of_mem_take (hA ▸ hx))
  have mB : ∀ x ∈ B, x ∈ xs := fun x hx => (List.mem_of_mem_drop (hB ▸ hx))
  have mC : ∀ x ∈ C, x ∈ xs := fun x hx => (List.mem_of_mem_drop (List.mem_of_mem_take (hC ▸ hx)))
  have mE : ∀ x ∈ E, x ∈ xs := fun x hx => (List.mem_of_mem_drop (hE ▸ hx))
  have cA := cut_take xs j (by omega)
  have cB := cut_drop xs (j + 1) (by omega)
  have cC := cut_one xs j (by omega)
  have cE := cut_drop xs j (by omega)
  rw [Int.natCast_add, Int.natCast_one] at cB cC
  rw [hA] at cA
  rw [hB] at cB
  rw [hC] at cC
  rw [hE] at cE
  have f1 : addD (.tup A) (.tup B) = some (.tup (A ++ B)) := addT (by omega)
  have f2 : addD (.tup A) (.tup C) = some (.tup (A ++ C)) := addT (by omega)
  have f3 : addD (.tup (A ++ C)) (.tup E) = some (.tup (A ++ C ++ E)) := addT (by rw [List.length_append]; omega)
  have lvx : ∀ x ∈ xs, lv n x = true := List.all_eq_true.1 lf
  have pN : ∀ x, x ∈ xs → pln (N + 2) x = true ∧ lv (n + 2) x = true := fun x hx => ⟨pln_mono (by omega) (px x hx), lv_mono _ _ (lv_mono _ _ (lvx x hx))⟩
  have out : ∀ L : List D, L.length ≤ N + 2 → (∀ x ∈ L, pln (N + 2) x = true ∧ lv (n + 2) x = true) → pln (N + 2) (.tup L) = true ∧ lv (n + 3) (.tup L) = true := fun L h1 h2 => ⟨pln_tup.2 ⟨h1, fun x hx => (h2 x hx).1⟩, List.all_eq_true.2 fun x hx => (h2 x hx).2⟩
  have z0' : (w0 == 0) = false := by simp [z0]
  have s0 : ex mM.sub (callF mM.sub mM.PF (m + 3)) (stFst i__law_bent.body) [some (.ref 0), some (.tup xs), none, none] h = .nx [some (.ref 0), some (.tup xs), none, none] h := by
    simp -implicitDefEqProofs [stFst, i__law_bent]
  have s0' : ex mM.sub (callF mM.sub mM.PF (m + 3)) (stFst (stSnd i__law_bent.body)) [some (.ref 0), some (.tup xs), none, none] h = .nx [some (.ref 0), some (.tup xs), none, none] h0 := by
    simp -implicitDefEqProofs [stFst, stSnd, i__law_bent, ie, e0, z0', -List.isEmpty_iff, -List.isEmpty_eq_false_iff]
  have s1 : ex mM.sub (callF mM.sub mM.PF (m + 3)) (stFst (stSnd (stSnd i__law_bent.body))) [some (.ref 0), some (.tup xs), none, none] h0 = .nx [some (.ref 0), some (.tup xs), some (.int (j : Int)), some (.int w)] h2 := by
    have l3 : xs.length ≤ 16777216 := by omega
    simp -implicitDefEqProofs [stFst, stSnd, i__law_bent, l3, e1, e2]
  have fin : ∀ d' h', ex mM.sub (callF mM.sub mM.PF (m + 3)) (stSnd (stSnd (stSnd i__law_bent.body))) [some (.ref 0), some (.tup xs), some (.int (j : Int)), some (.int w)] h2 = .rt d' h' → callF mM.sub mM.PF (m + 4) 28 [.ref 0, .tup xs] h = .ok d' h' := by
    intro d' h' e
    have Z : ex mM.sub (callF mM.sub mM.PF (m + 3)) i__law_bent.body [some (.ref 0), some (.tup xs), none, none] h = .rt d' h' := step s0 (step s0' (step s1 e))
    rw [callS _ _ (m + 3) _ _ _ _ PF28]
    simp [callB_, show i__law_bent.np = 2 from rfl, show i__law_bent.nl = 4 from rfl, Z]
  by_cases z : w < 2
  · obtain ⟨W1, hW1⟩ : ∃ W, A ++ B = W := ⟨_, rfl⟩
    obtain ⟨V2, hv2⟩ : ∃ W, A ++ C = W := ⟨_, rfl⟩
    obtain ⟨W2, hW2⟩ : ∃ W, V2 ++ E = W := ⟨_, rfl⟩
    rw [hW1] at f1
    rw [hv2] at f2 f3
    rw [hW2] at f3
    have k : w = 0 ∨ w = 1 := by omega
    rcases k with rfl | rfl
    · refine ⟨.tup W1, h2, g2, ?_, fin _ _ ?_⟩
      · rw [← hW1]
        refine out _ (by simp; omega) (fun x hx => ?_)
        rcases List.mem_append.1 hx with hx | hx
        · exact pN x (mA x hx)
        · exact pN x (mB x hx)
      · simp -implicitDefEqProofs [stSnd, i__law_bent, slTup', Ci.E.isOmit, cA, cB, cC, cE, f1, f2, f3]
    · refine ⟨.tup W2, h2, g2, ?_, fin _ _ ?_⟩
      · rw [← hW2, ← hv2]
        refine out _ (by simp; omega) (fun x hx => ?_)
        rcases List.mem_append.1 hx with hx | hx
        · rcases List.mem_append.1 hx with hx | hx
          · exact pN x (mA x hx)
          · exact pN x (mC x hx)
        · exact pN x (mE x hx)
      · simp -implicitDefEqProofs [stSnd, i__law_bent, slTup', Ci.E.isOmit, cA, cB, cC, cE, f1, f2, f3]
  · by_cases z2 : w = 2 ∧ 0 < j
    · obtain ⟨rfl, j0⟩ := z2
      obtain ⟨i, rfl⟩ : ∃ i, j = i + 1 := ⟨j - 1, by omega⟩
      have ai := at_D (show i < xs.length by omega)
      have mi : xs[i]'(by omega) ∈ xs := List.getElem_mem _
      generalize (xs[i]'(by omega)) = yi at ai mi
      obtain ⟨A2, hA2⟩ : ∃ A, xs.take i = A := ⟨_, rfl⟩
      have lA2 : A2.length = i := by rw [← hA2, List.length_take]; omega
      have mA2 : ∀ x ∈ A2, x ∈ xs := fun x hx => (List.mem_of_mem_take (hA2 ▸ hx))
      have cA2 := cut_take xs i (by omega)
      rw [hA2] at cA2
      have j1 : ((i + 1 : Nat) : Int) - 1 = (i : Nat) := by omega
      have j2 : (0 : Int) < ((i + 1 : Nat) : Int) := by omega
      have f5 : addD (.tup A2) (.tup [y, yi]) = some (.tup (A2 ++ [y, yi])) := addT (by simp; omega)
      have f6 : addD (.tup (A2 ++ [y, yi])) (.tup B) = some (.tup (A2 ++ [y, yi] ++ B)) := addT (by simp; omega)
      refine ⟨.tup (A2 ++ [y, yi] ++ B), h2, g2, ?_, fin _ _ ?_⟩
      · refine out _ (by simp; omega) (fun x hx => ?_)
        rcases List.mem_append.1 hx with hx | hx
        · rcases List.mem_append.1 hx with hx | hx
          · exact pN x (mA2 x hx)
          · simp only [List.mem_cons, List.not_mem_nil, or_false] at hx
            rcases hx with rfl | rfl
            · exact pN _ my
            · exact pN _ mi
        · exact pN x (mB x hx)
      · generalize A2 ++ [y, yi] ++ B = W at f6 ⊢
        generalize A2 ++ [y, yi] = V at f5 f6
        generalize ((i + 1 : Nat) : Int) = jj at j1 j2 aj cB ⊢
        simp -implicitDefEqProofs [stSnd, i__law_bent, slTup', Ci.E.isOmit, j1, j2, aj, ai, cA2, cB, f5, f6]
    · obtain ⟨y', h4, g4, py, e4⟩ := ih N g2 (List.all_eq_true.1 lf y my) (px y my) n9
      have f5 : addD (.tup A) (.tup [y']) = some (.tup (A ++ [y'])) := addT (by simp; omega)
      have f6 : addD (.tup (A ++ [y'])) (.tup B) = some (.tup (A ++ [y'] ++ B)) := addT (by simp; omega)
      refine ⟨.tup (A ++ [y'] ++ B), h4, g4, ?_, fin _ _ ?_⟩
      · refine out _ (by simp; omega) (fun x hx => ?_)
        rcases List.mem_append.1 hx with hx | hx
        · rcases List.mem_append.1 hx with hx | hx
          · exact pN x (mA x hx)
          · rw [List.mem_singleton.1 hx]; exact py
        · exact pN x (mB x hx)
      · generalize A ++ [y'] ++ B = W at f6 ⊢
        generalize A ++ [y'] = V at f5 f6
        by_cases w2 : w = 2
        · subst w2
          have j0 : j = 0 := by omega
          subst j0
          simp only [Int.natCast_zero, Int.zero_add] at aj cA cB e4 ⊢
          simp -implicitDefEqProofs [stSnd, i__law_bent, slTup', Ci.E.isOmit, aj, e4, cA, cB, f5, f6]
        · have w2' : (w == 2) = false := by simp [w2]
          simp -implicitDefEqProofs [stSnd, i__law_bent, slTup', Ci.E.isOmit, z, w2', aj, e4, cA, cB, f5, f6]
theorem bent_ok : ∀ (n m N : Nat) {r h : Hs} {d : D}, StR r h → lv n d = true → pln N d = true → N ≤ 90 → ∃ d' h', StR r h' ∧ (pln (N + 2) d' = true ∧ lv (n + 2) d' = true) ∧ callF mM.sub mM.PF (m + n + 3) 28 [.ref 0, d] h = .ok d' h'
  | 0, m, N, r, h, d, g, l, p, n9 => bent_leaf m N g (by
      cases d <;> first | rfl | (simpa [lv, leafD] using l)) p
  | n + 1, m, N, r, h, d, g, l, p, n9 => by
    by_cases lf : leafD d = true
    · obtain ⟨d', h', a, b, c⟩ := bent_leaf (m + (n + 1)) N g lf p
      exact ⟨d', h', a, ⟨b.1, lv2 (n + 1) _ b.2⟩, c⟩
    · cases d with
      | tup xs =>
        have ne : xs ≠ [] := fun e => by subst e; exact lf rfl
        exact bent_tup (m + n) n N (fun N r h d g l p n9 => bent_ok n m N g l p n9) g l p n9 ne
      | _ => exact absurd rfl lf
end Pl

set_option Elab.async false
set_option linter.all false
set_option maxRecDepth 100000
set_option maxHeartbeats 4000000
namespace Pl
open PySem Ci
section
variable {a x y z : O} {r : Hs}
theorem getA : (a :: (r ++ [x, y]))[r.length + 1]? = some x := by simp
theorem getB : (a :: (r ++ [x, y]))[r.length + 1 + 1]? = some y := by simp
theorem setA : (a :: (r ++ [x, y])).set (r.length + 1) z = a :: (r ++ [z, y]) := by simp [List.set_append_right]
theorem setB : (a :: (r ++ [x, y])).set (r.length + 1 + 1) z = a :: (r ++ [x, z]) := by
  simp [List.set_append_right]
end
theorem nr_snoc {hs : List Int} {x : Int} (h : nr hs = false) (a : ∀ y ∈ hs, y < x) : nr (hs ++ [x]) = false := by
  unfold nr
  rw [List.any_eq_false]
  intro k hk
  have hk := List.mem_range.1 hk
  simp only [List.length_append, List.length_singleton] at hk
  simp only [decide_eq_true_eq]
  by_cases l : k + 1 < hs.length
  · have := rising h (show k < k + 1 by omega) l
    have g1 : (hs ++ [x]).getD k 0 = hs.getD k 0 := by simp only [List.getD]; rw [List.getElem?_append_left (by omega)]
    have g2 : (hs ++ [x]).getD (k + 1) 0 = hs.getD (k + 1) 0 := by simp only [List.getD]; rw [List.getElem?_append_left (by omega)]
    omega
  · have g1 : (hs ++ [x]).getD k 0 = hs[k]'(by omega) := by simp only [List.getD]; rw [List.getElem?_append_left (by omega), List.getElem?_eq_getElem (by omega)]; rfl
    have g2 : (hs ++ [x]).getD (k + 1) 0 = x := by simp only [List.getD]; rw [List.getElem?_append_right (by omega), show k + 1 - hs.length = 0 by omega]; rfl
    have := a _ (List.getElem_mem (show k < hs.length by omega))
    omega
/-- the rows so far -/
def Inv (n : Nat) (rs : List Rw) (cs : List Int) (hour here : Int) : Prop := rs.length = n ∧ cs.length = n ∧ (∀ r ∈ rs, 0 ≤ r.1 ∧ r.1 < hour ∧ -200 ≤ r.2.1 ∧ r.2.1 ≤ r.2.2 ∧ r.2.2 ≤ 200) ∧ (∀ c ∈ cs, -200 ≤ c ∧ c ≤ 200) ∧ 0 ≤ hour ∧ hour ≤ 3 * n ∧ -(12 * (n : Int)) ≤ here ∧ here ≤ 12 * n ∧ nr (rs.map (·.1)) = false
def PFr (fa : Option D) (sl ho he : Int) (n : Nat) (v2 v3 v8 v9 v10 v11 v12 v13 v14 v15 : Option D) : Sl := [some (.ref 0), fa, v2, v3, some (.int sl), some (.int ho), some (.int he), some (.ref n), v8, v9, v10, v11, v12, v13, v14, v15, none]
def phB : St := stFor (stFst (stSnd (stSnd i__law_papers_hold.body)))
abbrev two (r : Hs) (rs : List Rw) (cs : List Int) : Hs := r ++ [.lst (rsD rs), .lst (cs.map .int)]
theorem rows_app {r h : Hs} {rs : List Rw} {cs : List Int} (g : StR (two r rs cs) h) (x : Rw) (l : rs.length ≤ 100) : ∃ h', StR (two r (rs ++ [x]) cs) h' ∧ methD .append (.ref (r.length + 1)) [.tup [.int x.1, .int x.2.1, .int x.2.2]] h = .ok .non h' := by
  obtain ⟨cl, a, b, s, rfl, k⟩ := g
  refine ⟨_, ⟨cl, a, b, s, rfl, k⟩, ?_⟩
  have l1 : (rsD rs).length < sizeLine := by unfold sizeLine; rw [rs_len]; omega
  have e : rsD (rs ++ [x]) = rsD rs ++ [.tup [.int x.1, .int x.2.1, .int x.2.2]] := by simp [rsD, rD]
  unfold two
  rw [e]
  simp only [methD, getA, l1, if_true, setA]
theorem crs_app {r h : Hs} {rs : List Rw} {cs : List Int} (g : StR (two r rs cs) h) (x : Int) (l : cs.length ≤ 100) : ∃ h', StR (two r rs (cs ++ [x])) h' ∧ methD .append (.ref (r.length + 1 + 1)) [.int x] h = .ok .non h' := by
  obtain ⟨cl, a, b, s, rfl, k⟩ := g
  refine ⟨_, ⟨cl, a, b, s, rfl, k⟩, ?_⟩
  have l1 : (cs.map D.int).length < sizeLine := by unfold sizeLine; simp; omega
  unfold two
  rw [List.map_append, List.map_cons, List.map_nil]
  simp only [methD, getB, l1, if_true, setB]
theorem rows_rd {r h : Hs} {rs : List Rw} {cs : List Int} (g : StR (two r rs cs) h) : rd h (.ref (r.length + 1)) = .lst (rsD rs) ∧ isLst h (.ref (r.length + 1)) = true := by
  obtain ⟨cl, a, b, s, rfl, k⟩ := g
  simp only [isLst, rd, two, getA]
  exact ⟨trivial, trivial⟩
theorem crs_rd {r h : Hs} {rs : List Rw} {cs : List Int} (g : StR (two r rs cs) h) : rd h (.ref (r.length + 1 + 1)) = .lst (cs.map .int) ∧ isLst h (.ref (r.length + 1 + 1)) = true := by
  obtain ⟨cl, a, b, s, rfl, k⟩ := g
  simp only [isLst, rd, two, getB]
  exact ⟨trivial, trivial⟩
theorem small_mul {x y : Int} (h1 : -100 ≤ x) (h2 : x ≤ 100) (h3 : -100 ≤ y) (h4 : y ≤ 100) : mulOk x y = true := by
  refine mulB ?_ ?_
  · exact Nat.lt_of_le_of_lt (show x.natAbs ≤ 100 by omega) (by decide)
  · exact Nat.lt_of_le_of_lt (show y.natAbs ≤ 100 by omega) (by decide)
theorem ph_turn {r h : Hs} {rs : List Rw} {cs : List Int} {j : Nat} (lj : j < 5) {fa sl ho he : Int} (s1 : -2 ≤ sl) (s2 : sl ≤ 2) (f1 : sl ≤ fa) (f2 : fa ≤ sl + 2) (iv : Inv j rs cs ho he) (g : StR (two r rs cs) h) (v2 v9 : Option D) :
    ∃ rs' cs' ho' he' h' v9', Inv (j + 1) rs' cs' ho' he' ∧ StR (two r rs' cs') h' ∧ ex mM.sub (callF mM.sub mM.PF 198) phB (PFr (some (.int fa)) sl ho he (r.length + 1) v2 none (some (.ref (r.length + 1 + 1))) v9 none none none none none none) h = .nx (PFr (some (.int fa)) sl ho' he' (r.length + 1) v2 none (some (.ref (r.length + 1 + 1))) v9' none none none none none none) h' := by
  obtain ⟨i1, i2, i3, i4, i5, i6, i7, i8, i9⟩ := iv
  obtain ⟨d1, h1, g1, d10, d11, e1⟩ := draw_ok 197 h 3 g (by omega) (by omega)
  obtain ⟨d2, h2, g2, d20, d21, e2⟩ := draw_ok 197 h1 3 g1 (by omega) (by omega)
  obtain ⟨h3, g3, e3⟩ := rows_app g2 (ho, he - d1, he + d2) (by omega)
  obtain ⟨h4, g4, e4⟩ := crs_app g3 he (by omega)
  obtain ⟨d5, h5, g5, d50, d51, e5⟩ := draw_ok 197 h4 3 g4 (by omega) (by omega)
  have l2 : isLst h (.ref (r.length + 1)) = true := (rows_rd g).2
  have l4 : isLst h3 (.ref (r.length + 1 + 1)) = true := (crs_rd g3).2
  have mb : ∀ w : Int, -2 ≤ w → w ≤ 2 → -6 ≤ w * (1 + d5) ∧ w * (1 + d5) ≤ 6 := by
    intro w h1 h2
    have : d5 = 0 ∨ d5 = 1 ∨ d5 = 2 := by omega
    rcases this with rfl | rfl | rfl <;> omega
  have b0 : 0 ≤ (fa - sl) * (1 + d5) := Int.mul_nonneg (by omega) (by omega)
  have b1 := mb (fa - sl) (by omega) (by omega)
  have b2 := mb sl s1 s2
  obtain ⟨d6, h6, g6, d60, d61, e6⟩ := draw_ok 197 h5 ((fa - sl) * (1 + d5) + 1) g5 (by omega) (by omega)
  have m1 : mulOk sl (1 + d5) = true := small_mul (by omega) (by omega) (by omega) (by omega)
  have m2 : mulOk (fa - sl) (1 + d5) = true := small_mul (by omega) (by omega) (by omega) (by omega)
  refine ⟨rs ++ [(ho, he - d1, he + d2)], cs ++ [he], ho + (1 + d5), he + sl * (1 + d5) + d6, h6, some (.int (1 + d5)), ?_, g6, ?_⟩
  · refine ⟨by simp [i1], by simp [i2], ?_, ?_, by omega, by omega, by omega, by omega, ?_⟩
    · intro x hx
      rcases List.mem_append.1 hx with hx | hx
      · obtain ⟨a, b, c, d, e⟩ := i3 x hx
        exact ⟨a, by omega, c, d, e⟩
      · rw [List.mem_singleton.1 hx]
        simp only
        omega
    · intro x hx
      rcases List.mem_append.1 hx with hx | hx
      · exact i4 x hx
      · rw [List.mem_singleton.1 hx]; omega
    · rw [List.map_append, List.map_cons, List.map_nil]
      refine nr_snoc i9 (fun y hy => ?_)
      obtain ⟨z, hz, rfl⟩ := List.mem_map.1 hy
      exact (i3 z hz).2.1
  · simp only at e3
    simp -implicitDefEqProofs [PFr, phB, stFor, stFst, stSnd, i__law_papers_hold, l2, e1, e2, e3, l4, e4, e5, m1, m2, e6]
end Pl

set_option Elab.async false
set_option linter.all false
set_option maxRecDepth 100000
set_option maxHeartbeats 4000000
namespace Pl
open PySem Ci
theorem inv_ok {n : Nat} {rs : List Rw} {cs : List Int} {ho he : Int} (iv : Inv n rs cs ho he) (n1 : 1 ≤ n) (n5 : n ≤ 5) : okR rs := by
  obtain ⟨i1, i2, i3, i4, i5, i6, i7, i8, i9⟩ := iv
  refine ⟨by omega, by omega, fun r hr => ?_, i9⟩
  obtain ⟨a, b, c, d, e⟩ := i3 r hr
  unfold okRow
  omega
def wrg (R0 : List Rw) (x : Rw) : List Rw := R0 ++ [(x.1, x.2.1 + 9, x.2.2 + 9)]
theorem wrg_ok {n : Nat} {R0 : List Rw} {x : Rw} {cs : List Int} {ho he : Int} (iv : Inv n (R0 ++ [x]) cs ho he) (n5 : n ≤ 5) : okR (wrg R0 x) := by
  obtain ⟨i1, i2, i3, i4, i5, i6, i7, i8, i9⟩ := iv
  simp only [List.length_append, List.length_singleton] at i1
  refine ⟨by simp [wrg], by simp [wrg]; omega, fun r hr => ?_, ?_⟩
  · rcases List.mem_append.1 hr with hr | hr
    · obtain ⟨a, b, c, d, e⟩ := i3 r (List.mem_append_left _ hr)
      unfold okRow
      omega
    · obtain ⟨a, b, c, d, e⟩ := i3 x (List.mem_append_right _ (List.mem_singleton.2 rfl))
      rw [List.mem_singleton.1 hr]
      unfold okRow
      simp only
      omega
  · rw [List.map_append, List.map_cons, List.map_nil] at i9
    unfold wrg
    rw [List.map_append, List.map_cons, List.map_nil]
    exact i9
theorem cut_init (xs : List D) (x : D) : cutL (xs ++ [x]) none (some (-1)) = xs := by
  unfold cutL cutI
  simp
  rw [show (-1 + ((xs.length : Int) + 1)).toNat = xs.length by omega]
  simp
theorem at_lastR (R0 : List Rw) (x : Rw) : atD (rsD (R0 ++ [x])) (-1) = some (rD x) := by
  rw [show rsD (R0 ++ [x]) = rsD R0 ++ [rD x] by simp [rsD], at_last]
theorem ph_head {r h : Hs} (g : StR r h) : ∃ (rs wr : List Rw) (is : List Int) (sl fa ho he : Int) (v2 v9 : Option D) (h' : Hs), okR rs ∧ okR wr ∧ rs.length ≤ 5 ∧ wr.length = rs.length ∧ is.length = rs.length ∧ (∀ i ∈ is, -200 ≤ i ∧ i ≤ 200) ∧ -2 ≤ sl ∧ sl ≤ fa ∧ fa ≤ 4 ∧ StR (two r rs is) h' ∧ ∀ R, ex mM.sub (callF mM.sub mM.PF 198) (stSnd (stSnd (stSnd (stSnd (stSnd i__law_papers_hold.body))))) (PFr (some (.int fa)) sl ho he (r.length + 1) v2 (some (.tup (rsD wr))) (some (.tup (is.map .int))) v9 (some (.tup (rsD rs))) none none none none none) h' = R → ex mM.sub (callF mM.sub mM.PF 198) i__law_papers_hold.body [some (.ref 0), none, none, none, none, none, none, none, none, none, none, none, none, none, none, none, none] h = R := by
  obtain ⟨d1, h1, g1, d10, d11, e1⟩ := draw_ok 197 h 5 g (by omega) (by omega)
  have hl : ∀ {r h : Hs}, StR r h → h.length = r.length + 1 := by
    rintro r h ⟨cs, a, b, s, rfl, _⟩; rfl
  have l1 := hl g1
  have g2 : StR (two r [] []) (h1 ++ [.lst []] ++ [.lst []]) := by
    obtain ⟨cs, a, b, s, rfl, x⟩ := g1
    exact ⟨cs, a, b, s, by simp [two, rsD], x⟩
  have s1 : ex mM.sub (callF mM.sub mM.PF 198) (stFst i__law_papers_hold.body) [some (.ref 0), none, none, none, none, none, none, none, none, none, none, none, none, none, none, none, none] h = .nx (PFr none (d1 - 2) 0 0 (r.length + 1) none none (some (.ref (r.length + 1 + 1))) none none none none none none none) (h1 ++ [.lst []] ++ [.lst []]) := by
    simp -implicitDefEqProofs [PFr, stFst, i__law_papers_hold, e1, l1]
  generalize h1 ++ [.lst []] ++ [.lst []] = h2 at g2 s1
  obtain ⟨d3, h3, g3, d30, d31, e3⟩ := draw_ok 197 h2 3 g2 (by omega) (by omega)
  have s2 : ex mM.sub (callF mM.sub mM.PF 198) (stFst (stSnd i__law_papers_hold.body)) (PFr none (d1 - 2) 0 0 (r.length + 1) none none (some (.ref (r.length + 1 + 1))) none none none none none none none) h2 = .nx (PFr (some (.int (d1 - 2 + d3))) (d1 - 2) 0 0 (r.length + 1) none none (some (.ref (r.length + 1 + 1))) none none none none none none none) h3 := by
    simp -implicitDefEqProofs [PFr, stFst, stSnd, i__law_papers_hold, e3]
  obtain ⟨sl, hsl⟩ : ∃ sl, d1 - 2 = sl := ⟨_, rfl⟩
  obtain ⟨fa, hfa⟩ : ∃ fa, sl + d3 = fa := ⟨_, rfl⟩
  rw [hsl, hfa] at s2
  rw [hsl] at s1
  obtain ⟨d4, h4, g4, d40, d41, e4⟩ := draw_ok 197 h3 5 g3 (by omega) (by omega)
  have rn : rangeD 0 (1 + d4) = some ((List.range (1 + d4).toNat).map fun k => .int (k : Nat)) := by
    rw [rng_b 0 _ (by omega) (by omega) (by omega) (by omega)]
    simp
  have F := for_nx (fun n S h => ∃ rs cs ho he v2 v9, Inv n rs cs ho he ∧ StR (two r rs cs) h ∧ S = PFr (some (.int fa)) sl ho he (r.length + 1) v2 none (some (.ref (r.length + 1 + 1))) v9 none none none none none none) (turnF mM.sub (callF mM.sub mM.PF 198) (.nm 2) phB) ((List.range (1 + d4).toNat).map fun k => .int (k : Nat)) 0 (PFr (some (.int fa)) sl 0 0 (r.length + 1) none none (some (.ref (r.length + 1 + 1))) none none none none none none none) h4 (by
    intro j x hx S h hT
    obtain ⟨rs, cs, ho, he, v2, v9, iv, gg, rfl⟩ := hT
    obtain ⟨hj, rfl⟩ := range_get hx
    obtain ⟨rs', cs', ho', he', h', v9', iv', gg', e⟩ := ph_turn (j := 0 + j) (sl := sl) (fa := fa) (by omega) (by omega) (by omega) (by omega) (by omega) iv gg (some (.int (j : Nat))) v9
    refine ⟨_, h', ⟨rs', cs', ho', he', some (.int (j : Nat)), v9', iv', gg', rfl⟩, ?_⟩
    rw [turn_nm (by simp [PFr])]
    exact e) ⟨[], [], 0, 0, none, none, ⟨rfl, rfl, by simp, by simp, by omega, by omega, by omega, by omega, rfl⟩, g4, rfl⟩
  obtain ⟨S', h5, ⟨rs, cs, ho, he, v2, v9, iv, g5, rfl⟩, F⟩ := F
  rw [List.length_map, List.length_range, Nat.zero_add] at iv
  have s3 : ex mM.sub (callF mM.sub mM.PF 198) (stFst (stSnd (stSnd i__law_papers_hold.body))) (PFr (some (.int fa)) sl 0 0 (r.length + 1) none none (some (.ref (r.length + 1 + 1))) none none none none none none none) h3 = .nx (PFr (some (.int fa)) sl ho he (r.length + 1) v2 none (some (.ref (r.length + 1 + 1))) v9 none none none none none none) h5 := by
    simp only [PFr, phB, stFor, stFst, stSnd, i__law_papers_hold] at F ⊢
    generalize ((List.range (1 + d4).toNat).map fun k => D.int (k : Nat)) = RL at rn F
    simp -implicitDefEqProofs [e4, rn, F]
  have lr : rs.length ≤ 16777216 := by have := iv.1; omega
  have lc : cs.length ≤ 16777216 := by have := iv.2.1; omega
  have s4 : ex mM.sub (callF mM.sub mM.PF 198) (stFst (stSnd (stSnd (stSnd i__law_papers_hold.body)))) (PFr (some (.int fa)) sl ho he (r.length + 1) v2 none (some (.ref (r.length + 1 + 1))) v9 none none none none none none) h5 = .nx (PFr (some (.int fa)) sl ho he (r.length + 1) v2 none (some (.tup (cs.map .int))) v9 (some (.tup (rsD rs))) none none none none none) h5 := by
    have a1 := (rows_rd g5).1
    have a2 := (crs_rd g5).1
    simp -implicitDefEqProofs [PFr, stFst, stSnd, i__law_papers_hold, a1, a2, rs_len, lr, lc]
  obtain ⟨R0, x, rfl⟩ : ∃ R0 x, rs = R0 ++ [x] := by
    rcases snoc rs with rfl | h
    · have := iv.1; simp at this; omega
    · exact h
  have s5 : ex mM.sub (callF mM.sub mM.PF 198) (stFst (stSnd (stSnd (stSnd (stSnd i__law_papers_hold.body))))) (PFr (some (.int fa)) sl ho he (r.length + 1) v2 none (some (.tup (cs.map .int))) v9 (some (.tup (rsD (R0 ++ [x])))) none none none none none) h5 = .nx (PFr (some (.int fa)) sl ho he (r.length + 1) v2 (some (.tup (rsD (wrg R0 x)))) (some (.tup (cs.map .int))) v9 (some (.tup (rsD (R0 ++ [x])))) none none none none none) h5 := by
    have a1 := at_lastR R0 x
    have a2 : cutL (rsD (R0 ++ [x])) none (some (-1)) = rsD R0 := by
      rw [show rsD (R0 ++ [x]) = rsD R0 ++ [rD x] by simp [rsD], cut_init]
    have a3 : addD (.tup (rsD R0)) (.tup [.tup [.int x.1, .int (x.2.1 + 9), .int (x.2.2 + 9)]]) = some (.tup (rsD (wrg R0 x))) := by
      rw [addT (by rw [rs_len]; simp at lr ⊢; have := iv.1; simp at this; omega)]
      simp [wrg, rsD, rD]
    generalize rsD (R0 ++ [x]) = W at a1 a2 ⊢
    generalize rsD (wrg R0 x) = W2 at a3 ⊢
    generalize rsD R0 = W3 at a2 a3
    simp -implicitDefEqProofs [PFr, stFst, stSnd, i__law_papers_hold, slTup, Ci.E.isOmit, a1, a2, a3, rD, t0, t1, t2]
  refine ⟨R0 ++ [x], wrg R0 x, cs, sl, fa, ho, he, v2, v9, h5, inv_ok iv (by omega) (by omega), wrg_ok iv (by omega), by have := iv.1; omega, by simp [wrg], by rw [iv.1, iv.2.1], iv.2.2.2.1, by omega, by omega, by omega, g5, fun R hR => ?_⟩
  exact step s1 (step s2 (step s3 (step s4 (step s5 hR))))
end Pl

set_option Elab.async false
set_option linter.all false
set_option maxRecDepth 100000
set_option maxHeartbeats 4000000
namespace Pl
open PySem Ci
def phL : St := stFor (stFst (stSnd (stSnd (stSnd (stSnd (stSnd i__law_papers_hold.body))))))
def F2 (rs wr : List Rw) (is : List Int) (fa sl ho he : Int) (n : Nat) (v2 v9 v11 v12 v13 v14 v15 : Option D) : Sl := PFr (some (.int fa)) sl ho he n v2 (some (.tup (rsD wr))) (some (.tup (is.map .int))) v9 (some (.tup (rsD rs))) v11 v12 v13 v14 v15
section
variable {r h : Hs} {rs wr : List Rw} {is : List Int} {fa sl ho he : Int} {v2 v9 v11 v12 v13 v14 v15 : Option D}
theorem pln_ints {xs : List Int} (l : xs.length ≤ 10) (b : ∀ i ∈ xs, -1000 ≤ i ∧ i ≤ 1000) : pln 10 (.tup (xs.map .int)) = true := by
  rw [pln_tup, List.length_map]
  refine ⟨l, fun x hx => ?_⟩
  obtain ⟨i, hi, rfl⟩ := List.mem_map.1 hx
  have := b i hi
  simp only [pln, decide_eq_true_eq]
  omega
theorem ph1 (g : StR (two r rs is) h) (l0 : 1 ≤ is.length) (l5 : is.length ≤ 5) : ∃ (j : Nat) (more : Int) (h' : Hs), j < is.length ∧ -3 ≤ more ∧ more ≤ 3 ∧ StR (two r rs is) h' ∧ ex mM.sub (callF mM.sub mM.PF 198) (stFst phL) (F2 rs wr is fa sl ho he (r.length + 1) v2 v9 v11 v12 v13 v14 v15) h = .nx (F2 rs wr is fa sl ho he (r.length + 1) v2 (some (.int more)) v11 v12 (some (.int (j : Nat))) v14 v15) h' := by
  obtain ⟨d1, h1, g1, a1, b1, e1⟩ := draw_ok 197 h (is.length : Nat) g (by omega) (by omega)
  obtain ⟨d2, h2, g2, a2, b2, e2⟩ := draw_ok 197 h1 7 g1 (by omega) (by omega)
  have l3 : is.length ≤ 16777216 := by omega
  obtain ⟨n, rfl⟩ : ∃ n : Nat, d1 = (n : Nat) := ⟨d1.toNat, by omega⟩
  refine ⟨n, d2 - 3, h2, by omega, by omega, by omega, g2, ?_⟩
  simp -implicitDefEqProofs [F2, PFr, phL, stFor, stFst, stSnd, i__law_papers_hold, l3, e1, e2]
theorem ph2 (g : StR (two r rs is) h) (l0 : 1 ≤ is.length) (l5 : is.length ≤ 5) (bi : ∀ i ∈ is, -200 ≤ i ∧ i ≤ 200) {n : Nat} (ln : n < is.length) {more : Int} (m1 : -3 ≤ more) (m2 : more ≤ 3) : ∃ d h', pln 100 d = true ∧ StR (two r rs is) h' ∧ ex mM.sub (callF mM.sub mM.PF 198) (stFst (stSnd phL)) (F2 rs wr is fa sl ho he (r.length + 1) v2 (some (.int more)) v11 v12 (some (.int (n : Nat))) v14 v15) h = .nx (F2 rs wr is fa sl ho he (r.length + 1) v2 (some (.int more)) (some d) v12 (some (.int (n : Nat))) v14 v15) h' := by
  have p10 := pln_ints (xs := is) (by omega) (fun i hi => by have := bi i hi; omega)
  obtain ⟨d6, h1, g1, ⟨p6, _⟩, e6⟩ := bent_ok 1 194 10 g (d := .tup (is.map .int)) (by
    simp only [lv, List.all_eq_true]
    intro x hx
    obtain ⟨i, hi, rfl⟩ := List.mem_map.1 hx
    rfl) p10 (by omega)
  have e6 : callF mM.sub mM.PF 198 28 [.ref 0, .tup (is.map .int)] h = .ok d6 h1 := e6
  have lx : (is.map D.int).length = is.length := by simp
  have c1 := cut_take (is.map D.int) n (by omega)
  have c2 := cut_drop (is.map D.int) (n + 1) (by omega)
  rw [Int.natCast_add, Int.natCast_one] at c2
  have ai := at_is (is := is) (k := n) ln
  obtain ⟨A, hA⟩ : ∃ A, (is.map D.int).take n = A := ⟨_, rfl⟩
  obtain ⟨B, hB⟩ : ∃ B, (is.map D.int).drop (n + 1) = B := ⟨_, rfl⟩
  obtain ⟨y, hy⟩ : ∃ y, is.getD n 0 = y := ⟨_, rfl⟩
  have lA : A.length = n := by rw [← hA, List.length_take]; omega
  have lB : B.length = is.length - (n + 1) := by rw [← hB, List.length_drop]; omega
  obtain ⟨C, hC⟩ : ∃ C, cutL (is.map D.int) none (some (-1)) = C := ⟨_, rfl⟩
  have mC : ∀ x ∈ C, x ∈ is.map D.int := fun x hx => cut_mem (hC ▸ hx)
  have lC : C.length ≤ is.length := by rw [← hC]; have := cut_len (is.map D.int) none (some (-1)); omega
  rw [hA] at c1
  rw [hB] at c2
  rw [hy] at ai
  have f1 : addD (.tup A) (.tup [.int (y + more)]) = some (.tup (A ++ [.int (y + more)])) := addT (by simp; omega)
  have f2 : addD (.tup (A ++ [.int (y + more)])) (.tup B) = some (.tup (A ++ [.int (y + more)] ++ B)) := addT (by simp; omega)
  have cm := comp_mapf D.int (fun i => D.int (i + more)) (turnC mM.sub (callF mM.sub mM.PF 198) (.bin .Add (.var 16) (.var 9)) [16] (.nm 16) .omit (F2 rs wr is fa sl ho he (r.length + 1) v2 (some (.int more)) v11 v12 (some (.int (n : Nat))) v14 v15)) h is (by
    intro i hi
    simp -implicitDefEqProofs [turnC_, F2, PFr])
  have p10' : ∀ x ∈ is.map D.int, pln 100 x = true := fun x hx => pln_mono (by omega) ((pln_tup.1 p10).2 x hx)
  have pT : ∀ L : List D, L.length ≤ 100 → (∀ x ∈ L, pln 100 x = true) → pln 100 (.tup L) = true := fun L h1 h2 => pln_tup.2 ⟨h1, h2⟩
  have by1 : pln 100 (.int (y + more)) = true := by
    have : -200 ≤ y ∧ y ≤ 200 := by
      rw [← hy]
      simp only [List.getD, List.getElem?_eq_getElem ln, Option.getD_some]
      exact bi _ (List.getElem_mem ln)
    simp only [pln, decide_eq_true_eq]
    omega
  have pP : pln 100 (.tup (is.map D.int)) = true := pT _ (by omega) p10'
  have pW : pln 100 (.tup (A ++ [.int (y + more)] ++ B)) = true := pT _ (by simp; omega) (fun x hx => by
    rcases List.mem_append.1 hx with hx | hx
    · rcases List.mem_append.1 hx with hx | hx
      · exact p10' x (List.mem_of_mem_take (hA ▸ hx))
      · rw [List.mem_singleton.1 hx]; exact by1
    · exact p10' x (List.mem_of_mem_drop (hB ▸ hx)))
  have pM : pln 100 (.tup (is.map fun i => D.int (i + more))) = true := pT _ (by simp; omega) (fun x hx => by
    obtain ⟨i, hi, rfl⟩ := List.mem_map.1 hx
    have := bi i hi
    simp only [pln, decide_eq_true_eq]
    omega)
  have pC : pln 100 (.tup C) = true := pT _ (by omega) (fun x hx => p10' x (mC x hx))
  have p6' : pln 100 d6 = true := pln_mono (by omega) p6
  have lM : (is.map fun i => D.int (i + more)).length ≤ 16777216 := by simp; omega
  generalize A ++ [.int (y + more)] ++ B = W at f2 pW
  generalize A ++ [.int (y + more)] = V at f1 f2
  generalize (is.map fun i => D.int (i + more)) = M at cm pM lM
  obtain ⟨d, h2, g2, md, e2⟩ := pick_ok 196 h1 [.tup (is.map D.int), .tup (is.map D.int), .tup W, .tup M, .tup C, d6] g1 (by simp) (by simp)
  refine ⟨d, h2, ?_, g2, ?_⟩
  · simp only [List.mem_cons, List.not_mem_nil, or_false] at md
    rcases md with rfl | rfl | rfl | rfl | rfl | rfl <;> assumption
  · have lx3 : (is.map D.int).length ≤ 16777216 := by omega
    simp only [F2, PFr] at cm ⊢
    generalize is.map D.int = XS at c1 c2 ai hC cm e6 e2 lx3 ⊢
    simp -implicitDefEqProofs [F2, PFr, phL, stFor, stFst, stSnd, i__law_papers_hold, slTup', Ci.E.isOmit, c1, c2, ai, f1, f2, lx3, cm, lM, hC, e6, e2]
theorem ph3 (g : StR (two r rs is) h) (o : okR rs) (bs : bd sl) (bf : bd fa) (l : sl ≤ fa) {d : D} (pd : pln 100 d = true) : ex mM.sub (callF mM.sub mM.PF 198) (stFst (stSnd (stSnd phL))) (F2 rs wr is fa sl ho he (r.length + 1) v2 v9 (some d) v12 v13 v14 v15) h = .nx (F2 rs wr is fa sl ho he (r.length + 1) v2 v9 (some d) v12 v13 v14 v15) h := by
  have a1 := course_ask o bs bf l pd h
  have a2 := course_due o bs bf pd h
  have a3 := same_ok (crW_mem rs sl fa d) h
  generalize crW rs sl fa d = w at a1 a2 a3
  simp -implicitDefEqProofs [F2, PFr, phL, stFor, stFst, stSnd, i__law_papers_hold, a1, a2, a3]
theorem ph4 (g : StR (two r rs is) h) : ∃ ts h', (ts = rs ∨ ts = wr) ∧ StR (two r rs is) h' ∧ ex mM.sub (callF mM.sub mM.PF 198) (stFst (stSnd (stSnd (stSnd phL)))) (F2 rs wr is fa sl ho he (r.length + 1) v2 v9 v11 v12 v13 v14 v15) h = .nx (F2 rs wr is fa sl ho he (r.length + 1) v2 v9 v11 (some (.tup (rsD ts))) v13 v14 v15) h' := by
  obtain ⟨d, h2, g2, md, e2⟩ := pick_ok 196 h [.tup (rsD rs), .tup (rsD wr), .tup (rsD wr)] g (by simp) (by simp)
  have : ∃ ts, (ts = rs ∨ ts = wr) ∧ d = .tup (rsD ts) := by
    simp only [List.mem_cons, List.not_mem_nil, or_false] at md
    rcases md with rfl | rfl | rfl
    · exact ⟨rs, .inl rfl, rfl⟩
    · exact ⟨wr, .inr rfl, rfl⟩
    · exact ⟨wr, .inr rfl, rfl⟩
  obtain ⟨ts, ht, rfl⟩ := this
  refine ⟨ts, h2, ht, g2, ?_⟩
  simp -implicitDefEqProofs [F2, PFr, phL, stFor, stFst, stSnd, i__law_papers_hold, e2]
theorem ph5 (g : StR (two r rs is) h) (l5 : rs.length ≤ 5) : ∃ a b h', pln 100 a = true ∧ pln 100 b = true ∧ StR (two r rs is) h' ∧ ex mM.sub (callF mM.sub mM.PF 198) (stFst (stSnd (stSnd (stSnd (stSnd phL))))) (F2 rs wr is fa sl ho he (r.length + 1) v2 v9 v11 v12 v13 v14 v15) h = .nx (F2 rs wr is fa sl ho he (r.length + 1) v2 v9 v11 v12 v13 (some a) (some b)) h' := by
  have r1 := (rows_rd g).1
  have l3 : rs.length ≤ 16777216 := by omega
  obtain ⟨a, h1, g1, ma, e1⟩ := pick_ok 196 h [.int 0, .int 0, .int 1, .int ((rs.length : Int) - 1), .int (-1), .non, .bl false] g (by simp) (by simp)
  obtain ⟨b, h2, g2, mb, e2⟩ := pick_ok 196 h1 [.int 1, .int ((rs.length : Int) - 1), .int ((rs.length : Int) - 1), .int (rs.length : Nat), .int 0, .non, .bl true] g1 (by simp) (by simp)
  have r2 := (rows_rd g1).1
  have pi : ∀ i : Int, -100 ≤ i → i ≤ 100 → pln 100 (.int i) = true := by
    intro i h1 h2
    simp only [pln, decide_eq_true_eq]; omega
  refine ⟨a, b, h2, ?_, ?_, g2, ?_⟩
  · simp only [List.mem_cons, List.not_mem_nil, or_false] at ma
    rcases ma with rfl | rfl | rfl | rfl | rfl | rfl | rfl <;> first | rfl | exact pi _ (by omega) (by omega)
  · simp only [List.mem_cons, List.not_mem_nil, or_false] at mb
    rcases mb with rfl | rfl | rfl | rfl | rfl | rfl | rfl <;> first | rfl | exact pi _ (by omega) (by omega)
  · simp -implicitDefEqProofs [F2, PFr, phL, stFor, stFst, stSnd, i__law_papers_hold, r1, r2, rs_len, l3, e1, e2]
theorem ph6 {ts : List Rw} (o : okR ts) (bs : bd sl) (bf : bd fa) (l : sl ≤ fa) {a b : D} (pa : pln 100 a = true) (pb : pln 100 b = true) : ex mM.sub (callF mM.sub mM.PF 198) (stSnd (stSnd (stSnd (stSnd (stSnd phL))))) (F2 rs wr is fa sl ho he (r.length + 1) v2 v9 v11 (some (.tup (rsD ts))) v13 (some a) (some b)) h = .nx (F2 rs wr is fa sl ho he (r.length + 1) v2 v9 v11 (some (.tup (rsD ts))) v13 (some a) (some b)) h := by
  have a1 := against_ask o bs bf l pa pb h
  have a2 := against_due o bs bf pa pb h
  have a3 := same_ok (agW_mem ts sl fa a b) h
  generalize agW ts sl fa a b = w at a1 a2 a3
  simp -implicitDefEqProofs [F2, PFr, phL, stFor, stFst, stSnd, i__law_papers_hold, a1, a2, a3]
end
theorem papers_ok {r h : Hs} (g : StR r h) : ∃ r' h', StR r' h' ∧ callF mM.sub mM.PF 199 34 [.ref 0] h = .ok (.bl true) h' := by
  obtain ⟨rs, wr, is, sl, fa, ho, he, v2, v9, h1, o1, o2, l5, lw, li, bi, s1, s2, s3, g1, hd⟩ := ph_head g
  have bs : bd sl := by unfold bd; omega
  have bf : bd fa := by unfold bd; omega
  have n1 := o1.1
  have rn : rangeD 0 14 = some ((List.range 14).map fun k => .int (k : Nat)) := rng_n 14 (by omega)
  obtain ⟨S', h2, ⟨w2, w9, w11, w12, w13, w14, w15, rfl, g2⟩, F⟩ := for_nx (fun _ S h => ∃ v2 v9 v11 v12 v13 v14 v15, S = F2 rs wr is fa sl ho he (r.length + 1) v2 v9 v11 v12 v13 v14 v15 ∧ StR (two r rs is) h) (turnF mM.sub (callF mM.sub mM.PF 198) (.nm 2) phL) ((List.range 14).map fun k => .int (k : Nat)) 0 (F2 rs wr is fa sl ho he (r.length + 1) v2 v9 none none none none none) h1 (by
    intro j x hx S h hT
    obtain ⟨v2, v9, v11, v12, v13, v14, v15, rfl, g⟩ := hT
    obtain ⟨jj, more, h1, hj, m1, m2, g1, e1⟩ := ph1 (wr := wr) (fa := fa) (sl := sl) (ho := ho) (he := he) (v2 := some x) (v9 := v9) (v11 := v11) (v12 := v12) (v13 := v13) (v14 := v14) (v15 := v15) g (by omega) (by omega)
    obtain ⟨d, h2, pd, g2, e2⟩ := ph2 (wr := wr) (fa := fa) (sl := sl) (ho := ho) (he := he) (v2 := some x) (v11 := v11) (v12 := v12) (v14 := v14) (v15 := v15) g1 (by omega) (by omega) bi hj m1 m2
    have e3 := ph3 (wr := wr) (ho := ho) (he := he) (v2 := some x) (v9 := some (.int more)) (v12 := v12) (v13 := some (.int (jj : Nat))) (v14 := v14) (v15 := v15) g2 o1 bs bf s2 pd
    obtain ⟨ts, h4, ht, g4, e4⟩ := ph4 (wr := wr) (fa := fa) (sl := sl) (ho := ho) (he := he) (v2 := some x) (v9 := some (.int more)) (v11 := some d) (v12 := v12) (v13 := some (.int (jj : Nat))) (v14 := v14) (v15 := v15) g2
    obtain ⟨a, b, h5, pa, pb, g5, e5⟩ := ph5 (wr := wr) (fa := fa) (sl := sl) (ho := ho) (he := he) (v2 := some x) (v9 := some (.int more)) (v11 := some d) (v12 := some (.tup (rsD ts))) (v13 := some (.int (jj : Nat))) (v14 := v14) (v15 := v15) g4 l5
    have ot : okR ts := by rcases ht with rfl | rfl <;> assumption
    have e6 := ph6 (r := r) (h := h5) (rs := rs) (wr := wr) (is := is) (ho := ho) (he := he) (v2 := some x) (v9 := some (.int more)) (v11 := some d) (v13 := some (.int (jj : Nat))) ot bs bf s2 pa pb
    refine ⟨_, h5, ⟨some x, some (.int more), some d, some (.tup (rsD ts)), some (.int (jj : Nat)), some a, some b, rfl, g5⟩, ?_⟩
    rw [turn_nm (by simp [F2, PFr])]
    have hs : ex mM.sub (callF mM.sub mM.PF 198) phL (F2 rs wr is fa sl ho he (r.length + 1) (some x) v9 v11 v12 v13 v14 v15) h = .nx (F2 rs wr is fa sl ho he (r.length + 1) (some x) (some (.int more)) (some d) (some (.tup (rsD ts))) (some (.int (jj : Nat))) (some a) (some b)) h5 := by
      have q0 : phL = .seq (stFst phL) (.seq (stFst (stSnd phL)) (.seq (stFst (stSnd (stSnd phL))) (.seq (stFst (stSnd (stSnd (stSnd phL)))) (.seq (stFst (stSnd (stSnd (stSnd (stSnd phL))))) (stSnd (stSnd (stSnd (stSnd (stSnd phL))))))))) := rfl
      rw [q0]
      exact step e1 (step e2 (step e3 (step e4 (step e5 e6))))
    exact hs) ⟨v2, v9, none, none, none, none, none, rfl, g1⟩
  have T : ex mM.sub (callF mM.sub mM.PF 198) (stSnd (stSnd (stSnd (stSnd (stSnd i__law_papers_hold.body))))) (F2 rs wr is fa sl ho he (r.length + 1) v2 v9 none none none none none) h1 = .rt (.bl true) h2 := by
    simp only [phL, stFor, stFst, stSnd, i__law_papers_hold] at F ⊢
    generalize ((List.range 14).map fun k => D.int (k : Nat)) = RL at rn F
    simp -implicitDefEqProofs [rn, F]
  have B := hd _ T
  refine ⟨_, h2, g2, ?_⟩
  rw [callS _ _ 198 _ _ _ _ PF34]
  simp -implicitDefEqProofs [callB_, show i__law_papers_hold.np = 1 from rfl, show i__law_papers_hold.nl = 17 from rfl, B]
end Pl

set_option Elab.async false
set_option linter.all false
set_option maxRecDepth 100000
set_option maxHeartbeats 4000000
namespace Pl
open PySem Ci
section
variable {H : Hs} {xs : List D} {y : D} {o : O}
theorem rdL : rd (H ++ [.lst xs]) (.ref H.length) = .lst xs := by simp [rd]
theorem isL : isLst (H ++ [.lst xs]) (.ref H.length) = true := by simp [isLst, rd]
theorem appL (l : xs.length ≤ 1000) : methD .append (.ref H.length) [y] (H ++ [.lst xs]) = .ok .non (H ++ [.lst (xs ++ [y])]) := by
  have l2 : xs.length < sizeLine := by unfold sizeLine; omega
  simp [methD, l2, List.set_append_right]
theorem StR_app {r h : Hs} (g : StR r h) : StR (r ++ [o]) (h ++ [o]) := by
  obtain ⟨cs, a, b, s, rfl, x⟩ := g
  exact ⟨cs, a, b, s, rfl, x⟩
end
def mcA : St → E
  | .asg _ (.mcat a _) => a
  | _ => .nope
def mcB : St → E
  | .asg _ (.mcat _ b) => b
  | _ => .nope
theorem exMcat {sub : Nat → Nat → Bool} {call : Nat → List D → Hs → R D} {S : Sl} {h h1 h2 : Hs} {x y : D} {xs ys : List D} (i : Nat) (s : St) (es : s = .asg (.nm i) (.mcat (mcA s) (mcB s))) (ha : ev sub call (mcA s) S h = .ok x h1) (hb : ev sub call (mcB s) S h1 = .ok y h2) (hx : rd h2 x = .lst xs) (hy : rd h2 y = .lst ys) (l : xs.length + ys.length ≤ 100000) (hi : i < S.length) : ex sub call s S h = .nx (S.set i (some (.ref h2.length))) (h2 ++ [.lst (xs ++ ys)]) := by
  rw [es]
  have e : ev sub call (.mcat (mcA s) (mcB s)) S h = .ok (.ref h2.length) (h2 ++ [.lst (xs ++ ys)]) := by
    simp only [ev, ha, hb, R.bind, hx, hy, okLt l, if_true]
  rw [exAsg, e]
  simp [kAsg, put, hi]
/-! the great course -/
def gc0 (s : Int) : List Int := (List.range 59).map fun k => s * (k : Nat)
def gr0 (s : Int) : List Rw := (List.range 59).map fun k => (((k : Nat) : Int), s * (k : Nat) - 1, s * (k : Nat) + 1)
def gC (s x : Int) : List Int := gc0 s ++ [x]
def gR (s l u : Int) : List Rw := gr0 s ++ [(59, l, u)]
theorem gc0_len (s : Int) : (gc0 s).length = 59 := by simp [gc0]
theorem gr0_len (s : Int) : (gr0 s).length = 59 := by simp [gr0]
theorem gC_len (s x : Int) : (gC s x).length = 60 := by simp [gC, gc0_len]
theorem gR_len (s l u : Int) : (gR s l u).length = 60 := by simp [gR, gr0_len]
theorem gC_at (s x : Int) {k : Nat} (h : k < 59) : (gC s x).getD k 0 = s * (k : Nat) := by
  simp only [List.getD, gC]
  rw [List.getElem?_append_left (by rw [gc0_len]; exact h)]
  simp [gc0, h]
theorem gC_last (s x : Int) : (gC s x).getD 59 0 = x := by
  simp only [List.getD, gC]
  rw [List.getElem?_append_right (by rw [gc0_len]; omega), gc0_len]; rfl
theorem gR_at (s l u : Int) {k : Nat} (h : k < 59) : (gR s l u).getD k (0, 0, 0) = (((k : Nat) : Int), s * (k : Nat) - 1, s * (k : Nat) + 1) := by
  simp only [List.getD, gR]
  rw [List.getElem?_append_left (by rw [gr0_len]; exact h)]
  simp [gr0, h]
theorem gR_last (s l u : Int) : (gR s l u).getD 59 (0, 0, 0) = (59, l, u) := by
  simp only [List.getD, gR]
  rw [List.getElem?_append_right (by rw [gr0_len]; omega), gr0_len]; rfl
def gB (s : Int) : Prop := -1000000000 ≤ s ∧ s ≤ 1000000000
theorem gB_mul {s : Int} (b : gB s) {k : Nat} (h : k ≤ 60) : -60000000000 ≤ s * (k : Nat) ∧ s * (k : Nat) ≤ 60000000000 := by
  have h1 : (s * ((k : Nat) : Int)).natAbs = s.natAbs * k := by rw [Int.natAbs_mul, Int.natAbs_natCast]
  have h2 : s.natAbs ≤ 1000000000 := by unfold gB at b; omega
  have h3 : s.natAbs * k ≤ 1000000000 * 60 := Nat.mul_le_mul h2 h
  omega
theorem gR_ok {s l u : Int} (b : gB s) (l1 : -100000000000 ≤ l) (l2 : l ≤ u) (l3 : u ≤ 100000000000) : okR (gR s l u) := by
  refine ⟨by rw [gR_len]; omega, by rw [gR_len]; omega, fun r hr => ?_, ?_⟩
  · rcases List.mem_append.1 hr with hr | hr
    · obtain ⟨k, hk, rfl⟩ := List.mem_map.1 hr
      have hk := List.mem_range.1 hk
      have := gB_mul b (k := k) (by omega)
      unfold okRow
      simp only
      omega
    · rw [List.mem_singleton.1 hr]
      unfold okRow
      simp only
      omega
  · have e : (gR s l u).map (·.1) = ((List.range 59).map fun k => ((k : Nat) : Int)) ++ [59] := by
      simp [gR, gr0]
    rw [e]
    decide +kernel
theorem gpln {s x : Int} (b : gB s) (x1 : -100000000000 ≤ x) (x2 : x ≤ 100000000000) : pln 100 (.tup ((gC s x).map .int)) = true := by
  rw [pln_tup, List.length_map, gC_len]
  refine ⟨by omega, fun d hd => ?_⟩
  obtain ⟨i, hi, rfl⟩ := List.mem_map.1 hd
  have : -100000000000 ≤ i ∧ i ≤ 100000000000 := by
    rcases List.mem_append.1 hi with hi | hi
    · obtain ⟨k, hk, rfl⟩ := List.mem_map.1 hi
      have hk := List.mem_range.1 hk
      have := gB_mul b (k := k) (by omega)
      omega
    · rw [List.mem_singleton.1 hi]; exact ⟨x1, x2⟩
  simp only [pln, decide_eq_true_eq]
  omega
theorem any_f {n : Nat} {p : Nat → Bool} (h : ∀ k, k < n → p k = false) : (List.range n).any p = false := by
  rw [List.any_eq_false]
  intro k hk
  rw [h k (List.mem_range.1 hk)]; simp
theorem any_t {n : Nat} {p : Nat → Bool} (k : Nat) (hk : k < n) (h : p k = true) : (List.range n).any p = true := List.any_eq_true.2 ⟨k, List.mem_range.2 hk, h⟩
theorem ints_all (is : List Int) : (is.map D.int).all isW = true := by
  induction is with
  | nil => rfl
  | cons i is ih => simp [isW]
theorem crW_i (rs : List Rw) (s f : Int) (is : List Int) (l : is.length = rs.length) : crW rs s f (.tup (is.map .int)) = crI rs s f is := by
  rw [crW_t, ints_all, List.length_map, l, intsD_map]; simp
theorem g_rp {s x : Int} (l u : Int) : rpC (gR s l u) (gC s x) = !(decide (l ≤ x) && decide (x ≤ u)) := by
  unfold rpC
  rw [gC_len]
  cases e : (!(decide (l ≤ x) && decide (x ≤ u))) with
  | true =>
    refine any_t 59 (by omega) ?_
    rw [gR_last, gC_last]; exact e
  | false =>
    refine any_f (fun k hk => ?_)
    by_cases k9 : k = 59
    · subst k9
      rw [gR_last, gC_last]; exact e
    · rw [gR_at _ _ _ (by omega), gC_at _ _ (by omega)]
      have h1 : s * (k : Nat) - 1 ≤ s * (k : Nat) := by omega
      have h2 : s * (k : Nat) ≤ s * (k : Nat) + 1 := by omega
      simp only [decide_eq_true h1, decide_eq_true h2, Bool.and_self, Bool.not_true]
theorem g_sp {s f x : Int} (l u : Int) (sf : s ≤ f) : spC (gR s l u) s f (gC s x) = !(decide (s ≤ x - s * 58) && decide (x - s * 58 ≤ f)) := by
  unfold spC
  rw [gC_len]
  have e58 : (!(decide (s * (((gR s l u).getD (58 + 1) (0, 0, 0)).1 - ((gR s l u).getD 58 (0, 0, 0)).1) ≤ (gC s x).getD (58 + 1) 0 - (gC s x).getD 58 0) && decide ((gC s x).getD (58 + 1) 0 - (gC s x).getD 58 0 ≤ f * (((gR s l u).getD (58 + 1) (0, 0, 0)).1 - ((gR s l u).getD 58 (0, 0, 0)).1)))) = !(decide (s ≤ x - s * 58) && decide (x - s * 58 ≤ f)) := by
    rw [show 58 + 1 = 59 from rfl, gR_last, gR_at _ _ _ (by omega), gC_last, gC_at _ _ (by omega)]
    simp only
    rw [show (59 : Int) - ((58 : Nat) : Int) = 1 by omega, Int.mul_one, Int.mul_one]
    rfl
  cases e : (!(decide (s ≤ x - s * 58) && decide (x - s * 58 ≤ f))) with
  | true =>
    refine any_t 58 (by omega) ?_
    rw [e58, e]
  | false =>
    refine any_f (fun k hk => ?_)
    by_cases k9 : k = 58
    · subst k9
      rw [e58, e]
    · rw [gR_at _ _ _ (show k + 1 < 59 by omega), gR_at _ _ _ (show k < 59 by omega), gC_at _ _ (show k + 1 < 59 by omega), gC_at _ _ (show k < 59 by omega)]
      simp only
      have e1 : (((k + 1 : Nat) : Int) - ((k : Nat) : Int)) = 1 := by omega
      have e2 : s * ((k + 1 : Nat) : Int) - s * (k : Nat) = s := by
        rw [Int.natCast_add, Int.mul_add, Int.natCast_one, Int.mul_one]; omega
      rw [e1, e2, Int.mul_one, Int.mul_one]
      simp [sf]
theorem mul59 (s : Int) : s * 59 = s * 58 + s := by omega
theorem gx1 {s : Int} : crW (gR s (s * 59 - 1) (s * 59 + 1)) s s (.tup ((gC s (s * 59)).map .int)) = .lst [.non] := by
  rw [crW_i _ _ _ _ (by rw [gC_len, gR_len]), crI, g_rp, g_sp _ _ (Int.le_refl _)]
  rw [if_neg, if_neg]
  · simp; omega
  · simp
    omega
theorem gx2 {s : Int} : crW (gR s (s * 59 - 1) (s * 59 + 1)) s s (.tup ((gC s (s * 59 + 1)).map .int)) = .str (q "paper speed") := by
  rw [crW_i _ _ _ _ (by rw [gC_len, gR_len]), crI, g_rp, g_sp _ _ (Int.le_refl _)]
  rw [if_neg, if_pos]
  · simp; omega
  · simp
    omega
theorem gx3 {s : Int} : crW (gR s (s * 59 - 1) (s * 59 + 1)) s s (.tup ((gC s (s * 59 + 2)).map .int)) = .str (q "paper report") := by
  rw [crW_i _ _ _ _ (by rw [gC_len, gR_len]), crI, g_rp]
  rw [if_pos]
  simp
theorem gx4 {s : Int} : crW (gR s (s * 59 - 1) (s * 59 + 1)) s (s + 1) (.tup ((gC s (s * 59 + 1)).map .int)) = .lst [.non] := by
  rw [crW_i _ _ _ _ (by rw [gC_len, gR_len]), crI, g_rp, g_sp _ _ (by omega)]
  rw [if_neg, if_neg]
  · simp; omega
  · simp
    omega
theorem gx5 {s l u : Int} : crW (gR s l u) s s (.tup ((gc0 s).map .int)) = .str (q "paper form") := by
  rw [crW_t, List.length_map, gc0_len, gR_len]
  rfl
theorem ag_in (rs : List Rw) (s f : Int) (i j : Nat) (h1 : i < j) (h2 : j < rs.length) : agW rs s f (.int (i : Nat)) (.int (j : Nat)) = agI rs s f i j := by
  have ag : agB rs.length (.int (i : Nat)) (.int (j : Nat)) = true := by
    simp only [agB, Bool.and_eq_true, decide_eq_true_eq]; omega
  unfold agW
  rw [ag, if_pos rfl]; rfl
theorem gx6 {s : Int} : agW (gR s (s * 59 + 2) (s * 59 + 3)) s s (.int 0) (.int 59) = .lst [.non] := by
  rw [show agW (gR s (s * 59 + 2) (s * 59 + 3)) s s (.int 0) (.int 59) = _ from ag_in _ _ _ 0 59 (by omega) (by rw [gR_len]; omega)]
  unfold agI
  rw [gR_last, gR_at _ _ _ (by omega), if_neg]
  simp
  omega
theorem gx7 {s : Int} : agW (gR s (s * 59 - 1) (s * 59 + 1)) s s (.int 0) (.int 59) = .str (q "paper suits") := by
  rw [show agW (gR s (s * 59 - 1) (s * 59 + 1)) s s (.int 0) (.int 59) = _ from ag_in _ _ _ 0 59 (by omega) (by rw [gR_len]; omega)]
  unfold agI
  rw [gR_last, gR_at _ _ _ (by omega), if_pos]
  simp
  omega
theorem gx8 {s : Int} : agW (gR s (s * 59 + 2) (s * 59 + 3)) s (s + 1) (.int 58) (.int 59) = .str (q "paper suits") := by
  rw [show agW (gR s (s * 59 + 2) (s * 59 + 3)) s (s + 1) (.int 58) (.int 59) = _ from ag_in _ _ _ 58 59 (by omega) (by rw [gR_len]; omega)]
  unfold agI
  rw [gR_last, gR_at _ _ _ (by omega), if_pos]
  simp only [Bool.and_eq_true, decide_eq_true_eq]
  rw [show (59 : Int) - ((58 : Nat) : Int) = 1 by omega]
  omega
theorem gx9 {s : Int} : agW (gR s (s * 59 + 2) (s * 59 + 3)) s s (.int 59) (.int 59) = .str (q "paper form") := by
  unfold agW
  rw [gR_len]
  rfl
theorem gx10 {s : Int} : agW (gR s (s * 59 + 2) (s * 59 + 3)) s s (.int 0) (.int 60) = .str (q "paper form") := by
  unfold agW
  rw [gR_len]
  rfl
end Pl

set_option Elab.async false
set_option linter.all false
set_option maxRecDepth 100000
set_option maxHeartbeats 4000000
namespace Pl
open PySem Ci
theorem pow9 : binD .Pow (.int 10) (.int 9) = some (.int 1000000000) := rfl
theorem mul29 : mulOk 2 1000000000 = true := by decide
def HL : List D := [.lst [.non], .str (q "paper speed"), .str (q "paper report"), .lst [.non], .str (q "paper form"), .lst [.non], .str (q "paper suits"), .str (q "paper suits"), .str (q "paper form"), .str (q "paper form")]
def repOk (L : List D) : Bool := match bltD .repr [.lst L] with
  | some (.str x) => eqD (.str x) (.str x) == some true
  | _ => false
theorem HL_eq : eqD (.lst HL) (.lst HL) = some true := by decide +kernel
theorem HL_rep : ∃ x, bltD .repr [.lst HL] = some (.str x) ∧ eqD (.str x) (.str x) = some true := by
  have h : repOk HL = true := by decide +kernel
  unfold repOk at h
  split at h
  · rename_i x e
    exact ⟨x, e, by simpa using h⟩
  · cases h
theorem same_ref {H : Hs} {n : Nat} (e : rd H (.ref n) = .lst HL) : callF mM.sub mM.PF 198 24 [.ref n, .lst HL] H = .ok (.bl true) H := by
  obtain ⟨x, e1, e2⟩ := HL_rep
  have e3 := HL_eq
  rw [callS _ _ 197 _ _ _ _ PF24]
  have rp : ∀ ds, bltH H .repr ds = bltD .repr (ds.map (rd H)) := fun _ => bltHo (by decide)
  generalize HL = L at e e1 e3 ⊢
  simp -implicitDefEqProofs [callB_, i__law_same, rp, e, e1, e2, e3]
def gs : Nat → St
  | 0 => i__law_great_holds.body
  | n + 1 => stSnd (gs n)
def GF (s : Option D) (v2 v3 v4 v5 : Option D) : Sl := [some (.ref 0), s, v2, v3, v4, v5, none]
theorem mulS {s : Int} (b : gB s) {k : Nat} (h : k ≤ 60) : mulOk s (k : Nat) = true := by
  refine mulB ?_ ?_
  · exact Nat.lt_of_le_of_lt (show s.natAbs ≤ 1000000000 by unfold gB at b; omega) (by decide)
  · exact Nat.lt_of_le_of_lt (show ((k : Nat) : Int).natAbs ≤ 60 by omega) (by decide)
theorem r60 : rangeD 0 60 = some ((List.range 60).map fun k => .int (k : Nat)) := rng_n 60 (by omega)
theorem range60 {α : Type} (f : Nat → α) : (List.range 60).map f = (List.range 59).map f ++ [f 59] := by
  rw [List.range_succ, List.map_append]; rfl
theorem gt1 {r h : Hs} (g : StR r h) : ∃ s h', gB s ∧ StR r h' ∧ ex mM.sub (callF mM.sub mM.PF 198) (stFst (gs 0)) (GF none none none none none) h = .nx (GF (some (.int s)) none none none none) h' := by
  obtain ⟨d, h1, g1, a, b, e⟩ := draw_ok 197 h 2000000000 g (by omega) (by omega)
  refine ⟨d - 1000000000, h1, ⟨by omega, by omega⟩, g1, ?_⟩
  have m := mul29
  simp -implicitDefEqProofs [GF, gs, stFst, i__law_great_holds, pow9, m, e]
section
variable {s : Int} (b : gB s) (h : Hs)
include b
theorem gt2 : ex mM.sub (callF mM.sub mM.PF 198) (stFst (gs 1)) (GF (some (.int s)) none none none none) h = .nx (GF (some (.int s)) (some (.tup (rsD (gR s (s * 59 - 1) (s * 59 + 1))))) none none none) h := by
  have c := comp_mapf (fun k : Nat => D.int (k : Nat)) (fun k : Nat => D.tup [.int (k : Nat), .int (s * (k : Nat) - 1), .int (s * (k : Nat) + 1)]) (turnC mM.sub (callF mM.sub mM.PF 198) (.tup (.cons (.var 6) (.cons (.bin .Sub (.bin .Mult (.var 1) (.var 6)) (.lit (.int (1)))) (.cons (.bin .Add (.bin .Mult (.var 1) (.var 6)) (.lit (.int (1)))) .nil)))) [6] (.nm 6) .omit (GF (some (.int s)) none none none none)) h (List.range 60) (by
    intro k hk
    have hk := List.mem_range.1 hk
    have m := mulS b (k := k) (by omega)
    simp -implicitDefEqProofs [turnC_, GF, m])
  have e : (List.range 60).map (fun k : Nat => D.tup [.int (k : Nat), .int (s * (k : Nat) - 1), .int (s * (k : Nat) + 1)]) = rsD (gR s (s * 59 - 1) (s * 59 + 1)) := by
    rw [range60]
    simp [rsD, gR, gr0, rD]
  have l : (rsD (gR s (s * 59 - 1) (s * 59 + 1))).length ≤ 16777216 := by rw [rs_len, gR_len]; omega
  rw [e] at c
  have r := r60
  have lr : ((List.range 60).map fun k => D.int (k : Nat)).length ≤ 16777216 := by simp
  generalize rsD (gR s (s * 59 - 1) (s * 59 + 1)) = W at c l ⊢
  generalize ((List.range 60).map fun k => D.int (k : Nat)) = RL at r c lr
  simp only [GF] at c ⊢
  simp -implicitDefEqProofs [gs, stFst, stSnd, i__law_great_holds, r, lr, c, l]
theorem gt3 (v2 : Option D) : ex mM.sub (callF mM.sub mM.PF 198) (stFst (gs 2)) (GF (some (.int s)) v2 none none none) h = .nx (GF (some (.int s)) v2 (some (.tup ((gC s (s * 59)).map .int))) none none) h := by
  have c := comp_mapf (fun k : Nat => D.int (k : Nat)) (fun k : Nat => D.int (s * (k : Nat))) (turnC mM.sub (callF mM.sub mM.PF 198) (.bin .Mult (.var 1) (.var 6)) [6] (.nm 6) .omit (GF (some (.int s)) v2 none none none)) h (List.range 60) (by
    intro k hk
    have hk := List.mem_range.1 hk
    have m := mulS b (k := k) (by omega)
    simp -implicitDefEqProofs [turnC_, GF, m])
  have e : (List.range 60).map (fun k : Nat => D.int (s * (k : Nat))) = (gC s (s * 59)).map .int := by
    rw [range60]
    simp [gC, gc0]
  have l : ((gC s (s * 59)).map D.int).length ≤ 16777216 := by rw [List.length_map, gC_len]; omega
  rw [e] at c
  have r := r60
  have lr : ((List.range 60).map fun k => D.int (k : Nat)).length ≤ 16777216 := by simp
  generalize (gC s (s * 59)).map D.int = W at c l ⊢
  generalize ((List.range 60).map fun k => D.int (k : Nat)) = RL at r c lr
  simp only [GF] at c ⊢
  simp -implicitDefEqProofs [gs, stFst, stSnd, i__law_great_holds, r, lr, c, l]
theorem cutC (x : Int) : cutL ((gC s x).map D.int) none (some (-1)) = (gc0 s).map .int := by
  rw [show (gC s x).map D.int = (gc0 s).map .int ++ [.int x] by simp [gC], cut_init]
theorem addC (x : Int) : addD (.tup ((gc0 s).map .int)) (.tup [.int x]) = some (.tup ((gC s x).map .int)) := by
  rw [addT (by simp [gc0_len])]; simp [gC]
theorem gt4 (v3 : Option D) : ex mM.sub (callF mM.sub mM.PF 198) (stFst (gs 3)) (GF (some (.int s)) (some (.tup (rsD (gR s (s * 59 - 1) (s * 59 + 1))))) v3 none none) h = .nx (GF (some (.int s)) (some (.tup (rsD (gR s (s * 59 - 1) (s * 59 + 1))))) v3 (some (.tup (rsD (gR s (s * 59 + 2) (s * 59 + 3))))) none) h := by
  have m := mulS b (k := 59) (by omega)
  have m : mulOk s 59 = true := m
  have c : cutL (rsD (gR s (s * 59 - 1) (s * 59 + 1))) none (some (-1)) = rsD (gr0 s) := by
    rw [show rsD (gR s (s * 59 - 1) (s * 59 + 1)) = rsD (gr0 s) ++ [rD (59, s * 59 - 1, s * 59 + 1)] by simp [rsD, gR], cut_init]
  have a : addD (.tup (rsD (gr0 s))) (.tup [.tup [.int 59, .int (s * 59 + 2), .int (s * 59 + 3)]]) = some (.tup (rsD (gR s (s * 59 + 2) (s * 59 + 3)))) := by
    rw [addT (by rw [rs_len, gr0_len]; simp)]; simp [rsD, gR, rD]
  generalize rsD (gR s (s * 59 + 2) (s * 59 + 3)) = W2 at a ⊢
  generalize rsD (gR s (s * 59 - 1) (s * 59 + 1)) = W at c ⊢
  generalize rsD (gr0 s) = W0 at c a
  simp -implicitDefEqProofs [GF, gs, stFst, stSnd, i__law_great_holds, slTup, Ci.E.isOmit, m, c, a]
end
def GW (s : Int) (v5 : Option D) : Sl := GF (some (.int s)) (some (.tup (rsD (gR s (s * 59 - 1) (s * 59 + 1))))) (some (.tup ((gC s (s * 59)).map .int))) (some (.tup (rsD (gR s (s * 59 + 2) (s * 59 + 3))))) v5
section
variable {s : Int} (b : gB s) (h : Hs)
include b
theorem gbd : bd s := by unfold gB at b; unfold bd; omega
theorem gbd1 : bd (s + 1) := by unfold gB at b; unfold bd; omega
theorem o1 : okR (gR s (s * 59 - 1) (s * 59 + 1)) := by
  have := gB_mul b (k := 59) (by omega)
  exact gR_ok b (by omega) (by omega) (by omega)
theorem o2 : okR (gR s (s * 59 + 2) (s * 59 + 3)) := by
  have := gB_mul b (k := 59) (by omega)
  exact gR_ok b (by omega) (by omega) (by omega)
theorem pC (x : Int) (h1 : s * 59 ≤ x) (h2 : x ≤ s * 59 + 2) : pln 100 (.tup ((gC s x).map .int)) = true := by
  have := gB_mul b (k := 59) (by omega)
  exact gpln b (by omega) (by omega)
theorem p0 : pln 100 (.tup ((gc0 s).map .int)) = true := by
  have := pC b (s * 59) (by omega) (by omega)
  rw [pln_tup] at this ⊢
  refine ⟨by rw [List.length_map, gc0_len]; omega, fun x hx => this.2 x ?_⟩
  unfold gC
  rw [List.map_append]
  exact List.mem_append_left _ hx
theorem gt5 : ex mM.sub (callF mM.sub mM.PF 198) (stFst (gs 4)) (GW s none) h = .nx (GW s (some (.ref h.length))) (h ++ [.lst [.lst [.non], .str (q "paper speed")]]) := by
  have m : mulOk s 59 = true := mulS b (k := 59) (by omega)
  have a1 := course_ask (o1 b) (gbd b) (gbd b) (Int.le_refl _) (pC b (s * 59) (by omega) (by omega)) h
  have a2 := course_ask (o1 b) (gbd b) (gbd b) (Int.le_refl _) (pC b (s * 59 + 1) (by omega) (by omega)) h
  rw [gx1] at a1
  rw [gx2] at a2
  have c := cutC b (s * 59)
  have d := addC b (s * 59 + 1)
  unfold GW
  generalize rsD (gR s (s * 59 - 1) (s * 59 + 1)) = W at a1 a2 ⊢
  generalize rsD (gR s (s * 59 + 2) (s * 59 + 3)) = W2
  generalize (gC s (s * 59)).map D.int = C at a1 c ⊢
  generalize (gC s (s * 59 + 1)).map D.int = C1 at a2 d
  generalize (gc0 s).map D.int = C0 at c d
  simp -implicitDefEqProofs [GF, gs, stFst, stSnd, i__law_great_holds, slTup, Ci.E.isOmit, m, c, d, a1, a2]
theorem gt6 (V : List D) (l : V.length ≤ 100) : ex mM.sub (callF mM.sub mM.PF 198) (stFst (gs 5)) (GW s (some (.ref h.length))) (h ++ [.lst V]) = .nx (GW s (some (.ref h.length))) (h ++ [.lst (V ++ [.str (q "paper report")])]) := by
  have m : mulOk s 59 = true := mulS b (k := 59) (by omega)
  have a2 := course_ask (o1 b) (gbd b) (gbd b) (Int.le_refl _) (pC b (s * 59 + 2) (by omega) (by omega)) (h ++ [.lst V])
  rw [gx3] at a2
  have c := cutC b (s * 59)
  have d := addC b (s * 59 + 2)
  have il := isL (H := h) (xs := V)
  have ap := appL (H := h) (xs := V) (y := .str (q "paper report")) (by omega)
  unfold GW
  generalize h ++ [.lst (V ++ [.str (q "paper report")])] = H2 at ap ⊢
  generalize h ++ [.lst V] = H1 at a2 il ap ⊢
  generalize rsD (gR s (s * 59 - 1) (s * 59 + 1)) = W at a2 ⊢
  generalize rsD (gR s (s * 59 + 2) (s * 59 + 3)) = W2
  generalize (gC s (s * 59)).map D.int = C at c ⊢
  generalize (gC s (s * 59 + 2)).map D.int = C1 at a2 d
  generalize (gc0 s).map D.int = C0 at c d
  simp -implicitDefEqProofs [GF, gs, stFst, stSnd, i__law_great_holds, slTup, Ci.E.isOmit, m, c, d, a2, il, ap]
theorem gt7 (V : List D) (l : V.length ≤ 100) : ex mM.sub (callF mM.sub mM.PF 198) (stFst (gs 6)) (GW s (some (.ref h.length))) (h ++ [.lst V]) = .nx (GW s (some (.ref (h ++ [O.lst V]).length))) (h ++ [.lst V] ++ [.lst (V ++ [.lst [.non], .str (q "paper form")])]) := by
  have m : mulOk s 59 = true := mulS b (k := 59) (by omega)
  have a1 := course_ask (o1 b) (gbd b) (gbd1 b) (by omega) (pC b (s * 59 + 1) (by omega) (by omega)) (h ++ [.lst V])
  have a2 := course_ask (o1 b) (gbd b) (gbd b) (Int.le_refl _) (p0 b) (h ++ [.lst V])
  rw [gx4] at a1
  rw [gx5] at a2
  have c := cutC b (s * 59)
  have d := addC b (s * 59 + 1)
  have rl := rdL (H := h) (xs := V)
  unfold GW
  generalize rsD (gR s (s * 59 - 1) (s * 59 + 1)) = W at a1 a2 ⊢
  generalize rsD (gR s (s * 59 + 2) (s * 59 + 3)) = W2
  generalize (gC s (s * 59)).map D.int = C at c ⊢
  generalize (gC s (s * 59 + 1)).map D.int = C1 at a1 d
  generalize (gc0 s).map D.int = C0 at c d a2
  refine exMcat 5 (stFst (gs 6)) rfl (h1 := h ++ [.lst V]) (x := .ref h.length) (y := .lst [.lst [.non], .str (q "paper form")]) ?_ ?_ rl rfl (by simp; omega) (by simp [GF])
  · simp -implicitDefEqProofs [GF, gs, mcA, stFst, stSnd, i__law_great_holds]
  · generalize h ++ [.lst V] = H1 at a1 a2 ⊢
    simp -implicitDefEqProofs [GF, gs, mcB, stFst, stSnd, i__law_great_holds, slTup, Ci.E.isOmit, m, c, d, a1, a2]
theorem gt8 (V : List D) (l : V.length ≤ 100) : ex mM.sub (callF mM.sub mM.PF 198) (stFst (gs 7)) (GW s (some (.ref h.length))) (h ++ [.lst V]) = .nx (GW s (some (.ref (h ++ [O.lst V]).length))) (h ++ [.lst V] ++ [.lst (V ++ [.lst [.non], .str (q "paper suits")])]) := by
  have a1 := against_ask (o2 b) (gbd b) (gbd b) (Int.le_refl _) (a := .int 0) (b := .int 59) (by decide) (by decide) (h ++ [.lst V])
  have a2 := against_ask (o1 b) (gbd b) (gbd b) (Int.le_refl _) (a := .int 0) (b := .int 59) (by decide) (by decide) (h ++ [.lst V])
  rw [gx6] at a1
  rw [gx7] at a2
  have rl := rdL (H := h) (xs := V)
  unfold GW
  generalize rsD (gR s (s * 59 - 1) (s * 59 + 1)) = W at a2 ⊢
  generalize rsD (gR s (s * 59 + 2) (s * 59 + 3)) = W2 at a1 ⊢
  generalize (gC s (s * 59)).map D.int = C
  refine exMcat 5 (stFst (gs 7)) rfl (h1 := h ++ [.lst V]) (x := .ref h.length) (y := .lst [.lst [.non], .str (q "paper suits")]) ?_ ?_ rl rfl (by simp; omega) (by simp [GF])
  · simp -implicitDefEqProofs [GF, gs, mcA, stFst, stSnd, i__law_great_holds]
  · generalize h ++ [.lst V] = H1 at a1 a2 ⊢
    simp -implicitDefEqProofs [GF, gs, mcB, stFst, stSnd, i__law_great_holds, a1, a2]
theorem gt9 (V : List D) (l : V.length ≤ 100) : ex mM.sub (callF mM.sub mM.PF 198) (stFst (gs 8)) (GW s (some (.ref h.length))) (h ++ [.lst V]) = .nx (GW s (some (.ref (h ++ [O.lst V]).length))) (h ++ [.lst V] ++ [.lst (V ++ [.str (q "paper suits"), .str (q "paper form")])]) := by
  have a1 := against_ask (o2 b) (gbd b) (gbd1 b) (by omega) (a := .int 58) (b := .int 59) (by decide) (by decide) (h ++ [.lst V])
  have a2 := against_ask (o2 b) (gbd b) (gbd b) (Int.le_refl _) (a := .int 59) (b := .int 59) (by decide) (by decide) (h ++ [.lst V])
  rw [gx8] at a1
  rw [gx9] at a2
  have rl := rdL (H := h) (xs := V)
  unfold GW
  generalize rsD (gR s (s * 59 - 1) (s * 59 + 1)) = W
  generalize rsD (gR s (s * 59 + 2) (s * 59 + 3)) = W2 at a1 a2 ⊢
  generalize (gC s (s * 59)).map D.int = C
  refine exMcat 5 (stFst (gs 8)) rfl (h1 := h ++ [.lst V]) (x := .ref h.length) (y := .lst [.str (q "paper suits"), .str (q "paper form")]) ?_ ?_ rl rfl (by simp; omega) (by simp [GF])
  · simp -implicitDefEqProofs [GF, gs, mcA, stFst, stSnd, i__law_great_holds]
  · generalize h ++ [.lst V] = H1 at a1 a2 ⊢
    simp -implicitDefEqProofs [GF, gs, mcB, stFst, stSnd, i__law_great_holds, a1, a2]
theorem gt10 (V : List D) (l : V.length ≤ 100) : ex mM.sub (callF mM.sub mM.PF 198) (stFst (gs 9)) (GW s (some (.ref h.length))) (h ++ [.lst V]) = .nx (GW s (some (.ref h.length))) (h ++ [.lst (V ++ [.str (q "paper form")])]) := by
  have a2 := against_ask (o2 b) (gbd b) (gbd b) (Int.le_refl _) (a := .int 0) (b := .int 60) (by decide) (by decide) (h ++ [.lst V])
  rw [gx10] at a2
  have il := isL (H := h) (xs := V)
  have ap := appL (H := h) (xs := V) (y := .str (q "paper form")) (by omega)
  unfold GW
  generalize h ++ [.lst (V ++ [.str (q "paper form")])] = H2 at ap ⊢
  generalize h ++ [.lst V] = H1 at a2 il ap ⊢
  generalize rsD (gR s (s * 59 - 1) (s * 59 + 1)) = W
  generalize rsD (gR s (s * 59 + 2) (s * 59 + 3)) = W2 at a2 ⊢
  generalize (gC s (s * 59)).map D.int = C
  simp -implicitDefEqProofs [GF, gs, stFst, stSnd, i__law_great_holds, a2, il, ap]
end
theorem great_ok {r h : Hs} (g : StR r h) : ∃ r' h', StR r' h' ∧ callF mM.sub mM.PF 199 35 [.ref 0] h = .ok (.bl true) h' := by
  obtain ⟨s, h1, b, g1, e1⟩ := gt1 g
  have e2 := gt2 b h1
  have e3 := gt3 b h1 (some (.tup (rsD (gR s (s * 59 - 1) (s * 59 + 1)))))
  have e4 := gt4 b h1 (some (.tup ((gC s (s * 59)).map .int)))
  have e5 := gt5 b h1
  have e6 := gt6 b h1 [.lst [.non], .str (q "paper speed")] (by simp)
  have e7 := gt7 b h1 ([.lst [.non], .str (q "paper speed")] ++ [.str (q "paper report")]) (by simp)
  obtain ⟨V7, hV7⟩ : ∃ V, [D.lst [.non], .str (q "paper speed")] ++ [.str (q "paper report")] ++ [.lst [.non], .str (q "paper form")] = V := ⟨_, rfl⟩
  obtain ⟨H7, hH7⟩ : ∃ H, h1 ++ [O.lst ([D.lst [.non], .str (q "paper speed")] ++ [.str (q "paper report")])] = H := ⟨_, rfl⟩
  have g7 : StR (r ++ [O.lst ([D.lst [.non], .str (q "paper speed")] ++ [.str (q "paper report")])]) H7 := hH7 ▸ StR_app g1
  rw [hV7, hH7] at e7
  rw [hH7] at e6
  have e8 := gt8 b H7 V7 (by rw [← hV7]; simp)
  obtain ⟨V8, hV8⟩ : ∃ V, V7 ++ [.lst [.non], .str (q "paper suits")] = V := ⟨_, rfl⟩
  obtain ⟨H8, hH8⟩ : ∃ H, H7 ++ [O.lst V7] = H := ⟨_, rfl⟩
  have g8 := StR_app (o := O.lst V7) g7
  rw [hH8] at g8
  rw [hH8] at e7
  rw [hV8, hH8] at e8
  have e9 := gt9 b H8 V8 (by rw [← hV8, ← hV7]; simp)
  obtain ⟨V9, hV9⟩ : ∃ V, V8 ++ [.str (q "paper suits"), .str (q "paper form")] = V := ⟨_, rfl⟩
  obtain ⟨H9, hH9⟩ : ∃ H, H8 ++ [O.lst V8] = H := ⟨_, rfl⟩
  have g9 := StR_app (o := O.lst V8) g8
  rw [hH9] at g9
  rw [hH9] at e8
  rw [hV9, hH9] at e9
  have e10 := gt10 b H9 V9 (by rw [← hV9, ← hV8, ← hV7]; simp)
  have hV10 : V9 ++ [.str (q "paper form")] = HL := by rw [← hV9, ← hV8, ← hV7]; rfl
  rw [hV10] at e10
  have g10 := StR_app (o := O.lst HL) g9
  have sm := same_ref (H := H9 ++ [O.lst HL]) (n := H9.length) rdL
  have e11 : ex mM.sub (callF mM.sub mM.PF 198) (gs 10) (GW s (some (.ref H9.length))) (H9 ++ [O.lst HL]) = .rt (.bl true) (H9 ++ [O.lst HL]) := by
    have hl : HL = [.lst [.non], .str (q "paper speed"), .str (q "paper report"), .lst [.non], .str (q "paper form"), .lst [.non], .str (q "paper suits"), .str (q "paper suits"), .str (q "paper form"), .str (q "paper form")] := rfl
    generalize H9 ++ [O.lst HL] = HH at sm ⊢
    rw [hl] at sm
    unfold GW
    generalize rsD (gR s (s * 59 - 1) (s * 59 + 1)) = W
    generalize rsD (gR s (s * 59 + 2) (s * 59 + 3)) = W2
    generalize (gC s (s * 59)).map D.int = C
    simp -implicitDefEqProofs [GF, gs, stSnd, i__law_great_holds, sm]
  refine ⟨_, _, g10, ?_⟩
  have B : ex mM.sub (callF mM.sub mM.PF 198) i__law_great_holds.body (GF none none none none none) h = .rt (.bl true) (H9 ++ [O.lst HL]) := step e1 (step e2 (step e3 (step e4 (step e5 (step e6 (step e7 (step e8 (step e9 (step e10 e11)))))))))
  rw [callS _ _ 198 _ _ _ _ PF35]
  simp only [GF] at B
  simp -implicitDefEqProofs [callB_, show i__law_great_holds.np = 1 from rfl, show i__law_great_holds.nl = 7 from rfl, B]
end Pl

set_option Elab.async false
set_option linter.all false
set_option maxRecDepth 100000
set_option maxHeartbeats 4000000
namespace Pl
open PySem Ci
theorem pow12 : binD .Pow (.int 10) (.int 12) = some (.int 1000000000000) := rfl
theorem lplace_any {N : Nat} (k : Nat) (h : Hs) (d : D) (s : pln N d = true) : pcallF (callF mM.sub mM.PF (k + 2)) 36 [d] h = .ok (.bl (plB d)) h := by
  have w := whole_any k [] d (-1000000000000) 1000000000000 s
  refine pcOk (cl1 d (pln_clear s)) ?_ rfl
  rw [callS _ _ _ _ _ _ _ PF36]
  simp -implicitDefEqProofs [callB_, i__law_place, pow12, w]
theorem lstorm_any {N : Nat} (k : Nat) (h : Hs) (d : D) (s : pln N d = true) (n1 : N ≤ 1000) : pcallF (callF mM.sub mM.PF (k + 3)) 37 [d] h = .ok (.bl (stB d)) h := by
  refine pcOk (cl1 d (pln_clear s)) ?_ rfl
  rw [callS _ _ _ _ _ _ _ PF37]
  cases d with
  | non => simp [callB_, i__law_is_storm, stB]
  | bl b => simp [callB_, i__law_is_storm, stB]
  | int b => simp [callB_, i__law_is_storm, stB]
  | str b => simp [callB_, i__law_is_storm, stB]
  | tup xs =>
    obtain ⟨lx, px⟩ := pln_tup.1 s
    by_cases l : xs.length = 5
    · have c := comp_pickD (fun x => !plB x) (turnC mM.sub (callF mM.sub mM.PF (k + 2)) (.var 1) [1] (.nm 1) (.not_ (.pcall 36 (.cons (.var 1) .nil))) [some (.tup xs), none]) [] xs (fun x hx => by
        have a := lplace_any k [] x (px x hx)
        cases e : plB x with
        | true => rw [e] at a; simp -implicitDefEqProofs [turnC_, a]
        | false => rw [e] at a; simp -implicitDefEqProofs [turnC_, a])
      have ne := filter_anyD (fun x => !plB x) xs
      rw [not_all plB xs] at ne
      generalize (xs.filter fun x => !plB x) = Z at c ne
      have l1 : xs.length ≤ 16777216 := by omega
      have l2 : ((xs.length : Int) == 5) = true := by simp [l]
      cases e : xs.all plB with
      | false =>
        rw [e] at ne
        simp -implicitDefEqProofs [callB_, i__law_is_storm, stB_all e, l1, l2, c, ne, -List.isEmpty_iff, -List.isEmpty_eq_false_iff]
      | true =>
        obtain ⟨x1, x2, x3, x4, x5, rfl⟩ : ∃ x1 x2 x3 x4 x5, xs = [x1, x2, x3, x4, x5] := by
          match xs, l with
          | [x1, x2, x3, x4, x5], _ => exact ⟨_, _, _, _, _, rfl⟩
        rw [e] at ne
        have e' := e
        simp only [List.all_cons, List.all_nil, Bool.and_true, Bool.and_eq_true] at e'
        obtain ⟨a, rfl, _, _⟩ := plB_int e'.1
        obtain ⟨b, rfl, _, _⟩ := plB_int e'.2.1
        obtain ⟨c1, rfl, _, _⟩ := plB_int e'.2.2.1
        obtain ⟨d1, rfl, _, _⟩ := plB_int e'.2.2.2.1
        obtain ⟨f1, rfl, _, _⟩ := plB_int e'.2.2.2.2
        have g : stB (.tup [.int a, .int b, .int c1, .int d1, .int f1]) = (decide (a ≤ b) && (decide (c1 ≤ d1) && decide (0 ≤ f1))) := by
          show ([D.int a, .int b, .int c1, .int d1, .int f1].all plB && _) = _
          rw [e]; rfl
        rw [g]
        by_cases q1 : a ≤ b
        · by_cases q2 : c1 ≤ d1
          · simp -implicitDefEqProofs [callB_, i__law_is_storm, c, ne, v0, v1, v2, v3, v4, q1, q2, -List.isEmpty_iff, -List.isEmpty_eq_false_iff]
          · simp -implicitDefEqProofs [callB_, i__law_is_storm, c, ne, v0, v1, v2, v3, v4, q1, q2, -List.isEmpty_iff, -List.isEmpty_eq_false_iff]
        · simp -implicitDefEqProofs [callB_, i__law_is_storm, c, ne, v0, v1, v2, v3, v4, q1, -List.isEmpty_iff, -List.isEmpty_eq_false_iff]
    · have l2 : ((xs.length : Int) == 5) = false := by simp; omega
      simp [callB_, i__law_is_storm, stB_len l, l2]
  | _ => simp [pln] at s
/-! what is compared with no list -/
mutual
theorem lay_lv : ∀ (n : Nat) (d : D), pln 100 d = true → lv n d = true → d.pure = true ∧ PyData.canLay0 d.py = true ∧ d.py.depth ≤ n + 1
  | n, .non, _, _ => ⟨rfl, rfl, Nat.zero_le _⟩
  | n, .bl _, _, _ => ⟨rfl, rfl, Nat.zero_le _⟩
  | n, .int _, _, _ => ⟨rfl, rfl, Nat.zero_le _⟩
  | 0, .str _, _, l => ⟨rfl, by simpa [lv] using l, Nat.zero_le _⟩
  | n + 1, .str _, _, l => ⟨rfl, by simpa [lv] using l, Nat.zero_le _⟩
  | 0, .tup xs, p, l => by
    simp only [lv, List.isEmpty_iff] at l
    subst l
    exact ⟨rfl, rfl, by simp [D.py, D.pys, PyData.depth, PyData.depthAll]⟩
  | n + 1, .tup xs, p, l => by
    simp only [lv] at l
    simp only [pln, Bool.and_eq_true] at p
    obtain ⟨a, b, c⟩ := lays_lv n xs p.2 l
    refine ⟨by simp only [D.pure, a], by simp only [D.py, PyData.canLay0, b], by simp only [D.py, PyData.depth]; omega⟩
  | _, .lst _, h, _ => by simp [pln] at h
  | _, .ref _, h, _ => by simp [pln] at h
  | _, .fn _, h, _ => by simp [pln] at h
  | _, .exc _ _, h, _ => by simp [pln] at h
  | _, .scr _, h, _ => by simp [pln] at h
theorem lays_lv : ∀ (n : Nat) (xs : List D), plns 100 xs = true → xs.all (lv n) = true → D.pures xs = true ∧ PyData.canLayAll0 (D.pys xs) = true ∧ PyData.depthAll (D.pys xs) ≤ n + 1
  | n, [], _, _ => ⟨rfl, rfl, Nat.zero_le _⟩
  | n, x :: xs, p, l => by
    simp only [plns, Bool.and_eq_true] at p
    simp only [List.all_cons, Bool.and_eq_true] at l
    obtain ⟨a1, b1, c1⟩ := lay_lv n x p.1 l.1
    obtain ⟨a, b, c⟩ := lays_lv n xs p.2 l.2
    refine ⟨by simp only [D.pures, a1, a, Bool.and_self], by simp only [D.pys, PyData.canLayAll0, b1, b, Bool.and_self], by simp only [D.pys, PyData.depthAll]; omega⟩
end
theorem eq_nil {Z : List D} (p : ∀ x ∈ Z, pln 100 x = true) (l : ∀ x ∈ Z, lv 20 x = true) : eqD (.lst Z) (.lst []) = some Z.isEmpty := by
  obtain ⟨a, b, c⟩ := lays_lv 20 Z (plns_iff.2 p) (List.all_eq_true.2 l)
  have e : D.eqOk (.lst Z) = true := by
    have d : PyData.depth (D.py (.lst Z)) ≤ 64 := by simp only [D.py, PyData.depth]; omega
    have c2 : PyData.canLay0 (D.py (.lst Z)) = true := by simp only [D.py, PyData.canLay0, b]
    simp only [D.eqOk, D.pure, a, SeqAt.shaped, c2, decide_eq_true d, Bool.and_self]
  have e2 : D.eqOk (.lst []) = true := by decide +kernel
  unfold eqD
  rw [e, e2]
  simp only [Bool.and_self, if_true]
  cases Z with
  | nil => rfl
  | cons x Z => rfl
/-! are reports -/
def shB : D → Bool
  | .tup xs => decide (xs.length = 3)
  | _ => false
theorem row_sh {x : D} (h : rowB x = true) : shB x = true := by
  obtain ⟨r, _, rfl⟩ := rowB_is h
  rfl
theorem lreports_any (k : Nat) (h : Hs) (d : D) (s : pln 100 d = true) : pcallF (callF mM.sub mM.PF (k + 3)) 38 [d] h = .ok (.bl (rpB d)) h := by
  refine pcOk (cl1 d (pln_clear s)) ?_ rfl
  rw [callS _ _ _ _ _ _ _ PF38]
  cases d with
  | non => simp [callB_, i__law_are_reports, rpB]
  | bl b => simp [callB_, i__law_are_reports, rpB]
  | int b => simp [callB_, i__law_are_reports, rpB]
  | str b => simp [callB_, i__law_are_reports, rpB]
  | tup xs =>
    obtain ⟨lx, px⟩ := pln_tup.1 s
    by_cases l : 1 ≤ xs.length
    · by_cases l6 : xs.length ≤ 60
      · have l' : (1 : Int) ≤ xs.length := by omega
        have l6' : (xs.length : Int) ≤ 60 := by omega
        have l3 : xs.length ≤ 16777216 := by omega
        have c := comp_pickD (fun x => !shB x) (turnC mM.sub (callF mM.sub mM.PF (k + 2)) (.var 1) [1] (.nm 1) (.or_ (.not_ (.isI (.var 1) .tuple)) (.cmp .NotEq (.blt .len (.cons (.var 1) .nil)) (.lit (.int (3))))) [some (.tup xs), none, none]) [] xs (fun x hx => by
          have p := px x hx
          cases x with
          | tup ys =>
            have ly := (pln_tup.1 p).1
            have ly3 : ys.length ≤ 16777216 := by omega
            by_cases e : ys.length = 3
            · have e2 : ((ys.length : Int) == 3) = true := by simp [e]
              simp -implicitDefEqProofs [turnC_, shB, e, e2]
            · have e2 : ((ys.length : Int) == 3) = false := by simp; omega
              simp -implicitDefEqProofs [turnC_, shB, e, e2, ly3]
          | non => simp -implicitDefEqProofs [turnC_, shB]
          | bl b => simp -implicitDefEqProofs [turnC_, shB]
          | int b => simp -implicitDefEqProofs [turnC_, shB]
          | str b => simp -implicitDefEqProofs [turnC_, shB]
          | _ => simp [pln] at p)
        have ne := filter_anyD (fun x => !shB x) xs
        rw [not_all shB xs] at ne
        generalize (xs.filter fun x => !shB x) = Z at c ne
        cases e1 : xs.all shB with
        | false =>
          rw [e1] at ne
          have rp : rpB (.tup xs) = false := by
            have : xs.all rowB = false := by
              rw [List.all_eq_false] at e1 ⊢
              obtain ⟨x, hx, hn⟩ := e1
              exact ⟨x, hx, fun q => hn (row_sh q)⟩
            rw [rpB_t, this]; simp
          rw [rp]
          simp -implicitDefEqProofs [callB_, i__law_are_reports, l', l6', l3, c, ne, -List.isEmpty_iff, -List.isEmpty_eq_false_iff]
        | true =>
          rw [e1] at ne
          have c2 := comp_pickD (fun x => !rowB x) (turnC mM.sub (callF mM.sub mM.PF (k + 2)) (.var 1) [1] (.nm 1) (.or_ (.not_ (.pcall 29 (.cons (.ix (.var 1) (.lit (.int (0)))) (.cons (.lit (.int (0))) (.cons (.lit (.int (1000))) .nil))))) (.or_ (.not_ (.pcall 36 (.cons (.ix (.var 1) (.lit (.int (1)))) .nil))) (.or_ (.not_ (.pcall 36 (.cons (.ix (.var 1) (.lit (.int (2)))) .nil))) (.cmp .Gt (.ix (.var 1) (.lit (.int (1)))) (.ix (.var 1) (.lit (.int (2)))))))) [some (.tup xs), none, none]) [] xs (fun x hx => by
            have p := px x hx
            have sx := List.all_eq_true.1 e1 x hx
            obtain ⟨a, b, c, rfl⟩ : ∃ a b c, x = .tup [a, b, c] := by
              cases x with
              | tup ys =>
                simp only [shB, decide_eq_true_eq] at sx
                match ys, sx with
                | [a, b, c], _ => exact ⟨a, b, c, rfl⟩
              | _ => simp [shB] at sx
            have pp := (pln_tup.1 p).2
            have pa := pp a (by simp)
            have pb := pp b (by simp)
            have pc := pp c (by simp)
            have wa := whole_any (k + 1) [] a 0 1000 pa
            have wb := lplace_any k [] b pb
            have wc := lplace_any k [] c pc
            have rf : ∀ z, (rowB (.tup [a, b, c]) = true → z = true) → z = false → rowB (.tup [a, b, c]) = false := by
              intro z h1 h2
              cases e : rowB (.tup [a, b, c]) with
              | false => rfl
              | true => rw [h1 e] at h2; cases h2
            have ex3 : rowB (.tup [a, b, c]) = true → whB 0 1000 a = true ∧ plB b = true ∧ plB c = true := by
              intro h
              obtain ⟨r, o, e⟩ := rowB_is h
              simp only [rD, D.tup.injEq, List.cons.injEq, and_true] at e
              obtain ⟨rfl, rfl, rfl⟩ := e
              obtain ⟨h1, h2, h3, h4, h5⟩ := o
              refine ⟨by simp [whB, h1, h2], by simp [plB, whB]; omega, by simp [plB, whB]; omega⟩
            cases w1 : whB 0 1000 a with
            | false =>
              rw [w1] at wa
              have r0 := rf _ (fun h => (ex3 h).1) w1
              simp -implicitDefEqProofs [turnC_, t0, t1, t2, wa, r0]
            | true =>
              rw [w1] at wa
              cases w2 : plB b with
              | false =>
                rw [w2] at wb
                have r0 := rf _ (fun h => (ex3 h).2.1) w2
                simp -implicitDefEqProofs [turnC_, t0, t1, t2, wa, wb, r0]
              | true =>
                rw [w2] at wb
                cases w3 : plB c with
                | false =>
                  rw [w3] at wc
                  have r0 := rf _ (fun h => (ex3 h).2.2) w3
                  simp -implicitDefEqProofs [turnC_, t0, t1, t2, wa, wb, wc, r0]
                | true =>
                  rw [w3] at wc
                  obtain ⟨i, rfl, i0, i1⟩ := hr_int w1
                  obtain ⟨j, rfl, j0, j1⟩ := plB_int w2
                  obtain ⟨m, rfl, m0, m1⟩ := plB_int w3
                  have r0 : rowB (.tup [.int i, .int j, .int m]) = decide (j ≤ m) := by
                    show (decide (0 ≤ i) && (decide (i ≤ 1000) && (decide (-1000000000000 ≤ j) && (decide (j ≤ m) && decide (m ≤ 1000000000000))))) = _
                    rw [decide_eq_true i0, decide_eq_true i1, decide_eq_true j0, decide_eq_true m1]; simp
                  by_cases z : j ≤ m
                  · have z' : ¬ m < j := by omega
                    simp -implicitDefEqProofs [turnC_, t0, t1, t2, wa, wb, wc, r0, z, z']
                  · have z' : m < j := by omega
                    simp -implicitDefEqProofs [turnC_, t0, t1, t2, wa, wb, wc, r0, z, z'])
          have ne2 := filter_anyD (fun x => !rowB x) xs
          rw [not_all rowB xs] at ne2
          generalize (xs.filter fun x => !rowB x) = Z2 at c2 ne2
          cases e2 : xs.all rowB with
          | false =>
            rw [e2] at ne2
            have rp : rpB (.tup xs) = false := by rw [rpB_t, e2]; simp
            rw [rp]
            simp -implicitDefEqProofs [callB_, i__law_are_reports, l', l6', l3, c, ne, c2, ne2, -List.isEmpty_iff, -List.isEmpty_eq_false_iff]
          | true =>
            rw [e2] at ne2
            obtain ⟨rs, rfl, okr⟩ := rows_is e2
            rw [rs_len] at l l6 l' l6' l3
            have r1 : rangeD 1 (rs.length : Int) = some ((List.range (rs.length - 1)).map fun k => .int (1 + (k : Nat))) := by
              have := rr1 (rs.map (·.1)) (by simp; omega)
              simpa using this
            have c3 := comp_pick (fun k : Nat => D.int (1 + (k : Nat))) (fun k => decide ((rs.map (·.1)).getD (k + 1) 0 ≤ (rs.map (·.1)).getD k 0)) (fun k : Nat => D.int (1 + (k : Nat))) (turnC mM.sub (callF mM.sub mM.PF (k + 2)) (.var 2) [2] (.nm 2) (.cmp .GtE (.ix (.ix (.var 0) (.bin .Sub (.var 2) (.lit (.int (1))))) (.lit (.int (0)))) (.ix (.ix (.var 0) (.var 2)) (.lit (.int (0))))) [some (.tup (rsD rs)), none, none]) [] (List.range (rs.length - 1)) (by
              intro j hj
              have hj := List.mem_range.1 hj
              have a1 := at_rs (rs := rs) (k := j) (by omega)
              have a2 := at_rs (rs := rs) (k := j + 1) (by omega)
              have g1 : (rs.map (·.1)).getD j 0 = (rs[j]'(by omega)).1 := by simp [List.getD, List.getElem?_eq_getElem (show j < rs.length by omega)]
              have g2 : (rs.map (·.1)).getD (j + 1) 0 = (rs[j + 1]'(by omega)).1 := by simp [List.getD, List.getElem?_eq_getElem (show j + 1 < rs.length by omega)]
              rw [g1, g2]
              generalize (rs[j]'(by omega)) = r1 at a1
              generalize (rs[j + 1]'(by omega)) = r2 at a2
              have j1 : (1 : Int) + (j : Nat) = ((j + 1 : Nat) : Int) := by omega
              have j2 : ((j + 1 : Nat) : Int) - 1 = (j : Nat) := by omega
              rw [j1]
              generalize ((j + 1 : Nat) : Int) = jj at a2 j2 ⊢
              by_cases z : r2.1 ≤ r1.1
              · simp -implicitDefEqProofs [turnC_, a1, a2, j2, rD, t0, z]
              · simp -implicitDefEqProofs [turnC_, a1, a2, j2, rD, t0, z])
            have ne3 := filter_any (fun k : Nat => D.int (1 + (k : Nat))) (fun k => decide ((rs.map (·.1)).getD (k + 1) 0 ≤ (rs.map (·.1)).getD k 0)) (List.range (rs.length - 1))
            have nn : (List.range (rs.length - 1)).any (fun k => decide ((rs.map (·.1)).getD (k + 1) 0 ≤ (rs.map (·.1)).getD k 0)) = nr (rs.map (·.1)) := by unfold nr; rw [List.length_map]
            rw [nn] at ne3
            have eqn := eq_nil (Z := ((List.range (rs.length - 1)).filter fun k => decide ((rs.map (·.1)).getD (k + 1) 0 ≤ (rs.map (·.1)).getD k 0)).map fun k : Nat => D.int (1 + (k : Nat))) (by
              intro x hx
              obtain ⟨j, hj, rfl⟩ := List.mem_map.1 hx
              have hj := List.mem_range.1 (List.mem_filter.1 hj).1
              simp only [pln, decide_eq_true_eq]
              omega) (by
              intro x hx
              obtain ⟨j, hj, rfl⟩ := List.mem_map.1 hx
              rfl)
            have rp : rpB (.tup (rsD rs)) = !nr (rs.map (·.1)) := by
              rw [rpB_t, e2, hrs_rs, rs_len]
              simp [l, l6]
            rw [rp]
            have lr : ((List.range (rs.length - 1)).map fun k => D.int (1 + (k : Nat))).length ≤ 16777216 := by simp; omega
            generalize (List.filter (fun k => decide ((rs.map (·.1)).getD (k + 1) 0 ≤ (rs.map (·.1)).getD k 0)) (List.range (rs.length - 1))).map (fun k : Nat => D.int (1 + (k : Nat))) = Z3 at c3 ne3 eqn
            generalize ((List.range (rs.length - 1)).map fun k => D.int (1 + (k : Nat))) = RL at r1 c3 lr
            rw [ne3] at eqn
            generalize nr (rs.map (·.1)) = nv at eqn ⊢
            simp -implicitDefEqProofs [callB_, i__law_are_reports, rs_len, l', l6', l3, c, ne, c2, ne2, r1, lr, c3, eqn, -List.isEmpty_iff, -List.isEmpty_eq_false_iff]
      · have l6' : ¬ (xs.length : Int) ≤ 60 := by omega
        have l' : (1 : Int) ≤ xs.length := by omega
        have rp : rpB (.tup xs) = false := by rw [rpB_t, decide_eq_false l6]; simp
        rw [rp]
        simp -implicitDefEqProofs [callB_, i__law_are_reports, l', l6']
    · have l' : ¬ (1 : Int) ≤ xs.length := by omega
      have rp : rpB (.tup xs) = false := by rw [rpB_t, decide_eq_false l]; simp
      rw [rp]
      simp -implicitDefEqProofs [callB_, i__law_are_reports, l']
  | _ => simp [pln] at s
end Pl

set_option Elab.async false
set_option linter.all false
set_option maxRecDepth 100000
set_option maxHeartbeats 4000000
namespace Pl
open PySem Ci
def goodD : D := .tup [.int (-3), .int 5, .int (-1), .int 2, .int 4]
def someD : D := .tup [.tup [.int 0, .int (-2), .int 3], .tup [.int 4, .int 1, .int 9]]
def AF (v1 v4 v5 v6 v7 v8 v9 v10 v11 v12 v13 v14 v15 v16 : Option D) : Sl := [some (.ref 0), v1, some goodD, some someD, v4, v5, v6, v7, v8, v9, v10, v11, v12, v13, v14, v15, v16, none, none, none]
def ga : Nat → St
  | 0 => stFor (stFst (stSnd i__law_arguments_hold.body))
  | n + 1 => stSnd (ga n)
theorem lv_le {n m : Nat} {d : D} (h : lv n d = true) (l : n ≤ m) : lv m d = true := by
  obtain ⟨k, rfl⟩ : ∃ k, m = n + k := ⟨m - n, by omega⟩
  clear l
  induction k with
  | zero => exact h
  | succ k ih => exact lv_mono _ _ ih
theorem addLL {xs ys : List D} (l : xs.length + ys.length ≤ 100000) : addD (.lst xs) (.lst ys) = some (.lst (xs ++ ys)) := by
  show (if okL (xs.length + ys.length) then _ else _) = _
  rw [okLt l]; rfl
/-! part A -/
def wL1 : List D := [.tup [.int 0, .int 0, .int 0, .int 0, .int 0], .tup [.int 1, .int 0, .int 0, .int 0, .int 0], .tup [.int 0, .int 0, .int 1, .int 0, .int 0], .tup [.int 0, .int 0, .int 0, .int 0, .int (-1)], .tup [.int (-1000000000000), .int 1000000000000, .int (-1000000000000), .int 1000000000000, .int 1000000000000], .tup [.int 0, .int 1000000000001, .int 0, .int 0, .int 0], .tup [.int 0, .int 0, .int 0, .int 0], .non, .tup [.bl true, .int 1, .int 0, .int 0, .int 0]]
theorem wL1_pln {x : D} (h : x ∈ wL1) : pln 100 x = true := List.all_eq_true.1 (by decide +kernel : wL1.all (pln 100) = true) x h
def hoL : List D := [.int 0, .int 20, .int 1001, .int (-1), .bl true, .non]
theorem hoL_pln {x : D} (h : x ∈ hoL) : pln 100 x = true := List.all_eq_true.1 (by decide +kernel : hoL.all (pln 100) = true) x h
def plL : List D := [.int 0, .int 1000000000000, .int 1000000000001, .int (-1000000000001), .bl true, .non]
theorem plL_pln {x : D} (h : x ∈ plL) : pln 100 x = true := List.all_eq_true.1 (by decide +kernel : plL.all (pln 100) = true) x h
theorem good_f : lv 1 goodD = true ∧ pln 10 goodD = true := by decide +kernel
theorem some_f : lv 2 someD = true ∧ pln 10 someD = true := by decide +kernel
theorem ah1 (h : Hs) (v1 v4 v5 v6 v7 v8 v9 v10 v11 v12 v13 v14 v15 v16 : Option D) : ∀ R, ex mM.sub (callF mM.sub mM.PF 198) (ga 2) (AF v1 (some (.lst wL1)) v5 v6 v7 v8 v9 v10 v11 v12 v13 v14 v15 v16) h = R → ex mM.sub (callF mM.sub mM.PF 198) (ga 0) (AF v1 v4 v5 v6 v7 v8 v9 v10 v11 v12 v13 v14 v15 v16) h = R := by
  intro R hR
  have s1 : ex mM.sub (callF mM.sub mM.PF 198) (stFst (ga 0)) (AF v1 v4 v5 v6 v7 v8 v9 v10 v11 v12 v13 v14 v15 v16) h = .nx (AF v1 (some (.lst (wL1.take 6))) v5 v6 v7 v8 v9 v10 v11 v12 v13 v14 v15 v16) h := by
    simp -implicitDefEqProofs [AF, ga, stFor, stFst, stSnd, i__law_arguments_hold, pow12, wL1]
  have s2 : ex mM.sub (callF mM.sub mM.PF 198) (stFst (ga 1)) (AF v1 (some (.lst (wL1.take 6))) v5 v6 v7 v8 v9 v10 v11 v12 v13 v14 v15 v16) h = .nx (AF v1 (some (.lst wL1)) v5 v6 v7 v8 v9 v10 v11 v12 v13 v14 v15 v16) h := by
    have a := addLL (xs := wL1.take 6) (ys := wL1.drop 6) (by decide)
    simp only [wL1, List.take_succ_cons, List.take_zero, List.drop_succ_cons, List.drop_zero, List.cons_append, List.nil_append] at a ⊢
    simp -implicitDefEqProofs [AF, ga, stFor, stFst, stSnd, i__law_arguments_hold, pow12, a]
  exact step s1 (step s2 hR)
theorem ah3 {r h : Hs} (g : StR r h) (v1 v5 v6 v7 v8 v9 v10 v11 v12 v13 v14 v15 v16 : Option D) : ∃ s h', pln 100 s = true ∧ StR r h' ∧ ex mM.sub (callF mM.sub mM.PF 198) (stFst (ga 2)) (AF v1 (some (.lst wL1)) v5 v6 v7 v8 v9 v10 v11 v12 v13 v14 v15 v16) h = .nx (AF v1 (some (.lst wL1)) (some s) v6 v7 v8 v9 v10 v11 v12 v13 v14 v15 v16) h' := by
  obtain ⟨d6, h1, g1, ⟨p6, _⟩, e6⟩ := bent_ok 1 194 10 g good_f.1 good_f.2 (by omega)
  have e6 : callF mM.sub mM.PF 198 28 [.ref 0, goodD] h = .ok d6 h1 := e6
  obtain ⟨d7, h2, g2, m7, e7⟩ := pick_ok 196 h1 wL1 g1 (by simp [wL1]) (by simp [wL1])
  obtain ⟨d, h3, g3, md, e⟩ := pick_ok 196 h2 [goodD, goodD, d6, d7] g2 (by simp) (by simp)
  refine ⟨d, h3, ?_, g3, ?_⟩
  · simp only [List.mem_cons, List.not_mem_nil, or_false] at md
    rcases md with rfl | rfl | rfl | rfl
    · exact pln_mono (by omega) good_f.2
    · exact pln_mono (by omega) good_f.2
    · exact pln_mono (by omega) p6
    · exact wL1_pln m7
  · generalize wL1 = L at e7 ⊢
    unfold AF
    generalize goodD = G at e6 e ⊢
    generalize someD = G2
    simp -implicitDefEqProofs [ga, stFor, stFst, stSnd, i__law_arguments_hold, e6, e7, e]
theorem ah5 {r h : Hs} (g : StR r h) (v1 v4 v5 v6 v7 v8 v9 v10 v11 v12 v13 v14 v15 v16 : Option D) : ∃ y p h', pln 100 y = true ∧ pln 100 p = true ∧ StR r h' ∧ ex mM.sub (callF mM.sub mM.PF 198) (stFst (ga 4)) (AF v1 v4 v5 v6 v7 v8 v9 v10 v11 v12 v13 v14 v15 v16) h = .nx (AF v1 v4 v5 v6 v7 v8 v9 v10 v11 v12 (some y) (some p) v15 v16) h' := by
  obtain ⟨y, h1, g1, my, e1⟩ := pick_ok 196 h hoL g (by simp [hoL]) (by simp [hoL])
  obtain ⟨p, h2, g2, mp, e2⟩ := pick_ok 196 h1 plL g1 (by simp [plL]) (by simp [plL])
  refine ⟨y, p, h2, hoL_pln my, plL_pln mp, g2, ?_⟩
  simp only [hoL] at e1
  simp only [plL] at e2
  simp -implicitDefEqProofs [AF, ga, stFor, stFst, stSnd, i__law_arguments_hold, pow12, e1, e2]
/-! part B -/
def w6 (s : D) : Str := if stB s then Str.ofString "" else Str.ofString "storm storm"
def w7 (y : D) : Str := if whB 0 1000 y then Str.ofString "" else Str.ofString "argument last"
def w8 (s y p : D) : Str := if stB s then (if plB p then w7 y else Str.ofString "argument place") else Str.ofString "storm storm"
theorem eSt : eqD (.str (Str.ofString "storm storm")) (.str (Str.ofString "")) = some false := by decide +kernel
theorem eLa : eqD (.str (Str.ofString "argument last")) (.str (Str.ofString "")) = some false := by decide +kernel
theorem eRp : eqD (.str (Str.ofString "storm reports")) (.str (Str.ofString "")) = some false := by decide +kernel
section
variable {s y p d r f : D} (h : Hs) (v1 v4 v5 v6 v7 v8 v9 v10 v11 v12 v13 v14 v15 v16 : Option D)
theorem ah4 (ps : pln 100 s = true) : ex mM.sub (callF mM.sub mM.PF 198) (stFst (ga 3)) (AF v1 v4 (some s) v6 v7 v8 v9 v10 v11 v12 v13 v14 v15 v16) h = .nx (AF v1 v4 (some s) (some (.str (w6 s))) v7 v8 v9 v10 v11 v12 v13 v14 v15 v16) h := by
  have a : pcallF (callF mM.sub mM.PF 198) 37 [s] h = .ok (.bl (stB s)) h := lstorm_any 195 h s ps (by omega)
  unfold w6
  cases e : stB s with
  | true => rw [e] at a; simp -implicitDefEqProofs [AF, ga, stFor, stFst, stSnd, i__law_arguments_hold, a]
  | false => rw [e] at a; simp -implicitDefEqProofs [AF, ga, stFor, stFst, stSnd, i__law_arguments_hold, a]
theorem ah6 (py : pln 100 y = true) : ex mM.sub (callF mM.sub mM.PF 198) (stFst (ga 5)) (AF v1 v4 v5 v6 v7 v8 v9 v10 v11 v12 (some y) v14 v15 v16) h = .nx (AF v1 v4 v5 v6 (some (.str (w7 y))) v8 v9 v10 v11 v12 (some y) v14 v15 v16) h := by
  have a : pcallF (callF mM.sub mM.PF 198) 29 [y, .int 0, .int 1000] h = .ok (.bl (whB 0 1000 y)) h := whole_any 197 h y 0 1000 py
  unfold w7
  cases e : whB 0 1000 y with
  | true => rw [e] at a; simp -implicitDefEqProofs [AF, ga, stFor, stFst, stSnd, i__law_arguments_hold, a]
  | false => rw [e] at a; simp -implicitDefEqProofs [AF, ga, stFor, stFst, stSnd, i__law_arguments_hold, a]
theorem ah7 (ps : pln 100 s = true) (py : pln 100 y = true) : ex mM.sub (callF mM.sub mM.PF 198) (stFst (ga 6)) (AF v1 v4 (some s) (some (.str (w6 s))) (some (.str (w7 y))) v8 v9 v10 v11 v12 (some y) v14 v15 v16) h = .nx (AF v1 v4 (some s) (some (.str (w6 s))) (some (.str (w7 y))) v8 v9 v10 v11 v12 (some y) v14 v15 v16) h := by
  obtain ⟨t, a, b⟩ := is5 ps py
  have a := a h
  have b := b h
  have e0 := eqE0
  have e1 := eSt
  have e2 := eLa
  unfold w6 w7
  cases es : stB s with
  | true =>
    cases ey : whB 0 1000 y with
    | true => rw [es, ey] at b; simp -implicitDefEqProofs [AF, ga, stFor, stFst, stSnd, i__law_arguments_hold, e0, e1, e2, a] at b ⊢; simp -implicitDefEqProofs [b]
    | false => rw [es, ey] at b; simp -implicitDefEqProofs [AF, ga, stFor, stFst, stSnd, i__law_arguments_hold, e0, e1, e2, a] at b ⊢; simp -implicitDefEqProofs [b]
  | false => rw [es] at b; simp -implicitDefEqProofs [AF, ga, stFor, stFst, stSnd, i__law_arguments_hold, e0, e1, e2, a] at b ⊢; simp -implicitDefEqProofs [b]
theorem ah8 (pp : pln 100 p = true) : ex mM.sub (callF mM.sub mM.PF 198) (stFst (ga 7)) (AF v1 v4 v5 (some (.str (w6 s))) (some (.str (w7 y))) v8 v9 v10 v11 v12 v13 (some p) v15 v16) h = .nx (AF v1 v4 v5 (some (.str (w6 s))) (some (.str (w7 y))) (some (.str (w8 s y p))) v9 v10 v11 v12 v13 (some p) v15 v16) h := by
  have a : pcallF (callF mM.sub mM.PF 198) 36 [p] h = .ok (.bl (plB p)) h := lplace_any 196 h p pp
  have e0 := eqE0
  have e1 := eSt
  unfold w6 w8
  generalize w7 y = W7
  cases es : stB s with
  | true =>
    cases ey : plB p with
    | true => rw [ey] at a; simp -implicitDefEqProofs [AF, ga, stFor, stFst, stSnd, i__law_arguments_hold, e0, e1, a]
    | false => rw [ey] at a; simp -implicitDefEqProofs [AF, ga, stFor, stFst, stSnd, i__law_arguments_hold, e0, e1, a]
  | false => simp -implicitDefEqProofs [AF, ga, stFor, stFst, stSnd, i__law_arguments_hold, e0, e1]
theorem ah9 (ps : pln 100 s = true) (py : pln 100 y = true) (pp : pln 100 p = true) : ex mM.sub (callF mM.sub mM.PF 198) (stFst (ga 8)) (AF v1 v4 (some s) v6 v7 (some (.str (w8 s y p))) v9 v10 v11 v12 (some y) (some p) v15 v16) h = .nx (AF v1 v4 (some s) v6 v7 (some (.str (w8 s y p))) v9 v10 v11 v12 (some y) (some p) v15 v16) h := by
  obtain ⟨t, a, b⟩ := is8 ps pp py
  obtain ⟨t2, a2, b2⟩ := is9 ps pp py
  have a := a h
  have b := b h
  have a2 := a2 h
  have b2 := b2 h
  have ew : w8 s y p = (if stB s then (if plB p then (if whB 0 1000 y then q "" else q "argument last") else q "argument place") else q "storm storm") := rfl
  rw [← ew] at b b2
  generalize w8 s y p = W at b b2 ⊢
  simp -implicitDefEqProofs [AF, ga, stFor, stFst, stSnd, i__law_arguments_hold, turnC_, a, b, a2, b2]
end
end Pl

set_option Elab.async false
set_option linter.all false
set_option maxRecDepth 100000
set_option maxHeartbeats 4000000
namespace Pl
open PySem Ci
def rep (n : Nat) (x : D) : List D := List.replicate n x
theorem m30 : binD .Mult (.tup [.int 0]) (.int 30) = some (.tup (rep 30 (.int 0))) := rfl
theorem m31 : binD .Mult (.tup [.int 0]) (.int 31) = some (.tup (rep 31 (.int 0))) := rfl
def psL : List D := [.tup [], .tup [.int 3, .int (-5)], .tup (rep 30 (.int 0)), .tup (rep 31 (.int 0)), .tup [.int 1000000000001], .tup [.bl true], .non]
theorem psL_f {x : D} (h : x ∈ psL) : pln 100 x = true ∧ lv 21 x = true := by
  have := List.all_eq_true.1 (by decide +kernel : psL.all (fun x => pln 100 x && lv 21 x) = true) x h
  simpa only [Bool.and_eq_true] using this
theorem t35 : lv 1 (.tup [.int 3, .int (-5)]) = true ∧ pln 10 (.tup [.int 3, .int (-5)]) = true := by decide +kernel
theorem ah10 {r h : Hs} (g : StR r h) (v1 v4 v5 v6 v7 v8 v9 v10 v11 v12 v13 v14 v15 v16 : Option D) : ∃ d h', (pln 100 d = true ∧ lv 21 d = true) ∧ StR r h' ∧ ex mM.sub (callF mM.sub mM.PF 198) (stFst (ga 9)) (AF v1 v4 v5 v6 v7 v8 v9 v10 v11 v12 v13 v14 v15 v16) h = .nx (AF v1 v4 v5 v6 v7 v8 (some d) v10 v11 v12 v13 v14 v15 v16) h' := by
  obtain ⟨d6, h1, g1, ⟨p6, l6⟩, e6⟩ := bent_ok 1 194 10 g t35.1 t35.2 (by omega)
  have e6 : callF mM.sub mM.PF 198 28 [.ref 0, .tup [.int 3, .int (-5)]] h = .ok d6 h1 := e6
  obtain ⟨d, h3, g3, md, e⟩ := pick_ok 196 h1 [.tup [], .tup [.int 3, .int (-5)], .tup (rep 30 (.int 0)), .tup (rep 31 (.int 0)), .tup [.int 1000000000001], .tup [.bl true], .non, d6] g1 (by simp) (by simp)
  refine ⟨d, h3, ?_, g3, ?_⟩
  · have md : d ∈ psL ++ [d6] := md
    rcases List.mem_append.1 md with md | md
    · exact psL_f md
    · rw [List.mem_singleton.1 md]
      exact ⟨pln_mono (by omega) p6, lv_le l6 (by omega)⟩
  · have a1 := m30
    have a2 := m31
    unfold AF
    generalize goodD = G
    generalize someD = G2
    generalize rep 30 (.int 0) = R30 at a1 e
    generalize rep 31 (.int 0) = R31 at a2 e
    simp -implicitDefEqProofs [ga, stFor, stFst, stSnd, i__law_arguments_hold, a1, a2, pow12, e6, e]
/-! reports -/
def T (n : Nat) : D := .tup ((List.range n).map fun k => .tup [.int (k : Nat), .int 0, .int 0])
def wL2 : List D := [.tup [.tup [.int 0, .int 0, .int 0]], .tup [], T 60, T 61, .tup [.tup [.int 1000, .int 0, .int 0]], .tup [.tup [.int 1001, .int 0, .int 0]], .tup [.tup [.int (-1), .int 0, .int 0]], .tup [.tup [.int 0, .int 1, .int 0]]]
def wL3 : List D := [.tup [.tup [.int 0, .int 0, .int 1000000000001]], .tup [.tup [.int 3, .int 0, .int 0], .tup [.int 3, .int 0, .int 0]], .tup [.tup [.int 3, .int 0, .int 0], .tup [.int 2, .int 0, .int 0]], .tup [.tup [.int 0, .int 0]], .non, .tup [.tup [.bl false, .int 0, .int 0]]]
theorem wL23_pln {x : D} (h : x ∈ wL2 ++ wL3) : pln 100 x = true := List.all_eq_true.1 (by decide +kernel : (wL2 ++ wL3).all (pln 100) = true) x h
theorem compT (n : Nat) (h : Hs) (S : Sl) (hS : S.length = 20) (e19 : S[19]? = some none) : compF (turnC mM.sub (callF mM.sub mM.PF 198) (.tup (.cons (.var 19) (.cons (.lit (.int (0))) (.cons (.lit (.int (0))) .nil)))) [19] (.nm 19) .omit S) ((List.range n).map fun k => .int (k : Nat)) h = .ok ((List.range n).map fun k => .tup [.int (k : Nat), .int 0, .int 0]) h := by
  apply comp_mapf (fun k : Nat => D.int (k : Nat)) (fun k : Nat => D.tup [.int (k : Nat), .int 0, .int 0])
  intro k hk
  obtain ⟨a0, a1, a2, a3, a4, a5, a6, a7, a8, a9, a10, a11, a12, a13, a14, a15, a16, a17, a18, a19, rfl⟩ : ∃ a0 a1 a2 a3 a4 a5 a6 a7 a8 a9 a10 a11 a12 a13 a14 a15 a16 a17 a18 a19, S = [a0, a1, a2, a3, a4, a5, a6, a7, a8, a9, a10, a11, a12, a13, a14, a15, a16, a17, a18, a19] := by
    match S, hS with
    | [a0, a1, a2, a3, a4, a5, a6, a7, a8, a9, a10, a11, a12, a13, a14, a15, a16, a17, a18, a19], _ => exact ⟨_, _, _, _, _, _, _, _, _, _, _, _, _, _, _, _, _, _, _, _, rfl⟩
  simp -implicitDefEqProofs [turnC_]
theorem r61 : rangeD 0 61 = some ((List.range 61).map fun k => .int (k : Nat)) := rng_n 61 (by omega)
theorem ah13 (h : Hs) (v1 v4 v5 v6 v7 v8 v9 v10 v11 v12 v13 v14 v15 v16 : Option D) : ∀ R, ex mM.sub (callF mM.sub mM.PF 198) (ga 14) (AF v1 (some (.lst (wL2 ++ wL3))) v5 v6 v7 v8 v9 v10 v11 v12 v13 v14 v15 v16) h = R → ex mM.sub (callF mM.sub mM.PF 198) (ga 12) (AF v1 v4 v5 v6 v7 v8 v9 v10 v11 v12 v13 v14 v15 v16) h = R := by
  intro R hR
  have s1 : ex mM.sub (callF mM.sub mM.PF 198) (stFst (ga 12)) (AF v1 v4 v5 v6 v7 v8 v9 v10 v11 v12 v13 v14 v15 v16) h = .nx (AF v1 (some (.lst wL2)) v5 v6 v7 v8 v9 v10 v11 v12 v13 v14 v15 v16) h := by
    have c1 := compT 60 h (AF v1 v4 v5 v6 v7 v8 v9 v10 v11 v12 v13 v14 v15 v16) rfl rfl
    have c2 := compT 61 h (AF v1 v4 v5 v6 v7 v8 v9 v10 v11 v12 v13 v14 v15 v16) rfl rfl
    have a1 := r60
    have a2 := r61
    have l1 : ((List.range 60).map fun k => D.int (k : Nat)).length ≤ 16777216 := by simp
    have l2 : ((List.range 61).map fun k => D.int (k : Nat)).length ≤ 16777216 := by simp
    have l3 : ((List.range 60).map fun k => D.tup [.int (k : Nat), .int 0, .int 0]).length ≤ 16777216 := by simp
    have l4 : ((List.range 61).map fun k => D.tup [.int (k : Nat), .int 0, .int 0]).length ≤ 16777216 := by simp
    unfold wL2 T
    generalize ((List.range 60).map fun k => D.int (k : Nat)) = X1 at c1 a1 l1
    generalize ((List.range 61).map fun k => D.int (k : Nat)) = X2 at c2 a2 l2
    generalize ((List.range 60).map fun k => D.tup [.int (k : Nat), .int 0, .int 0]) = Y1 at c1 l3 ⊢
    generalize ((List.range 61).map fun k => D.tup [.int (k : Nat), .int 0, .int 0]) = Y2 at c2 l4 ⊢
    unfold AF at c1 c2 ⊢
    generalize goodD = G at c1 c2 ⊢
    generalize someD = G2 at c1 c2 ⊢
    simp -implicitDefEqProofs [ga, stFor, stFst, stSnd, i__law_arguments_hold, a1, a2, l1, l2, l3, l4, c1, c2]
  have s2 : ex mM.sub (callF mM.sub mM.PF 198) (stFst (ga 13)) (AF v1 (some (.lst wL2)) v5 v6 v7 v8 v9 v10 v11 v12 v13 v14 v15 v16) h = .nx (AF v1 (some (.lst (wL2 ++ wL3))) v5 v6 v7 v8 v9 v10 v11 v12 v13 v14 v15 v16) h := by
    have a := addLL (xs := wL2) (ys := wL3) (by decide)
    generalize wL2 ++ wL3 = W at a ⊢
    generalize wL2 = W2 at a ⊢
    unfold wL3 at a
    unfold AF
    generalize goodD = G
    generalize someD = G2
    simp -implicitDefEqProofs [ga, stFor, stFst, stSnd, i__law_arguments_hold, pow12, a]
  exact step s1 (step s2 hR)
theorem ah15 {r h : Hs} (g : StR r h) (v1 v5 v6 v7 v8 v9 v10 v11 v12 v13 v14 v15 v16 : Option D) : ∃ s h', pln 100 s = true ∧ StR r h' ∧ ex mM.sub (callF mM.sub mM.PF 198) (stFst (ga 14)) (AF v1 (some (.lst (wL2 ++ wL3))) v5 v6 v7 v8 v9 v10 v11 v12 v13 v14 v15 v16) h = .nx (AF v1 (some (.lst (wL2 ++ wL3))) v5 v6 v7 v8 v9 v10 (some s) v12 v13 v14 v15 v16) h' := by
  obtain ⟨d5, h0, g0, ⟨p5, _⟩, e5⟩ := bent_ok 2 193 10 g some_f.1 some_f.2 (by omega)
  have e5 : callF mM.sub mM.PF 198 28 [.ref 0, someD] h = .ok d5 h0 := e5
  obtain ⟨d6, h1, g1, ⟨p6, _⟩, e6⟩ := bent_ok 2 193 10 g0 some_f.1 some_f.2 (by omega)
  have e6 : callF mM.sub mM.PF 198 28 [.ref 0, someD] h0 = .ok d6 h1 := e6
  obtain ⟨d7, h2, g2, m7, e7⟩ := pick_ok 196 h1 (wL2 ++ wL3) g1 (by simp [wL2]) (by simp [wL2, wL3])
  obtain ⟨d, h3, g3, md, e⟩ := pick_ok 196 h2 [someD, someD, d5, d6, d7] g2 (by simp) (by simp)
  refine ⟨d, h3, ?_, g3, ?_⟩
  · simp only [List.mem_cons, List.not_mem_nil, or_false] at md
    rcases md with rfl | rfl | rfl | rfl | rfl
    · exact pln_mono (by omega) some_f.2
    · exact pln_mono (by omega) some_f.2
    · exact pln_mono (by omega) p5
    · exact pln_mono (by omega) p6
    · exact wL23_pln m7
  · generalize wL2 ++ wL3 = L at e7 ⊢
    unfold AF
    generalize goodD = G
    generalize someD = G2 at e5 e6 e ⊢
    simp -implicitDefEqProofs [ga, stFor, stFst, stSnd, i__law_arguments_hold, e5, e6, e7, e]
def slL : List D := [.int 0, .int (-3), .int 1000000000000, .int 1000000000001, .bl true, .non]
theorem slL_pln {x : D} (h : x ∈ slL) : pln 100 x = true := List.all_eq_true.1 (by decide +kernel : slL.all (pln 100) = true) x h
def faL : List D := [.int 0, .int 5, .int (-1000000000000), .int 1000000000000, .int 1000000000001, .bl true, .non]
theorem faL_pln {x : D} (h : x ∈ faL) : pln 100 x = true := List.all_eq_true.1 (by decide +kernel : faL.all (pln 100) = true) x h
theorem ah17 {r h : Hs} (g : StR r h) (v1 v4 v5 v6 v7 v8 v9 v10 v11 v12 v13 v14 v15 v16 : Option D) : ∃ y p h', pln 100 y = true ∧ pln 100 p = true ∧ StR r h' ∧ ex mM.sub (callF mM.sub mM.PF 198) (stFst (ga 16)) (AF v1 v4 v5 v6 v7 v8 v9 v10 v11 v12 v13 v14 v15 v16) h = .nx (AF v1 v4 v5 v6 v7 v8 v9 v10 v11 v12 v13 v14 (some y) (some p)) h' := by
  obtain ⟨y, h1, g1, my, e1⟩ := pick_ok 196 h slL g (by simp [slL]) (by simp [slL])
  obtain ⟨p, h2, g2, mp, e2⟩ := pick_ok 196 h1 faL g1 (by simp [faL]) (by simp [faL])
  refine ⟨y, p, h2, slL_pln my, faL_pln mp, g2, ?_⟩
  simp only [slL] at e1
  simp only [faL] at e2
  simp -implicitDefEqProofs [AF, ga, stFor, stFst, stSnd, i__law_arguments_hold, pow12, e1, e2]
section
variable {s y p d r f : D} (h : Hs) (v1 v4 v5 v6 v7 v8 v9 v10 v11 v12 v13 v14 v15 v16 : Option D)
theorem ah11 (pd : pln 100 d = true) (ld : lv 21 d = true) : ex mM.sub (callF mM.sub mM.PF 198) (stFst (ga 10)) (AF v1 v4 v5 v6 v7 v8 (some d) v10 v11 v12 v13 v14 v15 v16) h = .nx (AF v1 v4 v5 v6 v7 v8 (some d) (some (.bl (psB d))) v11 v12 v13 v14 v15 v16) h := by
  cases d with
  | tup xs =>
    obtain ⟨lx, px⟩ := pln_tup.1 pd
    have lx2 := List.all_eq_true.1 (show xs.all (lv 20) = true from ld)
    have l1 : xs.length ≤ 16777216 := by omega
    by_cases l : xs.length ≤ 30
    · have l2 : (xs.length : Int) ≤ 30 := by omega
      have c := comp_pickD (fun x => !plB x) (turnC mM.sub (callF mM.sub mM.PF 198) (.var 18) [18] (.nm 18) (.not_ (.pcall 36 (.cons (.var 18) .nil))) (AF v1 v4 v5 v6 v7 v8 (some (.tup xs)) v10 v11 v12 v13 v14 v15 v16)) h xs (fun x hx => by
        have a : pcallF (callF mM.sub mM.PF 198) 36 [x] h = .ok (.bl (plB x)) h := lplace_any 196 h x (px x hx)
        cases e : plB x with
        | true => rw [e] at a; simp -implicitDefEqProofs [turnC_, AF, a]
        | false => rw [e] at a; simp -implicitDefEqProofs [turnC_, AF, a])
      have ne := filter_anyD (fun x => !plB x) xs
      rw [not_all plB xs] at ne
      have en := eq_nil (Z := xs.filter fun x => !plB x) (fun x hx => px x (List.mem_filter.1 hx).1) (fun x hx => lx2 x (List.mem_filter.1 hx).1)
      rw [ne] at en
      have ps : psB (.tup xs) = xs.all plB := by
        show (decide (xs.length ≤ 30) && xs.all plB) = _
        rw [decide_eq_true l, Bool.true_and]
      rw [ps]
      generalize xs.all plB = B at en
      generalize (xs.filter fun x => !plB x) = Z at c en
      unfold AF at c ⊢
      generalize goodD = G at c ⊢
      generalize someD = G2 at c ⊢
      simp -implicitDefEqProofs [ga, stFor, stFst, stSnd, i__law_arguments_hold, l1, l2, c, en]
    · have l2 : ¬ (xs.length : Int) ≤ 30 := by omega
      have ps : psB (.tup xs) = false := by
        show (decide (xs.length ≤ 30) && xs.all plB) = _
        rw [decide_eq_false l, Bool.false_and]
      rw [ps]
      simp -implicitDefEqProofs [AF, ga, stFor, stFst, stSnd, i__law_arguments_hold, l1, l2]
  | non => simp -implicitDefEqProofs [AF, ga, stFor, stFst, stSnd, i__law_arguments_hold, psB]
  | bl b => simp -implicitDefEqProofs [AF, ga, stFor, stFst, stSnd, i__law_arguments_hold, psB]
  | int b => simp -implicitDefEqProofs [AF, ga, stFor, stFst, stSnd, i__law_arguments_hold, psB]
  | str b => simp -implicitDefEqProofs [AF, ga, stFor, stFst, stSnd, i__law_arguments_hold, psB]
  | _ => simp [pln] at pd
theorem ah12 (ps : pln 100 s = true) (py : pln 100 y = true) (pd : pln 100 d = true) : ex mM.sub (callF mM.sub mM.PF 198) (stFst (ga 11)) (AF v1 v4 (some s) (some (.str (w6 s))) (some (.str (w7 y))) v8 (some d) (some (.bl (psB d))) v11 v12 (some y) v14 v15 v16) h = .nx (AF v1 v4 (some s) (some (.str (w6 s))) (some (.str (w7 y))) v8 (some d) (some (.bl (psB d))) v11 v12 (some y) v14 v15 v16) h := by
  obtain ⟨t, a, b⟩ := is10 ps pd py
  have a := a h
  have b := b h
  have e0 := eqE0
  have e1 := eSt
  rw [show (if whB 0 1000 y then q "" else q "argument last") = w7 y from rfl] at b
  generalize w7 y = W7 at b ⊢
  unfold w6
  cases es : stB s with
  | true =>
    cases ey : psB d with
    | true => rw [es, ey] at b; simp -implicitDefEqProofs [AF, ga, stFor, stFst, stSnd, i__law_arguments_hold, e0, e1, a] at b ⊢; simp -implicitDefEqProofs [b]
    | false => rw [es, ey] at b; simp -implicitDefEqProofs [AF, ga, stFor, stFst, stSnd, i__law_arguments_hold, e0, e1, a] at b ⊢; simp -implicitDefEqProofs [b]
  | false => rw [es] at b; simp -implicitDefEqProofs [AF, ga, stFor, stFst, stSnd, i__law_arguments_hold, e0, e1, a] at b ⊢; simp -implicitDefEqProofs [b]
end
end Pl

set_option Elab.async false
set_option linter.all false
set_option maxRecDepth 100000
set_option maxHeartbeats 4000000
namespace Pl
open PySem Ci
def w16 (r : D) : Str := if rpB r then Str.ofString "" else Str.ofString "storm reports"
def LW : List Str := [q "", q "argument fast", q "argument slow", q "storm reports"]
theorem wR_mem (r s f : D) : wR r s f ∈ LW := by
  unfold wR
  split
  · split
    · simp [LW]
    · split <;> simp [LW]
  · simp [LW]
def L2 (w : Str) : D := .lst [.str w, .str w]
theorem eqL2 {w : Str} (h : w ∈ LW) : eqD (L2 (pfW w)) (L2 (pfW w)) = some true := by
  have : LW.all (fun w => decide (eqD (L2 (pfW w)) (L2 (pfW w)) = some true)) = true := by decide +kernel
  exact of_decide_eq_true (List.all_eq_true.1 this w h)
theorem eqLE {w : Str} (h : w ∈ LW) : eqD (.str w) (.str (Str.ofString "")) = some (decide (w = q "")) := by
  have : LW.all (fun w => decide (eqD (.str w) (.str (Str.ofString "")) = some (decide (w = q "")))) = true := by decide +kernel
  exact of_decide_eq_true (List.all_eq_true.1 this w h)
theorem mL2 (w : Str) : binD .Mult (.lst [.str w]) (.int 2) = some (L2 w) := rfl
section
variable {s y p d r f : D} (h : Hs) (v1 v4 v5 v6 v7 v8 v9 v10 v11 v12 v13 v14 v15 v16 : Option D)
theorem ah16 (pr : pln 100 r = true) : ex mM.sub (callF mM.sub mM.PF 198) (stFst (ga 15)) (AF v1 v4 v5 v6 v7 v8 v9 v10 (some r) v12 v13 v14 v15 v16) h = .nx (AF v1 v4 v5 (some (.str (w16 r))) v7 v8 v9 v10 (some r) v12 v13 v14 v15 v16) h := by
  have a : pcallF (callF mM.sub mM.PF 198) 38 [r] h = .ok (.bl (rpB r)) h := lreports_any 195 h r pr
  unfold w16
  cases e : rpB r with
  | true => rw [e] at a; simp -implicitDefEqProofs [AF, ga, stFor, stFst, stSnd, i__law_arguments_hold, a]
  | false => rw [e] at a; simp -implicitDefEqProofs [AF, ga, stFor, stFst, stSnd, i__law_arguments_hold, a]
theorem ah18 (ps : pln 100 s = true) (pf : pln 100 f = true) : ex mM.sub (callF mM.sub mM.PF 198) (stFst (ga 17)) (AF v1 v4 v5 (some (.str (w16 r))) v7 v8 v9 v10 (some r) v12 v13 v14 (some s) (some f)) h = .nx (AF v1 v4 v5 (some (.str (w16 r))) v7 (some (.str (wR r s f))) v9 v10 (some r) v12 v13 v14 (some s) (some f)) h := by
  have a1 : pcallF (callF mM.sub mM.PF 198) 36 [s] h = .ok (.bl (plB s)) h := lplace_any 196 h s ps
  have a2 : pcallF (callF mM.sub mM.PF 198) 36 [f] h = .ok (.bl (plB f)) h := lplace_any 196 h f pf
  have e0 := eqE0
  have e1 := eRp
  unfold w16 wR
  cases er : rpB r with
  | false => simp -implicitDefEqProofs [AF, ga, stFor, stFst, stSnd, i__law_arguments_hold, e0, e1]
  | true =>
    cases es : plB s with
    | false =>
      rw [es] at a1
      have z : spdB s f = false := by
        cases z : spdB s f with
        | false => rfl
        | true =>
          obtain ⟨i, j, rfl, rfl, b1, b2, l⟩ := sp_int z
          rw [bd_pl b1] at es; cases es
      simp -implicitDefEqProofs [AF, ga, stFor, stFst, stSnd, i__law_arguments_hold, e0, e1, a1, z]
    | true =>
      rw [es] at a1
      cases ef : plB f with
      | false =>
        rw [ef] at a2
        have z : spdB s f = false := by
          cases z : spdB s f with
          | false => rfl
          | true =>
            obtain ⟨i, j, rfl, rfl, b1, b2, l⟩ := sp_int z
            rw [bd_pl b2] at ef; cases ef
        simp -implicitDefEqProofs [AF, ga, stFor, stFst, stSnd, i__law_arguments_hold, e0, e1, a1, a2, z]
      | true =>
        rw [ef] at a2
        obtain ⟨i, rfl, _, _⟩ := plB_int es
        obtain ⟨j, rfl, _, _⟩ := plB_int ef
        have z : spdB (.int i) (.int j) = decide (i ≤ j) := by simp only [spdB, es, ef, Bool.true_and]
        by_cases q1 : i ≤ j
        · simp -implicitDefEqProofs [AF, ga, stFor, stFst, stSnd, i__law_arguments_hold, e0, e1, a1, a2, z, q1]
        · simp -implicitDefEqProofs [AF, ga, stFor, stFst, stSnd, i__law_arguments_hold, e0, e1, a1, a2, z, q1]
theorem ah19 (pr : pln 100 r = true) (ps : pln 100 s = true) (pf : pln 100 f = true) : ex mM.sub (callF mM.sub mM.PF 198) (stFst (ga 18)) (AF v1 v4 v5 v6 v7 (some (.str (wR r s f))) v9 v10 (some r) v12 v13 v14 (some s) (some f)) h = .nx (AF v1 v4 v5 v6 v7 (some (.str (wR r s f))) v9 v10 (some r) v12 v13 v14 (some s) (some f)) h := by
  obtain ⟨t, a, b⟩ := is15 pr ps pf
  obtain ⟨t2, a2, b2⟩ := is18 pr ps pf
  have a := a h
  have b := b h
  have a2 := a2 h
  have b2 := b2 h
  generalize wR r s f = W at b b2 ⊢
  simp -implicitDefEqProofs [AF, ga, stFor, stFst, stSnd, i__law_arguments_hold, turnC_, a, b, a2, b2]
theorem ah20 (pr : pln 100 r = true) (ps : pln 100 s = true) (pf : pln 100 f = true) : ex mM.sub (callF mM.sub mM.PF 198) (stFst (ga 19)) (AF v1 v4 v5 v6 v7 v8 v9 v10 (some r) v12 v13 v14 (some s) (some f)) h = .nx (AF v1 v4 v5 v6 v7 v8 v9 v10 (some r) (some (L2 (pfW (wR r s f)))) v13 v14 (some s) (some f)) h := by
  have a := ask16 pr ps pf h
  have b := ask17 pr ps pf h
  unfold L2
  generalize pfW (wR r s f) = W at a b ⊢
  simp -implicitDefEqProofs [AF, ga, stFor, stFst, stSnd, i__law_arguments_hold, a, b]
theorem ah21 (pr : pln 100 r = true) : ex mM.sub (callF mM.sub mM.PF 198) (stFst (ga 20)) (AF v1 v4 v5 (some (.str (w16 r))) v7 (some (.str (wR r s f))) v9 v10 (some r) (some (L2 (pfW (wR r s f)))) v13 v14 v15 v16) h = .nx (AF v1 v4 v5 (some (.str (w16 r))) v7 (some (.str (wR r s f))) v9 v10 (some r) (some (L2 (pfW (wR r s f)))) v13 v14 v15 v16) h := by
  obtain ⟨t, a, b⟩ := is19 pr
  have a := a h
  have b := b h
  rw [show (if rpB r then q "" else q "storm reports") = w16 r from rfl] at b
  have m := wR_mem r s f
  have e1 := eqL2 m
  have e2 := eqLE m
  have m2 := mL2 (pfW (wR r s f))
  have rl : ∀ w, rd h (L2 w) = L2 w := fun _ => rfl
  generalize w16 r = W6 at b ⊢
  generalize wR r s f = W at e1 e2 m2 ⊢
  by_cases z : W = q ""
  · have pw : pfW W = q "paper form" := by unfold pfW; rw [if_pos z]
    rw [decide_eq_true z] at e2
    rw [pw] at e1 m2 ⊢
    have rl2 := rl (q "paper form")
    generalize L2 (q "paper form") = LL at e1 m2 rl2 ⊢
    simp -implicitDefEqProofs [AF, ga, stFor, stFst, stSnd, i__law_arguments_hold, e1, e2, m2, rl2, a, b]
  · have pw : pfW W = W := by unfold pfW; rw [if_neg z]
    rw [decide_eq_false z] at e2
    rw [pw] at e1 m2 ⊢
    have rl2 := rl W
    generalize L2 W = LL at e1 m2 rl2 ⊢
    simp -implicitDefEqProofs [AF, ga, stFor, stFst, stSnd, i__law_arguments_hold, e1, e2, m2, rl2, a, b]
theorem ah22 (pr : pln 100 r = true) (ps : pln 100 s = true) : ex mM.sub (callF mM.sub mM.PF 198) (ga 21) (AF v1 v4 v5 (some (.str (w16 r))) v7 v8 v9 v10 (some r) v12 v13 v14 (some s) v16) h = .nx (AF v1 v4 v5 (some (.str (w16 r))) v7 v8 v9 v10 (some r) v12 v13 v14 (some s) v16) h := by
  obtain ⟨t, a, b⟩ := is20 pr ps
  have a := a h
  have b := b h
  have a1 : pcallF (callF mM.sub mM.PF 198) 36 [s] h = .ok (.bl (plB s)) h := lplace_any 196 h s ps
  have e0 := eqE0
  have e1 := eRp
  unfold w16
  cases er : rpB r with
  | false => rw [er] at b; simp -implicitDefEqProofs [AF, ga, stFor, stFst, stSnd, i__law_arguments_hold, e0, e1, a] at b ⊢; simp -implicitDefEqProofs [b]
  | true =>
    cases es : plB s with
    | false => rw [er, es] at b; rw [es] at a1; simp -implicitDefEqProofs [AF, ga, stFor, stFst, stSnd, i__law_arguments_hold, e0, e1, a, a1] at b ⊢; simp -implicitDefEqProofs [b]
    | true => rw [er, es] at b; rw [es] at a1; simp -implicitDefEqProofs [AF, ga, stFor, stFst, stSnd, i__law_arguments_hold, e0, e1, a, a1] at b ⊢; simp -implicitDefEqProofs [b]
end
theorem ah_turn {r h : Hs} (g : StR r h) (v1 v4 v5 v6 v7 v8 v9 v10 v11 v12 v13 v14 v15 v16 : Option D) : ∃ h' u4 u5 u6 u7 u8 u9 u10 u11 u12 u13 u14 u15 u16, StR r h' ∧ ex mM.sub (callF mM.sub mM.PF 198) (ga 0) (AF v1 v4 v5 v6 v7 v8 v9 v10 v11 v12 v13 v14 v15 v16) h = .nx (AF v1 u4 u5 u6 u7 u8 u9 u10 u11 u12 u13 u14 u15 u16) h' := by
  obtain ⟨s, h1, ps, g1, e3⟩ := ah3 g v1 v5 v6 v7 v8 v9 v10 v11 v12 v13 v14 v15 v16
  have e4 := ah4 h1 v1 (some (.lst wL1)) v6 v7 v8 v9 v10 v11 v12 v13 v14 v15 v16 ps
  obtain ⟨y, p, h2, py, pp, g2, e5⟩ := ah5 g1 v1 (some (.lst wL1)) (some s) (some (.str (w6 s))) v7 v8 v9 v10 v11 v12 v13 v14 v15 v16
  have e6 := ah6 h2 v1 (some (.lst wL1)) (some s) (some (.str (w6 s))) v7 v8 v9 v10 v11 v12 (some p) v15 v16 py
  have e7 := ah7 h2 v1 (some (.lst wL1)) v8 v9 v10 v11 v12 (some p) v15 v16 ps py
  have e8 := ah8 (s := s) (y := y) h2 v1 (some (.lst wL1)) (some s) v8 v9 v10 v11 v12 (some y) v15 v16 pp
  have e9 := ah9 h2 v1 (some (.lst wL1)) (some (.str (w6 s))) (some (.str (w7 y))) v9 v10 v11 v12 v15 v16 ps py pp
  obtain ⟨d, h3, ⟨pd, ld⟩, g3, e10⟩ := ah10 g2 v1 (some (.lst wL1)) (some s) (some (.str (w6 s))) (some (.str (w7 y))) (some (.str (w8 s y p))) v9 v10 v11 v12 (some y) (some p) v15 v16
  have e11 := ah11 h3 v1 (some (.lst wL1)) (some s) (some (.str (w6 s))) (some (.str (w7 y))) (some (.str (w8 s y p))) v10 v11 v12 (some y) (some p) v15 v16 pd ld
  have e12 := ah12 h3 v1 (some (.lst wL1)) (some (.str (w8 s y p))) v11 v12 (some p) v15 v16 ps py pd
  obtain ⟨r', h4, pr, g4, e15⟩ := ah15 g3 v1 (some s) (some (.str (w6 s))) (some (.str (w7 y))) (some (.str (w8 s y p))) (some d) (some (.bl (psB d))) v11 v12 (some y) (some p) v15 v16
  have e16 := ah16 h4 v1 (some (.lst (wL2 ++ wL3))) (some s) (some (.str (w6 s))) (some (.str (w7 y))) (some (.str (w8 s y p))) (some d) (some (.bl (psB d))) v12 (some y) (some p) v15 v16 pr
  obtain ⟨sl, fa, h5, psl, pfa, g5, e17⟩ := ah17 g4 v1 (some (.lst (wL2 ++ wL3))) (some s) (some (.str (w16 r'))) (some (.str (w7 y))) (some (.str (w8 s y p))) (some d) (some (.bl (psB d))) (some r') v12 (some y) (some p) v15 v16
  have e18 := ah18 (r := r') h5 v1 (some (.lst (wL2 ++ wL3))) (some s) (some (.str (w7 y))) (some (.str (w8 s y p))) (some d) (some (.bl (psB d))) v12 (some y) (some p) psl pfa
  have e19 := ah19 h5 v1 (some (.lst (wL2 ++ wL3))) (some s) (some (.str (w16 r'))) (some (.str (w7 y))) (some d) (some (.bl (psB d))) v12 (some y) (some p) pr psl pfa
  have e20 := ah20 h5 v1 (some (.lst (wL2 ++ wL3))) (some s) (some (.str (w16 r'))) (some (.str (w7 y))) (some (.str (wR r' sl fa))) (some d) (some (.bl (psB d))) v12 (some y) (some p) pr psl pfa
  have e21 := ah21 (s := sl) (f := fa) h5 v1 (some (.lst (wL2 ++ wL3))) (some s) (some (.str (w7 y))) (some d) (some (.bl (psB d))) (some y) (some p) (some sl) (some fa) pr
  have e22 := ah22 h5 v1 (some (.lst (wL2 ++ wL3))) (some s) (some (.str (w7 y))) (some (.str (wR r' sl fa))) (some d) (some (.bl (psB d))) (some (L2 (pfW (wR r' sl fa)))) (some y) (some p) (some fa) pr psl
  refine ⟨h5, some (.lst (wL2 ++ wL3)), some s, some (.str (w16 r')), some (.str (w7 y)), some (.str (wR r' sl fa)), some d, some (.bl (psB d)), some r', some (L2 (pfW (wR r' sl fa))), some y, some p, some sl, some fa, g5, ah1 h v1 v4 v5 v6 v7 v8 v9 v10 v11 v12 v13 v14 v15 v16 _ ?_⟩
  refine step e3 (step e4 (step e5 (step e6 (step e7 (step e8 (step e9 (step e10 (step e11 (step e12 ?_)))))))))
  refine ah13 h3 v1 (some (.lst wL1)) (some s) (some (.str (w6 s))) (some (.str (w7 y))) (some (.str (w8 s y p))) (some d) (some (.bl (psB d))) v11 v12 (some y) (some p) v15 v16 _ ?_
  exact step e15 (step e16 (step e17 (step e18 (step e19 (step e20 (step e21 e22))))))
end Pl

set_option Elab.async false
set_option linter.all false
set_option maxRecDepth 100000
set_option maxHeartbeats 4000000
namespace Pl
open PySem Ci
theorem arguments_ok {r h : Hs} (g : StR r h) : ∃ h', StR r h' ∧ callF mM.sub mM.PF 199 39 [.ref 0] h = .ok (.bl true) h' := by
  have r12 : rangeD 0 12 = some ((List.range 12).map fun k => .int (k : Nat)) := rng_n 12 (by omega)
  obtain ⟨S', h1, ⟨g1, v1, v4, v5, v6, v7, v8, v9, v10, v11, v12, v13, v14, v15, v16, rfl⟩, e⟩ := for_T (fun S h => StR r h ∧ ∃ v1 v4 v5 v6 v7 v8 v9 v10 v11 v12 v13 v14 v15 v16, S = AF v1 v4 v5 v6 v7 v8 v9 v10 v11 v12 v13 v14 v15 v16) (turnF mM.sub (callF mM.sub mM.PF 198) (.nm 1) (ga 0)) ((List.range 12).map fun k => .int (k : Nat)) (AF none none none none none none none none none none none none none none) h (by
    rintro x _ S h ⟨g, v1, v4, v5, v6, v7, v8, v9, v10, v11, v12, v13, v14, v15, v16, rfl⟩
    obtain ⟨h', u4, u5, u6, u7, u8, u9, u10, u11, u12, u13, u14, u15, u16, g', e⟩ := ah_turn g (some x) v4 v5 v6 v7 v8 v9 v10 v11 v12 v13 v14 v15 v16
    refine ⟨_, h', ⟨g', some x, u4, u5, u6, u7, u8, u9, u10, u11, u12, u13, u14, u15, u16, rfl⟩, ?_⟩
    rw [turn_nm (by simp [AF])]
    exact e) ⟨g, none, none, none, none, none, none, none, none, none, none, none, none, none, none, rfl⟩
  refine ⟨h1, g1, ?_⟩
  rw [callS _ _ 198 _ _ _ _ PF39]
  have s1 : ex mM.sub (callF mM.sub mM.PF 198) (stFst i__law_arguments_hold.body) [some (.ref 0), none, none, none, none, none, none, none, none, none, none, none, none, none, none, none, none, none, none, none] h = .nx (AF none none none none none none none none none none none none none none) h := by
    simp -implicitDefEqProofs [AF, stFst, i__law_arguments_hold, goodD, someD]
  have s2 : ex mM.sub (callF mM.sub mM.PF 198) (stSnd i__law_arguments_hold.body) (AF none none none none none none none none none none none none none none) h = .rt (.bl true) h1 := by
    have f := for1 (sub := mM.sub) (call := callF mM.sub mM.PF 198) (t := .nm 1) (a := .lit (.int (12))) (b := ga 0) (S := AF none none none none none none none none none none none none none none) (h := h) (j := 12) (by simp) r12
    rw [e] at f
    have hs : stSnd i__law_arguments_hold.body = .seq (.for_ (.nm 1) (.rng1 (.lit (.int (12)))) (ga 0)) (.ret (.lit (.bl true))) := rfl
    rw [hs]
    exact step f (by simp)
  have B : ex mM.sub (callF mM.sub mM.PF 198) i__law_arguments_hold.body [some (.ref 0), none, none, none, none, none, none, none, none, none, none, none, none, none, none, none, none, none, none, none] h = .rt (.bl true) h1 := step s1 s2
  simp -implicitDefEqProofs [callB_, show i__law_arguments_hold.np = 1 from rfl, show i__law_arguments_hold.nl = 20 from rfl, B]
theorem plain08 (ns : List Int) : ∃ h', callF mM.sub mM.PF 200 mLaw [.scr (ns.map .int)] [] = .ok (.bl true) h' := by
  obtain ⟨h0, st0, e0⟩ := start_ok 198 ns
  obtain ⟨r1, h1, g1, e1⟩ := papers_ok st0
  obtain ⟨r2, h2, g2, e2⟩ := papers_ok g1
  obtain ⟨r3, h3, g3, e3⟩ := great_ok g2
  obtain ⟨h4, g4, e4⟩ := arguments_ok g3
  refine ⟨h4, ?_⟩
  show callF mM.sub mM.PF (199 + 1) 40 _ _ = _
  rw [callS _ _ 199 _ _ _ _ PF40]
  have Z : ex mM.sub (callF mM.sub mM.PF 199) i_law.body [some (.scr (ns.map .int)), none] [] = .rt (.bl true) h4 := by
    unfold i_law
    refine step (S' := [some (.scr (ns.map .int)), some (.ref 0)]) (h' := h0) (by simp -implicitDefEqProofs [e0]) ?_
    simp -implicitDefEqProofs [e1, e2, e3, e4]
  simp [callB_, show i_law.np = 1 from rfl, show i_law.nl = 2 from rfl, Z]
end Pl

set_option Elab.async false
open PySem PySem.W PyProof.Rows
theorem Ci.plain (ns : List Int) (h : ns.length ≤ 63) : ∃ h', Ci.callF Ci.mM.sub Ci.mM.PF 200 Ci.mLaw [.scr (ns.map .int)] [] = .ok (.bl true) h' := Pl.plain08 ns
set_option maxRecDepth 100000 in
set_option maxHeartbeats 0 in
theorem PySem.Challenge.cw_coneshoisted_k08_papers_and_arguments_of_holds : PySem.Challenge.rw_coneshoisted_k08_papers_and_arguments_of.Holds := by
  w_on; o_law; k_head; (case hw => w_witness2)
  k_fill
  exact Ci.law_end (l := PySem.Challenge.rw_coneshoisted_k08_papers_and_arguments_of) (n := 63) (k := 200) rfl (by decide) rfl ⟨rfl, by decide, by decide⟩ (fun w h Y => PySem.W.kIn_of Y) rfl (fun p => by kernel_rfl) (by decide +kernel) Ci.plain

