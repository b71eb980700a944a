import PyProof.Rows.All
import Wide.All
import OpenK.AllK
import Wide.FinOn
import PySem.Challenge.RW_coneshoisted_k39_arguments_of_watches
import PyProof.EqLayable
import KE.DataMinMax
import KE.SortData
import KE.KExcSuper
import KE.KSuper
import HandS.Base
import HandS.Call
import HandS.Exc
import HandS.ExcCtx
import HandS.ExcField
import HandS.HotCalls
import HandS.ForMost
import HandS.ForExc
import HandS.IsInst
import HandS.Deep
import HandS.Flow
import HandS.TupAny
import HandS.Wide
import HandS.RaiseMore
import HandS.CallLocal
import HandS.Zip
import HandS.SuiteRaise
import HandS.TupMul
import KE.SortCalls
import HandS.More
import HandS.SortInts
import HandS.Small
import KE.KTupSum
import HandS.DictComp
import HandS.ExcIs
import KE.KExcIs
import HandS.ExcValue
import KE.GoesEnum
import HandS.Conv
import HandS.SetFor
import HandS.Style
import HandS.Ends
set_option Elab.async false
set_option linter.all false
/-! Ci: data, store, the small language, its evaluator. -/
namespace Ci
open PySem

inductive D where
  | non | bl (b : Bool) | int (i : Int) | str (x : Str)
  | tup (xs : List D) | lst (xs : List D)
  | ref (n : Nat) | fn (n : Nat) | exc (c : Nat) (v : D)
  | scr (xs : List D)
  deriving Inhabited

mutual
/-- equal in every part -/
def D.beq : D → D → Bool
  | .non, .non => true
  | .bl a, .bl b => a == b
  | .int a, .int b => a == b
  | .str a, .str b => a == b
  | .tup a, .tup b => D.beqs a b
  | .lst a, .lst b => D.beqs a b
  | .ref a, .ref b => a == b
  | .fn a, .fn b => a == b
  | .exc a v, .exc b w => a == b && D.beq v w
  | .scr a, .scr b => D.beqs a b
  | _, _ => false
def D.beqs : List D → List D → Bool
  | [], [] => true
  | a :: as, b :: bs => D.beq a b && D.beqs as bs
  | _, _ => false
end
mutual
theorem D.beq_eq : ∀ {a b : D}, D.beq a b = true → a = b
  | .non, b, h => by cases b <;> first | rfl | (simp [D.beq] at h)
  | .bl a, b, h => by cases b <;> simp_all [D.beq]
  | .int a, b, h => by cases b <;> simp_all [D.beq]
  | .str a, b, h => by cases b <;> simp_all [D.beq]
  | .tup a, b, h => by
    cases b <;> simp only [D.beq, Bool.false_eq_true] at h
    rw [D.beqs_eq h]
  | .lst a, b, h => by
    cases b <;> simp only [D.beq, Bool.false_eq_true] at h
    rw [D.beqs_eq h]
  | .ref a, b, h => by cases b <;> simp_all [D.beq]
  | .fn a, b, h => by cases b <;> simp_all [D.beq]
  | .exc a v, b, h => by
    cases b <;> simp only [D.beq, Bool.false_eq_true, Bool.and_eq_true, beq_iff_eq] at h
    rw [h.1, D.beq_eq h.2]
  | .scr a, b, h => by
    cases b <;> simp only [D.beq, Bool.false_eq_true] at h
    rw [D.beqs_eq h]
theorem D.beqs_eq : ∀ {a b : List D}, D.beqs a b = true → a = b
  | [], [], _ => rfl
  | [], _ :: _, h => by simp [D.beqs] at h
  | _ :: _, [], h => by simp [D.beqs] at h
  | a :: as, b :: bs, h => by
    simp only [D.beqs, Bool.and_eq_true] at h
    rw [D.beq_eq h.1, D.beqs_eq h.2]
end

/-- a dict's keys: ints and texts -/
abbrev Ky := Sum Int Str
/-- an object that may change -/
inductive O where
  | lst (xs : List D) | dct (kvs : List (Ky × D))
  deriving Inhabited
abbrev Hs := List O
abbrev Sl := List (Option D)
inductive R (α : Type) where
  | ok (a : α) (h : Hs) | exc (c : Nat) (v : D) (h : Hs) | bad
def R.bind {α β : Type} : R α → (α → Hs → R β) → R β
  | .ok a h, f => f a h
  | .exc c v h, _ => .exc c v h
  | .bad, _ => .bad

/-! ### data -/
mutual
/-- no reference, def or exception within -/
def D.pure : D → Bool
  | .tup xs | .lst xs => D.pures xs
  | .ref _ | .fn _ | .exc _ _ | .scr _ => false
  | _ => true
def D.pures : List D → Bool
  | [] => true
  | x :: xs => D.pure x && D.pures xs
end
mutual
/-- no reference or exception within (defs may be) -/
def D.clear : D → Bool
  | .tup xs | .lst xs => D.clears xs
  | .ref _ | .exc _ _ | .scr _ => false
  | _ => true
def D.clears : List D → Bool
  | [] => true
  | x :: xs => D.clear x && D.clears xs
end
mutual
/-- no exception within -/
def D.noExc : D → Bool
  | .tup xs | .lst xs | .scr xs => D.noExcs xs
  | .exc _ _ => false
  | _ => true
def D.noExcs : List D → Bool
  | [] => true
  | x :: xs => D.noExc x && D.noExcs xs
end
def O.noExc : O → Bool
  | .lst xs => D.noExcs xs
  | .dct kvs => D.noExcs (kvs.map (·.2))
mutual
def D.py : D → PyData
  | .non => .none
  | .bl b => .bool b
  | .int i => .int i
  | .str x => .str x
  | .tup xs => .tuple (D.pys xs)
  | .lst xs => .list (D.pys xs)
  | .ref _ | .fn _ | .exc _ _ | .scr _ => .dict []
def D.pys : List D → List PyData
  | [] => []
  | x :: xs => D.py x :: D.pys xs
end
def D.scal : D → Bool
  | .non | .bl _ | .int _ | .str _ => true
  | _ => false
def D.eqOk (d : D) : Bool := d.pure && SeqAt.shaped d.py
/-- what is read: a changing list as it is now -/
def rd (h : Hs) : D → D
  | .ref n => match h[n]? with
    | some (.lst xs) => .lst xs
    | _ => .ref n
  | d => d
def kyOf : D → Option Ky
  | .int i => some (.inl i)
  | .str x => some (.inr x)
  | _ => none
def kyD : Ky → D
  | .inl i => .int i
  | .inr x => .str x
/-- what stands under a key -/
def dval (kvs : List (Ky × D)) (k : Ky) : Option D := (kvs.find? fun kv => decide (kv.1 = k)).map (·.2)
def dput (kvs : List (Ky × D)) (k : Ky) (v : D) : List (Ky × D) :=
  if (kvs.any fun kv => decide (kv.1 = k)) = true then kvs.map (fun kv => if kv.1 = k then (kv.1, v) else kv) else kvs ++ [(k, v)]
def dputs (kvs : List (Ky × D)) : List (Ky × D) → List (Ky × D)
  | [] => kvs
  | (k, v) :: r => dputs (dput kvs k v) r
/-- a dict -/
def dct (h : Hs) : D → Option (List (Ky × D))
  | .ref n => match h[n]? with
    | some (.dct kvs) => some kvs
    | _ => none
  | _ => none
/-- the changing lists within as they are now -/
def thaw (h : Hs) : Nat → D → D
  | 0, d => d
  | k + 1, d => match rd h d with
    | .tup xs => .tup (xs.map (thaw h k))
    | .lst xs => .lst (xs.map (thaw h k))
    | e => e

/-! ### the language -/
inductive Bl where
  | len | all | any | tuple | list | abs | int | sum | max1 | min1 | max2 | min2 | sorted | repr | str
  deriving DecidableEq
inductive Me where
  | append | index | count | extend | pop
  deriving DecidableEq
inductive Ty where
  | int | bool | str | tuple | list
  deriving DecidableEq
mutual
inductive Tg where
  | nm (i : Nat) | tp (ts : Tgs)
inductive Tgs where
  | nil | cons (t : Tg) (ts : Tgs)
end
mutual
inductive E where
  | nope | omit
  | var (i : Nat) | lit (d : D) | glb (x : Str) (d : D) | fn (i : Nat)
  | bin (op : Operator) (a b : E) | neg (a : E)
  | not_ (a : E) | and_ (a b : E) | or_ (a b : E) | ife (c a b : E)
  | cmp (o : CmpOp) (a b : E) | cmp2 (o p : CmpOp) (a b c : E) | cmp3 (o p q : CmpOp) (a b c d : E)
  | isN (a : E) | noN (a : E)
  | tup (es : Es) | il (l : L) | ml (l : L)
  | ix (a b : E) | sl (a lo hi : E) | rev (a : E) | rlist (t : Bool) (a b : E) | dc (k v : E) (own : List Nat) (tg : Tg) (it : It) (cond : E)
  | call (f : Nat) (es : Es) | pcall (f : Nat) (es : Es) | vcall (i : Nat) (es : Es) | pvcall (i : Nat) (es : Es)
  | isI (a : E) (t : Ty) | isC (a : E) (c : Nat)
  | blt (b : Bl) (es : Es) | meth (m : Me) (a : E) (es : Es) | attr (a : E) (k : Nat)
  | dget (a k d : E) | mdct | mrep (a b : E) | mcat (a b : E)
inductive Es where
  | nil | cons (e : E) (es : Es)
inductive L where
  | disp (es : Es) | comp (elt : E) (own : List Nat) (tg : Tg) (it : It) (cond : E)
  | compC (e : Bool) (elt : E) (own : List Nat) (tg : Tg) (i : Nat) (cond : E)
inductive It where
  | val (e : E) | rng1 (a : E) | rng2 (a b : E) | enum (e : E) | zip2 (a b : E)
end
def E.isOmit : E → Bool
  | .omit => true
  | _ => false
inductive St where
  | asg (t : Tg) (e : E) | set (a i e : E) | augx (a i : E) (op : Operator) (e : E) | aug (i : Nat) (op : Operator) (e : E)
  | ex (e : E) | ret (e : E) | retn | ife (c : E) (s t : St) | for_ (t : Tg) (it : It) (s : St) | whl (c : E) (s : St)
  | rais (c : Nat) (e : E) | try_ (s : St) (c i : Nat) (t : St) | brk | cnt | pass | skip | nope | seq (s t : St)
  | enr (i : Nat) (a elt : E) (own : List Nat) (tg : Tg) (cond : E)

/-! ### values -/
def okL (n : Nat) : Bool := decide (n ≤ sizeLine)
def addD : D → D → Option D
  | .int a, .int b => some (.int (a + b))
  | .str a, .str b => if okL (a.length + b.length) then some (.str (a ++ b)) else none
  | .tup a, .tup b => if okL (a.length + b.length) then some (.tup (a ++ b)) else none
  | .lst a, .lst b => if okL (a.length + b.length) then some (.lst (a ++ b)) else none
  | _, _ => none
def mulOk (a b : Int) : Bool := decide (a.natAbs.log2 + b.natAbs.log2 < 1000000)
def binD : Operator → D → D → Option D
  | .Add, a, b => addD a b
  | .Sub, .int a, .int b => some (.int (a - b))
  | .Mult, .int a, .int b => if mulOk a b then some (.int (a * b)) else none
  | .Mult, .tup a, .int k => if decide (0 ≤ k) && decide (k ≤ 2000) && decide (a.length ≤ 2000) && !a.isEmpty then some (.tup (List.replicate k.toNat a).flatten) else none
  | .Mult, .lst a, .int k => if decide (0 ≤ k) && decide (k ≤ 2000) && decide (a.length ≤ 2000) then some (.lst (List.replicate k.toNat a).flatten) else none
  | .FloorDiv, .int a, .int b => if decide (0 < b) && decide (b.natAbs.log2 < 9000) then some (.int (a / b)) else none
  | .Mod, .int a, .int b => if decide (0 < b) then some (.int (a % b)) else none
  | .Pow, .int a, .int b => if decide (0 ≤ b) && decide (b ≤ 100) && decide (a.natAbs ≤ 1000) then some (.int (a ^ b.toNat)) else none
  | .BitAnd, .int a, .int b => some (.int (Builtin.bitAnd a b))
  | _, _, _ => none
/-- one of several, from behind too -/
def ixI (n : Nat) (i : Int) : Option Nat := if 0 ≤ i then (if i < n then some i.toNat else none) else if -(n : Int) ≤ i then some (i + n).toNat else none
def atD (xs : List D) (i : Int) : Option D := (ixI xs.length i).bind fun j => xs[j]?
def chD (s : Str) (i : Int) : Option D := ((ixI s.cps.toList.length i).bind fun j => s.cps.toList[j]?).map fun c => .str ⟨#[c]⟩
def ixD : D → D → Option D
  | .tup xs, .int i => atD xs i
  | .lst xs, .int i => atD xs i
  | .str s, .int i => if okL s.length then chD s i else none
  | _, _ => none
def cutI (n : Nat) (d : Nat) : Option Int → Nat
  | none => d
  | some i => if i < 0 then (i + n).toNat else min i.toNat n
def cutL (xs : List D) (lo hi : Option Int) : List D := (xs.drop (cutI xs.length 0 lo)).take (cutI xs.length xs.length hi - cutI xs.length 0 lo)
def slD : D → Option Int → Option Int → Option D
  | .tup xs, lo, hi => some (.tup (cutL xs lo hi))
  | .lst xs, lo, hi => some (.lst (cutL xs lo hi))
  | _, _, _ => none
def eqD (a b : D) : Option Bool := if a.eqOk && b.eqOk then some (PyData.eqv a.py b.py) else none
def inD (a : D) : List D → Bool := fun xs => (D.pys xs).any fun z => PyData.eqv z a.py
def cmpD : CmpOp → D → D → Option Bool
  | .Eq, a, b => eqD a b
  | .NotEq, a, b => (eqD a b).map (!·)
  | .Lt, .int a, .int b => some (decide (a < b))
  | .LtE, .int a, .int b => some (decide (a ≤ b))
  | .Gt, .int a, .int b => some (decide (b < a))
  | .GtE, .int a, .int b => some (decide (b ≤ a))
  | .In, a, .lst xs => if a.eqOk && D.eqOk (.lst xs) then some (inD a xs) else none
  | .NotIn, a, .lst xs => if a.eqOk && D.eqOk (.lst xs) then some (!inD a xs) else none
  | .In, a, .tup xs => if a.eqOk && D.eqOk (.tup xs) then some (inD a xs) else none
  | .NotIn, a, .tup xs => if a.eqOk && D.eqOk (.tup xs) then some (!inD a xs) else none
  | _, _, _ => none
/-- truth -/
def truD : D → Option Bool
  | .non => some false
  | .bl b => some b
  | .int i => some (i != 0)
  | .str s => if okL s.length then some (s.length != 0) else none
  | .tup xs => some (!xs.isEmpty)
  | .lst xs => some (!xs.isEmpty)
  | _ => none
def intsOf : List D → Option (List Int)
  | [] => some []
  | .int i :: r => (intsOf r).map (i :: ·)
  | _ :: _ => none
def blsOf : List D → Option (List Bool)
  | [] => some []
  | .bl i :: r => (blsOf r).map (i :: ·)
  | _ :: _ => none
def seqD : D → Option (List D)
  | .tup xs => some xs
  | .lst xs => some xs
  | _ => none
def maxI : List Int → Int
  | [] => 0
  | [a] => a
  | a :: r => if maxI r ≤ a then a else maxI r
def minI : List Int → Int
  | [] => 0
  | [a] => a
  | a :: r => if a ≤ minI r then a else minI r
def isNonD : D → Bool
  | .non => true
  | _ => false
/-- in order -/
def insI (a : Int) : List Int → List Int
  | [] => [a]
  | b :: r => if a ≤ b then a :: b :: r else b :: insI a r
def sortI : List Int → List Int
  | [] => []
  | a :: r => insI a (sortI r)
def keysI : List (Ky × D) → Option (List Int)
  | [] => some []
  | (.inl i, _) :: r => (keysI r).map (i :: ·)
  | (.inr _, _) :: _ => none
/-- data that can be held against one another -/
def alikeB (xs : List D) : Bool := D.pures xs && (xs.all fun a => xs.all fun b => PySem.W.alike a.py b.py) && (xs.all fun a => !(isNonD a)) && decide (PyData.depthAll (D.pys xs) ≤ 64)
def minB : D → List D → D
  | a, [] => a
  | a, y :: r => minB (if PySem.W.dataLt y.py a.py then y else a) r
def maxB : D → List D → D
  | a, [] => a
  | a, y :: r => maxB (if PySem.W.dataLt a.py y.py then y else a) r
/-- data that are put in order: tuples, not empty -/
def sortB (xs : List D) : Bool := xs.all fun d => match d with
  | .tup (_ :: _) => true
  | _ => false
def bltD : Bl → List D → Option D
  | .len, [.str s] => if okL s.length then some (.int s.length) else none
  | .len, [d] => (seqD d).map fun xs => .int xs.length
  | .all, [.lst xs] => (blsOf xs).map fun bs => .bl (bs.all id)
  | .any, [.lst xs] => (blsOf xs).map fun bs => .bl (bs.any id)
  | .tuple, [d] => (seqD d).map .tup
  | .list, [.scr xs] => some (.lst xs)
  | .list, [d] => (seqD d).map .lst
  | .abs, [.int i] => some (.int (if i < 0 then -i else i))
  | .int, [.int i] => some (.int i)
  | .int, [.bl b] => some (.int (if b then 1 else 0))
  | .sum, [.lst xs] => (intsOf xs).map fun ns => .int ns.sum
  | .sum, [.tup xs] => (intsOf xs).map fun ns => .int ns.sum
  | .max1, [.lst xs] => match intsOf xs with
    | some ns => if ns.isEmpty then none else some (.int (maxI ns))
    | none => match xs with
      | [] => none
      | x :: r => if alikeB (x :: r) then some (maxB x r) else none
  | .min1, [.lst xs] => match intsOf xs with
    | some ns => if ns.isEmpty then none else some (.int (minI ns))
    | none => match xs with
      | [] => none
      | x :: r => if alikeB (x :: r) then some (minB x r) else none
  | .sorted, [.lst xs] => match intsOf xs with
    | some ns => if okL ns.length then some (.lst ((sortI ns).map .int)) else none
    | none => if alikeB xs && sortB xs && okL xs.length then some (.lst (xs.mergeSort (PySem.W.dataLe false D.py))) else none
  | .sorted, [.tup xs] => match intsOf xs with
    | some ns => if okL ns.length then some (.lst ((sortI ns).map .int)) else none
    | none => if alikeB xs && sortB xs && okL xs.length then some (.lst (xs.mergeSort (PySem.W.dataLe false D.py))) else none
  | .str, [.str a] => some (.str a)
  | .str, [.int i] => if decide (i.natAbs.log2 < 1920) then some (.str (Str.ofString (toString i))) else none
  | .max2, [.int a, .int b] => some (.int (if b > a then b else a))
  | .min2, [.int a, .int b] => some (.int (if b < a then b else a))
  | _, _ => none
def revD : D → Option D
  | .tup xs => some (.tup xs.reverse)
  | .lst xs => some (.lst xs.reverse)
  | _ => none
/-- a call whose one argument may be a dict -/
def bltH (h : Hs) (b : Bl) (xs : List D) : Option D := match b, xs with
  | .sorted, [d] => match dct h d with
    | some kvs => (keysI kvs).bind fun ks => if okL ks.length then some (.lst ((sortI ks).map .int)) else none
    | none => bltD .sorted [rd h d]
  | b, xs => bltD b (xs.map (rd h))
/-- lists of ranges -/
def rlistD (t : Bool) (a b : D) : Option D := match a, b with
  | .int i, .int j => if decide (-16777216 ≤ i) && decide (i ≤ 16777216) && decide (-16777216 ≤ j) && decide (j ≤ 16777216) && decide (j - i ≤ 16777216) then (let xs := (List.range (j - i).toNat).map fun k => D.int (i + (k : Nat)); some (if t then .tup xs else .lst xs)) else none
  | _, _ => none
/-- comparisons, dicts too -/
def cmpH (h : Hs) (o : CmpOp) (x y : D) : Option Bool := match o with
  | .In => match dct h y with
    | some kvs => (kyOf x).map fun k => (dval kvs k).isSome
    | none => cmpD .In (rd h x) (rd h y)
  | .NotIn => match dct h y with
    | some kvs => (kyOf x).map fun k => !(dval kvs k).isSome
    | none => cmpD .NotIn (rd h x) (rd h y)
  | o => cmpD o (rd h x) (rd h y)
def ixH (h : Hs) (x y : D) : Option D := match dct h x with
  | some kvs => (kyOf y).bind fun k => dval kvs k
  | none => ixD (rd h x) y
def isiD : D → Ty → Option Bool
  | .non, _ => some false
  | .bl _, t => some (t == .bool || t == .int)
  | .int _, t => some (t == .int)
  | .str _, t => some (t == .str)
  | .tup _, t => some (t == .tuple)
  | .lst _, t => some (t == .list)
  | _, _ => none

/-! ### the evaluator -/
section
variable (sub : Nat → Nat → Bool) (call : Nat → List D → Hs → R D)
def liftO {α : Type} (o : Option α) (h : Hs) : R α := match o with
  | some a => .ok a h
  | none => .bad
def wipe (S : Sl) : List Nat → Sl
  | [] => S
  | v :: vs => (wipe S vs).set v none
/-- where a walk takes its items -/
inductive Src where
  | fix (xs : List D) | dyn (n : Nat)
/-- a def called with data alone, in a store of its own -/
def pcallF (f : Nat) (ds : List D) (h : Hs) : R D :=
  if D.clears ds then match call f ds [] with
    | .ok d g => let e := thaw g 6 d; if e.clear then .ok e h else .bad
    | .exc c v _ => if v.scal then .exc c v h else .bad
    | .bad => .bad
  else .bad
mutual
def put (S : Sl) (d : D) : Tg → Option Sl
  | .nm i => if i < S.length then some (S.set i (some d)) else none
  | .tp ts => (seqD d).bind fun xs => puts S xs ts
def puts (S : Sl) : List D → Tgs → Option Sl
  | [], .nil => some S
  | x :: xs, .cons t ts => (put S x t).bind fun S' => puts S' xs ts
  | _, _ => none
end
/-- a comprehension's turns -/
def compF (turn : D → Hs → R (Option D)) : List D → Hs → R (List D)
  | [], h => .ok [] h
  | x :: xs, h => (turn x h).bind fun o h1 => (compF turn xs h1).bind fun ys h2 => match o with
    | some y => .ok (y :: ys) h2
    | none => .ok ys h2
/-- the item at a turn -/
def itm (src : Src) (h : Hs) (i : Nat) : Option D := match src with
  | .fix xs => xs[i]?
  | .dyn n => match h[n]? with
    | some (.lst xs) => xs[i]?
    | _ => none
/-- what is walked is no dict -/
def srcOk (src : Src) (h : Hs) : Bool := match src with
  | .fix _ => true
  | .dyn n => match h[n]? with
    | some (.dct _) => false
    | _ => true
def compG (turn : D → Hs → R (Option D)) (src : Src) : Nat → Nat → Hs → R (List D)
  | 0, _, _ => .bad
  | k + 1, i, h => match itm src h i with
    | some x => (turn x h).bind fun o h1 => (compG turn src k (i + 1) h1).bind fun ys h2 => match o with
      | some y => .ok (y :: ys) h2
      | none => .ok ys h2
    | none => if srcOk src h then .ok [] h else .bad
/-- a dict comprehension's turns -/
def compP (turn : D → Hs → R (Option (Ky × D))) (src : Src) : Nat → Nat → Hs → R (List (Ky × D))
  | 0, _, _ => .bad
  | k + 1, i, h => match itm src h i with
    | some x => (turn x h).bind fun o h1 => (compP turn src k (i + 1) h1).bind fun ys h2 => match o with
      | some y => .ok (y :: ys) h2
      | none => .ok ys h2
    | none => if srcOk src h then .ok [] h else .bad
def kvO (x y : D) (h : Hs) : R (Option (Ky × D)) := match kyOf x with
  | some k => .ok (some (k, y)) h
  | none => .bad
def rangeD (a b : Int) : Option (List D) :=
  if decide (-(2 ^ 62) ≤ a) && decide (a < 2 ^ 62) && decide (-(2 ^ 62) ≤ b) && decide (b < 2 ^ 62) then some ((List.range (b - a).toNat).map fun k => .int (a + (k : Nat))) else none
def enumD (i : Nat) : List D → List D
  | [] => []
  | x :: xs => .tup [.int (i : Nat), x] :: enumD (i + 1) xs
def zipD : List D → List D → List D
  | x :: xs, y :: ys => .tup [x, y] :: zipD xs ys
  | _, _ => []
/-- the data are not under another name in the store -/
def fixed (d : D) : Option (List D) := seqD d
def wfuel : Nat := 100000
def noX {α : Type} : R α → R α
  | .exc _ _ _ => .bad
  | r => r
def isLst (h : Hs) (d : D) : Bool := match rd h d with
  | .lst _ => true
  | _ => false
def methD (m : Me) (x : D) (ys : List D) (h2 : Hs) : R D := match m, x, ys with
    | .append, .ref n, [y] => match h2[n]? with
      | some (.lst xs) => if xs.length < sizeLine then .ok .non (h2.set n (.lst (xs ++ [y]))) else .bad
      | _ => .bad
    | .pop, .ref n, [.int i] => match h2[n]? with
      | some (.lst xs) => if decide (0 ≤ i) && decide (i < 2 ^ 62) then match xs[i.toNat]? with
        | some y => .ok y (h2.set n (.lst (xs.eraseIdx i.toNat)))
        | none => .bad
        else .bad
      | _ => .bad
    | .extend, .ref n, [.lst ys] => match h2[n]? with
      | some (.lst xs) => if xs.length + ys.length ≤ sizeLine then .ok .non (h2.set n (.lst (xs ++ ys))) else .bad
      | _ => .bad
    | .index, x, [y] => match rd h2 x with
      | .lst xs => if D.eqOk (.lst xs) && y.eqOk then match (D.pys xs).findIdx? (fun z => PyData.eqv z y.py) with
        | some k => .ok (.int (k : Nat)) h2
        | none => .bad
        else .bad
      | _ => .bad
    | .count, x, [y] => match rd h2 x with
      | .lst xs => if D.eqOk (.lst xs) && y.eqOk then .ok (.int (((D.pys xs).countP fun z => PyData.eqv z y.py : Nat) : Int)) h2 else .bad
      | _ => .bad
    | _, _, _ => .bad
def tru (r : R D) : R Bool := r.bind fun x h => liftO (truD (rd h x)) h
def optI (r : R D) : R (Option Int) := r.bind fun x h => match x with
  | .int i => .ok (some i) h
  | _ => .bad
/-- no reference to a changing thing within -/
def O.clear : O → Bool
  | .lst xs => D.clears xs
  | .dct kvs => D.clears (kvs.map (·.2))
/-- the slots as they are where things from n on are out of sight -/
def cutS (n : Nat) (S : Sl) : Sl := S.map fun o => match o with
  | some (.ref m) => if m < n then some (.ref m) else none
  | some d => if d.clear then some d else none
  | none => none
/-- a dict's keys, or a list's items and their places -/
def srcC (e : Bool) (o : O) : Option (List D) := match e, o with
  | false, .dct kvs => some (kvs.map fun kv => kyD kv.1)
  | true, .lst xs => some (enumD 0 xs)
  | _, _ => none
mutual
def ev : E → Sl → Hs → R D
  | .nope, _, _ => .bad
  | .omit, _, _ => .bad
  | .var i, S, h => match S[i]? with
    | some (some d) => .ok d h
    | _ => .bad
  | .lit d, _, h => .ok d h
  | .glb _ d, _, h => .ok d h
  | .fn i, _, h => .ok (.fn i) h
  | .bin op a b, S, h => (ev a S h).bind fun x h1 => (ev b S h1).bind fun y h2 => liftO (binD op (rd h2 x) (rd h2 y)) h2
  | .neg a, S, h => (ev a S h).bind fun x h1 => match x with
    | .int i => .ok (.int (-i)) h1
    | _ => .bad
  | .not_ a, S, h => (ev a S h).bind fun x h1 => liftO ((truD (rd h1 x)).map fun b => .bl (!b)) h1
  | .and_ a b, S, h => (ev a S h).bind fun x h1 => match truD (rd h1 x) with
    | some true => ev b S h1
    | some false => .ok x h1
    | none => .bad
  | .or_ a b, S, h => (ev a S h).bind fun x h1 => match truD (rd h1 x) with
    | some true => .ok x h1
    | some false => ev b S h1
    | none => .bad
  | .ife c a b, S, h => (tru (ev c S h)).bind fun k h1 => if k then ev a S h1 else ev b S h1
  | .cmp o a b, S, h => (ev a S h).bind fun x h1 => (ev b S h1).bind fun y h2 => liftO ((cmpH h2 o x y).map .bl) h2
  | .cmp2 o p a b c, S, h => (ev a S h).bind fun x h1 => (ev b S h1).bind fun y h2 => match cmpD o (rd h2 x) (rd h2 y) with
    | some true => (ev c S h2).bind fun z h3 => liftO ((cmpD p (rd h3 y) (rd h3 z)).map .bl) h3
    | some false => .ok (.bl false) h2
    | none => .bad
  | .cmp3 o p q a b c d, S, h => (ev a S h).bind fun x h1 => (ev b S h1).bind fun y h2 => match cmpD o (rd h2 x) (rd h2 y) with
    | some true => (ev c S h2).bind fun z h3 => match cmpD p (rd h3 y) (rd h3 z) with
      | some true => (ev d S h3).bind fun w h4 => liftO ((cmpD q (rd h4 z) (rd h4 w)).map .bl) h4
      | some false => .ok (.bl false) h3
      | none => .bad
    | some false => .ok (.bl false) h2
    | none => .bad
  | .isN a, S, h => (ev a S h).bind fun x h1 => .ok (.bl (isNonD x)) h1
  | .noN a, S, h => (ev a S h).bind fun x h1 => .ok (.bl (!isNonD x)) h1
  | .tup es, S, h => (evs es S h).bind fun xs h1 => if okL xs.length then .ok (.tup xs) h1 else .bad
  | .il l, S, h => (evL l S h).bind fun xs h1 => .ok (.lst xs) h1
  | .ml l, S, h => (evL l S h).bind fun xs h1 => .ok (.ref h1.length) (h1 ++ [.lst xs])
  | .ix a b, S, h => (ev a S h).bind fun x h1 => (ev b S h1).bind fun y h2 => liftO (ixH h2 x y) h2
  | .sl a lo hi, S, h => (ev a S h).bind fun x h1 => (if lo.isOmit then (.ok none h1 : R (Option Int)) else optI (ev lo S h1)).bind fun i h2 => (if hi.isOmit then (.ok none h2 : R (Option Int)) else optI (ev hi S h2)).bind fun j h3 => liftO (slD (rd h3 x) i j) h3
  | .rev a, S, h => (ev a S h).bind fun x h1 => liftO (revD (rd h1 x)) h1
  | .rlist t a b, S, h => (if a.isOmit then (.ok (.int 0) h : R D) else ev a S h).bind fun x h1 => (ev b S h1).bind fun y h2 => liftO (rlistD t x y) h2
  | .dc k v own tg it cond, S, h => (evI it S h).bind fun src h1 =>
    let turn : D → Hs → R (Option (Ky × D)) := fun x h2 => match put (wipe S own) x tg with
      | some S2 => noX ((if cond.isOmit then (.ok true h2 : R Bool) else tru (ev cond S2 h2)).bind fun c h3 => if c then (ev k S2 h3).bind fun y h4 => (ev v S2 h4).bind fun z h5 => kvO y z h5 else .ok none h3)
      | none => .bad
    (compP turn src wfuel 0 h1).bind fun ps h2 => .ok (.ref h2.length) (h2 ++ [.dct (dputs [] ps)])
  | .call f es, S, h => (evs es S h).bind fun xs h1 => call f xs h1
  | .pcall f es, S, h => (evs es S h).bind fun xs h1 => pcallF call f xs h1
  | .vcall i es, S, h => match S[i]? with
    | some (some (.fn f)) => (evs es S h).bind fun xs h1 => call f xs h1
    | _ => .bad
  | .pvcall i es, S, h => match S[i]? with
    | some (some (.fn f)) => (evs es S h).bind fun xs h1 => pcallF call f xs h1
    | _ => .bad
  | .isI a t, S, h => (ev a S h).bind fun x h1 => liftO ((isiD (rd h1 x) t).map .bl) h1
  | .isC a c, S, h => (ev a S h).bind fun x h1 => match x with
    | .exc e _ => .ok (.bl (sub e c)) h1
    | _ => .bad
  | .blt b es, S, h => (evs es S h).bind fun xs h1 => liftO (bltH h1 b xs) h1
  | .meth m a es, S, h => (ev a S h).bind fun x h1 => if isLst h1 x then (evs es S h1).bind fun ys h2 => methD m x ys h2 else .bad
  | .attr a k, S, h => (ev a S h).bind fun x h1 => match x with
    | .exc e v => if sub e k then .ok v h1 else .bad
    | _ => .bad
  | .dget a k d, S, h => (ev a S h).bind fun x h1 => match dct h1 x with
    | some _ => (ev k S h1).bind fun y h2 => (ev d S h2).bind fun w h3 => match dct h3 x, kyOf y with
      | some kvs, some ky => .ok ((dval kvs ky).getD w) h3
      | _, _ => .bad
    | none => .bad
  | .mdct, _, h => .ok (.ref h.length) (h ++ [.dct []])
  | .mcat a b, S, h => (ev a S h).bind fun x h1 => (ev b S h1).bind fun y h2 => match rd h2 x, rd h2 y with
    | .lst xs, .lst ys => if okL (xs.length + ys.length) then .ok (.ref h2.length) (h2 ++ [.lst (xs ++ ys)]) else .bad
    | _, _ => .bad
  | .mrep a b, S, h => (ev a S h).bind fun x h1 => (ev b S h1).bind fun y h2 => match rd h2 x, y with
    | .lst xs, .int k => if decide (0 ≤ k) && decide (k ≤ 2000) && decide (xs.length ≤ 2000) then .ok (.ref h2.length) (h2 ++ [.lst (List.replicate k.toNat xs).flatten]) else .bad
    | _, _ => .bad
def evs : Es → Sl → Hs → R (List D)
  | .nil, _, h => .ok [] h
  | .cons e es, S, h => (ev e S h).bind fun x h1 => (evs es S h1).bind fun xs h2 => .ok (x :: xs) h2
def evL : L → Sl → Hs → R (List D)
  | .disp es, S, h => (evs es S h).bind fun xs h1 => if okL xs.length then .ok xs h1 else .bad
  | .comp elt own tg it cond, S, h => (evI it S h).bind fun src h1 =>
    let turn : D → Hs → R (Option D) := fun x h2 => match put (wipe S own) x tg with
      | some S2 => noX ((if cond.isOmit then (.ok true h2 : R Bool) else tru (ev cond S2 h2)).bind fun k h3 => if k then (ev elt S2 h3).bind fun y h4 => .ok (some y) h4 else .ok none h3)
      | none => .bad
    match src with
    | .fix xs => if okL xs.length then compF turn xs h1 else .bad
    | .dyn n => compG turn (.dyn n) wfuel 0 h1
  | .compC e elt own tg i cond, S, h => match S[i]? with
    | some (some (.ref n)) => match (h[n]?).bind (srcC e) with
      | some ks => if okL ks.length && ((h.take (n + 1)).all O.clear) then (noX (compF (fun (x : D) (h2 : Hs) => match put (wipe (cutS n S) own) x tg with
      | some S2 => noX ((if cond.isOmit then (.ok true h2 : R Bool) else tru (ev cond S2 h2)).bind fun k h3 => if k then (ev elt S2 h3).bind fun y h4 => .ok (some y) h4 else .ok none h3)
      | none => .bad) ks (h.take n))).bind fun ys h2 => if h2.length = n then .ok ys (h2 ++ h.drop n) else .bad
        else .bad
      | none => .bad
    | _ => .bad
def evI : It → Sl → Hs → R Src
  | .val e, S, h => (ev e S h).bind fun x h1 => match x with
    | .ref n => if srcOk (.dyn n) h1 then .ok (.dyn n) h1 else .bad
    | .scr xs => .ok (.fix xs) h1
    | .str _ => .bad
    | d => liftO ((seqD d).map .fix) h1
  | .rng1 a, S, h => (ev a S h).bind fun x h1 => match x with
    | .int j => liftO ((rangeD 0 j).map .fix) h1
    | _ => .bad
  | .rng2 a b, S, h => (ev a S h).bind fun x h1 => (ev b S h1).bind fun y h2 => match x, y with
    | .int i, .int j => liftO ((rangeD i j).map .fix) h2
    | _, _ => .bad
  | .enum a, S, h => (ev a S h).bind fun x h1 => match x with
    | .lst xs => .ok (.fix (enumD 0 xs)) h1
    | .tup xs => .ok (.fix (enumD 0 xs)) h1
    | _ => .bad
  | .zip2 a b, S, h => (ev a S h).bind fun x h1 => (ev b S h1).bind fun y h2 => match x, y with
    | .lst xs, .lst ys => .ok (.fix (zipD xs ys)) h2
    | .tup xs, .tup ys => .ok (.fix (zipD xs ys)) h2
    | _, _ => .bad
end
def tst (e : E) (S : Sl) (h : Hs) : R Bool := tru (ev sub call e S h)
/-- how a statement ends -/
inductive RS where
  | nx (S : Sl) (h : Hs) | rt (d : D) (h : Hs) | bk (S : Sl) (h : Hs) | ct (S : Sl) (h : Hs) | exc (c : Nat) (v : D) (S : Sl) (h : Hs) | bad
def RS.andThen : RS → (Sl → Hs → RS) → RS
  | .nx S h, f => f S h
  | r, _ => r
/-- of an expression's end -/
def R.st {α : Type} : R α → Sl → (α → Hs → RS) → RS
  | .ok a h, _, f => f a h
  | .exc c v h, S, _ => .exc c v S h
  | .bad, _, _ => .bad
def forF (turn : D → Sl → Hs → RS) : List D → Sl → Hs → RS
  | [], S, h => .nx S h
  | x :: xs, S, h => match turn x S h with
    | .nx S' h' => forF turn xs S' h'
    | .ct S' h' => forF turn xs S' h'
    | .bk S' h' => .nx S' h'
    | r => r
def forG (turn : D → Sl → Hs → RS) (src : Src) : Nat → Nat → Sl → Hs → RS
  | 0, _, _, _ => .bad
  | k + 1, i, S, h => match itm src h i with
    | some x => match turn x S h with
      | .nx S' h' => forG turn src k (i + 1) S' h'
      | .ct S' h' => forG turn src k (i + 1) S' h'
      | .bk S' h' => .nx S' h'
      | r => r
    | none => if srcOk src h then .nx S h else .bad
def whlF (c : Sl → Hs → R Bool) (body : Sl → Hs → RS) : Nat → Sl → Hs → RS
  | 0, _, _ => .bad
  | k + 1, S, h => (c S h).st S fun b h1 => if b then match body S h1 with
      | .nx S' h' => whlF c body k S' h'
      | .ct S' h' => whlF c body k S' h'
      | .bk S' h' => .nx S' h'
      | r => r
    else .nx S h1
/-- xs[i] = v -/
def setD (xs : List D) (i : Int) (v : D) : Option (List D) := (ixI xs.length i).map fun j => xs.set j v
def augV (op : Operator) (x : Int) (y : D) : Option D := match op, y with
  | .Add, .int y => some (.int (x + y))
  | .Sub, .int y => some (.int (x - y))
  | _, _ => none
/-- o[j] = v, o a list -/
def augO (S : Sl) (o : D) (j : Int) (v : D) (h3 : Hs) : RS := match o with
  | .ref n => match h3[n]? with
    | some (.lst xs) => match setD xs j v with
      | some ys => .nx S (h3.set n (.lst ys))
      | none => .bad
    | _ => .bad
  | _ => .bad
def ex : St → Sl → Hs → RS
  | .asg t e, S, h => (ev sub call e S h).st S fun x h1 => match put S x t with
    | some S' => .nx S' h1
    | none => .bad
  | .set a i e, S, h => (ev sub call e S h).st S fun v h1 => (ev sub call a S h1).st S fun o h2 => (ev sub call i S h2).st S fun k h3 => match o, k with
    | .ref n, .int k => match h3[n]? with
      | some (.lst xs) => match setD xs k v with
        | some ys => .nx S (h3.set n (.lst ys))
        | none => .bad
      | some (.dct kvs) => if kvs.length < sizeLine then .nx S (h3.set n (.dct (dput kvs (.inl k) v))) else .bad
      | _ => .bad
    | _, _ => .bad
  | .augx a i op e, S, h => (ev sub call a S h).st S fun o h1 => (ev sub call i S h1).st S fun k h2 => match rd h2 o, k with
    | .lst xs, .int j => match atD xs j with
      | some (.int x) => (ev sub call e S h2).st S fun y h3 => match augV op x y with
        | some v => augO S o j v h3
        | none => .bad
      | _ => .bad
    | _, _ => .bad
  | .aug i op e, S, h => match S[i]? with
    | some (some (.int x)) => (ev sub call e S h).st S fun y h1 => match op, y with
      | .Add, .int y => .nx (S.set i (some (.int (x + y)))) h1
      | .Sub, .int y => .nx (S.set i (some (.int (x - y)))) h1
      | _, _ => .bad
    | _ => .bad
  | .ex e, S, h => (ev sub call e S h).st S fun _ h1 => .nx S h1
  | .ret e, S, h => (ev sub call e S h).st S fun x h1 => .rt x h1
  | .retn, _, h => .rt .non h
  | .ife c s t, S, h => (tst sub call c S h).st S fun b h1 => if b then ex s S h1 else ex t S h1
  | .for_ t it s, S, h => (evI sub call it S h).st S fun src h1 =>
    let turn : D → Sl → Hs → RS := fun x S h => match put S x t with
      | some S' => ex s S' h
      | none => .bad
    match src with
    | .fix xs => forF turn xs S h1
    | .dyn n => forG turn (.dyn n) wfuel 0 S h1
  | .whl c s, S, h => whlF (tst sub call c) (ex s) wfuel S h
  | .enr i a elt own tg cond, S, h => (ev sub call a S h).st S fun x h1 => match x with
    | .lst xs => if decide (i < S.length) then (ev sub call (.il (.comp elt own tg (.val (.lit (.tup (enumD 0 xs)))) cond)) (S.set i none) h1).st (S.set i none) fun d h2 => .rt d h2 else .bad
    | _ => .bad
  | .rais c e, S, h => (ev sub call e S h).st S fun v h1 => if v.scal then .exc c v S h1 else .bad
  | .try_ s c i t, S, h => match ex s S h with
    | .exc e v S' h' => if sub e c then match ex t (S'.set i (some (.exc e v))) h' with
        | .rt d h2 => if d.noExc && h2.all O.noExc then .rt d h2 else .bad
        | _ => .bad
      else .exc e v S' h'
    | r => r
  | .brk, S, h => .bk S h
  | .cnt, S, h => .ct S h
  | .pass, S, h => .nx S h
  | .skip, S, h => .nx S h
  | .nope, _, _ => .bad
  | .seq s t, S, h => (ex s S h).andThen fun S' h' => ex t S' h'
end
/-- a def: its parameters' number, its names' number, its body -/
structure Fd where
  np : Nat
  nl : Nat
  body : St
def callB (sub : Nat → Nat → Bool) (call : Nat → List D → Hs → R D) (f : Fd) (ds : List D) (h : Hs) : R D :=
  if ds.length = f.np then match ex sub call f.body (ds.map some ++ List.replicate (f.nl - f.np) none) h with
    | .nx _ h' => .ok .non h'
    | .rt d h' => .ok d h'
    | .exc c v _ h' => .exc c v h'
    | _ => .bad
  else .bad
def callF (sub : Nat → Nat → Bool) (P : Nat → Option Fd) : Nat → Nat → List D → Hs → R D
  | 0, _, _, _ => .bad
  | k + 1, f, ds, h => match P f with
    | some fd => callB sub (callF sub P k) fd ds h
    | none => .bad
end Ci

set_option Elab.async false
set_option linter.all false
set_option maxRecDepth 100000
set_option maxHeartbeats 4000000
/-! An own exception class whose __init__ says super().__init__(text), then keeps its argument. -/
namespace Ci
open PySem PySem.W PySem.Calls PyProof.Rows PySem.HandSPX
def eA (par : Str) (p1 p2 : Pos) : Arguments := { posonlyargs := [], args := [{ arg := "self", annotation := none, pos := p1 }, { arg := par, annotation := none, pos := p2 }], vararg := none, kwonlyargs := [], kw_defaults := [], kwarg := none, defaults := [] }
def eB (par msg : Str) (q1 q2 q3 q4 q5 q6 q7 q8 q9 q10 : Pos) (k : Nat) : List Stmt :=
  [.Expr (.Call (.Attribute (.Call (.Name "super" q1) [] [] q2) "__init__" q3) [.Constant (.str msg) k q4] [] q5) q6, .Assign [.Attribute (.Name "self" q7) par q8] (.Name par q9) q10]
def eS (par : Str) : Scope := { kind := .function, names := [(PySem.Str.ofString "self", .local), (par, .local), (PySem.Str.ofString "__class__", .free), (PySem.Str.ofString "super", .globalImplicit)], isGenerator := false, isCoroutine := false, more := [] }
def BindPar (par : Str) : Prop := ∀ (qual : Str) (B : List Stmt) (doc pm : Value) (an : Option Addr) (cdv ct : Value) (cc : Addr) (p1 p2 : Pos) (x v : Value), bindArgs (ksFn "__init__" qual (eA par p1 p2) B (eS par) .none .none doc pm an cdv ct cc) ⟨[x, v], []⟩ = pure [(("self" : Str), x), (par, v)]
theorem bind_reason : BindPar "reason" := fun _ _ _ _ _ _ _ _ _ _ _ _ => rfl
theorem bind_at : BindPar "at" := fun _ _ _ _ _ _ _ _ _ _ _ _ => rfl
theorem bind_line : BindPar "line" := fun _ _ _ _ _ _ _ _ _ _ _ _ => rfl
/-- what the module's top has left of such a class -/
structure ErrTxt (P : Program) (K : Frag) (C : Addr) (par : Str) : Prop where
  ex : ∃ (fI cc cda : Addr) (msg : Str) (nm q : Str) (N : Addr) (bs bm : List Value) (sn : List Str) (sub : List Value) (ab : Bool) (col : Option Bool) (dd : Option Addr) (k0 k1 k2 k3 k5 : Option Value),
    K.lookup C = some (excClassObj nm q C N bs bm true sn sub ab col dd k0 k1 k2 k3 k5 "ValueError.__new__") ∧ refsVE bm = true ∧ alongIn K "__init__" bm = some (some (.builtin "ValueError.__init__")) ∧
    findIn K (.ref C) "__init__" = some (some (.ref fI)) ∧ typeIn K (.ref fI) = some (.type "function") ∧
    (∃ (oc : Value) (od : Option Addr) (doc pm : Value) (an : Option Addr) (ct : Value) (osl : Array (Option Value)) (qual : Str) (p1 p2 q1 q2 q3 q4 q5 q6 q7 q8 q9 q10 : Pos) (k : Nat),
      K.lookup fI = some ⟨oc, od, .func (ksFn "__init__" qual (eA par p1 p2) (eB par msg q1 q2 q3 q4 q5 q6 q7 q8 q9 q10 k) (eS par) .none .none doc pm an (.ref cda) ct cc), osl⟩ ∧ codeIn K (.ref cda) qual = true ∧ (q3.endLine == q5.line) = true) ∧
    (∃ (cl : Value) (cld : Option Addr) (csl : Array (Option Value)), K.lookup cc = some ⟨cl, cld, .cell (some (.ref C)), csl⟩) ∧
    (∃ (ccl : Value) (cdd : Option Addr) (vs : Array Value) (ccs : Array (Option Value)) (file : Str) (tf : Tok), K.lookup cda = some ⟨ccl, cdd, .fields vs, ccs⟩ ∧ vs[2]? = some (.str file tf) ∧ ((P.main.file : Str) == file) = true)
  sa : findIn K (.ref C) "__setattr__" = some (some (.builtin "object.__setattr__"))
  noN : findIn K (.ref C) par = some none
  kC : keepIn K (.ref C) = true
  exC : subIn K (.ref C) (.type "BaseException") = some true
  veC : subIn K (.ref C) (.type "ValueError") = some true
  slC : mroIn K C (.ref C) = some true
  tyC : typeIn K (.ref C) = some (.type "type")
  op : nsIn K cStatics "thirdparty.any" = some none
  top : (P.main.scope.names.lookup ("super" : Str)).isSome = false
  pn : (par == ("self" : Str)) = false ∧ (par == ("__class__" : Str)) = false ∧ (par == ("super" : Str)) = false ∧ (par == ("__debug__" : Str)) = false
  hdC : hasDictIn K C = true
  bd : BindPar par
  ga : findIn K (.ref C) "__getattribute__" = some (some (.builtin "BaseException.__getattribute__"))
  gg : findIn K (.ref C) "__getattr__" = some none
theorem size1 (v : Value) : [v].length ≤ sizeLine := by
  rw [sizeLine_eq]
  exact (by decide : 1 ≤ 16777216)
/-- what __init__ leaves of a fresh exception at x -/
structure InitEnd (h h' : Heap) (x C dx t1 : Addr) (par : Str) (v : Value) : Prop where
  keep : ∀ b o, b ≠ x → h.get? b = some o → h'.get? b = some o
  obj : h'.get? x = some { cls := .ref C, dict := some dx, data := .fields #[.ref t1, .none, .none, .none, .bool false, .none] }
  dbig : h.objs.size ≤ dx
  dne : dx ≠ x
  ns : h'.Ns1 dx (fun y => if y = par then some v else none)
/-- a made exception -/
structure ErrMade (h h' : Heap) (e C d : Addr) (par : Str) (v : Value) : Prop where
  keep : ∀ b o, h.get? b = some o → h'.get? b = some o
  new : h.objs.size ≤ e
  obj : ∃ oe vs, h'.get? e = some oe ∧ oe.cls = .ref C ∧ oe.dict = some d ∧ oe.data = .fields vs ∧ vs[1]? = some .none ∧ vs[2]? = some .none
  dbig : h.objs.size ≤ d
  dne : d ≠ e
  ns : h'.Ns1 d (fun y => if y = par then some v else none)
section
variable {prog : Program} {w : World} {A : Around} {E : Value → Shared → Prop} {h : Heap} {g : Array GenState} {d : Drawn} {t : Nat} {os : OsState}
variable {nm q : Str} {C N : Addr} {bs bm : List Value} {hdct : Bool} {sn : List Str} {sub : List Value} {ab : Bool} {col : Option Bool} {dd : Option Addr} {k0 k1 k2 k3 k5 : Option Value}
theorem call_mw {u e t0 : Addr} {rest : List Value} {Q : Value → Shared → Prop}
    (hC : h.get? C = some (excClassObj nm q C N bs bm hdct sn sub ab col dd k0 k1 k2 k3 k5 "ValueError.__new__")) (he : h.get? e = some (excO C t0)) (hu : h.get? u = some (kxs_mw "ValueError.__init__" e)) (hrest : rest.length ≤ sizeLine)
    (hq : ∀ h' t1, (∀ b o, b ≠ e → h.get? b = some o → h'.get? b = some o) → h'.get? e = some (excO C t1) → Q .none ⟨h', g, d, t, os⟩) :
    wpAny (model prog w) A (call (.ref u) rest) Q E ⟨h, g, d, t, os⟩ := by
  refine wpAny_call (codeAny_of_tree ?_)
  show wpAny _ A.in1 (callAny (.ref u) ⟨rest, []⟩) _ _ _
  simp only [callAny]
  refine wpAny_bind (wpAny_load hu ?_)
  simp only [kxs_mw, show (Value.type "method-wrapper" == Value.type "method" || Value.type "method-wrapper" == Value.type "builtin_function_or_method" || Value.type "method-wrapper" == Value.type "method-wrapper") = true by decide, if_true]
  refine KFB.if_so (by decide) ?_
  refine wpAny_bind (check_bound_init F.excBase_ValueError.toExcCallFacts hC he rfl ?_)
  refine wpAny_bind (wpAny_pure (wpAny_pure ?_))
  refine ⟨plainId_quiet F.excBase_ValueError.init.plain _, codeAny_builtin F.excBase_ValueError.initEntry ?_⟩
  exact exc_init_tree (cls := .ref C) (t0 := t0) (dv := none) (c2 := .none) (c3 := .none) (b4 := .bool false) he hrest fun h' k e' t' => hq h' h.objs.size k e'
end
theorem meth_line {o : Expr} {name : Str} {apos pos : Pos} {args : List Expr} {env : Env} (h : (apos.endLine == pos.line) = true) (hf : methodCallForm (args.length + 0) (backTo pos (starEach args env)) [] = true := by rfl) :
    eval (.Call (.Attribute o name apos) args [] pos) env = (do
      let ov ← attributeBase o name env (eval o env)
      standAt apos.atName
      let (f, first) ← holding [ov] (getMethod ov name (do return (← importBound o env).getD true))
      callWith pos f first (backTo pos (starEach args env)) []) := by
  show (do
    let ov ← attributeBase o name env (eval o env)
    standAt apos.atName
    methodCall o name apos pos env ov (args.length + 0) (backTo pos (starEach args env)) []) = _
  unfold methodCall methodCallPos calleeOf
  rw [hf, h]
  rfl
theorem ldE {M : Model} {A : Around} {E : Value → Shared → Prop} {s : Shared} {env : Env} {m : Str → Option Value} {x : Str} {pos : Pos} {v : Value} {Q : Value → Shared → Prop} (hn : s.heap.Ns env.locals m) (hv : m x = some v) (h : Q v s)
    (hk : env.scope.kind = .function) (hl : env.kindOf x = some .local) (hd : (x == ("__debug__" : Str)) = false) : wpAny M A (eval (.Name x pos) env) Q E s := wpAny_Name (wpAny_loadName_local hk hl hn hv h) hd
section
variable {prog : Program} {w : World} {A : Around} {R : Result → Shared → Prop} {s : Shared} {K : Frag} {C : Addr} {par : Str}
theorem err_init (T : ErrTxt prog K C par) {fI x t0 : Addr} {v : Value} {mg mb : Str → Option Value} (hfI : findIn K (.ref C) "__init__" = some (some (.ref fI))) (X : K.In s.heap) (hlim : s.heap.NoLimit) (hG : s.heap.Ns mainGlobals mg) (hB : s.heap.Ns builtinsNs mb) (hmg : mg "super" = none) (hmb : mb "super" = some (.type "super"))
    (hx : s.heap.get? x = some (excO C t0)) (hnx : K.lookup x = none) (hroom : A.depth < recursionLimit)
    (hq : ∀ h' tk dx t1, InitEnd s.heap h' x C dx t1 par v → R (.ok (.ret .none)) { s with heap := h', toks := tk }) :
    codeAny (model prog w) A (.call (.ref fI) ⟨[.ref x, v], []⟩) R s := by
  obtain ⟨fI', cc, cda, msg, nm, q, N, bs, bm, sn, sub, ab, col, dd, k0, k1, k2, k3, k5, hC, hbm, hal, hfI', htf, ⟨oc, od, doc, pm, an, ct, osl, qual, p1, p2, q1, q2, q3, q4, q5, q6, q7, q8, q9, q10, kk, ho, hcd, hline⟩, ⟨cl, cld, csl, hcell⟩, ⟨ccl, cdd, vs, ccs, file, tf, hcode, hvs, hfile⟩⟩ := T.ex
  rw [hfI] at hfI'
  cases hfI'
  obtain ⟨pn1, pn2, pn3, pn4⟩ := T.pn
  have hcl : clsIn K C = some { name := nm, bases := bs, mro := .ref C :: bm, ns := N, qualname := q, hasDict := true, slotNames := sn, subclasses := sub, abstract := ab, collection := col, hasDel := false } := by unfold clsIn; rw [hC] <;> rfl
  have ls : (eS par).names.lookup ("self" : Str) = some .local := by simp [eS, List.lookup]
  have pn1' : (par == (Str.ofString "self")) = false := pn1
  have lp : (eS par).names.lookup par = some .local := by simp [eS, List.lookup, pn1']
  have pn2' : ((Str.ofString "__class__") == par) = false := by rw [beq_eq_false_iff_ne] at pn2 ⊢; exact fun e => pn2 e.symm
  have pn3' : ((Str.ofString "super") == par) = false := by rw [beq_eq_false_iff_ne] at pn3 ⊢; exact fun e => pn3 e.symm
  have lc : (eS par).names.lookup ("__class__" : Str) = some .free := by
    show List.lookup (Str.ofString "__class__") [(Str.ofString "self", NameKind.local), (par, .local), (Str.ofString "__class__", .free), (Str.ofString "super", .globalImplicit)] = _
    rw [List.lookup_cons, show (Str.ofString "__class__" == Str.ofString "self") = false from by decide +kernel]
    simp only
    rw [List.lookup_cons, pn2']
    simp only
    rw [List.lookup_cons, beq_self_eq_true]
  have lsu : (eS par).names.lookup ("super" : Str) = some .globalImplicit := by
    show List.lookup (Str.ofString "super") [(Str.ofString "self", NameKind.local), (par, .local), (Str.ofString "__class__", .free), (Str.ofString "super", .globalImplicit)] = _
    rw [List.lookup_cons, show (Str.ofString "super" == Str.ofString "self") = false from by decide +kernel]
    simp only
    rw [List.lookup_cons, pn3']
    simp only
    rw [List.lookup_cons, show (Str.ofString "super" == Str.ofString "__class__") = false from by decide +kernel]
    simp only
    rw [List.lookup_cons, beq_self_eq_true]
  obtain ⟨hp, gg, dr, tk, os⟩ := s
  refine ks_codeAny_call_defAt (binds := [("self", .ref x), (par, v)]) hroom (X _ _ ho) rfl hlim (codeRec_of X hcd) rfl (BindsTo.of_eq (T.bd _ _ _ _ _ _ _ _ _ _ _ _)) (fun y hy => ?_) (fun y hy => ?_) (fun h₁ hn k => ?_) rfl rfl rfl
  · have hy' : y ∈ (eS par).names := hy
    simp only [eS, List.mem_cons, List.not_mem_nil, or_false] at hy'
    rcases hy' with rfl | rfl | rfl | rfl <;> exact fun z => nomatch z
  · simp only [List.mem_cons, List.not_mem_nil, or_false] at hy
    rcases hy with rfl | rfl
    · exact ls
    · exact lp
  · have X₁ : K.In h₁ := X.keeps k
    have hx₁ := k _ _ hx
    have mS : (fun y => List.lookup y [((par : Str), v), (("self" : Str), .ref x)]) ("self" : Str) = some (.ref x) := by
      show List.lookup (Str.ofString "self") [(par, v), (Str.ofString "self", .ref x)] = _
      rw [List.lookup_cons, show (Str.ofString "self" == par) = false from by rw [beq_eq_false_iff_ne] at pn1' ⊢; exact fun e => pn1' e.symm]
      simp only
      rw [List.lookup_cons, beq_self_eq_true]
    have mP : (fun y => List.lookup y [((par : Str), v), (("self" : Str), .ref x)]) par = some v := by
      show List.lookup par [(par, v), (Str.ofString "self", .ref x)] = _
      rw [List.lookup_cons, beq_self_eq_true]
    have hn : h₁.Ns hp.objs.size (fun y => List.lookup y [((par : Str), v), (("self" : Str), .ref x)]) := hn
    refine ks_wpAt_execs_cons (ks_wpAt_Expr_any (ks_wpAt_MethodCall (pl := (do return (← importBound (.Call (.Name "super" q1) [] [] q2) (callEnv (ksFn "__init__" qual (eA par p1 p2) (eB par msg q1 q2 q3 q4 q5 q6 q7 q8 q9 q10 kk) (eS par) .none .none doc pm an (.ref cda) ct cc) hp.objs.size fI)).getD true)) (he := meth_line hline) (ks_wpAt_super_base (ar := { arg := "self", annotation := none, pos := p1 }) lsu lc (by decide +kernel) rfl (X₁ _ _ ho) rfl rfl rfl (X₁ _ _ hcode) rfl hvs hfile T.top ?_)) rfl rfl)
    have sN : (Str.ofString "super") = ("super" : Str) := rfl
    refine ks_loadName_global rfl lsu (loadGlobal_builtin (hG.keeps k) hmg (hB.keeps k) hmb ⟨rfl, ?_⟩)
    refine wpAny_loadName_free rfl lc (c := cc) (by show List.lookup (Str.ofString "__class__") [(Str.ofString "__class__", cc)] = _; rw [List.lookup_cons, beq_self_eq_true]) ⟨_, X₁ _ _ hcell, rfl⟩ ?_
    refine wpAny_loadName_local rfl ls hn mS ?_
    have hC₁ := X₁ _ _ hC
    refine ks_wpAny_isType_cls hC₁ rfl ⟨rfl, ?_⟩
    refine ks_wpAny_call_super hC₁ rfl hx₁ rfl (fun c e => (nomatch e)) (looks_mroIn X₁ T.slC) (fun h₂ e k₂ => ?_)
    have X₂ : K.In h₂ := X₁.keeps k₂
    have hI₂ : InstAt h₂ x (excO C t0) C none := ⟨k₂ _ _ hx₁, rfl, rfl, trivial⟩
    have hne : x ≠ C := ks_ne X₂ hI₂ hcl
    refine kxs_getMethod kxs_ValueError e (looks_opaque X₂ T.op) (l₀ := .ref C :: bm) (fun A Q E s k q => wpAny_bind ((looks_clsIn X₂ hcl) A _ E s k (wpAny_pure q))) (l := bm) ?_ X₂ hal (hI₂.type.andThen (looks_subIn X₂ T.veC)) hne (by decide +kernel) ?_
    · rw [List.dropWhile_cons, show (Value.ref C != Value.ref C) = false from by simp]
      rfl
    have n3 : ∀ b o, h₂.get? b = some o → (h₂.push (kxs_mw "ValueError.__init__" x)).get? b = some o := fun b o e => Heap.get?_push_of_some _ e
    refine kxs_callWith (i := "ValueError.__init__") (x := x) rfl (evalArgs_plain (spliced_cons (Constant_str (k := kk) (pos := q4) (spliced_nil ⟨Heap.get?_push_size _ rfl, ?_⟩))))
    refine call_mw (X₂.keeps n3 _ _ hC) (n3 _ _ (k₂ _ _ hx₁)) (Heap.get?_push_size _ rfl) (size1 _) fun h₄ t1 k₄ hx₄ => ?_
    have all : ∀ b o, b ≠ x → h₁.get? b = some o → h₄.get? b = some o := fun b o hb e => k₄ b o hb (n3 b o (k₂ b o e))
    have X₄ : K.In h₄ := fun a o e => all a o (fun z => by rw [z, hnx] at e; cases e) (X₁ a o e)
    have xL : hp.objs.size ≠ x := Nat.ne_of_gt (Heap.lt_size hx)
    have hn₄ : h₄.Ns hp.objs.size (fun y => List.lookup y [((par : Str), v), (("self" : Str), .ref x)]) := hn.at fun o e => all _ o xL e
    refine wpAt_of_wpAny (wpAny_execs_cons (plainObj_wpAny_Assign_Attribute ?_))
    refine ldE (v := v) hn₄ mP (ldE (v := .ref x) hn₄ mS ?_ rfl ls (by decide +kernel)) rfl lp pn4
    refine set_plain X₄ (ox := excO C t1) (od := none) ⟨hx₄, rfl, rfl, trivial⟩ T.sa ?_
    refine exc_osa X₄ hx₄ hcl (show refsVE (.ref C :: bm) = true from hbm) rfl T.noN (fun h₃ tk₃ dx k₃ dn dne hx₃ hn₃ => ?_)
    have z : hp.objs.size < h₄.objs.size := hn₄.lt
    exact wpAny_execs_nil (hq h₃ tk₃ dx t1 ⟨fun b o hb e => k₃ b o hb (all b o hb (k b o e)), hx₃, Nat.le_of_lt (Nat.lt_of_lt_of_le z dn), dne, hn₃⟩)
theorem err_made (T : ErrTxt prog K C par) {v : Value} {mg mb : Str → Option Value} (X : K.In s.heap) (hlim : s.heap.NoLimit) (hG : s.heap.Ns mainGlobals mg) (hB : s.heap.Ns builtinsNs mb) (hmg : mg "super" = none) (hmb : mb "super" = some (.type "super")) (hroom : A.depth + 1 < recursionLimit)
    (hq : ∀ h' tk e d, ErrMade s.heap h' e C d par v → R (.ok (.ret (.ref e))) { s with heap := h', toks := tk }) :
    codeAny (model prog w) A (.call (.ref C) ⟨[v], []⟩) R s := by
  have T' := T
  obtain ⟨fI, cc, cda, msg, nm, q, N, bs, bm, sn, sub, ab, col, dd, k0, k1, k2, k3, k5, hC, hbm, hal, hfI, htf, _⟩ := T'.ex
  obtain ⟨hp, g, dr, tk, os⟩ := s
  have k : ∀ b o, hp.get? b = some o → ((hp.push (kdv_tup [v])).push (excO C hp.objs.size)).get? b = some o := fun b o e => Heap.get?_push_of_some _ (Heap.get?_push_of_some _ e)
  have hget : ((hp.push (kdv_tup [v])).push (excO C hp.objs.size)).get? (hp.objs.size + 1) = some (excO C hp.objs.size) := by heap_get
  have hnx : K.lookup (hp.objs.size + 1) = none := by
    cases e : K.lookup (hp.objs.size + 1) with
    | none => rfl
    | some o =>
      have z : hp.get? (hp.objs.size + 1) = some o := X _ _ e
      exact absurd (Nat.lt_of_succ_lt (Heap.lt_size z)) (Nat.lt_irrefl _)
  refine call_own F.excBase_ValueError (fun X => refsVE_contains X bm hbm) (X _ _ hC) (looks_findIn X hfI) (fun self => bind_fn X self htf) (size1 v) ?_
  refine err_init (s := ⟨(hp.push (kdv_tup [v])).push (excO C hp.objs.size), g, dr, tk, os⟩) T hfI (X.keeps k) (hlim.keeps k) (hG.keeps k) (hB.keeps k) hmg hmb hget hnx ?_ fun h' tk' dx t1 ⟨k', hx, dn, dne, hns⟩ => ?_
  · show A.depth + 1 < recursionLimit
    exact hroom
  · have old : ∀ b o, hp.get? b = some o → h'.get? b = some o := fun b o e => k' b o (Nat.ne_of_lt (Nat.lt_succ_of_lt (Heap.lt_size e))) (k b o e)
    have z : hp.objs.size + 1 + 1 ≤ dx := by
      first
        | (simpa only [Heap.size_push] using dn)
        | exact dn
        | (have q := dn; rw [Heap.size_push, Heap.size_push] at q; exact q)
    exact ⟨rfl, hq h' tk' (hp.objs.size + 1) dx ⟨old, Nat.le_succ _, ⟨_, _, hx, rfl, rfl, rfl, rfl, rfl⟩, Nat.le_trans (Nat.le_trans (Nat.le_succ _) (Nat.le_succ _)) z, dne, hns⟩⟩
end
end Ci

set_option Elab.async false
set_option linter.all false
set_option maxRecDepth 100000
set_option maxHeartbeats 4000000
namespace Ci
open PySem PySem.Spec PyProof.Rows L2
theorem relO_par {v : V} {v' : Value} (r : RelV v v') (par f : Str) : RelO (List.lookup f [(par, v)]) (if f = par then some v' else none) := by
  by_cases hw : f = par
  · subst hw
    rw [if_pos rfl]
    have q : List.lookup f [(f, v)] = some v := by simp [List.lookup]
    rw [q]
    exact r
  · rw [if_neg hw]
    have qw : (f == par) = false := by simpa using hw
    have q2 : List.lookup f [(par, v)] = none := by simp [List.lookup, qw]
    rw [q2]
    trivial
section
variable {X : Cx} {C : Addr} {par : Str}
/-- C(e) -/
def tMkErr (C : Addr) (par : Str) (ta : TA) : L2.St → Hp → XK → Prop := fun σ H Q => ta σ H fun vs H1 => ∃ v, vs = [v] ∧ ∀ d, H1 d = none → Q (.ref C) (some d) (upd H1 d (.xd [(par, v)]))
theorem pmk_err {a : Expr} {ta : TA} {nm : Str} {p pos : Pos} (T : ErrTxt X.prog X.K C par) (gC : X.mg nm = some (.ref C)) (hsu : X.mg "super" = none) (hr : X.A.depth + 1 < recursionLimit) (ha : PA X [a] ta) (hg : Gl X nm) (hnd : (nm == ("__debug__" : Str)) = false)
    (he : starEach (a :: []) X.env = (false, eval a X.env) :: starEach [] X.env) :
    L2N.PMk X (.Call (.Name nm p) [a] [] pos) (tMkErr C par ta) := by
  intro pins s σ H Q I h
  refine wpAny_Call_Name_kw (ld_glob I hg gC ?_ hnd)
  refine PySem.W.callWith_K (h₀ := X.base) I.ok.mod.kin T.kC (thn (ha.run pos pins s σ H _ I h) fun us s1 hh => ?_) he rfl
  obtain ⟨vs, H1, I1, r1, v, ev, q1⟩ := hh
  subst ev
  refine ⟨I1.kIn, ?_⟩
  cases r1 with
  | cons rv rn =>
    rename_i v' us'
    cases rn
    show wpAny _ _ (call (.ref C) [v']) _ _ _
    have hlim := I1.nolimit
    obtain ⟨mb, hb1, hb2⟩ := I1.mod.blt
    have hb := hb1.keeps I1.bk
    have hgl := I1.mod.glob.keeps I1.bk
    obtain ⟨hp, g, dr, tk, os⟩ := s1
    refine wpAny_call (err_made T I1.kIn hlim hgl hb hsu ((hb2 "super" (by decide)).trans (by first | boot_by_name | rfl | kernel_rfl)) hr fun h' tk' e d M => ?_)
    show L2N.MkP X pins σ Q (.ref e) ⟨h', g, dr, tk', os⟩
    obtain ⟨oe, fv, hoe, hc, hd, hdat, h1, h2⟩ := M.obj
    have hns := M.ns
    obtain ⟨G', g1, g2⟩ := restrict h' fun b => decide (b ≠ e)
    have gk : ∀ b, b ≠ e → G'.get? b = h'.get? b := fun b hb => g1 b (decide_eq_true hb)
    have ge : G'.get? e = none := g2 e (by simp)
    have old : ∀ b o, hp.get? b = some o → G'.get? b = some o := fun b o q => (gk b (Nat.ne_of_lt (Nat.lt_of_lt_of_le (Heap.lt_size q) M.new))).trans (M.keep b o q)
    have ob : ObjOk X.prog X.w (upd H1 d (.xd [(par, v)])) G' d (.xd [(par, v)]) :=
      ⟨_, hns.at (fun o q => (gk d M.dne).trans q), fun f => relO_par rv par f⟩
    have J : Inv X pins σ (upd H1 d (.xd [(par, v)])) ⟨G', g, dr, tk', os⟩ := I1.laid (t' := tk') old M.dbig ob
    refine ⟨e, oe, fv, ⟨G', g, dr, tk', os⟩, _, .ref C, some d, rfl, J, fun b o q => ?_, ge, hoe, ⟨hc, hd, fun vs e' => ?_⟩, hdat, h1, ?_, rfl, I1.bare, raises_own T.exC T.tyC, q1 d (I1.hok.fresh M.dbig)⟩
    · by_cases hb : b = e
      · have q' : G'.get? b = some o := q
        rw [hb, ge] at q'; cases q'
      · exact (gk b hb).symm.trans q
    · rw [hdat] at e'
      cases e'
      exact h2
    · rw [upd_ne (Ne.symm M.dne)]
      exact I1.hok.fresh M.new
end
end Ci

set_option Elab.async false
set_option linter.all false
set_option maxRecDepth 100000
set_option maxHeartbeats 2000000
namespace Ci
open PySem PySem.Spec PyProof.Rows L2
abbrev SV := L2.St
/-- a caught exception: its address, class, own dict, field -/
structure Hx where
  a : Addr
  c : Nat
  d : Addr
  f : Str
/-- where defs stand, the exception at hand -/
structure Rc where
  K : PySem.W.Frag
  fa : Nat → Option Addr
  hx : Option Hx
/-- what a simulation leans on -/
structure Si where
  K : PySem.W.Frag
  rc : Rc
  ca : Nat → Option Addr
  fld : Nat → Str
  sub : Nat → Nat → Bool
  call : Nat → List D → Hs → R D
  W : WX
/-- a flat value -/
def scV : D → Option V
  | .non => some .non
  | .bl b => some (.bl b)
  | .int i => some (.int i)
  | .str x => some (.str x)
  | _ => none
mutual
inductive RD (z : Rc) (F : Addr → Prop) (am : List Addr) (H : Hp) : D → V → Prop
  | non : RD z F am H .non .non
  | bl (b : Bool) : RD z F am H (.bl b) (.bl b)
  | int (i : Int) : RD z F am H (.int i) (.int i)
  | str (x : Str) : RD z F am H (.str x) (.str x)
  | tup {a : Addr} {xs : List V} {ds : List D} : H a = some (.tup xs) → ¬ F a → RDs z F am H ds xs → RD z F am H (.tup ds) (.ref a)
  | lst {a : Addr} {xs : List V} {ds : List D} : H a = some (.lst xs) → ¬ F a → RDs z F am H ds xs → RD z F am H (.lst ds) (.ref a)
  | scr {a : Addr} {o : Obj} {xs : List V} {ds : List D} : H a = some (.frz o (.lst xs)) → ¬ F a → RDs z F am H ds xs → RD z F am H (.scr ds) (.ref a)
  | scrK {a : Addr} {xs : List V} {ds : List D} : SqL z.K (fun _ => none) a xs → RDs z F am H ds xs → RD z F am H (.scr ds) (.ref a)
  | ref {n : Nat} {a : Addr} : am[n]? = some a → RD z F am H (.ref n) (.ref a)
  | fn {i : Nat} {a : Addr} : z.fa i = some a → RD z F am H (.fn i) (.ref a)
  | exc {v : D} {w : V} {x : Hx} : z.hx = some x → scV v = some w → H x.d = some (.xd [(x.f, w)]) → ¬ F x.d → RD z F am H (.exc x.c v) (.ref x.a)
inductive RDs (z : Rc) (F : Addr → Prop) (am : List Addr) (H : Hp) : List D → List V → Prop
  | nil : RDs z F am H [] []
  | cons {d : D} {v : V} {ds : List D} {vs : List V} : RD z F am H d v → RDs z F am H ds vs → RDs z F am H (d :: ds) (v :: vs)
end
/-- from one heap to a later one -/
structure Ext (F : Addr → Prop) (am : List Addr) (H : Hp) (F' : Addr → Prop) (am' : List Addr) (H' : Hp) : Prop where
  pre : ∃ t, am' = am ++ t
  keep : ∀ a o, H a = some o → a ∉ am → H' a = some o
  fr : ∀ a o, H a = some o → ¬ F a → ¬ F' a
  up : ∀ a, F a → F' a
  nw : ∀ a, a ∈ am' → a ∉ am → H a = none
def RO (z : Rc) (F : Addr → Prop) (am : List Addr) (H : Hp) (o : O) (u : Option HO) : Prop := match o with
  | .lst ds => ∃ xs, u = some (.lst xs) ∧ RDs z F am H ds xs
  | .dct kvs => ∃ ws : List (Key × V), u = some (.dK ws) ∧ kvs.map (·.1) = ws.map (·.1) ∧ RDs z F am H (kvs.map (·.2)) (ws.map (·.2))
structure Sto (z : Rc) (F : Addr → Prop) (am : List Addr) (H : Hp) (h : Hs) : Prop where
  nd : am.Nodup
  len : am.length = h.length
  inF : ∀ a ∈ am, F a
  ok : ∀ a, F a → ∃ o, H a = some o
  obj : ∀ (i : Nat) (a : Addr) (o : O), am[i]? = some a → h[i]? = some o → RO z F am H o (H a)
section
variable {z : Rc} {F F' F1 F2 : Addr → Prop} {am am' am1 am2 : List Addr} {H H' H1 H2 : Hp} {d : D} {v : V} {ds : List D} {vs : List V} {h h' : Hs}
theorem Ext.refl : Ext F am H F am H := ⟨⟨[], by simp⟩, fun _ _ e _ => e, fun _ _ _ h => h, fun _ h => h, fun _ h n => absurd h n⟩
theorem Ext.trans (a : Ext F am H F1 am1 H1) (b : Ext F1 am1 H1 F2 am2 H2) (i0 : ∀ x ∈ am, F x) : Ext F am H F2 am2 H2 := by
  obtain ⟨t, e⟩ := a.pre
  obtain ⟨t', e'⟩ := b.pre
  have k1 : ∀ x o, H x = some o → x ∉ am → x ∉ am1 := fun x o q n hm => by
    have := a.nw x hm n
    rw [q] at this; cases this
  refine ⟨⟨t ++ t', by rw [e', e, List.append_assoc]⟩, fun x o q n => b.keep x o (a.keep x o q n) (k1 x o q n), fun x o q n => ?_, fun x q => b.up x (a.up x q), fun x hm n => ?_⟩
  · have nx : x ∉ am := fun hm => n (i0 x hm)
    exact b.fr x o (a.keep x o q nx) (a.fr x o q n)
  · by_cases h1 : x ∈ am1
    · exact a.nw x h1 n
    · cases q : H x with
      | none => rfl
      | some o =>
        have := b.nw x hm h1
        rw [a.keep x o q n] at this; cases this
theorem Ext.rd (e : Ext F am H F' am' H') (i0 : ∀ x ∈ am, F x) {u : HO} {a : Addr} (r : H a = some u) (n : ¬ F a) : H' a = some u ∧ ¬ F' a :=
  ⟨e.keep a _ r fun hm => n (i0 a hm), e.fr a _ r n⟩
mutual
theorem RD.ext (e : Ext F am H F' am' H') (i0 : ∀ x ∈ am, F x) : ∀ {d : D} {v : V}, RD z F am H d v → RD z F' am' H' d v
  | _, _, .non => .non
  | _, _, .bl b => .bl b
  | _, _, .int b => .int b
  | _, _, .str b => .str b
  | _, _, .tup r n k => .tup (e.rd i0 r n).1 (e.rd i0 r n).2 (RDs.ext e i0 k)
  | _, _, .lst r n k => .lst (e.rd i0 r n).1 (e.rd i0 r n).2 (RDs.ext e i0 k)
  | _, _, .scr r n k => .scr (e.rd i0 r n).1 (e.rd i0 r n).2 (RDs.ext e i0 k)
  | _, _, .scrK r k => .scrK r (RDs.ext e i0 k)
  | _, _, .ref (n := n) q => .ref (by
      obtain ⟨t, e1⟩ := e.pre
      rw [e1, List.getElem?_append_left (by have := (List.getElem?_eq_some_iff.mp q).1; exact this)]
      exact q)
  | _, _, .fn q => .fn q
  | _, _, .exc (x := x) h1 h2 h3 h4 => .exc h1 h2 (e.keep _ _ h3 fun hm => h4 (i0 _ hm)) (e.fr _ _ h3 h4)
theorem RDs.ext (e : Ext F am H F' am' H') (i0 : ∀ x ∈ am, F x) : ∀ {ds : List D} {vs : List V}, RDs z F am H ds vs → RDs z F' am' H' ds vs
  | _, _, .nil => .nil
  | _, _, .cons r k => .cons (RD.ext e i0 r) (RDs.ext e i0 k)
end
theorem RDs.length : ∀ {ds : List D} {vs : List V}, RDs z F am H ds vs → ds.length = vs.length
  | _, _, .nil => rfl
  | _, _, .cons _ k => by simp [RDs.length k]
theorem RDs.get : ∀ {ds : List D} {vs : List V} {i : Nat} {d : D}, RDs z F am H ds vs → ds[i]? = some d → ∃ v, vs[i]? = some v ∧ RD z F am H d v
  | _, _, _, _, .nil, e => by simp at e
  | _, _, 0, _, .cons r _, e => by simp at e; subst e; exact ⟨_, rfl, r⟩
  | _, _, i + 1, d, .cons _ k, e => by
    obtain ⟨v, h1, h2⟩ := RDs.get (i := i) (d := d) k (by simpa using e)
    exact ⟨v, by simpa using h1, h2⟩
theorem RDs.get' : ∀ {ds : List D} {vs : List V} {i : Nat} {v : V}, RDs z F am H ds vs → vs[i]? = some v → ∃ d, ds[i]? = some d ∧ RD z F am H d v
  | _, _, _, _, .nil, e => by simp at e
  | _, _, 0, _, .cons r _, e => by simp at e; subst e; exact ⟨_, rfl, r⟩
  | _, _, i + 1, d, .cons _ k, e => by
    obtain ⟨v, h1, h2⟩ := RDs.get' (i := i) (v := d) k (by simpa using e)
    exact ⟨v, by simpa using h1, h2⟩
theorem RDs.append : ∀ {ds es : List D} {vs ws : List V}, RDs z F am H ds vs → RDs z F am H es ws → RDs z F am H (ds ++ es) (vs ++ ws)
  | _, _, _, _, .nil, s => s
  | _, _, _, _, .cons r k, s => .cons r (RDs.append k s)
theorem RDs.set (r : RD z F am H d v) : ∀ {ds : List D} {vs : List V} (i : Nat), RDs z F am H ds vs → RDs z F am H (ds.set i d) (vs.set i v)
  | _, _, _, .nil => .nil
  | _, _, 0, .cons _ k => .cons r k
  | _, _, i + 1, .cons q k => .cons q (RDs.set r i k)
theorem RDs.take : ∀ {ds : List D} {vs : List V} (n : Nat), RDs z F am H ds vs → RDs z F am H (ds.take n) (vs.take n)
  | _, _, 0, _ => by simp; exact .nil
  | _, _, _ + 1, .nil => .nil
  | _, _, n + 1, .cons r k => .cons r (RDs.take n k)
theorem RDs.drop : ∀ {ds : List D} {vs : List V} (n : Nat), RDs z F am H ds vs → RDs z F am H (ds.drop n) (vs.drop n)
  | _, _, 0, r => r
  | _, _, _ + 1, .nil => .nil
  | _, _, n + 1, .cons _ k => RDs.drop n k
theorem RDs.flatRep {ds : List D} {vs : List V} (r : RDs z F am H ds vs) : ∀ n, RDs z F am H (List.replicate n ds).flatten (List.replicate n vs).flatten
  | 0 => .nil
  | n + 1 => by simp only [List.replicate_succ, List.flatten_cons]; exact r.append (RDs.flatRep r n)
/-- a list of the module's own, in any heap -/
theorem sqK {K : PySem.W.Frag} {a : Addr} {xs : List V} (h : SqL K (fun _ => none) a xs) (H : Hp) : SqL K H a xs := by
  rcases h with h | h
  · rcases h with h | ⟨o, h⟩
    · cases h
    · cases h
  · exact .inr h
/-- read: as RD, a changing list too -/
inductive RR (z : Rc) (F : Addr → Prop) (am : List Addr) (H : Hp) : D → V → Prop
  | rd {d : D} {v : V} : RD z F am H d v → RR z F am H d v
  | lst {a : Addr} {xs : List V} {ds : List D} : H a = some (.lst xs) → RDs z F am H ds xs → RR z F am H (.lst ds) (.ref a)
theorem rd_rel (s : Sto z F am H h) (r : RD z F am H d v) : RR z F am H (rd h d) v := by
  cases r with
  | @ref n a q =>
    cases e : h[n]? with
    | none => rw [show rd h (.ref n) = .ref n by simp only [rd, e]]; exact .rd (.ref q)
    | some o =>
      cases o with
      | lst ds =>
        obtain ⟨xs, e1, e2⟩ := s.obj n a _ q e
        rw [show rd h (.ref n) = .lst ds by simp only [rd, e]]; exact .lst e1 e2
      | dct kvs => rw [show rd h (.ref n) = .ref n by simp only [rd, e]]; exact .rd (.ref q)
  | non => exact .rd .non
  | bl => exact .rd (.bl _)
  | int => exact .rd (.int _)
  | str => exact .rd (.str _)
  | tup a b c => exact .rd (.tup a b c)
  | lst a b c => exact .rd (.lst a b c)
  | fn a => exact .rd (.fn a)
  | exc a b c d => exact .rd (.exc a b c d)
  | scr a b c => exact .rd (.scr a b c)
  | scrK a c => exact .rd (.scrK a c)
/-- a list that is read -/
theorem RR.list {ds : List D} {v : V} (r : RR z F am H (.lst ds) v) : ∃ a xs, v = .ref a ∧ H a = some (.lst xs) ∧ RDs z F am H ds xs := by
  cases r with
  | rd r => cases r with | lst r _ k => exact ⟨_, _, rfl, r, k⟩
  | lst e k => exact ⟨_, _, rfl, e, k⟩
theorem RR.tuple {ds : List D} {v : V} (r : RR z F am H (.tup ds) v) : ∃ a xs, v = .ref a ∧ H a = some (.tup xs) ∧ ¬ F a ∧ RDs z F am H ds xs := by
  cases r with
  | rd r => cases r with | tup r n k => exact ⟨_, _, rfl, r, n, k⟩
theorem RR.int {i : Int} (r : RR z F am H (.int i) v) : v = .int i := by cases r with | rd r => cases r; rfl
theorem RR.bl {i : Bool} (r : RR z F am H (.bl i) v) : v = .bl i := by cases r with | rd r => cases r; rfl
theorem RR.str {i : Str} (r : RR z F am H (.str i) v) : v = .str i := by cases r with | rd r => cases r; rfl
theorem RR.non (r : RR z F am H .non v) : v = .non := by cases r with | rd r => cases r; rfl
theorem RD.sc {w : V} (r : RD z F am H d v) (e : scV d = some w) : v = w := by
  cases r <;> simp [scV] at e <;> first | exact e | exact e.symm
theorem sc_RD {w : V} (e : scV d = some w) : RD z F am H d w := by
  cases d <;> simp [scV] at e <;> subst e
  · exact .non
  · exact .bl _
  · exact .int _
  · exact .str _
/-- slots -/
structure Rel (z : Rc) (F : Addr → Prop) (am : List Addr) (H : Hp) (h : Hs) (S : Sl) (σ : SV) : Prop where
  sto : Sto z F am H h
  len : S.length = σ.length
  sl : ∀ (i : Nat) (d : D), S[i]? = some (some d) → ∃ v, σ[i]? = some (some v) ∧ RD z F am H d v
theorem Rel.to {S : Sl} {σ : SV} (r : Rel z F am H h S σ) (e : Ext F am H F' am' H') (s : Sto z F' am' H' h') : Rel z F' am' H' h' S σ :=
  ⟨s, r.len, fun i d q => let ⟨v, h1, h2⟩ := r.sl i d q; ⟨v, h1, h2.ext e r.sto.inF⟩⟩
end
section
variable {z : Si} {F F' F1 F2 : Addr → Prop} {am am' am1 am2 : List Addr} {H H' H1 H2 : Hp} {d : D} {v : V} {ds : List D} {vs : List V} {h h' : Hs}
/-! ### what is wanted behind an expression -/
def excW (z : Si) (σ : SV) (F : Addr → Prop) (am : List Addr) (H : Hp) (c : Nat) (v : D) (h : Hs) : Prop :=
  ∀ F' am' H' C dd w, Ext F am H F' am' H' → Sto z.rc F' am' H' h → z.ca c = some C → scV v = some w → H' dd = some (.xd [(z.fld c, w)]) → ¬ F' dd → z.W (.ref C) (some dd) σ H'
def SatR {α : Type} (z : Si) (σ : SV) (F : Addr → Prop) (am : List Addr) (H : Hp) (r : R α) (P : α → Hs → (Addr → Prop) → List Addr → Hp → Prop) : Prop := match r with
  | .ok a h => ∀ F' am' H', Ext F am H F' am' H' → Sto z.rc F' am' H' h → P a h F' am' H'
  | .exc c v h => excW z σ F am H c v h
  | .bad => False
theorem excW.ext {σ : SV} {c : Nat} (e : Ext F am H F1 am1 H1) (i0 : ∀ x ∈ am, F x) (q : excW z σ F am H c d h) : excW z σ F1 am1 H1 c d h :=
  fun F' am' H' C dd w e' s => q F' am' H' C dd w (e.trans e' i0) s
theorem SatR.ext {α : Type} {σ : SV} {r : R α} {P : α → Hs → (Addr → Prop) → List Addr → Hp → Prop} (e : Ext F am H F1 am1 H1) (i0 : ∀ x ∈ am, F x) (q : SatR z σ F am H r P) : SatR z σ F1 am1 H1 r P := by
  cases r with
  | ok a h => exact fun F' am' H' e' s => q F' am' H' (e.trans e' i0) s
  | exc c v h => exact excW.ext e i0 q
  | bad => exact q
theorem SatR.bind {α β : Type} {σ : SV} {r : R α} {f : α → Hs → R β} {P : β → Hs → (Addr → Prop) → List Addr → Hp → Prop} {P1 : α → Hs → (Addr → Prop) → List Addr → Hp → Prop} (i0 : ∀ x ∈ am, F x)
    (q : SatR z σ F am H (r.bind f) P) (k : ∀ a h F1 am1 H1, r = .ok a h → Ext F am H F1 am1 H1 → Sto z.rc F1 am1 H1 h → SatR z σ F1 am1 H1 (f a h) P → P1 a h F1 am1 H1) : SatR z σ F am H r P1 := by
  cases r with
  | ok a h => exact fun F' am' H' e s => k a h F' am' H' rfl e s (SatR.ext e i0 q)
  | exc c v h => exact q
  | bad => exact q
theorem SatR.mono {α : Type} {σ : SV} {r : R α} {P P1 : α → Hs → (Addr → Prop) → List Addr → Hp → Prop} (q : SatR z σ F am H r P) (k : ∀ a h F1 am1 H1, r = .ok a h → Ext F am H F1 am1 H1 → Sto z.rc F1 am1 H1 h → P a h F1 am1 H1 → P1 a h F1 am1 H1) : SatR z σ F am H r P1 := by
  cases r with
  | ok a h => exact fun F' am' H' e s => k a h F' am' H' rfl e s (q F' am' H' e s)
  | exc c v h => exact q
  | bad => exact q
theorem SatR.now {α : Type} {σ : SV} {a : α} {P : α → Hs → (Addr → Prop) → List Addr → Hp → Prop} (q : SatR z σ F am H (.ok a h) P) (s : Sto z.rc F am H h) : P a h F am H := q F am H .refl s
end
/-- an expression's reading -/
abbrev PostD (z : Si) (Q : VK) : D → Hs → (Addr → Prop) → List Addr → Hp → Prop := fun d _ F am H => ∀ v, RD z.rc F am H d v → Q v H
def tE (z : Si) (e : E) : TE := fun σ H Q => ∃ S F am h, Rel z.rc F am H h S σ ∧ SatR z σ F am H (ev z.sub z.call e S h) (PostD z Q)
def tB (z : Si) (e : E) : TT := fun σ H Q => ∃ S F am h, Rel z.rc F am H h S σ ∧ SatR z σ F am H (tst z.sub z.call e S h) (fun b _ _ _ H' => Q b H')
def tEs (z : Si) (es : Es) : TA := fun σ H Q => ∃ S F am h, Rel z.rc F am H h S σ ∧ SatR z σ F am H (evs z.sub z.call es S h) (fun ds _ F am H => ∀ vs, RDs z.rc F am H ds vs → Q vs H)
theorem _root_.L2.PE.imp {X : Cx} {e : Expr} {t t' : TE} (h : PE X e t) (k : ∀ σ H Q, t' σ H Q → t σ H Q) : PE X e t' := ⟨fun pins s σ H Q I q => h.run pins s σ H Q I (k σ H Q q)⟩
theorem _root_.L2.PT.imp {X : Cx} {e : Expr} {t t' : TT} (h : PT X e t) (k : ∀ σ H Q, t' σ H Q → t σ H Q) : PT X e t' := ⟨fun pins s σ H Q I q => h.run pins s σ H Q I (k σ H Q q)⟩
theorem _root_.L2.PA.imp {X : Cx} {e : List Expr} {t t' : TA} (h : PA X e t) (k : ∀ σ H Q, t' σ H Q → t σ H Q) : PA X e t' := ⟨fun pos pins s σ H Q I q => h.run pos pins s σ H Q I (k σ H Q q)⟩
/-- two expressions, then what is wanted of both values -/
theorem two {z : Si} {a b : E} {σ : SV} {H : Hp} {S : Sl} {F : Addr → Prop} {am : List Addr} {h : Hs} {f : D → D → Hs → R D} {Q : VK} {R : V → V → Hp → Prop} (r : Rel z.rc F am H h S σ)
    (q : SatR z σ F am H ((ev z.sub z.call a S h).bind fun x h1 => (ev z.sub z.call b S h1).bind fun y h2 => f x y h2) (PostD z Q))
    (k : ∀ x y v u F am H h, Rel z.rc F am H h S σ → RD z.rc F am H x v → RD z.rc F am H y u → SatR z σ F am H (f x y h) (PostD z Q) → R v u H) :
    tE z a σ H fun v H1 => tE z b σ H1 fun u H2 => R v u H2 :=
  ⟨S, F, am, h, r, q.bind r.sto.inF fun x h1 F1 am1 H1 _ e1 s1 q1 v rv => ⟨S, F1, am1, h1, r.to e1 s1, q1.bind s1.inF fun y h2 F2 am2 H2 _ e2 s2 q2 u ru =>
    k x y v u F2 am2 H2 h2 ((r.to e1 s1).to e2 s2) (rv.ext e2 s1.inF) ru q2⟩⟩
theorem one {z : Si} {a : E} {σ : SV} {H : Hp} {S : Sl} {F : Addr → Prop} {am : List Addr} {h : Hs} {f : D → Hs → R D} {Q : VK} {R : V → Hp → Prop} (r : Rel z.rc F am H h S σ)
    (q : SatR z σ F am H ((ev z.sub z.call a S h).bind f) (PostD z Q))
    (k : ∀ x v F am H h, Rel z.rc F am H h S σ → RD z.rc F am H x v → SatR z σ F am H (f x h) (PostD z Q) → R v H) : tE z a σ H R :=
  ⟨S, F, am, h, r, q.bind r.sto.inF fun x h1 F1 am1 H1 _ e1 s1 q1 v rv => k x v F1 am1 H1 h1 (r.to e1 s1) rv q1⟩
end Ci

set_option Elab.async false
set_option linter.all false
set_option maxRecDepth 100000
set_option maxHeartbeats 4000000
namespace Ci
open PySem PySem.Spec PyProof.Rows L2
theorem tuple_mul1 (l : Addr) (items : Array Value) (n : Nat) (dd : Option Addr) (sl : Array (Option Value)) (u : Tok) :
    Meets (Builtin.«tuple.__mul__» ⟨[.ref l, .int 1 u], []⟩) (fun _ R s => s.heap.get? l = some { cls := .type "tuple", dict := dd, data := .seq items n, slots := sl } ∧ R (.ok (.ret (Value.ref l))) s) :=
  .of_wp fun prog w A R s h => by
    obtain ⟨hp, g, d, tk, os⟩ := s
    obtain ⟨hl, h⟩ := h
    have f1 := AutoSeq1.idx_int
    wp_walk using wpAny_loadPart' hl
    exact ⟨_, rfl, h⟩
theorem tuple_mul0 (l : Addr) (items : Array Value) (n : Nat) (dd : Option Addr) (sl : Array (Option Value)) (u : Tok) (c1 : items.isEmpty = false) :
    Meets (Builtin.«tuple.__mul__» ⟨[.ref l, .int 0 u], []⟩) (fun _ R s => s.heap.get? l = some { cls := .type "tuple", dict := dd, data := .seq items n, slots := sl } ∧
      R (.ok (.ret (Value.ref s.heap.objs.size))) { s with heap := s.heap.push { cls := Value.type "tuple", data := Data.seq #[] }, toks := s.toks }) :=
  .of_wp fun prog w A R s h => by
    obtain ⟨hp, g, d, tk, os⟩ := s
    obtain ⟨hl, h⟩ := h
    have f1 := AutoSeq1.idx_int
    have c2 : (items.isEmpty || (0 : Int) == 1) = false := by rw [c1]; rfl
    wp_walk using wpAny_loadPart' hl
    repeat (first
      | (refine wpAny_ite_false (decide_eq_false (by rw [c2]; exact Bool.false_ne_true)) ?_; wp_walk using wpAny_loadPart' hl)
      | (refine wpAny_ite_false (decide_eq_false (by rw [c1]; exact Bool.false_ne_true)) ?_; wp_walk using wpAny_loadPart' hl))
    exact ⟨_, rfl, h⟩
end Ci

set_option Elab.async false
set_option linter.all false
set_option maxRecDepth 100000
set_option maxHeartbeats 2000000
namespace Ci
open PySem PySem.Spec PyProof.Rows L2
section
variable {z : Si} {F F' F1 F2 : Addr → Prop} {am am' am1 am2 : List Addr} {H H' H1 H2 : Hp} {d e : D} {v u : V} {ds : List D} {vs : List V} {h h' : Hs} {σ0 : SV} {Q : VK} {p : Addr} {o : HO}
/-- a new object that no one changes -/
theorem Sto.laid {c : Rc} (s : Sto c F am H h) (hp : H p = none) (o : HO) : Ext F am H F am (upd H p o) ∧ Sto c F am (upd H p o) h ∧ ¬ F p := by
  have e : Ext F am H F am (upd H p o) := ⟨⟨[], by simp⟩, fun a u q _ => by rw [upd_ne (ne_of_none q hp)]; exact q, fun _ _ _ n => n, fun _ q => q, fun _ a b => absurd a b⟩
  refine ⟨e, ⟨s.nd, s.len, s.inF, fun a q => ?_, fun i a o' q1 q2 => ?_⟩, fun q => ?_⟩
  · obtain ⟨u, q'⟩ := s.ok a q
    exact ⟨u, by rw [upd_ne (ne_of_none q' hp)]; exact q'⟩
  · have q := s.obj i a o' q1 q2
    cases o' with
    | lst ds =>
      obtain ⟨xs, q3, q4⟩ := q
      exact ⟨xs, by rw [upd_ne (ne_of_none q3 hp)]; exact q3, q4.ext e s.inF⟩
    | dct ds =>
      obtain ⟨xs, q3, qk, q4⟩ := q
      exact ⟨xs, by rw [upd_ne (ne_of_none q3 hp)]; exact q3, qk, q4.ext e s.inF⟩
  · obtain ⟨u, q'⟩ := s.ok p q
    rw [hp] at q'; cases q'
theorem PostD.at (q : SatR z σ0 F am H (.ok d h) (PostD z Q)) (s : Sto z.rc F am H h) (r : RD z.rc F am H d v) : Q v H := q F am H .refl s v r
/-- a new tuple -/
theorem PostD.tup (q : SatR z σ0 F am H (.ok (.tup ds) h) (PostD z Q)) (s : Sto z.rc F am H h) (r : RDs z.rc F am H ds vs) (hp : H p = none) : Q (.ref p) (upd H p (.tup vs)) := by
  obtain ⟨e, s', n⟩ := s.laid hp (.tup vs)
  exact q F am _ e s' _ (.tup upd_same n (r.ext e s.inF))
theorem PostD.lst (q : SatR z σ0 F am H (.ok (.lst ds) h) (PostD z Q)) (s : Sto z.rc F am H h) (r : RDs z.rc F am H ds vs) (hp : H p = none) : Q (.ref p) (upd H p (.lst vs)) := by
  obtain ⟨e, s', n⟩ := s.laid hp (.lst vs)
  exact q F am _ e s' _ (.lst upd_same n (r.ext e s.inF))
theorem okL_le {n : Nat} (h : okL n = true) : n ≤ sizeLine := of_decide_eq_true h
theorem ite_some {α : Type} {c : Bool} {x : α} {σ : SV} {P : α → Hs → (Addr → Prop) → List Addr → Hp → Prop} (q : SatR z σ F am H (liftO (if c = true then some x else none) h) P) : c = true ∧ SatR z σ F am H (.ok x h) P := by
  cases c with
  | true => exact ⟨rfl, q⟩
  | false => exact q.elim
end

/-! ### tuple * int -/
/-- (a, b, ..) * k -/
def rMulT : R2 := fun x y H Q => ∃ (l : Addr) (k : Int) (xs : List V), x = .ref l ∧ y = .int k ∧ H l = some (.tup xs) ∧ xs ≠ [] ∧ 2 ≤ k ∧ k ≤ 2000 ∧ xs.length ≤ 2000 ∧ ∀ p, H p = none → Q (.ref p) (upd H p (.tup (List.replicate k.toNat xs).flatten))
theorem mul_tup {X : Cx} : OpR X (binaryOp .Mult) rMulT := by
  intro pins s σ H x y v u Q I rx ry ⟨l, k, xs, ex, ey, hT, hne, g1, g2, g3, q⟩
  subst ex; subst ey
  cases rx
  obtain ⟨t, rfl⟩ := ry
  obtain ⟨its, r, ⟨⟨cls, dd, data, sl⟩, ho, hc, n, hd⟩, _⟩ := I.tuple (SqT.of hT)
  simp only at hc hd
  subst hc hd
  have len : its.length = xs.length := r.length.symm
  have full : its.toArray.isEmpty = false := by
    cases its with
    | nil => exact absurd (List.eq_nil_of_length_eq_zero len.symm) hne
    | cons a b => rfl
  have size : its.toArray.size = xs.length := by rw [List.size_toArray, len]
  have bound : ((its.toArray.size : Nat) : Int) * k ≤ 4000000 := by
    rw [size]
    have b1 : ((xs.length : Nat) : Int) * k ≤ 2000 * k := Int.mul_le_mul_of_nonneg_right (by omega) (by omega)
    omega
  have cells : k.toNat * xs.length ≤ 2000 * 2000 := Nat.mul_le_mul (by omega) g3
  have line := sizeLine_eq
  have d0 : (decide (k < -(2 ^ 63)) || decide (k ≥ 2 ^ 63)) = false := by simp; omega
  have d1 : (its.toArray.isEmpty || k == 1) = false := by rw [full]; simp; omega
  have d2 : (decide (k ≤ 0) || its.toArray.isEmpty) = false := by rw [full]; simp; omega
  have d4 : Builtin.Tuple.tupleTooMany (((its.toArray.size : Nat) : Int) * k) = false := by
    unfold Builtin.Tuple.tupleTooMany
    exact decide_eq_false (by rw [line]; omega)
  have fits : (List.foldl (fun x1 x2 => x1 ++ x2) #[] (List.replicate k.toNat its.toArray)).size ≤ sizeLine := by
    rw [size_rep, List.size_toArray, PyProof.Rows.lm_len_rep_flat, len, line]
    omega
  have made := call_meets (prog := X.prog) (w := X.w) (A := X.A) (E := X.xe) (s := s) (Q := EP X pins σ Q) F.slot_tuple_mul (show s.TypeIs (.ref l) "tuple" from ⟨_, ho, rfl⟩) F.entry_tuple_mul (F.args_tuple_mul_2 _ _) (tuple_mulW l its.toArray n dd sl k t d0 d1 d2 (by omega) d4 fits) ⟨ho, by
    rw [size_rep]
    refine ⟨.ref s.heap.objs.size, _, I.laid (t' := s.toks) (o := .tup (List.replicate k.toNat xs).flatten) (fun b ob q => Heap.get?_push_of_some _ q) (Nat.le_refl _) ?_, rfl, q _ I.fresh⟩
    exact ⟨by rw [PyProof.Rows.lm_len_rep_flat, line]; omega, _, r.rep k.toNat, IsTup.new _ _⟩⟩
  exact wpAny_binaryOp_repeat_ref (T := "tuple") (U := "int") (by decide) ⟨_, ho, rfl⟩ (fun s' => typeIs_int s' k t) noFill_tuple_mul F.fills_int_mul F.slot_int_rmul repeat_tuple F.slot_int_index.lookup
    (call_meets F.slot_int_rmul (typeIs_int s k t) F.entry_int_rmul (F.args_int_rmul_2 _ _) (int_rmul_tuple k t l its.toArray n dd sl) ⟨ho, rfl, ⟨_, ho, rfl⟩, made⟩)
/-- (a, b, ..) * 1 -/
theorem mul_tup1 {X : Cx} : OpR X (binaryOp .Mult) (fun x y H Q => ∃ (l : Addr) (xs : List V), x = .ref l ∧ y = .int 1 ∧ H l = some (.tup xs) ∧ Q (.ref l) H) := by
  intro pins s σ H x y v u Q I rx ry ⟨l, xs, ex, ey, hT, q⟩
  subst ex; subst ey
  cases rx
  obtain ⟨t, rfl⟩ := ry
  obtain ⟨its, r, ⟨⟨cls, dd, data, sl⟩, ho, hc, n, hd⟩, _⟩ := I.tuple (SqT.of hT)
  simp only at hc hd
  subst hc hd
  have made := call_meets (prog := X.prog) (w := X.w) (A := X.A) (E := X.xe) (s := s) (Q := EP X pins σ Q) F.slot_tuple_mul (show s.TypeIs (.ref l) "tuple" from ⟨_, ho, rfl⟩) F.entry_tuple_mul (F.args_tuple_mul_2 _ _) (tuple_mul1 l its.toArray n dd sl t) ⟨ho, .ref l, H, I, rfl, q⟩
  exact wpAny_binaryOp_repeat_ref (T := "tuple") (U := "int") (by decide) ⟨_, ho, rfl⟩ (fun s' => typeIs_int s' 1 t) noFill_tuple_mul F.fills_int_mul F.slot_int_rmul repeat_tuple F.slot_int_index.lookup
    (call_meets F.slot_int_rmul (typeIs_int s 1 t) F.entry_int_rmul (F.args_int_rmul_2 _ _) (int_rmul_tuple 1 t l its.toArray n dd sl) ⟨ho, rfl, ⟨_, ho, rfl⟩, made⟩)
/-- (a, b, ..) * 0 -/
theorem mul_tup0 {X : Cx} : OpR X (binaryOp .Mult) (fun x y H Q => ∃ (l : Addr) (xs : List V), x = .ref l ∧ y = .int 0 ∧ H l = some (.tup xs) ∧ xs ≠ [] ∧ ∀ p, H p = none → Q (.ref p) (upd H p (.tup []))) := by
  intro pins s σ H x y v u Q I rx ry ⟨l, xs, ex, ey, hT, hne, q⟩
  subst ex; subst ey
  cases rx
  obtain ⟨t, rfl⟩ := ry
  obtain ⟨its, r, ⟨⟨cls, dd, data, sl⟩, ho, hc, n, hd⟩, _⟩ := I.tuple (SqT.of hT)
  simp only at hc hd
  subst hc hd
  have len : its.length = xs.length := r.length.symm
  have full : its.toArray.isEmpty = false := by
    cases its with
    | nil => exact absurd (List.eq_nil_of_length_eq_zero len.symm) hne
    | cons a b => rfl
  have made := call_meets (prog := X.prog) (w := X.w) (A := X.A) (E := X.xe) (s := s) (Q := EP X pins σ Q) F.slot_tuple_mul (show s.TypeIs (.ref l) "tuple" from ⟨_, ho, rfl⟩) F.entry_tuple_mul (F.args_tuple_mul_2 _ _) (tuple_mul0 l its.toArray n dd sl t full) ⟨ho, by
    refine ⟨.ref s.heap.objs.size, _, I.laid (t' := s.toks) (o := .tup []) (fun b ob q => Heap.get?_push_of_some _ q) (Nat.le_refl _) ?_, rfl, q _ I.fresh⟩
    exact ⟨Nat.zero_le _, [], .nil, IsTup.new _ _⟩⟩
  exact wpAny_binaryOp_repeat_ref (T := "tuple") (U := "int") (by decide) ⟨_, ho, rfl⟩ (fun s' => typeIs_int s' 0 t) noFill_tuple_mul F.fills_int_mul F.slot_int_rmul repeat_tuple F.slot_int_index.lookup
    (call_meets F.slot_int_rmul (typeIs_int s 0 t) F.entry_int_rmul (F.args_int_rmul_2 _ _) (int_rmul_tuple 0 t l its.toArray n dd sl) ⟨ho, rfl, ⟨_, ho, rfl⟩, made⟩)
theorem mulOk_is {a b : Int} (h : mulOk a b = true) : CMulW a b := by
  unfold mulOk at h
  unfold CMulW
  exact of_decide_eq_true h
/-- what an operation by data wants -/
def rB (z : Si) (f : D → D → Option D) : R2 := fun x y H Q => ∃ σ0 F am h d e, Sto z.rc F am H h ∧ RR z.rc F am H d x ∧ RR z.rc F am H e y ∧ SatR z σ0 F am H (liftO (f d e) h) (PostD z Q)
section
variable {X : Cx} {z : Si}
theorem add_ok (hK : X.K = z.K) : OpR X (binaryOp .Add) (rB z addD) := by
  intro pins s σ H x y v u Q I rx ry ⟨σ0, F, am, h, d, e, st, r1, r2, q⟩
  unfold addD at q
  split at q
  · cases r1.int; cases r2.int
    exact op_add pins s σ H _ _ v u Q I rx ry ⟨_, _, rfl, rfl, PostD.at q st (.int _)⟩
  · cases r1.str; cases r2.str
    obtain ⟨c, q⟩ := ite_some q
    exact op_add_str pins s σ H _ _ v u Q I rx ry ⟨_, _, rfl, rfl, okL_le c, PostD.at q st (.str _)⟩
  · obtain ⟨c, q⟩ := ite_some q
    obtain ⟨a, xs, rfl, e1, n1, k1⟩ := r1.tuple
    obtain ⟨b, ys, rfl, e2, n2, k2⟩ := r2.tuple
    refine op_catA pins s σ H _ _ v u Q I rx ry ⟨a, b, xs, ys, rfl, rfl, SqT.of e1, SqT.of e2, by rw [← k1.length, ← k2.length]; exact okL_le c, fun e0 => ?_, fun _ e0 => ?_, fun _ _ p hp => ?_⟩
    · subst e0
      cases k1
      exact PostD.at q st (.tup e2 n2 k2)
    · subst e0
      cases k2
      rw [List.append_nil] at q
      exact PostD.at q st (.tup e1 n1 k1)
    · exact PostD.tup q st (k1.append k2) hp
  · obtain ⟨c, q⟩ := ite_some q
    obtain ⟨a, xs, rfl, e1, k1⟩ := r1.list
    obtain ⟨b, ys, rfl, e2, k2⟩ := r2.list
    exact op_cat pins s σ H _ _ v u Q I rx ry ⟨a, b, xs, ys, rfl, rfl, e1, e2, by rw [← k1.length, ← k2.length]; exact okL_le c, fun p hp => PostD.lst q st (k1.append k2) hp⟩
  · exact q.elim
theorem bin_ok (hK : X.K = z.K) (op : Operator) : OpR X (binaryOp op) (rB z (binD op)) := by
  intro pins s σ H x y v u Q I rx ry ⟨σ0, F, am, h, d, e, st, r1, r2, q⟩
  unfold binD at q
  split at q
  · exact add_ok hK pins s σ H _ _ v u Q I rx ry ⟨σ0, F, am, h, _, _, st, r1, r2, q⟩
  · cases r1.int; cases r2.int
    exact op_sub pins s σ H _ _ v u Q I rx ry ⟨_, _, rfl, rfl, PostD.at q st (.int _)⟩
  · cases r1.int; cases r2.int
    obtain ⟨c, q⟩ := ite_some q
    exact op_mulW pins s σ H _ _ v u Q I rx ry ⟨_, _, rfl, rfl, mulOk_is c, PostD.at q st (.int _)⟩
  · rename_i ds0 k0
    obtain ⟨c, q⟩ := ite_some q
    cases r2.int
    obtain ⟨a, xs, rfl, e1, n1, k1⟩ := r1.tuple
    simp only [Bool.and_eq_true, decide_eq_true_eq, Bool.not_eq_true'] at c
    obtain ⟨⟨⟨c1, c2⟩, c3⟩, c4⟩ := c
    have hne : xs ≠ [] := fun e => by
      subst e
      cases k1
      cases c4
    by_cases z0 : k0 = 0
    · subst z0
      have q : SatR z σ0 F am H (.ok (.tup []) h) (PostD z Q) := q
      exact mul_tup0 pins s σ H _ _ v u Q I rx ry ⟨a, xs, rfl, rfl, e1, hne, fun p hp => PostD.tup q st .nil hp⟩
    by_cases z1 : k0 = 1
    · subst z1
      rw [show (List.replicate (1 : Int).toNat ds0).flatten = ds0 by simp] at q
      exact mul_tup1 pins s σ H _ _ v u Q I rx ry ⟨a, xs, rfl, rfl, e1, PostD.at q st (.tup e1 n1 k1)⟩
    exact mul_tup pins s σ H _ _ v u Q I rx ry ⟨a, _, xs, rfl, rfl, e1, hne, by omega, c2, by rw [← k1.length]; exact c3, fun p hp => PostD.tup q st (k1.flatRep _) hp⟩
  · obtain ⟨c, q⟩ := ite_some q
    cases r2.int
    obtain ⟨a, xs, rfl, e1, k1⟩ := r1.list
    simp only [Bool.and_eq_true, decide_eq_true_eq] at c
    obtain ⟨⟨c1, c2⟩, c3⟩ := c
    refine op_rep pins s σ H _ _ v u Q I rx ry ⟨a, _, xs, rfl, rfl, e1, by omega, by omega, ?_, fun p hp => PostD.lst q st (k1.flatRep _) hp⟩
    rw [← k1.length, sizeLine_eq]
    exact Nat.le_trans (Nat.mul_le_mul c3 (show _ ≤ 2000 by omega)) (by decide)
  · cases r1.int; cases r2.int
    obtain ⟨c, q⟩ := ite_some q
    simp only [Bool.and_eq_true, decide_eq_true_eq] at c
    exact op_fdivW pins s σ H _ _ v u Q I rx ry ⟨_, _, rfl, rfl, ⟨c.1, c.2⟩, PostD.at q st (.int _)⟩
  · cases r1.int; cases r2.int
    obtain ⟨c, q⟩ := ite_some q
    exact op_mod pins s σ H _ _ v u Q I rx ry ⟨_, _, rfl, rfl, of_decide_eq_true c, PostD.at q st (.int _)⟩
  · cases r1.int; cases r2.int
    obtain ⟨c, q⟩ := ite_some q
    simp only [Bool.and_eq_true, decide_eq_true_eq] at c
    exact op_pow pins s σ H _ _ v u Q I rx ry ⟨_, _, rfl, rfl, ⟨c.1.1, by omega, by omega⟩, PostD.at q st (.int _)⟩
  · cases r1.int; cases r2.int
    exact op_and pins s σ H _ _ v u Q I rx ry ⟨_, _, rfl, rfl, PostD.at q st (.int _)⟩
  · exact q.elim
/-! ### comparisons -/
mutual
theorem RD.dp {F : Addr → Prop} {am : List Addr} {H : Hp} {K : PySem.W.Frag} : ∀ {d : D} {v : V}, RD z.rc F am H d v → d.pure = true → Dp K H v d.py
  | _, _, .non, _ => by simp only [D.py]; exact .non
  | _, _, .bl b, _ => by simp only [D.py]; exact .bl b
  | _, _, .int b, _ => by simp only [D.py]; exact .int b
  | _, _, .str b, _ => by simp only [D.py]; exact .str b
  | _, _, .tup r n k, h => by simp only [D.py]; exact .tup (SqT.of r) (RDs.dp k (by simpa only [D.pure] using h))
  | _, _, .lst r n k, h => by simp only [D.py]; exact .lst (SqL.of r) (RDs.dp k (by simpa only [D.pure] using h))
  | _, _, .ref q, h => by simp [D.pure] at h
  | _, _, .fn q, h => by simp [D.pure] at h
  | _, _, .exc _ _ _ _, h => by simp [D.pure] at h
  | _, _, .scr _ _ _, h => by simp [D.pure] at h
  | _, _, .scrK _ _, h => by simp [D.pure] at h
theorem RDs.dp {F : Addr → Prop} {am : List Addr} {H : Hp} {K : PySem.W.Frag} : ∀ {d : List D} {v : List V}, RDs z.rc F am H d v → D.pures d = true → DpAll K H v (D.pys d)
  | _, _, .nil, _ => by simp only [D.pys]; exact .nil
  | _, _, .cons r k, h => by
    simp only [D.pures, Bool.and_eq_true] at h
    simp only [D.pys]
    exact .cons (RD.dp r h.1) (RDs.dp k h.2)
end
theorem RR.dp {F : Addr → Prop} {am : List Addr} {H : Hp} {K : PySem.W.Frag} {d : D} {v : V} (r : RR z.rc F am H d v) (h : d.pure = true) : Dp K H v d.py := by
  cases r with
  | rd r => exact r.dp h
  | lst r k => simp only [D.py]; exact .lst (SqL.of r) (RDs.dp k (by simpa only [D.pure] using h))
theorem map_bl {F : Addr → Prop} {am : List Addr} {H : Hp} {h : Hs} {σ0 : SV} {Q : VK} {o : Option Bool} (q : SatR z σ0 F am H (liftO (o.map D.bl) h) (PostD z Q)) (st : Sto z.rc F am H h) : ∃ b, o = some b ∧ Q (.bl b) H := by
  cases o with
  | none => exact q.elim
  | some b => exact ⟨b, rfl, PostD.at q st (.bl b)⟩
theorem eqD_ok {a b : D} {k : Bool} (h : eqD a b = some k) : (a.pure = true ∧ SeqAt.shaped a.py = true) ∧ (b.pure = true ∧ SeqAt.shaped b.py = true) ∧ k = PyData.eqv a.py b.py := by
  unfold eqD at h
  split at h
  · rename_i c
    simp only [D.eqOk, Bool.and_eq_true] at c
    exact ⟨c.1, c.2, (Option.some.inj h).symm⟩
  · cases h
def rC (z : Si) (f : D → D → Option Bool) : R2 := fun x y H Q => ∃ σ0 F am h d e, Sto z.rc F am H h ∧ RR z.rc F am H d x ∧ RR z.rc F am H e y ∧ SatR z σ0 F am H (liftO ((f d e).map D.bl) h) (PostD z Q)
theorem cmp_ok (hK : X.K = z.K) (hu : X.A.units + 70 < cLine) (op : CmpOp) : OpR X (compareOp op) (rC z (cmpD op)) := by
  intro pins s σ H x y v u Q I rx ry ⟨σ0, F, am, h, d, e, st, r1, r2, q⟩
  obtain ⟨b, e0, q⟩ := map_bl q st
  unfold cmpD at e0
  split at e0
  · obtain ⟨⟨a1, a2⟩, ⟨b1, b2⟩, rfl⟩ := eqD_ok e0
    exact op_eqD (by omega) pins s σ H _ _ v u Q I rx ry ⟨_, _, r1.dp a1, r2.dp b1, a2, b2, q⟩
  · cases e1 : eqD d e with
    | none => rw [e1] at e0; cases e0
    | some k =>
      rw [e1] at e0
      cases e0
      obtain ⟨⟨a1, a2⟩, ⟨b1, b2⟩, rfl⟩ := eqD_ok e1
      exact op_neD (by omega) pins s σ H _ _ v u Q I rx ry ⟨_, _, r1.dp a1, r2.dp b1, a2, b2, q⟩
  · cases e0; cases r1.int; cases r2.int
    exact op_lt pins s σ H _ _ v u Q I rx ry ⟨_, _, rfl, rfl, q⟩
  · cases e0; cases r1.int; cases r2.int
    exact op_le pins s σ H _ _ v u Q I rx ry ⟨_, _, rfl, rfl, q⟩
  · cases e0; cases r1.int; cases r2.int
    exact op_gt pins s σ H _ _ v u Q I rx ry ⟨_, _, rfl, rfl, q⟩
  · cases e0; cases r1.int; cases r2.int
    exact op_ge pins s σ H _ _ v u Q I rx ry ⟨_, _, rfl, rfl, q⟩
  · split at e0
    · rename_i c
      cases e0
      simp only [D.eqOk, Bool.and_eq_true] at c
      have k2 := r2.dp (K := X.K) c.2.1
      have c22 := c.2.2
      simp only [D.py] at k2 c22
      exact op_inD (by omega) pins s σ H _ _ v u Q I rx ry ⟨_, _, r1.dp c.1.1, k2, c.1.2, c22, q⟩
    · cases e0
  · split at e0
    · rename_i c
      cases e0
      simp only [D.eqOk, Bool.and_eq_true] at c
      have k2 := r2.dp (K := X.K) c.2.1
      have c22 := c.2.2
      simp only [D.py] at k2 c22
      exact op_notInD (by omega) pins s σ H _ _ v u Q I rx ry ⟨_, _, r1.dp c.1.1, k2, c.1.2, c22, q⟩
    · cases e0
  · split at e0
    · rename_i c
      cases e0
      simp only [D.eqOk, Bool.and_eq_true] at c
      have k2 := r2.dp (K := X.K) c.2.1
      have c22 := c.2.2
      simp only [D.py] at k2 c22
      obtain ⟨as, t1⟩ := Dp.reads I _ _ v (r1.dp (K := X.K) c.1.1) rx
      obtain ⟨bs, t2⟩ := Dp.reads I _ _ u k2 ry
      exact SeqAt.in_tuple_reads t2 t1 (SeqAt.canLay_of_shaped c22) (SeqAt.canLay_of_shaped c.1.2) (room_in_shaped c.1.2 (by omega)) ⟨.bl _, H, I, rfl, q⟩
    · cases e0
  · split at e0
    · rename_i c
      cases e0
      simp only [D.eqOk, Bool.and_eq_true] at c
      have k2 := r2.dp (K := X.K) c.2.1
      have c22 := c.2.2
      simp only [D.py] at k2 c22
      obtain ⟨as, t1⟩ := Dp.reads I _ _ v (r1.dp (K := X.K) c.1.1) rx
      obtain ⟨bs, t2⟩ := Dp.reads I _ _ u k2 ry
      exact SeqAt.notIn_tuple_reads t2 t1 (SeqAt.canLay_of_shaped c22) (SeqAt.canLay_of_shaped c.1.2) (room_in_shaped c.1.2 (by omega)) ⟨.bl _, H, I, rfl, q⟩
    · cases e0
  · cases e0
/-! ### truth -/
theorem tru_of {F : Addr → Prop} {am : List Addr} {H : Hp} {d : D} {v : V} {k : Bool} {K : PySem.W.Frag} (r : RR z.rc F am H d v) (e : truD d = some k) : TruV K v H k := by
  unfold truD at e
  split at e
  · cases r.non; cases e; rfl
  · cases r.bl; cases e; rfl
  · cases r.int; cases e; rfl
  · rename_i s
    cases r.str
    split at e
    · rename_i c
      cases e
      exact ⟨okL_le c, by
        show (s.length != 0) = ((s.length : Int) != 0)
        cases hs : s.length with
        | zero => rfl
        | succ n =>
          have a1 : (n + 1 != 0) = true := by simp
          have a2 : (((n + 1 : Nat) : Int) != 0) = true := by
            rw [bne_iff_ne]; omega
          rw [a1, a2]⟩
    · cases e
  · cases e
    obtain ⟨a, xs, rfl, e1, _, k1⟩ := r.tuple
    refine .inr (.inl ⟨xs, SqT.of e1, ?_⟩)
    cases k1 <;> rfl
  · cases e
    obtain ⟨a, xs, rfl, e1, k1⟩ := r.list
    refine .inl ⟨xs, SqL.of e1, ?_⟩
    cases k1 <;> rfl
  · cases e
/-! ### subscripts and slices -/
theorem ixI_eq (n : Nat) (i : Int) : ixI n i = ixN n i := rfl
theorem ix_ok (hK : X.K = z.K) : IxR X (fun x y H Q => ∃ σ0 F am h d e, Sto z.rc F am H h ∧ RR z.rc F am H d x ∧ RD z.rc F am H e y ∧ SatR z σ0 F am H (liftO (ixD d e) h) (PostD z Q)) := by
  intro value slice pins s σ H x y v u Q I rx ry ⟨σ0, F, am, h, d, e, st, r1, r2, q⟩ hs
  unfold ixD at q
  split at q
  · rename_i xs i
    obtain ⟨a, ws, rfl, e1, _, k1⟩ := r1.tuple
    cases r2
    unfold atD at q
    rw [ixI_eq] at q
    cases e2 : ixN xs.length i with
    | none => rw [e2] at q; exact q.elim
    | some j =>
      rw [e2] at q
      cases e3 : xs[j]? with
      | none => simp only [Option.bind_some, e3] at q; exact q.elim
      | some w =>
        simp only [Option.bind_some, e3] at q
        obtain ⟨w', q1, q2⟩ := k1.get e3
        refine ix_tup value slice pins s σ H _ _ v u Q I rx ry ⟨a, ws, _, w', rfl, rfl, SqT.of e1, ?_, PostD.at q st q2⟩ hs
        unfold atI
        rw [← k1.length, e2, Option.bind_some]
        exact q1
  · rename_i xs i
    obtain ⟨a, ws, rfl, e1, k1⟩ := r1.list
    cases r2
    unfold atD at q
    rw [ixI_eq] at q
    cases e2 : ixN xs.length i with
    | none => rw [e2] at q; exact q.elim
    | some j =>
      rw [e2] at q
      cases e3 : xs[j]? with
      | none => simp only [Option.bind_some, e3] at q; exact q.elim
      | some w =>
        simp only [Option.bind_some, e3] at q
        obtain ⟨w', q1, q2⟩ := k1.get e3
        refine ix_list value slice pins s σ H _ _ v u Q I rx ry ⟨a, ws, _, w', rfl, rfl, SqL.of e1, ?_, PostD.at q st q2⟩ hs
        unfold atI
        rw [← k1.length, e2, Option.bind_some]
        exact q1
  · rename_i t i
    obtain ⟨c, q⟩ : okL t.length = true ∧ SatR z σ0 F am H (liftO (chD t i) h) (PostD z Q) := by
      split at q
      · rename_i c; exact ⟨c, q⟩
      · exact q.elim
    cases r1.str
    cases r2
    unfold chD at q
    rw [ixI_eq] at q
    cases e2 : ixN t.cps.toList.length i with
    | none => rw [e2] at q; exact q.elim
    | some j =>
      rw [e2] at q
      cases e3 : t.cps.toList[j]? with
      | none => simp only [Option.bind_some, e3] at q; exact q.elim
      | some w =>
        simp only [Option.bind_some, e3] at q
        refine ix_str value slice pins s σ H _ _ v u Q I rx ry ⟨t, i, w, rfl, rfl, okL_le c, ?_, PostD.at q st (.str _)⟩ hs
        unfold atI
        rw [e2, Option.bind_some]
        exact e3
  · exact q.elim
theorem cut_rel {F : Addr → Prop} {am : List Addr} {H : Hp} {xs : List D} {ws : List V} {lo hi : Option Int} (k : RDs z.rc F am H xs ws) : RDs z.rc F am H (cutL xs lo hi) (cutV ws lo hi) := by
  have e : ∀ (n d : Nat) (o : Option Int), cutI n d o = HT.sIx n d o := fun n d o => by cases o <;> rfl
  unfold cutL cutV
  rw [e, e, k.length]
  exact (k.drop _).take _
theorem sl_ok (hK : X.K = z.K) : SlR X (fun x lo hi H Q => ∃ σ0 F am h d, Sto z.rc F am H h ∧ RR z.rc F am H d x ∧ SatR z σ0 F am H (liftO (slD d lo hi) h) (PostD z Q)) := by
  intro pins s σ H x v vl vu lo hi sl Q I rx hs pl pu ⟨σ0, F, am, h, d, st, r1, q⟩
  unfold slD at q
  split at q
  · obtain ⟨a, ws, rfl, e1, n1, k1⟩ := r1.tuple
    refine sl_tupA pins s σ H _ v vl vu lo hi sl Q I rx hs pl pu ⟨a, ws, rfl, SqT.of e1, fun c => ?_, fun _ p hp => PostD.tup q st (cut_rel k1) hp⟩
    rename_i xs
    have e : cutL xs lo hi = xs := by
      have e : ∀ (n d : Nat) (o : Option Int), cutI n d o = HT.sIx n d o := fun n d o => by cases o <;> rfl
      unfold cutL
      rw [e, e, k1.length, c.1, c.2, List.drop_zero, Nat.sub_zero, ← k1.length, List.take_length]
    rw [e] at q
    exact PostD.at q st (.tup e1 n1 k1)
  · obtain ⟨a, ws, rfl, e1, k1⟩ := r1.list
    exact sl_list pins s σ H _ v vl vu lo hi sl Q I rx hs pl pu ⟨a, ws, rfl, SqL.of e1, fun p hp => PostD.lst q st (cut_rel k1) hp⟩
  · exact q.elim
end
end Ci

set_option Elab.async false
set_option linter.all false
set_option maxRecDepth 100000
set_option maxHeartbeats 4000000
namespace Ci
open PySem PySem.Spec PyProof.Rows L2
mutual
theorem py_inj : ∀ {a b : D}, a.pure = true → b.pure = true → a.py = b.py → a = b
  | .non, b, _, hb, e => by cases b <;> simp_all [D.py, D.pure]
  | .bl x, b, _, hb, e => by cases b <;> simp_all [D.py, D.pure]
  | .int x, b, _, hb, e => by cases b <;> simp_all [D.py, D.pure]
  | .str x, b, _, hb, e => by cases b <;> simp_all [D.py, D.pure]
  | .tup xs, b, ha, hb, e => by
    cases b with
    | tup ys =>
      simp only [D.py, PyData.tuple.injEq] at e
      simp only [D.pure] at ha hb
      rw [pys_inj ha hb e]
    | _ => simp [D.py, D.pure] at e hb
  | .lst xs, b, ha, hb, e => by
    cases b with
    | lst ys =>
      simp only [D.py, PyData.list.injEq] at e
      simp only [D.pure] at ha hb
      rw [pys_inj ha hb e]
    | _ => simp [D.py, D.pure] at e hb
  | .ref _, _, h, _, _ => by simp [D.pure] at h
  | .fn _, _, h, _, _ => by simp [D.pure] at h
  | .exc _ _, _, h, _, _ => by simp [D.pure] at h
  | .scr _, _, h, _, _ => by simp [D.pure] at h
theorem pys_inj : ∀ {a b : List D}, D.pures a = true → D.pures b = true → D.pys a = D.pys b → a = b
  | [], [], _, _, _ => rfl
  | [], _ :: _, _, _, e => by simp [D.pys] at e
  | _ :: _, [], _, _, e => by simp [D.pys] at e
  | x :: xs, y :: ys, ha, hb, e => by
    simp only [D.pys, List.cons.injEq] at e
    simp only [D.pures, Bool.and_eq_true] at ha hb
    rw [py_inj ha.1 hb.1 e.1, pys_inj ha.2 hb.2 e.2]
end
theorem pys_map : ∀ xs : List D, D.pys xs = xs.map D.py
  | [] => rfl
  | x :: xs => by simp [D.pys, pys_map xs]
theorem minB_py : ∀ (r : List D) (x : D), (minB x r).py = PySem.W.minD x.py (D.pys r)
  | [], x => rfl
  | y :: r, x => by
    unfold minB
    rw [minB_py r]
    show _ = PySem.W.minD (if PySem.W.dataLt y.py x.py = true then y.py else x.py) (D.pys r)
    split <;> rfl
theorem maxB_py : ∀ (r : List D) (x : D), (maxB x r).py = PySem.W.maxD x.py (D.pys r)
  | [], x => rfl
  | y :: r, x => by
    unfold maxB
    rw [maxB_py r]
    show _ = PySem.W.maxD (if PySem.W.dataLt x.py y.py = true then y.py else x.py) (D.pys r)
    split <;> rfl
theorem minB_mem : ∀ (r : List D) (x : D), minB x r ∈ x :: r
  | [], x => by simp [minB]
  | y :: r, x => by
    unfold minB
    have := minB_mem r (if PySem.W.dataLt y.py x.py = true then y else x)
    split at this <;> simp_all <;> rcases this with h | h <;> simp_all
theorem maxB_mem : ∀ (r : List D) (x : D), maxB x r ∈ x :: r
  | [], x => by simp [maxB]
  | y :: r, x => by
    unfold maxB
    have := maxB_mem r (if PySem.W.dataLt x.py y.py = true then y else x)
    split at this <;> simp_all <;> rcases this with h | h <;> simp_all
theorem pures_mem : ∀ {xs : List D}, D.pures xs = true → ∀ d ∈ xs, d.pure = true
  | x :: xs, h, d, hd => by
    simp only [D.pures, Bool.and_eq_true] at h
    rcases List.mem_cons.1 hd with rfl | hd
    · exact h.1
    · exact pures_mem h.2 d hd
section
variable {X : Cx} {z : Si}
theorem alike_all {xs : List D} (h : alikeB xs = true) : D.pures xs = true ∧ PySem.W.AlikeAll (D.pys xs) ∧ PyData.depthAll (D.pys xs) ≤ 64 := by
  unfold alikeB at h
  simp only [Bool.and_eq_true, decide_eq_true_eq] at h
  obtain ⟨⟨⟨h1, h2⟩, h3⟩, h4⟩ := h
  refine ⟨h1, ⟨fun a ha b hb => ?_, fun a ha => ?_⟩, h4⟩
  · rw [pys_map] at ha hb
    obtain ⟨x, hx, rfl⟩ := List.mem_map.1 ha
    obtain ⟨y, hy, rfl⟩ := List.mem_map.1 hb
    exact List.all_eq_true.1 (List.all_eq_true.1 h2 x hx) y hy
  · rw [pys_map] at ha
    obtain ⟨x, hx, rfl⟩ := List.mem_map.1 ha
    have := List.all_eq_true.1 h3 x hx
    have hp := pures_mem h1 x hx
    cases x <;> simp_all [isNonD, D.py, D.pure]
def rBest (z : Si) (K : PySem.W.Frag) (f : D → List D → D) : List V → Hp → VK → Prop := fun vs H Q => ∃ (a : Addr) (ys : List V), vs = [.ref a] ∧ SqL K H a ys ∧ ∃ σ0 F am h x r, Sto z.rc F am H h ∧ RDs z.rc F am H (x :: r) ys ∧ alikeB (x :: r) = true ∧ SatR z σ0 F am H (liftO (some (f x r)) h) (PostD z Q)
theorem vals_at : ∀ {ys : List V} {us : List Value} {i : Nat} {u : Value}, Vals ys us → us[i]? = some u → ∃ y, ys[i]? = some y ∧ RelV y u
  | _, _, _, _, .nil, e => by simp at e
  | _, _, 0, _, .cons r _, e => by simp at e; subst e; exact ⟨_, rfl, r⟩
  | _, _, i + 1, u, .cons _ k, e => by
    obtain ⟨v, h1, h2⟩ := vals_at (i := i) (u := u) k (by simpa using e)
    exact ⟨v, by simpa using h1, h2⟩
theorem best_at {pins : List (Addr × Obj)} {σ σ0 : SV} {H : Hp} {s : Shared} {F : Addr → Prop} {am : List Addr} {h : Hs} {xs : List D} {b : D} {ys : List V} {its : List Value} {Q : VK} {i : Nat} {v : Value} {h' : Heap} {bs : List Addr} (I : L2.Inv X pins σ H s) (st : Sto z.rc F am H h) (k : RDs z.rc F am H xs ys) (p1 : D.pures xs = true) (hb : b ∈ xs) (rv : Vals ys its)
    (hv : its[i]? = some v) (rd : Reads h' v b.py bs) (hk : ∀ b o, s.heap.get? b = some o → h'.get? b = some o) (q : SatR z σ0 F am H (.ok b h) (PostD z Q)) : ∃ y, RelV y v ∧ Q y H := by
  obtain ⟨y, hy, ry⟩ := vals_at rv hv
  obtain ⟨d, hd, kd⟩ := k.get' hy
  have hp := pures_mem p1 d (List.mem_of_getElem? hd)
  obtain ⟨as, r1⟩ := Dp.reads I _ _ _ (kd.dp (K := X.K) hp) ry
  have e := (PySem.Reads.unique (PySem.W.reads_keeps hk r1) _ _ rd).1
  have e2 := py_inj hp (pures_mem p1 b hb) e
  subst e2
  exact ⟨y, ry, PostD.at q st kd⟩
theorem min_dat (hc : X.calm = true) (hu : X.A.units + 70 < cLine) : CallR X (.builtin "min") (rBest z X.K minB) := by
  intro pins s σ H vs us Q I r ⟨a, ys, ev, hs, σ0, F, am, h, x, l, st, k, c, q⟩
  subst ev
  obtain ⟨its, rv, hl, _⟩ := I.list hs
  rw [Vals.ref1 r]
  obtain ⟨p1, p2, p3⟩ := alike_all c
  obtain ⟨as, ra⟩ := Dp.readsAll I _ _ _ (k.dp (K := X.K) p1) rv
  simp only [D.pys] at ra p2 p3
  refine PySem.W.min_list_data (I.ok.hd hc) hl.isList (by simpa using ra) p2 (by omega) fun i v h' tk bs hv rd hk => ?_
  rw [← minB_py] at rd
  obtain ⟨y, ry, qy⟩ := best_at I st k p1 (minB_mem l x) rv (by simpa using hv) rd hk q
  exact ⟨y, H, I.kept hk, ry, qy⟩
theorem max_dat (hc : X.calm = true) (hu : X.A.units + 70 < cLine) : CallR X (.builtin "max") (rBest z X.K maxB) := by
  intro pins s σ H vs us Q I r ⟨a, ys, ev, hs, σ0, F, am, h, x, l, st, k, c, q⟩
  subst ev
  obtain ⟨its, rv, hl, _⟩ := I.list hs
  rw [Vals.ref1 r]
  obtain ⟨p1, p2, p3⟩ := alike_all c
  obtain ⟨as, ra⟩ := Dp.readsAll I _ _ _ (k.dp (K := X.K) p1) rv
  simp only [D.pys] at ra p2 p3
  refine PySem.W.max_list_data (I.ok.hd hc) hl.isList (by simpa using ra) p2 (by omega) fun i v h' tk bs hv rd hk => ?_
  rw [← maxB_py] at rd
  obtain ⟨y, ry, qy⟩ := best_at I st k p1 (maxB_mem l x) rv (by simpa using hv) rd hk q
  exact ⟨y, H, I.kept hk, ry, qy⟩
/-- sorted(xs), xs tuples alike -/
def rSortD (z : Si) (K : PySem.W.Frag) : List V → Hp → VK → Prop := fun vs H Q => ∃ (a : Addr) (ys : List V), vs = [.ref a] ∧ SqL K H a ys ∧ ∃ σ0 F am h xs, Sto z.rc F am H h ∧ RDs z.rc F am H xs ys ∧ (alikeB xs && sortB xs && okL xs.length) = true ∧ SatR z σ0 F am H (.ok (.lst (xs.mergeSort (PySem.W.dataLe false D.py))) h) (PostD z Q)
theorem each_of {R : Value → D → Prop} : ∀ {xs : List D} {ys : List V} {us : List Value} {F : Addr → Prop} {am : List Addr} {H : Hp} {c : Rc}, RDs c F am H xs ys → Vals ys us → (∀ d v u, d ∈ xs → RD c F am H d v → RelV v u → R u d) → PySem.W.EachIs R us xs
  | [], [], _, _, _, _, _, .nil, .nil, _ => .nil
  | d :: xs, v :: ys, u :: us, _, _, _, _, .cons r rs, .cons q qs, k => .cons (k d v u List.mem_cons_self r q) (each_of rs qs fun d v u hd => k d v u (List.mem_cons_of_mem _ hd))
theorem each_back {c : Rc} {F : Addr → Prop} {am : List Addr} {H : Hp} : ∀ {us : List Value} {xs : List D}, PySem.W.EachIs (fun u d => ∃ v, RD c F am H d v ∧ RelV v u) us xs → ∃ ys, Vals ys us ∧ RDs c F am H xs ys
  | _, _, .nil => ⟨[], .nil, .nil⟩
  | _, _, .cons ⟨v, r, q⟩ t => let ⟨ys, a, b⟩ := each_back t; ⟨v :: ys, .cons q a, .cons r b⟩
theorem sort_dat (hu : X.A.units + 70 < cLine) : CallR X (.builtin "sorted") (rSortD z X.K) := by
  intro pins s σ H vs us Q I r ⟨a, ys, ev, hs, σ0, F, am, h, xs, st, k, c, q⟩
  subst ev
  obtain ⟨its, rv, hl, hz⟩ := I.list hs
  rw [Vals.ref1 r]
  simp only [Bool.and_eq_true] at c
  obtain ⟨⟨c1, c2⟩, c3⟩ := c
  obtain ⟨p1, p2, p3⟩ := alike_all c1
  have key : ∀ d ∈ xs, d.py.depth ≤ 64 := by
    have go : ∀ (l : List D) (d : D), d ∈ l → d.py.depth ≤ PyData.depthAll (D.pys l) := by
      intro l
      induction l with
      | nil => intro d hd; cases hd
      | cons x l ih =>
        intro d hd
        simp only [D.pys, PyData.depthAll]
        rcases List.mem_cons.1 hd with rfl | hd
        · exact Nat.le_max_left _ _
        · exact Nat.le_trans (ih d hd) (Nat.le_max_right _ _)
    exact fun d hd => Nat.le_trans (go xs d hd) p3
  refine PySem.W.sorted_data (enc := D.py) (R := fun u d => ∃ v, RD z.rc F am H d v ∧ RelV v u) hl.isList (each_of k rv fun d v u _ r q => ⟨v, r, q⟩) (each_of k rv fun d v u hd r q => ?_) ?_ ?_ (okL_le c3) (fun d hd => by have := key d hd; omega) fun out ho he => ?_
  · exact Dp.reads I _ _ _ (r.dp (K := X.K) (pures_mem p1 d hd)) q
  · intro d hd d' hd'
    rw [← pys_map] at hd hd'
    exact p2.1 d hd d' hd'
  · refine .inl fun d hd => ?_
    obtain ⟨x, hx, rfl⟩ := List.mem_map.1 hd
    have := List.all_eq_true.1 c2 x hx
    split at this
    · exact ⟨_, _, by simp only [D.py, D.pys]; rfl⟩
    · cases this
  · obtain ⟨ws, w1, w2⟩ := each_back he
    obtain ⟨ep, he'⟩ := PyProof.Rows.sortedAll_at s.heap its out.toArray
    have hlen : ws.length ≤ sizeLine := by
      rw [← w2.length, List.length_mergeSort]
      exact okL_le c3
    have f := I.hok.fresh (Nat.le_succ s.heap.objs.size)
    refine ⟨.ref _, upd H (s.heap.objs.size + 1) (.lst ws), I.laid (t' := s.toks) (fun _ _ => PyProof.Rows.sortedAll_old) (Nat.le_succ _) ⟨hlen, out, ep, w1, he'⟩, rfl, PostD.lst q st w2 f⟩
end
end Ci

set_option Elab.async false
set_option linter.all false
set_option maxRecDepth 100000
set_option maxHeartbeats 4000000
namespace Ci
open PySem PySem.Spec PyProof.Rows L2
/-! ### sorted(t), t a tuple -/
section
variable {prog : Program} {w : World} {A : Around} {E : Value → Shared → Prop} {s : Shared}
theorem coll_tup {l : Addr} {vs : List Value} {Q : List Value → Shared → Prop} (hl : s.heap.IsTuple l vs.toArray)
    (h : Q vs { s with heap := (s.heap.push (seqObj "list" #[] 0)).update s.heap.objs.size (Obj.mapSeq (· ++ vs.toArray)) }) (hsz : vs.length ≤ sizeLine) :
    wpAny (model prog w) A (collect (.ref l)) Q E s := by
  obtain ⟨o, ho, hc, n, hd⟩ := id hl
  unfold collect
  refine wpAny_bind (wpAny_runValue (codeAny_builtin entry_proto_collect' ?_))
  show wpAny _ _ (do again (.builtin "list.__iadd__" ⟨[← newList [], .ref l], []⟩)) _ _ s
  refine wpAny_bind (wpAny_newList (wpAny_pure ⟨Code.quiet_builtin _ (by decide +kernel), codeAny_builtin entry_list_iadd' ?_⟩))
  show wpAny _ _ (Builtin.List.listExtendWith (.ref s.heap.objs.size) (.ref l) (.ref s.heap.objs.size)) _ _ { s with heap := s.heap.push (seqObj "list" #[] 0) }
  unfold Builtin.List.listExtendWith
  have ho' : (s.heap.push (seqObj "list" #[] 0)).get? l = some o := Heap.get?_push_of_some _ ho
  refine wpAny_bind (wpAny_typeOf (T := "tuple") ⟨o, ho', hc⟩ ?_)
  have ht : (Value.type "tuple" == Value.type "tuple") = true := by rfl
  rw [if_pos (by rw [ht]; simp)]
  refine wpAny_bind (listItems_at ho' hd ?_)
  refine wpAny_bind (listItems_at (xs := #[]) (n := 0) (Heap.get?_push_size _ rfl) rfl ?_)
  rw [if_neg (by simp)]
  refine wpAny_bind (listUpdate_at (xs := #[]) (n := 0) (Heap.get?_push_size _ rfl) rfl ?_ (Nat.zero_le _) (by show (#[] ++ vs.toArray).size ≤ sizeLine + 1; simp only [Array.size_append, List.size_toArray, List.length_nil]; omega))
  refine wpAny_pure ?_
  show wpAny (model prog w) A (do
      let o ← load s.heap.objs.size
      match o.data with
      | .seq xs _ => pure xs.toList
      | _ => unsupported "internal:collect") Q E { s with heap := (s.heap.push (seqObj "list" #[] 0)).update s.heap.objs.size (Obj.mapSeq (· ++ vs.toArray)) }
  refine wpAny_bind (wpAny_load (get?_update_seq (Heap.get?_push_size _ rfl) _) ?_)
  show wpAny _ _ (pure ((#[] : Array Value) ++ vs.toArray).toList) Q E _
  rw [show ((#[] : Array Value) ++ vs.toArray).toList = vs by simp]
  exact wpAny_pure h
open PySem.W in
theorem sorted_tupOf {l : Addr} {vs : List Value} {Q : Value → Shared → Prop} (hl : s.heap.IsTuple l vs.toArray) (hL : vs.length ≤ sizeLine)
    (body : ∀ E' : Value → Shared → Prop, wpAny (model prog w) A.in1.in1 (Builtin.«list.sort» ⟨[.ref (s.heap.objs.size + 1)], []⟩) (fun f s' => f = .done (.ret .none) ∧ Q (.ref (s.heap.objs.size + 1)) s') E' { s with heap := copyHeap s.heap vs }) :
    wpAny (model prog w) A (call (.builtin "sorted") [.ref l]) Q E s := by
  refine call_function_entry_kw kind_sorted plain_sorted entry_sorted (args_sorted1 _) ?_
  unfold Builtin.«sorted»
  refine wpAny_bind (m := checkCount "sorted" 1 1 _) (wpAny_pure ?_)
  refine wpAny_bind (coll_tup hl ?_ hL)
  refine wpAny_bind (wpAny_newList ?_ hL)
  have hsz : ((s.heap.push (seqObj "list" #[] 0)).update s.heap.objs.size (Obj.mapSeq (· ++ vs.toArray))).objs.size = s.heap.objs.size + 1 := by
    rw [Heap.size_update, size_push']
  show wpAny _ _ _ _ _ { s with heap := copyHeap s.heap vs }
  rw [hsz]
  refine wpAny_bind (wpAny_holding (wpAny_call_entry_kw slot_list_sort ⟨_, copyHeap_at s.heap vs, rfl⟩ entry_list_sort ?body (args_list_sort _)))
  case body =>
    show wpAny (model prog w) A.in1.in1 (Builtin.«list.sort» ⟨[.ref (s.heap.objs.size + 1)], []⟩) _ _ _
    refine wpAny_mono (body _) (fun f s' hf => ?_) fun _ _ e => e
    obtain ⟨rfl, hq⟩ := hf
    exact ⟨_, rfl, wpAny_pure ⟨_, rfl, hq⟩⟩
open PySem.W in
theorem sorted_tup_data {β : Type} {enc : β → PyData} {R : Value → β → Prop} {vs : List Value} {bs : List β} {l : Addr} {Q : Value → Shared → Prop} (hl : s.heap.IsTuple l vs.toArray) (e : EachIs R vs bs) (er : EachIs (fun v b => ∃ as, Reads s.heap v (enc b) as) vs bs) (hal : AllAlike (bs.map enc)) (hk : Sortable (bs.map enc)) (hL : bs.length ≤ sizeLine)
    (hu : ∀ b, b ∈ bs → A.units + 2 + (enc b).depth < cLine) (h : ∀ out, out.length = bs.length → EachIs R out (bs.mergeSort (dataLe false enc)) → Q (.ref (s.heap.objs.size + 1)) { s with heap := sortedAll s.heap vs (List.toArray out) }) :
    wpAny (model prog w) A (call (.builtin "sorted") [.ref l]) Q E s := by
  have er' : EachIs (fun v b => ∃ as, Reads (sortingHeap (copyHeap s.heap vs) (s.heap.objs.size + 1) vs) v (enc b) as) vs bs := er.mono fun _ _ ⟨as, r⟩ => ⟨as, PyProof.Rows.Reads.keeps (fun _ _ => sorting_copy_old) r⟩
  have S := SortsAt.data (prog := prog) (w := w) (A := A.in1.in1) (s := { s with heap := sortingHeap (copyHeap s.heap vs) (s.heap.objs.size + 1) vs }) (each_map (R := fun v d => ∃ as, Reads (sortingHeap (copyHeap s.heap vs) (s.heap.objs.size + 1) vs) v d as) enc er') hal hk (bound_map hu)
  have hL' : vs.length ≤ sizeLine := by rw [e.length]; exact hL
  refine sorted_tupOf hl hL' fun E' => list_sort_vals (s := { s with heap := copyHeap s.heap vs }) (copyHeap_at s.heap vs) S hL' ⟨rfl, ?_⟩
  exact h _ (by rw [sortVals_length false rfl]; exact e.length) (sortVals_data false e er' hal)
open PySem.W in
theorem sorted_tup_ints {vs : List Value} {ns : List Int} {l : Addr} {Q : Value → Shared → Prop} (hl : s.heap.IsTuple l vs.toArray) (hI : IntsAre vs ns) (hL : vs.length ≤ sizeLine)
    (h : ∀ (out : Array Value) (ns' : List Int), IntsAre out.toList ns' → ns'.Perm ns → ns'.Pairwise (· ≤ ·) → Q (.ref (s.heap.objs.size + 1)) { s with heap := sortedAll s.heap vs out }) :
    wpAny (model prog w) A (call (.builtin "sorted") [.ref l]) Q E s :=
  sorted_tupOf hl hL fun E' => list_sort_treeAny (s := { s with heap := copyHeap s.heap vs }) (copyHeap_at s.heap vs) hI hL fun out ns' a1 a2 a3 => ⟨rfl, h out ns' a1 a2 a3⟩
end
section
variable {X : Cx} {z : Si}
/-- sorted(t), t a tuple of tuples alike -/
def rSortDT (z : Si) (K : PySem.W.Frag) : List V → Hp → VK → Prop := fun vs H Q => ∃ (a : Addr) (ys : List V), vs = [.ref a] ∧ SqT K H a ys ∧ ∃ σ0 F am h xs, Sto z.rc F am H h ∧ RDs z.rc F am H xs ys ∧ (alikeB xs && sortB xs && okL xs.length) = true ∧ SatR z σ0 F am H (.ok (.lst (xs.mergeSort (PySem.W.dataLe false D.py))) h) (PostD z Q)
theorem sort_datT (hu : X.A.units + 70 < cLine) : CallR X (.builtin "sorted") (rSortDT z X.K) := by
  intro pins s σ H vs us Q I r ⟨a, ys, ev, hs, σ0, F, am, h, xs, st, k, c, q⟩
  subst ev
  obtain ⟨its, rv, hl, hz⟩ := I.tuple hs
  rw [Vals.ref1 r]
  simp only [Bool.and_eq_true] at c
  obtain ⟨⟨c1, c2⟩, c3⟩ := c
  obtain ⟨p1, p2, p3⟩ := alike_all c1
  have key : ∀ d ∈ xs, d.py.depth ≤ 64 := by
    have go : ∀ (l : List D) (d : D), d ∈ l → d.py.depth ≤ PyData.depthAll (D.pys l) := by
      intro l
      induction l with
      | nil => intro d hd; cases hd
      | cons x l ih =>
        intro d hd
        simp only [D.pys, PyData.depthAll]
        rcases List.mem_cons.1 hd with rfl | hd
        · exact Nat.le_max_left _ _
        · exact Nat.le_trans (ih d hd) (Nat.le_max_right _ _)
    exact fun d hd => Nat.le_trans (go xs d hd) p3
  refine sorted_tup_data (enc := D.py) (R := fun u d => ∃ v, RD z.rc F am H d v ∧ RelV v u) hl (each_of k rv fun d v u _ r q => ⟨v, r, q⟩) (each_of k rv fun d v u hd r q => ?_) ?_ ?_ (okL_le c3) (fun d hd => by have := key d hd; omega) fun out ho he => ?_
  · exact Dp.reads I _ _ _ (r.dp (K := X.K) (pures_mem p1 d hd)) q
  · intro d hd d' hd'
    rw [← pys_map] at hd hd'
    exact p2.1 d hd d' hd'
  · refine .inl fun d hd => ?_
    obtain ⟨x, hx, rfl⟩ := List.mem_map.1 hd
    have := List.all_eq_true.1 c2 x hx
    split at this
    · exact ⟨_, _, by simp only [D.py, D.pys]; rfl⟩
    · cases this
  · obtain ⟨ws, w1, w2⟩ := each_back he
    obtain ⟨ep, he'⟩ := PyProof.Rows.sortedAll_at s.heap its out.toArray
    have hlen : ws.length ≤ sizeLine := by
      rw [← w2.length, List.length_mergeSort]
      exact okL_le c3
    have f := I.hok.fresh (Nat.le_succ s.heap.objs.size)
    refine ⟨.ref _, upd H (s.heap.objs.size + 1) (.lst ws), I.laid (t' := s.toks) (fun _ _ => PyProof.Rows.sortedAll_old) (Nat.le_succ _) ⟨hlen, out, ep, w1, he'⟩, rfl, PostD.lst q st w2 f⟩
/-- sorted(t), t a tuple of ints -/
theorem cr_sortedIT : CallR X (.builtin "sorted") (fun vs H Q => ∃ (a : Addr) (ns : List Int), vs = [V.ref a] ∧ SqT X.K H a (ns.map V.int) ∧ ∀ (ns' : List Int) (p : Addr), ns'.Perm ns → ns'.Pairwise (· ≤ ·) → H p = none → Q (.ref p) (upd H p (.lst (ns'.map V.int)))) := by
  intro pins s σ H vs us Q I r h
  obtain ⟨a, ns, rfl, hs, q⟩ := h
  obtain ⟨its, rv, hl, hz⟩ := I.tuple hs
  rw [Vals.ref1 r]
  refine sorted_tup_ints hl rv.ints (by rw [← rv.length]; exact hz) fun out ns' g1 g2 g3 => ?_
  obtain ⟨ep, he'⟩ := PyProof.Rows.sortedAll_at s.heap its out
  have hlen : (ns'.map V.int).length ≤ sizeLine := by
    rw [List.length_map, g2.length_eq]
    rw [List.length_map] at hz
    exact hz
  exact ⟨.ref _, upd H (s.heap.objs.size + 1) (.lst (ns'.map V.int)), I.laid (t' := s.toks) (fun _ _ => PyProof.Rows.sortedAll_old) (Nat.le_succ _) ⟨hlen, out.toList, ep, vals_of_ints g1, by rw [Array.toArray_toList]; exact he'⟩, rfl, q _ _ g2 g3 (I.hok.fresh (Nat.le_succ _))⟩
/-- sorted(d) of a dict whose keys are ints -/
theorem sort_dctI (hcalm : X.calm = true) : CallR X (.builtin "sorted") (fun xs H Q => ∃ (a : Addr) (kvs : List (Key × V)) (ks : List Int), xs = [.ref a] ∧ Rd H a (.dK kvs) ∧ kvs.map (·.1) = ks.map Sum.inl ∧
    ∀ (ys : List Int) (p : Addr), ys.Perm ks → ys.Pairwise (· ≤ ·) → H p = none → Q (.ref p) (upd H p (.lst (ys.map V.int)))) := by
  intro pins s σ H xs us Q I r q
  obtain ⟨a, kvs, ks, ex, hd, hks, q⟩ := q
  subst ex
  obtain ⟨u, eu, rx⟩ := vals1 r
  subst eu
  cases rx
  obtain ⟨z, lo, vs, rel, dd⟩ := dk_rd I.hok hd
  obtain ⟨ep, hat⟩ := dd.dictAt
  have hkeys : vs.map (·.1) = ks.map Sum.inl := rel.keys.symm.trans hks
  have hl : vs.length = ks.length := by
    have e := congrArg List.length hkeys
    rw [List.length_map, List.length_map] at e
    exact e
  have h16 : vs.length ≤ sizeLine := by rw [← rel.length]; exact z
  refine Calls.call_function_entry PyProof.Rows.kind_sorted PyProof.Rows.plain_sorted PyProof.Rows.entry_sorted (PyProof.Rows.args_sorted1 _) ?_
  unfold Builtin.«sorted»
  refine wpAny_bind (m := checkCount "sorted" 1 1 _) (wpAny_pure ?_)
  refine wpAny_bind (PySem.W.kdu_collect (A := X.A.in1) (PySem.W.kdl_dict (knd := mixKind X.prog X.w) (kvs := vs) (ep := ep) lo) (I.ok.hd hcalm) hat h16 fun h' tk acc hk hacc => ?_)
  have hal : acc.toList.length = ks.length := by rw [Array.length_toList, hacc.1, hl]
  have hS : IntsAre acc.toList ks := ints_each hal fun j v e => by
    obtain ⟨k, x, e1, e2⟩ := hacc.2 j v (by rw [← Array.getElem?_toList]; exact e)
    have e3 : (vs.map (·.1))[j]? = some k := by rw [List.getElem?_map, e1]; rfl
    rw [hkeys, List.getElem?_map] at e3
    cases e4 : ks[j]? with
    | none => rw [e4] at e3; cases e3
    | some y =>
      rw [e4] at e3
      have e5 : Sum.inl y = k := Option.some.inj e3
      subst e5
      rcases keyIs_shape (show keyIs (Sum.inl y) v = true from e2) with ⟨i, t, ek, ev⟩ | ⟨z, t, ek, ev⟩
      · cases ek
        exact ⟨y, t, rfl, ev⟩
      · cases ek
  have I1 : Inv X pins σ H { s with heap := h', toks := tk } := I.kept hk
  have hL : acc.toList.length ≤ sizeLine := by rw [hal, ← hl]; exact h16
  refine wpAny_bind (wpAny_newList ?_ hL)
  have hoL : (h'.push (seqObj "list" acc.toList.toArray 0)).get? h'.objs.size = some (seqObj "list" acc.toList.toArray 0) := Heap.get?_push_size _ rfl
  show wpAny _ _ _ _ _ { s with heap := h'.push (seqObj "list" acc.toList.toArray 0), toks := tk }
  refine wpAny_bind (wpAny_holding (wpAny_call_entry PyProof.Rows.slot_list_sort ⟨_, hoL, rfl⟩ PyProof.Rows.entry_list_sort
    (PyProof.Rows.list_sort_treeAny (s := { s with heap := h'.push (seqObj "list" acc.toList.toArray 0), toks := tk }) hoL hS hL fun out ys g1 g2 g3 => ⟨_, rfl, ?_⟩) (PyProof.Rows.args_list_sort _)))
  obtain ⟨e', he'⟩ := PyProof.Rows.sortedHeap_at (vs := acc.toList) (out := out) hoL
  have hlen : (ys.map V.int).length ≤ sizeLine := by
    rw [List.length_map, g2.length_eq, ← hl]
    exact h16
  refine wpAny_pure ⟨_, rfl, .ref h'.objs.size, upd H h'.objs.size (.lst (ys.map V.int)), I1.laid (t' := tk) (fun b u e => ?_) (Nat.le_refl _)
    (show ObjOk X.prog X.w _ _ _ (.lst (ys.map V.int)) from ⟨hlen, out.toList, e', vals_of_ints g1, by rw [Array.toArray_toList]; exact he'⟩), rfl, q ys _ g2 g3 (I1.hok.fresh (Nat.le_refl _))⟩
  have hb : b < h'.objs.size := Heap.lt_size e
  rw [PyProof.Rows.sortedHeap_old (Nat.ne_of_lt hb) (by rw [size_push']; exact Nat.lt_succ_of_lt hb)]
  exact Heap.get?_push_of_some _ e
end
end Ci

set_option Elab.async false
set_option linter.all false
set_option maxRecDepth 100000
set_option maxHeartbeats 2000000
namespace Ci
open PySem PySem.Spec PyProof.Rows L2
section
variable {X : Cx} {z : Si} {F : Addr → Prop} {am : List Addr} {H : Hp} {h : Hs} {σ0 : SV} {Q : VK}
theorem rds_one {ds : List D} {vs : List V} {a : D} (s : Sto z.rc F am H h) (r : RDs z.rc F am H ds vs) (e : ds.map (rd h) = [a]) : ∃ v, vs = [v] ∧ RR z.rc F am H a v := by
  match ds, vs, r with
  | [d], [v], .cons k .nil =>
    simp only [List.map_cons, List.map_nil, List.cons.injEq, and_true] at e
    exact ⟨v, rfl, e ▸ rd_rel s k⟩
  | [], _, .nil => simp at e
  | _ :: _ :: _, _, _ => simp at e
theorem rds_two {ds : List D} {vs : List V} {a b : D} (s : Sto z.rc F am H h) (r : RDs z.rc F am H ds vs) (e : ds.map (rd h) = [a, b]) : ∃ v u, vs = [v, u] ∧ RR z.rc F am H a v ∧ RR z.rc F am H b u := by
  match ds, vs, r with
  | [d, d'], [v, u], .cons k (.cons k' .nil) =>
    simp only [List.map_cons, List.map_nil, List.cons.injEq, and_true] at e
    exact ⟨v, u, rfl, e.1 ▸ rd_rel s k, e.2 ▸ rd_rel s k'⟩
  | [], _, .nil => simp at e
  | [_], _, _ => simp at e
  | _ :: _ :: _ :: _, _, _ => simp at e
theorem seq_rel {d : D} {xs : List D} {v : V} {K : PySem.W.Frag} (r : RR z.rc F am H d v) (e : seqD d = some xs) : ∃ p ys, v = .ref p ∧ (SqL K H p ys ∨ SqT K H p ys) ∧ RDs z.rc F am H xs ys := by
  unfold seqD at e
  split at e
  · cases e
    obtain ⟨a, ys, rfl, e1, _, k⟩ := r.tuple
    exact ⟨a, ys, rfl, .inr (SqT.of e1), k⟩
  · cases e
    obtain ⟨a, ys, rfl, e1, k⟩ := r.list
    exact ⟨a, ys, rfl, .inl (SqL.of e1), k⟩
  · cases e
theorem bls_rel : ∀ {xs : List D} {ys : List V} {bs : List Bool}, RDs z.rc F am H xs ys → blsOf xs = some bs → ys = bs.map V.bl
  | [], _, bs, .nil, e => by simp [blsOf] at e; subst e; rfl
  | x :: xs, _, bs, .cons r k, e => by
    cases x <;> simp only [blsOf, Option.map_eq_some_iff, reduceCtorEq] at e
    obtain ⟨cs, e1, rfl⟩ := e
    cases r
    rw [bls_rel k e1]; rfl
theorem ints_rel : ∀ {xs : List D} {ys : List V} {bs : List Int}, RDs z.rc F am H xs ys → intsOf xs = some bs → ys = bs.map V.int
  | [], _, bs, .nil, e => by simp [intsOf] at e; subst e; rfl
  | x :: xs, _, bs, .cons r k, e => by
    cases x <;> simp only [intsOf, Option.map_eq_some_iff, reduceCtorEq] at e
    obtain ⟨cs, e1, rfl⟩ := e
    cases r
    rw [ints_rel k e1]; rfl
theorem maxI_mem : ∀ {ns : List Int}, ns ≠ [] → maxI ns ∈ ns ∧ ∀ y ∈ ns, y ≤ maxI ns
  | [], h => absurd rfl h
  | [a], _ => by simp [maxI]
  | a :: b :: r, _ => by
    obtain ⟨h1, h2⟩ := maxI_mem (ns := b :: r) (by simp)
    simp only [maxI]
    split
    · rename_i c
      refine ⟨List.mem_cons_self, fun y hy => ?_⟩
      rcases List.mem_cons.mp hy with rfl | hy
      · exact Int.le_refl _
      · exact Int.le_trans (h2 y hy) c
    · rename_i c
      refine ⟨List.mem_cons_of_mem _ h1, fun y hy => ?_⟩
      rcases List.mem_cons.mp hy with rfl | hy
      · omega
      · exact h2 y hy
theorem minI_mem : ∀ {ns : List Int}, ns ≠ [] → minI ns ∈ ns ∧ ∀ y ∈ ns, minI ns ≤ y
  | [], h => absurd rfl h
  | [a], _ => by simp [minI]
  | a :: b :: r, _ => by
    obtain ⟨h1, h2⟩ := minI_mem (ns := b :: r) (by simp)
    simp only [minI]
    split
    · rename_i c
      refine ⟨List.mem_cons_self, fun y hy => ?_⟩
      rcases List.mem_cons.mp hy with rfl | hy
      · exact Int.le_refl _
      · exact Int.le_trans c (h2 y hy)
    · rename_i c
      refine ⟨List.mem_cons_of_mem _ h1, fun y hy => ?_⟩
      rcases List.mem_cons.mp hy with rfl | hy
      · omega
      · exact h2 y hy
/-- what a built-in's call by data wants -/
def rBl (z : Si) (b : Bl) : List V → Hp → VK → Prop := fun vs H Q => ∃ σ0 F am h ds, Sto z.rc F am H h ∧ RDs z.rc F am H ds vs ∧ SatR z σ0 F am H (liftO (bltH h b ds) h) (PostD z Q)
def rBl0 (z : Si) (b : Bl) : List V → Hp → VK → Prop := fun vs H Q => ∃ σ0 F am h ds, Sto z.rc F am H h ∧ RDs z.rc F am H ds vs ∧ SatR z σ0 F am H (liftO (bltD b (ds.map (rd h))) h) (PostD z Q)
theorem opt_map {α : Type} {o : Option α} {f : α → D} (q : SatR z σ0 F am H (liftO (o.map f) h) (PostD z Q)) : ∃ a, o = some a ∧ SatR z σ0 F am H (.ok (f a) h) (PostD z Q) := by
  cases o with
  | none => exact q.elim
  | some a => exact ⟨a, rfl, q⟩
theorem opt_bind {α : Type} {o : Option α} {f : α → Option D} (q : SatR z σ0 F am H (liftO (o.bind f) h) (PostD z Q)) : ∃ a, o = some a ∧ SatR z σ0 F am H (liftO (f a) h) (PostD z Q) := by
  cases o with
  | none => exact q.elim
  | some a => exact ⟨a, rfl, q⟩
theorem ints_RDs : ∀ ns : List Int, RDs z.rc F am H (ns.map .int) (ns.map V.int)
  | [] => .nil
  | n :: ns => .cons (.int n) (ints_RDs ns)
theorem insI_perm (a : Int) : ∀ l : List Int, (insI a l).Perm (a :: l)
  | [] => List.Perm.refl _
  | b :: r => by
    unfold insI
    split
    · exact List.Perm.refl _
    · exact ((insI_perm a r).cons b).trans (List.Perm.swap a b r)
theorem insI_pw (a : Int) : ∀ l : List Int, l.Pairwise (· ≤ ·) → (insI a l).Pairwise (· ≤ ·)
  | [], _ => by simp [insI]
  | b :: r, h => by
    rw [List.pairwise_cons] at h
    unfold insI
    split
    · rename_i c
      refine List.pairwise_cons.2 ⟨fun y hy => ?_, List.pairwise_cons.2 h⟩
      rcases List.mem_cons.1 hy with rfl | hy
      · exact c
      · exact Int.le_trans c (h.1 y hy)
    · rename_i c
      refine List.pairwise_cons.2 ⟨fun y hy => ?_, insI_pw a r h.2⟩
      rcases List.mem_cons.1 ((insI_perm a r).mem_iff.1 hy) with rfl | hy
      · omega
      · exact h.1 y hy
theorem sortI_perm : ∀ l : List Int, (sortI l).Perm l
  | [] => List.Perm.refl _
  | a :: r => (insI_perm a (sortI r)).trans ((sortI_perm r).cons a)
theorem sortI_pw : ∀ l : List Int, (sortI l).Pairwise (· ≤ ·)
  | [] => List.Pairwise.nil
  | a :: r => insI_pw a _ (sortI_pw r)
theorem sort_uniq : ∀ {a b : List Int}, a.Perm b → a.Pairwise (· ≤ ·) → b.Pairwise (· ≤ ·) → a = b
  | [], b, p, _, _ => (List.nil_perm.1 p).symm
  | x :: a, [], p, _, _ => by have := p.length_eq; simp at this
  | x :: a, y :: b, p, h1, h2 => by
    rw [List.pairwise_cons] at h1 h2
    have hx : y ≤ x := by
      rcases List.mem_cons.1 (p.mem_iff.1 List.mem_cons_self) with e | e
      · omega
      · exact h2.1 x e
    have hy : x ≤ y := by
      rcases List.mem_cons.1 (p.mem_iff.2 List.mem_cons_self) with e | e
      · omega
      · exact h1.1 y e
    have e : x = y := by omega
    subst e
    rw [sort_uniq (List.Perm.cons_inv p) h1.2 h2.2]
theorem sortI_one {ns bs : List Int} (h1 : ns.Perm bs) (h2 : ns.Pairwise (· ≤ ·)) : ns = sortI bs := sort_uniq (h1.trans (sortI_perm bs).symm) h2 (sortI_pw bs)
/-- the callee of a built-in's name -/
def Bl.val : Bl → Value
  | .len => .builtin "len" | .all => .builtin "all" | .any => .builtin "any" | .tuple => .type "tuple" | .list => .type "list"
  | .abs => .builtin "abs" | .int => .type "int" | .sum => .builtin "sum" | .max1 => .builtin "max" | .min1 => .builtin "min"
  | .max2 => .builtin "max" | .min2 => .builtin "min" | .sorted => .builtin "sorted" | .repr => .builtin "repr" | .str => .type "str"
def Bl.calm : Bl → Bool
  | .len | .tuple | .list | .abs | .int | .str => false
  | _ => true
/-- sum(t), t a tuple of ints -/
def rSumT (K : PySem.W.Frag) : List V → Hp → VK → Prop := fun vs H Q => ∃ (a : Addr) (ns : List Int), vs = [V.ref a] ∧ SqT K H a (ns.map V.int) ∧ Q (.int ns.sum) H
theorem cr_sumT (hc : X.calm = true) : CallR X (.builtin "sum") (rSumT X.K) := by
  intro pins s σ H vs us Q I r h
  obtain ⟨a, ns, rfl, hs, q⟩ := h
  obtain ⟨its, rv, hl, _⟩ := I.tuple hs
  rw [Vals.ref1 r]
  obtain ⟨xs, e⟩ := rv.ints.allInts.items
  have hn : numsOf (intItems xs).toList = ns := by rw [← e]; exact rv.ints.numsOf
  rw [nums_intItems] at hn
  have hl : s.heap.IsTuple a its.toArray := hl
  rw [e] at hl
  refine PySem.W.ktm_sumG (I.ok.hd hc) hl fun h' tk t' hk => ⟨.int _, H, I.kept hk, ⟨_, rfl⟩, ?_⟩
  rw [preSum_eq, List.take_of_length_le (by simp), hn]
  exact q
theorem blt_ok0 (hK : X.K = z.rc.K) (hu : X.A.units + 70 < cLine) (b : Bl) (hc : b.calm = true → X.calm = true) : CallR X b.val (rBl0 z b) := by
  intro pins s σ H vs us Q I r ⟨σ0, F, am, h, ds, st, rs, q⟩
  generalize e0 : ds.map (rd h) = ws at q
  unfold bltD at q
  split at q
  · obtain ⟨v, rfl, k⟩ := rds_one st rs e0
    cases k.str
    obtain ⟨c, q⟩ := ite_some q
    exact call_len_str pins s σ H _ us Q I r ⟨_, rfl, okL_le c, PostD.at q st (.int _)⟩
  · obtain ⟨v, rfl, k⟩ := rds_one st rs e0
    obtain ⟨xs, e1, q⟩ := opt_map q
    obtain ⟨p, ys, rfl, hs, k2⟩ := seq_rel (K := X.K) k e1
    exact call_len_seq pins s σ H _ us Q I r ⟨p, ys, rfl, hs, by rw [← k2.length]; exact PostD.at q st (.int _)⟩
  · obtain ⟨v, rfl, k⟩ := rds_one st rs e0
    obtain ⟨bs, e1, q⟩ := opt_map q
    obtain ⟨a, ys, rfl, e2, k2⟩ := k.list
    exact cr_all (hc rfl) pins s σ H _ us Q I r ⟨a, bs, rfl, by rw [← bls_rel k2 e1]; exact SqL.of e2, PostD.at q st (.bl _)⟩
  · obtain ⟨v, rfl, k⟩ := rds_one st rs e0
    obtain ⟨bs, e1, q⟩ := opt_map q
    obtain ⟨a, ys, rfl, e2, k2⟩ := k.list
    exact cr_any (hc rfl) pins s σ H _ us Q I r ⟨a, bs, rfl, by rw [← bls_rel k2 e1]; exact SqL.of e2, PostD.at q st (.bl _)⟩
  · obtain ⟨v, rfl, k⟩ := rds_one st rs e0
    obtain ⟨xs, e1, q⟩ := opt_map q
    unfold seqD at e1
    split at e1
    · cases e1
      obtain ⟨a, ys, rfl, e2, n2, k2⟩ := k.tuple
      exact call_tuple_of pins s σ H _ us Q I r ⟨a, ys, rfl, .inr ⟨SqT.of e2, PostD.at q st (.tup e2 n2 k2)⟩⟩
    · cases e1
      obtain ⟨a, ys, rfl, e2, k2⟩ := k.list
      exact call_tuple_of pins s σ H _ us Q I r ⟨a, ys, rfl, .inl ⟨SqL.of e2, fun l hl => PostD.tup q st k2 hl⟩⟩
    · cases e1
  · obtain ⟨v, rfl, k⟩ := rds_one st rs e0
    cases k with
    | rd k =>
      cases k with
      | scr e n k2 => exact call_list_of pins s σ H _ us Q I r ⟨_, _, rfl, .inl (.inl (.inr ⟨_, e⟩)), fun l hl => PostD.lst q st k2 hl⟩
      | scrK e k2 => exact call_list_of pins s σ H _ us Q I r ⟨_, _, rfl, .inl (by rw [hK]; exact sqK e _), fun l hl => PostD.lst q st k2 hl⟩
  · obtain ⟨v, rfl, k⟩ := rds_one st rs e0
    obtain ⟨xs, e1, q⟩ := opt_map q
    obtain ⟨p, ys, rfl, hs, k2⟩ := seq_rel (K := X.K) k e1
    exact call_list_of pins s σ H _ us Q I r ⟨p, ys, rfl, hs, fun l hl => PostD.lst q st k2 hl⟩
  · obtain ⟨v, rfl, k⟩ := rds_one st rs e0
    cases k.int
    exact call_abs pins s σ H _ us Q I r ⟨_, rfl, PostD.at q st (.int _)⟩
  · obtain ⟨v, rfl, k⟩ := rds_one st rs e0
    cases k.int
    exact call_int1 pins s σ H _ us Q I r (.inl ⟨_, rfl, PostD.at q st (.int _)⟩)
  · obtain ⟨v, rfl, k⟩ := rds_one st rs e0
    cases k.bl
    exact call_int1 pins s σ H _ us Q I r (.inr ⟨_, rfl, PostD.at q st (.int _)⟩)
  · obtain ⟨v, rfl, k⟩ := rds_one st rs e0
    obtain ⟨bs, e1, q⟩ := opt_map q
    obtain ⟨a, ys, rfl, e2, k2⟩ := k.list
    exact cr_sum (hc rfl) pins s σ H _ us Q I r ⟨a, bs, rfl, by rw [← ints_rel k2 e1]; exact SqL.of e2, PostD.at q st (.int _)⟩
  · obtain ⟨v, rfl, k⟩ := rds_one st rs e0
    obtain ⟨bs, e1, q⟩ := opt_map q
    obtain ⟨a, ys, rfl, e2, _, k2⟩ := k.tuple
    exact cr_sumT (hc rfl) pins s σ H _ us Q I r ⟨a, bs, rfl, by rw [← ints_rel k2 e1]; exact SqT.of e2, PostD.at q st (.int _)⟩
  · obtain ⟨v, rfl, k⟩ := rds_one st rs e0
    obtain ⟨a, ys, rfl, e2, k2⟩ := k.list
    split at q
    · rename_i bs e1
      split at q
      · exact q.elim
      · rename_i hne
        have hn : bs ≠ [] := fun e => hne (by rw [e]; rfl)
        refine cr_max (hc rfl) pins s σ H _ us Q I r ⟨a, bs, rfl, by rw [← ints_rel k2 e1]; exact SqL.of e2, List.length_pos_iff.mpr hn, fun m h1 h2 => ?_⟩
        have e3 : m = maxI bs := Int.le_antisymm ((maxI_mem hn).2 m h1) (h2 _ (maxI_mem hn).1)
        rw [e3]
        exact PostD.at q st (.int _)
    · split at q
      · exact q.elim
      · split at q
        · rename_i c
          refine max_dat (z := z) (hc rfl) hu pins s σ H _ us Q I r ⟨a, ys, rfl, SqL.of e2, ?_⟩
          exact ⟨σ0, F, am, h, _, _, st, k2, c, q⟩
        · exact q.elim
  · obtain ⟨v, rfl, k⟩ := rds_one st rs e0
    obtain ⟨a, ys, rfl, e2, k2⟩ := k.list
    split at q
    · rename_i bs e1
      split at q
      · exact q.elim
      · rename_i hne
        have hn : bs ≠ [] := fun e => hne (by rw [e]; rfl)
        refine cr_min (hc rfl) pins s σ H _ us Q I r ⟨a, bs, rfl, by rw [← ints_rel k2 e1]; exact SqL.of e2, List.length_pos_iff.mpr hn, fun m h1 h2 => ?_⟩
        have e3 : m = minI bs := Int.le_antisymm (h2 _ (minI_mem hn).1) ((minI_mem hn).2 m h1)
        rw [e3]
        exact PostD.at q st (.int _)
    · split at q
      · exact q.elim
      · split at q
        · rename_i c
          refine min_dat (z := z) (hc rfl) hu pins s σ H _ us Q I r ⟨a, ys, rfl, SqL.of e2, ?_⟩
          exact ⟨σ0, F, am, h, _, _, st, k2, c, q⟩
        · exact q.elim
  · obtain ⟨v, rfl, k⟩ := rds_one st rs e0
    obtain ⟨a, ys, rfl, e2, k2⟩ := k.list
    split at q
    · rename_i bs e1
      split at q
      · rename_i hl
        refine cr_sortedI pins s σ H _ us Q I r ⟨a, bs, rfl, by rw [← ints_rel k2 e1]; exact SqL.of e2, fun ns p h1 h2 hp => ?_⟩
        rw [sortI_one h1 h2]
        exact PostD.lst q st (ints_RDs _) hp
      · exact q.elim
    · split at q
      · rename_i c
        exact sort_dat (z := z) hu pins s σ H _ us Q I r ⟨a, ys, rfl, SqL.of e2, σ0, F, am, h, _, st, k2, c, q⟩
      · exact q.elim
  · obtain ⟨v, rfl, k⟩ := rds_one st rs e0
    obtain ⟨a, ys, rfl, e2, _, k2⟩ := k.tuple
    split at q
    · rename_i bs e1
      split at q
      · rename_i hl
        refine cr_sortedIT pins s σ H _ us Q I r ⟨a, bs, rfl, by rw [← ints_rel k2 e1]; exact SqT.of e2, fun ns p h1 h2 hp => ?_⟩
        rw [sortI_one h1 h2]
        exact PostD.lst q st (ints_RDs _) hp
      · exact q.elim
    · split at q
      · rename_i c
        exact sort_datT (z := z) hu pins s σ H _ us Q I r ⟨a, ys, rfl, SqT.of e2, σ0, F, am, h, _, st, k2, c, q⟩
      · exact q.elim
  · obtain ⟨v, rfl, k⟩ := rds_one st rs e0
    cases k.str
    exact SkE.call_str_str pins s σ H _ us Q I r ⟨_, rfl, PostD.at q st (.str _)⟩
  · obtain ⟨v, rfl, k⟩ := rds_one st rs e0
    cases k.int
    obtain ⟨c, q⟩ := ite_some q
    exact call_str_int pins s σ H _ us Q I r ⟨_, rfl, of_decide_eq_true c, PostD.at q st (.str _)⟩
  · obtain ⟨v, u, rfl, k, k'⟩ := rds_two st rs e0
    cases k.int; cases k'.int
    exact call_max2 (hc rfl) pins s σ H _ us Q I r ⟨_, _, rfl, PostD.at q st (.int _)⟩
  · obtain ⟨v, u, rfl, k, k'⟩ := rds_two st rs e0
    cases k.int; cases k'.int
    exact call_min2 (hc rfl) pins s σ H _ us Q I r ⟨_, _, rfl, PostD.at q st (.int _)⟩
  · exact q.elim
theorem keysI_rel : ∀ {kvs : List (Ky × D)} {ks : List Int}, keysI kvs = some ks → kvs.map (·.1) = ks.map Sum.inl
  | [], ks, e => by cases e; rfl
  | (.inl i, d) :: r, ks, e => by
    simp only [keysI, Option.map_eq_some_iff] at e
    obtain ⟨js, e1, rfl⟩ := e
    simp only [List.map_cons, keysI_rel e1]
  | (.inr x, d) :: r, ks, e => by cases e
theorem dct_rel {d : D} {v : V} {kvs : List (Ky × D)} (s : Sto z.rc F am H h) (r : RD z.rc F am H d v) (e : dct h d = some kvs) : ∃ a, ∃ ws : List (Key × V), v = .ref a ∧ H a = some (.dK ws) ∧ kvs.map (·.1) = ws.map (·.1) ∧ RDs z.rc F am H (kvs.map (·.2)) (ws.map (·.2)) := by
  cases d <;> simp only [dct, reduceCtorEq] at e
  rename_i n
  split at e
  · rename_i k2 e1
    cases e
    cases r with
    | ref q =>
      obtain ⟨ws, q1, q2, q3⟩ := s.obj n _ _ q e1
      exact ⟨_, ws, rfl, q1, q2, q3⟩
  · cases e
theorem blt_ok (hK : X.K = z.rc.K) (hu : X.A.units + 70 < cLine) (b : Bl) (hc : b.calm = true → X.calm = true) : CallR X b.val (rBl z b) := by
  intro pins s σ H vs us Q I r ⟨σ0, F, am, h, ds, st, rs, q⟩
  have other : SatR z σ0 F am H (liftO (bltD b (ds.map (rd h))) h) (PostD z Q) → wpAny (model X.prog X.w) X.A (PySem.call b.val us) (EP X pins σ Q) X.xe s := fun q => blt_ok0 hK hu b hc pins s σ H vs us Q I r ⟨σ0, F, am, h, ds, st, rs, q⟩
  unfold bltH at q
  split at q
  · rename_i d
    cases e : dct h d with
    | none => rw [e] at q; exact other q
    | some kvs =>
      rw [e] at q
      cases rs with
      | cons r0 r1 =>
        cases r1
        obtain ⟨ks, e1, q⟩ := opt_bind q
        split at q
        · rename_i hl
          obtain ⟨a, ws, rfl, q1, q2, q3⟩ := dct_rel st r0 e
          refine sort_dctI (hc rfl) pins s σ H _ us Q I r ⟨a, ws, ks, rfl, .inl q1, by rw [← q2]; exact keysI_rel e1, fun ns p h1 h2 hp => ?_⟩
          rw [sortI_one h1 h2]
          exact PostD.lst q st (ints_RDs _) hp
        · exact q.elim
  · exact other q
/-! ### isinstance -/
def Ty.name : Ty → String
  | .int => "int" | .bool => "bool" | .str => "str" | .tuple => "tuple" | .list => "list"
def rIsD (z : Si) (t : Ty) : List V → Hp → VK → Prop := fun vs H Q => ∃ (v : V) (σ0 : SV) (F : Addr → Prop) (am : List Addr) (h : Hs) (d : D), vs = [v, .ty t.name] ∧ Sto z.rc F am H h ∧ RR z.rc F am H d v ∧ SatR z σ0 F am H (liftO ((isiD d t).map D.bl) h) (PostD z Q)
theorem isi_ok (t : Ty) : CallR X (.builtin "isinstance") (rIsD z t) := by
  intro pins s σ H vs us Q I r hh
  obtain ⟨v, σ0, F, am, h, d, rfl, st, k, q⟩ := hh
  obtain ⟨b, e1, q⟩ := map_bl q st
  have go : ∀ {tn : String}, TyX X.K H v (.type tn) → kitB tn t.name = some b → wpAny (model X.prog X.w) X.A (PySem.call (.builtin "isinstance") us) (EP X pins σ Q) X.xe s := fun {tn} ty kb =>
    call_isi pins s σ H [v, V.ty t.name] us Q I r ⟨v, V.ty t.name, Value.type tn, Value.type t.name, b, rfl, .ty _, ty, kit_ty kb, q⟩
  unfold isiD at e1
  split at e1
  · cases k.non; cases e1; exact go (.base .non) (by cases t <;> decide +kernel)
  · cases k.bl; cases e1; exact go (.base (.bl _)) (by cases t <;> decide +kernel)
  · cases k.int; cases e1; exact go (.base (.int _)) (by cases t <;> decide +kernel)
  · cases k.str; cases e1; exact go (.base (.str _)) (by cases t <;> decide +kernel)
  · cases e1
    obtain ⟨a, ys, rfl, e2, _, k2⟩ := k.tuple
    exact go (.base (.tup e2)) (by cases t <;> decide +kernel)
  · cases e1
    obtain ⟨a, ys, rfl, e2, k2⟩ := k.list
    exact go (.base (.lst e2)) (by cases t <;> decide +kernel)
  · cases e1
end
end Ci

set_option Elab.async false
set_option linter.all false
set_option maxRecDepth 100000
set_option maxHeartbeats 4000000
namespace Ci
open PySem PySem.Spec PyProof.Rows L2
section
variable {X : Cx} {z : Si} {F : Addr → Prop} {am : List Addr} {H : Hp} {h : Hs} {σ0 : SV} {Q : VK}
/-- a dict's pairs, by data -/
def RKv (c : Rc) (F : Addr → Prop) (am : List Addr) (H : Hp) (kvs : List (Ky × D)) (ws : List (Key × V)) : Prop := kvs.map (·.1) = ws.map (·.1) ∧ RDs c F am H (kvs.map (·.2)) (ws.map (·.2))
variable {c : Rc}
theorem RKv.nil : RKv c F am H [] [] := ⟨rfl, .nil⟩
theorem RKv.cons {k : Ky} {d : D} {v : V} {kvs : List (Ky × D)} {ws : List (Key × V)} (r : RD c F am H d v) (t : RKv c F am H kvs ws) : RKv c F am H ((k, d) :: kvs) ((k, v) :: ws) := ⟨by simp [t.1], .cons r t.2⟩
theorem RKv.inv {k : Ky} {d : D} {kvs : List (Ky × D)} {ws : List (Key × V)} (t : RKv c F am H ((k, d) :: kvs) ws) : ∃ v ws', ws = (k, v) :: ws' ∧ RD c F am H d v ∧ RKv c F am H kvs ws' := by
  obtain ⟨t1, t2⟩ := t
  cases ws with
  | nil => simp at t1
  | cons p ws =>
    obtain ⟨k', v⟩ := p
    simp only [List.map_cons, List.cons.injEq] at t1
    obtain ⟨rfl, t1⟩ := t1
    simp only [List.map_cons] at t2
    cases t2 with
    | cons r t2 => exact ⟨v, ws, rfl, r, t1, t2⟩
theorem RKv.emp {ws : List (Key × V)} (t : RKv c F am H [] ws) : ws = [] := by
  have := t.1
  cases ws with
  | nil => rfl
  | cons _ _ => simp at this
theorem RKv.len {kvs : List (Ky × D)} {ws : List (Key × V)} (t : RKv c F am H kvs ws) : kvs.length = ws.length := by
  have := congrArg List.length t.1
  simpa using this
theorem RKv.val (k : Ky) : ∀ {kvs : List (Ky × D)} {ws : List (Key × V)}, RKv c F am H kvs ws → (dval kvs k = none ∧ valV ws k = none) ∨ ∃ d v, dval kvs k = some d ∧ valV ws k = some v ∧ RD c F am H d v
  | [], ws, t => by rw [t.emp]; exact .inl ⟨rfl, rfl⟩
  | (j, d) :: kvs, ws, t => by
    obtain ⟨v, ws', rfl, r, t'⟩ := t.inv
    by_cases e : j = k
    · exact .inr ⟨d, v, by simp [dval, e], by simp [valV, e], r⟩
    · rcases RKv.val k t' with ⟨a, b⟩ | ⟨d', v', a, b, r'⟩
      · exact .inl ⟨by simpa [dval, e] using a, by simpa [valV, e] using b⟩
      · exact .inr ⟨d', v', by simpa [dval, e] using a, by simpa [valV, e] using b, r'⟩
theorem RKv.any (k : Ky) : ∀ {kvs : List (Ky × D)} {ws : List (Key × V)}, RKv c F am H kvs ws → (kvs.any fun kv => decide (kv.1 = k)) = ws.any fun kv => decide (kv.1 = k)
  | [], ws, t => by rw [t.emp]; rfl
  | (j, d) :: kvs, ws, t => by
    obtain ⟨v, ws', rfl, r, t'⟩ := t.inv
    simp only [List.any_cons, RKv.any k t']
theorem RKv.repl (k : Ky) {d : D} {v : V} (r : RD c F am H d v) : ∀ {kvs : List (Ky × D)} {ws : List (Key × V)}, RKv c F am H kvs ws → RKv c F am H (kvs.map fun kv => if kv.1 = k then (kv.1, d) else kv) (ws.map fun kv => if kv.1 = k then (kv.1, v) else kv)
  | [], ws, t => by rw [t.emp]; exact .nil
  | (j, e) :: kvs, ws, t => by
    obtain ⟨v', ws', rfl, r', t'⟩ := t.inv
    simp only [List.map_cons]
    by_cases q : j = k
    · rw [if_pos q, if_pos q]; exact .cons r (RKv.repl k r t')
    · rw [if_neg q, if_neg q]; exact .cons r' (RKv.repl k r t')
theorem RKv.snoc (k : Ky) {d : D} {v : V} (r : RD c F am H d v) : ∀ {kvs : List (Ky × D)} {ws : List (Key × V)}, RKv c F am H kvs ws → RKv c F am H (kvs ++ [(k, d)]) (ws ++ [(k, v)])
  | [], ws, t => by rw [t.emp]; exact .cons r .nil
  | (j, e) :: kvs, ws, t => by
    obtain ⟨v', ws', rfl, r', t'⟩ := t.inv
    exact .cons r' (RKv.snoc k r t')
theorem RKv.put (k : Ky) {d : D} {v : V} {kvs : List (Ky × D)} {ws : List (Key × V)} (r : RD c F am H d v) (t : RKv c F am H kvs ws) : RKv c F am H (dput kvs k d) (putK ws k v) := by
  unfold dput putK
  rw [t.any k]
  split
  · exact t.repl k r
  · exact t.snoc k r
theorem dput_len (kvs : List (Ky × D)) (k : Ky) (d : D) : (dput kvs k d).length ≤ kvs.length + 1 := by
  unfold dput
  split <;> simp
theorem ky_rel {d : D} {v : V} {k : Ky} (r : RD c F am H d v) (e : kyOf d = some k) : v = kV k := by
  cases d <;> simp only [kyOf, Option.some.injEq, reduceCtorEq] at e <;> subst e <;> cases r <;> rfl
theorem dget_of {d e : D} {v u : V} {kvs : List (Ky × D)} {k : Ky} (s : Sto z.rc F am H h) (r : RD z.rc F am H d v) (e1 : dct h d = some kvs) (r2 : RD z.rc F am H e u) (e2 : kyOf e = some k) : ∃ a, v = .ref a ∧ ∃ o, DGet H a u o ∧ ((dval kvs k = none ∧ o = none) ∨ ∃ d' v', dval kvs k = some d' ∧ o = some v' ∧ RD z.rc F am H d' v') := by
  obtain ⟨a, ws, rfl, q1, q2, q3⟩ := dct_rel s r e1
  rw [ky_rel r2 e2]
  refine ⟨a, rfl, valV ws k, DGet.k q1, ?_⟩
  rcases RKv.val k (⟨q2, q3⟩ : RKv z.rc F am H kvs ws) with ⟨a1, b1⟩ | ⟨d', v', a1, b1, r'⟩
  · exact .inl ⟨a1, b1⟩
  · exact .inr ⟨d', v', a1, b1, r'⟩
/-- a comparison by data, dicts too -/
def rCH (z : Si) (o : CmpOp) : R2 := fun x y H Q => ∃ σ0 F am h d e, Sto z.rc F am H h ∧ RD z.rc F am H d x ∧ RD z.rc F am H e y ∧ SatR z σ0 F am H (liftO ((cmpH h o d e).map D.bl) h) (PostD z Q)
theorem rCH_of {o : CmpOp} (e0 : ∀ h d e, cmpH h o d e = cmpD o (rd h d) (rd h e)) (hK : X.K = z.K) (hu : X.A.units + 70 < cLine) : OpR X (compareOp o) (rCH z o) :=
  fun pins s σ H x y v u Q I rx ry ⟨σ0, F, am, h, d, e, st, r1, r2, q⟩ => cmp_ok hK hu o pins s σ H x y v u Q I rx ry ⟨σ0, F, am, h, _, _, st, rd_rel st r1, rd_rel st r2, by rw [← e0]; exact q⟩
theorem cmpH_ok (hK : X.K = z.K) (hu : X.A.units + 70 < cLine) (op : CmpOp) : OpR X (compareOp op) (rCH z op) := by
  have go : ∀ op, (∀ h d e, cmpH h op d e = cmpD op (rd h d) (rd h e)) → OpR X (compareOp op) (rCH z op) := fun op e => rCH_of e hK hu
  cases op with
  | In =>
    intro pins s σ H x y v u Q I rx ry ⟨σ0, F, am, h, d, e, st, r1, r2, q⟩
    cases e1 : dct h e with
    | none => exact cmp_ok hK hu .In pins s σ H x y v u Q I rx ry ⟨σ0, F, am, h, _, _, st, rd_rel st r1, rd_rel st r2, by simpa only [cmpH, e1] using q⟩
    | some kvs =>
      simp only [cmpH, e1] at q
      cases e2 : kyOf d with
      | none => rw [e2] at q; exact q.elim
      | some k =>
        rw [e2] at q
        obtain ⟨a, rfl, o, g, hv⟩ := dget_of st r2 e1 r1 e2
        cases (show u = Value.ref a from ry)
        refine d_in (by omega) I g rx fun s' I' => ⟨.bl o.isSome, H, I', rfl, ?_⟩
        have e3 : o.isSome = (dval kvs k).isSome := by
          rcases hv with ⟨h1, h2⟩ | ⟨d', v', h1, h2, _⟩ <;> rw [h1, h2] <;> rfl
        rw [e3]
        exact PostD.at q st (.bl _)
  | NotIn =>
    intro pins s σ H x y v u Q I rx ry ⟨σ0, F, am, h, d, e, st, r1, r2, q⟩
    cases e1 : dct h e with
    | none => exact cmp_ok hK hu .NotIn pins s σ H x y v u Q I rx ry ⟨σ0, F, am, h, _, _, st, rd_rel st r1, rd_rel st r2, by simpa only [cmpH, e1] using q⟩
    | some kvs =>
      simp only [cmpH, e1] at q
      cases e2 : kyOf d with
      | none => rw [e2] at q; exact q.elim
      | some k =>
        rw [e2] at q
        obtain ⟨a, rfl, o, g, hv⟩ := dget_of st r2 e1 r1 e2
        cases (show u = Value.ref a from ry)
        refine d_notIn (by omega) I g rx fun s' I' => ⟨.bl (!o.isSome), H, I', rfl, ?_⟩
        have e3 : o.isSome = (dval kvs k).isSome := by
          rcases hv with ⟨h1, h2⟩ | ⟨d', v', h1, h2, _⟩ <;> rw [h1, h2] <;> rfl
        rw [e3]
        exact PostD.at q st (.bl _)
  | _ => exact go _ fun _ _ _ => rfl
/-- d[k], by values -/
theorem dget_tail {value slice : Expr} {a : Addr} {y v : V} {u : Value} {pins : List (Addr × Obj)} {s : Shared} {σ : SV} (hu : X.A.units + 70 < cLine) (I : Inv X pins σ H s) (g : DGet H a y (some v)) (ry : RelV y u) (hs : subscripted slice false (.ref a) u = operate [.ref a, u] (getItem (.ref a) u)) (q : Q v H) :
    wpAny (model X.prog X.w) X.A (subscriptTail value slice (.ref a) u) (EP X pins σ Q) X.xe s := by
  have hT := dict_typeIs I g
  unfold subscriptTail
  refine wpAny_bind ?_
  rw [getitemInPython_of_ne hT.not_modules]
  refine wpAny_bind (wpAny_specialOf hT PySem.F.slot_dict_getitem.lookup ?_)
  have last : wpAny (model X.prog X.w) X.A (subscripted slice false (.ref a) u) (fun r s3 => wpAny (model X.prog X.w) X.A (letTemporaryGo value (.ref a) r >>= fun _ => pure r) (EP X pins σ Q) X.xe s3) X.xe s := by
    rw [hs]
    exact wpAny_operating (wpAny_mono (d_getItem (E := X.xe) (Q := EP X pins σ Q) (by omega) I g ry fun w' s3 I3 r3 => ⟨v, H, I3, r3, q⟩) (fun r s3 h3 => wpAny_bind (wpAny_letTemporaryGo (wpAny_pure h3))) fun _ _ x => x)
  first
    | exact wpAny_pure (wpAny_bind last)
    | exact wpAny_bind (wpAny_pure (wpAny_bind last))
    | exact wpAny_bind last
def rIH (z : Si) : R2 := fun x y H Q => ∃ σ0 F am h d e, Sto z.rc F am H h ∧ RD z.rc F am H d x ∧ RD z.rc F am H e y ∧ SatR z σ0 F am H (liftO (ixH h d e) h) (PostD z Q)
theorem ixH_ok (hK : X.K = z.K) (hu : X.A.units + 70 < cLine) : IxR X (rIH z) := by
  intro value slice pins s σ H x y v u Q I rx ry ⟨σ0, F, am, h, d, e, st, r1, r2, q⟩ hs
  cases e1 : dct h d with
  | none => exact ix_ok hK value slice pins s σ H x y v u Q I rx ry ⟨σ0, F, am, h, _, _, st, rd_rel st r1, r2, by simpa only [ixH, e1] using q⟩ hs
  | some kvs =>
    simp only [ixH, e1] at q
    cases e2 : kyOf e with
    | none => rw [e2] at q; exact q.elim
    | some k =>
      rw [e2] at q
      obtain ⟨a, rfl, o, g, hv⟩ := dget_of st r1 e1 r2 e2
      cases (show v = Value.ref a from rx)
      rcases hv with ⟨h1, h2⟩ | ⟨d', v', h1, h2, r'⟩
      · simp only [Option.bind_some, h1] at q; exact q.elim
      · subst h2
        simp only [Option.bind_some, h1] at q
        exact dget_tail hu I g ry hs (PostD.at q st r')
end
end Ci

set_option Elab.async false
set_option linter.all false
set_option maxRecDepth 100000
set_option maxHeartbeats 4000000
namespace Ci
open PySem PySem.Spec PyProof.Rows L2
/-- what a module's name is -/
inductive GV where
  | bi (id : String) | ty (n : String) | fn (i : Nat) | wd (i : Nat) | cst (d : D) | cls (c : Nat) (r : Bool)
abbrev GT := Str → Option GV
def GOk (z : Si) (P : Program) (mg : Str → Option Value) (y : Str) : GV → Prop
  | .bi id => mg y = none ∧ bootBuiltins y = some (.builtin id)
  | .ty n => mg y = none ∧ bootBuiltins y = some (.type n)
  | .fn i => ∃ a, z.rc.fa i = some a ∧ mg y = some (.ref a)
  | .wd i => True
  | .cst d => ∃ u w, mg y = some u ∧ RelV w u ∧ scV d = some w
  | .cls c r => ∃ a, z.ca c = some a ∧ mg y = some (.ref a) ∧ (r = true → ErrTxt P z.K a (z.fld c))
/-- a def's promise: what the evaluator says -/
def Si.to (z : Si) (E : XK) : Si := { z with W := fun c d _ H => E c d H }
def spF (z : Si) (i : Nat) : Sp := fun vs H Q E => ∃ F am h ds, Sto z.rc F am H h ∧ RDs z.rc F am H ds vs ∧ SatR (z.to E) [] F am H (z.call i ds h) (PostD (z.to E) Q)
def CallOk (z : Si) (X : Cx) : Prop := z.rc.hx = none ∧ ∀ i a, z.rc.fa i = some a → PySem.W.keepIn X.K (.ref a) = true ∧ ∃ (fd : FuncData) (ps : List Str) (k : Nat),
  FnOk X.prog X.w X.K X.mg X.base (L2N.CX X.prog X.w) k a fd ps (spF z i) ∧ Room k X.A ∧ Binds X.K fd ps []
/-- attribute names of exceptions -/
def atn : Nat → Str
  | 100 => "reason"
  | 101 => "at"
  | _ => "line"
/-- the exception that a suite holds -/
structure HxOk (z : Si) (X : Cx) (x : Hx) : Prop where
  ex : ∃ oe C, (x.a, oe) ∈ X.pn ∧ z.ca x.c = some C ∧ Zc (.ref C) (some x.d) oe ∧ (∃ vs, oe.data = .fields vs) ∧ x.f = z.fld x.c ∧ ExcC X.K C ∧ PySem.W.findIn X.K (.ref C) x.f = some none
  k : ∀ C c' C', z.ca x.c = some C → z.ca c' = some C' → PySem.W.kitOne X.K (.ref C) (.ref C') = some (z.sub x.c c')
  ve : ∀ C, z.ca x.c = some C → PySem.W.kitOne X.K (.ref C) (.type "ValueError") = some (z.sub x.c 99)
  fl : ∀ j, 100 ≤ j → z.sub x.c j = true → atn j = x.f
structure Ok (z : Si) (X : Cx) (N : List Str) (G : GT) (sc : Scope) (hot : Bool) : Prop where
  hK : X.K = z.K
  hrK : X.K = z.rc.K
  hN : X.N = N
  nd : N.Nodup
  hsc : X.env.scope = sc
  calm : hot = false → X.calm = true
  un : X.A.units + 70 < cLine
  tk : L2N.Takes X z.W
  g : ∀ y v, G y = some v → GOk z X.prog X.mg y v
  dp : X.A.depth + 5 < recursionLimit
  su : X.mg "super" = none
  hx : ∀ x, z.rc.hx = some x → HxOk z X x
  cf : hot = false → CallOk z X

/-! ### the check -/
def gl (sc : Scope) (y : Str) : Bool := sc.names.lookup y == some .globalImplicit && !(y == ("__debug__" : Str)) && !(y == ("__name__" : Str))
def vis (sc : Scope) (y : Str) : Bool := (sc.names.lookup y == some .local || sc.names.lookup y == some .cell || sc.names.lookup y == some .free) && !(y == ("__debug__" : Str)) && !(y == ("__classdict__" : Str))
def isFn (G : GT) (y : Str) (i : Nat) : Bool := match G y with | some (.fn j) => i == j | _ => false
def isWd (G : GT) (y : Str) (i : Nat) : Bool := match G y with | some (.wd j) => i == j | _ => false
def isBi (G : GT) (y : Str) (s : String) : Bool := match G y with | some (.bi t) => s == t | _ => false
def isTy (G : GT) (y : Str) (s : String) : Bool := match G y with | some (.ty t) => s == t | _ => false
def isCst (G : GT) (y : Str) (d : D) : Bool := match G y with | some (.cst e) => D.beq d e | _ => false
def isCls (G : GT) (y : Str) (c : Nat) : Bool := match G y with | some (.cls e _) => c == e | _ => false
def isErr (G : GT) (y : Str) (c : Nat) : Bool := match G y with | some (.cls e r) => c == e && r | _ => false
def isVal (G : GT) (y : Str) : Value → Bool
  | .builtin s => isBi G y s
  | .type s => isTy G y s
  | _ => false
def litB : D → Const → Bool
  | .non, .none => true
  | .bl a, .bool b => a == b
  | .int a, .int b => a == b
  | .str a, .str b => a == b
  | _, _ => false
def noStar : Expr → Bool
  | .Starred .. => false
  | _ => true
def noSlice : Expr → Bool
  | .Slice .. => false
  | _ => true
def Me.name : Me → Str
  | .append => "append" | .index => "index" | .count => "count" | .extend => "extend" | .pop => "pop"
/-- no call of super -/
def plainBase : Expr → Bool
  | .Name .. | .Subscript .. | .Attribute .. => true
  | _ => false
def noSet : Expr → Bool
  | .Set .. => false
  | _ => true
/-- a test of no odd form -/
def testOk : Nat → Expr → Bool
  | 0, _ => false
  | n + 1, .BoolOp _ xs _ => xs.all (testOk n)
  | n + 1, .UnaryOp .Not x _ => testOk n x
  | _, .IfExp .. => false
  | _, _ => true
def isBool : Expr → Bool
  | .BoolOp .. => true
  | _ => false
section
variable (N : List Str) (G : GT)
mutual
def tgB (sc : Scope) : Tg → Expr → Bool
  | .nm i, .Name y _ => N[i]? == some y && (sc.names.lookup y == some .local || sc.names.lookup y == some .cell)
  | .tp ts, .Tuple es _ _ => tgsB sc ts es
  | _, _ => false
def tgsB (sc : Scope) : Tgs → List Expr → Bool
  | .nil, [] => true
  | .cons t ts, e :: es => tgB sc t e && tgsB sc ts es
  | _, _ => false
end
mutual
def tgIx : Tg → List Nat
  | .nm i => [i]
  | .tp ts => tgsIx ts
def tgsIx : Tgs → List Nat
  | .nil => []
  | .cons t ts => tgIx t ++ tgsIx ts
end
def isTup : Expr → Bool
  | .Tuple .. => true
  | _ => false
/-- what a comprehension goes over that is a changing thing of its own: a dict's keys, or a list with its places -/
def overC (e : Bool) (sc : Scope) (j : Nat) (t x : Expr) : Bool := match e, x with
  | false, .Name y _ => N[j]? == some y && vis sc y
  | true, .Call (.Name g _) [.Name y _] [] _ => gl sc g && isTy G g "enumerate" && g == ("enumerate" : Str) && isTup t && N[j]? == some y && vis sc y
  | _, _ => false
mutual
def chkE (hot : Bool) (sc : Scope) : E → Expr → Bool
  | .nope, _ => true
  | .var i, .Name y _ => N[i]? == some y && vis sc y
  | .lit d, .Constant c _ _ => litB d c
  | .glb y d, .Name y' _ => y == y' && gl sc y && isCst G y d
  | .fn i, .Name y _ => gl sc y && isFn G y i
  | .bin op a b, .BinOp x o y _ => op == o && chkE hot sc a x && chkE hot sc b y
  | .neg a, .UnaryOp .USub x _ => chkE hot sc a x
  | .not_ a, .UnaryOp .Not x _ => chkE hot sc a x
  | .and_ a b, .BoolOp .And (x :: y :: r) p => chkE hot sc a x && chkE hot sc b (if r.isEmpty then y else .BoolOp .And (y :: r) p)
  | .or_ a b, .BoolOp .Or (x :: y :: r) p => chkE hot sc a x && chkE hot sc b (if r.isEmpty then y else .BoolOp .Or (y :: r) p)
  | .ife c a b, .IfExp t x y _ => chkE hot sc c t && testOk 30 t && chkE hot sc a x && chkE hot sc b y
  | .cmp o a b, .Compare x [o'] [y] _ => o == o' && noSet y && chkE hot sc a x && chkE hot sc b y
  | .cmp2 o p a b c, .Compare x [o', p'] [y, w] _ => o == o' && p == p' && noSet w && chkE hot sc a x && chkE hot sc b y && chkE hot sc c w
  | .cmp3 o p q a b c d, .Compare x [o', p', q'] [y, w, v] _ => o == o' && p == p' && q == q' && noSet v && chkE hot sc a x && chkE hot sc b y && chkE hot sc c w && chkE hot sc d v
  | .isN a, .Compare x [.Is] [.Constant .none _ _] _ => chkE hot sc a x
  | .noN a, .Compare x [.IsNot] [.Constant .none _ _] _ => chkE hot sc a x
  | .tup es, .Tuple xs _ _ => chkEs hot sc es xs
  | .il l, x => chkL hot sc l x
  | .ml l, x => chkL hot sc l x
  | .ix a b, .Subscript x y _ => noSlice y && chkE hot sc a x && chkE hot sc b y
  | .rev a, .Subscript x (.Slice none none (some (.UnaryOp .USub (.Constant (.int 1) _ _) _)) _) _ => chkE hot sc a x
  | .rlist t a b, .Call (.Name y _) [.Call (.Name y2 _) xs [] _] [] _ => !hot && gl sc y && isTy G y (if t then "tuple" else "list") && y == (if t then ("tuple" : Str) else ("list" : Str)) && gl sc y2 && isTy G y2 "range" && y2 == ("range" : Str) &&
    (match xs with | [x] => a.isOmit && noStar x && chkE hot sc b x | [x, x'] => !a.isOmit && noStar x && noStar x' && chkE hot sc a x && chkE hot sc b x' | _ => false)
  | .dc k v own tg it cond, .DictComp x w [⟨t, i, ifs, 0⟩] sc' _ =>
    !hot && blkC N sc sc' (own.filterMap fun k => N[k]?.map fun y => (y, k)) && (own.filterMap fun k => N[k]?.map fun y => (y, k)).map (·.2) == own && noSet i && (tgIx tg).all (own.contains ·) && own.all (fun k => match N[k]? with | some y => !(sc'.names.lookup y == some .free) | none => false) &&
      chkI hot sc t it i && tgB N (relS sc' sc) tg t && chkE hot (relS sc' sc) k x && chkE hot (relS sc' sc) v w && (match ifs with | [] => cond.isOmit | [c] => !cond.isOmit && chkE hot (relS sc' sc) cond c && testOk 30 c | _ => false)
  | .sl a lo hi, .Subscript x (.Slice l u none _) _ => chkE hot sc a x && (match l with | none => lo.isOmit | some l => !lo.isOmit && chkE hot sc lo l) && (match u with | none => hi.isOmit | some u => !hi.isOmit && chkE hot sc hi u)
  | .call f es, .Call (.Name y _) (x :: xs) [] _ => !hot && gl sc y && isFn G y f && chkEs hot sc es (x :: xs)
  | .pcall f es, .Call (.Name y _) (x :: xs) [] _ => !hot && gl sc y && isFn G y f && chkEs hot sc es (x :: xs)
  | .vcall i es, .Call (.Name y _) (x :: xs) [] _ => !hot && N[i]? == some y && vis sc y && chkEs hot sc es (x :: xs)
  | .pvcall i es, .Call (.Name y _) (x :: xs) [] _ => !hot && N[i]? == some y && vis sc y && chkEs hot sc es (x :: xs)
  | .isI a t, .Call (.Name y _) [x, .Name u _] [] _ => gl sc y && isBi G y "isinstance" && gl sc u && isTy G u t.name && noStar x && chkE hot sc a x
  | .isC a c, .Call (.Name y _) [x, .Name u _] [] _ => gl sc y && isBi G y "isinstance" && gl sc u && (isCls G u c || isTy G u "ValueError" && c == 99) && noStar x && chkE hot sc a x
  | .attr a k, .Attribute x n _ => n == atn k && decide (100 ≤ k) && plainBase x && chkE hot sc a x
  | .meth m a es, .Call (.Attribute x n apos) (y :: ys) [] cpos => n == m.name && plainBase x && apos.endLine == cpos.line && decide (ys.length < 20) && chkE hot sc a x && chkEs hot sc es (y :: ys)
  | .blt b es, .Call (.Name y _) (x :: xs) [] _ => (!hot || !b.calm) && gl sc y && isVal G y b.val && chkEs hot sc es (x :: xs)
  | .dget a k d, .Call (.Attribute x n apos) [y, w] [] cpos => n == ("get" : Str) && plainBase x && apos.endLine == cpos.line && noStar y && noStar w && chkE hot sc a x && chkE hot sc k y && chkE hot sc d w
  | .mdct, .Dict [] [] _ => true
  | .mcat a b, .BinOp x .Add y _ => chkE hot sc a x && chkE hot sc b y
  | .mrep a b, .BinOp x .Mult y _ => chkE hot sc a x && chkE hot sc b y
  | _, _ => false
def chkEs (hot : Bool) (sc : Scope) : Es → List Expr → Bool
  | .nil, [] => true
  | .cons e es, x :: xs => noStar x && chkE hot sc e x && chkEs hot sc es xs
  | _, _ => false
def chkL (hot : Bool) (sc : Scope) : L → Expr → Bool
  | .disp es, .List xs _ => chkEs hot sc es xs
  | .comp elt own tg it cond, .ListComp x [⟨t, i, ifs, 0⟩] sc' _ =>
    !hot && blkC N sc sc' (own.filterMap fun k => N[k]?.map fun y => (y, k)) && (own.filterMap fun k => N[k]?.map fun y => (y, k)).map (·.2) == own && noSet i && (tgIx tg).all (own.contains ·) && own.all (fun k => match N[k]? with | some y => !(sc'.names.lookup y == some .free) | none => false) &&
      chkI hot sc t it i && tgB N (relS sc' sc) tg t && chkE hot (relS sc' sc) elt x && (match ifs with | [] => cond.isOmit | [c] => !cond.isOmit && chkE hot (relS sc' sc) cond c && testOk 30 c | _ => false)
  | .compC e elt own tg j cond, .ListComp x [⟨t, i, ifs, 0⟩] sc' _ =>
    !hot && blkC N sc sc' (own.filterMap fun k => N[k]?.map fun y => (y, k)) && (own.filterMap fun k => N[k]?.map fun y => (y, k)).map (·.2) == own && noSet i && (tgIx tg).all (own.contains ·) && own.all (fun k => match N[k]? with | some y => !(sc'.names.lookup y == some .free) | none => false) &&
      overC N G e sc j t i && tgB N (relS sc' sc) tg t && chkE hot (relS sc' sc) elt x && (match ifs with | [] => cond.isOmit | [c] => !cond.isOmit && chkE hot (relS sc' sc) cond c && testOk 30 c | _ => false)
  | _, _ => false
/-- t: the target -/
def chkI (hot : Bool) (sc : Scope) (t : Expr) : It → Expr → Bool
  | .val e, x => chkE hot sc e x
  | .rng1 a, .Call (.Name y _) [x] [] _ => gl sc y && isTy G y "range" && y == ("range" : Str) && noStar x && chkE hot sc a x
  | .rng2 a b, .Call (.Name y _) [x, x'] [] _ => gl sc y && isTy G y "range" && y == ("range" : Str) && noStar x && noStar x' && chkE hot sc a x && chkE hot sc b x'
  | .enum a, .Call (.Name y _) [x] [] _ => gl sc y && isTy G y "enumerate" && y == ("enumerate" : Str) && isTup t && noStar x && chkE hot sc a x
  | .zip2 a b, .Call (.Name y _) [x, x'] [] _ => gl sc y && isTy G y "zip" && y == ("zip" : Str) && isTup t && noStar x && noStar x' && chkE hot sc a x && chkE hot sc b x'
  | _, _ => false
end
end

/-! ### the cases -/
section
variable {z : Si} {X : Cx} {N : List Str} {G : GT} {sc : Scope} {hot : Bool}
theorem vis_ok {y : Str} (ok : Ok z X N G sc hot) (h : vis sc y = true) : Vis X.env.scope y ∧ (y == ("__debug__" : Str)) = false ∧ (y == ("__classdict__" : Str)) = false := by
  unfold vis at h
  simp only [Bool.and_eq_true, Bool.or_eq_true, beq_iff_eq, Bool.not_eq_true'] at h
  rw [ok.hsc]
  exact ⟨h.1.1.elim (fun k => k.elim .inl fun k => .inr (.inl k)) fun k => .inr (.inr k), h.1.2, h.2⟩
theorem gl_ok {y : Str} (ok : Ok z X N G sc hot) (h : gl sc y = true) : Gl X y ∧ (y == ("__debug__" : Str)) = false ∧ y ≠ "__name__" := by
  unfold gl at h
  simp only [Bool.and_eq_true, beq_iff_eq, Bool.not_eq_true'] at h
  refine ⟨?_, h.1.2, fun e => ?_⟩
  · unfold Gl Env.kindOf
    rw [ok.hsc]; exact h.1.1
  · have h2 := h.2
    rw [e, beq_self_eq_true] at h2; cases h2
theorem fn_at {y : Str} {i : Nat} (ok : Ok z X N G sc hot) (h : isFn G y i = true) : ∃ a, z.rc.fa i = some a ∧ X.mg y = some (.ref a) := by
  unfold isFn at h
  split at h
  · rename_i j e
    have q := ok.g _ _ e
    rw [beq_iff_eq] at h; subst h
    exact q
  · cases h
theorem wd_at {y : Str} {i : Nat} (h : isWd G y i = true) : G y = some (.wd i) := by
  unfold isWd at h
  split at h
  · rename_i j e
    rw [beq_iff_eq] at h; subst h
    exact e
  · cases h
theorem bi_at {y : Str} {i : String} (ok : Ok z X N G sc hot) (h : isBi G y i = true) : X.mg y = none ∧ bootBuiltins y = some (.builtin i) := by
  unfold isBi at h
  split at h
  · rename_i j e
    have q := ok.g _ _ e
    rw [beq_iff_eq] at h; subst h
    exact q
  · cases h
theorem ty_at {y : Str} {i : String} (ok : Ok z X N G sc hot) (h : isTy G y i = true) : X.mg y = none ∧ bootBuiltins y = some (.type i) := by
  unfold isTy at h
  split at h
  · rename_i j e
    have q := ok.g _ _ e
    rw [beq_iff_eq] at h; subst h
    exact q
  · cases h
theorem cst_at {y : Str} {d : D} (ok : Ok z X N G sc hot) (h : isCst G y d = true) : ∃ u w, X.mg y = some u ∧ RelV w u ∧ scV d = some w := by
  unfold isCst at h
  split at h
  · rename_i j e
    have q := ok.g _ _ e
    rw [D.beq_eq h]
    exact q
  · cases h
theorem cls_at {y : Str} {i : Nat} (ok : Ok z X N G sc hot) (h : isCls G y i = true) : ∃ a, z.ca i = some a ∧ X.mg y = some (.ref a) := by
  unfold isCls at h
  split at h
  · rename_i j r e
    have q := ok.g _ _ e
    rw [beq_iff_eq] at h; subst h
    obtain ⟨a, q1, q2, q3⟩ := q
    exact ⟨a, q1, q2⟩
  · cases h
theorem err_at {y : Str} {i : Nat} (ok : Ok z X N G sc hot) (h : isErr G y i = true) : ∃ a, z.ca i = some a ∧ X.mg y = some (.ref a) ∧ ErrTxt X.prog X.K a (z.fld i) := by
  unfold isErr at h
  split at h
  · rename_i j r e
    have q := ok.g _ _ e
    simp only [Bool.and_eq_true, beq_iff_eq] at h
    obtain ⟨rfl, h2⟩ := h
    obtain ⟨a, q1, q2, q3⟩ := q
    exact ⟨a, q1, q2, by rw [ok.hK]; exact q3 h2⟩
  · cases h
theorem e_never {x : Expr} {e : E} (h : ∀ S hs, ev z.sub z.call e S hs = .bad) : PE X x (tE z e) := ⟨fun pins s σ H Q I ⟨S, F, am, hs, r, q⟩ => by rw [h] at q; exact q.elim⟩
theorem e_var {i : Nat} {y : Str} {p : Pos} (ok : Ok z X N G sc hot) (h : N[i]? = some y) (hv : vis sc y = true) : PE X (.Name y p) (tE z (.var i)) := by
  obtain ⟨v1, v2, v3⟩ := vis_ok ok hv
  refine (pe_var (i := i) (by rw [ok.hN]; exact h) v1 v2 v3).imp fun σ H Q ⟨S, F, am, hs, r, q⟩ => ?_
  simp only [ev] at q
  cases e : S[i]? with
  | none => rw [e] at q; exact q.elim
  | some o =>
    cases o with
    | none => rw [e] at q; exact q.elim
    | some d =>
      rw [e] at q
      obtain ⟨v, h1, h2⟩ := r.sl i d e
      exact ⟨v, h1, PostD.at q r.sto h2⟩
theorem e_lit {d : D} {c : Const} {j : Nat} {p : Pos} (h : litB d c = true) : PE X (.Constant c j p) (tE z (.lit d)) := by
  unfold litB at h
  split at h
  · exact pe_non.imp fun σ H Q ⟨S, F, am, hs, r, q⟩ => PostD.at (by simpa only [ev] using q) r.sto .non
  · rw [beq_iff_eq] at h; subst h
    exact pe_bl.imp fun σ H Q ⟨S, F, am, hs, r, q⟩ => PostD.at (by simpa only [ev] using q) r.sto (.bl _)
  · rw [beq_iff_eq] at h; subst h
    exact pe_int.imp fun σ H Q ⟨S, F, am, hs, r, q⟩ => PostD.at (by simpa only [ev] using q) r.sto (.int _)
  · rw [beq_iff_eq] at h; subst h
    exact pe_str.imp fun σ H Q ⟨S, F, am, hs, r, q⟩ => PostD.at (by simpa only [ev] using q) r.sto (.str _)
  · cases h
theorem e_glb {y : Str} {d : D} {p : Pos} (ok : Ok z X N G sc hot) (hg : gl sc y = true) (hc : isCst G y d = true) : PE X (.Name y p) (tE z (.glb y d)) := by
  obtain ⟨g1, g2, g3⟩ := gl_ok ok hg
  obtain ⟨u, w, c1, c2, c3⟩ := cst_at ok hc
  exact (pe_glob g1 c1 c2 g2).imp fun σ H Q ⟨S, F, am, hs, r, q⟩ => PostD.at (by simpa only [ev] using q) r.sto (sc_RD c3)
theorem e_fn {y : Str} {i : Nat} {p : Pos} (ok : Ok z X N G sc hot) (hg : gl sc y = true) (hc : isFn G y i = true) : PE X (.Name y p) (tE z (.fn i)) := by
  obtain ⟨g1, g2, g3⟩ := gl_ok ok hg
  obtain ⟨a, c1, c2⟩ := fn_at ok hc
  exact (pe_glob (v := .ref a) g1 c2 rfl g2).imp fun σ H Q ⟨S, F, am, hs, r, q⟩ => PostD.at (by simpa only [ev] using q) r.sto (.fn c1)
theorem e_bin {op : Operator} {a b : E} {x y : Expr} {p : Pos} (ok : Ok z X N G sc hot) (ha : PE X x (tE z a)) (hb : PE X y (tE z b)) : PE X (.BinOp x op y p) (tE z (.bin op a b)) :=
  (pe_op (bin_ok ok.hK op) ha hb).imp fun σ H Q ⟨S, F, am, hs, r, q⟩ => two r (by simpa only [ev] using q) fun d e v u F am H h r1 r2 r3 q1 => ⟨σ, F, am, h, _, _, r1.sto, rd_rel r1.sto r2, rd_rel r1.sto r3, q1⟩
theorem e_neg {a : E} {x : Expr} {p : Pos} (ha : PE X x (tE z a)) : PE X (.UnaryOp .USub x p) (tE z (.neg a)) :=
  (pe_un un_neg ha).imp fun σ H Q ⟨S, F, am, hs, r, q⟩ => one r (by simpa only [ev] using q) fun d v F am H h r1 r2 q1 => by
    cases d <;> first | exact q1.elim | skip
    cases r2
    exact ⟨_, rfl, PostD.at q1 r1.sto (.int _)⟩
theorem e_not {a : E} {x : Expr} {p : Pos} (ha : PE X x (tE z a)) : PE X (.UnaryOp .Not x p) (tE z (.not_ a)) :=
  (pe_notT ha).imp fun σ H Q ⟨S, F, am, hs, r, q⟩ => one r (by simpa only [ev] using q) fun d v F am H h r1 r2 q1 => by
    obtain ⟨b, e, q1⟩ := map_bl (o := (truD (rd h d)).map (!·)) (by rw [Option.map_map]; exact q1) r1.sto
    cases e1 : truD (rd h d) with
    | none => rw [e1] at e; cases e
    | some k =>
      rw [e1] at e; cases e
      exact ⟨k, tru_of (rd_rel r1.sto r2) e1, q1⟩
theorem e_and {a b : E} {x y : Expr} {rest : List Expr} {p : Pos} (ha : PE X x (tE z a)) (hb : PE X (.BoolOp .And (y :: rest) p) (tE z b)) : PE X (.BoolOp .And (x :: y :: rest) p) (tE z (.and_ a b)) :=
  (pe_andT ha hb).imp fun σ H Q ⟨S, F, am, hs, r, q⟩ => one r (by simpa only [ev] using q) fun d v F am H h r1 r2 q1 => by
    cases e1 : truD (rd h d) with
    | none => rw [e1] at q1; exact q1.elim
    | some k =>
      rw [e1] at q1
      refine ⟨k, tru_of (rd_rel r1.sto r2) e1, ?_⟩
      cases k with
      | true => exact ⟨S, F, am, h, r1, q1⟩
      | false => exact PostD.at q1 r1.sto r2
theorem e_or {a b : E} {x y : Expr} {rest : List Expr} {p : Pos} (ha : PE X x (tE z a)) (hb : PE X (.BoolOp .Or (y :: rest) p) (tE z b)) : PE X (.BoolOp .Or (x :: y :: rest) p) (tE z (.or_ a b)) :=
  (pe_orT ha hb).imp fun σ H Q ⟨S, F, am, hs, r, q⟩ => one r (by simpa only [ev] using q) fun d v F am H h r1 r2 q1 => by
    cases e1 : truD (rd h d) with
    | none => rw [e1] at q1; exact q1.elim
    | some k =>
      rw [e1] at q1
      refine ⟨k, tru_of (rd_rel r1.sto r2) e1, ?_⟩
      cases k with
      | false => exact ⟨S, F, am, h, r1, q1⟩
      | true => exact PostD.at q1 r1.sto r2
theorem e_ife {c a b : E} {t x y : Expr} {p : Pos} (hc : PT X t (tB z c)) (ha : PE X x (tE z a)) (hb : PE X y (tE z b)) : PE X (.IfExp t x y p) (tE z (.ife c a b)) :=
  (pe_ifExp hc ha hb).imp fun σ H Q ⟨S, F, am, hs, r, q⟩ => by
    simp only [ev] at q
    refine ⟨S, F, am, hs, r, SatR.bind (r := tst z.sub z.call c S hs) r.sto.inF q fun k h1 F1 am1 H1 _ e1 s1 q1 => ?_⟩
    cases k with
    | true => exact ⟨S, F1, am1, h1, r.to e1 s1, q1⟩
    | false => exact ⟨S, F1, am1, h1, r.to e1 s1, q1⟩
theorem mark_ok {y : Expr} {o : CmpOp} (h : noSet y = true) : behindInMarks o y = false := by
  cases y <;> first | rfl | cases h
theorem e_cmp {o : CmpOp} {a b : E} {x y : Expr} {p : Pos} (ok : Ok z X N G sc hot) (hy : noSet y = true) (ha : PE X x (tE z a)) (hb : PE X y (tE z b)) : PE X (.Compare x [o] [y] p) (tE z (.cmp o a b)) :=
  (pe_cmpR (cmpH_ok ok.hK ok.un o) ha hb (mark_ok hy)).imp fun σ H Q ⟨S, F, am, hs, r, q⟩ => two r (by simpa only [ev] using q) fun d e v u F am H h r1 r2 r3 q1 => ⟨σ, F, am, h, _, _, r1.sto, r2, r3, q1⟩
theorem e_isN {a : E} {x : Expr} {j : Nat} {p p' : Pos} (ha : PE X x (tE z a)) : PE X (.Compare x [.Is] [.Constant .none j p'] p) (tE z (.isN a)) :=
  (pe_cmpR op_isN ha pe_non (nomark _)).imp fun σ H Q ⟨S, F, am, hs, r, q⟩ => one r (by simpa only [ev] using q) fun d v F am H h r1 r2 q1 => ⟨rfl, by
    have e : decide (v = V.non) = isNonD d := by cases r2 <;> simp [isNonD]
    rw [e]
    exact PostD.at q1 r1.sto (.bl _)⟩
theorem e_noN {a : E} {x : Expr} {j : Nat} {p p' : Pos} (ha : PE X x (tE z a)) : PE X (.Compare x [.IsNot] [.Constant .none j p'] p) (tE z (.noN a)) :=
  (pe_cmpR op_notN ha pe_non (nomark _)).imp fun σ H Q ⟨S, F, am, hs, r, q⟩ => one r (by simpa only [ev] using q) fun d v F am H h r1 r2 q1 => ⟨rfl, by
    have e : (!decide (v = V.non)) = !isNonD d := by cases r2 <;> simp [isNonD]
    rw [e]
    exact PostD.at q1 r1.sto (.bl _)⟩
end
end Ci

set_option Elab.async false
set_option linter.all false
set_option maxRecDepth 100000
set_option maxHeartbeats 4000000
namespace Ci
open PySem PySem.Spec PyProof.Rows L2
section
variable {z : Si} {X : Cx} {N : List Str} {G : GT} {sc : Scope} {hot : Bool}
theorem star_ok {x : Expr} {xs : List Expr} {env : Env} (h : noStar x = true) : starEach (x :: xs) env = (false, eval x env) :: starEach xs env := by
  cases x <;> first | rfl | cases h
theorem plain_ok {env : Env} {pos : Pos} : ∀ {xs : List Expr}, xs.all noStar = true → (backTo pos (starEach xs env)).any (·.1) = false
  | [], _ => rfl
  | x :: xs, h => by
    simp only [List.all_cons, Bool.and_eq_true] at h
    rw [star_ok h.1]
    show (false || (backTo pos (starEach xs env)).any (·.1)) = false
    rw [plain_ok h.2]; rfl
theorem chkEs_star : ∀ {es : Es} {xs : List Expr}, chkEs N G hot sc es xs = true → xs.all noStar = true
  | .nil, [], _ => rfl
  | .nil, _ :: _, h => by simp [chkEs] at h
  | .cons _ _, [], h => by simp [chkEs] at h
  | .cons e es, x :: xs, h => by
    simp only [chkEs, Bool.and_eq_true] at h
    simp only [List.all_cons, Bool.and_eq_true]
    exact ⟨h.1.1, chkEs_star h.2⟩
theorem es_nil : PA X [] (tEs z .nil) := pa_nil.imp fun σ H Q ⟨S, F, am, hs, r, q⟩ => by
  simp only [evs] at q
  exact SatR.now q r.sto _ .nil
theorem es_cons {e : E} {es : Es} {x : Expr} {xs : List Expr} (hs : noStar x = true) (ha : PE X x (tE z e)) (hb : PA X xs (tEs z es)) : PA X (x :: xs) (tEs z (.cons e es)) :=
  (pa_cons ha hb (star_ok hs)).imp fun σ H Q ⟨S, F, am, h, r, q⟩ => by
    simp only [evs] at q
    refine ⟨S, F, am, h, r, q.bind r.sto.inF fun d h1 F1 am1 H1 _ e1 s1 q1 v rv => ⟨S, F1, am1, h1, r.to e1 s1, q1.bind s1.inF fun ds h2 F2 am2 H2 _ e2 s2 q2 vs rvs => ?_⟩⟩
    exact SatR.now q2 s2 _ (.cons (rv.ext e2 s1.inF) rvs)
/-- what a fresh list wants: p its place, guarded -/
def SatL (z : Si) (σ : SV) (F : Addr → Prop) (am : List Addr) (H : Hp) (r : R (List D)) (Q : VK) : Prop := match r with
  | .ok ds h => ∀ F2 am2 H2 p vs, Ext F am H F2 am2 H2 → Sto z.rc F2 am2 H2 h → H2 p = some (.lst vs) → RDs z.rc F2 am2 H2 ds vs → F2 p → p ∉ am2 → H p = none → Q (.ref p) H2
  | .exc c v h => excW z σ F am H c v h
  | .bad => False
def tL (z : Si) (l : L) : TE := fun σ H Q => ∃ S F am h, Rel z.rc F am H h S σ ∧ SatL z σ F am H (evL z.sub z.call l S h) Q
section
variable {F F' F1 F2 : Addr → Prop} {am am' am1 am2 : List Addr} {H H' H1 H2 : Hp} {d e : D} {v u : V} {ds : List D} {vs : List V} {h h' : Hs} {σ0 : SV} {Q : VK} {p : Addr} {o : HO} {c : Rc}
mutual
theorem RD.less (k : ∀ a, F' a → F a) : ∀ {d : D} {v : V}, RD c F am H d v → RD c F' am H d v
  | _, _, .non => .non
  | _, _, .bl b => .bl b
  | _, _, .int b => .int b
  | _, _, .str b => .str b
  | _, _, .tup r n l => .tup r (fun q => n (k _ q)) (RDs.less k l)
  | _, _, .lst r n l => .lst r (fun q => n (k _ q)) (RDs.less k l)
  | _, _, .scr r n l => .scr r (fun q => n (k _ q)) (RDs.less k l)
  | _, _, .scrK r l => .scrK r (RDs.less k l)
  | _, _, .ref q => .ref q
  | _, _, .fn q => .fn q
  | _, _, .exc a b c n => .exc a b c (fun q => n (k _ q))
theorem RDs.less (k : ∀ a, F' a → F a) : ∀ {ds : List D} {vs : List V}, RDs c F am H ds vs → RDs c F' am H ds vs
  | _, _, .nil => .nil
  | _, _, .cons r l => .cons (RD.less k r) (RDs.less k l)
end
theorem Sto.less (s : Sto c F am H h) (k : ∀ a, F' a → F a) (i : ∀ a ∈ am, F' a) : Sto c F' am H h :=
  ⟨s.nd, s.len, i, fun a q => s.ok a (k a q), fun i a o q1 q2 => by
    have q := s.obj i a o q1 q2
    cases o with
    | lst ds =>
      obtain ⟨xs, q3, q4⟩ := q
      exact ⟨xs, q3, q4.less k⟩
    | dct ds =>
      obtain ⟨xs, q3, qk, q4⟩ := q
      exact ⟨xs, q3, qk, q4.less k⟩⟩
theorem Ext.none_of (e : Ext F am H F1 am1 H1) (s : Sto c F am H h) (s1 : Sto c F1 am1 H1 h') (n : H1 p = none) : H p = none := by
  cases q : H p with
  | none => rfl
  | some o =>
    by_cases hm : p ∈ am
    · obtain ⟨t, e1⟩ := e.pre
      obtain ⟨u, q'⟩ := s1.ok p (s1.inF p (by rw [e1]; exact List.mem_append_left _ hm))
      rw [n] at q'; cases q'
    · have := e.keep p o q hm
      rw [n] at this; cases this
theorem SatL.bind {α : Type} {r : R α} {f : α → Hs → R (List D)} (rs : Sto z.rc F am H h) (q : SatL z σ0 F am H (r.bind f) Q) : SatR z σ0 F am H r (fun a h1 F1 am1 H1 => SatL z σ0 F1 am1 H1 (f a h1) Q) := by
  cases r with
  | ok a h1 =>
    intro F1 am1 H1 e1 s1
    have q : SatL z σ0 F am H (f a h1) Q := q
    show SatL z σ0 F1 am1 H1 (f a h1) Q
    generalize f a h1 = r2 at q ⊢
    cases r2 with
    | ok ds h2 => exact fun F2 am2 H2 p vs e2 s2 hp k fp np hn => q F2 am2 H2 p vs (e1.trans e2 rs.inF) s2 hp k fp np (e1.none_of rs s1 hn)
    | exc c v h => exact excW.ext e1 rs.inF q
    | bad => exact q
  | exc c v h => exact q
  | bad => exact q
/-- the new list that no one changes -/
theorem il_of {r : R (List D)} (rs : Sto z.rc F am H h) (q : SatR z σ0 F am H (r.bind fun xs h1 => .ok (.lst xs) h1) (PostD z Q)) : SatL z σ0 F am H r Q := by
  cases r with
  | ok ds h1 =>
    intro F2 am2 H2 p vs e2 s2 hp k fp np hn
    have f1 : ¬ F p := fun q => by
      obtain ⟨o, e⟩ := rs.ok p q
      rw [hn] at e; cases e
    have e3 : Ext F am H (fun a => F2 a ∧ a ≠ p) am2 H2 := ⟨e2.pre, e2.keep, fun a o q n m => e2.fr a o q n m.1, fun a q => ⟨e2.up a q, fun e => f1 (e ▸ q)⟩, e2.nw⟩
    have i3 : ∀ a ∈ am2, F2 a ∧ a ≠ p := fun a hm => ⟨s2.inF a hm, fun e => np (e ▸ hm)⟩
    exact q _ am2 H2 e3 (s2.less (fun a m => m.1) i3) (.ref p) (.lst hp (fun m => m.2 rfl) (k.less fun a m => m.1))
  | exc c v h => exact q
  | bad => exact q
mutual
theorem RD.more (t : List Addr) : ∀ {d : D} {v : V}, RD c F am H d v → RD c F (am ++ t) H d v
  | _, _, .non => .non
  | _, _, .bl b => .bl b
  | _, _, .int b => .int b
  | _, _, .str b => .str b
  | _, _, .tup r n l => .tup r n (RDs.more t l)
  | _, _, .lst r n l => .lst r n (RDs.more t l)
  | _, _, .scr r n l => .scr r n (RDs.more t l)
  | _, _, .scrK r l => .scrK r (RDs.more t l)
  | _, _, .ref q => .ref (by rw [List.getElem?_append_left (List.getElem?_eq_some_iff.mp q).1]; exact q)
  | _, _, .fn q => .fn q
  | _, _, .exc a b c n => .exc a b c n
theorem RDs.more (t : List Addr) : ∀ {ds : List D} {vs : List V}, RDs c F am H ds vs → RDs c F (am ++ t) H ds vs
  | _, _, .nil => .nil
  | _, _, .cons r l => .cons (RD.more t r) (RDs.more t l)
end
theorem Sto.more (s : Sto c F am H h) (hp : H p = some (.lst vs)) (k : RDs c F am H ds vs) (fp : F p) (np : p ∉ am) : Sto c F (am ++ [p]) H (h ++ [.lst ds]) := by
  refine ⟨?_, by simp [s.len], fun a hm => ?_, s.ok, fun i a o q1 q2 => ?_⟩
  · rw [List.nodup_append]
    exact ⟨s.nd, by simp, fun a hm b hb => by rw [List.mem_singleton.mp hb]; exact fun e => np (e ▸ hm)⟩
  · rcases List.mem_append.mp hm with m | m
    · exact s.inF a m
    · rw [List.mem_singleton.mp m]; exact fp
  · by_cases hi : i < am.length
    · rw [List.getElem?_append_left hi] at q1
      rw [List.getElem?_append_left (s.len ▸ hi)] at q2
      have q := s.obj i a o q1 q2
      cases o with
      | lst es =>
        obtain ⟨xs, q3, q4⟩ := q
        exact ⟨xs, q3, q4.more _⟩
      | dct es =>
        obtain ⟨xs, q3, qk, q4⟩ := q
        exact ⟨xs, q3, qk, q4.more _⟩
    · have e : i = am.length := by
        have := (List.getElem?_eq_some_iff.mp q1).1
        simp at this; omega
      subst e
      rw [List.getElem?_append_right (Nat.le_refl _), Nat.sub_self] at q1
      rw [s.len, List.getElem?_append_right (Nat.le_refl _), Nat.sub_self] at q2
      simp at q1 q2
      subst q1 q2
      exact ⟨vs, hp, k.more _⟩
/-- the new list as a changing one -/
theorem ml_of {r : R (List D)} (rs : Sto z.rc F am H h) (q : SatR z σ0 F am H (r.bind fun xs h1 => .ok (.ref h1.length) (h1 ++ [.lst xs])) (PostD z Q)) : SatL z σ0 F am H r Q := by
  cases r with
  | ok ds h1 =>
    intro F2 am2 H2 p vs e2 s2 hp k fp np hn
    obtain ⟨t, et⟩ := e2.pre
    have e3 : Ext F am H F2 (am2 ++ [p]) H2 := ⟨⟨t ++ [p], by rw [et, List.append_assoc]⟩, e2.keep, e2.fr, e2.up, fun a hm n => by
      rcases List.mem_append.mp hm with m | m
      · exact e2.nw a m n
      · rw [List.mem_singleton.mp m]; exact hn⟩
    refine q F2 _ H2 e3 (s2.more hp k fp np) (.ref p) (.ref ?_)
    rw [← s2.len, List.getElem?_append_right (Nat.le_refl _), Nat.sub_self]; rfl
  | exc c v h => exact q
  | bad => exact q
end
theorem e_il {l : L} {x : Expr} (h : PE X x (tL z l)) : PE X x (tE z (.il l)) := h.imp fun σ H Q ⟨S, F, am, hs, r, q⟩ => ⟨S, F, am, hs, r, il_of r.sto (by simpa only [ev] using q)⟩
theorem e_ml {l : L} {x : Expr} (h : PE X x (tL z l)) : PE X x (tE z (.ml l)) := h.imp fun σ H Q ⟨S, F, am, hs, r, q⟩ => ⟨S, F, am, hs, r, ml_of r.sto (by simpa only [ev] using q)⟩
/-- a new list, guarded -/
theorem Sto.guard {F : Addr → Prop} {am : List Addr} {H : Hp} {c : Rc} {h : Hs} {p : Addr} (s1 : Sto c F am H h) (hp : H p = none) (vs : List V) : Ext F am H (fun a => F a ∨ a = p) am (upd H p (.lst vs)) ∧ Sto c (fun a => F a ∨ a = p) am (upd H p (.lst vs)) h ∧ p ∉ am := by
  have n2 : ¬ F p := fun q => by
    obtain ⟨o, e⟩ := s1.ok p q
    rw [hp] at e; cases e
  have e3 : Ext F am H (fun a => F a ∨ a = p) am (upd H p (.lst vs)) := ⟨⟨[], by simp⟩, fun a u q _ => by rw [upd_ne (ne_of_none q hp)]; exact q, fun a o q n m => m.elim n (fun e => by rw [e, hp] at q; cases q), fun a q => Or.inl q, fun _ a b => absurd a b⟩
  refine ⟨e3, ⟨s1.nd, s1.len, fun a hm => .inl (s1.inF a hm), fun a q => ?_, fun i a o q1 q2 => ?_⟩, fun hm => n2 (s1.inF p hm)⟩
  · rcases q with q | q
    · obtain ⟨u, q'⟩ := s1.ok a q
      exact ⟨u, by rw [upd_ne (ne_of_none q' hp)]; exact q'⟩
    · exact ⟨_, by rw [q]; exact upd_same⟩
  · have q := s1.obj i a o q1 q2
    cases o with
    | lst ds =>
      obtain ⟨xs, q3, q4⟩ := q
      exact ⟨xs, by rw [upd_ne (ne_of_none q3 hp)]; exact q3, q4.ext e3 s1.inF⟩
    | dct ds =>
      obtain ⟨xs, q3, qk, q4⟩ := q
      exact ⟨xs, by rw [upd_ne (ne_of_none q3 hp)]; exact q3, qk, q4.ext e3 s1.inF⟩
theorem l_disp {es : Es} {xs : List Expr} {p : Pos} (h : PA X xs (tEs z es)) : PE X (.List xs p) (tL z (.disp es)) :=
  (pe_lst h).imp fun σ H Q ⟨S, F, am, hs, r, q⟩ => by
    simp only [evL] at q
    refine ⟨S, F, am, hs, r, (SatL.bind r.sto q).mono fun ds h1 F1 am1 H1 _ e1 s1 q1 vs k => ?_⟩
    split at q1
    · rename_i c
      refine ⟨by rw [← k.length]; exact okL_le c, fun p hp => ?_⟩
      obtain ⟨e3, s3, np⟩ := s1.guard hp vs
      exact q1 _ _ _ p vs e3 s3 upd_same (k.ext e3 s1.inF) (.inr rfl) np hp
    · exact q1.elim
theorem e_tup {es : Es} {xs : List Expr} {k : Nat} {p : Pos} (h : PA X xs (tEs z es)) : PE X (.Tuple xs k p) (tE z (.tup es)) :=
  (pe_tup h).imp fun σ H Q ⟨S, F, am, hs, r, q⟩ => by
    simp only [ev] at q
    refine ⟨S, F, am, hs, r, q.bind r.sto.inF fun ds h1 F1 am1 H1 _ e1 s1 q1 vs k => ?_⟩
    split at q1
    · rename_i c
      exact ⟨by rw [← k.length]; exact okL_le c, fun p hp => PostD.tup q1 s1 k hp⟩
    · exact q1.elim
theorem e_cmp2 {o o' : CmpOp} {a b c : E} {x y w : Expr} {p : Pos} (ok : Ok z X N G sc hot) (hw : noSet w = true) (ha : PE X x (tE z a)) (hb : PE X y (tE z b)) (hc : PE X w (tE z c)) : PE X (.Compare x [o, o'] [y, w] p) (tE z (.cmp2 o o' a b c)) :=
  (pe_chain (cmp_ok ok.hK ok.un o) (cmp_ok ok.hK ok.un o') ha hb hc (mark_ok hw)).imp fun σ H Q ⟨S, F, am, hs, r, q⟩ => two r (by simpa only [ev] using q) fun d e v u F am H h r1 r2 r3 q1 => by
    have k1 := rd_rel r1.sto r2
    have k2 := rd_rel r1.sto r3
    cases e1 : cmpD o (rd h d) (rd h e) with
    | none => rw [e1] at q1; exact q1.elim
    | some k =>
      rw [e1] at q1
      refine ⟨σ, F, am, h, _, _, r1.sto, k1, k2, ?_⟩
      rw [e1]
      intro F' am' H' ex st w' rw'
      cases rw'
      refine ⟨k, rfl, ?_⟩
      have q2 := SatR.ext ex r1.sto.inF q1
      cases k with
      | true =>
        refine ⟨S, F', am', h, r1.to ex st, q2.bind st.inF fun f h2 F2 am2 H2 _ ex2 st2 q3 w2 rw2 => ?_⟩
        exact ⟨σ, F2, am2, h2, _, _, st2, rd_rel st2 ((r3.ext ex r1.sto.inF).ext ex2 st.inF), rd_rel st2 rw2, q3⟩
      | false => exact PostD.at q2 st (.bl false)
theorem slice_ok {b : Expr} (h : noSlice b = true) : PlainIx b := by
  intro o i
  cases b <;> first | rfl | cases h
theorem e_ix {a b : E} {x y : Expr} {p : Pos} (ok : Ok z X N G sc hot) (hy : noSlice y = true) (ha : PE X x (tE z a)) (hb : PE X y (tE z b)) : PE X (.Subscript x y p) (tE z (.ix a b)) :=
  (pe_ix (ixH_ok ok.hK ok.un) ha hb (slice_ok hy)).imp fun σ H Q ⟨S, F, am, hs, r, q⟩ => two r (by simpa only [ev] using q) fun d e v u F am H h r1 r2 r3 q1 => ⟨σ, F, am, h, _, _, r1.sto, r2, r3, q1⟩
theorem o_none {S : Sl} {F : Addr → Prop} {am : List Addr} {H : Hp} {hs : Hs} {σ : SV} {P : Option Int → Hs → (Addr → Prop) → List Addr → Hp → Prop} {e : E} (h : e.isOmit = true) (r : Rel z.rc F am H hs S σ)
    (q : SatR z σ F am H (if e.isOmit then (.ok none hs : R (Option Int)) else optI (ev z.sub z.call e S hs)) P) : P none hs F am H := by
  rw [if_pos h] at q
  exact SatR.now q r.sto
theorem o_some {S : Sl} {F : Addr → Prop} {am : List Addr} {H : Hp} {hs : Hs} {σ : SV} {P : Option Int → Hs → (Addr → Prop) → List Addr → Hp → Prop} {e : E} (h : e.isOmit = false) (r : Rel z.rc F am H hs S σ)
    (q : SatR z σ F am H (if e.isOmit then (.ok none hs : R (Option Int)) else optI (ev z.sub z.call e S hs)) P) {Q : Option Int → Hp → Prop} (k : ∀ i h1 F1 am1 H1, Ext F am H F1 am1 H1 → Sto z.rc F1 am1 H1 h1 → P (some i) h1 F1 am1 H1 → Q (some i) H1) : tPart (tE z e) σ H Q := by
  rw [if_neg (by rw [h]; exact Bool.false_ne_true)] at q
  refine ⟨S, F, am, hs, r, SatR.bind (r := ev z.sub z.call e S hs) r.sto.inF q fun d h1 F1 am1 H1 _ e1 s1 q1 v rv => ?_⟩
  cases d <;> first | exact q1.elim | skip
  cases rv
  exact ⟨_, rfl, k _ _ _ _ _ e1 s1 (SatR.now q1 s1)⟩
theorem e_sl {a lo hi : E} {x : Expr} {l u : Option Expr} {p p2 : Pos} (ok : Ok z X N G sc hot) (ha : PE X x (tE z a))
    (hl : (l = none ∧ lo.isOmit = true) ∨ ∃ y, l = some y ∧ lo.isOmit = false ∧ PE X y (tE z lo)) (hu : (u = none ∧ hi.isOmit = true) ∨ ∃ y, u = some y ∧ hi.isOmit = false ∧ PE X y (tE z hi)) :
    PE X (.Subscript x (.Slice l u none p2) p) (tE z (.sl a lo hi)) := by
  have pl : ∃ tl, PO X l tl ∧ ∀ {S F am H hs σ P} {Q : Option Int → Hp → Prop}, Rel z.rc F am H hs S σ → SatR z σ F am H (if lo.isOmit then (.ok none hs : R (Option Int)) else optI (ev z.sub z.call lo S hs)) P →
      (∀ o h1 F1 am1 H1, Ext F am H F1 am1 H1 → Sto z.rc F1 am1 H1 h1 → P o h1 F1 am1 H1 → Q o H1) → tl σ H Q := by
    rcases hl with ⟨rfl, e⟩ | ⟨y, rfl, e, h⟩
    · exact ⟨_, po_none, fun {S F am H hs σ P Q} r q k => k none hs F am H .refl r.sto (o_none e r q)⟩
    · exact ⟨_, po_some h, fun {S F am H hs σ P Q} r q k => o_some e r q fun i h1 F1 am1 H1 => k (some i) h1 F1 am1 H1⟩
  have pu : ∃ tl, PO X u tl ∧ ∀ {S F am H hs σ P} {Q : Option Int → Hp → Prop}, Rel z.rc F am H hs S σ → SatR z σ F am H (if hi.isOmit then (.ok none hs : R (Option Int)) else optI (ev z.sub z.call hi S hs)) P →
      (∀ o h1 F1 am1 H1, Ext F am H F1 am1 H1 → Sto z.rc F1 am1 H1 h1 → P o h1 F1 am1 H1 → Q o H1) → tl σ H Q := by
    rcases hu with ⟨rfl, e⟩ | ⟨y, rfl, e, h⟩
    · exact ⟨_, po_none, fun {S F am H hs σ P Q} r q k => k none hs F am H .refl r.sto (o_none e r q)⟩
    · exact ⟨_, po_some h, fun {S F am H hs σ P Q} r q k => o_some e r q fun i h1 F1 am1 H1 => k (some i) h1 F1 am1 H1⟩
  obtain ⟨tl, hl, kl⟩ := pl
  obtain ⟨tu, hu, ku⟩ := pu
  refine (pe_slice (sl_ok ok.hK) ha hl hu).imp fun σ H Q ⟨S, F, am, hs, r, q⟩ => ?_
  simp only [ev] at q
  refine ⟨S, F, am, hs, r, q.bind r.sto.inF fun d h1 F1 am1 H1 _ e1 s1 q1 v rv => ?_⟩
  have r1 := r.to e1 s1
  refine kl (P := fun i h2 F2 am2 H2 => Ext F1 am1 H1 F2 am2 H2 ∧ Sto z.rc F2 am2 H2 h2 ∧ SatR z σ F2 am2 H2 ((if hi.isOmit then (.ok none h2 : R (Option Int)) else optI (ev z.sub z.call hi S h2)).bind fun j h3 => liftO (slD (rd h3 d) i j) h3) (PostD z Q)) r1
    (q1.bind s1.inF fun i h2 F2 am2 H2 _ e2 s2 q2 => ⟨e2, s2, q2⟩) fun i h2 F2 am2 H2 _ _ ⟨e2, s2, q2⟩ => ?_
  refine ku (P := fun j h3 F3 am3 H3 => Ext F2 am2 H2 F3 am3 H3 ∧ Sto z.rc F3 am3 H3 h3 ∧ SatR z σ F3 am3 H3 (liftO (slD (rd h3 d) i j) h3) (PostD z Q)) (r1.to e2 s2)
    (q2.bind s2.inF fun i h2 F2 am2 H2 _ e2 s2 q2 => ⟨e2, s2, q2⟩) fun j h3 F3 am3 H3 _ _ ⟨e3, s3, q3⟩ => ?_
  exact ⟨σ, F3, am3, h3, d |> rd h3, s3, rd_rel s3 ((rv.ext e2 s1.inF).ext e3 s2.inF), q3⟩
/-! ### calls -/
theorem fin_to {E : XK} {σ : SV} {F : Addr → Prop} {am : List Addr} {H : Hp} {r : R D} {Q : VK} (q : SatR z σ F am H r (PostD z Q)) (hE : ∀ c d H', z.W c d σ H' → E c d H') : SatR (z.to E) [] F am H r (PostD (z.to E) Q) := by
  cases r with
  | ok d h => exact q
  | exc c v h => exact fun F' am' H' C dd w e s h1 h2 h3 h4 => hE _ _ _ (q F' am' H' C dd w e s h1 h2 h3 h4)
  | bad => exact q
theorem e_call {f : Nat} {es : Es} {y : Str} {x : Expr} {xs : List Expr} {p p2 : Pos} (ok : Ok z X N G sc false) (hg : gl sc y = true) (hf : isFn G y f = true) (hs : (x :: xs).all noStar = true) (h : PA X (x :: xs) (tEs z es)) :
    PE X (.Call (.Name y p) (x :: xs) [] p2) (tE z (.call f es)) := by
  obtain ⟨g1, g2, g3⟩ := gl_ok ok hg
  obtain ⟨a, c1, c2⟩ := fn_at ok hf
  obtain ⟨hk, fd, ps, k, FO, hr, hb⟩ := (ok.cf rfl).2 f a c1
  simp only [List.all_cons, Bool.and_eq_true] at hs
  refine (pe_callS (E := WE z.W) FO hr g1 c2 hk hb (fun σ => L2N.passAt ok.tk σ) h g2 (star_ok hs.1) (plain_ok hs.2)).imp fun σ H Q ⟨S, F, am, hs, r, q⟩ => ?_
  simp only [ev] at q
  refine ⟨S, F, am, hs, r, q.bind r.sto.inF fun ds h1 F1 am1 H1 _ e1 s1 q1 vs k => ?_⟩
  exact ⟨F1, am1, h1, ds, s1, k, fin_to q1 fun _ _ _ w => w⟩
end
end Ci

set_option Elab.async false
set_option linter.all false
set_option maxRecDepth 100000
set_option maxHeartbeats 4000000
namespace Ci
open PySem PySem.Spec PyProof.Rows L2
/-! ### a def called with data alone -/
section
variable {c : Rc} {F F0 F1 : Addr → Prop} {am am0 am1 : List Addr} {H H1 : Hp} {g : Hs}
mutual
theorem RD.clr (k : ∀ a, F0 a → F a) : ∀ {d : D} {v : V}, RD c F am H d v → d.clear = true → RD c F0 am0 H d v
  | _, _, .non, _ => .non
  | _, _, .bl b, _ => .bl b
  | _, _, .int b, _ => .int b
  | _, _, .str b, _ => .str b
  | _, _, .tup r n l, h => .tup r (fun q => n (k _ q)) (RDs.clr k l (by simpa only [D.clear] using h))
  | _, _, .lst r n l, h => .lst r (fun q => n (k _ q)) (RDs.clr k l (by simpa only [D.clear] using h))
  | _, _, .scr _ _ _, h => by simp [D.clear] at h
  | _, _, .scrK _ _, h => by simp [D.clear] at h
  | _, _, .ref _, h => by simp [D.clear] at h
  | _, _, .fn q, _ => .fn q
  | _, _, .exc _ _ _ _, h => by simp [D.clear] at h
theorem RDs.clr (k : ∀ a, F0 a → F a) : ∀ {ds : List D} {vs : List V}, RDs c F am H ds vs → D.clears ds = true → RDs c F0 am0 H ds vs
  | _, _, .nil, _ => .nil
  | _, _, .cons r l, h => by
    simp only [D.clears, Bool.and_eq_true] at h
    exact .cons (RD.clr k r h.1) (RDs.clr k l h.2)
end
theorem RDs.thawed {f : D → D} (k : ∀ d v, RD c F am H d v → (f d).clear = true → RD c F0 am0 H (f d) v) : ∀ {ds : List D} {vs : List V}, RDs c F am H ds vs → D.clears (ds.map f) = true → RDs c F0 am0 H (ds.map f) vs
  | _, _, .nil, _ => .nil
  | _, _, .cons r l, h => by
    simp only [List.map_cons, D.clears, Bool.and_eq_true] at h
    exact .cons (k _ _ r h.1) (RDs.thawed k l h.2)
/-- what a def hands back, its own changing lists as they are -/
theorem thaw_rel (s : Sto c F1 am1 H g) (k : ∀ a, F0 a → F1 a) (n : ∀ a ∈ am1, ¬ F0 a) : ∀ (m : Nat) (d : D) (v : V), RD c F1 am1 H d v → (thaw g m d).clear = true → RD c F0 am0 H (thaw g m d) v
  | 0, d, v, r, h => by
    rw [show thaw g 0 d = d by cases d <;> rfl] at h ⊢
    exact r.clr k h
  | m + 1, d, v, r, h => by
    have q := rd_rel s r
    have e0 : thaw g (m + 1) d = (match rd g d with | .tup xs => .tup (xs.map (thaw g m)) | .lst xs => .lst (xs.map (thaw g m)) | e => e) := by cases d <;> rfl
    rw [e0] at h ⊢
    generalize hd : rd g d = e at q h ⊢
    cases e with
    | tup xs =>
      obtain ⟨a, ws, rfl, e1, n1, k1⟩ := q.tuple
      exact .tup e1 (fun z => n1 (k _ z)) (k1.thawed (fun d v r h => thaw_rel s k n m d v r h) (by simpa only [D.clear] using h))
    | lst xs =>
      have h' : D.clears (xs.map (thaw g m)) = true := by simpa only [D.clear] using h
      cases q with
      | rd q =>
        cases q with
        | lst e1 n1 k1 => exact .lst e1 (fun z => n1 (k _ z)) (k1.thawed (fun d v r h => thaw_rel s k n m d v r h) h')
      | lst e1 k1 =>
        refine .lst e1 ?_ (k1.thawed (fun d v r h => thaw_rel s k n m d v r h) h')
        -- a changing list of the def's own
        cases d <;> simp only [rd, reduceCtorEq] at hd
        · cases r with | lst _ n1 _ => exact fun z => n1 (k _ z)
        · cases r with
          | ref q => exact n _ (List.mem_of_getElem? q)
    | _ => exact (show RD c F1 am1 H _ v from by cases q with | rd q => exact q).clr k h
end
section
variable {z : Si} {X : Cx} {N : List Str} {G : GT} {sc : Scope} {hot : Bool} {F : Addr → Prop} {am : List Addr} {H : Hp} {h : Hs}
/-- the promise, in a store of its own -/
theorem pcall_sp {f : Nat} {ds : List D} {vs : List V} {σ : SV} {Q : VK} {E : XK} (hE : ∀ c d H', z.W c d σ H' → E c d H') (s : Sto z.rc F am H h) (k : RDs z.rc F am H ds vs) (q : SatR z σ F am H (pcallF z.call f ds h) (PostD z Q)) : spF z f vs H Q E := by
  unfold pcallF at q
  split at q
  · rename_i hc
    refine ⟨F, [], [], ds, ⟨List.nodup_nil, rfl, (fun _ m => nomatch m), s.ok, (fun i a o e => by simp at e)⟩, k.clr (fun _ x => x) hc, ?_⟩
    have ext : ∀ {F1 am1 H1}, Ext F [] H F1 am1 H1 → Ext F am H F am H1 ∧ Sto z.rc F am H1 h := fun {F1 am1 H1} e => by
      have e' : Ext F am H F am H1 := ⟨⟨[], by simp⟩, fun a o q _ => e.keep a o q (by simp), fun _ _ _ n => n, fun _ x => x, fun _ a b => absurd a b⟩
      refine ⟨e', s.nd, s.len, s.inF, fun a q => ?_, fun i a o q1 q2 => ?_⟩
      · obtain ⟨o, q⟩ := s.ok a q
        exact ⟨o, e.keep a o q (by simp)⟩
      · have q := s.obj i a o q1 q2
        cases o with
        | lst es =>
          obtain ⟨xs, q3, q4⟩ := q
          exact ⟨xs, e.keep a _ q3 (by simp), q4.ext e' s.inF⟩
        | dct es =>
          obtain ⟨xs, q3, qk, q4⟩ := q
          exact ⟨xs, e.keep a _ q3 (by simp), qk, q4.ext e' s.inF⟩
    split at q
    · rename_i d g hcall
      rw [hcall]
      intro F1 am1 H1 e1 s1 v rv
      obtain ⟨e2, s2⟩ := ext e1
      simp only at q
      split at q
      · rename_i hcl
        refine q F am H1 e2 s2 v ?_
        refine thaw_rel s1 (fun a x => e1.up a x) (fun a m x => ?_) 6 d v rv hcl
        obtain ⟨o, q'⟩ := s.ok a x
        have := e1.nw a m (by simp)
        rw [q'] at this; cases this
      · exact q.elim
    · rename_i c v g hcall
      rw [hcall]
      split at q
      · rename_i hs
        intro F1 am1 H1 C dd w e1 s1 h1 h2 h3 h4
        obtain ⟨e2, s2⟩ := ext e1
        exact hE _ _ _ (q F am H1 C dd w e2 s2 h1 h2 h3 fun x => h4 (e1.up _ x))
      · exact q.elim
    · exact q.elim
  · exact q.elim
theorem e_pcall {f : Nat} {es : Es} {y : Str} {x : Expr} {xs : List Expr} {p p2 : Pos} (ok : Ok z X N G sc false) (hg : gl sc y = true) (hf : isFn G y f = true) (hs : (x :: xs).all noStar = true) (h : PA X (x :: xs) (tEs z es)) :
    PE X (.Call (.Name y p) (x :: xs) [] p2) (tE z (.pcall f es)) := by
  obtain ⟨g1, g2, g3⟩ := gl_ok ok hg
  obtain ⟨a, c1, c2⟩ := fn_at ok hf
  obtain ⟨hk, fd, ps, k, FO, hr, hb⟩ := (ok.cf rfl).2 f a c1
  simp only [List.all_cons, Bool.and_eq_true] at hs
  refine (pe_callS (E := WE z.W) FO hr g1 c2 hk hb (fun σ => L2N.passAt ok.tk σ) h g2 (star_ok hs.1) (plain_ok hs.2)).imp fun σ H Q ⟨S, F, am, hs, r, q⟩ => ?_
  simp only [ev] at q
  exact ⟨S, F, am, hs, r, q.bind r.sto.inF fun ds h1 F1 am1 H1 _ e1 s1 q1 vs k => pcall_sp (fun _ _ _ w => w) s1 k q1⟩
/-- a def that a name of the def's own holds -/
theorem e_vc {f : Nat → List D → Hs → R D} {i : Nat} {es : Es} {e : E} {y : Str} {x : Expr} {xs : List Expr} {p p2 : Pos} (ok : Ok z X N G sc false) (hi : N[i]? = some y) (hv : vis sc y = true) (hs : (x :: xs).all noStar = true) (h : PA X (x :: xs) (tEs z es))
    (he : ∀ S hs, ev z.sub z.call e S hs = match S[i]? with | some (some (.fn g)) => (evs z.sub z.call es S hs).bind fun ds h1 => f g ds h1 | _ => .bad)
    (hf : ∀ {g : Nat} {σ : SV} {F am H h ds vs Q}, Sto z.rc F am H h → RDs z.rc F am H ds vs → SatR z σ F am H (f g ds h) (PostD z Q) → spF z g vs H Q (WE z.W σ)) :
    PE X (.Call (.Name y p) (x :: xs) [] p2) (tE z e) := by
  obtain ⟨v1, v2, v3⟩ := vis_ok ok hv
  simp only [List.all_cons, Bool.and_eq_true] at hs
  refine ⟨fun pins s σ H Q I ⟨S, F, am, hs0, r, q⟩ => ?_⟩
  rw [he] at q
  cases e1 : S[i]? with
  | none => rw [e1] at q; exact q.elim
  | some o =>
    rw [e1] at q
    cases o with
    | none => exact q.elim
    | some d =>
      cases d <;> first | exact q.elim | skip
      rename_i g
      obtain ⟨v, k1, k2⟩ := r.sl i _ e1
      cases k2 with
      | fn c1 =>
        rename_i a
        obtain ⟨hk, fd, ps, k, FO, hr, hb⟩ := (ok.cf rfl).2 g a c1
        refine wpAny_Call_Name_kw (thn ((pe_var (i := i) (pos := p) (by rw [ok.hN]; exact hi) v1 v2 v3).run pins s σ H (fun v H1 => v = .ref a ∧ H1 = H) I ⟨_, k1, rfl, rfl⟩) fun u s1 ⟨v, H1, I1, r1, q1⟩ => ?_)
        obtain ⟨rfl, rfl⟩ := q1
        cases r1
        refine PySem.W.callWith_K (h₀ := X.base) I.ok.mod.kin hk (thn (h.run p2 pins s1 σ _ (fun vs H2 => spF z g vs H2 Q (WE z.W σ)) I1 ⟨S, F, am, hs0, r, q.bind r.sto.inF fun ds h1 F1 am1 H1 _ e1 s1 q1 vs k => hf s1 k q1⟩) fun us s2 ⟨vs, H2, I2, r2, q2⟩ => ⟨I2.kIn, ?_⟩) (star_ok hs.1) (plain_ok hs.2)
        exact run_fnS (E := WE z.W) FO hr hb (L2N.passAt ok.tk σ) I2 r2 q2
theorem e_vcall {i : Nat} {es : Es} {y : Str} {x : Expr} {xs : List Expr} {p p2 : Pos} (ok : Ok z X N G sc false) (hi : N[i]? = some y) (hv : vis sc y = true) (hs : (x :: xs).all noStar = true) (h : PA X (x :: xs) (tEs z es)) :
    PE X (.Call (.Name y p) (x :: xs) [] p2) (tE z (.vcall i es)) :=
  e_vc (f := z.call) ok hi hv hs h (fun S hs => by simp only [ev] <;> (cases S[i]? with | none => rfl | some o => cases o with | none => rfl | some d => cases d <;> rfl)) fun {g σ F am H h ds vs Q} s k q => ⟨F, am, h, ds, s, k, fin_to q fun _ _ _ w => w⟩
theorem e_pvcall {i : Nat} {es : Es} {y : Str} {x : Expr} {xs : List Expr} {p p2 : Pos} (ok : Ok z X N G sc false) (hi : N[i]? = some y) (hv : vis sc y = true) (hs : (x :: xs).all noStar = true) (h : PA X (x :: xs) (tEs z es)) :
    PE X (.Call (.Name y p) (x :: xs) [] p2) (tE z (.pvcall i es)) :=
  e_vc (f := pcallF z.call) ok hi hv hs h (fun S hs => by simp only [ev] <;> (cases S[i]? with | none => rfl | some o => cases o with | none => rfl | some d => cases d <;> rfl)) fun {g σ F am H h ds vs Q} s k q => pcall_sp (fun _ _ _ w => w) s k q
/-! ### built-ins -/
theorem e_isI {a : E} {t : Ty} {x : Expr} {y u : Str} {p p2 p3 : Pos} (ok : Ok z X N G sc hot) (hg : gl sc y = true) (hb : isBi G y "isinstance" = true) (hu : gl sc u = true) (ht : isTy G u t.name = true) (hs : noStar x = true) (ha : PE X x (tE z a)) :
    PE X (.Call (.Name y p) [x, .Name u p2] [] p3) (tE z (.isI a t)) := by
  obtain ⟨g1, g2, g3⟩ := gl_ok ok hg
  obtain ⟨u1, u2, u3⟩ := gl_ok ok hu
  obtain ⟨b1, b2⟩ := bi_at ok hb
  obtain ⟨t1, t2⟩ := ty_at ok ht
  have pt : PE X (.Name u p2) (tC (.ty t.name)) := pe_bltn u1 t1 t2 rfl u3 u2
  refine (pe_callB (isi_ok (z := z) t) g1 b1 b2 (pa_cons ha (pa_cons pt pa_nil) (star_ok hs)) g3 g2 (star_ok hs)).imp fun σ H Q ⟨S, F, am, hs, r, q⟩ => ?_
  simp only [ev] at q
  exact ⟨S, F, am, hs, r, q.bind r.sto.inF fun d h1 F1 am1 H1 _ e1 s1 q1 v rv => ⟨v, σ, F1, am1, h1, _, rfl, s1, rd_rel s1 rv, q1⟩⟩
theorem e_blt {b : Bl} {es : Es} {y : Str} {x : Expr} {xs : List Expr} {p p2 : Pos} (ok : Ok z X N G sc hot) (hc : (!hot || !b.calm) = true) (hg : gl sc y = true) (hb : isVal G y b.val = true) (hs : (x :: xs).all noStar = true) (h : PA X (x :: xs) (tEs z es)) :
    PE X (.Call (.Name y p) (x :: xs) [] p2) (tE z (.blt b es)) := by
  obtain ⟨g1, g2, g3⟩ := gl_ok ok hg
  have cc : b.calm = true → X.calm = true := fun e => ok.calm (by rw [e] at hc; simpa using hc)
  simp only [List.all_cons, Bool.and_eq_true] at hs
  have hr := blt_ok (X := X) (z := z) ok.hrK ok.un b cc
  have key : ∀ {σ : SV} {H : Hp} {Q : VK}, tE z (.blt b es) σ H Q → tCB (rBl z b) (tEs z es) σ H Q := fun {σ H Q} ⟨S, F, am, hs, r, q⟩ => by
    simp only [ev] at q
    exact ⟨S, F, am, hs, r, q.bind r.sto.inF fun ds h1 F1 am1 H1 _ e1 s1 q1 vs k => ⟨σ, F1, am1, h1, ds, s1, k, q1⟩⟩
  have hv : (∃ id, b.val = .builtin id) ∨ ∃ n, b.val = .type n := by cases b <;> first | exact .inl ⟨_, rfl⟩ | exact .inr ⟨_, rfl⟩
  rcases hv with ⟨id, e⟩ | ⟨n, e⟩
  · rw [e] at hb hr
    obtain ⟨b1, b2⟩ := bi_at ok hb
    exact (pe_callB hr g1 b1 b2 h g3 g2 (star_ok hs.1) (plain_ok hs.2)).imp fun σ H Q q => key q
  · rw [e] at hb hr
    obtain ⟨b1, b2⟩ := ty_at ok hb
    exact (pe_callTy hr g1 b1 b2 h g3 g2 (star_ok hs.1) (plain_ok hs.2)).imp fun σ H Q q => key q
end
end Ci

set_option Elab.async false
set_option linter.all false
set_option maxRecDepth 100000
set_option maxHeartbeats 4000000
namespace Ci
open PySem PySem.Spec PyProof.Rows L2
section
variable {z : Si} {X : Cx} {N : List Str} {G : GT} {sc : Scope} {hot : Bool}
/-! ### targets -/
theorem wipe_len (S : Sl) : ∀ vs : List Nat, (wipe S vs).length = S.length
  | [] => rfl
  | v :: vs => by unfold wipe; rw [List.length_set, wipe_len S vs]
theorem wipe_at (σ : SV) {i : Nat} {x : Option V} : ∀ {vs : List Nat}, i ∈ vs → L2.wipe (σ.set i x) vs = L2.wipe σ vs
  | [], h => nomatch h
  | v :: vs, h => by
    unfold L2.wipe
    by_cases hm : i ∈ vs
    · rw [wipe_at σ hm]
    · have e : i = v := (List.mem_cons.mp h).resolve_right hm
      subst e
      have key : ∀ ws : List Nat, i ∉ ws → L2.wipe (σ.set i x) ws = (L2.wipe σ ws).set i x := by
        intro ws
        induction ws with
        | nil => intro _; rfl
        | cons w ws ih =>
          intro hn
          simp only [List.mem_cons, not_or] at hn
          show (L2.wipe (σ.set i x) ws).set w none = ((L2.wipe σ ws).set w none).set i x
          rw [ih hn.2, List.set_comm _ _ hn.1]
      rw [key vs hm, List.set_set]
theorem wipe_get {S : Sl} {i : Nat} {d : D} : ∀ {vs : List Nat}, (wipe S vs)[i]? = some (some d) → S[i]? = some (some d) ∧ i ∉ vs
  | [], h => ⟨h, by simp⟩
  | v :: vs, h => by
    unfold wipe at h
    by_cases hi : v = i
    · subst hi
      by_cases hv : v < (wipe S vs).length
      · rw [List.getElem?_set_self hv] at h; cases h
      · rw [List.getElem?_eq_none (by simpa using hv)] at h; cases h
    · rw [List.getElem?_set_ne hi] at h
      obtain ⟨h1, h2⟩ := wipe_get h
      exact ⟨h1, by simp only [List.mem_cons, not_or]; exact ⟨fun e => hi e.symm, h2⟩⟩
theorem wipe_keep {σ : SV} {i : Nat} : ∀ {vs : List Nat}, i ∉ vs → (L2.wipe σ vs)[i]? = σ[i]?
  | [], _ => rfl
  | v :: vs, h => by
    simp only [List.mem_cons, not_or] at h
    unfold L2.wipe
    rw [List.getElem?_set_ne (fun e => h.1 e.symm), wipe_keep h.2]
section
variable {c : Rc} {F : Addr → Prop} {am : List Addr} {H : Hp} {h : Hs} {S : Sl} {σ : SV}
theorem Rel.wiped (r : Rel c F am H h S σ) (vs : List Nat) : Rel c F am H h (wipe S vs) (L2.wipe σ vs) :=
  ⟨r.sto, by rw [wipe_len, L2.wipe_length, r.len], fun i d e => by
    obtain ⟨e1, e2⟩ := wipe_get e
    rw [wipe_keep e2]
    exact r.sl i d e1⟩
theorem Rel.set (r : Rel c F am H h S σ) {d : D} {v : V} (i : Nat) (k : RD c F am H d v) : Rel c F am H h (S.set i (some d)) (σ.set i (some v)) :=
  ⟨r.sto, by simp [r.len], fun j e q => by
    by_cases hj : i = j
    · subst hj
      by_cases hl : i < S.length
      · rw [List.getElem?_set_self hl] at q
        cases q
        exact ⟨v, List.getElem?_set_self (r.len ▸ hl), k⟩
      · rw [List.getElem?_eq_none (by simpa using hl)] at q; cases q
    · rw [List.getElem?_set_ne hj] at q
      rw [List.getElem?_set_ne hj]
      exact r.sl j e q⟩
theorem Rel.unset (r : Rel c F am H h S σ) (i : Nat) : Rel c F am H h (S.set i none) (σ.set i none) :=
  ⟨r.sto, by simp [r.len], fun j e q => by
    by_cases hj : i = j
    · subst hj
      by_cases hl : i < S.length
      · rw [List.getElem?_set_self hl] at q; cases q
      · rw [List.getElem?_eq_none (by simpa using hl)] at q; cases q
    · rw [List.getElem?_set_ne hj] at q
      rw [List.getElem?_set_ne hj]
      exact r.sl j e q⟩
end
def SameBut (ix : List Nat) (σ σ' : SV) : Prop := ∀ vs : List Nat, (∀ i ∈ ix, i ∈ vs) → L2.wipe σ' vs = L2.wipe σ vs
def tG (z : Si) (t : Tg) : TG := fun v σ H Q => ∃ S F am h d S', Rel z.rc F am H h S σ ∧ RD z.rc F am H d v ∧ put S d t = some S' ∧ ∀ σ', Rel z.rc F am H h S' σ' → SameBut (tgIx t) σ σ' → Q σ' H
def tGs (z : Si) (ts : Tgs) : TGs := fun vs σ H Q => ∃ S F am h ds S', Rel z.rc F am H h S σ ∧ RDs z.rc F am H ds vs ∧ puts S ds ts = some S' ∧ ∀ σ', Rel z.rc F am H h S' σ' → SameBut (tgsIx ts) σ σ' → Q σ' H
/-- what targets lean on -/
structure TOk (X : Cx) (N : List Str) (sc : Scope) (P : Nat → Prop) : Prop where
  hN : X.N = N
  nd : N.Nodup
  hsc : X.env.scope = sc
  calm : X.calm = true
  fnc : ∀ i x, P i → N[i]? = some x → sc.names.lookup x = some .cell → X.fn x = true
theorem _root_.L2.PG.imp {X : Cx} {e : Expr} {t t' : TG} (h : PG X e t) (k : ∀ v σ H Q, t' v σ H Q → t v σ H Q) : PG X e t' := ⟨fun pins s σ H v u Q I r q => h.run pins s σ H v u Q I r (k v σ H Q q)⟩
theorem _root_.L2.PGs.imp {X : Cx} {e : List Expr} {t t' : TGs} (h : PGs X e t) (k : ∀ v σ H Q, t' v σ H Q → t v σ H Q) : PGs X e t' := ⟨fun pins s σ H v u Q I r q => h.run pins s σ H v u Q I r (k v σ H Q q)⟩
theorem bindS {o : Option Sl} {f : Sl → Option Sl} {S' : Sl} (h : o.bind f = some S') : ∃ S1, o = some S1 ∧ f S1 = some S' := by
  cases o with
  | none => cases h
  | some S1 => exact ⟨S1, rfl, h⟩
theorem tg_one (env : Env) {t : Tg} {x : Expr} (xs : List Expr) (h : tgB N sc t x = true) : assignEach (x :: xs) env = (false, assign x env) :: assignEach xs env := by
  cases t <;> cases x <;> first | rfl | (simp [tgB] at h)
theorem tgs_plain (env : Env) : ∀ (ts : Tgs) (es : List Expr), tgsB N sc ts es = true → (assignEach es env).findIdx? (·.1) = none ∧ (assignEach es env).length = es.length
  | .nil, [], _ => ⟨rfl, rfl⟩
  | .nil, _ :: _, h => by simp [tgsB] at h
  | .cons _ _, [], h => by simp [tgsB] at h
  | .cons t ts, x :: xs, h => by
    simp only [tgsB, Bool.and_eq_true] at h
    obtain ⟨h1, h2⟩ := tgs_plain env ts xs h.2
    rw [tg_one env xs h.1]
    exact ⟨by rw [List.findIdx?_cons]; simp only [Bool.false_eq_true, if_false, h1, Option.map_none], by simp [h2]⟩
mutual
theorem g_ok {P : Nat → Prop} (ok : TOk X N sc P) : ∀ (t : Tg) (x : Expr), tgB N sc t x = true → (∀ i ∈ tgIx t, P i) → PG X x (tG z t)
  | .nm i, .Name y p, h, hp => by
    simp only [tgB, Bool.and_eq_true, Bool.or_eq_true, beq_iff_eq] at h
    have hl : Loc X.env.scope y := by rw [ok.hsc]; exact h.2
    have hf : X.fn y = true ∨ X.env.scope.names.lookup y = some .local := by
      rw [ok.hsc]
      rcases h.2 with k | k
      · exact .inr k
      · exact .inl (ok.fnc i y (hp i (by simp [tgIx])) h.1 k)
    refine (pg_name (i := i) (by rw [ok.hN]; exact ok.nd) (by rw [ok.hN]; exact h.1) hl hf).imp fun v σ H Q ⟨S, F, am, hs, d, S', r, k, e, q⟩ => ?_
    simp only [put] at e
    split at e
    · cases e
      refine q _ (r.set i k) fun vs hv => wipe_at σ (hv i (by simp [tgIx]))
    · cases e
  | .tp ts, .Tuple es k p, h, hp => by
    simp only [tgB] at h
    have hes := gs_ok ok ts es h fun i hi => hp i (by simpa only [tgIx] using hi)
    refine ⟨fun pins s σ H v u Q I rv ⟨S, F, am, hs, d, S', r, k, e, q⟩ => ?_⟩
    simp only [put] at e
    have len : ∀ {xs : List D} {ts : Tgs} {es : List Expr} {S S' : Sl}, puts S xs ts = some S' → tgsB N sc ts es = true → xs.length = es.length := by
      intro xs
      induction xs with
      | nil =>
        intro ts es S S' h1 h2
        cases ts with
        | nil => cases es with | nil => rfl | cons _ _ => simp [tgsB] at h2
        | cons _ _ => simp [puts] at h1
      | cons x xs ih =>
        intro ts es S S' h1 h2
        cases ts with
        | nil => simp [puts] at h1
        | cons t ts =>
          cases es with
          | nil => simp [tgsB] at h2
          | cons a es =>
            simp only [puts] at h1
            obtain ⟨S1, e1, e2⟩ := bindS h1
            simp only [tgsB, Bool.and_eq_true] at h2
            simp [ih e2 h2.2]
    cases d <;> simp only [seqD, Option.bind_some, Option.bind_none, reduceCtorEq] at e
    · rename_i xs
      cases k with
      | tup e1 n1 k1 =>
        exact (pg_tup ok.calm hes (hst := (tgs_plain _ ts es h).1)).run pins s σ H _ u Q I rv ⟨_, _, rfl, SqT.of e1, by rw [← k1.length, (tgs_plain _ ts es h).2]; exact len e h, S, F, am, hs, xs, S', r, k1, e, fun σ' r' b => q σ' r' (by simpa only [tgIx] using b)⟩
    · rename_i xs
      cases k with
      | lst e1 n1 k1 =>
        exact (pg_lst ok.calm hes (hst := (tgs_plain _ ts es h).1)).run pins s σ H _ u Q I rv ⟨_, _, rfl, SqL.of e1, by rw [← k1.length, (tgs_plain _ ts es h).2]; exact len e h, S, F, am, hs, xs, S', r, k1, e, fun σ' r' b => q σ' r' (by simpa only [tgIx] using b)⟩
theorem gs_ok {P : Nat → Prop} (ok : TOk X N sc P) : ∀ (ts : Tgs) (xs : List Expr), tgsB N sc ts xs = true → (∀ i ∈ tgsIx ts, P i) → PGs X xs (tGs z ts)
  | .nil, [], _, _ => pgs_nil.imp fun vs σ H Q ⟨S, F, am, hs, ds, S', r, k, e, q⟩ => by
    cases k with
    | nil =>
      simp only [puts] at e
      cases e
      exact ⟨rfl, q σ r fun _ _ => rfl⟩
    | cons _ _ => simp [puts] at e
  | .cons t ts, x :: xs, h, hp => by
    simp only [tgsB, Bool.and_eq_true] at h
    refine (pgs_cons (hs := by rw [tg_one X.env xs h.1]; rfl) (g_ok ok t x h.1 fun i hi => hp i (by simp [tgsIx, hi])) (gs_ok ok ts xs h.2 fun i hi => hp i (by simp [tgsIx, hi]))).imp fun vs σ H Q ⟨S, F, am, hs, ds, S', r, k, e, q⟩ => ?_
    cases k with
    | nil => simp [puts] at e
    | cons k1 k2 =>
      simp only [puts] at e
      obtain ⟨S1, e1, e2⟩ := bindS e
      refine ⟨_, _, rfl, S, F, am, hs, _, S1, r, k1, e1, fun σ1 r1 b1 => ⟨S1, F, am, hs, _, S', r1, k2, e2, fun σ2 r2 b2 => q σ2 r2 fun vs hv => ?_⟩⟩
      rw [b2 vs fun i hi => hv i (by simp [tgsIx, hi]), b1 vs fun i hi => hv i (by simp [tgsIx, hi])]
  | .nil, _ :: _, h, _ => by simp [tgsB] at h
  | .cons _ _, [], h, _ => by simp [tgsB] at h
end
end
end Ci

set_option Elab.async false
set_option linter.all false
set_option maxRecDepth 100000
set_option maxHeartbeats 4000000
namespace L2
open PySem PySem.Spec PyProof.Rows
/-! ### enumerate(list) kept under a name -/
def EnO (e it : Addr) : HO := .ext fun h => IsEnum h e it 0 .none
def LiO (l it : Addr) : HO := .ext fun h => h.IsListIter it l 0
/-- an address that may be an iterator's -/
def Mine (X : Cx) (b : Addr) : Prop := b ∉ X.fs ∧ (b ∈ X.ex ∨ X.s_0.heap.objs.size ≤ b)
theorem enO_ok {P : Program} {w : World} {H : Hp} {h : Heap} {e it : Addr} (x : IsEnum h e it 0 .none) : ObjOk P w H h e (EnO e it) := ⟨x, ⟨_, x⟩, fun _ _ q k => k _ q⟩
theorem liO_ok {P : Program} {w : World} {H : Hp} {h : Heap} {l it : Addr} (x : h.IsListIter it l 0) : ObjOk P w H h it (LiO l it) := ⟨x, let ⟨o, e, _⟩ := x; ⟨o, e⟩, fun _ _ q k => q.at fun o z => k o z⟩
section
variable {X : Cx} {pins : List (Addr × Obj)} {σ : St} {H : Hp} {s : Shared}
/-- an object of ours is no longer looked at -/
theorem Inv.forget {a : Addr} {φ : Heap → Prop} (I : Inv X pins σ H s) (ha : H a = some (.ext φ)) : Inv X pins σ (delH H a) s := by
  have neN : ∀ b, H b = none → b ≠ a := fun b e z => by rw [z, ha] at e; cases e
  have neT : ∀ b xs, H b = some (.tup xs) → b ≠ a := fun b xs e z => by rw [z, ha] at e; cases e
  have neF : ∀ b o u, H b = some (.frz o u) → b ≠ a := fun b o u e z => by rw [z, ha] at e; cases e
  have neB : ∀ b ps, H b = some (.tbl ps) → b ≠ a := fun b ps e z => by rw [z, ha] at e; cases e
  have neO : ∀ b c, H b = some (.own c) → b ≠ a := fun b c e z => by rw [z, ha] at e; cases e
  have none_ : ∀ b, H b = none → delH H a b = none := fun b e => by rw [delH_ne (neN b e)]; exact e
  refine ⟨I.ok, I.os, I.bare, ⟨I.base.keep, I.base.slot, fun b o e n hx => none_ b (I.base.free b o e n hx), I.base.there, fun b xs e => ?_, fun b o u e => ?_, fun b ps e => ?_⟩, I.loc, I.cell, none_ _ I.free, fun x c e => none_ _ (I.freeC x c e), fun p hp => ?_, fun b u e => ?_, I.len⟩
  · have q := I.base.tups b xs e
    rw [delH_ne (neT b xs q)]; exact q
  · have q := I.base.frzs b o u e
    rw [delH_ne (neF b o u q)]; exact q
  · obtain ⟨m, q⟩ := I.base.tbls b ps e
    exact ⟨m, by rw [delH_ne (neB b _ q)]; exact q⟩
  · obtain ⟨e, n, r⟩ := I.pin p hp
    exact ⟨e, none_ _ n, r⟩
  · have hb : b ≠ a := fun z => by rw [z, delH_same] at e; cases e
    rw [delH_ne hb] at e
    refine (I.hok b u e).stay (fun c v _ q => q) (fun c q => ?_) fun c xs q => ?_
    · rw [delH_ne (neO c b q)]; exact q
    · rw [delH_ne (neT c xs q)]; exact q
theorem Inv.fpOf {b : Addr} {φ : Heap → Prop} {H' : Hp} (I : Inv X pins σ H s) (hb : H b = some (.ext φ)) (m : Mine X b) (hn : H' b = none) : FpOk X pins H' b := by
  refine ⟨hn, fun z => ?_, m.1, m.2, fun x c e z => ?_, fun p hp z => ?_⟩
  · have q := I.free
    rw [← z, hb] at q; cases q
  · have q := I.freeC x c e
    rw [z, hb] at q; cases q
  · have q := (I.pin p hp).2.1
    rw [z, hb] at q; cases q
theorem Inv.mine {b : Addr} (I : Inv X pins σ H s) (hb : s.heap.objs.size ≤ b) : Mine X b := let f := I.fpOk (H' := fun _ => none) hb rfl; ⟨f.2.2.1, f.2.2.2.1⟩
end
/-- enumerate(list), the new iterator itself -/
def tEnV (X : Cx) (ta : TA) : TE := fun σ H Q => ta σ H fun vs H1 => ∃ l xs, vs = [.ref l] ∧ SqL X.K H1 l xs ∧ ∀ e it, H1 e = none → H1 it = none → e ≠ it → Mine X e → Mine X it → Q (.ref e) (upd (upd H1 it (LiO l it)) e (EnO e it))
theorem pe_enV {X : Cx} {x : Expr} {ta : TA} {p pos : Pos} (hg : Gl X "enumerate") (hm : X.mg "enumerate" = none) (ha : PA X [x] ta) (hs : starEach [x] X.env = [(false, eval x X.env)] := by rfl) : PE X (.Call (.Name "enumerate" p) [x] [] pos) (tEnV X ta) := by
  refine ⟨fun pins s σ H Q I h => ?_⟩
  refine Call_ (ld_blt I hg hm boot_enumerate (PyProof.Rows.callWith_type1 (thn (ha.run pos pins s σ H _ I h) fun us s1 ⟨vs, H1, I1, r1, q1⟩ => ?_) hs rfl))
  obtain ⟨l, xs, ex, hq, q⟩ := q1
  subst ex
  cases r1 with
  | cons r rr =>
    cases rr
    cases r
    obtain ⟨its, rv, p', hz⟩ := I1.list hq
    refine call_enumerate_list p'.isList fun h' he hit hsz hk => ?_
    have hne : s1.heap.objs.size + 1 ≠ s1.heap.objs.size := Nat.succ_ne_self _
    have n0 := I1.hok.fresh (Nat.le_refl s1.heap.objs.size)
    have n1 := I1.hok.fresh (Nat.le_succ s1.heap.objs.size)
    have I2 : Inv X pins σ (upd H1 s1.heap.objs.size (LiO l s1.heap.objs.size)) { s1 with heap := h' } := I1.laid (t' := s1.toks) hk (Nat.le_refl _) (liO_ok hit)
    have I3 : Inv X pins σ (upd (upd H1 s1.heap.objs.size (LiO l s1.heap.objs.size)) (s1.heap.objs.size + 1) (EnO (s1.heap.objs.size + 1) s1.heap.objs.size)) { s1 with heap := h' } := by
      obtain ⟨G, g1, g2⟩ := restrict h' fun b => decide (b ≠ s1.heap.objs.size + 1)
      have gk : ∀ b, b ≠ s1.heap.objs.size + 1 → G.get? b = h'.get? b := fun b hb => g1 b (decide_eq_true hb)
      have ga : G.get? (s1.heap.objs.size + 1) = none := g2 _ (decide_eq_false fun z => z rfl)
      have J := I1.laid (o := LiO l s1.heap.objs.size) (h' := G) (t' := s1.toks) (fun b u e => by rw [gk b (Nat.ne_of_lt (Nat.lt_succ_of_lt (Heap.lt_size e)))]; exact hk b u e) (Nat.le_refl _) (liO_ok (hit.at fun o z => by rw [gk _ (Ne.symm hne)]; exact z))
      exact J.laidN (t' := s1.toks) (fun b u e => by
        by_cases hb : b = s1.heap.objs.size + 1
        · rw [hb] at e
          have e' : G.get? (s1.heap.objs.size + 1) = some u := e
          rw [ga] at e'; cases e'
        · exact (gk b hb).symm.trans e) ga (by rw [upd_ne hne]; exact n1) (enO_ok he)
    exact ⟨.ref (s1.heap.objs.size + 1), _, I3, rfl, q _ _ n1 n0 hne (I1.mine (Nat.le_succ _)) (I1.mine (Nat.le_refl _))⟩
/-- the walk over it -/
def iEnV (X : Cx) (te : TE) : TI := fun σ H R => te σ H fun v H1 => ∃ e it l xs, v = .ref e ∧ H1 e = some (EnO e it) ∧ H1 it = some (LiO l it) ∧ e ≠ it ∧ Mine X e ∧ Mine X it ∧ SqL X.K H1 l xs ∧ R (Ite X.K l) (delH (delH H1 e) it)
theorem pi_enV {X : Cx} {x : Expr} {te : TE} {tpos : Pos} {elts : List Expr} {kk : Nat} (he : PE X x te) : PI X (.Tuple elts kk tpos) x (iEnV X te) := by
  refine ⟨fun pins s σ H R I h => ?_⟩
  refine thn (he.run pins s σ H _ I h) fun u s1 ⟨v, H1, I1, rv, e, it, l, xs, ev, ee, ei, hne, me, mi, hq, q⟩ => ?_
  subst ev
  obtain rfl : u = Value.ref e := rv
  have xe : IsEnum s1.heap e it 0 .none := (I1.hok e _ ee).1
  have xi : s1.heap.IsListIter it l 0 := (I1.hok it _ ei).1
  refine wpAny_pyIter_enum xe ?_
  have ei' : delH H1 e it = some (LiO l it) := by rw [delH_ne (Ne.symm hne)]; exact ei
  have I2 := (I1.forget ee).forget ei'
  refine ⟨e, [e, it], _, _, _, rfl, I2, turn_enum l e it, ⟨⟨.none, xe⟩, xi, hne⟩, fun b hb => ?_, q⟩
  have e' : b = e ∨ b = it := by simpa using hb
  rcases e' with z | z
  · subst z
    refine I1.fpOf ee me ?_
    rw [delH_ne hne, delH_same]
  · subst z
    exact I1.fpOf ei mi delH_same
end L2

set_option Elab.async false
set_option linter.all false
set_option maxRecDepth 100000
set_option maxHeartbeats 4000000
namespace L2
open PySem PySem.Spec PyProof.Rows
/-! ### enumerate(tuple) -/
theorem newEnumT (t : Addr) (items : Array Value) :
    Meets (Builtin.«enumerate.__new__» ⟨[.type "enumerate", .ref t], []⟩) (fun _ R s => s.heap.IsTuple t items ∧
      R (.ok (.ret (.ref (s.heap.push { cls := .type "tuple_iterator", data := .fields #[.ref t, .int 0 0] }).objs.size)))
        { s with heap := (s.heap.push { cls := .type "tuple_iterator", data := .fields #[.ref t, .int 0 0] }).push { cls := .type "enumerate", data := .fields #[.none, .bool false, .ref s.heap.objs.size, rawInt 0, .none, .none] } }) :=
  .of_wp fun prog w A R ⟨hp, g, d, tk, os⟩ ⟨hl, h⟩ => by
    have sub := sub_enumerate
    have go : ∀ {A' : Around} {E Q : Value → Shared → Prop}, Q (.ref hp.objs.size) ⟨hp.push { cls := .type "tuple_iterator", data := .fields #[.ref t, .int 0 0] }, g, d, tk, os⟩ → wpAny (model prog w) A' (pyIter (.ref t)) Q E ⟨hp, g, d, tk, os⟩ := fun q => wpAny_pyIter_tuple (s := ⟨hp, g, d, tk, os⟩) hl q
    wp_walk using go
    refine wpAny_stack_any fun _ => wpAny_pure ?_
    split
    · rename_i c _ _ _ _ _
      cases (c == Value.type "enumerate") <;> (wp_walk using go; exact ⟨_, rfl, h⟩)
    · wp_walk using go; exact ⟨_, rfl, h⟩
theorem callEnumT {prog : Program} {w : World} {A : Around} {E : Value → Shared → Prop} {s : Shared} {t : Addr} {items : Array Value} {Q : Value → Shared → Prop} (ht : s.heap.IsTuple t items)
    (h : ∀ h', IsEnum h' (s.heap.objs.size + 1) s.heap.objs.size 0 .none → h'.IsTupleIter s.heap.objs.size t 0 → (∀ b o, s.heap.get? b = some o → h'.get? b = some o) → Q (.ref (s.heap.objs.size + 1)) { s with heap := h' }) : wpAny (model prog w) A (call (.type "enumerate") [.ref t]) Q E s := by
  refine callType_new F.called_enumerate (by decide) (F.typeCall_enumerate_1 _) (F.newCall_enumerate_1 _) (fun obj => F.args_object_init_2 obj _) F.entry_enumerate_new (newEnumT t items) ⟨ht, ?_⟩
  have z : (s.heap.push { cls := .type "tuple_iterator", data := .fields #[.ref t, .int 0 0] }).objs.size = s.heap.objs.size + 1 := Heap.size_push ..
  show _ ∧ _
  rw [z]
  have x : IsEnum ((s.heap.push { cls := .type "tuple_iterator", data := .fields #[.ref t, .int 0 0] }).push { cls := .type "enumerate", data := .fields #[.none, .bool false, .ref s.heap.objs.size, rawInt 0, .none, .none] }) (s.heap.objs.size + 1) s.heap.objs.size 0 .none := by
    have y := Heap.get?_push_size (s.heap.push { cls := .type "tuple_iterator", data := .fields #[.ref t, .int 0 0] }) (o := { cls := .type "enumerate", data := .fields #[.none, .bool false, .ref s.heap.objs.size, rawInt 0, .none, .none] }) rfl
    rw [z] at y; exact y
  exact ⟨⟨_, x, rfl⟩, h _ x ⟨_, Heap.get?_push_of_some _ (Heap.get?_push_size _ rfl), rfl, rfl⟩ fun b o y => Heap.get?_push_of_some _ (Heap.get?_push_of_some _ y)⟩
/-- the tuple at a, each item in a new pair -/
def IteT (K : PySem.W.Frag) (a : Addr) : It :=
  ⟨fun i H => ∃ (xs : List V) (x : V), SqT K H a xs ∧ xs[i]? = some x, fun i H v H' => ∃ T x, v = .ref T ∧ H T = none ∧ H' = upd H T (.tup [.int (i : Nat), x]) ∧ ∀ xs, SqT K H a xs → xs[i]? = some x, fun i H => ∃ xs : List V, SqT K H a xs ∧ xs.length ≤ i⟩
/-- the iterator at its i-th place, read as one that draws nothing further -/
theorem drawEnd {prog : Program} {w : World} {A : Around} (hh : A.handled = none) (it t : Addr) (items : Array Value) (i : Nat) (hi : items[i]? = none) : Draws prog w A it [it, t] i (fun _ _ => True) (fun j h => j = i ∧ h.IsTupleIter it t i ∧ h.IsTuple t items) where
  live := fun _ _ st => let ⟨o, e, _⟩ := st.2.1; ⟨o, e⟩
  frame := fun _ _ _ st k => ⟨st.1, st.2.1.at fun o e => k it (by simp) o e, st.2.2.at fun o e => k t (by simp) o e⟩
  item := fun j s Q E hj st _ => absurd st.1 (Nat.ne_of_lt hj)
  done := fun s Q E st q => wpAny_nextOf_tuple_end hh st.2.1 st.2.2 hi q
theorem tup_of {h : Heap} {a : Addr} {xs : Array Value} (x : IsTup h a xs) : h.IsTuple a xs := x
theorem apart_of {h : Heap} {e t : Addr} {xs : Array Value} {n : String} {d : Data} (x : h.get? e = some { cls := .type n, data := d }) (y : h.IsTuple t xs) (k : n ≠ "tuple") : e ≠ t := fun z => by
  obtain ⟨o, q, c, _⟩ := y
  rw [← z, x] at q
  cases q
  cases c
  exact k rfl
theorem apart_it {h : Heap} {it t : Addr} {i : Nat} {xs : Array Value} (x : h.IsTupleIter it t i) (y : h.IsTuple t xs) : t ≠ it := fun z => by
  obtain ⟨o, q, c, _⟩ := y
  obtain ⟨o', q', c', _⟩ := x
  rw [z, q'] at q
  cases q
  rw [c'] at c
  exact absurd (Value.type.inj c) (by decide)
theorem turn_enumT {P : Program} {w : World} {K : PySem.W.Frag} {elts : List Expr} {kk : Nat} {tpos : Pos} (a e it : Addr) :
    Turn P w K (.Tuple elts kk tpos) (IteT K a) [e, it] e (fun i h => (∃ old, IsEnum h e it ((i : Nat) : Int) old) ∧ h.IsTupleIter it a i ∧ e ≠ it) where
  mem := List.mem_cons_self ..
  obj := fun i h st b hb => by
    rcases List.mem_cons.mp hb with z | z
    · obtain ⟨_, q⟩ := st.1
      rw [z]; exact ⟨_, q, fun v r => nomatch r⟩
    · obtain ⟨o, q, _, d⟩ := st.2.1
      rw [List.mem_singleton.mp z]; exact ⟨o, q, fun v r => by rw [d] at r; cases r⟩
  keep := fun i h h' st k => ⟨st.1.elim fun old q => ⟨old, k e (by simp) _ q⟩, st.2.1.at fun o q => k it (by simp) o q, st.2.2⟩
  item := by
    intro X h1 h2 h3 hc i pins s σ H E I hf st hg
    subst h1 h2 h3
    obtain ⟨⟨old, he⟩, hit, hne⟩ := st
    obtain ⟨xs, x, hq, hx⟩ := hg
    obtain ⟨its, rv, pt, _⟩ := I.tuple hq
    obtain ⟨u, hu, ru⟩ := rv.get hx
    have ht := tup_of pt
    have le := Heap.lt_size he
    have li : it < s.heap.objs.size := hit.elim fun _ q => Heap.lt_size q.1
    have D := Draws.tuple (prog := X.prog) (w := X.w) (A := X.A.in1) (I.ok.hd hc) it a (apart_it hit ht) its.toArray
    have hl : i < its.toArray.size := by
      have := (List.getElem?_eq_some_iff.mp hu).1
      simpa using this
    refine wpAny_pyNext_enum_itemD D he ⟨hit, ht⟩ hl hne (by simp [hne, apart_of he ht (by decide)]) fun y h' tk hy ho hs hT hz hk => ?_
    have ey : y = u := by
      have : its.toArray[i]? = some y := hy
      rw [List.getElem?_toArray, hu] at this
      exact (Option.some.inj this).symm
    subst ey
    refine ⟨_, rfl, wpAny_letOwnedTupleGo_enum (s := { s with heap := h', toks := tk + 1 }) ho fun h2 he2 sb => ?_⟩
    have T2 := (sb.2 s.heap.objs.size (Nat.ne_of_gt le)).trans hT
    have new : ObjOk X.prog X.w (upd H s.heap.objs.size (.tup [.int (i : Nat), x])) h2 s.heap.objs.size (.tup [.int (i : Nat), x]) := ⟨by show 2 ≤ sizeLine; decide, [.int i tk, y], .cons ⟨_, rfl⟩ (.cons ru .nil), ⟨_, T2, rfl, _, rfl⟩⟩
    have J := I.turnedNew (t' := tk + 1) (ch := [e, it]) (h' := h2) (fun b ob hb q => (sb.2 b fun z => hb (by simp [z])).trans (hk b ob (fun z => hb (by simp [z])) (fun z => hb (by simp [z])) q)) hf (Nat.le_refl _) new
    refine ⟨.ref s.heap.objs.size, _, J, rfl, ⟨_, x, rfl, I.hok.fresh (Nat.le_refl _), rfl, fun ys hy => by rw [I.tuple_inj hy hq]; exact hx⟩, ⟨⟨y, by rw [show ((i + 1 : Nat) : Int) = (i : Int) + 1 by omega]; exact he2⟩, hs.1.at fun o q => (sb.2 it (Ne.symm hne)).trans q, hne⟩, fun b hb => ?_⟩
    have hb' : b < s.heap.objs.size := (List.mem_cons.mp hb).elim (fun z => by rw [z]; exact le) fun z => by rw [List.mem_singleton.mp z]; exact li
    exact (upd_ne (Nat.ne_of_lt hb')).trans (hf b hb).1
  done := by
    intro X h1 h2 h3 hc i pins s σ H E I hf st hg
    subst h1 h2 h3
    obtain ⟨⟨old, he⟩, hit, _⟩ := st
    obtain ⟨xs, hq, hx⟩ := hg
    obtain ⟨its, rv, pt, _⟩ := I.tuple hq
    have hl := rv.length
    obtain ⟨f0, f1, f2, f3, f4, f5⟩ := hf it (by simp)
    exact wpAny_pyNext_enum_endD (drawEnd (prog := X.prog) (w := X.w) (A := X.A.in1) (I.ok.hd hc) it a its.toArray i (by simp; omega)) he ⟨rfl, hit, tup_of pt⟩ fun h' k => ⟨rfl, I.turned (t' := s.toks) (fun b o n q => k b o n q) f0 f1 f3 f4 f5⟩
  self := fun A i s Q E st h => st.1.elim fun _ he => wpAny_pyIter_enum he h
/-- enumerate(v), v a list or a tuple -/
def iEnumA (K : PySem.W.Frag) (ta : TA) : TI := fun σ H R => ta σ H fun vs H1 => ∃ a xs, vs = [.ref a] ∧ ((SqL K H1 a xs ∧ R (Ite K a) H1) ∨ (SqT K H1 a xs ∧ R (IteT K a) H1))
theorem pi_enumA {X : Cx} {e : Expr} {ta : TA} {p pos tpos : Pos} {elts : List Expr} {kk : Nat} (hg : Gl X "enumerate") (hm : X.mg "enumerate" = none) (ha : PA X [e] ta) (hs : starEach [e] X.env = [(false, eval e X.env)] := by rfl) : PI X (.Tuple elts kk tpos) (.Call (.Name "enumerate" p) [e] [] pos) (iEnumA X.K ta) := by
  refine ⟨fun pins s σ H R I h => Call_ (ld_blt I hg hm boot_enumerate (PyProof.Rows.callWith_type1 (thn (ha.run pos pins s σ H _ I h) fun us s1 ⟨vs, H1, I1, r1, q1⟩ => ?_) hs rfl))⟩
  obtain ⟨a, xs, ex, q⟩ := q1
  subst ex
  cases r1 with
  | cons r rr =>
    cases rr
    cases r
    have fp : ∀ b ∈ [s1.heap.objs.size + 1, s1.heap.objs.size], FpOk X pins H1 b := fun b hb => by
      have hle : s1.heap.objs.size ≤ b := (List.mem_cons.mp hb).elim (fun z => by rw [z]; exact Nat.le_succ _) fun z => by rw [List.mem_singleton.mp z]; exact Nat.le_refl _
      exact I1.fpOk hle (I1.hok.fresh hle)
    rcases q with ⟨hq, q⟩ | ⟨hq, q⟩
    · obtain ⟨its, rv, pl, _⟩ := I1.list hq
      exact call_enumerate_list pl.isList fun h' he hit _ hk => wpAny_pyIter_enum he ⟨_, _, _, _, H1, rfl, I1.kept (t' := s1.toks) hk, turn_enum a (s1.heap.objs.size + 1) s1.heap.objs.size, ⟨⟨.none, he⟩, hit, Nat.succ_ne_self _⟩, fp, q⟩
    · obtain ⟨its, rv, pt, _⟩ := I1.tuple hq
      exact callEnumT (tup_of pt) fun h' he hit hk => wpAny_pyIter_enum he ⟨_, _, _, _, H1, rfl, I1.kept (t' := s1.toks) hk, turn_enumT a (s1.heap.objs.size + 1) s1.heap.objs.size, ⟨⟨.none, he⟩, hit, Nat.succ_ne_self _⟩, fp, q⟩
end L2

set_option Elab.async false
set_option linter.all false
set_option maxRecDepth 100000
set_option maxHeartbeats 4000000
namespace Ci
open PySem PySem.Spec PyProof.Rows L2
/-! ### walks -/
/-- from here on the walk goes as its source -/
def Wk (z : Rc) (src : Src) (F : Addr → Prop) (am : List Addr) (H : Hp) (J : L2.It) : Prop :=
  ∀ F1 am1 H1 h1, Ext F am H F1 am1 H1 → Sto z F1 am1 H1 h1 → ∀ i,
    (∀ d, itm src h1 i = some d → J.go i H1 ∧ ∀ x H2, J.yld i H1 x H2 → ∃ F2 am2, Ext F1 am1 H1 F2 am2 H2 ∧ Sto z F2 am2 H2 h1 ∧ RD z F2 am2 H2 d x) ∧ (itm src h1 i = none → srcOk src h1 = true → J.stop i H1)
def tI (z : Si) (it : It) : TI := fun σ H R => ∃ S F am h, Rel z.rc F am H h S σ ∧ SatR z σ F am H (evI z.sub z.call it S h) (fun src _ F' am' H' => ∀ J, Wk z.rc src F' am' H' J → R J H')
theorem _root_.L2.PI.imp {X : Cx} {tg e : Expr} {t t' : TI} (h : PI X tg e t) (k : ∀ σ H R, t' σ H R → t σ H R) : PI X tg e t' := ⟨fun pins s σ H R I q => h.run pins s σ H R I (k σ H R q)⟩
section
variable {z : Rc} {F F1 : Addr → Prop} {am am1 : List Addr} {H H1 : Hp} {h h1 : Hs} {K : PySem.W.Frag}
theorem Wk.ext {src : Src} {J : L2.It} (w : Wk z src F am H J) (e : Ext F am H F1 am1 H1) (i0 : ∀ x ∈ am, F x) : Wk z src F1 am1 H1 J :=
  fun F2 am2 H2 h2 e2 s2 i => w F2 am2 H2 h2 (e.trans e2 i0) s2 i
theorem wk_fixL {a : Addr} {ds : List D} {vs : List V} (i0 : ∀ x ∈ am, F x) (k : RDs z F am H ds vs) (q : ∀ F1 am1 H1, Ext F am H F1 am1 H1 → SqL K H1 a vs) : Wk z (.fix ds) F am H (Itl K a) := by
  intro F1 am1 H1 h1 e s i
  have k1 := k.ext e i0
  have q1 := q _ _ _ e
  refine ⟨fun d hd => ?_, fun hn _ => ⟨vs, q1, by rw [← k1.length]; exact List.getElem?_eq_none_iff.mp hn⟩⟩
  obtain ⟨v, g1, g2⟩ := k1.get hd
  refine ⟨⟨vs, v, q1, g1⟩, fun x H2 ⟨e2, y⟩ => ?_⟩
  subst e2
  have := y vs q1
  rw [g1] at this; cases this
  exact ⟨F1, am1, .refl, s, g2⟩
theorem wk_fixT {a : Addr} {ds : List D} {vs : List V} (i0 : ∀ x ∈ am, F x) (k : RDs z F am H ds vs) (q : ∀ F1 am1 H1, Ext F am H F1 am1 H1 → SqT K H1 a vs) : Wk z (.fix ds) F am H (Itt K a) := by
  intro F1 am1 H1 h1 e s i
  have k1 := k.ext e i0
  have q1 := q _ _ _ e
  refine ⟨fun d hd => ?_, fun hn _ => ⟨vs, q1, by rw [← k1.length]; exact List.getElem?_eq_none_iff.mp hn⟩⟩
  obtain ⟨v, g1, g2⟩ := k1.get hd
  refine ⟨⟨vs, v, q1, g1⟩, fun x H2 ⟨e2, y⟩ => ?_⟩
  subst e2
  have := y vs q1
  rw [g1] at this; cases this
  exact ⟨F1, am1, .refl, s, g2⟩
theorem wk_dyn {a : Addr} {n : Nat} (q : am[n]? = some a) : Wk z (.dyn n) F am H (Itl K a) := by
  intro F1 am1 H1 h1 e s i
  obtain ⟨t, e1⟩ := e.pre
  have q1 : am1[n]? = some a := by rw [e1, List.getElem?_append_left (List.getElem?_eq_some_iff.mp q).1]; exact q
  have hl : n < h1.length := by rw [← s.len]; exact (List.getElem?_eq_some_iff.mp q1).1
  have e2 : h1[n]? = some h1[n] := List.getElem?_eq_getElem hl
  have ho := s.obj n a _ q1 e2
  generalize h1[n] = o at e2 ho
  cases o with
  | lst ds =>
    obtain ⟨vs, e3, k⟩ := ho
    have hi : itm (.dyn n) h1 i = ds[i]? := by simp only [itm, e2]
    rw [hi]
    refine ⟨fun d hd => ?_, fun hn _ => ⟨vs, SqL.of e3, by rw [← k.length]; exact List.getElem?_eq_none_iff.mp hn⟩⟩
    obtain ⟨v, g1, g2⟩ := k.get hd
    refine ⟨⟨vs, v, SqL.of e3, g1⟩, fun x H2 ⟨e2, y⟩ => ?_⟩
    subst e2
    have := y vs (SqL.of e3)
    rw [g1] at this; cases this
    exact ⟨F1, am1, .refl, s, g2⟩
  | dct ds =>
    have hi : itm (.dyn n) h1 i = none := by simp only [itm, e2]
    have hs : srcOk (.dyn n) h1 = false := by simp only [srcOk, e2]
    rw [hi, hs]
    exact ⟨fun d hd => (nomatch hd), fun _ hn => (nomatch hn)⟩
theorem wk_rng {a b : Int} {ds : List D} (e : rangeD a b = some ds) : Wk z (.fix ds) F am H (Itr a (b - a).toNat) := by
  unfold rangeD at e
  split at e
  · cases e
    intro F1 am1 H1 h1 e s i
    have hi : itm (.fix ((List.range (b - a).toNat).map fun k => D.int (a + (k : Nat)))) h1 i = if i < (b - a).toNat then some (.int (a + (i : Nat))) else none := by
      simp only [itm, List.getElem?_map]
      by_cases hl : i < (b - a).toNat
      · rw [List.getElem?_range hl, if_pos hl]; rfl
      · rw [List.getElem?_eq_none (by simpa using hl), if_neg hl]; rfl
    rw [hi]
    by_cases hl : i < (b - a).toNat
    · rw [if_pos hl]
      refine ⟨fun d hd => ?_, fun hn => (nomatch hn)⟩
      cases hd
      refine ⟨hl, fun x H2 ⟨e2, y⟩ => ?_⟩
      subst e2 y
      exact ⟨F1, am1, .refl, s, .int _⟩
    · rw [if_neg hl]
      exact ⟨fun d hd => (nomatch hd), fun _ _ => Nat.le_of_not_lt hl⟩
  · cases e
theorem rng_bound {a b : Int} {ds : List D} (e : rangeD a b = some ds) : -(2 ^ 62) ≤ a ∧ a < 2 ^ 62 ∧ -(2 ^ 62) ≤ b ∧ b < 2 ^ 62 := by
  unfold rangeD at e
  split at e
  · rename_i h
    simp only [Bool.and_eq_true, decide_eq_true_eq] at h
    exact ⟨h.1.1.1, h.1.1.2, h.1.2, h.2⟩
  · cases e
theorem enum_at : ∀ (xs : List D) (n i : Nat), (enumD n xs)[i]? = (xs[i]?).map fun x => .tup [.int ((n + i : Nat)), x]
  | [], _, _ => by simp [enumD]
  | x :: xs, n, 0 => by simp [enumD]
  | x :: xs, n, i + 1 => by
    simp only [enumD, List.getElem?_cons_succ]
    rw [enum_at xs (n + 1) i]
    have e : n + 1 + i = n + (i + 1) := by omega
    rw [e]
theorem zip_at : ∀ (xs ys : List D) (i : Nat), (zipD xs ys)[i]? = match xs[i]?, ys[i]? with | some x, some y => some (.tup [x, y]) | _, _ => none
  | [], ys, i => by simp [zipD]
  | _ :: _, [], i => by
    simp only [zipD, List.getElem?_nil]
    cases (_ : List D)[i]? <;> rfl
  | x :: xs, y :: ys, 0 => by simp [zipD]
  | x :: xs, y :: ys, i + 1 => by
    simp only [zipD, List.getElem?_cons_succ]
    exact zip_at xs ys i
/-- one pair, new -/
theorem pair_new {T : Addr} {d e : D} {x y : V} (s : Sto z F am H h) (hT : H T = none) (r : RD z F am H d x) (q : RD z F am H e y) : ∃ F2 am2, Ext F am H F2 am2 (upd H T (.tup [x, y])) ∧ Sto z F2 am2 (upd H T (.tup [x, y])) h ∧ RD z F2 am2 (upd H T (.tup [x, y])) (.tup [d, e]) (.ref T) := by
  obtain ⟨e1, s1, n⟩ := s.laid hT (.tup [x, y])
  exact ⟨F, am, e1, s1, .tup upd_same n (.cons (r.ext e1 s.inF) (.cons (q.ext e1 s.inF) .nil))⟩
theorem wk_enum {a : Addr} {ds : List D} {vs : List V} (i0 : ∀ x ∈ am, F x) (k : RDs z F am H ds vs) (q : ∀ F1 am1 H1, Ext F am H F1 am1 H1 → SqL K H1 a vs) : Wk z (.fix (enumD 0 ds)) F am H (Ite K a) := by
  intro F1 am1 H1 h1 e s i
  have k1 := k.ext e i0
  have q1 := q _ _ _ e
  have hi : itm (.fix (enumD 0 ds)) h1 i = _ := enum_at ds 0 i
  rw [hi]
  cases hd : ds[i]? with
  | none => exact ⟨fun d hd => (nomatch hd), fun _ _ => ⟨vs, q1, by rw [← k1.length]; exact List.getElem?_eq_none_iff.mp hd⟩⟩
  | some d0 =>
    refine ⟨fun d hd' => ?_, fun hn => (nomatch hn)⟩
    cases hd'
    obtain ⟨v, g1, g2⟩ := k1.get hd
    refine ⟨⟨vs, v, q1, g1⟩, fun x H2 ⟨T, y, e2, hT, e3, w⟩ => ?_⟩
    subst e2 e3
    have := w vs q1
    rw [g1] at this; cases this
    have e4 : ((0 + i : Nat) : Int) = (i : Nat) := by simp
    rw [e4]
    exact pair_new s hT (.int _) g2
theorem wk_enumT {a : Addr} {ds : List D} {vs : List V} (i0 : ∀ x ∈ am, F x) (k : RDs z F am H ds vs) (q : ∀ F1 am1 H1, Ext F am H F1 am1 H1 → SqT K H1 a vs) : Wk z (.fix (enumD 0 ds)) F am H (IteT K a) := by
  intro F1 am1 H1 h1 e s i
  have k1 := k.ext e i0
  have q1 := q _ _ _ e
  have hi : itm (.fix (enumD 0 ds)) h1 i = _ := enum_at ds 0 i
  rw [hi]
  cases hd : ds[i]? with
  | none => exact ⟨fun d hd => (nomatch hd), fun _ _ => ⟨vs, q1, by rw [← k1.length]; exact List.getElem?_eq_none_iff.mp hd⟩⟩
  | some d0 =>
    refine ⟨fun d hd' => ?_, fun hn => (nomatch hn)⟩
    cases hd'
    obtain ⟨v, g1, g2⟩ := k1.get hd
    refine ⟨⟨vs, v, q1, g1⟩, fun x H2 ⟨T, y, e2, hT, e3, w⟩ => ?_⟩
    subst e2 e3
    have := w vs q1
    rw [g1] at this; cases this
    have e4 : ((0 + i : Nat) : Int) = (i : Nat) := by simp
    rw [e4]
    exact pair_new s hT (.int _) g2
theorem wk_zipL {a b : Addr} {ds es : List D} {vs ws : List V} (i0 : ∀ x ∈ am, F x) (k : RDs z F am H ds vs) (l : RDs z F am H es ws) (q : ∀ F1 am1 H1, Ext F am H F1 am1 H1 → SqL K H1 a vs) (q' : ∀ F1 am1 H1, Ext F am H F1 am1 H1 → SqL K H1 b ws) : Wk z (.fix (zipD ds es)) F am H (Itz K a b) := by
  intro F1 am1 H1 h1 e s i
  have k1 := k.ext e i0
  have l1 := l.ext e i0
  have q1 := q _ _ _ e
  have q2 := q' _ _ _ e
  have hi : itm (.fix (zipD ds es)) h1 i = _ := zip_at ds es i
  rw [hi]
  cases hd : ds[i]? with
  | none => exact ⟨fun d hd => (nomatch hd), fun _ _ => ⟨vs, ws, q1, q2, .inl (by rw [← k1.length]; exact List.getElem?_eq_none_iff.mp hd)⟩⟩
  | some d0 =>
    cases he : es[i]? with
    | none => exact ⟨fun d hd => (nomatch hd), fun _ _ => ⟨vs, ws, q1, q2, .inr (by rw [← l1.length]; exact List.getElem?_eq_none_iff.mp he)⟩⟩
    | some e0 =>
      refine ⟨fun d hd' => ?_, fun hn => (nomatch hn)⟩
      cases hd'
      obtain ⟨v, g1, g2⟩ := k1.get hd
      obtain ⟨u, f1, f2⟩ := l1.get he
      refine ⟨⟨vs, ws, v, u, q1, q2, g1, f1⟩, fun x H2 ⟨T, y, y2, e2, hT, e3, w, w2⟩ => ?_⟩
      subst e2 e3
      have := w vs q1
      rw [g1] at this; cases this
      have := w2 ws q2
      rw [f1] at this; cases this
      exact pair_new s hT g2 f2
theorem wk_zipT {a b : Addr} {ds es : List D} {vs ws : List V} (i0 : ∀ x ∈ am, F x) (k : RDs z F am H ds vs) (l : RDs z F am H es ws) (q : ∀ F1 am1 H1, Ext F am H F1 am1 H1 → SqT K H1 a vs) (q' : ∀ F1 am1 H1, Ext F am H F1 am1 H1 → SqT K H1 b ws) : Wk z (.fix (zipD ds es)) F am H (RZ.ItzT K a b) := by
  intro F1 am1 H1 h1 e s i
  have k1 := k.ext e i0
  have l1 := l.ext e i0
  have q1 := q _ _ _ e
  have q2 := q' _ _ _ e
  have hi : itm (.fix (zipD ds es)) h1 i = _ := zip_at ds es i
  rw [hi]
  cases hd : ds[i]? with
  | none => exact ⟨fun d hd => (nomatch hd), fun _ _ => ⟨vs, ws, q1, q2, .inl (by rw [← k1.length]; exact List.getElem?_eq_none_iff.mp hd)⟩⟩
  | some d0 =>
    cases he : es[i]? with
    | none => exact ⟨fun d hd => (nomatch hd), fun _ _ => ⟨vs, ws, q1, q2, .inr (by rw [← l1.length]; exact List.getElem?_eq_none_iff.mp he)⟩⟩
    | some e0 =>
      refine ⟨fun d hd' => ?_, fun hn => (nomatch hn)⟩
      cases hd'
      obtain ⟨v, g1, g2⟩ := k1.get hd
      obtain ⟨u, f1, f2⟩ := l1.get he
      refine ⟨⟨vs, ws, v, u, q1, q2, g1, f1⟩, fun x H2 ⟨T, y, y2, e2, hT, e3, w, w2⟩ => ?_⟩
      subst e2 e3
      have := w vs q1
      rw [g1] at this; cases this
      have := w2 ws q2
      rw [f1] at this; cases this
      exact pair_new s hT g2 f2
theorem keepL {a : Addr} {vs : List V} (i0 : ∀ x ∈ am, F x) (e : H a = some (.lst vs)) (n : ¬ F a) : ∀ F1 am1 H1, Ext F am H F1 am1 H1 → SqL K H1 a vs := fun F1 am1 H1 x => SqL.of (x.rd i0 e n).1
theorem keepT {a : Addr} {vs : List V} (i0 : ∀ x ∈ am, F x) (e : H a = some (.tup vs)) (n : ¬ F a) : ∀ F1 am1 H1, Ext F am H F1 am1 H1 → SqT K H1 a vs := fun F1 am1 H1 x => SqT.of (x.rd i0 e n).1
theorem keepS {a : Addr} {o : Obj} {vs : List V} (i0 : ∀ x ∈ am, F x) (e : H a = some (.frz o (.lst vs))) (n : ¬ F a) : ∀ F1 am1 H1, Ext F am H F1 am1 H1 → SqL K H1 a vs := fun F1 am1 H1 x => .inl (.inr ⟨o, (x.rd i0 e n).1⟩)
end
section
variable {z : Si} {X : Cx} {N : List Str} {G : GT} {sc : Scope} {hot : Bool}
theorem i_val {tg x : Expr} {e : E} (hK : X.K = z.rc.K) (he : PE X x (tE z e)) : PI X tg x (tI z (.val e)) := by
  refine ⟨fun pins s σ H R I ⟨S, F, am, hs, r, q⟩ => ?_⟩
  simp only [evI] at q
  have byL : iList X.K (tE z e) σ H R → _ := (pi_list (tg := tg) he).run pins s σ H R I
  have byT : iTup X.K (tE z e) σ H R → _ := (pi_tup (tg := tg) he).run pins s σ H R I
  cases hr : ev z.sub z.call e S hs with
  | bad => rw [hr] at q; exact q.elim
  | exc c v h1 =>
    refine byL ⟨S, F, am, hs, r, ?_⟩
    rw [hr] at q ⊢
    exact q
  | ok d h1 =>
    rw [hr] at q
    have q : SatR z σ F am H _ _ := q
    cases d <;> first | exact q.elim | skip
    · refine byT ⟨S, F, am, hs, r, ?_⟩
      rw [hr]
      intro F1 am1 H1 e1 s1 v rv
      cases rv with
      | tup g n k => exact ⟨_, rfl, ⟨_, SqT.of g⟩, q F1 am1 H1 e1 s1 _ (wk_fixT s1.inF k (keepT s1.inF g n))⟩
    · refine byL ⟨S, F, am, hs, r, ?_⟩
      rw [hr]
      intro F1 am1 H1 e1 s1 v rv
      cases rv with
      | lst g n k => exact ⟨_, rfl, ⟨_, SqL.of g⟩, q F1 am1 H1 e1 s1 _ (wk_fixL s1.inF k (keepL s1.inF g n))⟩
    · rename_i n0 q0
      refine byL ⟨S, F, am, hs, r, ?_⟩
      rw [hr]
      intro F1 am1 H1 e1 s1 v rv
      cases rv with
      | ref g =>
        have hl := (List.getElem?_eq_some_iff.mp g).1
        rw [s1.len] at hl
        have q : SatR z σ F am H ((if srcOk (.dyn n0) h1 = true then .ok (Src.dyn n0) h1 else .bad : Ci.R Src)) _ := q
        have hok : srcOk (.dyn n0) h1 = true := by
          cases hb : srcOk (.dyn n0) h1 with
          | true => rfl
          | false =>
            rw [hb] at q
            exact q.elim
        rw [if_pos hok] at q
        have q : SatR z σ F am H (.ok (Src.dyn n0) h1 : Ci.R Src) _ := q
        refine ⟨_, rfl, ?_, q F1 am1 H1 e1 s1 _ (wk_dyn g)⟩
        obtain ⟨o, eo⟩ : ∃ o, h1[_]? = some o := ⟨_, List.getElem?_eq_getElem hl⟩
        have ho := s1.obj _ _ _ g eo
        cases o with
        | lst ds => obtain ⟨vs, g1, g2⟩ := ho; exact ⟨vs, SqL.of g1⟩
        | dct ds => simp only [srcOk, eo, Bool.false_eq_true] at hok
    · refine byL ⟨S, F, am, hs, r, ?_⟩
      rw [hr]
      intro F1 am1 H1 e1 s1 v rv
      cases rv with
      | scr g n k => exact ⟨_, rfl, ⟨_, keepS s1.inF g n _ _ _ .refl⟩, q F1 am1 H1 e1 s1 _ (wk_fixL s1.inF k (keepS s1.inF g n))⟩
      | scrK g k => exact ⟨_, rfl, ⟨_, by rw [hK]; exact sqK g _⟩, q F1 am1 H1 e1 s1 _ (wk_fixL s1.inF k fun _ _ _ _ => by rw [hK]; exact sqK g _)⟩
theorem liftI {o : Option (List D)} {f : List D → Src} {h : Hs} {σ : SV} {F : Addr → Prop} {am : List Addr} {H : Hp} {P : Src → Hs → (Addr → Prop) → List Addr → Hp → Prop} (q : SatR z σ F am H (liftO (o.map f) h) P) (s : Sto z.rc F am H h) : ∃ xs, o = some xs ∧ P (f xs) h F am H := by
  cases o with
  | none => exact q.elim
  | some xs => exact ⟨xs, rfl, SatR.now q s⟩
theorem i_rng1 {tg x : Expr} {a : E} {p p2 : Pos} (ok : Ok z X N G sc hot) (hg : gl sc "range" = true) (hb : isTy G "range" "range" = true) (hs : noStar x = true) (ha : PE X x (tE z a)) : PI X tg (.Call (.Name "range" p) [x] [] p2) (tI z (.rng1 a)) := by
  obtain ⟨g1, g2, g3⟩ := gl_ok ok hg
  refine (pi_range1 g1 (ty_at ok hb).1 (pa_cons ha pa_nil (star_ok hs)) (star_ok hs)).imp fun σ H R ⟨S, F, am, h, r, q⟩ => ?_
  simp only [evI] at q
  refine ⟨S, F, am, h, r, q.bind r.sto.inF fun d h1 F1 am1 H1 _ e1 s1 q1 v rv => ?_⟩
  cases d <;> first | exact q1.elim | skip
  cases rv
  obtain ⟨xs, e2, q2⟩ := liftI q1 s1
  obtain ⟨b1, b2, b3, b4⟩ := rng_bound e2
  refine ⟨_, rfl, b3, b4, ?_⟩
  have := q2 _ (wk_rng e2)
  simpa using this
theorem i_rng2 {tg x y : Expr} {a b : E} {p p2 : Pos} (ok : Ok z X N G sc hot) (hg : gl sc "range" = true) (hb : isTy G "range" "range" = true) (hs : noStar x = true) (hs2 : noStar y = true) (ha : PE X x (tE z a)) (hb' : PE X y (tE z b)) : PI X tg (.Call (.Name "range" p) [x, y] [] p2) (tI z (.rng2 a b)) := by
  obtain ⟨g1, g2, g3⟩ := gl_ok ok hg
  refine (pi_range2 g1 (ty_at ok hb).1 (pa_cons ha (pa_cons hb' pa_nil (star_ok hs2)) (star_ok hs)) (by rw [star_ok hs, star_ok hs2]; rfl) (by rw [star_ok hs2]; rfl)).imp fun σ H R ⟨S, F, am, h, r, q⟩ => ?_
  simp only [evI] at q
  refine ⟨S, F, am, h, r, q.bind r.sto.inF fun d h1 F1 am1 H1 _ e1 s1 q1 v rv => ⟨S, F1, am1, h1, r.to e1 s1, q1.bind s1.inF fun e h2 F2 am2 H2 _ e2 s2 q2 u ru => ?_⟩⟩
  cases d <;> first | exact q2.elim | skip
  cases e <;> first | exact q2.elim | skip
  cases rv
  cases ru
  obtain ⟨xs, e3, q3⟩ := liftI q2 s2
  obtain ⟨b1, b2, b3, b4⟩ := rng_bound e3
  exact ⟨_, _, rfl, ⟨b1, b2, b3, b4⟩, q3 _ (wk_rng e3)⟩
theorem i_enum {es : List Expr} {k : Nat} {tp : Pos} {x : Expr} {a : E} {p p2 : Pos} (ok : Ok z X N G sc hot) (hg : gl sc "enumerate" = true) (hb : isTy G "enumerate" "enumerate" = true) (hs : noStar x = true) (ha : PE X x (tE z a)) : PI X (.Tuple es k tp) (.Call (.Name "enumerate" p) [x] [] p2) (tI z (.enum a)) := by
  obtain ⟨g1, g2, g3⟩ := gl_ok ok hg
  refine (pi_enumA g1 (ty_at ok hb).1 (pa_cons ha pa_nil (star_ok hs)) (star_ok hs)).imp fun σ H R ⟨S, F, am, h, r, q⟩ => ?_
  simp only [evI] at q
  refine ⟨S, F, am, h, r, q.bind r.sto.inF fun d h1 F1 am1 H1 _ e1 s1 q1 v rv => ?_⟩
  cases d <;> first | exact q1.elim | skip
  all_goals cases rv
  all_goals rename_i g n k
  · exact ⟨_, _, rfl, .inr ⟨SqT.of g, SatR.now q1 s1 _ (wk_enumT s1.inF k (keepT s1.inF g n))⟩⟩
  · exact ⟨_, _, rfl, .inl ⟨SqL.of g, SatR.now q1 s1 _ (wk_enum s1.inF k (keepL s1.inF g n))⟩⟩
theorem i_zip {es : List Expr} {k : Nat} {tp : Pos} {x y : Expr} {a b : E} {p p2 : Pos} (ok : Ok z X N G sc hot) (hg : gl sc "zip" = true) (hb : isTy G "zip" "zip" = true) (hs : noStar x = true) (hs2 : noStar y = true) (ha : PE X x (tE z a)) (hb' : PE X y (tE z b)) : PI X (.Tuple es k tp) (.Call (.Name "zip" p) [x, y] [] p2) (tI z (.zip2 a b)) := by
  obtain ⟨g1, g2, g3⟩ := gl_ok ok hg
  refine (RZ.pi_zipA g1 (ty_at ok hb).1 (pa_cons ha (pa_cons hb' pa_nil (star_ok hs2)) (star_ok hs)) (by rw [star_ok hs]) (by rw [star_ok hs2]; rfl)).imp fun σ H R ⟨S, F, am, h, r, q⟩ => ?_
  simp only [evI] at q
  refine ⟨S, F, am, h, r, q.bind r.sto.inF fun d h1 F1 am1 H1 _ e1 s1 q1 v rv => ⟨S, F1, am1, h1, r.to e1 s1, q1.bind s1.inF fun e h2 F2 am2 H2 _ e2 s2 q2 u ru => ?_⟩⟩
  have rv := rv.ext e2 s1.inF
  cases d <;> first | exact q2.elim | skip
  · cases e <;> first | exact q2.elim | skip
    cases rv with
    | tup g n k =>
      cases ru with
      | tup g' n' k' => exact ⟨_, _, _, _, rfl, .inr ⟨SqT.of g, SqT.of g', SatR.now q2 s2 _ (wk_zipT s2.inF k k' (keepT s2.inF g n) (keepT s2.inF g' n'))⟩⟩
  · cases e <;> first | exact q2.elim | skip
    cases rv with
    | lst g n k =>
      cases ru with
      | lst g' n' k' => exact ⟨_, _, _, _, rfl, .inl ⟨SqL.of g, SqL.of g', SatR.now q2 s2 _ (wk_zipL s2.inF k k' (keepL s2.inF g n) (keepL s2.inF g' n'))⟩⟩
theorem fold_ok {x : Expr} {env : Env} (h : noSet x = true) : ∀ v, foldedSetIterable x env v = pure v := by
  intro v
  cases x <;> first | rfl | cases h
end
end Ci

set_option Elab.async false
set_option linter.all false
set_option maxRecDepth 100000
set_option maxHeartbeats 4000000
namespace Ci
open PySem PySem.Spec PyProof.Rows L2
/-! ### comprehensions -/
theorem compF_G (turn : D → Hs → R (Option D)) (xs : List D) : ∀ (k i : Nat) (h : Hs), xs.length < i + k → i ≤ xs.length → compF turn (xs.drop i) h = compG turn (.fix xs) k i h
  | 0, i, h, h1, h2 => by omega
  | k + 1, i, h, h1, h2 => by
    unfold compG
    simp only [itm]
    by_cases hl : i < xs.length
    · rw [List.drop_eq_getElem_cons hl, List.getElem?_eq_getElem hl]
      simp only [compF]
      congr 1
      funext o h3
      rw [compF_G turn xs k (i + 1) h3 (by omega) (by omega)]
    · have e : i = xs.length := by omega
      subst e
      rw [List.drop_length, List.getElem?_eq_none (Nat.le_refl _)]
      rfl
section
variable {c : Rc} {F F1 : Addr → Prop} {am am1 : List Addr} {H H1 : Hp} {h : Hs} {d : D} {v : V} {ds : List D} {vs : List V} {p : Addr} {o : HO}
mutual
theorem RD.poke (k : F p) : ∀ {d : D} {v : V}, RD c F am H d v → RD c F am (upd H p o) d v
  | _, _, .non => .non
  | _, _, .bl b => .bl b
  | _, _, .int b => .int b
  | _, _, .str b => .str b
  | _, _, .tup r n l => .tup (by rw [upd_ne (fun e => n (by rw [e]; exact k))]; exact r) n (RDs.poke k l)
  | _, _, .lst r n l => .lst (by rw [upd_ne (fun e => n (by rw [e]; exact k))]; exact r) n (RDs.poke k l)
  | _, _, .scr r n l => .scr (by rw [upd_ne (fun e => n (by rw [e]; exact k))]; exact r) n (RDs.poke k l)
  | _, _, .scrK r l => .scrK r (RDs.poke k l)
  | _, _, .ref q => .ref q
  | _, _, .fn q => .fn q
  | _, _, .exc a b r n => .exc a b (by rw [upd_ne (fun e => n (by rw [e]; exact k))]; exact r) n
theorem RDs.poke (k : F p) : ∀ {ds : List D} {vs : List V}, RDs c F am H ds vs → RDs c F am (upd H p o) ds vs
  | _, _, .nil => .nil
  | _, _, .cons r l => .cons (RD.poke k r) (RDs.poke k l)
end
theorem Sto.poke (s : Sto c F am H h) (k : F p) (n : p ∉ am) : Sto c F am (upd H p o) h :=
  ⟨s.nd, s.len, s.inF, fun a q => by
    by_cases e : a = p
    · subst e; exact ⟨_, upd_same⟩
    · rw [upd_ne e]; exact s.ok a q, fun i a u q1 q2 => by
    have q := s.obj i a u q1 q2
    cases u with
    | lst es =>
      obtain ⟨xs, q3, q4⟩ := q
      exact ⟨xs, by rw [upd_ne (fun e => n (by rw [← e]; exact List.mem_of_getElem? q1))]; exact q3, q4.poke k⟩
    | dct es =>
      obtain ⟨xs, q3, qk, q4⟩ := q
      exact ⟨xs, by rw [upd_ne (fun e => n (by rw [← e]; exact List.mem_of_getElem? q1))]; exact q3, qk, q4.poke k⟩⟩
theorem Rel.poke {S : Sl} {σ : SV} (r : Rel c F am H h S σ) (k : F p) (n : p ∉ am) : Rel c F am (upd H p o) h S σ :=
  ⟨r.sto.poke k n, r.len, fun i d q => let ⟨v, h1, h2⟩ := r.sl i d q; ⟨v, h1, h2.poke k⟩⟩
theorem Ext.poke (e : Ext F am H F1 am1 H1) (n : H p = none) : Ext F am H F1 am1 (upd H1 p o) :=
  ⟨e.pre, fun a u q m => by rw [upd_ne (ne_of_none q n)]; exact e.keep a u q m, e.fr, e.up, e.nw⟩
theorem wipe_key {σ : SV} {i : Nat} {x : Option V} : ∀ {ws : List Nat}, i ∉ ws → L2.wipe (σ.set i x) ws = (L2.wipe σ ws).set i x
  | [], _ => rfl
  | w :: ws, hn => by
    simp only [List.mem_cons, not_or] at hn
    show (L2.wipe (σ.set i x) ws).set w none = ((L2.wipe σ ws).set w none).set i x
    rw [wipe_key hn.2, List.set_comm _ _ hn.1]
theorem wipe_set {σ : SV} {i : Nat} {x : Option V} {vs : List Nat} (h : i ∈ vs) : L2.wipe (σ.set i x) vs = L2.wipe σ vs := wipe_at σ h
theorem wipe_sub {σ : SV} {vs : List Nat} : ∀ {ws : List Nat}, (∀ i ∈ ws, i ∈ vs) → L2.wipe (L2.wipe σ ws) vs = L2.wipe σ vs
  | [], _ => rfl
  | w :: ws, h => by
    show L2.wipe ((L2.wipe σ ws).set w none) vs = L2.wipe σ vs
    rw [wipe_at _ (h w (by simp)), wipe_sub fun i hi => h i (by simp [hi])]
end
/-- no exception may leave -/
def Si.mute (z : Si) : Si := { z with W := fun _ _ _ _ => False }
section
variable {z : Si} {X : Cx} {N : List Str} {G : GT} {sc : Scope} {hot : Bool}
theorem SatL.noX {α β : Type} {σ σ2 : SV} {F F2 : Addr → Prop} {am am2 : List Addr} {H H2 : Hp} {Q : VK} {r : R α} {g : α → Hs → R β} {f : β → Hs → R (List D)} (q : SatL z σ F am H ((noX (r.bind g)).bind f) Q) :
    SatR z.mute σ2 F2 am2 H2 r (fun a h1 _ _ _ => SatL z σ F am H ((Ci.noX (g a h1)).bind f) Q) := by
  cases r with
  | ok a h => exact fun _ _ _ _ _ => q
  | exc c v h => exact q.elim
  | bad => exact q.elim
/-- the block's tests -/
def tCond (z : Si) (cond : E) : TT := if cond.isOmit then tYes else tB z cond
theorem lc_at {elt : E} {own : List Nat} {tg : Tg} {cond : E} {σ : SV} {Q : VK} {S : Sl} {F1 : Addr → Prop} {am1 : List Addr} {H1 : Hp} {h1 : Hs} {src : Src} {J : L2.It} (hown : ∀ i ∈ tgIx tg, i ∈ own) (r0 : Rel z.rc F1 am1 H1 h1 S σ) (w : Wk z.rc src F1 am1 H1 J)
    (q1 : SatL z σ F1 am1 H1 (match (generalizing := false) src with
      | .fix xs => if okL xs.length then compF (fun (x : D) (h2 : Hs) => match put (wipe S own) x tg with
      | some S2 => noX ((if cond.isOmit then (.ok true h2 : R Bool) else tru (ev z.sub z.call cond S2 h2)).bind fun k h3 => if k then (ev z.sub z.call elt S2 h3).bind fun y h4 => .ok (some y) h4 else .ok none h3)
      | none => (.bad : R (Option D))) xs h1 else .bad
      | .dyn n => compG (fun (x : D) (h2 : Hs) => match put (wipe S own) x tg with
      | some S2 => noX ((if cond.isOmit then (.ok true h2 : R Bool) else tru (ev z.sub z.call cond S2 h2)).bind fun k h3 => if k then (ev z.sub z.call elt S2 h3).bind fun y h4 => .ok (some y) h4 else .ok none h3)
      | none => (.bad : R (Option D))) (.dyn n) wfuel 0 h1) Q) (p : Addr) (hp : H1 p = none) :
    ∃ W : Nat → Nat → Hp → Prop, (∃ m, W 0 m (upd H1 p (.lst []))) ∧ ∀ i m H, W i m H →
  (J.stop i H ∧ Q (.ref p) H) ∨ (J.go i H ∧ ∃ Nx : Hp → Prop, (∀ H', Nx H' → ∃ m', m' < m ∧ W (i + 1) m' H') ∧ ∀ x H', J.yld i H x H' → tG z.mute tg x (L2.wipe σ own) H' fun σ2 H2 => L2.wipe σ2 own = L2.wipe σ own ∧ tCond z.mute cond σ2 H2 fun b H3 =>
    if b = true then tE z.mute elt σ2 H3 fun y H4 => ∃ acc, H4 p = some (.lst acc) ∧ acc.length < sizeLine ∧ Nx (upd H4 p (.lst (acc ++ [y]))) else Nx H3) := by
  have s1 := r0.sto
  have r1 := r0.wiped own
  obtain ⟨e2, s2, np⟩ := s1.guard hp []
  have r2 := r1.to e2 s2
  generalize hturn : (fun (x : D) (h2 : Hs) => match put (wipe S own) x tg with
      | some S2 => noX ((if cond.isOmit then (.ok true h2 : R Bool) else tru (ev z.sub z.call cond S2 h2)).bind fun k h3 => if k then (ev z.sub z.call elt S2 h3).bind fun y h4 => .ok (some y) h4 else .ok none h3)
      | none => (.bad : R (Option D))) = turn at q1
  -- one form for both sources
  have q2 : ∃ k, k ≤ sizeLine + 1 ∧ SatL z σ F1 am1 H1 (compG turn src k 0 h1) Q := by
    cases src with
    | fix xs =>
      simp only at q1
      split at q1
      · rename_i hl
        refine ⟨xs.length + 1, Nat.succ_le_succ (okL_le hl), ?_⟩
        rw [← compF_G turn xs (xs.length + 1) 0 h1 (by omega) (Nat.zero_le _)]
        exact q1
      · exact q1.elim
    | dyn n => exact ⟨wfuel, by decide, q1⟩
  obtain ⟨k0, hk0, q2⟩ := q2
  refine ⟨fun i m H' => ∃ F' am' h' acc accV, Ext F1 am1 H1 F' am' H' ∧ Rel z.rc F' am' H' h' (wipe S own) (L2.wipe σ own) ∧ F' p ∧ p ∉ am' ∧ H' p = some (.lst accV) ∧ RDs z.rc F' am' H' acc accV ∧ acc.length + m ≤ sizeLine + 1 ∧
      SatL z σ F1 am1 H1 ((compG turn src m i h').bind fun ys h2 => .ok (acc ++ ys) h2) Q, ⟨k0, _, am1, h1, [], [], e2, r2, .inr rfl, np, upd_same, .nil, by simpa using hk0, ?_⟩, ?_⟩
  · have : ((compG turn src k0 0 h1).bind fun ys h2 => R.ok ([] ++ ys) h2) = compG turn src k0 0 h1 := by
      cases compG turn src k0 0 h1 <;> rfl
    rw [this]; exact q2
  · intro i m H' ⟨F', am', h', acc, accV, e3, r3, fp, np3, hD, kD, hm, q3⟩
    cases m with
    | zero => exact q3.elim
    | succ k =>
      unfold compG at q3
      obtain ⟨w1, w2⟩ := w F' am' H' h' e3 r3.sto i
      cases hi : itm src h' i with
      | none =>
        rw [hi] at q3
        have q3 : SatL z σ F1 am1 H1 ((if srcOk src h' = true then .ok [] h' else .bad : Ci.R (List D)).bind fun ys h2 => .ok (acc ++ ys) h2) Q := q3
        cases hb : srcOk src h' with
        | false => rw [hb] at q3; exact q3.elim
        | true =>
          rw [hb] at q3
          refine .inl ⟨w2 hi hb, ?_⟩
          exact q3 F' am' H' p accV e3 r3.sto hD (by simpa using kD) fp np3 hp
      | some x =>
        rw [hi] at q3
        obtain ⟨g1, g2⟩ := w1 x hi
        refine .inr ⟨g1, _, fun H'' nx => ⟨k, Nat.lt_succ_self _, nx⟩, fun x' H'' y => ?_⟩
        obtain ⟨F4, am4, e4, s4, rx⟩ := g2 x' H'' y
        have r4 := r3.to e4 s4
        have e34 := e3.trans e4 s1.inF
        -- the list at p, some steps on
        have keep : ∀ {F5 am5 H5}, Ext F' am' H' F5 am5 H5 → H5 p = some (.lst accV) ∧ p ∉ am5 ∧ F5 p ∧ RDs z.rc F5 am5 H5 acc accV := fun {F5 am5 H5} e => by
          refine ⟨e.keep _ _ hD np3, fun hm' => ?_, e.up p fp, kD.ext e r3.sto.inF⟩
          have := e.nw p hm' np3
          rw [hD] at this; cases this
        have q3 : SatL z σ F1 am1 H1 (((turn x h').bind fun o h1 => (compG turn src k (i + 1) h1).bind fun ys h2 => match o with
            | some y => .ok (y :: ys) h2
            | none => .ok ys h2).bind fun ys h2 => .ok (acc ++ ys) h2) Q := q3
        have assoc : ∀ r : R (Option D), ((r.bind fun o h1 => (compG turn src k (i + 1) h1).bind fun ys h2 => match o with
            | some y => R.ok (y :: ys) h2
            | none => R.ok ys h2).bind fun ys h2 => R.ok (acc ++ ys) h2) = r.bind fun o h1 => (compG turn src k (i + 1) h1).bind fun ys h2 => R.ok (acc ++ (match o with | some y => [y] | none => []) ++ ys) h2 := by
          intro r
          cases r with
          | ok o h1 =>
            show ((compG turn src k (i + 1) h1).bind _).bind _ = (compG turn src k (i + 1) h1).bind _
            cases compG turn src k (i + 1) h1 with
            | ok ys h2 =>
              cases o with
              | none => simp [R.bind]
              | some y => simp [R.bind]
            | exc c v h => rfl
            | bad => rfl
          | exc c v h => rfl
          | bad => rfl
        rw [assoc] at q3
        rw [← hturn] at q3
        simp only at q3
        cases hput : put (wipe S own) x tg with
        | none => rw [hput] at q3; exact q3.elim
        | some S2 =>
          rw [hput] at q3
          rw [hturn] at q3
          refine ⟨_, F4, am4, h', x, S2, r4, rx, hput, fun σ2 rσ sb => ⟨?_, ?_⟩⟩
          · rw [sb own hown, wipe_sub fun i hi => hi]
          · -- the test, then the element
            have fin : ∀ b h3 F5 am5 H5, Ext F4 am4 H'' F5 am5 H5 → Sto z.rc F5 am5 H5 h3 →
                SatL z σ F1 am1 H1 ((noX (if b = true then (ev z.sub z.call elt S2 h3).bind fun y h4 => R.ok (some y) h4 else R.ok none h3)).bind fun o h1 => (compG turn src k (i + 1) h1).bind fun ys h2 => R.ok (acc ++ (match o with | some y => [y] | none => []) ++ ys) h2) Q →
                (if b = true then tE z.mute elt σ2 H5 fun y H4 => ∃ acc, H4 p = some (.lst acc) ∧ acc.length < sizeLine ∧ (∃ F' am' h' acc' accV, Ext F1 am1 H1 F' am' (upd H4 p (.lst (acc ++ [y]))) ∧ Rel z.rc F' am' (upd H4 p (.lst (acc ++ [y]))) h' (wipe S own) (L2.wipe σ own) ∧ F' p ∧ p ∉ am' ∧ (upd H4 p (.lst (acc ++ [y]))) p = some (.lst accV) ∧ RDs z.rc F' am' (upd H4 p (.lst (acc ++ [y]))) acc' accV ∧ acc'.length + k ≤ sizeLine + 1 ∧
                    SatL z σ F1 am1 H1 ((compG turn src k (i + 1) h').bind fun ys h2 => .ok (acc' ++ ys) h2) Q)
                  else (∃ F' am' h' acc' accV, Ext F1 am1 H1 F' am' H5 ∧ Rel z.rc F' am' H5 h' (wipe S own) (L2.wipe σ own) ∧ F' p ∧ p ∉ am' ∧ H5 p = some (.lst accV) ∧ RDs z.rc F' am' H5 acc' accV ∧ acc'.length + k ≤ sizeLine + 1 ∧
                    SatL z σ F1 am1 H1 ((compG turn src k (i + 1) h').bind fun ys h2 => .ok (acc' ++ ys) h2) Q)) := by
              intro b h3 F5 am5 H5 e5 s5 q5
              cases b with
              | false =>
                rw [if_neg Bool.false_ne_true] at q5 ⊢
                obtain ⟨k1, k2, k3, k4⟩ := keep (e4.trans e5 r3.sto.inF)
                have q5 : SatL z σ F1 am1 H1 ((compG turn src k (i + 1) h3).bind fun ys h2 => R.ok (acc ++ [] ++ ys) h2) Q := q5
                rw [List.append_nil] at q5
                exact ⟨F5, am5, h3, acc, accV, e34.trans e5 s1.inF, r4.to e5 s5, k3, k2, k1, k4, by omega, q5⟩
              | true =>
                rw [if_pos rfl] at q5 ⊢
                refine ⟨S2, F5, am5, h3, rσ.to e5 s5, (SatL.noX q5).mono fun y h6 F6 am6 H6 _ e6 s6 q6 u ru => ?_⟩
                have q6 : SatL z σ F1 am1 H1 ((compG turn src k (i + 1) h6).bind fun ys h2 => R.ok (acc ++ [y] ++ ys) h2) Q := q6
                obtain ⟨k1, k2, k3, k4⟩ := keep ((e4.trans e5 r3.sto.inF).trans e6 r3.sto.inF)
                have hk : 1 ≤ k := by
                  cases k with
                  | zero => exact q6.elim
                  | succ k => omega
                refine ⟨accV, k1, by rw [← kD.length]; omega, F6, am6, h6, acc ++ [y], accV ++ [u], ((e34.trans e5 s1.inF).trans e6 s1.inF).poke hp, ((r4.to e5 s5).to e6 s6).poke k3 k2, k3, k2, upd_same, (k4.append (.cons ru .nil)).poke k3, ?_, q6⟩
                simp only [List.length_append, List.length_singleton]; omega
            unfold tCond
            cases ho : cond.isOmit with
            | true =>
              rw [if_pos rfl]
              rw [ho] at q3
              exact fin true h' F4 am4 H'' .refl s4 q3
            | false =>
              rw [if_neg Bool.false_ne_true]
              rw [ho] at q3
              have q3 : SatL z σ F1 am1 H1 ((noX ((tru (ev z.sub z.call cond S2 h')).bind fun k h3 => if k then (ev z.sub z.call elt S2 h3).bind fun y h4 => .ok (some y) h4 else .ok none h3)).bind _) Q := q3
              exact ⟨S2, F4, am4, h', rσ, (SatL.noX q3).mono fun b h3 F5 am5 H5 _ e5 s5 q5 => fin b h3 F5 am5 H5 e5 s5 q5⟩
theorem lc_sim {elt : E} {own : List Nat} {tg : Tg} {it : It} {cond : E} {σ : SV} {H : Hp} {Q : VK} (hown : ∀ i ∈ tgIx tg, i ∈ own) (q : tL z (.comp elt own tg it cond) σ H Q) :
    tLc (tI z it) (tG z.mute tg) (tCond z.mute cond) (tE z.mute elt) own σ H Q := by
  obtain ⟨S, F, am, hs, r, q⟩ := q
  simp only [evL] at q
  exact ⟨S, F, am, hs, r, (SatL.bind r.sto q).mono fun src h1 F1 am1 H1 _ e1 s1 q1 J w p hp => lc_at hown (r.to e1 s1) w q1 p hp⟩
theorem Ok.blk (ok : Ok z X N G sc false) (s : Shared) (H : Hp) (C : Addr) (cl : List (Str × Addr)) (fp : List Addr) (sc' : Scope) : Ok z.mute (X.blk s H sc' (compEnvC sc' cl C X.env) fp) N G (relS sc' sc) false where
  hK := ok.hK
  hrK := ok.hrK
  hN := ok.hN
  nd := ok.nd
  hsc := by rw [← ok.hsc]; rfl
  calm := fun h => ok.calm h
  un := ok.un
  tk := fun u s' ⟨a, B, sI, pins, σ, H, cls, d, e, I, nb, up, sky, na, os, ag, w⟩ => w.elim
  g := ok.g
  dp := ok.dp
  su := ok.su
  hx := fun x e => by
    have e : z.rc.hx = some x := e
    rw [(ok.cf rfl).1] at e; cases e
  cf := fun h => ok.cf h
end
end Ci

set_option Elab.async false
set_option linter.all false
set_option maxRecDepth 100000
set_option maxHeartbeats 4000000
namespace Ci
open PySem PySem.Spec PyProof.Rows L2
/-! ### comprehensions over a dict's keys, or over a changing list and its places: the thing and all laid later are out of sight -/
section
variable {c : Rc} {F F1 F2 : Addr → Prop} {am am1 am2 : List Addr} {H H1 H2 : Hp} {h h2 : Hs} {n : Nat} {a : Addr} {S : Sl} {σ : SV}
theorem take_at {α : Type} {l : List α} {n i : Nat} {x : α} (q : (l.take n)[i]? = some x) : i < n ∧ l[i]? = some x := by
  rw [List.getElem?_take] at q
  split at q
  · exact ⟨by assumption, q⟩
  · cases q
theorem at_take {α : Type} {l : List α} {n i : Nat} {x : α} (hi : i < n) (q : l[i]? = some x) : (l.take n)[i]? = some x := by
  rw [List.getElem?_take, if_pos hi]; exact q
theorem nd_inj {l : List Addr} (nd : l.Nodup) {i j : Nat} {a : Addr} (h1 : l[i]? = some a) (h2 : l[j]? = some a) : i = j := (List.getElem?_inj (List.getElem?_eq_some_iff.mp h1).1 nd).1 (h1.trans h2.symm)
theorem Sto.cut (s : Sto c F am H h) (n : Nat) (cl : (h.take n).all O.clear = true) : Sto c F (am.take n) H (h.take n) :=
  ⟨s.nd.sublist (List.take_sublist _ _), by rw [List.length_take, List.length_take, s.len], fun a hm => s.inF a (List.mem_of_mem_take hm), s.ok, fun i a o q1 q2 => by
    have k := s.obj i a o (take_at q1).2 (take_at q2).2
    have co : o.clear = true := List.all_eq_true.1 cl o (List.mem_of_getElem? q2)
    cases o with
    | lst es =>
      obtain ⟨xs, e, k⟩ := k
      exact ⟨xs, e, k.clr (fun _ q => q) co⟩
    | dct es =>
      obtain ⟨xs, e, ek, k⟩ := k
      exact ⟨xs, e, ek, k.clr (fun _ q => q) co⟩⟩
theorem Rel.cut (r : Rel c F am H h S σ) (n : Nat) (cl : (h.take n).all O.clear = true) : Rel c F (am.take n) H (h.take n) (cutS n S) σ :=
  ⟨r.sto.cut n cl, by rw [cutS, List.length_map]; exact r.len, fun i d q => by
    rw [cutS, List.getElem?_map, Option.map_eq_some_iff] at q
    obtain ⟨o, q1, q2⟩ := q
    cases o with
    | none => cases q2
    | some d0 =>
      obtain ⟨v, e1, e2⟩ := r.sl i d0 q1
      by_cases hr : ∃ m, d0 = .ref m
      · obtain ⟨m, rfl⟩ := hr
        have q2 : (if m < n then some (D.ref m) else none) = some d := q2
        split at q2
        · cases q2
          rename_i hm
          cases e2 with
          | ref g => exact ⟨_, e1, .ref (at_take hm g)⟩
        · cases q2
      · have q2 : (if d0.clear then some d0 else none) = some d := by
          cases d0 <;> first | exact q2 | exact absurd ⟨_, rfl⟩ hr
        split at q2
        · cases q2
          rename_i hc
          exact ⟨v, e1, e2.clr (fun _ q => q) hc⟩
        · cases q2⟩
theorem not_take (s : Sto c F am H h) (q : am[n]? = some a) : a ∉ am.take n := fun m => by
  obtain ⟨i, hi⟩ := List.mem_iff_getElem?.1 m
  obtain ⟨h1, h2⟩ := take_at hi
  have := nd_inj s.nd h2 q
  omega
end
section
variable {z : Si} {F : Addr → Prop} {am : List Addr} {H : Hp} {h : Hs} {n : Nat} {d : Addr} {u o' : HO} {σ : SV} {Q : VK}
theorem satL_cut {r : R (List D)} (s : Sto z.rc F am H h) (g : am[n]? = some d) (hd : H d = some u)
    (q : SatL z σ F am H ((Ci.noX r).bind fun ys h2 => if h2.length = n then .ok ys (h2 ++ h.drop n) else .bad) Q) :
    SatL z σ F (am.take n) (upd H d o') r (fun v H' => H' d = some o' ∧ Q v (upd H' d u)) := by
  cases r with
  | bad => exact q
  | exc c v h1 => exact q.elim
  | ok ys h2 =>
    have q : SatL z σ F am H (if h2.length = n then .ok ys (h2 ++ h.drop n) else .bad) Q := q
    by_cases hl : h2.length = n
    rotate_left
    · rw [if_neg hl] at q; exact q.elim
    rw [if_pos hl] at q
    intro F2 am2 H2 p vs e2 s2 hp k fp np hn
    have dF : F d := s.inF d (List.mem_of_getElem? g)
    have dn : d ∉ am.take n := not_take s g
    have ln : n < am.length := (List.getElem?_eq_some_iff.mp g).1
    have ea : am2 = am.take n := by
      obtain ⟨t, et⟩ := e2.pre
      have l := s2.len
      rw [hl, et, List.length_append, List.length_take] at l
      have : t = [] := List.eq_nil_of_length_eq_zero (by omega)
      rw [et, this, List.append_nil]
    subst ea
    have kd : H2 d = some o' := e2.keep d o' upd_same dn
    have apart : am.take n ++ am.drop n = am := List.take_append_drop n am
    have ne : ∀ i b, i ≠ n → am[i]? = some b → b ≠ d := fun i b hi q e => by
      subst e
      exact hi (nd_inj s.nd q g)
    have ext : Ext F am H F2 am (upd H2 d u) := ⟨⟨[], by simp⟩, fun b o qb nb => by
        have bd : b ≠ d := fun e => nb (e ▸ List.mem_of_getElem? g)
        rw [upd_ne bd]
        exact e2.keep b o (by rw [upd_ne bd]; exact qb) fun m => nb (List.mem_of_mem_take m), fun b o qb nF => by
        have bd : b ≠ d := fun e => nF (e ▸ dF)
        exact e2.fr b o (by rw [upd_ne bd]; exact qb) nF, e2.up, fun b m nb => absurd m nb⟩
    have rel : ∀ {ds : List D} {vs : List V}, RDs z.rc F2 (am.take n) H2 ds vs → RDs z.rc F2 am (upd H2 d u) ds vs := fun k => by
      have := (k.more (am.drop n)).poke (o := u) (e2.up d dF)
      rw [apart] at this
      exact this
    have sto : Sto z.rc F2 am (upd H2 d u) (h2 ++ h.drop n) := by
      refine ⟨s.nd, ?_, fun b m => e2.up b (s.inF b m), fun b fb => ?_, fun i b o q1 q2 => ?_⟩
      · have := s.len
        rw [List.length_append, List.length_drop, hl]; omega
      · by_cases e : b = d
        · subst e; exact ⟨u, upd_same⟩
        · rw [upd_ne e]; exact s2.ok b fb
      · by_cases hi : i < n
        · rw [List.getElem?_append_left (by omega)] at q2
          have k := s2.obj i b o (at_take hi q1) q2
          have bd := ne i b (by omega) q1
          cases o with
          | lst es => obtain ⟨xs, e, k⟩ := k; exact ⟨xs, by rw [upd_ne bd]; exact e, rel k⟩
          | dct es => obtain ⟨xs, e, ek, k⟩ := k; exact ⟨xs, by rw [upd_ne bd]; exact e, ek, rel k⟩
        · rw [List.getElem?_append_right (by omega), hl, List.getElem?_drop] at q2
          have q2 : h[i]? = some o := by rw [← q2]; congr 1; omega
          have k := s.obj i b o q1 q2
          by_cases e : i = n
          · subst e
            rw [g] at q1
            cases q1
            rw [hd] at k
            cases o with
            | lst es => obtain ⟨xs, e, k⟩ := k; exact ⟨xs, by rw [upd_same]; exact e, k.ext ext s.inF⟩
            | dct es => obtain ⟨xs, e, ek, k⟩ := k; exact ⟨xs, by rw [upd_same]; exact e, ek, k.ext ext s.inF⟩
          · have bd := ne i b e q1
            have nt : b ∉ am.take n := fun m => by
              obtain ⟨j, hj⟩ := List.mem_iff_getElem?.1 m
              obtain ⟨h1, h2⟩ := take_at hj
              have := nd_inj s.nd h2 q1
              omega
            have kp : ∀ o2, H b = some o2 → H2 b = some o2 := fun o2 e => e2.keep b o2 (by rw [upd_ne bd]; exact e) nt
            cases o with
            | lst es => obtain ⟨xs, e, k⟩ := k; exact ⟨xs, by rw [upd_ne bd]; exact kp _ e, k.ext ext s.inF⟩
            | dct es => obtain ⟨xs, e, ek, k⟩ := k; exact ⟨xs, by rw [upd_ne bd]; exact kp _ e, ek, k.ext ext s.inF⟩
    have pd : p ≠ d := fun e => by rw [e, upd_same] at hn; cases hn
    refine ⟨kd, q F2 am (upd H2 d u) p vs ext sto (by rw [upd_ne pd]; exact hp) (rel k) fp (fun m => ?_) (by rw [upd_ne pd] at hn; exact hn)⟩
    obtain ⟨o, e⟩ := s.ok p (s.inF p m)
    rw [upd_ne pd, e] at hn
    cases hn
theorem satL_imp {r : R (List D)} {Q' : VK} (hq : ∀ v H', Q v H' → Q' v H') (q : SatL z σ F am H r Q) : SatL z σ F am H r Q' := by
  cases r with
  | ok ys h2 => exact fun F2 am2 H2 p vs e2 s2 hp k fp np hn => hq _ _ (q F2 am2 H2 p vs e2 s2 hp k fp np hn)
  | exc c v h1 => exact q
  | bad => exact q
theorem wk_keys {kvs : List (Ky × D)} {ws : List (Key × V)} {od : Obj} (e0 : kvs.map (·.1) = ws.map (·.1)) (hd : H d = some (.frz od (.dK ws))) (dn : d ∉ am) : Wk z.rc (.fix (kvs.map fun kv => kyD kv.1)) F am H (Itk d od ws) := by
  intro F1 am1 H1 h1 e s i
  have k := e.keep d _ hd dn
  have ll : kvs.length = ws.length := by
    have := congrArg List.length e0
    simpa using this
  have hi : itm (.fix (kvs.map fun kv => kyD kv.1)) h1 i = (kvs[i]?).map fun kv => kyD kv.1 := by
    simp only [itm, List.getElem?_map]
  rw [hi]
  refine ⟨fun x hx => ?_, fun hn _ => ⟨k, ?_⟩⟩
  · obtain ⟨kv, h2, rfl⟩ := Option.map_eq_some_iff.1 hx
    have li : i < kvs.length := (List.getElem?_eq_some_iff.mp h2).1
    refine ⟨⟨k, by omega⟩, fun x H2 ⟨e2, kk, v, g1, g2⟩ => ?_⟩
    subst e2 g2
    have ek : kv.1 = kk := by
      have := congrArg (·[i]?) e0
      simp only [List.getElem?_map, h2, g1, Option.map_some, Option.some.injEq] at this
      exact this
    subst ek
    refine ⟨F1, am1, .refl, s, ?_⟩
    rcases kv with ⟨k | k, _⟩
    · exact .int k
    · exact .str k
  · rw [Option.map_eq_none_iff, List.getElem?_eq_none_iff] at hn
    omega
end
section
variable {z : Si} {X : Cx} {N : List Str} {G : GT} {sc : Scope}
/-- the one way or the other -/
def LkE (lk : Bool) (t : TE) : TE := match lk with
  | true => tLockE t
  | false => t
def ovT (X : Cx) (e : Bool) (i : Nat) : TI := match e with
  | false => iKeys (tVar i)
  | true => iEnumA X.K (tCons (tVar i) tNil)
theorem cc_sim (e : Bool) {elt : E} {own : List Nat} {tg : Tg} {i : Nat} {cond : E} {σ : SV} {H : Hp} {Q : VK} (hown : ∀ i ∈ tgIx tg, i ∈ own) (q : tL z (.compC e elt own tg i cond) σ H Q) :
    LkE (!e) (tLc (ovT X e i) (tG z.mute tg) (tCond z.mute cond) (tE z.mute elt) own) σ H Q := by
  obtain ⟨S, F, am, hs, r, q⟩ := q
  simp only [evL] at q
  split at q
  rotate_left
  · exact q.elim
  rename_i n hS
  split at q
  rotate_left
  · exact q.elim
  rename_i ks hk
  split at q
  rotate_left
  · exact q.elim
  rename_i hc
  simp only [Bool.and_eq_true] at hc
  obtain ⟨hc1, hc2⟩ := hc
  obtain ⟨v, hv, rv⟩ := r.sl i _ hS
  cases rv with
  | ref g =>
    rename_i d
    rw [Option.bind_eq_some_iff] at hk
    obtain ⟨o, ho, hk⟩ := hk
    have cut : (hs.take n).all O.clear = true := by
      rw [List.all_eq_true] at hc2 ⊢
      exact fun x hx => hc2 x (List.mem_of_mem_take (i := n) (by rw [List.take_take, Nat.min_eq_left (Nat.le_succ n)]; exact hx))
    have co : o.clear = true := List.all_eq_true.1 hc2 o (List.mem_of_getElem? (at_take (Nat.lt_succ_self n) ho))
    have dn := not_take r.sto g
    have dF : F d := r.sto.inF d (List.mem_of_getElem? g)
    have ob := r.sto.obj n d o g ho
    cases e with
    | false =>
      cases o with
      | lst es => cases hk
      | dct kvs =>
        cases hk
        obtain ⟨ws, hd, ek, k⟩ := ob
        refine ⟨d, .dK ws, hd, trivial, fun od => ?_⟩
        refine ⟨.ref d, hv, d, od, rfl, .inl ⟨ws, upd_same, fun p hp => ?_⟩⟩
        refine lc_at (elt := elt) (cond := cond) (Q := fun v H' => H' d = some (.frz od (.dK ws)) ∧ Q v (upd H' d (.dK ws))) (src := .fix _) hown ((r.cut n cut).poke dF dn) (wk_keys ek upd_same dn) ?_ p hp
        simp only [hc1, if_true]
        exact satL_cut r.sto g hd q
    | true =>
      cases o with
      | dct es => cases hk
      | lst xs =>
        cases hk
        obtain ⟨ws, hd, k⟩ := ob
        have q2 := satL_cut (o' := .lst ws) r.sto g hd q
        have same : upd H d (.lst ws) = H := by
          funext b
          by_cases e : b = d
          · subst e; rw [upd_same]; exact hd.symm
          · rw [upd_ne e]
        rw [same] at q2
        refine ⟨.ref d, hv, d, ws, rfl, .inl ⟨SqL.of hd, fun p hp => ?_⟩⟩
        have kk := RDs.clr (am0 := am.take n) (fun _ q => q) k (by simpa only [O.clear] using co)
        refine lc_at (elt := elt) (cond := cond) (Q := Q) (src := .fix _) hown (r.cut n cut) (wk_enum (r.sto.cut n cut).inF kk fun F1 am1 H1 e => SqL.of (e.keep d _ hd dn)) ?_ p hp
        simp only [hc1, if_true]
        refine satL_imp (fun v H' ⟨e1, e2⟩ => ?_) q2
        have : upd H' d (.lst ws) = H' := by
          funext b
          by_cases e : b = d
          · subst e; rw [upd_same]; exact e1.symm
          · rw [upd_ne e]
        rw [this] at e2
        exact e2
end
end Ci

set_option Elab.async false
set_option linter.all false
set_option maxRecDepth 100000
set_option maxHeartbeats 4000000
namespace Ci
open PySem PySem.Spec PyProof.Rows L2
/-! ### dict comprehensions -/
section
variable {z : Si} {F F' F1 F2 : Addr → Prop} {am am' am1 am2 : List Addr} {H H' H1 H2 : Hp} {h h' : Hs} {σ0 : SV} {Q : VK} {p : Addr}
/-- what is wanted behind a dict's pairs -/
def SatP (z : Si) (σ : SV) (F : Addr → Prop) (am : List Addr) (H : Hp) (r : R (List (Ky × D))) (Q : VK) : Prop := match r with
  | .ok ps h => ∀ F' am' H' p ws, Ext F am H F' am' H' → Sto z.rc F' am' H' h → H' p = some (.dK ws) → RKv z.rc F' am' H' (dputs [] ps) ws → F' p → p ∉ am' → H p = none → Q (.ref p) H'
  | .exc c v h => excW z σ F am H c v h
  | .bad => False
theorem SatP.bind {α : Type} {r : R α} {f : α → Hs → R (List (Ky × D))} (rs : Sto z.rc F am H h) (q : SatP z σ0 F am H (r.bind f) Q) : SatR z σ0 F am H r (fun a h1 F1 am1 H1 => SatP z σ0 F1 am1 H1 (f a h1) Q) := by
  cases r with
  | ok a h1 =>
    intro F1 am1 H1 e1 s1
    have q : SatP z σ0 F am H (f a h1) Q := q
    show SatP z σ0 F1 am1 H1 (f a h1) Q
    generalize f a h1 = r2 at q ⊢
    cases r2 with
    | ok ds h2 => exact fun F2 am2 H2 p vs e2 s2 hp k fp np hn => q F2 am2 H2 p vs (e1.trans e2 rs.inF) s2 hp k fp np (e1.none_of rs s1 hn)
    | exc c v h => exact excW.ext e1 rs.inF q
    | bad => exact q
  | exc c v h => exact q
  | bad => exact q
theorem Sto.moreD {c : Rc} {kvs : List (Ky × D)} {ws : List (Key × V)} (s : Sto c F am H h) (hp : H p = some (.dK ws)) (k : RKv c F am H kvs ws) (fp : F p) (np : p ∉ am) : Sto c F (am ++ [p]) H (h ++ [.dct kvs]) := by
  refine ⟨?_, by simp [s.len], fun a hm => ?_, s.ok, fun i a o q1 q2 => ?_⟩
  · rw [List.nodup_append]
    exact ⟨s.nd, by simp, fun a hm b hb => by rw [List.mem_singleton.mp hb]; exact fun e => np (e ▸ hm)⟩
  · rcases List.mem_append.mp hm with m | m
    · exact s.inF a m
    · rw [List.mem_singleton.mp m]; exact fp
  · by_cases hi : i < am.length
    · rw [List.getElem?_append_left hi] at q1
      rw [List.getElem?_append_left (s.len ▸ hi)] at q2
      have q := s.obj i a o q1 q2
      cases o with
      | lst es =>
        obtain ⟨xs, q3, q4⟩ := q
        exact ⟨xs, q3, q4.more _⟩
      | dct es =>
        obtain ⟨xs, q3, qk, q4⟩ := q
        exact ⟨xs, q3, qk, q4.more _⟩
    · have e : i = am.length := by
        have := (List.getElem?_eq_some_iff.mp q1).1
        simp at this; omega
      subst e
      rw [List.getElem?_append_right (Nat.le_refl _), Nat.sub_self] at q1
      rw [s.len, List.getElem?_append_right (Nat.le_refl _), Nat.sub_self] at q2
      simp at q1 q2
      subst q1 q2
      exact ⟨ws, hp, k.1, k.2.more _⟩
/-- the new dict as a changing one -/
theorem md_of {r : R (List (Ky × D))} (rs : Sto z.rc F am H h) (q : SatR z σ0 F am H (r.bind fun ps h1 => .ok (.ref h1.length) (h1 ++ [.dct (dputs [] ps)])) (PostD z Q)) : SatP z σ0 F am H r Q := by
  cases r with
  | ok ds h1 =>
    intro F2 am2 H2 p vs e2 s2 hp k fp np hn
    obtain ⟨t, et⟩ := e2.pre
    have e3 : Ext F am H F2 (am2 ++ [p]) H2 := ⟨⟨t ++ [p], by rw [et, List.append_assoc]⟩, e2.keep, e2.fr, e2.up, fun a hm n => by
      rcases List.mem_append.mp hm with m | m
      · exact e2.nw a m n
      · rw [List.mem_singleton.mp m]; exact hn⟩
    refine q F2 _ H2 e3 (s2.moreD hp k fp np) (.ref p) (.ref ?_)
    rw [← s2.len, List.getElem?_append_right (Nat.le_refl _), Nat.sub_self]; rfl
  | exc c v h => exact q
  | bad => exact q
/-- a new object, guarded -/
theorem Sto.guardO {c : Rc} (o : HO) (s1 : Sto c F am H h) (hp : H p = none) : Ext F am H (fun a => F a ∨ a = p) am (upd H p o) ∧ Sto c (fun a => F a ∨ a = p) am (upd H p o) h ∧ p ∉ am := by
  obtain ⟨_, s2, n2⟩ := s1.laid hp o
  have e3 : Ext F am H (fun a => F a ∨ a = p) am (upd H p o) := ⟨⟨[], by simp⟩, fun a u q _ => by rw [upd_ne (ne_of_none q hp)]; exact q, fun a o q n m => m.elim n (fun e => by rw [e, hp] at q; cases q), fun a q => Or.inl q, fun _ a b => absurd a b⟩
  refine ⟨e3, ⟨s1.nd, s1.len, fun a hm => .inl (s1.inF a hm), fun a q => ?_, fun i a u q1 q2 => ?_⟩, fun hm => n2 (s1.inF p hm)⟩
  · rcases q with q | q
    · obtain ⟨u, q'⟩ := s1.ok a q
      exact ⟨u, by rw [upd_ne (ne_of_none q' hp)]; exact q'⟩
    · exact ⟨_, by rw [q]; exact upd_same⟩
  · have q := s1.obj i a u q1 q2
    cases u with
    | lst ds =>
      obtain ⟨xs, q3, q4⟩ := q
      exact ⟨xs, by rw [upd_ne (ne_of_none q3 hp)]; exact q3, q4.ext e3 s1.inF⟩
    | dct ds =>
      obtain ⟨xs, q3, qk, q4⟩ := q
      exact ⟨xs, by rw [upd_ne (ne_of_none q3 hp)]; exact q3, qk, q4.ext e3 s1.inF⟩
theorem SatP.noX {α β : Type} {σ σ2 : SV} {r : R α} {g : α → Hs → R β} {f : β → Hs → R (List (Ky × D))} (q : SatP z σ F am H ((noX (r.bind g)).bind f) Q) :
    SatR z.mute σ2 F2 am2 H2 r (fun a h1 _ _ _ => SatP z σ F am H ((Ci.noX (g a h1)).bind f) Q) := by
  cases r with
  | ok a h => exact fun _ _ _ _ _ => q
  | exc c v h => exact q.elim
  | bad => exact q.elim
theorem dputs_app : ∀ (ps : List (Ky × D)) (kvs : List (Ky × D)) (k : Ky) (d : D), dputs kvs (ps ++ [(k, d)]) = dput (dputs kvs ps) k d
  | [], _, _, _ => rfl
  | (j, e) :: ps, kvs, k, d => dputs_app ps (dput kvs j e) k d
theorem dputs_len : ∀ (ps : List (Ky × D)) (kvs : List (Ky × D)), (dputs kvs ps).length ≤ kvs.length + ps.length
  | [], kvs => by simp [dputs]
  | (j, e) :: ps, kvs => by
    have h1 := dputs_len ps (dput kvs j e)
    have h2 := dput_len kvs j e
    show (dputs (dput kvs j e) ps).length ≤ _
    simp only [List.length_cons]; omega
theorem RKv.ext {c : Rc} {kvs : List (Ky × D)} {ws : List (Key × V)} (k : RKv c F am H kvs ws) (e : Ext F am H F1 am1 H1) (i0 : ∀ x ∈ am, F x) : RKv c F1 am1 H1 kvs ws := ⟨k.1, k.2.ext e i0⟩
theorem RKv.poke {c : Rc} {o : HO} {kvs : List (Ky × D)} {ws : List (Key × V)} (k : RKv c F am H kvs ws) (f : F p) : RKv c F am (upd H p o) kvs ws := ⟨k.1, k.2.poke f⟩
end
section
variable {z : Si}
/-- a dict comprehension's turn -/
def turnP (z : Si) (k v : E) (own : List Nat) (tg : Tg) (cond : E) (S : Sl) : D → Hs → R (Option (Ky × D)) := fun x h2 => match put (wipe S own) x tg with
      | some S2 => noX ((if cond.isOmit then (.ok true h2 : R Bool) else tru (ev z.sub z.call cond S2 h2)).bind fun c h3 => if c then (ev z.sub z.call k S2 h3).bind fun y h4 => (ev z.sub z.call v S2 h4).bind fun z h5 => kvO y z h5 else .ok none h3)
      | none => .bad
theorem ev_dc {k v : E} {own : List Nat} {tg : Tg} {it : It} {cond : E} {S : Sl} {h : Hs} : ev z.sub z.call (.dc k v own tg it cond) S h = (evI z.sub z.call it S h).bind fun src h1 => (compP (turnP z k v own tg cond S) src wfuel 0 h1).bind fun ps h2 => .ok (.ref h2.length) (h2 ++ [.dct (dputs [] ps)]) := rfl
theorem dc_at {k v : E} {own : List Nat} {tg : Tg} {cond : E} {σ : SV} {Q : VK} {S : Sl} {F1 : Addr → Prop} {am1 : List Addr} {H1 : Hp} {h1 : Hs} {src : Src} {J : L2.It} (hown : ∀ i ∈ tgIx tg, i ∈ own) (r0 : Rel z.rc F1 am1 H1 h1 S σ) (w : Wk z.rc src F1 am1 H1 J)
    (q1 : SatP z σ F1 am1 H1 (compP (turnP z k v own tg cond S) src wfuel 0 h1) Q) (p : Addr) (hp : H1 p = none) :
    ∃ W : Nat → Nat → Hp → Prop, (∃ m, W 0 m (upd H1 p (.dK []))) ∧ ∀ i m H, W i m H →
  (J.stop i H ∧ Q (.ref p) H) ∨ (J.go i H ∧ ∃ Nx : Hp → Prop, (∀ H', Nx H' → ∃ m', m' < m ∧ W (i + 1) m' H') ∧ ∀ x H', J.yld i H x H' → tG z.mute tg x (L2.wipe σ own) H' fun σ2 H2 => L2.wipe σ2 own = L2.wipe σ own ∧ tCond z.mute cond σ2 H2 fun b H3 =>
    if b = true then tE z.mute k σ2 H3 fun y H4 => tE z.mute v σ2 H4 fun u H5 => ∃ kvs kk, y = kV kk ∧ H5 p = some (.dK kvs) ∧ kvs.length < sizeLine ∧ Nx (upd H5 p (.dK (putK kvs kk u))) else Nx H3) := by
  have s1 := r0.sto
  have r1 := r0.wiped own
  obtain ⟨e2, s2, np⟩ := s1.guardO (.dK []) hp
  have r2 := r1.to e2 s2
  generalize hturn : turnP z k v own tg cond S = turn at q1
  refine ⟨fun i m H' => ∃ F' am' h' acc accV, Ext F1 am1 H1 F' am' H' ∧ Rel z.rc F' am' H' h' (wipe S own) (L2.wipe σ own) ∧ F' p ∧ p ∉ am' ∧ H' p = some (.dK accV) ∧ RKv z.rc F' am' H' (dputs [] acc) accV ∧ acc.length + m ≤ wfuel ∧
      SatP z σ F1 am1 H1 ((compP turn src m i h').bind fun ys h2 => .ok (acc ++ ys) h2) Q, ⟨wfuel, _, am1, h1, [], [], e2, r2, .inr rfl, np, upd_same, .nil, by simp, ?_⟩, ?_⟩
  · have : ((compP turn src wfuel 0 h1).bind fun ys h2 => R.ok ([] ++ ys) h2) = compP turn src wfuel 0 h1 := by
      cases compP turn src wfuel 0 h1 <;> rfl
    rw [this]; exact q1
  · intro i m H' ⟨F', am', h', acc, accV, e3, r3, fp, np3, hD, kD, hm, q3⟩
    cases m with
    | zero => exact q3.elim
    | succ n =>
      unfold compP at q3
      obtain ⟨w1, w2⟩ := w F' am' H' h' e3 r3.sto i
      cases hi : itm src h' i with
      | none =>
        rw [hi] at q3
        have q3 : SatP z σ F1 am1 H1 ((if srcOk src h' = true then .ok [] h' else .bad : Ci.R (List (Ky × D))).bind fun ys h2 => .ok (acc ++ ys) h2) Q := q3
        cases hb : srcOk src h' with
        | false => rw [hb] at q3; exact q3.elim
        | true =>
          rw [hb] at q3
          refine .inl ⟨w2 hi hb, ?_⟩
          exact q3 F' am' H' p accV e3 r3.sto hD (by simpa using kD) fp np3 hp
      | some x =>
        rw [hi] at q3
        obtain ⟨g1, g2⟩ := w1 x hi
        refine .inr ⟨g1, _, fun H'' nx => ⟨n, Nat.lt_succ_self _, nx⟩, fun x' H'' y => ?_⟩
        obtain ⟨F4, am4, e4, s4, rx⟩ := g2 x' H'' y
        have r4 := r3.to e4 s4
        have e34 := e3.trans e4 s1.inF
        -- the dict at p, some steps on
        have keep : ∀ {F5 am5 H5}, Ext F' am' H' F5 am5 H5 → H5 p = some (.dK accV) ∧ p ∉ am5 ∧ F5 p ∧ RKv z.rc F5 am5 H5 (dputs [] acc) accV := fun {F5 am5 H5} e => by
          refine ⟨e.keep _ _ hD np3, fun hm' => ?_, e.up p fp, kD.ext e r3.sto.inF⟩
          have := e.nw p hm' np3
          rw [hD] at this; cases this
        have q3 : SatP z σ F1 am1 H1 (((turn x h').bind fun o h1 => (compP turn src n (i + 1) h1).bind fun ys h2 => match o with
            | some y => .ok (y :: ys) h2
            | none => .ok ys h2).bind fun ys h2 => .ok (acc ++ ys) h2) Q := q3
        have assoc : ∀ r : R (Option (Ky × D)), ((r.bind fun o h1 => (compP turn src n (i + 1) h1).bind fun ys h2 => match o with
            | some y => R.ok (y :: ys) h2
            | none => R.ok ys h2).bind fun ys h2 => R.ok (acc ++ ys) h2) = r.bind fun o h1 => (compP turn src n (i + 1) h1).bind fun ys h2 => R.ok (acc ++ (match o with | some y => [y] | none => []) ++ ys) h2 := by
          intro r
          cases r with
          | ok o h1 =>
            show ((compP turn src n (i + 1) h1).bind _).bind _ = (compP turn src n (i + 1) h1).bind _
            cases compP turn src n (i + 1) h1 with
            | ok ys h2 =>
              cases o with
              | none => simp [R.bind]
              | some y => simp [R.bind]
            | exc c v h => rfl
            | bad => rfl
          | exc c v h => rfl
          | bad => rfl
        rw [assoc] at q3
        rw [← hturn] at q3
        simp only [turnP] at q3
        cases hput : put (wipe S own) x tg with
        | none => rw [hput] at q3; exact q3.elim
        | some S2 =>
          rw [hput] at q3
          rw [hturn] at q3
          refine ⟨_, F4, am4, h', x, S2, r4, rx, hput, fun σ2 rσ sb => ⟨?_, ?_⟩⟩
          · rw [sb own hown, wipe_sub fun i hi => hi]
          · have fin : ∀ b h3 F5 am5 H5, Ext F4 am4 H'' F5 am5 H5 → Sto z.rc F5 am5 H5 h3 →
                SatP z σ F1 am1 H1 ((noX (if b = true then (ev z.sub z.call k S2 h3).bind fun y h4 => (ev z.sub z.call v S2 h4).bind fun z h5 => kvO y z h5 else R.ok none h3)).bind fun o h1 => (compP turn src n (i + 1) h1).bind fun ys h2 => R.ok (acc ++ (match o with | some y => [y] | none => []) ++ ys) h2) Q →
                (if b = true then tE z.mute k σ2 H5 fun y H4 => tE z.mute v σ2 H4 fun u H5 => ∃ kvs kk, y = kV kk ∧ H5 p = some (.dK kvs) ∧ kvs.length < sizeLine ∧ (∃ F' am' h' acc' accV, Ext F1 am1 H1 F' am' (upd H5 p (.dK (putK kvs kk u))) ∧ Rel z.rc F' am' (upd H5 p (.dK (putK kvs kk u))) h' (wipe S own) (L2.wipe σ own) ∧ F' p ∧ p ∉ am' ∧ (upd H5 p (.dK (putK kvs kk u))) p = some (.dK accV) ∧ RKv z.rc F' am' (upd H5 p (.dK (putK kvs kk u))) (dputs [] acc') accV ∧ acc'.length + n ≤ wfuel ∧
                    SatP z σ F1 am1 H1 ((compP turn src n (i + 1) h').bind fun ys h2 => .ok (acc' ++ ys) h2) Q)
                  else (∃ F' am' h' acc' accV, Ext F1 am1 H1 F' am' H5 ∧ Rel z.rc F' am' H5 h' (wipe S own) (L2.wipe σ own) ∧ F' p ∧ p ∉ am' ∧ H5 p = some (.dK accV) ∧ RKv z.rc F' am' H5 (dputs [] acc') accV ∧ acc'.length + n ≤ wfuel ∧
                    SatP z σ F1 am1 H1 ((compP turn src n (i + 1) h').bind fun ys h2 => .ok (acc' ++ ys) h2) Q)) := by
              intro b h3 F5 am5 H5 e5 s5 q5
              cases b with
              | false =>
                rw [if_neg Bool.false_ne_true] at q5 ⊢
                obtain ⟨k1, k2, k3, k4⟩ := keep (e4.trans e5 r3.sto.inF)
                have q5 : SatP z σ F1 am1 H1 ((compP turn src n (i + 1) h3).bind fun ys h2 => R.ok (acc ++ [] ++ ys) h2) Q := q5
                rw [List.append_nil] at q5
                exact ⟨F5, am5, h3, acc, accV, e34.trans e5 s1.inF, r4.to e5 s5, k3, k2, k1, k4, by omega, q5⟩
              | true =>
                rw [if_pos rfl] at q5 ⊢
                refine ⟨S2, F5, am5, h3, rσ.to e5 s5, (SatP.noX q5).mono fun y h6 F6 am6 H6 _ e6 s6 q6 yv ry => ?_⟩
                refine ⟨S2, F6, am6, h6, (rσ.to e5 s5).to e6 s6, (SatP.noX q6).mono fun u h7 F7 am7 H7 _ e7 s7 q7 uv ru => ?_⟩
                cases hk : kyOf y with
                | none => rw [show kvO y u h7 = .bad by simp only [kvO, hk]] at q7; exact q7.elim
                | some kk =>
                  rw [show kvO y u h7 = .ok (some (kk, u)) h7 by simp only [kvO, hk]] at q7
                  have q7 : SatP z σ F1 am1 H1 ((compP turn src n (i + 1) h7).bind fun ys h2 => R.ok (acc ++ [(kk, u)] ++ ys) h2) Q := q7
                  obtain ⟨k1, k2, k3, k4⟩ := keep (((e4.trans e5 r3.sto.inF).trans e6 r3.sto.inF).trans e7 r3.sto.inF)
                  have hk1 : 1 ≤ n := by
                    cases n with
                    | zero => exact q7.elim
                    | succ k => omega
                  have hz := dputs_len acc []
                  have hw : wfuel < sizeLine := by decide
                  refine ⟨accV, kk, ky_rel ry hk, k1, by rw [← k4.len]; simp only [List.length_nil] at hz; omega, F7, am7, h7, acc ++ [(kk, u)], putK accV kk uv, (((e34.trans e5 s1.inF).trans e6 s1.inF).trans e7 s1.inF).poke hp, (((r4.to e5 s5).to e6 s6).to e7 s7).poke k3 k2, k3, k2, upd_same, ?_, ?_, q7⟩
                  · rw [dputs_app]
                    exact (k4.put kk ru).poke k3
                  · simp only [List.length_append, List.length_singleton]; omega
            unfold tCond
            cases ho : cond.isOmit with
            | true =>
              rw [if_pos rfl]
              rw [ho] at q3
              exact fin true h' F4 am4 H'' .refl s4 q3
            | false =>
              rw [if_neg Bool.false_ne_true]
              rw [ho] at q3
              have q3 : SatP z σ F1 am1 H1 ((noX ((tru (ev z.sub z.call cond S2 h')).bind fun c h3 => if c then (ev z.sub z.call k S2 h3).bind fun y h4 => (ev z.sub z.call v S2 h4).bind fun z h5 => kvO y z h5 else .ok none h3)).bind _) Q := q3
              exact ⟨S2, F4, am4, h', rσ, (SatP.noX q3).mono fun b h3 F5 am5 H5 _ e5 s5 q5 => fin b h3 F5 am5 H5 e5 s5 q5⟩
theorem dc_sim {k v : E} {own : List Nat} {tg : Tg} {it : It} {cond : E} {σ : SV} {H : Hp} {Q : VK} (hown : ∀ i ∈ tgIx tg, i ∈ own) (q : tE z (.dc k v own tg it cond) σ H Q) :
    tDc (tI z it) (tG z.mute tg) (tCond z.mute cond) (tE z.mute k) (tE z.mute v) own σ H Q := by
  obtain ⟨S, F, am, hs, r, q⟩ := q
  rw [ev_dc] at q
  exact ⟨S, F, am, hs, r, q.bind r.sto.inF fun src h1 F1 am1 H1 _ e1 s1 q1 J w p hp => dc_at hown (r.to e1 s1) w (md_of s1 q1) p hp⟩
end
end Ci

set_option Elab.async false
set_option linter.all false
set_option maxRecDepth 100000
set_option maxHeartbeats 4000000
namespace Ci
open PySem PySem.Spec PyProof.Rows L2
/-! ### tests -/
section
variable {z : Si} {X : Cx} {N : List Str} {G : GT} {sc : Scope} {hot : Bool}
/-- a op b op' c op'' d -/
def tChain3 (r r' r'' : R2) (ta tb tc td : TE) : TE := fun σ H Q => ta σ H fun x H1 => tb σ H1 fun y H2 => r x y H2 fun z H3 => ∃ k, z = .bl k ∧
  (if k = true then tc σ H3 fun w H4 => r' y w H4 fun z' H5 => ∃ k', z' = .bl k' ∧ (if k' = true then td σ H5 fun v H6 => r'' w v H6 Q else Q (.bl false) H5) else Q (.bl false) H3)
theorem pe_chain3 {a b c d : Expr} {ta tb tc td : TE} {pos : Pos} {op op' op'' : CmpOp} {r r' r'' : R2} (ho : OpR X (compareOp op) r) (ho' : OpR X (compareOp op') r') (ho'' : OpR X (compareOp op'') r'') (ha : PE X a ta) (hb : PE X b tb) (hc : PE X c tc) (hd : PE X d td)
    (hm : lastMarks [op, op', op''] [b, c, d] = false) : PE X (.Compare a [op, op', op''] [b, c, d] pos) (tChain3 r r' r'' ta tb tc td) := by
  refine ⟨fun pins s σ H Q I h => ?_⟩
  refine Compare_chain (thn (ha.run pins s σ H _ I h) fun v s1 ⟨x, H1, I1, r1, q1⟩ => chain_link (thn (hb.run pins s1 σ H1 _ I1 q1) fun u s2 ⟨y, H2, I2, r2, q2⟩ =>
    thn (ho pins s2 σ H2 x y v u _ I2 r1 r2 q2) fun d s3 ⟨z, H3, I3, r3, k, e, q3⟩ => ?_)) hm
  subst e
  cases r3
  refine wpAny_truthy_bool ?_
  cases k with
  | false => exact ite_ff ⟨.bl false, H3, I3, rfl, q3⟩
  | true =>
    refine ite_tt (chain_link (thn (hc.run pins s3 σ H3 _ I3 q3) fun w' s4 ⟨z', H4, I4, r4, q4⟩ => thn (ho' pins s4 σ H4 y z' u w' _ I4 r2 r4 q4) fun d' s5 ⟨z5, H5, I5, r5, k', e, q5⟩ => ?_))
    subst e
    cases r5
    refine wpAny_truthy_bool ?_
    cases k' with
    | false => exact ite_ff ⟨.bl false, H5, I5, rfl, q5⟩
    | true => exact ite_tt (chain_last (thn (hd.run pins s5 σ H5 _ I5 q5) fun w6 s6 ⟨z6, H6, I6, r6, q6⟩ => ho'' pins s6 σ H6 z' z6 w' w6 Q I6 r4 r6 q6))
theorem pt_chain3 {a b c d : Expr} {ta tb tc td : TE} {pos : Pos} {op op' op'' : CmpOp} {r r' r'' : R2} (ho : OpR X (compareOp op) r) (ho' : OpR X (compareOp op') r') (ho'' : OpR X (compareOp op'') r'') (ha : PE X a ta) (hb : PE X b tb) (hc : PE X c tc) (hd : PE X d td)
    (hm : lastMarks [op, op', op''] [b, c, d] = false) : PT X (.Compare a [op, op', op''] [b, c, d] pos) (tTest (tChain3 r r' r'' ta tb tc td)) := by
  refine ⟨fun pins s σ H Q I h => ?_⟩
  refine isTrue_chain (thn (ha.run pins s σ H _ I h) fun v s1 ⟨x, H1, I1, r1, q1⟩ => test_link (thn (hb.run pins s1 σ H1 _ I1 q1) fun u s2 ⟨y, H2, I2, r2, q2⟩ =>
    thn (ho pins s2 σ H2 x y v u _ I2 r1 r2 q2) fun d s3 ⟨z, H3, I3, r3, k, e, q3⟩ => ?_)) hm
  subst e
  cases r3
  refine wpAny_truthy_bool ?_
  cases k with
  | false =>
    obtain ⟨k', e', q'⟩ := q3
    cases e'
    exact ite_ff ⟨H3, I3, q'⟩
  | true =>
    refine ite_tt (test_link (thn (hc.run pins s3 σ H3 _ I3 q3) fun w' s4 ⟨z', H4, I4, r4, q4⟩ => thn (ho' pins s4 σ H4 y z' u w' _ I4 r2 r4 q4) fun d' s5 ⟨z5, H5, I5, r5, k', e, q5⟩ => ?_))
    subst e
    cases r5
    refine wpAny_truthy_bool ?_
    cases k' with
    | false =>
      obtain ⟨k2, e', q'⟩ := q5
      cases e'
      exact ite_ff ⟨H5, I5, q'⟩
    | true =>
      refine ite_tt (test_last (thn (hd.run pins s5 σ H5 _ I5 q5) fun w6 s6 ⟨z6, H6, I6, r6, q6⟩ => thn (ho'' pins s6 σ H6 z' z6 w' w6 _ I6 r4 r6 q6) fun d7 s7 ⟨z7, H7, I7, r7, k7, e7, q7⟩ => ?_))
      subst e7
      cases r7
      exact wpAny_truthy_bool ⟨H7, I7, q7⟩
theorem chain_mark {o o' : CmpOp} {b c : Expr} (h : noSet c = true) : lastMarks [o, o'] [b, c] = false := mark_ok h
theorem chain_mark3 {o o' o'' : CmpOp} {b c d : Expr} (h : noSet d = true) : lastMarks [o, o', o''] [b, c, d] = false := mark_ok h
theorem cmp_imp {o : CmpOp} {a b : E} {σ : SV} {H : Hp} {Q : VK} : tE z (.cmp o a b) σ H Q → tOp (rCH z o) (tE z a) (tE z b) σ H Q := fun ⟨S, F, am, hs, r, q⟩ => two r (by simpa only [ev] using q) fun d e v u F am H h r1 r2 r3 q1 => ⟨σ, F, am, h, _, _, r1.sto, r2, r3, q1⟩
theorem cmp2_imp {o o' : CmpOp} {a b c : E} {σ : SV} {H : Hp} {Q : VK} : tE z (.cmp2 o o' a b c) σ H Q → tChain (rC z (cmpD o)) (rC z (cmpD o')) (tE z a) (tE z b) (tE z c) σ H Q := fun ⟨S, F, am, hs, r, q⟩ => two r (by simpa only [ev] using q) fun d e v u F am H h r1 r2 r3 q1 => by
  cases e1 : cmpD o (rd h d) (rd h e) with
  | none => rw [e1] at q1; exact q1.elim
  | some k =>
    rw [e1] at q1
    refine ⟨σ, F, am, h, _, _, r1.sto, rd_rel r1.sto r2, rd_rel r1.sto r3, ?_⟩
    rw [e1]
    intro F' am' H' ex st w' rw'
    cases rw'
    refine ⟨k, rfl, ?_⟩
    have q2 := SatR.ext ex r1.sto.inF q1
    cases k with
    | true =>
      refine ⟨S, F', am', h, r1.to ex st, q2.bind st.inF fun f h2 F2 am2 H2 _ ex2 st2 q3 w2 rw2 => ?_⟩
      exact ⟨σ, F2, am2, h2, _, _, st2, rd_rel st2 ((r3.ext ex r1.sto.inF).ext ex2 st.inF), rd_rel st2 rw2, q3⟩
    | false => exact PostD.at q2 st (.bl false)
theorem cmp3_imp {o o' o'' : CmpOp} {a b c d : E} {σ : SV} {H : Hp} {Q : VK} : tE z (.cmp3 o o' o'' a b c d) σ H Q → tChain3 (rC z (cmpD o)) (rC z (cmpD o')) (rC z (cmpD o'')) (tE z a) (tE z b) (tE z c) (tE z d) σ H Q := fun ⟨S, F, am, hs, r, q⟩ => two r (by simpa only [ev] using q) fun d' e v u F am H h r1 r2 r3 q1 => by
  cases e1 : cmpD o (rd h d') (rd h e) with
  | none => rw [e1] at q1; exact q1.elim
  | some k =>
    rw [e1] at q1
    refine ⟨σ, F, am, h, _, _, r1.sto, rd_rel r1.sto r2, rd_rel r1.sto r3, ?_⟩
    rw [e1]
    intro F' am' H' ex st w' rw'
    cases rw'
    refine ⟨k, rfl, ?_⟩
    have q2 := SatR.ext ex r1.sto.inF q1
    cases k with
    | true =>
      refine ⟨S, F', am', h, r1.to ex st, q2.bind st.inF fun f h2 F2 am2 H2 _ ex2 st2 q3 w2 rw2 => ?_⟩
      have k3 := (r3.ext ex r1.sto.inF).ext ex2 st.inF
      cases e2 : cmpD o' (rd h2 e) (rd h2 f) with
      | none => rw [e2] at q3; exact q3.elim
      | some k' =>
        rw [e2] at q3
        refine ⟨σ, F2, am2, h2, _, _, st2, rd_rel st2 k3, rd_rel st2 rw2, ?_⟩
        rw [e2]
        intro F3 am3 H3 ex3 st3 w3 rw3
        cases rw3
        refine ⟨k', rfl, ?_⟩
        have q4 := SatR.ext ex3 st2.inF q3
        cases k' with
        | true =>
          refine ⟨S, F3, am3, h2, ((r1.to ex st).to ex2 st2).to ex3 st3, q4.bind st3.inF fun g h4 F4 am4 H4 _ ex4 st4 q5 w4 rw4 => ?_⟩
          exact ⟨σ, F4, am4, h4, _, _, st4, rd_rel st4 ((rw2.ext ex3 st2.inF).ext ex4 st3.inF), rd_rel st4 rw4, q5⟩
        | false => exact PostD.at q4 st3 (.bl false)
    | false => exact PostD.at q2 st (.bl false)
theorem e_cmp3 {o o' o'' : CmpOp} {a b c d : E} {x y w v : Expr} {p : Pos} (ok : Ok z X N G sc hot) (hw : noSet v = true) (ha : PE X x (tE z a)) (hb : PE X y (tE z b)) (hc : PE X w (tE z c)) (hd : PE X v (tE z d)) : PE X (.Compare x [o, o', o''] [y, w, v] p) (tE z (.cmp3 o o' o'' a b c d)) :=
  (pe_chain3 (cmp_ok ok.hK ok.un o) (cmp_ok ok.hK ok.un o') (cmp_ok ok.hK ok.un o'') ha hb hc hd (chain_mark3 hw)).imp fun _ _ _ => cmp3_imp
/-- a comparison gives a bool -/
def IsB (e : E) : Prop := ∀ (sub : Nat → Nat → Bool) (call : Nat → List D → Hs → R D) (S : Sl) (h h' : Hs) (d : D), ev sub call e S h = .ok d h' → ∃ b, d = .bl b
theorem bl_lift {o : Option Bool} {h h' : Hs} {d : D} (e : liftO (o.map D.bl) h = .ok d h') : ∃ b, d = .bl b := by
  cases o with
  | none => cases e
  | some b => cases e; exact ⟨b, rfl⟩
theorem bind_ok {α β : Type} {r : R α} {f : α → Hs → R β} {b : β} {h : Hs} (e : r.bind f = .ok b h) : ∃ a h1, r = .ok a h1 ∧ f a h1 = .ok b h := by
  cases r with
  | ok a h1 => exact ⟨a, h1, rfl, e⟩
  | exc c v h => cases e
  | bad => cases e
theorem isB_cmp {o : CmpOp} {a b : E} : IsB (.cmp o a b) := fun sub call S h h' d e => by
  simp only [ev] at e
  obtain ⟨x, h1, _, e⟩ := bind_ok e
  obtain ⟨y, h2, _, e⟩ := bind_ok e
  exact bl_lift e
theorem isB_cmp2 {o p : CmpOp} {a b c : E} : IsB (.cmp2 o p a b c) := fun sub call S h h' d e => by
  simp only [ev] at e
  obtain ⟨x, h1, _, e⟩ := bind_ok e
  obtain ⟨y, h2, _, e⟩ := bind_ok e
  split at e
  · obtain ⟨w, h3, _, e⟩ := bind_ok e
    exact bl_lift e
  · cases e; exact ⟨_, rfl⟩
  · cases e
theorem isB_cmp3 {o p q : CmpOp} {a b c d : E} : IsB (.cmp3 o p q a b c d) := fun sub call S h h' d e => by
  simp only [ev] at e
  obtain ⟨x, h1, _, e⟩ := bind_ok e
  obtain ⟨y, h2, _, e⟩ := bind_ok e
  split at e
  · obtain ⟨w, h3, _, e⟩ := bind_ok e
    split at e
    · obtain ⟨w, h3, _, e⟩ := bind_ok e
      exact bl_lift e
    · cases e; exact ⟨_, rfl⟩
    · cases e
  · cases e; exact ⟨_, rfl⟩
  · cases e
theorem isB_isN {a : E} : IsB (.isN a) := fun sub call S h h' d e => by
  simp only [ev] at e
  obtain ⟨x, h1, _, e⟩ := bind_ok e
  cases e; exact ⟨_, rfl⟩
theorem isB_noN {a : E} : IsB (.noN a) := fun sub call S h h' d e => by
  simp only [ev] at e
  obtain ⟨x, h1, _, e⟩ := bind_ok e
  cases e; exact ⟨_, rfl⟩
theorem tB_bl {e : E} (hb : IsB e) {σ : SV} {H : Hp} {Q : Bool → Hp → Prop} (q : tB z e σ H Q) : tE z e σ H fun x H' => ∃ k, x = .bl k ∧ Q k H' := by
  obtain ⟨S, F, am, h, r, q⟩ := q
  refine ⟨S, F, am, h, r, SatR.bind (r := ev z.sub z.call e S h) r.sto.inF q fun d h1 F1 am1 H1 e0 e1 s1 q1 v rv => ?_⟩
  obtain ⟨b, rfl⟩ := hb _ _ _ _ _ _ e0
  cases rv
  exact ⟨b, rfl, SatR.now (a := b) q1 s1⟩
theorem pt_gen {e : E} {x : Expr} (ha : PE X x (tE z e)) (he : ∀ whole, isTrue x X.env whole = (do let v ← whole; standAt x.pos; holding [v] (truthy v))) : PT X x (tB z e) :=
  (pt_truth ha he).imp fun σ H Q ⟨S, F, am, h, r, q⟩ => ⟨S, F, am, h, r, SatR.bind (r := ev z.sub z.call e S h) r.sto.inF q fun d h1 F1 am1 H1 e0 e1 s1 q1 v rv => by
    cases e2 : truD (rd h1 d) with
    | none => rw [e2] at q1; exact q1.elim
    | some k =>
      rw [e2] at q1
      exact ⟨k, tru_of (rd_rel s1 rv) e2, SatR.now q1 s1⟩⟩
theorem t_cmp {o : CmpOp} {a b : E} {x y : Expr} {p : Pos} (ok : Ok z X N G sc hot) (hy : noSet y = true) (ha : PE X x (tE z a)) (hb : PE X y (tE z b)) : PT X (.Compare x [o] [y] p) (tB z (.cmp o a b)) :=
  (pt_cmpR (cmpH_ok ok.hK ok.un o) ha hb (mark_ok hy)).imp fun σ H Q q => cmp_imp (tB_bl isB_cmp q)
theorem t_cmp2 {o o' : CmpOp} {a b c : E} {x y w : Expr} {p : Pos} (ok : Ok z X N G sc hot) (hw : noSet w = true) (ha : PE X x (tE z a)) (hb : PE X y (tE z b)) (hc : PE X w (tE z c)) : PT X (.Compare x [o, o'] [y, w] p) (tB z (.cmp2 o o' a b c)) :=
  (pt_chain (cmp_ok ok.hK ok.un o) (cmp_ok ok.hK ok.un o') ha hb hc (chain_mark hw)).imp fun σ H Q q => cmp2_imp (tB_bl isB_cmp2 q)
theorem t_cmp3 {o o' o'' : CmpOp} {a b c d : E} {x y w v : Expr} {p : Pos} (ok : Ok z X N G sc hot) (hw : noSet v = true) (ha : PE X x (tE z a)) (hb : PE X y (tE z b)) (hc : PE X w (tE z c)) (hd : PE X v (tE z d)) : PT X (.Compare x [o, o', o''] [y, w, v] p) (tB z (.cmp3 o o' o'' a b c d)) :=
  (pt_chain3 (cmp_ok ok.hK ok.un o) (cmp_ok ok.hK ok.un o') (cmp_ok ok.hK ok.un o'') ha hb hc hd (chain_mark3 hw)).imp fun σ H Q q => cmp3_imp (tB_bl isB_cmp3 q)
theorem t_isN {a : E} {x : Expr} {j : Nat} {p p' : Pos} (ha : PE X x (tE z a)) : PT X (.Compare x [.Is] [.Constant .none j p'] p) (tB z (.isN a)) :=
  (pt_cmpR op_isN ha pe_non (nomark _)).imp fun σ H Q q => by
    obtain ⟨S, F, am, hs, r, q⟩ := tB_bl isB_isN q
    exact one r (by simpa only [ev] using q) fun d v F am H h r1 r2 q1 => ⟨rfl, by
      have e : decide (v = V.non) = isNonD d := by cases r2 <;> simp [isNonD]
      rw [e]
      exact PostD.at q1 r1.sto (.bl _)⟩
theorem t_noN {a : E} {x : Expr} {j : Nat} {p p' : Pos} (ha : PE X x (tE z a)) : PT X (.Compare x [.IsNot] [.Constant .none j p'] p) (tB z (.noN a)) :=
  (pt_cmpR op_notN ha pe_non (nomark _)).imp fun σ H Q q => by
    obtain ⟨S, F, am, hs, r, q⟩ := tB_bl isB_noN q
    exact one r (by simpa only [ev] using q) fun d v F am H h r1 r2 q1 => ⟨rfl, by
      have e : (!decide (v = V.non)) = !isNonD d := by cases r2 <;> simp [isNonD]
      rw [e]
      exact PostD.at q1 r1.sto (.bl _)⟩
theorem one' {a : E} {σ : SV} {H : Hp} {S : Sl} {F : Addr → Prop} {am : List Addr} {h : Hs} {f : D → Hs → R Bool} {P : Bool → Hs → (Addr → Prop) → List Addr → Hp → Prop} {R' : Bool → Hp → Prop} (r : Rel z.rc F am H h S σ)
    (q : SatR z σ F am H ((ev z.sub z.call a S h).bind f) P)
    (k : ∀ d b F am H h, Rel z.rc F am H h S σ → truD (rd h d) = some b → SatR z σ F am H (f d h) P → R' b H) (hn : ∀ d h, truD (rd h d) = none → f d h = .bad) :
    tB z a σ H R' :=
  ⟨S, F, am, h, r, by
    have q2 := q.bind (P1 := fun d h1 F1 am1 H1 => SatR z σ F1 am1 H1 (f d h1) P ∧ Rel z.rc F1 am1 H1 h1 S σ) r.sto.inF fun d h1 F1 am1 H1 _ e1 s1 q1 => ⟨q1, r.to e1 s1⟩
    unfold tst tru
    cases hr : ev z.sub z.call a S h with
    | bad => rw [hr] at q; exact q.elim
    | exc c v h1 => rw [hr] at q; exact q
    | ok d h1 =>
      rw [hr] at q2
      have q2 : ∀ F' am' H', Ext F am H F' am' H' → Sto z.rc F' am' H' h1 → SatR z σ F' am' H' (f d h1) P ∧ Rel z.rc F' am' H' h1 S σ := q2
      show SatR z σ F am H (liftO (truD (rd h1 d)) h1) _
      cases e : truD (rd h1 d) with
      | none =>
        rw [hr] at q
        have q : SatR z σ F am H (f d h1) P := q
        rw [hn d h1 e] at q; exact q.elim
      | some b => exact fun F' am' H' e1 s1 => k d b F' am' H' h1 (q2 F' am' H' e1 s1).2 e (q2 F' am' H' e1 s1).1⟩
theorem bind_bind {α β γ : Type} (r : R α) (f : α → Hs → R β) (g : β → Hs → R γ) : (r.bind f).bind g = r.bind fun a h => (f a h).bind g := by
  cases r <;> rfl
theorem t_not {a : E} {x : Expr} {p : Pos} (ha : PT X x (tB z a)) : PT X (.UnaryOp .Not x p) (tB z (.not_ a)) :=
  (pt_not ha).imp fun σ H Q ⟨S, F, am, hs, r, q⟩ => by
    unfold tst tru at q
    simp only [ev] at q
    rw [bind_bind] at q
    refine one' r q (fun d b F am H h r1 e q1 => ?_) fun d h e => ?_
    · rw [e] at q1
      exact SatR.now (a := !b) q1 r1.sto
    · rw [e]; rfl
theorem t_and {a b : E} {x y : Expr} {rest : List Expr} {p : Pos} (ha : PT X x (tB z a)) (hb : PW X (.BoolOp .And (y :: rest) p) (tB z b)) : PW X (.BoolOp .And (x :: y :: rest) p) (tB z (.and_ a b)) := by
  have h0 := pw_and ha hb
  refine ⟨fun wh pins s σ H Q I q => h0.run wh pins s σ H Q I ?_⟩
  obtain ⟨S, F, am, hs, r, q⟩ := q
  unfold tst tru at q
  simp only [ev] at q
  rw [bind_bind] at q
  refine one' r q (fun d k F am H h r1 e q1 => ?_) fun d h e => ?_
  · rw [e] at q1
    cases k with
    | true => exact ⟨S, F, am, h, r1, q1⟩
    | false =>
      have q1 : SatR z σ F am H (liftO (truD (rd h d)) h) _ := q1
      rw [e] at q1
      exact SatR.now (a := false) q1 r1.sto
  · rw [e]; rfl
theorem t_or {a b : E} {x y : Expr} {rest : List Expr} {p : Pos} (ha : PT X x (tB z a)) (hb : PW X (.BoolOp .Or (y :: rest) p) (tB z b)) : PW X (.BoolOp .Or (x :: y :: rest) p) (tB z (.or_ a b)) := by
  have h0 := pw_or ha hb
  refine ⟨fun wh pins s σ H Q I q => h0.run wh pins s σ H Q I ?_⟩
  obtain ⟨S, F, am, hs, r, q⟩ := q
  unfold tst tru at q
  simp only [ev] at q
  rw [bind_bind] at q
  refine one' r q (fun d k F am H h r1 e q1 => ?_) fun d h e => ?_
  · rw [e] at q1
    cases k with
    | false => exact ⟨S, F, am, h, r1, q1⟩
    | true =>
      have q1 : SatR z σ F am H (liftO (truD (rd h d)) h) _ := q1
      rw [e] at q1
      exact SatR.now (a := true) q1 r1.sto
  · rw [e]; rfl
end
end Ci

set_option Elab.async false
set_option linter.all false
set_option maxRecDepth 100000
set_option maxHeartbeats 4000000
namespace Ci
open PySem PySem.Spec PyProof.Rows L2
/-! ### the caught exception -/
section
variable {X : Cx}
/-- isinstance(e, c), e the exception at a -/
def rIsX (K : PySem.W.Frag) (D a dx : Addr) : List V → Hp → VK → Prop := fun xs H Q => ∃ (c : V) (cv : Value) (b : Bool) (fs : List (Str × V)), xs = [.ref a, c] ∧ (∀ u, RelV c u → u = cv) ∧ PySem.W.kitOne K (.ref D) cv = some b ∧ H dx = some (.xd fs) ∧ Q (.bl b) H
theorem xd_inst {pins : List (Addr × Obj)} {σ : SV} {H : Hp} {s : Shared} {a D dx : Addr} {oe : Obj} {fs : List (Str × V)} (I : Inv X pins σ H s) (hp : (a, oe) ∈ X.pn) (hz : Zc (.ref D) (some dx) oe) (hf : ∃ vs, oe.data = .fields vs) (hd : H dx = some (.xd fs)) :
    ∃ (od : Obj) (mA : Str → Option Value), s.heap.Ns1 dx mA ∧ (∀ f, RelO (fs.lookup f) (mA f)) ∧ s.heap.get? dx = some od ∧ PySem.W.InstAt s.heap a oe D (some od) := by
  obtain ⟨ha, _⟩ := I.pin (a, oe) (List.mem_append_left _ hp)
  obtain ⟨vs, hv⟩ := hf
  obtain ⟨mA, hns, hr⟩ := I.hok dx _ hd
  obtain ⟨od, ho, hl⟩ := lookIn_ns hns
  exact ⟨od, mA, hns, hr, ho, ha, hz.1, by unfold PySem.W.notCls; rw [hv] <;> rfl, by rw [hz.2]; exact ho⟩
theorem call_isX {a D dx : Addr} {oe : Obj} (hp : (a, oe) ∈ X.pn) (C : ExcC X.K D) (hz : Zc (.ref D) (some dx) oe) (hf : ∃ vs, oe.data = .fields vs) : CallR X (.builtin "isinstance") (rIsX X.K D a dx) := by
  intro pins s σ H xs us Q I r h
  obtain ⟨c, cv, b, fs, rfl, hcv, e, hd, q⟩ := h
  cases r with
  | cons rx rr =>
    cases rr with
    | cons rt rr =>
      cases rr
      cases rx
      have ec := hcv _ rt
      subst ec
      obtain ⟨od, mA, _, _, _, J⟩ := xd_inst I hp hz hf hd
      exact PySem.W.kia_one (PySem.W.kitx_exc (by obtain ⟨cd, hc, _⟩ := PySem.W.any_some C.hd; rw [hc]; rfl) C.hg C.hk C.hs C.ha C.hn C.ht C.hm) I.kIn J e (fun z => nomatch z) fun tk => ⟨.bl b, H, I.kept (t' := tk) fun _ _ z => z, rfl, q⟩
theorem pe_xa {a D dx : Addr} {oe : Obj} {e : Expr} {te : TE} {pos : Pos} {n : Str} (hp : (a, oe) ∈ X.pn) (C : ExcC X.K D) (hno : PySem.W.findIn X.K (.ref D) n = some none) (hz : Zc (.ref D) (some dx) oe) (hf : ∃ vs, oe.data = .fields vs) (he : PE X e te)
    (hb : attributeBase e n X.env (eval e X.env) = eval e X.env) : PE X (.Attribute e n pos) (fun σ H Q => te σ H fun x H1 => x = .ref a ∧ ∃ fs v, H1 dx = some (.xd fs) ∧ fs.lookup n = some v ∧ Q v H1) := by
  refine ⟨fun pins s σ H Q I h => ?_⟩
  refine attr_of hb (thn (he.run pins s σ H _ I h) fun u s1 ⟨x, H1, I1, rx, ex, fs, v, ea, l, q⟩ => ?_)
  subst ex
  obtain rfl : u = Value.ref a := rx
  obtain ⟨od, mA, hns, hr, ho, J⟩ := xd_inst I1 hp hz hf ea
  obtain ⟨od', ho', hl⟩ := lookIn_ns hns
  rw [ho] at ho'
  cases ho'
  obtain ⟨u, hu, ru⟩ := RelO.some_of (v := v) (o := mA n) (by rw [← l]; exact hr n)
  exact HandSPX.exc_get I1.kIn J C.hg C.hk C.hs (PySem.W.findObj_own C.hd hno rfl (by rw [hl, hu])) (handed_of ru) ⟨v, H1, I1.tok _, ru, q⟩
end
section
variable {z : Si} {X : Cx} {N : List Str} {G : GT} {sc : Scope} {hot : Bool}
theorem base_ok {x : Expr} {n : Str} {env : Env} (h : plainBase x = true) : attributeBase x n env (eval x env) = eval x env := by
  cases x <;> first | rfl | cases h
theorem RD.hx {F : Addr → Prop} {am : List Addr} {H : Hp} {c : Rc} {k : Nat} {d : D} {v : V} (r : RD c F am H (.exc k d) v) : ∃ x w, c.hx = some x ∧ x.c = k ∧ scV d = some w ∧ H x.d = some (.xd [(x.f, w)]) ∧ v = .ref x.a := by
  cases r with
  | exc h1 h2 h3 h4 => exact ⟨_, _, h1, rfl, h2, h3, rfl⟩
theorem e_isC {a : E} {c : Nat} {x : Expr} {y u : Str} {p p2 p3 : Pos} (ok : Ok z X N G sc hot) (hg : gl sc y = true) (hb : isBi G y "isinstance" = true) (hu : gl sc u = true) (ht : (isCls G u c || isTy G u "ValueError" && c == 99) = true) (hs : noStar x = true) (ha : PE X x (tE z a)) :
    PE X (.Call (.Name y p) [x, .Name u p2] [] p3) (tE z (.isC a c)) := by
  cases hh : z.rc.hx with
  | none =>
    refine ⟨fun pins s σ H Q I ⟨S, F, am, hq, r, q⟩ => ?_⟩
    simp only [ev] at q
    obtain ⟨g1, g2, g3⟩ := gl_ok ok hg
    obtain ⟨u1, u2, u3⟩ := gl_ok ok hu
    obtain ⟨b1, b2⟩ := bi_at ok hb
    have pt : ∃ v, PE X (.Name u p2) (tC v) := by
      simp only [Bool.or_eq_true, Bool.and_eq_true] at ht
      rcases ht with t | ⟨t, _⟩
      · obtain ⟨C, _, c2⟩ := cls_at ok t
        exact ⟨.ref C, pe_glob (v := .ref C) u1 c2 rfl u2⟩
      · obtain ⟨t1, t2⟩ := ty_at ok t
        exact ⟨.ty "ValueError", pe_bltn u1 t1 t2 rfl u3 u2⟩
    obtain ⟨vt, pt⟩ := pt
    exact (pe_callB (r := fun _ _ _ => False) (fun _ _ _ _ _ _ _ _ _ h => h.elim) g1 b1 b2 (pa_cons ha (pa_cons pt pa_nil) (star_ok hs)) g3 g2 (star_ok hs)).run pins s σ H Q I ⟨S, F, am, hq, r, q.bind r.sto.inF fun d h1 F1 am1 H1 _ e1 s1 q1 v rv => by
      cases d <;> first | exact q1.elim | skip
      obtain ⟨x', w, h1, _⟩ := rv.hx
      rw [hh] at h1; cases h1⟩
  | some x' =>
    have hk := ok.hx x' hh
    obtain ⟨oe, C, m, ca, hz, hf, ff, EC, _⟩ := hk.ex
    obtain ⟨g1, g2, g3⟩ := gl_ok ok hg
    obtain ⟨u1, u2, u3⟩ := gl_ok ok hu
    obtain ⟨b1, b2⟩ := bi_at ok hb
    have pt : ∃ v cv, PE X (.Name u p2) (tC v) ∧ (∀ w, RelV v w → w = cv) ∧ PySem.W.kitOne X.K (.ref C) cv = some (z.sub x'.c c) := by
      simp only [Bool.or_eq_true, Bool.and_eq_true, beq_iff_eq] at ht
      rcases ht with t | ⟨t, rfl⟩
      · obtain ⟨C', c1, c2⟩ := cls_at ok t
        exact ⟨.ref C', .ref C', pe_glob (v := .ref C') u1 c2 rfl u2, (fun w r => by cases r; rfl), hk.k C c C' ca c1⟩
      · obtain ⟨t1, t2⟩ := ty_at ok t
        exact ⟨.ty "ValueError", .type "ValueError", pe_bltn u1 t1 t2 rfl u3 u2, (fun w r => by cases r; rfl), hk.ve C ca⟩
    obtain ⟨vt, cv, pt, hr, hkit⟩ := pt
    refine (pe_callB (call_isX m EC hz hf) g1 b1 b2 (pa_cons ha (pa_cons pt pa_nil) (star_ok hs)) g3 g2 (star_ok hs)).imp fun σ H Q ⟨S, F, am, hs, r, q⟩ => ?_
    simp only [ev] at q
    refine ⟨S, F, am, hs, r, q.bind r.sto.inF fun d h1 F1 am1 H1 _ e1 s1 q1 v rv => ?_⟩
    cases d <;> first | exact q1.elim | skip
    obtain ⟨x2, w, h1, h2, h3, h4, rfl⟩ := rv.hx
    rw [hh] at h1
    cases h1
    subst h2
    exact ⟨vt, cv, _, _, rfl, hr, hkit, h4, PostD.at q1 s1 (.bl _)⟩
theorem e_attr {a : E} {k : Nat} {x : Expr} {n : Str} {p : Pos} (ok : Ok z X N G sc hot) (hn : n = atn k) (hk : 100 ≤ k) (hb : plainBase x = true) (ha : PE X x (tE z a)) : PE X (.Attribute x n p) (tE z (.attr a k)) := by
  cases hh : z.rc.hx with
  | none =>
    refine ⟨fun pins s σ H Q I ⟨S, F, am, hs, r, q⟩ => ?_⟩
    simp only [ev] at q
    refine attr_of (base_ok hb) (thn (ha.run pins s σ H (fun _ _ => False) I ⟨S, F, am, hs, r, q.bind r.sto.inF fun d h1 F1 am1 H1 _ e1 s1 q1 v rv => ?_⟩) fun u s1 ⟨x, H1, I1, rx, f⟩ => f.elim)
    cases d <;> first | exact q1.elim | skip
    obtain ⟨x', w, h1, _⟩ := rv.hx
    rw [hh] at h1; cases h1
  | some x' =>
    have hkx := ok.hx x' hh
    obtain ⟨oe, C, m, ca, hz, hf, ff, EC, hno⟩ := hkx.ex
    refine ⟨fun pins s σ H Q I ⟨S, F, am, hs, r, q⟩ => ?_⟩
    simp only [ev] at q
    by_cases hsub : z.sub x'.c k = true
    · have en := hkx.fl k hk hsub
      refine (pe_xa m EC (by rw [hn, en]; exact hno) hz hf ha (base_ok hb)).run pins s σ H Q I ⟨S, F, am, hs, r, q.bind r.sto.inF fun d h1 F1 am1 H1 _ e1 s1 q1 v rv => ?_⟩
      cases d <;> first | exact q1.elim | skip
      obtain ⟨x2, w, h1, h2, h3, h4, rfl⟩ := rv.hx
      rw [hh] at h1
      cases h1
      subst h2
      simp only at q1
      rw [hsub, if_pos rfl] at q1
      refine ⟨rfl, _, w, h4, ?_, PostD.at q1 s1 (sc_RD h3)⟩
      rw [hn, en]
      simp [List.lookup]
    · refine attr_of (base_ok hb) (thn (ha.run pins s σ H (fun _ _ => False) I ⟨S, F, am, hs, r, q.bind r.sto.inF fun d h1 F1 am1 H1 _ e1 s1 q1 v rv => ?_⟩) fun u s1 ⟨x, H1, I1, rx, f⟩ => f.elim)
      cases d <;> first | exact q1.elim | skip
      obtain ⟨x2, w, h1, h2, h3, h4, rfl⟩ := rv.hx
      rw [hh] at h1
      cases h1
      subst h2
      simp only at q1
      rw [if_neg hsub] at q1
      exact q1.elim
/-! ### methods -/
/-- l.count(x): as many as are equal -/
def rCountD (K : PySem.W.Frag) : V → List V → Hp → VK → Prop := fun x xs H Q => ∃ (a : Addr) (y : V) (d : PyData) (ds : List PyData), x = V.ref a ∧ xs = [y] ∧ Dp K H (V.ref a) (.list ds) ∧ Dp K H y d ∧
  SeqAt.shaped (.list ds) = true ∧ SeqAt.shaped d = true ∧ Q (.int ((ds.countP fun z => PyData.eqv z d : Nat) : Int)) H
theorem mt_countD (hu : X.A.units + 65 < cLine) : MtR X "list.count" (rCountD X.K) := by
  intro pins s σ H x xs v us Q I rx rxs h
  obtain ⟨a, y, d, ds, rfl, rfl, hl, hy, sl, sd, q⟩ := h
  cases rx
  cases rxs with
  | cons ry rt =>
    rename_i uy ut
    cases rt
    obtain ⟨bs, r1⟩ := Dp.reads I d y uy hy ry
    have lay : PyData.canLayAll0 ds = true := SeqAt.canLay_of_shaped sl
    have room : X.A.units + 1 + min (PyData.depthAll ds) d.depth < cLine := room_in_shaped sd hu
    cases hl with
    | lst hs ha =>
      obtain ⟨its, rv, ⟨⟨cls, dd, data, sls⟩, n, ho, hc, hdn, hdt⟩, hlen⟩ := I.list hs
      simp only at hc hdt
      subst hc hdt
      obtain ⟨as, h4⟩ := Dp.readsAll I ds _ its ha rv
      have hmap : its.map (SeqAt.readOf s.heap) = ds := SeqAt.readsAll_map ds its as lay h4
      refine call_meets PySem.F.slot_list_count ⟨_, ho, rfl⟩ PySem.F.entry_list_count (PySem.F.args_list_count_2 _ _)
        (SeqAt.list_countAt a its.toArray n dd sls uy (fun u => PyData.eqv (SeqAt.readOf s.heap u) d)) ⟨ho, SeqAt.items_eqAt (vs := its.toArray) (show ReadsAll s.heap its.toArray.toList ds as from h4) r1 lay (SeqAt.canLay_of_shaped sd) room, ?_⟩
      have ec : its.toArray.toList.countP (fun u => PyData.eqv (SeqAt.readOf s.heap u) d) = ds.countP fun z => PyData.eqv z d := by
        rw [← hmap, List.countP_map]
        rfl
      refine ⟨V.int ((ds.countP fun z => PyData.eqv z d : Nat) : Int), H, I.tok _, ⟨s.toks, ?_⟩, q⟩
      show Value.int ((its.toArray.toList.countP (fun u => PyData.eqv (SeqAt.readOf s.heap u) d) : Nat) : Int) s.toks = Value.int ((ds.countP fun z => PyData.eqv z d : Nat) : Int) s.toks
      rw [ec]
def rMe (z : Si) (m : Me) : V → List V → Hp → VK → Prop := fun x vs H Q => ∃ σ0 F am h d ds, Sto z.rc F am H h ∧ RD z.rc F am H d x ∧ RDs z.rc F am H ds vs ∧ SatR z σ0 F am H (methD m d ds h) (PostD z Q)
theorem findIdx_spec {α : Type} {p : α → Bool} : ∀ {xs : List α} {k : Nat}, xs.findIdx? p = some k → ∃ y, xs[k]? = some y ∧ p y = true ∧ ∀ m y', m < k → xs[m]? = some y' → p y' = false
  | [], _, h => by simp at h
  | x :: xs, k, h => by
    rw [List.findIdx?_cons] at h
    split at h
    · rename_i c
      cases h
      exact ⟨x, rfl, c, fun m _ hm => absurd hm (Nat.not_lt_zero _)⟩
    · rename_i c
      cases e : xs.findIdx? p with
      | none => rw [e] at h; cases h
      | some j =>
        rw [e] at h
        cases h
        obtain ⟨y, h1, h2, h3⟩ := findIdx_spec e
        refine ⟨y, by simpa using h1, h2, fun m y' hm hy => ?_⟩
        cases m with
        | zero => simp at hy; subst hy; simpa using c
        | succ m => exact h3 m y' (Nat.lt_of_succ_lt_succ hm) (by simpa using hy)
section
variable {c : Rc} {F : Addr → Prop} {am : List Addr} {H : Hp} {h : Hs} {n : Nat} {a : Addr} {ds : List D} {vs : List V}
theorem Sto.write (s : Sto c F am H h) (q : am[n]? = some a) (k : RDs c F am H ds vs) : Ext F am H F am (upd H a (.lst vs)) ∧ Sto c F am (upd H a (.lst vs)) (h.set n (.lst ds)) := by
  have hm : a ∈ am := List.mem_of_getElem? q
  have hF := s.inF a hm
  refine ⟨⟨⟨[], by simp⟩, fun b o e nb => by rw [upd_ne (fun z => nb (by rw [z]; exact hm))]; exact e, fun _ _ _ x => x, fun _ x => x, fun _ x y => absurd x y⟩, s.nd, by rw [List.length_set]; exact s.len, s.inF, fun b x => ?_, fun i b o q1 q2 => ?_⟩
  · by_cases e : b = a
    · subst e; exact ⟨_, upd_same⟩
    · rw [upd_ne e]; exact s.ok b x
  · by_cases e : n = i
    · subst e
      rw [q] at q1
      cases q1
      have hl : n < h.length := by rw [← s.len]; exact (List.getElem?_eq_some_iff.mp q).1
      rw [List.getElem?_set_self hl] at q2
      cases q2
      exact ⟨vs, upd_same, k.poke hF⟩
    · rw [List.getElem?_set_ne e] at q2
      have hne : b ≠ a := fun z => by
        subst z
        obtain ⟨l1, e1⟩ := List.getElem?_eq_some_iff.mp q
        obtain ⟨l2, e2⟩ := List.getElem?_eq_some_iff.mp q1
        have pw := List.pairwise_iff_getElem.mp s.nd
        rcases Nat.lt_or_gt_of_ne e with z | z
        · exact pw n i l1 l2 z (e1.trans e2.symm)
        · exact pw i n l2 l1 z (e2.trans e1.symm)
      have z := s.obj i b o q1 q2
      cases o with
      | lst es =>
        obtain ⟨xs, q3, q4⟩ := z
        exact ⟨xs, by rw [upd_ne hne]; exact q3, q4.poke hF⟩
      | dct es =>
        obtain ⟨xs, q3, qk, q4⟩ := z
        exact ⟨xs, by rw [upd_ne hne]; exact q3, qk, q4.poke hF⟩
end
theorem lst_ty {K : PySem.W.Frag} {c : Rc} {F : Addr → Prop} {am : List Addr} {H : Hp} {h : Hs} {d : D} {v : V} (s : Sto c F am H h) (r : RD c F am H d v) (e : isLst h d = true) : tyV K "list" v H := by
  have k := rd_rel s r
  unfold isLst at e
  split at e
  · rename_i xs e1
    rw [e1] at k
    obtain ⟨a, ys, rfl, e2, k2⟩ := k.list
    exact .inl ⟨rfl, ys, SqL.of e2⟩
  · cases e
theorem me_append : MtR X "list.append" (rMe z .append) := by
  intro pins s σ H x vs v us Q I rx rv ⟨σ0, F, am, h, d, ds, st, r1, r2, q⟩
  unfold methD at q
  split at q <;> first | exact q.elim | (rename_i e; cases e) | skip
  · rename_i n y
    cases r1 with
    | ref q1 =>
      rename_i a
      cases e : h[n]? with
      | none => rw [e] at q; exact q.elim
      | some o =>
        cases o with
        | dct xs => rw [e] at q; exact q.elim
        | lst xs =>
          rw [e] at q
          simp only at q
          split at q
          · rename_i hl
            cases r2 with
            | cons ry rn =>
              cases rn
              obtain ⟨ys, e2, k2⟩ := st.obj _ _ _ q1 e
              obtain ⟨e3, s3⟩ := st.write q1 (k2.append (.cons ry .nil))
              exact mt_append pins s σ H _ _ v us Q I rx rv ⟨a, ys, _, rfl, rfl, e2, by rw [← k2.length]; exact hl, q F am _ e3 s3 _ .non⟩
          · exact q.elim
theorem me_extend : MtR X "list.extend" (rMe z .extend) := by
  intro pins s σ H x vs v us Q I rx rv ⟨σ0, F, am, h, d, ds, st, r1, r2, q⟩
  unfold methD at q
  split at q <;> first | exact q.elim | (rename_i e; cases e) | skip
  · rename_i n ys
    cases r1 with
    | ref q1 =>
      rename_i a
      cases e : h[n]? with
      | none => rw [e] at q; exact q.elim
      | some o =>
        cases o with
        | dct xs => rw [e] at q; exact q.elim
        | lst xs =>
          rw [e] at q
          simp only at q
          split at q
          · rename_i hl
            cases r2 with
            | cons ry rn =>
              cases rn
              cases ry with
              | lst eb hb kb =>
                obtain ⟨ws, e2, k2⟩ := st.obj _ _ _ q1 e
                obtain ⟨e3, s3⟩ := st.write q1 (k2.append kb)
                exact mt_extend pins s σ H _ _ v us Q I rx rv ⟨a, _, ws, _, rfl, rfl, e2, eb, by rw [← k2.length, ← kb.length]; exact hl, q F am _ e3 s3 _ .non⟩
          · exact q.elim
theorem RDs.erase : ∀ {c : Rc} {F : Addr → Prop} {am : List Addr} {H : Hp} {ds : List D} {vs : List V} (i : Nat), RDs c F am H ds vs → RDs c F am H (ds.eraseIdx i) (vs.eraseIdx i)
  | _, _, _, _, [], [], _, .nil => .nil
  | _, _, _, _, _ :: _, _ :: _, 0, .cons r t => t
  | _, _, _, _, _ :: _, _ :: _, i + 1, .cons r t => .cons r (RDs.erase i t)
theorem me_pop : MtR X "list.pop" (rMe z .pop) := by
  intro pins s σ H x vs v us Q I rx rv ⟨σ0, F, am, h, d, ds, st, r1, r2, q⟩
  unfold methD at q
  split at q <;> first | exact q.elim | (rename_i e; cases e) | skip
  · rename_i n i
    cases r1 with
    | ref q1 =>
      rename_i a
      cases e : h[n]? with
      | none => rw [e] at q; exact q.elim
      | some o =>
        cases o with
        | dct xs => rw [e] at q; exact q.elim
        | lst xs =>
          rw [e] at q
          simp only at q
          split at q
          · rename_i hl
            simp only [Bool.and_eq_true, decide_eq_true_eq] at hl
            split at q
            · rename_i y hy
              cases r2 with
              | cons ry rn =>
                cases rn
                cases ry
                obtain ⟨ws, e2, k2⟩ := st.obj _ _ _ q1 e
                obtain ⟨e3, s3⟩ := st.write q1 (k2.erase i.toNat)
                obtain ⟨w, hw, rw'⟩ := k2.get hy
                have lt : i.toNat < ws.length := by
                  by_cases hh : i.toNat < ws.length
                  · exact hh
                  · rw [List.getElem?_eq_none (by omega)] at hw; cases hw
                have sx : seqIndex? i ws.length = some i.toNat := by
                  simp only [seqIndex?]
                  rw [if_neg (show ¬ i < 0 by omega), if_pos (by simp; omega)]
                exact mt_popAt pins s σ H _ _ v us Q I rx rv ⟨a, ws, i, i.toNat, w, rfl, rfl, e2, by omega, by omega, sx, hw, q F am _ e3 s3 _ (rw'.ext e3 st.inF)⟩
            · exact q.elim
          · exact q.elim
theorem me_index (hu : X.A.units + 65 < cLine) : MtR X "list.index" (rMe z .index) := by
  intro pins s σ H x vs v us Q I rx rv ⟨σ0, F, am, h, d, ds, st, r1, r2, q⟩
  unfold methD at q
  split at q <;> first | exact q.elim | (rename_i e; cases e) | skip
  rename_i y
  have k := rd_rel st r1
  split at q
  · rename_i xs e1
    rw [e1] at k
    obtain ⟨a, ys, rfl, e2, k2⟩ := k.list
    cases r2 with
    | cons ry rn =>
      cases rn
      split at q
      · rename_i hc
        simp only [Bool.and_eq_true] at hc
        obtain ⟨h1, h2⟩ := hc
        unfold D.eqOk at h1 h2
        simp only [Bool.and_eq_true] at h1 h2
        split at q
        · rename_i kk e3
          obtain ⟨w, f1, f2, f3⟩ := findIdx_spec e3
          have hd : Dp X.K H (.ref a) (.list (D.pys xs)) := by
            have := RR.dp (K := X.K) (RR.lst e2 k2) h1.1
            simpa only [D.py] using this
          refine mt_indexD hu pins s σ H _ _ v us Q I rx rv ⟨a, _, y.py, D.pys xs, kk, w, rfl, rfl, hd, ry.dp h2.1, by simpa only [D.py] using h1.2, h2.2, f1, f2, f3, PostD.at q st (.int _)⟩
        · exact q.elim
      · exact q.elim
  · exact q.elim
theorem me_count (hu : X.A.units + 65 < cLine) : MtR X "list.count" (rMe z .count) := by
  intro pins s σ H x vs v us Q I rx rv ⟨σ0, F, am, h, d, ds, st, r1, r2, q⟩
  unfold methD at q
  split at q <;> first | exact q.elim | (rename_i e; cases e) | skip
  rename_i y
  have k := rd_rel st r1
  split at q
  · rename_i xs e1
    rw [e1] at k
    obtain ⟨a, ys, rfl, e2, k2⟩ := k.list
    cases r2 with
    | cons ry rn =>
      cases rn
      split at q
      · rename_i hc
        simp only [Bool.and_eq_true] at hc
        obtain ⟨h1, h2⟩ := hc
        unfold D.eqOk at h1 h2
        simp only [Bool.and_eq_true] at h1 h2
        have hd : Dp X.K H (.ref a) (.list (D.pys xs)) := by
          have := RR.dp (K := X.K) (RR.lst e2 k2) h1.1
          simpa only [D.py] using this
        exact mt_countD hu pins s σ H _ _ v us Q I rx rv ⟨a, _, y.py, D.pys xs, rfl, rfl, hd, ry.dp h2.1, by simpa only [D.py] using h1.2, h2.2, PostD.at q st (.int _)⟩
      · exact q.elim
  · exact q.elim
theorem few_ok {pos : Pos} {env : Env} : ∀ {xs : List Expr}, xs.all noStar = true → (backTo pos (starEach xs env)).all (fun x => !x.1) = true
  | [], _ => rfl
  | x :: xs, h => by
    simp only [List.all_cons, Bool.and_eq_true] at h
    rw [star_ok h.1]
    show (!false && (backTo pos (starEach xs env)).all (fun x => !x.1)) = true
    rw [few_ok h.2]; rfl
theorem e_meth {m : Me} {a : E} {es : Es} {x y : Expr} {ys : List Expr} {n : Str} {apos cpos : Pos} (ok : Ok z X N G sc hot) (hn : n = m.name) (hb : plainBase x = true) (hl : (apos.endLine == cpos.line) = true) (hc : ys.length < 20) (hs : (y :: ys).all noStar = true)
    (ha : PE X x (tE z a)) (hes : PA X (y :: ys) (tEs z es)) : PE X (.Call (.Attribute x n apos) (y :: ys) [] cpos) (tE z (.meth m a es)) := by
  have hs2 := hs
  simp only [List.all_cons, Bool.and_eq_true] at hs2
  have key : ∀ {id : String}, Slot "list" n id → typeOf (.builtin id) = pure (.type "method_descriptor") → MtR X id (rMe z m) → PE X (.Call (.Attribute x n apos) (y :: ys) [] cpos) (tE z (.meth m a es)) := fun {id} slot ty hm =>
    (pe_bm PySem.F.plainAttrs_list slot ty hm ha hes (base_ok hb) (by
      rw [few_ok hs, Bool.true_and]
      show (true && decide ((y :: ys).length + 0 + 0 < 30)) = true
      rw [Bool.true_and]
      exact decide_eq_true (by simp only [List.length_cons]; omega)) hl (star_ok hs2.1) (plain_ok hs2.2)).imp fun σ H Q ⟨S, F, am, hq, r, q⟩ => by
        simp only [ev] at q
        refine ⟨S, F, am, hq, r, q.bind r.sto.inF fun d h1 F1 am1 H1 _ e1 s1 q1 v rv => ?_⟩
        split at q1
        · rename_i hl
          refine ⟨lst_ty s1 rv hl, S, F1, am1, h1, r.to e1 s1, q1.bind s1.inF fun ds h2 F2 am2 H2 _ e2 s2 q2 vs k => ?_⟩
          exact ⟨σ, F2, am2, h2, d, ds, s2, rv.ext e2 s1.inF, k, q2⟩
        · exact q1.elim
  cases m with
  | append => subst hn; exact key PySem.F.slot_list_append PySem.F.type_list_append me_append
  | index => subst hn; exact key PySem.F.slot_list_index PySem.F.type_list_index (me_index (by have := ok.un; omega))
  | pop => subst hn; exact key PySem.F.slot_list_pop PySem.F.type_list_pop me_pop
  | extend => subst hn; exact key PySem.F.slot_list_extend PySem.F.type_list_extend me_extend
  | count => subst hn; exact key PySem.F.slot_list_count PySem.F.type_list_count (me_count (by have := ok.un; omega))
end
end Ci

set_option Elab.async false
set_option linter.all false
set_option maxRecDepth 100000
set_option maxHeartbeats 4000000
namespace Ci
open PySem PySem.Spec PySem.Calls PyProof.Rows
/-! ### t[::-1] of a tuple -/
section
variable {prog : Program} {w : World} {A : Around} {E : Value → Shared → Prop} {s : Shared}
theorem rev_adjust (n : Nat) : Builtin.Slice.sliceAdjust none none (-1) (n : Int) = ((n : Int) - 1, -1) := rfl
theorem rev_places (n : Nat) : Builtin.Slice.slicePlaces ((n : Int) - 1) (-1) (-1) = n := by
  unfold Builtin.Slice.slicePlaces
  have h1 : ¬ ((-1 : Int) > 0) := by decide
  have h2 : (- -1 : Int) = 1 := by decide
  simp only [h1, if_false, h2, Int.ediv_one]
  split <;> omega
theorem rev_pick (xs : Array Value) : ((List.range xs.size).filterMap fun (k : Nat) => xs[((xs.size : Int) - 1 + (k : Int) * (-1)).toNat]?).toArray = xs.toList.reverse.toArray := by
  have e : ((List.range xs.size).filterMap fun (k : Nat) => xs[((xs.size : Int) - 1 + (k : Int) * (-1)).toNat]?) = ((List.range xs.size).map fun k => xs.size - 1 - k).filterMap (xs[·]?) := by
    rw [List.filterMap_map]
    have key : ∀ l : List Nat, (∀ k ∈ l, k < xs.size) → l.filterMap (fun (k : Nat) => xs[((xs.size : Int) - 1 + (k : Int) * (-1)).toNat]?) = l.filterMap ((fun x => xs[x]?) ∘ fun k => xs.size - 1 - k) := by
      intro l
      induction l with
      | nil => intro _; rfl
      | cons k l ih =>
        intro hl
        have hk := hl k List.mem_cons_self
        have e2 : ((xs.size : Int) - 1 + (k : Int) * (-1)).toNat = xs.size - 1 - k := by omega
        rw [List.filterMap_cons, List.filterMap_cons, ih fun j hj => hl j (List.mem_cons_of_mem _ hj), e2]
        rfl
    exact key _ fun k hk => List.mem_range.mp hk
  rw [e, PySem.W.krv_range, List.filterMap_reverse, PySem.W.krv_all]
theorem getItem_rev {t sl : Addr} {items : Array Value} {vl vu vs : Value} {Q : Value → Shared → Prop} (ht : IsTup s.heap t items) (hs : s.heap.IsSliceOf sl vl vu vs) (pl : IsPart vl none) (pu : IsPart vu none) (ps : IsPart vs (some (-1)))
    (h : Q (.ref s.heap.objs.size) { s with heap := s.heap.push { cls := .type "tuple", data := .seq items.toList.reverse.toArray } }) (hsz : items.size ≤ sizeLine) : wpAny (model prog w) A (getItem (.ref t) (.ref sl)) Q E s := by
  have fit : sizeOk (.seq items.toList.reverse.toArray) := by
    show items.toList.reverse.toArray.size ≤ sizeLine
    rw [List.size_toArray, List.length_reverse, Array.length_toList]
    exact hsz
  obtain ⟨os, hos, hcs, hds⟩ := id hs
  have hT : s.TypeIs (.ref sl) "slice" := ⟨os, hos, hcs⟩
  unfold getItem
  try with_reducible refine wpAny_holding ?_
  first | refine wpAny_bind (wpAny_pure ?_) | skip
  refine wpAny_bind (wpAny_sequenceKey ht.typeIs (by decide) ?_)
  refine wpAny_bind (wpAny_callSpecial?_slot (name := Str.ofString "__getitem__") ht.typeIs PyProof.Rows.slot_tuple_getitem (wpAny_call_entry PyProof.Rows.slot_tuple_getitem ht.typeIs entry_tuple_getitem ?_ (args_tuple_getitem _ _)))
  show wpAny _ _ (Builtin.Tuple.tupleItemsOf (.ref t) >>= _) _ _ s
  refine wpAny_bind (tupleItemsOf_ ht ?_)
  refine wpAny_bind (wpAny_typeOf hT ?_)
  rw [if_pos (by decide)]
  obtain ⟨tk, rfl⟩ : ∃ tk, vs = .int (-1) tk := by cases ps; exact ⟨_, rfl⟩
  refine wpAny_bind ?_
  unfold Builtin.Slice.sliceApplied Builtin.Slice.sliceFields
  refine wpAny_bind (wpAny_bind (wpAny_field hos hds (x := vl) rfl (wpAny_bind (wpAny_field hos hds (x := vu) rfl (wpAny_bind (wpAny_field hos hds (x := .int (-1) tk) rfl (wpAny_pure ?_)))))))
  refine wpAny_bind (HT.slicePart_ (.int (-1) tk) ?_)
  show wpAny _ _ (if (((-1 : Int)) == 0) = true then _ else _) _ _ s
  rw [if_neg (by decide)]
  refine wpAny_bind (HT.slicePart_ pl (wpAny_bind (HT.slicePart_ pu (wpAny_bind (wpAny_pure ?_)))))
  show wpAny _ _ (match Builtin.Slice.sliceAdjust none none (-1) (items.size : Int) with | (lo, hi) => pure (lo, (-1 : Int), Builtin.Slice.slicePlaces lo hi (-1))) _ _ s
  rw [rev_adjust]
  show wpAny _ _ (pure ((items.size : Int) - 1, (-1 : Int), Builtin.Slice.slicePlaces ((items.size : Int) - 1) (-1) (-1))) _ _ s
  rw [rev_places]
  refine wpAny_pure ?_
  have no : ¬ (((items.size : Int) - 1 == 0 && (-1 : Int) == 1 && items.size == items.size) = true) := by
    intro q
    rw [Bool.and_eq_true, Bool.and_eq_true] at q
    exact absurd q.1.2 (by decide)
  show wpAny _ _ (if ((items.size : Int) - 1 == 0 && (-1 : Int) == 1 && items.size == items.size) = true then _ else _) _ _ s
  rw [if_neg no, rev_pick]
  first
    | exact wpAny_bind (m := Builtin.Tuple.tupleExact _) (wpAny_newObj_type (wpAny_pure ⟨_, rfl, wpAny_pure h⟩) fit)
    | exact wpAny_bind (m := Builtin.Tuple.tupleExact _) (wpAny_newObj_type (wpAny_bind (wpAny_pure (wpAny_pure ⟨_, rfl, wpAny_pure h⟩))) fit)
    | exact wpAny_bind (wpAny_bind (m := Builtin.Tuple.tupleExact _) (wpAny_newObj_type (wpAny_pure (wpAny_pure ⟨_, rfl, wpAny_pure h⟩)) fit))
    | exact wpAny_bind (wpAny_bind (m := Builtin.Tuple.tupleExact _) (wpAny_newObj_type (wpAny_pure ⟨_, rfl, wpAny_pure h⟩) fit))
end
end Ci
namespace Ci
open PySem PySem.Spec PyProof.Rows L2
section
variable {X : Cx}
/-- e[::-1], e a list or a tuple -/
def tRev (K : PySem.W.Frag) (te : TE) : TE := fun σ H Q => te σ H fun x H1 => ∃ a xs, x = .ref a ∧ ((SqL K H1 a xs ∧ ∀ p, H1 p = none → Q (.ref p) (upd H1 p (.lst xs.reverse))) ∨ (SqT K H1 a xs ∧ ∀ p, H1 p = none → Q (.ref p) (upd H1 p (.tup xs.reverse))))
theorem pe_rev {e : Expr} {te : TE} {k : Nat} {p1 p2 p3 pos : Pos} (he : PE X e te) : PE X (.Subscript e (.Slice none none (some (.UnaryOp .USub (.Constant (.int 1) k p1) p2)) p3) pos) (tRev X.K te) := by
  refine ⟨fun pins s σ H Q I w => ?_⟩
  refine Subscript_ (thn (he.run pins s σ H _ I w) fun v s1 ⟨x, H1, I1, r1, q1⟩ => ?_)
  obtain ⟨a, xs, ex, hx⟩ := q1
  subst ex
  cases r1
  have step : PO X (some (.UnaryOp .USub (.Constant (.int 1) k p1) p2)) (tPart (tUn (rU fun i => .int (-i)) (tC (.int 1)))) := po_some (pe_un un_neg pe_int)
  refine wpAny_Slice (thn (po_none.run pins s1 σ H1 (fun o H2 => o = none ∧ H2 = H1) I1 ⟨rfl, rfl⟩) fun ul s2 ⟨l, H2, I2, pl, el, e2⟩ => ?_)
  subst el e2
  refine thn (po_none.run pins s2 σ H2 (fun o H3 => o = none ∧ H3 = H2) I2 ⟨rfl, rfl⟩) fun uu s3 ⟨u, H3, I3, pu, eu, e3⟩ => ?_
  subst eu e3
  refine thn (step.run pins s3 σ H3 (fun o H4 => o = some (-1) ∧ H4 = H3) I3 ⟨1, rfl, -1, rfl, rfl, rfl⟩) fun us s4 ⟨o, H4, I4, ps, eo, e4⟩ => ?_
  subst eo e4
  have I5 : Inv X pins σ H4 { s4 with heap := s4.heap.push { cls := .type "slice", data := .fields #[ul, uu, us] } } := I4.kept (t' := s4.toks) fun b ob q => Heap.get?_push_of_some _ q
  show wpAny (model X.prog X.w) X.A (subscriptTail e (.Slice none none (some (.UnaryOp .USub (.Constant (.int 1) k p1) p2)) p3) (.ref a) (.ref s4.heap.objs.size)) (EP X pins σ Q) X.xe { s4 with heap := s4.heap.push { cls := .type "slice", data := .fields #[ul, uu, us] } }
  rcases hx with ⟨hx, q⟩ | ⟨hx, q⟩
  · obtain ⟨its, r, ht, hz⟩ := I5.list hx
    have hlen := r.length
    refine tail_any (ops := [.ref a, .ref s4.heap.objs.size]) ht.isList.typeIs (PySem.slot_list_getitem.lookup) ?_ (by with_unfolding_all rfl)
    refine wpAny_getItem_list_slice ht.isList (Heap.IsSliceOf.new _ ul uu us) pl pu ps (by decide) ?_ (by rw [List.size_toArray]; omega)
    rw [PySem.W.krv_pick]
    refine ⟨.ref _, _, I5.laid (t' := s4.toks) (o := .lst xs.reverse) (fun b ob y => Heap.get?_push_of_some _ y) (Nat.le_refl _) ?_, rfl, q _ (I5.hok.fresh (Nat.le_refl _))⟩
    exact ⟨by rw [List.length_reverse]; exact hz, _, 0, r.reverse, Heap.get?_push_size _ rfl⟩
  · obtain ⟨its, r, ht, hz⟩ := I5.tuple hx
    have hlen := r.length
    refine tail_any (ops := [.ref a, .ref s4.heap.objs.size]) ht.typeIs (PyProof.Rows.slot_tuple_getitem.lookup) ?_ (by with_unfolding_all rfl)
    refine getItem_rev ht (Heap.IsSliceOf.new _ ul uu us) pl pu ps ?_ (by rw [List.size_toArray]; omega)
    refine ⟨.ref _, _, I5.laid (t' := s4.toks) (o := .tup xs.reverse) (fun b ob y => Heap.get?_push_of_some _ y) (Nat.le_refl _) ?_, rfl, q _ (I5.hok.fresh (Nat.le_refl _))⟩
    exact ⟨by rw [List.length_reverse]; exact hz, _, r.reverse, IsTup.new _ _⟩
end
end Ci

set_option Elab.async false
set_option linter.all false
set_option maxRecDepth 100000
set_option maxHeartbeats 4000000
namespace Ci
open PySem PySem.Spec PyProof.Rows L2
section
variable {z : Si} {X : Cx} {N : List Str} {G : GT} {sc : Scope}
theorem rds_rg {c : Rc} {F : Addr → Prop} {am : List Addr} {H : Hp} (i : Int) : ∀ l : List Nat, RDs c F am H (l.map fun k => D.int (i + (k : Nat))) (l.map fun k => V.int (i + (k : Nat)))
  | [] => .nil
  | k :: l => .cons (.int _) (rds_rg i l)
/-- the list of a range, by data -/
theorem rg_at {t : Bool} {x y : D} {F : Addr → Prop} {am : List Addr} {H : Hp} {h : Hs} {σ : SV} {Q : VK} {v u : V} (st : Sto z.rc F am H h) (r1 : RD z.rc F am H x v) (r2 : RD z.rc F am H y u) (q : SatR z σ F am H (liftO (rlistD t x y) h) (PostD z Q)) :
    ∃ i j, v = .int i ∧ u = .int j ∧ RgOk i j ∧ ∀ p, H p = none → Q (.ref p) (upd H p (if t then .tup (rgV i j) else .lst (rgV i j))) := by
  unfold rlistD at q
  split at q
  · rename_i i j
    obtain ⟨c, q⟩ := ite_some q
    cases r1; cases r2
    simp only [Bool.and_eq_true, decide_eq_true_eq] at c
    refine ⟨i, j, rfl, rfl, ⟨by omega, by omega, by omega, by omega, by omega⟩, fun p hp => ?_⟩
    cases t with
    | true => exact PostD.tup q st (rds_rg i _) hp
    | false => exact PostD.lst q st (rds_rg i _) hp
  · exact q.elim
theorem e_rlist {t : Bool} {a b : E} {y y2 : Str} {xs : List Expr} {p p2 p3 p4 : Pos} (ok : Ok z X N G sc false) (g1 : gl sc y = true) (h1 : isTy G y (if t then "tuple" else "list") = true) (e1 : y = (if t then ("tuple" : Str) else ("list" : Str)))
    (g2 : gl sc y2 = true) (h2 : isTy G y2 "range" = true) (e2 : y2 = ("range" : Str))
    (hx : (∃ x, xs = [x] ∧ a.isOmit = true ∧ noStar x = true ∧ PE X x (tE z b)) ∨ ∃ x x', xs = [x, x'] ∧ a.isOmit = false ∧ noStar x = true ∧ noStar x' = true ∧ PE X x (tE z a) ∧ PE X x' (tE z b)) :
    PE X (.Call (.Name y p) [.Call (.Name y2 p2) xs [] p3] [] p4) (tE z (.rlist t a b)) := by
  obtain ⟨l1, l2, l3⟩ := gl_ok ok g1
  obtain ⟨m1, m2, m3⟩ := gl_ok ok g2
  obtain ⟨t1, t2⟩ := ty_at ok h1
  obtain ⟨u1, u2⟩ := ty_at ok h2
  subst e2
  have rg : ∃ te, PRg X (.Call (.Name "range" p2) xs [] p3) te ∧ ∀ {σ H Q}, tE z (.rlist t a b) σ H Q → te σ H fun i j H1 => RgOk i j ∧ ∀ q, H1 q = none → Q (.ref q) (upd H1 q (if t then .tup (rgV i j) else .lst (rgV i j))) := by
    rcases hx with ⟨x, rfl, ho, hs, hb⟩ | ⟨x, x', rfl, ho, hs, hs', ha, hb⟩
    · refine ⟨_, prg_1 m1 u1 hb (star_ok hs), fun {σ H Q} ⟨S, F, am, h, r, q⟩ => ?_⟩
      simp only [ev, ho, if_true] at q
      have q : SatR z σ F am H ((ev z.sub z.call b S h).bind fun y h2 => liftO (rlistD t (.int 0) y) h2) (PostD z Q) := q
      refine one r q fun d v F am H h r1 r2 q1 => ?_
      obtain ⟨i, j, e1, e2, e3, e4⟩ := rg_at r1.sto (.int 0) r2 q1
      cases e1
      exact ⟨j, e2, e3, e4⟩
    · refine ⟨_, prg_2 m1 u1 ha hb (star_ok hs) (star_ok hs') (plain_ok (by simp only [List.all_cons, hs', List.all_nil, Bool.and_self])), fun {σ H Q} ⟨S, F, am, h, r, q⟩ => ?_⟩
      simp only [ev, ho, Bool.false_eq_true, if_false] at q
      refine two r q fun d e v u F am H h r1 r2 r3 q1 => ?_
      obtain ⟨i, j, e1, e2, e3, e4⟩ := rg_at r1.sto r2 r3 q1
      exact ⟨i, j, e1, e2, e3, e4⟩
  obtain ⟨te, hp, himp⟩ := rg
  cases t with
  | true =>
    subst e1
    exact (pe_tupRg (p := p) (pos := p4) (ok.calm rfl) l1 t1 hp).imp fun σ H Q q => himp q
  | false =>
    subst e1
    exact (pe_listRg (p := p) (pos := p4) (ok.calm rfl) l1 t1 hp).imp fun σ H Q q => himp q
theorem RDs.rev {c : Rc} {F : Addr → Prop} {am : List Addr} {H : Hp} : ∀ {ds : List D} {vs : List V}, RDs c F am H ds vs → RDs c F am H ds.reverse vs.reverse
  | _, _, .nil => .nil
  | _, _, .cons r k => by
    rw [List.reverse_cons, List.reverse_cons]
    exact (RDs.rev k).append (.cons r .nil)
theorem e_rev {a : E} {x : Expr} {k : Nat} {p1 p2 p3 pos : Pos} (ha : PE X x (tE z a)) : PE X (.Subscript x (.Slice none none (some (.UnaryOp .USub (.Constant (.int 1) k p1) p2)) p3) pos) (tE z (.rev a)) :=
  (pe_rev ha).imp fun σ H Q ⟨S, F, am, hs, r, q⟩ => one r (by simpa only [ev] using q) fun d v F am H h r1 r2 q1 => by
    have k1 := rd_rel r1.sto r2
    generalize rd h d = e at k1 q1
    unfold revD at q1
    split at q1
    · obtain ⟨a, xs, rfl, e1, n1, k2⟩ := k1.tuple
      exact ⟨a, xs, rfl, .inr ⟨SqT.of e1, fun p hp => PostD.tup q1 r1.sto k2.rev hp⟩⟩
    · obtain ⟨a, xs, rfl, e1, k2⟩ := k1.list
      exact ⟨a, xs, rfl, .inl ⟨SqL.of e1, fun p hp => PostD.lst q1 r1.sto k2.rev hp⟩⟩
    · exact q1.elim
end
end Ci

set_option Elab.async false
set_option linter.all false
set_option maxRecDepth 100000
set_option maxHeartbeats 4000000
namespace Ci
open PySem PySem.Spec PyProof.Rows L2
section
variable {z : Si} {X : Cx} {N : List Str} {G : GT} {sc : Scope} {hot : Bool}
/-- d.get(k, v) -/
theorem e_dget {a k d : E} {x y w : Expr} {n : Str} {apos cpos : Pos} (ok : Ok z X N G sc hot) (hn : n = ("get" : Str)) (hb : plainBase x = true) (hl : (apos.endLine == cpos.line) = true) (hs1 : noStar y = true) (hs2 : noStar w = true)
    (ha : PE X x (tE z a)) (hk : PE X y (tE z k)) (hd : PE X w (tE z d)) : PE X (.Call (.Attribute x n apos) [y, w] [] cpos) (tE z (.dget a k d)) := by
  subst hn
  have m : M2 X x "get" apos y w cpos := ⟨base_ok hb, by
    rw [few_ok (by simp [hs1, hs2]), Bool.true_and]
    rfl, hl, by rw [star_ok hs1, star_ok hs2]; rfl⟩
  refine (pe_dget2 (by have := ok.un; omega) ha hk hd m).imp fun σ H Q ⟨S, F, am, h, r, q⟩ => ?_
  simp only [ev] at q
  refine ⟨S, F, am, h, r, q.bind r.sto.inF fun x1 h1 F1 am1 H1 _ e1 s1 q1 v rv => ?_⟩
  cases e : dct h1 x1 with
  | none => rw [e] at q1; exact q1.elim
  | some kvs =>
    rw [e] at q1
    obtain ⟨a', ws, rfl, g1, g2, g3⟩ := dct_rel s1 rv e
    refine ⟨a', rfl, .inl ⟨ws, .inl g1⟩, S, F1, am1, h1, r.to e1 s1, SatR.bind s1.inF q1 fun y1 h2 F2 am2 H2 _ e2 s2 q2 u ru => ⟨S, F2, am2, h2, (r.to e1 s1).to e2 s2, SatR.bind s2.inF q2 fun w1 h3 F3 am3 H3 _ e3 s3 q3 t rt => ?_⟩⟩
    have rv3 := (rv.ext e2 s1.inF).ext e3 s2.inF
    have ru3 := ru.ext e3 s2.inF
    cases e4 : dct h3 x1 with
    | none => rw [e4] at q3; exact q3.elim
    | some kv3 =>
      cases e5 : kyOf y1 with
      | none => rw [e4, e5] at q3; exact q3.elim
      | some ky =>
        rw [e4, e5] at q3
        obtain ⟨a2, ha2, o, g, hv⟩ := dget_of s3 rv3 e4 ru3 e5
        cases ha2
        refine ⟨o, g, ?_⟩
        rcases hv with ⟨h1, h2⟩ | ⟨d', v', h1, h2, r'⟩
        · subst h2
          simp only [h1] at q3
          exact SatR.now q3 s3 _ rt
        · subst h2
          simp only [h1] at q3
          exact SatR.now q3 s3 _ r'
/-- [a, b, ..] * n as a changing list -/
theorem e_mrep {a b : E} {x y : Expr} {pos : Pos} (ha : PE X x (tE z a)) (hb : PE X y (tE z b)) : PE X (.BinOp x .Mult y pos) (tE z (.mrep a b)) :=
  (pe_op op_rep ha hb).imp fun σ H Q ⟨S, F, am, hs, r, q⟩ => two r (by simpa only [ev] using q) fun d e v u F am H h r1 r2 r3 q1 => by
    have k := rd_rel r1.sto r2
    split at q1
    · rename_i xs kk e1
      rw [e1] at k
      obtain ⟨l, ys, rfl, e2, k2⟩ := k.list
      cases r3
      split at q1
      · rename_i c
        simp only [Bool.and_eq_true, decide_eq_true_eq] at c
        obtain ⟨⟨c1, c2⟩, c3⟩ := c
        refine ⟨l, kk, ys, rfl, rfl, e2, by omega, by omega, ?_, fun p hp => ?_⟩
        · rw [← k2.length, sizeLine_eq]
          exact Nat.le_trans (Nat.mul_le_mul c3 (show _ ≤ 2000 by omega)) (by decide)
        · obtain ⟨e3, s3, np⟩ := r1.sto.guard hp (List.replicate kk.toNat ys).flatten
          have q2 : SatR z σ F am H ((.ok (List.replicate kk.toNat xs).flatten h : R (List D)).bind fun xs h1 => .ok (.ref h1.length) (h1 ++ [.lst xs])) (PostD z Q) := q1
          exact ml_of r1.sto q2 _ _ _ p _ e3 s3 upd_same ((k2.flatRep kk.toNat).ext e3 r1.sto.inF) (.inr rfl) np hp
      · exact q1.elim
    · exact q1.elim
/-- list + list as a changing list -/
theorem e_mcat {a b : E} {x y : Expr} {pos : Pos} (ha : PE X x (tE z a)) (hb : PE X y (tE z b)) : PE X (.BinOp x .Add y pos) (tE z (.mcat a b)) :=
  (pe_op op_cat ha hb).imp fun σ H Q ⟨S, F, am, hs, r, q⟩ => two r (by simpa only [ev] using q) fun d e v u F am H h r1 r2 r3 q1 => by
    have k := rd_rel r1.sto r2
    have k' := rd_rel r1.sto r3
    split at q1
    · rename_i xs ys e1 e2
      rw [e1] at k
      rw [e2] at k'
      obtain ⟨l, vs, rfl, e3, k2⟩ := k.list
      obtain ⟨l', ws, rfl, e4, k3⟩ := k'.list
      split at q1
      · rename_i c
        refine ⟨l, l', vs, ws, rfl, rfl, e3, e4, by rw [← k2.length, ← k3.length]; exact okL_le c, fun p hp => ?_⟩
        obtain ⟨e5, s5, np⟩ := r1.sto.guard hp (vs ++ ws)
        have q2 : SatR z σ F am H ((.ok (xs ++ ys) h : R (List D)).bind fun xs h1 => .ok (.ref h1.length) (h1 ++ [.lst xs])) (PostD z Q) := q1
        exact ml_of r1.sto q2 _ _ _ p _ e5 s5 upd_same ((k2.append k3).ext e5 r1.sto.inF) (.inr rfl) np hp
      · exact q1.elim
    · exact q1.elim
/-- {} -/
theorem e_mdct {pos : Pos} : PE X (.Dict [] [] pos) (tE z .mdct) := by
  refine (pe_dnewK).imp fun σ H Q ⟨S, F, am, h, r, q⟩ => ?_
  simp only [ev] at q
  intro p hp
  have q2 : SatR z σ F am H ((.ok [] h : R (List (Ky × D))).bind fun ps h1 => .ok (.ref h1.length) (h1 ++ [.dct (dputs [] ps)])) (PostD z Q) := q
  obtain ⟨e3, s3, np⟩ := r.sto.guardO (.dK []) hp
  exact md_of r.sto q2 _ _ _ p [] e3 s3 upd_same RKv.nil (.inr rfl) np hp
end
section
variable {c : Rc} {F : Addr → Prop} {am : List Addr} {H : Hp} {h : Hs} {n : Nat} {a : Addr}
theorem Sto.writeD {kvs : List (Ky × D)} {ws : List (Key × V)} (s : Sto c F am H h) (q : am[n]? = some a) (k : RKv c F am H kvs ws) : Ext F am H F am (upd H a (.dK ws)) ∧ Sto c F am (upd H a (.dK ws)) (h.set n (.dct kvs)) := by
  have hm : a ∈ am := List.mem_of_getElem? q
  have hF := s.inF a hm
  refine ⟨⟨⟨[], by simp⟩, fun b o e nb => by rw [upd_ne (fun z => nb (by rw [z]; exact hm))]; exact e, fun _ _ _ x => x, fun _ x => x, fun _ x y => absurd x y⟩, s.nd, by rw [List.length_set]; exact s.len, s.inF, fun b x => ?_, fun i b o q1 q2 => ?_⟩
  · by_cases e : b = a
    · subst e; exact ⟨_, upd_same⟩
    · rw [upd_ne e]; exact s.ok b x
  · by_cases e : n = i
    · subst e
      rw [q] at q1
      cases q1
      have hl : n < h.length := by rw [← s.len]; exact (List.getElem?_eq_some_iff.mp q).1
      rw [List.getElem?_set_self hl] at q2
      cases q2
      exact ⟨ws, upd_same, k.1, k.2.poke hF⟩
    · rw [List.getElem?_set_ne e] at q2
      have hne : b ≠ a := fun z => by
        subst z
        obtain ⟨l1, e1⟩ := List.getElem?_eq_some_iff.mp q
        obtain ⟨l2, e2⟩ := List.getElem?_eq_some_iff.mp q1
        have pw := List.pairwise_iff_getElem.mp s.nd
        rcases Nat.lt_or_gt_of_ne e with z | z
        · exact pw n i l1 l2 z (e1.trans e2.symm)
        · exact pw i n l2 l1 z (e2.trans e1.symm)
      have z := s.obj i b o q1 q2
      cases o with
      | lst es =>
        obtain ⟨xs, q3, q4⟩ := z
        exact ⟨xs, by rw [upd_ne hne]; exact q3, q4.poke hF⟩
      | dct es =>
        obtain ⟨xs, q3, qk, q4⟩ := z
        exact ⟨xs, by rw [upd_ne hne]; exact q3, qk, q4.poke hF⟩
end
/-- o[i] = v of a list or a dict -/
theorem set_both {X : Cx} (hu : X.A.units + 1 < cLine) : PSet X (fun o i v H Q => rSetL o i v H Q ∨ rSetD o i v H Q) := by
  intro pins s σ H o i v ov iv u Q I ro ri rv h
  rcases h with h | h
  · exact set_list pins s σ H o i v ov iv u Q I ro ri rv h
  · exact set_dict hu pins s σ H o i v ov iv u Q I ro ri rv h
end Ci

set_option Elab.async false
set_option linter.all false
set_option maxRecDepth 100000
set_option maxHeartbeats 8000000
namespace Ci
open PySem PySem.Spec PyProof.Rows L2
/-! ### every expression -/
/-- an expression does as the evaluator says, as a value and as a test -/
structure GoodE (z : Si) (X : Cx) (x : Expr) (e : E) : Prop where
  pe : PE X x (tE z e)
  pt : ∀ n, testOk n x = true → PT X x (tB z e)
  pw : ∀ n, testOk n x = true → isBool x = true → PW X x (tB z e)
section
variable {z : Si} {X : Cx} {N : List Str} {G : GT} {sc : Scope} {hot : Bool}
theorem pt_never {x : Expr} {e : E} (h : ∀ S hs, ev z.sub z.call e S hs = .bad) : PT X x (tB z e) := ⟨fun pins s σ H Q I ⟨S, F, am, hs, r, q⟩ => by
  unfold tst at q
  rw [h] at q; exact q.elim⟩
theorem pw_never {x : Expr} {e : E} (h : ∀ S hs, ev z.sub z.call e S hs = .bad) : PW X x (tB z e) := ⟨fun w pins s σ H Q I ⟨S, F, am, hs, r, q⟩ => by
  unfold tst at q
  rw [h] at q; exact q.elim⟩
theorem good_plain {x : Expr} {e : E} (ha : PE X x (tE z e)) (he : ∀ whole, isTrue x X.env whole = (do let v ← whole; standAt x.pos; holding [v] (truthy v))) (hb : isBool x = false) : GoodE z X x e :=
  ⟨ha, fun _ _ => pt_gen ha he, fun _ _ h => by rw [hb] at h; cases h⟩
theorem good_cmp {x : Expr} {e : E} (ha : PE X x (tE z e)) (ht : PT X x (tB z e)) (hb : isBool x = false) : GoodE z X x e :=
  ⟨ha, fun _ _ => ht, fun _ _ h => by rw [hb] at h; cases h⟩
theorem good_list {x : Expr} {l : L} (h : PE X x (tL z l)) (he : ∀ whole, isTrue x X.env whole = (do let v ← whole; standAt x.pos; holding [v] (truthy v))) (hb : isBool x = false) : GoodE z X x (.il l) ∧ GoodE z X x (.ml l) :=
  ⟨good_plain (e_il h) he hb, good_plain (e_ml h) he hb⟩
/-- the parts of a comprehension -/
structure CompP (z : Si) (X : Cx) (N : List Str) (sc' : Scope) (elt tgx iter : Expr) (ifs : List Expr) (el : E) (own : List Nat) (tg : Tg) (wi : TI) (cond : E) : Prop where
  hi : PI X tgx iter wi
  blk : BlkOk X.N X.env.scope sc' (own.filterMap fun k => N[k]?.map fun y => (y, k))
  own2 : (own.filterMap fun k => N[k]?.map fun y => (y, k)).map (·.2) = own
  hg : ∀ s H C cl fp, PG (X.blk s H sc' (compEnvC sc' cl C X.env) fp) tgx (tG z.mute tg)
  ht : ∀ s H C cl fp, PTs (X.blk s H sc' (compEnvC sc' cl C X.env) fp) ifs (tCond z.mute cond)
  he : ∀ s H C cl fp, PE (X.blk s H sc' (compEnvC sc' cl C X.env) fp) elt (tE z.mute el)
  hown : ∀ i ∈ tgIx tg, i ∈ own
  fld : noSet iter = true
  calm : X.calm = true
  nd : X.N.Nodup
theorem CompP.pe {elt tgx iter : Expr} {ifs : List Expr} {sc' : Scope} {pos : Pos} {el : E} {own : List Nat} {tg : Tg} {it : It} {cond : E} (c : CompP z X N sc' elt tgx iter ifs el own tg (tI z it) cond) : PE X (.ListComp elt [⟨tgx, iter, ifs, 0⟩] sc' pos) (tL z (.comp el own tg it cond)) := by
  have hp : PE X (.ListComp elt [⟨tgx, iter, ifs, 0⟩] sc' pos) _ := pe_lc (own := own.filterMap fun k => N[k]?.map fun y => (y, k)) c.calm c.nd c.hi c.blk c.hg c.ht c.he (fold_ok c.fld)
  rw [c.own2] at hp
  exact hp.imp fun σ H Q q => lc_sim c.hown q
theorem CompP.pc {elt tgx iter : Expr} {ifs : List Expr} {sc' : Scope} {pos : Pos} {el : E} {own : List Nat} {tg : Tg} {e : Bool} {i : Nat} {cond : E} (c : CompP z X N sc' elt tgx iter ifs el own tg (ovT X e i) cond) : PE X (.ListComp elt [⟨tgx, iter, ifs, 0⟩] sc' pos) (tL z (.compC e el own tg i cond)) := by
  have hp : PE X (.ListComp elt [⟨tgx, iter, ifs, 0⟩] sc' pos) _ := pe_lc (own := own.filterMap fun k => N[k]?.map fun y => (y, k)) c.calm c.nd c.hi c.blk c.hg c.ht c.he (fold_ok c.fld)
  rw [c.own2] at hp
  cases e with
  | true => exact hp.imp fun σ H Q q => cc_sim true c.hown q
  | false => exact (pe_lock hp).imp fun σ H Q q => cc_sim false c.hown q
theorem over_ok {e : Bool} {j : Nat} {t x : Expr} (ok : Ok z X N G sc hot) (h : overC N G e sc j t x = true) : PI X t x (ovT X e j) := by
  unfold overC at h
  split at h
  · simp only [Bool.and_eq_true, beq_iff_eq] at h
    obtain ⟨v1, v2, v3⟩ := vis_ok ok h.2
    exact pi_keys (pe_var (by rw [ok.hN]; exact h.1) v1 v2 v3)
  · simp only [Bool.and_eq_true, beq_iff_eq] at h
    obtain ⟨⟨⟨⟨⟨h1, h2⟩, rfl⟩, h3⟩, h4⟩, h5⟩ := h
    obtain ⟨v1, v2, v3⟩ := vis_ok ok h5
    obtain ⟨g1, g2, g3⟩ := gl_ok ok h1
    cases t <;> first | cases h3 | skip
    exact pi_enumA g1 (ty_at ok h2).1 (pa_cons (pe_var (by rw [ok.hN]; exact h4) v1 v2 v3) pa_nil rfl) rfl
  · cases h
theorem CompP.pd {kx vx tgx iter : Expr} {ifs : List Expr} {sc' : Scope} {pos : Pos} {k v : E} {own : List Nat} {tg : Tg} {it : It} {cond : E} (c : CompP z X N sc' kx tgx iter ifs k own tg (tI z it) cond)
    (hv : ∀ s H C cl fp, PE (X.blk s H sc' (compEnvC sc' cl C X.env) fp) vx (tE z.mute v)) : PE X (.DictComp kx vx [⟨tgx, iter, ifs, 0⟩] sc' pos) (tE z (.dc k v own tg it cond)) := by
  have hp : PE X (.DictComp kx vx [⟨tgx, iter, ifs, 0⟩] sc' pos) _ := pe_dc (own := own.filterMap fun k => N[k]?.map fun y => (y, k)) c.calm c.nd c.hi c.blk c.hg c.ht c.he hv (fold_ok c.fld)
  rw [c.own2] at hp
  exact hp.imp fun σ H Q q => dc_sim c.hown q
theorem comp_parts {elt tgx iter : Expr} {ifs : List Expr} {sc' : Scope} {el : E} {own : List Nat} {tg : Tg} {wi : TI} {cond : E} (ok : Ok z X N G sc false)
    (hc : (blkC N sc sc' (own.filterMap fun k => N[k]?.map fun y => (y, k)) && (own.filterMap fun k => N[k]?.map fun y => (y, k)).map (·.2) == own && noSet iter && (tgIx tg).all (own.contains ·) && own.all (fun k => match N[k]? with | some y => !(sc'.names.lookup y == some .free) | none => false)) = true)
    (hi : PI X tgx iter wi) (hg : tgB N (relS sc' sc) tg tgx = true)
    (ht : ∀ s H C cl fp, PTs (X.blk s H sc' (compEnvC sc' cl C X.env) fp) ifs (tCond z.mute cond))
    (he : ∀ s H C cl fp, PE (X.blk s H sc' (compEnvC sc' cl C X.env) fp) elt (tE z.mute el)) : CompP z X N sc' elt tgx iter ifs el own tg wi cond := by
  simp only [Bool.and_eq_true, beq_iff_eq, List.all_eq_true] at hc
  obtain ⟨⟨⟨⟨c1, c2⟩, c3⟩, c4⟩, c5⟩ := hc
  have hown : ∀ i ∈ tgIx tg, i ∈ own := fun i hi => by simpa using c4 i hi
  refine ⟨hi, by rw [ok.hN, ok.hsc]; exact blkOk_by c1, c2, fun s H C cl fp => g_ok (X := X.blk s H sc' (compEnvC sc' cl C X.env) fp) (z := z.mute) (N := N) (sc := relS sc' sc) (P := (· ∈ own)) ⟨ok.hN, ok.nd, (ok.blk s H C cl fp sc').hsc, ok.calm rfl, fun i y hi hy hl => ?_⟩ tg tgx hg hown, ht, he, hown, c3, ok.calm rfl, by rw [ok.hN]; exact ok.nd⟩
  obtain ⟨k', e1, e2⟩ := lookup_relS hl
  have q := c5 i hi
  rw [hy] at q
  simp only [Bool.not_eq_true'] at q
  show (sc'.names.lookup y == some .cell) = true
  rcases e2 with e2 | ⟨e2, _⟩
  · rw [e1, ← e2]; rfl
  · rw [e1, e2] at q; cases q
/-- a list's expression -/
structure GoodL (z : Si) (X : Cx) (N : List Str) (x : Expr) (l : L) : Prop where
  pe : PE X x (tL z l)
  tru : ∀ whole, isTrue x X.env whole = (do let v ← whole; standAt x.pos; holding [v] (truthy v))
  nb : isBool x = false
  cp : ∀ a b c d, x = .ListComp a b c d → ∃ t i ifs el own tg wi cond, b = [⟨t, i, ifs, 0⟩] ∧ CompP z X N c a t i ifs el own tg wi cond ∧
    (∃ lk : Bool, ∀ σ H Q, tL z l σ H Q → LkE lk (tLc wi (tG z.mute tg) (tCond z.mute cond) (tE z.mute el) own) σ H Q) ∧
    ∀ el2 own2 tg2 it2 cond2, l = .comp el2 own2 tg2 it2 cond2 → el2 = el ∧ own2 = own ∧ tg2 = tg ∧ cond2 = cond
theorem all_ok (n : Nat) : (∀ (e : E) (z : Si) (X : Cx) (sc : Scope) (hot : Bool) (x : Expr), sizeOf e < n → Ok z X N G sc hot → chkE N G hot sc e x = true → GoodE z X x e) ∧
    (∀ (es : Es) (z : Si) (X : Cx) (sc : Scope) (hot : Bool) (xs : List Expr), sizeOf es < n → Ok z X N G sc hot → chkEs N G hot sc es xs = true → PA X xs (tEs z es)) ∧
    (∀ (l : L) (z : Si) (X : Cx) (sc : Scope) (hot : Bool) (x : Expr), sizeOf l < n → Ok z X N G sc hot → chkL N G hot sc l x = true → GoodL z X N x l) ∧
    (∀ (it : It) (z : Si) (X : Cx) (sc : Scope) (hot : Bool) (t x : Expr), sizeOf it < n → Ok z X N G sc hot → chkI N G hot sc t it x = true → PI X t x (tI z it)) := by
  induction n with
  | zero => exact ⟨fun _ _ _ _ _ _ h => absurd h (Nat.not_lt_zero _), fun _ _ _ _ _ _ h => absurd h (Nat.not_lt_zero _), fun _ _ _ _ _ _ h => absurd h (Nat.not_lt_zero _), fun _ _ _ _ _ _ _ h => absurd h (Nat.not_lt_zero _)⟩
  | succ n ih =>
    obtain ⟨iE, iEs, iL, iI⟩ := ih
    refine ⟨fun e z X sc hot x hs ok h => ?_, fun es z X sc hot xs hs ok h => ?_, fun l z X sc hot x hs ok h => ?_, fun it z X sc hot t x hs ok h => ?_⟩
    · unfold chkE at h
      split at h <;> (try simp only [Bool.and_eq_true, beq_iff_eq, Bool.not_eq_true'] at h) <;> (try simp only [E.nope.sizeOf_spec, E.bin.sizeOf_spec, E.neg.sizeOf_spec, E.not_.sizeOf_spec, E.and_.sizeOf_spec, E.or_.sizeOf_spec, E.ife.sizeOf_spec, E.cmp.sizeOf_spec, E.cmp2.sizeOf_spec, E.cmp3.sizeOf_spec, E.isN.sizeOf_spec, E.noN.sizeOf_spec, E.tup.sizeOf_spec, E.il.sizeOf_spec, E.ml.sizeOf_spec, E.ix.sizeOf_spec, E.sl.sizeOf_spec, E.rev.sizeOf_spec, E.rlist.sizeOf_spec, E.dc.sizeOf_spec, E.call.sizeOf_spec, E.pcall.sizeOf_spec, E.vcall.sizeOf_spec, E.pvcall.sizeOf_spec, E.isI.sizeOf_spec, E.isC.sizeOf_spec, E.attr.sizeOf_spec, E.meth.sizeOf_spec, E.blt.sizeOf_spec, E.dget.sizeOf_spec, E.mrep.sizeOf_spec, E.mcat.sizeOf_spec] at hs)
      · -- nope
        exact ⟨e_never fun _ _ => by simp only [ev], fun _ _ => pt_never fun _ _ => by simp only [ev], fun _ _ _ => pw_never fun _ _ => by simp only [ev]⟩
      · exact good_plain (e_var ok h.1 h.2) (fun _ => rfl) rfl
      · exact good_plain (e_lit h) (fun _ => rfl) rfl
      · obtain ⟨⟨rfl, h2⟩, h3⟩ := h
        exact good_plain (e_glb ok h2 h3) (fun _ => rfl) rfl
      · exact good_plain (e_fn ok h.1 h.2) (fun _ => rfl) rfl
      · obtain ⟨⟨rfl, h2⟩, h3⟩ := h
        exact good_plain (e_bin ok (iE _ z X sc hot _ (by omega) ok h2).pe (iE _ z X sc hot _ (by omega) ok h3).pe) (fun _ => rfl) rfl
      · exact good_plain (e_neg (iE _ z X sc hot _ (by omega) ok h).pe) (fun _ => rfl) rfl
      · -- not
        have g := iE _ z X sc hot _ (by omega) ok h
        refine ⟨e_not g.pe, fun n ht => ?_, fun _ _ hb => (nomatch hb)⟩
        cases n with
        | zero => cases ht
        | succ n => exact t_not (g.pt n ht)
      · -- and
        rename_i a b x' y r p
        have g := iE a z X sc hot _ (by omega) ok h.1
        have g2 := iE b z X sc hot _ (by omega) ok h.2
        have key : PE X (.BoolOp .And (y :: r) p) (tE z b) ∧ ∀ n, ((y :: r).all (testOk n)) = true → PW X (.BoolOp .And (y :: r) p) (tB z b) := by
          cases r with
          | nil => exact ⟨pe_one g2.pe, fun n ht => pw_and1 (g2.pt n (by simpa using ht))⟩
          | cons w r => exact ⟨g2.pe, fun n ht => g2.pw (n + 1) ht rfl⟩
        have w : ∀ n, testOk n (.BoolOp .And (x' :: y :: r) p) = true → PW X (.BoolOp .And (x' :: y :: r) p) (tB z (.and_ a b)) := fun n ht => by
          cases n with
          | zero => cases ht
          | succ n =>
            have ht : ((x' :: y :: r).all (testOk n)) = true := ht
            rw [List.all_cons, Bool.and_eq_true] at ht
            exact t_and (g.pt n ht.1) (key.2 n ht.2)
        exact ⟨e_and g.pe key.1, fun n ht => (w n ht).pt, fun n ht _ => w n ht⟩
      · -- or
        rename_i a b x' y r p
        have g := iE a z X sc hot _ (by omega) ok h.1
        have g2 := iE b z X sc hot _ (by omega) ok h.2
        have key : PE X (.BoolOp .Or (y :: r) p) (tE z b) ∧ ∀ n, ((y :: r).all (testOk n)) = true → PW X (.BoolOp .Or (y :: r) p) (tB z b) := by
          cases r with
          | nil => exact ⟨pe_one g2.pe, fun n ht => pw_or1 (g2.pt n (by simpa using ht))⟩
          | cons w r => exact ⟨g2.pe, fun n ht => g2.pw (n + 1) ht rfl⟩
        have w : ∀ n, testOk n (.BoolOp .Or (x' :: y :: r) p) = true → PW X (.BoolOp .Or (x' :: y :: r) p) (tB z (.or_ a b)) := fun n ht => by
          cases n with
          | zero => cases ht
          | succ n =>
            have ht : ((x' :: y :: r).all (testOk n)) = true := ht
            rw [List.all_cons, Bool.and_eq_true] at ht
            exact t_or (g.pt n ht.1) (key.2 n ht.2)
        exact ⟨e_or g.pe key.1, fun n ht => (w n ht).pt, fun n ht _ => w n ht⟩
      · -- a if c else b
        obtain ⟨⟨⟨h1, h2⟩, h3⟩, h4⟩ := h
        refine ⟨e_ife ((iE _ z X sc hot _ (by omega) ok h1).pt 30 h2) (iE _ z X sc hot _ (by omega) ok h3).pe (iE _ z X sc hot _ (by omega) ok h4).pe, fun n ht => ?_, fun _ _ hb => (nomatch hb)⟩
        cases n <;> cases ht
      · obtain ⟨⟨⟨rfl, h2⟩, h3⟩, h4⟩ := h
        have g3 := (iE _ z X sc hot _ (by omega) ok h3).pe
        have g4 := (iE _ z X sc hot _ (by omega) ok h4).pe
        exact good_cmp (e_cmp ok h2 g3 g4) (t_cmp ok h2 g3 g4) rfl
      · obtain ⟨⟨⟨⟨⟨rfl, rfl⟩, h2⟩, h3⟩, h4⟩, h5⟩ := h
        have g3 := (iE _ z X sc hot _ (by omega) ok h3).pe
        have g4 := (iE _ z X sc hot _ (by omega) ok h4).pe
        have g5 := (iE _ z X sc hot _ (by omega) ok h5).pe
        exact good_cmp (e_cmp2 ok h2 g3 g4 g5) (t_cmp2 ok h2 g3 g4 g5) rfl
      · obtain ⟨⟨⟨⟨⟨⟨⟨rfl, rfl⟩, rfl⟩, h2⟩, h3⟩, h4⟩, h5⟩, h6⟩ := h
        have g3 := (iE _ z X sc hot _ (by omega) ok h3).pe
        have g4 := (iE _ z X sc hot _ (by omega) ok h4).pe
        have g5 := (iE _ z X sc hot _ (by omega) ok h5).pe
        have g6 := (iE _ z X sc hot _ (by omega) ok h6).pe
        exact good_cmp (e_cmp3 ok h2 g3 g4 g5 g6) (t_cmp3 ok h2 g3 g4 g5 g6) rfl
      · have g := (iE _ z X sc hot _ (by omega) ok h).pe
        exact good_cmp (e_isN g) (t_isN g) rfl
      · have g := (iE _ z X sc hot _ (by omega) ok h).pe
        exact good_cmp (e_noN g) (t_noN g) rfl
      · exact good_plain (e_tup (iEs _ z X sc hot _ (by omega) ok h)) (fun _ => rfl) rfl
      · obtain ⟨g1, g2, g3, _⟩ := iL _ z X sc hot _ (by omega) ok h
        exact (good_list g1 g2 g3).1
      · obtain ⟨g1, g2, g3, _⟩ := iL _ z X sc hot _ (by omega) ok h
        exact (good_list g1 g2 g3).2
      · obtain ⟨⟨h1, h2⟩, h3⟩ := h
        exact good_plain (e_ix ok h1 (iE _ z X sc hot _ (by omega) ok h2).pe (iE _ z X sc hot _ (by omega) ok h3).pe) (fun _ => rfl) rfl
      · exact good_plain (e_rev (iE _ z X sc hot _ (by omega) ok h).pe) (fun _ => rfl) rfl
      · -- list(range(..))
        rename_i t a b y p y2 p2 xs p3 p4
        obtain ⟨⟨⟨⟨⟨⟨⟨rfl, h1⟩, h2⟩, h3⟩, h4⟩, h5⟩, h6⟩, h7⟩ := h
        refine good_plain (e_rlist ok h1 h2 h3 h4 h5 h6 ?_) (fun _ => rfl) rfl
        split at h7
        · simp only [Bool.and_eq_true] at h7
          exact .inl ⟨_, rfl, h7.1.1, h7.1.2, (iE _ z X sc _ _ (by omega) ok h7.2).pe⟩
        · simp only [Bool.and_eq_true, Bool.not_eq_true'] at h7
          exact .inr ⟨_, _, rfl, h7.1.1.1.1, h7.1.1.1.2, h7.1.1.2, (iE _ z X sc _ _ (by omega) ok h7.1.2).pe, (iE _ z X sc _ _ (by omega) ok h7.2).pe⟩
        · cases h7
      · -- a dict comprehension
        rename_i k v own tg it cond x' w t i ifs sc' p
        obtain ⟨⟨⟨⟨⟨h0, h1⟩, h2⟩, h3⟩, h3'⟩, h4⟩ := h
        obtain ⟨⟨⟨⟨⟨rfl, c1⟩, c2⟩, c3⟩, c4⟩, c5⟩ := h0
        have h0' : (blkC N sc sc' (own.filterMap fun k => N[k]?.map fun y => (y, k)) && (own.filterMap fun k => N[k]?.map fun y => (y, k)).map (·.2) == own && noSet i && (tgIx tg).all (own.contains ·) && own.all (fun k => match N[k]? with | some y => !(sc'.names.lookup y == some .free) | none => false)) = true := by
          simp only [Bool.and_eq_true, beq_iff_eq]
          exact ⟨⟨⟨⟨c1, c2⟩, c3⟩, c4⟩, c5⟩
        have parts : CompP z X N sc' x' t i ifs k own tg (tI z it) cond := comp_parts ok h0' (iI _ z X sc _ _ _ (by omega) ok h1) h2 (fun s H C cl fp => ?_) fun s H C cl fp => (iE _ z.mute _ (relS sc' sc) false _ (by omega) (ok.blk s H C cl fp sc') h3).pe
        · have hv : ∀ s H C cl fp, PE (X.blk s H sc' (compEnvC sc' cl C X.env) fp) w (tE z.mute v) := fun s H C cl fp => (iE _ z.mute _ (relS sc' sc) false _ (by omega) (ok.blk s H C cl fp sc') h3').pe
          exact good_plain (parts.pd hv) (fun _ => rfl) rfl
        split at h4
        · unfold tCond
          rw [if_pos h4]
          exact pts_nil
        · simp only [Bool.and_eq_true, Bool.not_eq_true'] at h4
          unfold tCond
          rw [if_neg (by rw [h4.1.1]; exact Bool.false_ne_true)]
          exact pts_one ((iE _ z.mute _ (relS sc' sc) false _ (by omega) (ok.blk s H C cl fp sc') h4.1.2).pt 30 h4.2)
        · cases h4
      · -- a slice
        rename_i a lo hi x' l u p2 p
        obtain ⟨⟨h1, h2⟩, h3⟩ := h
        refine good_plain (e_sl ok (iE _ z X sc hot _ (by omega) ok h1).pe ?_ ?_) (fun _ => rfl) rfl
        · cases l with
          | none => exact .inl ⟨rfl, h2⟩
          | some l =>
            simp only [Bool.and_eq_true, Bool.not_eq_true'] at h2
            exact .inr ⟨_, rfl, h2.1, (iE _ z X sc hot _ (by omega) ok h2.2).pe⟩
        · cases u with
          | none => exact .inl ⟨rfl, h3⟩
          | some l =>
            simp only [Bool.and_eq_true, Bool.not_eq_true'] at h3
            exact .inr ⟨_, rfl, h3.1, (iE _ z X sc hot _ (by omega) ok h3.2).pe⟩
      · obtain ⟨⟨⟨rfl, h2⟩, h3⟩, h4⟩ := h
        exact good_plain (e_call ok h2 h3 (chkEs_star h4) (iEs _ z X sc _ _ (by omega) ok h4)) (fun _ => rfl) rfl
      · obtain ⟨⟨⟨rfl, h2⟩, h3⟩, h4⟩ := h
        exact good_plain (e_pcall ok h2 h3 (chkEs_star h4) (iEs _ z X sc _ _ (by omega) ok h4)) (fun _ => rfl) rfl
      · obtain ⟨⟨⟨rfl, h2⟩, h3⟩, h4⟩ := h
        exact good_plain (e_vcall ok h2 h3 (chkEs_star h4) (iEs _ z X sc _ _ (by omega) ok h4)) (fun _ => rfl) rfl
      · obtain ⟨⟨⟨rfl, h2⟩, h3⟩, h4⟩ := h
        exact good_plain (e_pvcall ok h2 h3 (chkEs_star h4) (iEs _ z X sc _ _ (by omega) ok h4)) (fun _ => rfl) rfl
      · obtain ⟨⟨⟨⟨⟨h1, h2⟩, h3⟩, h4⟩, h5⟩, h6⟩ := h
        exact good_plain (e_isI ok h1 h2 h3 h4 h5 (iE _ z X sc hot _ (by omega) ok h6).pe) (fun _ => rfl) rfl
      · obtain ⟨⟨⟨⟨⟨h1, h2⟩, h3⟩, h4⟩, h5⟩, h6⟩ := h
        exact good_plain (e_isC ok h1 h2 h3 (by simpa only [Bool.or_eq_true, Bool.and_eq_true, beq_iff_eq] using h4) h5 (iE _ z X sc hot _ (by omega) ok h6).pe) (fun _ => rfl) rfl
      · obtain ⟨⟨⟨h1, h2⟩, h3⟩, h4⟩ := h
        exact good_plain (e_attr ok h1 (of_decide_eq_true h2) h3 (iE _ z X sc hot _ (by omega) ok h4).pe) (fun _ => rfl) rfl
      · obtain ⟨⟨⟨⟨⟨h1, h2⟩, h3⟩, h4⟩, h5⟩, h6⟩ := h
        exact good_plain (e_meth ok h1 h2 (by simpa using h3) (of_decide_eq_true h4) (chkEs_star h6) (iE _ z X sc hot _ (by omega) ok h5).pe (iEs _ z X sc hot _ (by omega) ok h6)) (fun _ => rfl) rfl
      · obtain ⟨⟨⟨h1, h2⟩, h3⟩, h4⟩ := h
        exact good_plain (e_blt ok h1 h2 h3 (chkEs_star h4) (iEs _ z X sc hot _ (by omega) ok h4)) (fun _ => rfl) rfl
      · obtain ⟨⟨⟨⟨⟨⟨⟨h1, h2⟩, h3⟩, h4⟩, h5⟩, h6⟩, h7⟩, h8⟩ := h
        exact good_plain (e_dget ok h1 h2 (by simpa using h3) h4 h5 (iE _ z X sc hot _ (by omega) ok h6).pe (iE _ z X sc hot _ (by omega) ok h7).pe (iE _ z X sc hot _ (by omega) ok h8).pe) (fun _ => rfl) rfl
      · exact good_plain e_mdct (fun _ => rfl) rfl
      · exact good_plain (e_mcat (iE _ z X sc hot _ (by omega) ok h.1).pe (iE _ z X sc hot _ (by omega) ok h.2).pe) (fun _ => rfl) rfl
      · exact good_plain (e_mrep (iE _ z X sc hot _ (by omega) ok h.1).pe (iE _ z X sc hot _ (by omega) ok h.2).pe) (fun _ => rfl) rfl
      · cases h
    · unfold chkEs at h
      split at h
      · exact es_nil
      · simp only [Bool.and_eq_true] at h
        simp only [Es.cons.sizeOf_spec] at hs
        exact es_cons h.1.1 (iE _ z X sc hot _ (by omega) ok h.1.2).pe (iEs _ z X sc hot _ (by omega) ok h.2)
      · cases h
    · unfold chkL at h
      split at h
      · simp only [L.disp.sizeOf_spec] at hs
        exact ⟨l_disp (iEs _ z X sc hot _ (by omega) ok h), fun _ => rfl, rfl, fun _ _ _ _ e => (nomatch e)⟩
      · rename_i elt own tg it cond x' t i ifs sc' p
        simp only [L.comp.sizeOf_spec] at hs
        rw [Bool.and_eq_true, Bool.and_eq_true, Bool.and_eq_true, Bool.and_eq_true] at h
        obtain ⟨⟨⟨⟨h0, h1⟩, h2⟩, h3⟩, h4⟩ := h
        have h0' : hot = false ∧ (blkC N sc sc' (own.filterMap fun k => N[k]?.map fun y => (y, k)) && (own.filterMap fun k => N[k]?.map fun y => (y, k)).map (·.2) == own && noSet i && (tgIx tg).all (own.contains ·) && own.all (fun k => match N[k]? with | some y => !(sc'.names.lookup y == some .free) | none => false)) = true := by
          simp only [Bool.and_eq_true, Bool.not_eq_true'] at h0 ⊢
          obtain ⟨⟨⟨⟨⟨c0, c1⟩, c2⟩, c3⟩, c4⟩, c5⟩ := h0
          exact ⟨c0, ⟨⟨⟨c1, c2⟩, c3⟩, c4⟩, c5⟩
        obtain ⟨rfl, h0'⟩ := h0'
        have parts : CompP z X N sc' x' t i ifs elt own tg (tI z it) cond := comp_parts ok h0' (iI _ z X sc _ _ _ (by omega) ok h1) h2 (fun s H C cl fp => ?_) fun s H C cl fp => (iE _ z.mute _ (relS sc' sc) false _ (by omega) (ok.blk s H C cl fp sc') h3).pe
        exact ⟨parts.pe, fun _ => rfl, rfl, fun a b c d e => by cases e; exact ⟨t, i, ifs, elt, own, tg, tI z it, cond, rfl, parts, ⟨false, fun σ H Q q => lc_sim parts.hown q⟩, fun _ _ _ _ _ e => by cases e; exact ⟨rfl, rfl, rfl, rfl⟩⟩⟩
        split at h4
        · unfold tCond
          rw [if_pos h4]
          exact pts_nil
        · simp only [Bool.and_eq_true, Bool.not_eq_true'] at h4
          unfold tCond
          rw [if_neg (by rw [h4.1.1]; exact Bool.false_ne_true)]
          exact pts_one ((iE _ z.mute _ (relS sc' sc) false _ (by omega) (ok.blk s H C cl fp sc') h4.1.2).pt 30 h4.2)
        · cases h4
      · rename_i ee elt own tg j cond x' t i ifs sc' p
        simp only [L.compC.sizeOf_spec] at hs
        rw [Bool.and_eq_true, Bool.and_eq_true, Bool.and_eq_true, Bool.and_eq_true] at h
        obtain ⟨⟨⟨⟨h0, h1⟩, h2⟩, h3⟩, h4⟩ := h
        have h0' : hot = false ∧ (blkC N sc sc' (own.filterMap fun k => N[k]?.map fun y => (y, k)) && (own.filterMap fun k => N[k]?.map fun y => (y, k)).map (·.2) == own && noSet i && (tgIx tg).all (own.contains ·) && own.all (fun k => match N[k]? with | some y => !(sc'.names.lookup y == some .free) | none => false)) = true := by
          simp only [Bool.and_eq_true, Bool.not_eq_true'] at h0 ⊢
          obtain ⟨⟨⟨⟨⟨c0, c1⟩, c2⟩, c3⟩, c4⟩, c5⟩ := h0
          exact ⟨c0, ⟨⟨⟨c1, c2⟩, c3⟩, c4⟩, c5⟩
        obtain ⟨rfl, h0'⟩ := h0'
        have parts : CompP z X N sc' x' t i ifs elt own tg (ovT X ee j) cond := comp_parts ok h0' (over_ok ok h1) h2 (fun s H C cl fp => ?_) fun s H C cl fp => (iE _ z.mute _ (relS sc' sc) false _ (by omega) (ok.blk s H C cl fp sc') h3).pe
        exact ⟨parts.pc, fun _ => rfl, rfl, fun a b c d e => by cases e; exact ⟨t, i, ifs, elt, own, tg, ovT X ee j, cond, rfl, parts, ⟨!ee, fun σ H Q q => cc_sim ee parts.hown q⟩, fun _ _ _ _ _ e => (nomatch e)⟩⟩
        split at h4
        · unfold tCond
          rw [if_pos h4]
          exact pts_nil
        · simp only [Bool.and_eq_true, Bool.not_eq_true'] at h4
          unfold tCond
          rw [if_neg (by rw [h4.1.1]; exact Bool.false_ne_true)]
          exact pts_one ((iE _ z.mute _ (relS sc' sc) false _ (by omega) (ok.blk s H C cl fp sc') h4.1.2).pt 30 h4.2)
        · cases h4
      · cases h
    · unfold chkI at h
      split at h <;> (try simp only [Bool.and_eq_true, beq_iff_eq] at h) <;> (try simp only [It.val.sizeOf_spec, It.rng1.sizeOf_spec, It.rng2.sizeOf_spec, It.enum.sizeOf_spec, It.zip2.sizeOf_spec] at hs)
      · exact i_val ok.hrK (iE _ z X sc hot _ (by omega) ok h).pe
      · obtain ⟨⟨⟨⟨h1, h2⟩, rfl⟩, h4⟩, h5⟩ := h
        exact i_rng1 ok h1 h2 h4 (iE _ z X sc hot _ (by omega) ok h5).pe
      · obtain ⟨⟨⟨⟨⟨⟨h1, h2⟩, rfl⟩, h4⟩, h5⟩, h6⟩, h7⟩ := h
        exact i_rng2 ok h1 h2 h4 h5 (iE _ z X sc hot _ (by omega) ok h6).pe (iE _ z X sc hot _ (by omega) ok h7).pe
      · obtain ⟨⟨⟨⟨⟨h1, h2⟩, rfl⟩, h3⟩, h4⟩, h5⟩ := h
        cases t <;> first | exact i_enum ok h1 h2 h4 (iE _ z X sc hot _ (by omega) ok h5).pe | cases h3
      · obtain ⟨⟨⟨⟨⟨⟨⟨h1, h2⟩, rfl⟩, h3⟩, h4⟩, h5⟩, h6⟩, h7⟩ := h
        cases t <;> first | exact i_zip ok h1 h2 h4 h5 (iE _ z X sc hot _ (by omega) ok h6).pe (iE _ z X sc hot _ (by omega) ok h7).pe | cases h3
      · cases h
end
end Ci

set_option Elab.async false
set_option linter.all false
set_option maxRecDepth 100000
set_option maxHeartbeats 8000000
namespace Ci
open PySem PySem.Spec PyProof.Rows L2
/-! ### statements -/
def SatS (z : Si) (D : Ends) (F : Addr → Prop) (am : List Addr) (H : Hp) (r : RS) : Prop := match r with
  | .nx S h => ∀ F' am' H' σ', Ext F am H F' am' H' → Rel z.rc F' am' H' h S σ' → D.nx σ' H'
  | .rt d h => ∀ F' am' H' v, Ext F am H F' am' H' → Sto z.rc F' am' H' h → RD z.rc F' am' H' d v → D.rt v H'
  | .bk S h => ∀ F' am' H' σ', Ext F am H F' am' H' → Rel z.rc F' am' H' h S σ' → D.bk σ' H'
  | .ct S h => ∀ F' am' H' σ', Ext F am H F' am' H' → Rel z.rc F' am' H' h S σ' → D.ct σ' H'
  | .exc c v S h => ∀ F' am' H' σ' C dd w, Ext F am H F' am' H' → Rel z.rc F' am' H' h S σ' → z.ca c = some C → scV v = some w → H' dd = some (.xd [(z.fld c, w)]) → ¬ F' dd → z.W (.ref C) (some dd) σ' H'
  | .bad => False
def tS (z : Si) (st : Ci.St) : TS := fun D σ H => ∃ S F am h, Rel z.rc F am H h S σ ∧ SatS z D F am H (ex z.sub z.call st S h)
theorem _root_.L2.PS.imp {X : Cx} {e : Stmt} {t t' : TS} (h : PS X e t) (k : ∀ D σ H, t' D σ H → t D σ H) : PS X e t' := ⟨fun pins s σ H D I q => h.run pins s σ H D I (k D σ H q)⟩
theorem _root_.L2.PSs.imp {X : Cx} {e : List Stmt} {t t' : TS} (h : PSs X e t) (k : ∀ D σ H, t' D σ H → t D σ H) : PSs X e t' := ⟨fun pins s σ H D I q => h.run pins s σ H D I (k D σ H q)⟩
section
variable {z : Si} {D : Ends} {F F1 F2 : Addr → Prop} {am am1 am2 : List Addr} {H H1 H2 : Hp} {h : Hs} {S : Sl} {σ : SV}
theorem SatS.ext {r : RS} (e : Ext F am H F1 am1 H1) (i0 : ∀ x ∈ am, F x) (q : SatS z D F am H r) : SatS z D F1 am1 H1 r := by
  cases r with
  | nx S h => exact fun F' am' H' σ' e' => q F' am' H' σ' (e.trans e' i0)
  | rt d h => exact fun F' am' H' σ' e' => q F' am' H' σ' (e.trans e' i0)
  | bk S h => exact fun F' am' H' σ' e' => q F' am' H' σ' (e.trans e' i0)
  | ct S h => exact fun F' am' H' σ' e' => q F' am' H' σ' (e.trans e' i0)
  | exc c v S h => exact fun F' am' H' σ' C dd w e' => q F' am' H' σ' C dd w (e.trans e' i0)
  | bad => exact q
theorem SatS.st {α : Type} {r : R α} {f : α → Hs → RS} (rl : Rel z.rc F am H h S σ) (q : SatS z D F am H (r.st S f)) : SatR z σ F am H r (fun a h1 F1 am1 H1 => Rel z.rc F1 am1 H1 h1 S σ ∧ SatS z D F1 am1 H1 (f a h1)) := by
  cases r with
  | ok a h1 => exact fun F' am' H' e s => ⟨rl.to e s, SatS.ext e rl.sto.inF q⟩
  | exc c v h1 => exact fun F' am' H' C dd w e s => q F' am' H' σ C dd w e (rl.to e s)
  | bad => exact q
theorem SatS.nxt (q : SatS z D F am H (.nx S h)) (r : Rel z.rc F am H h S σ) : D.nx σ H := q F am H σ .refl r
theorem SatS.seq {r : RS} {t : Ci.St} (q : SatS z D F am H (r.andThen fun S' h' => ex z.sub z.call t S' h')) (i0 : ∀ x ∈ am, F x) : SatS z { D with nx := tS z t D } F am H r := by
  cases r with
  | nx S h => exact fun F' am' H' σ' e' r' => ⟨S, F', am', h, r', SatS.ext e' i0 q⟩
  | rt d h => exact q
  | bk S h => exact q
  | ct S h => exact q
  | exc c v S h => exact q
  | bad => exact q
/-- a loop's turn -/
theorem SatS.turn {r : RS} {A : Sl → Hs → RS} {N : SV → Hp → Prop} (i0 : ∀ x ∈ am, F x) (q : SatS z D F am H (match r with
      | .nx S' h' => A S' h'
      | .ct S' h' => A S' h'
      | .bk S' h' => .nx S' h'
      | r => r)) (k : ∀ F' am' H' S' h' σ', Ext F am H F' am' H' → Rel z.rc F' am' H' h' S' σ' → SatS z D F' am' H' (A S' h') → N σ' H') : SatS z { D with nx := N, ct := N, bk := D.nx } F am H r := by
  cases r with
  | nx S h => exact fun F' am' H' σ' e' r' => k F' am' H' S h σ' e' r' (SatS.ext e' i0 q)
  | ct S h => exact fun F' am' H' σ' e' r' => k F' am' H' S h σ' e' r' (SatS.ext e' i0 q)
  | bk S h => exact q
  | rt d h => exact q
  | exc c v S h => exact q
  | bad => exact q
end
theorem forF_G (turn : D → Sl → Hs → RS) (xs : List D) : ∀ (k i : Nat) (S : Sl) (h : Hs), xs.length < i + k → i ≤ xs.length → forF turn (xs.drop i) S h = forG turn (.fix xs) k i S h
  | 0, i, S, h, h1, h2 => by omega
  | k + 1, i, S, h, h1, h2 => by
    unfold forG
    simp only [itm]
    by_cases hl : i < xs.length
    · rw [List.drop_eq_getElem_cons hl, List.getElem?_eq_getElem hl]
      simp only [forF]
      cases turn xs[i] S h <;> simp only
      · exact forF_G turn xs k (i + 1) _ _ (by omega) (by omega)
      · exact forF_G turn xs k (i + 1) _ _ (by omega) (by omega)
    · have e : i = xs.length := by omega
      subst e
      rw [List.drop_length, List.getElem?_eq_none (Nat.le_refl _)]
      rfl
/-! ### the check -/
def noComp : Expr → Bool
  | .ListComp .. | .SetComp .. | .DictComp .. => false
  | _ => true
theorem noComp_ok {e : Expr} (h : noComp e = true) (tgt : Option Expr) (line : Nat) (env : Env) : swapsWith e tgt line env = pure false := by
  cases e <;> first | rfl | cases h
def isFnK : ScopeKind → Bool
  | .function => true
  | _ => false
/-- name = [..] on one line -/
def swC (sc : Scope) (y : Str) (py : Pos) : Expr → Bool
  | .ListComp _ _ s p => sc.names.lookup y == some .local && py.line == p.line && !(s.names.any fun (n, k) => n == y && (k == .local || k == .cell))
  | _ => false
theorem swC_no {sc : Scope} {y : Str} {py : Pos} {e : Expr} {line : Nat} {env : Env} (hk : env.scope.kind = .function) (hs : env.scope = sc) (hn : noComp e = true ∨ ∃ a b c d, e = .ListComp a b c d) (h : swC sc y py e = false) : swapsWith e (some (.Name y py)) line env = pure false := by
  rcases hn with hn | ⟨a, b, c, d, rfl⟩
  · exact noComp_ok hn _ _ _
  · have hb : env.blockKind = .function := by unfold Env.blockKind; rw [hk]; rfl
    unfold swC at h
    have key : (env.blockKind == .function && env.kindOf y == some .local && py.line == d.line && !(c.names.any fun (n, k) => n == y && (k == .local || k == .cell))) = false := by
      rw [hb, ← h, ← hs]; rfl
    unfold swapsWith
    show pure _ = pure _
    exact congrArg pure key
theorem swC_yes {sc : Scope} {y : Str} {py : Pos} {a : Expr} {b : List Comprehension} {c : Scope} {d : Pos} {line : Nat} {env : Env} (hk : env.scope.kind = .function) (hs : env.scope = sc) (h : swC sc y py (.ListComp a b c d) = true) : sc.names.lookup y = some .local ∧ swapsWith (.ListComp a b c d) (some (.Name y py)) line env = pure true := by
  simp only [swC, Bool.and_eq_true, beq_iff_eq, Bool.not_eq_true'] at h
  obtain ⟨⟨h1, h2⟩, h3⟩ := h
  exact ⟨h1, sw_true hk (by rw [hs]; exact h1) (by simpa using h2) h3⟩
/-- what stores in a pair or triple of names do -/
def swO (sc : Scope) (tg e : Expr) : Option (Option (List Str)) := match tg, e with
  | .Tuple ts _ _, .Tuple vs _ _ =>
    if !(ts.length == 2 || ts.length == 3) || vs.length != ts.length then some none
    else if vs.any fun | .Starred .. => true | _ => false then some none
    else
      let line := (ts.head?.map (·.pos.line)).getD 0
      let names := ts.filterMap fun
        | .Name id pos => if sc.names.lookup id == some .local && pos.line == line then some id else none
        | _ => none
      if names.length != ts.length || names.eraseDups.length != names.length then some none
      else if vs.all (foldedForSure 8) then some none
      else if vs.all (constantsAlone 8) then none else some (some names)
  | .List .., _ => none
  | _, _ => some none
theorem swO_ok {sc : Scope} {tg e : Expr} {env : Env} (hk : env.scope.kind = .function) (hs : env.scope = sc) {r : Option (List Str)} (h : swO sc tg e = some r) : swappedStores [tg] e env = pure r := by
  have hb : (env.blockKind != .function) = false := by unfold Env.blockKind; rw [hk]; rfl
  have hkd : ∀ x, env.kindOf x = sc.names.lookup x := fun x => by rw [← hs]; rfl
  subst hs
  unfold swO at h
  split at h
  · rename_i ts k p vs k2 p2
    unfold swappedStores
    simp only [hb, Bool.or_false, hkd]
    split at h
    · rename_i c
      cases h
      rw [if_pos (by simpa using c)]
    · rename_i c
      rw [if_neg (by simpa using c)]
      split at h
      · rename_i c2
        cases h
        exact if_pos c2
      · rename_i c2
        refine Eq.trans (if_neg c2) ?_
        dsimp only at h
        split at h
        · rename_i c3
          cases h
          exact if_pos c3
        · rename_i c3
          refine Eq.trans (if_neg c3) ?_
          split at h
          · rename_i c4
            cases h
            exact if_pos c4
          · rename_i c4
            refine Eq.trans (if_neg c4) ?_
            split at h
            · cases h
            · rename_i c5
              refine Eq.trans (if_neg c5) ?_
              cases h; rfl
  · cases h
  · rename_i hl hne
    cases h
    cases tg <;> first | rfl | exact (hl _ _ rfl).elim | (cases e <;> first | rfl | exact (hne _ _ _ _ _ _ rfl rfl).elim)
end Ci

set_option Elab.async false
set_option linter.all false
set_option maxRecDepth 100000
set_option maxHeartbeats 4000000
namespace Ci
open PySem PySem.Spec PyProof.Rows L2
/-! ### name = {k: v for ..} on one line -/
section
variable {X : Cx}
theorem ps_setDc {i : Nat} {y : Str} {py : Pos} {kx vx tg iter : Expr} {ifs : List Expr} {scope : Scope} {own : List (Str × Nat)} {pos spos : Pos} {wi : TI} {g : TG} {tt : TT} {tk tv : TE} (hc : X.calm = true) (hN : X.N.Nodup) (hy : X.N[i]? = some y) (hyl : X.env.scope.names.lookup y = some .local)
    (hsw : swapsWith (.DictComp kx vx [⟨tg, iter, ifs, 0⟩] scope pos) (some (.Name y py)) spos.line X.env = pure true) (hi : PI X tg iter wi) (ok : BlkOk X.N X.env.scope scope own)
    (hg : ∀ s H C cl fp, PG (X.blk s H scope (compEnvC scope cl C X.env) fp) tg g) (ht : ∀ s H C cl fp, PTs (X.blk s H scope (compEnvC scope cl C X.env) fp) ifs tt)
    (hk : ∀ s H C cl fp, PE (X.blk s H scope (compEnvC scope cl C X.env) fp) kx tk) (hv : ∀ s H C cl fp, PE (X.blk s H scope (compEnvC scope cl C X.env) fp) vx tv) (hs : ∀ x, foldedSetIterable iter X.env x = pure x) :
    PS X (.Assign [.Name y py] (.DictComp kx vx [⟨tg, iter, ifs, 0⟩] scope pos) spos) (tAsg (tDc wi g tt tk tv (own.map (·.2))) (gName i)) := by
  refine ⟨fun pins s σ H D I w => ?_⟩
  rw [exec_Assign_Name_used _ _ _ _ hsw]
  refine wpAny_bind (wpAny_standAt (wpAny_bind ?_))
  show wpAny _ X.A (do let _ ← comprehension (.DictComp kx vx [⟨tg, iter, ifs, 0⟩] scope pos) scope X.env (firstIterPos [⟨tg, iter, ifs, 0⟩] pos) newDict false (eval iter X.env) (some (assign (.Name y py) X.env))) _ _ s
  have w : tDc wi g tt tk tv (own.map (·.2)) σ H (fun x H1 => gName i x σ H1 D.nx) := w
  refine wpAny_bind (thn (dc_core (Qf := fun _ s' => SP X pins D .next s') hc hN I hi ok hg ht hk hv hs w fun L C s' m H' I' q hn fo => ?_) fun _ s' hq => wpAny_pure (wpAny_pure hq))
  show wpAny _ _ (assign (.Name y py) X.env (.ref L)) _ _ _
  refine wpAny_assign_Name (store_ok2 (v := V.ref L) I' hN hy (.inl hyl) rfl (fun s2 I2 ⟨a, sb, ha⟩ => ?_) (.inr hyl))
  have far : C ≠ a := by
    rcases ha with z | z
    · rw [z]; exact fo.2.1
    · exact fun e => fo.2.2.2.2.1 y a z e.symm
  refine ⟨m, hn.sameBut sb far, fun h3 sb3 => ⟨_, H', ?_, q⟩⟩
  exact I2.turned (t' := s2.toks) (fun b o hb e => (sb3.2 b hb).trans e) fo.1 fo.2.1 fo.2.2.2.1 fo.2.2.2.2.1 fo.2.2.2.2.2
end
def swD (sc : Scope) (y : Str) (py : Pos) (s : Scope) (p : Pos) : Bool := sc.names.lookup y == some .local && py.line == p.line && !(s.names.any fun (n, k) => n == y && (k == .local || k == .cell))
theorem swD_is {sc : Scope} {y : Str} {py d : Pos} {a a' : Expr} {b : List Comprehension} {c : Scope} {line : Nat} {env : Env} (hk : env.scope.kind = .function) (hs : env.scope = sc) : swapsWith (.DictComp a a' b c d) (some (.Name y py)) line env = pure (swD sc y py c d) := by
  have hb : env.blockKind = .function := by unfold Env.blockKind; rw [hk]; rfl
  have key : (env.blockKind == .function && env.kindOf y == some .local && py.line == d.line && !(c.names.any fun (n, k) => n == y && (k == .local || k == .cell))) = swD sc y py c d := by
    rw [hb, ← hs]; rfl
  unfold swapsWith
  show pure _ = pure _
  exact congrArg pure key
section
variable {z : Si} {X : Cx} {N : List Str} {G : GT} {sc : Scope}
/-- the parts of a dict comprehension that is looked at -/
theorem dc_parts {k v : E} {own : List Nat} {tg : Tg} {it : It} {cond : E} {x w : Expr} {gs : List Comprehension} {sc' : Scope} {p : Pos} (ok : Ok z X N G sc false) (h : chkE N G false sc (.dc k v own tg it cond) (.DictComp x w gs sc' p) = true) :
    ∃ t i ifs, gs = [⟨t, i, ifs, 0⟩] ∧ CompP z X N sc' x t i ifs k own tg (tI z it) cond ∧ ∀ s H C cl fp, PE (X.blk s H sc' (compEnvC sc' cl C X.env) fp) w (tE z.mute v) := by
  rcases gs with _ | ⟨⟨t, i, ifs, b⟩, _ | ⟨g2, gr⟩⟩
  · simp [chkE] at h
  · by_cases hb : b = 0
    · subst hb
      unfold chkE at h
      simp only [Bool.and_eq_true, beq_iff_eq, Bool.not_eq_true'] at h
      obtain ⟨⟨⟨⟨⟨h0, h1⟩, h2⟩, h3⟩, h3'⟩, h4⟩ := h
      obtain ⟨⟨⟨⟨⟨_, c1⟩, c2⟩, c3⟩, c4⟩, c5⟩ := h0
      have h0' : (blkC N sc sc' (own.filterMap fun k => N[k]?.map fun y => (y, k)) && (own.filterMap fun k => N[k]?.map fun y => (y, k)).map (·.2) == own && noSet i && (tgIx tg).all (own.contains ·) && own.all (fun k => match N[k]? with | some y => !(sc'.names.lookup y == some .free) | none => false)) = true := by
        simp only [Bool.and_eq_true, beq_iff_eq]
        exact ⟨⟨⟨⟨c1, c2⟩, c3⟩, c4⟩, c5⟩
      refine ⟨t, i, ifs, rfl, comp_parts ok h0' ((all_ok (sizeOf it + 1)).2.2.2 it z X sc false t i (Nat.lt_succ_self _) ok h1) h2 (fun s H C cl fp => ?_) fun s H C cl fp => ((all_ok (sizeOf k + 1)).1 k z.mute _ (relS sc' sc) false x (Nat.lt_succ_self _) (ok.blk s H C cl fp sc') h3).pe,
        fun s H C cl fp => ((all_ok (sizeOf v + 1)).1 v z.mute _ (relS sc' sc) false w (Nat.lt_succ_self _) (ok.blk s H C cl fp sc') h3').pe⟩
      split at h4
      · unfold tCond
        rw [if_pos h4]
        exact pts_nil
      · simp only [Bool.and_eq_true, Bool.not_eq_true'] at h4
        unfold tCond
        rw [if_neg (by rw [h4.1.1]; exact Bool.false_ne_true)]
        exact pts_one (((all_ok (sizeOf cond + 1)).1 cond z.mute _ (relS sc' sc) false _ (Nat.lt_succ_self _) (ok.blk s H C cl fp sc') h4.1.2).pt 30 h4.2)
      · cases h4
    · unfold chkE at h
      split at h <;> simp_all
  · simp [chkE] at h
end
end Ci

set_option Elab.async false
set_option linter.all false
set_option maxRecDepth 100000
set_option maxHeartbeats 8000000
namespace Ci
open PySem PySem.Spec PyProof.Rows L2 L2H
/-! ### a def called within a suite, with the exception -/
/-- its promise, told of the exception's object -/
structure FnX (P : Program) (w : World) (K : PySem.W.Frag) (mg : Str → Option Value) (base : Heap) (CX : CXT) (k : Nat) (f : Addr) (fd : FuncData) (ps : List Str) (spx : Addr × Obj → Sp) : Prop where
  arity : ∀ q vs H Q E, spx q vs H Q E → vs.length = ps.length
  go : ∀ (A : Around) (out : List Env) (s0 : Shared) (H : Hp) (ar : Args) (us : List Value) (vs : List V) (Q : VK) (E : XK) (q : Addr × Obj), RoomH k A → Hot1 A q → PinOk out H s0 q → Env0 P w K mg base A out s0 H → BindsTo s0 fd ar (ps.zip us) → Vals vs us →
    spx q vs H Q E → codeAny (model P w) A (.call (.ref f) ar) (CR CX out P w H s0 Q E) s0
theorem fnx_of {CX : CXT} {P : Program} {w : World} {K : PySem.W.Frag} {mg : Str → Option Value} {base : Heap} {k : Nat} {f : Addr} {name qual : Str} {params : Arguments} {bd : List Stmt} {scp : Scope} {dV kV doc pm cdv ct oc : Value} {an od : Option Addr}
    {osl : Array (Option Value)} {N ps : List Str} {spx : Addr × Obj → Sp} (at_ : K.lookup f = some ⟨oc, od, .func (PySem.W.fnOf name qual params bd scp dV kV doc pm an cdv ct), osl⟩) (cod : PySem.W.codeIn K cdv qual = true) (S : FnScope N ps scp)
    (arity : ∀ q vs H Q E, spx q vs H Q E → vs.length = ps.length)
    (inner : ∀ (A : Around) (out : List Env) (s0 : Shared) (H : Hp) (vs : List V) (Q : VK) (E : XK) (q : Addr × Obj), Hot1 A q → RoomH k (A.deeper (envOfC qual scp s0.heap.objs.size f cdv)) → spx q vs H Q E →
      ∃ t, PSs (cxH CX P w K mg base N qual scp f cdv A out s0 H E q) bd t ∧ t { nx := fun _ H' => Q .non H', rt := Q } (L2.start N vs) H) :
    FnX P w K mg base CX (k + 1) f (PySem.W.fnOf name qual params bd scp dV kV doc pm an cdv ct) ps spx := by
  refine ⟨arity, fun A out s0 H ar us vs Q E q room hot pin env bind vals want => ?_⟩
  have hl := arity _ _ _ _ _ want
  have inH : K.In s0.heap := env.mod.kin.keeps fun b o e => (env.bs b o e).1
  have nol : s0.heap.NoLimit := env.mod.nolimit.keeps fun b o e => (env.bs b o e).1
  have kinds : ∀ y ∈ ps.zip us, scp.names.lookup y.1 = some .local ∨ (scp.names.lookup y.1 = some .cell ∧ ((cellsFrom (s0.heap.objs.size + 1) scp.names []).lookup y.1).isSome = true) := fun y hy => by
    rcases S.par y.1 (List.of_mem_zip (show (y.1, y.2) ∈ _ from hy)).1 with c | c
    · exact .inl c
    · exact .inr ⟨c, PySem.W.cellsFrom_some _ _ _ (.inl c)⟩
  refine codeAny_call_function room.depth (inH _ _ at_) rfl S.co S.gen rfl (PySem.W.codeRec_of inH cod) (bind _ _ _ _ ?_)
  refine wpAny_newFunctionEnv_cells S.kind kinds fun env1 he s1 x => ?_
  subst he
  refine ⟨nol.keeps x.toInCall.keep, codeAny_func ?_⟩
  obtain ⟨t, ht, got⟩ := inner A out s0 H vs Q E q hot (room.deeper _) want
  have I := inv_startH (CX := CX) (E := E) S pin env hl vals x
  refine wpAny_mono (ht.run [] s1 (L2.start N vs) H _ I got) (fun fl s2 out2 => ?_) fun _ _ bad => bad
  have close : ∀ {σ2 : SV} {H2 : Hp} {v : V} {u : Value}, Inv (cxH CX P w K mg base N qual scp f cdv A out s0 H E q) [] σ2 H2 s2 → RelV v u → Q v H2 → CE out P w H s0 Q u s2 :=
    fun {σ2 H2 v u} J rv c => ⟨v, H2, J.os, J.bare, J.base, J.hok, rv, c⟩
  cases fl with
  | ret u => obtain ⟨v, σ2, H2, J, rv, c⟩ := out2; exact close J rv c
  | next => obtain ⟨σ2, H2, J, c⟩ := out2; exact close (v := V.non) (u := Value.none) J rfl c
  | brk => obtain ⟨_, _, _, c⟩ := out2; exact c.elim
  | cont => obtain ⟨_, _, _, c⟩ := out2; exact c.elim
section
variable {X : Cx} {CX : CXT} {k : Nat} {f : Addr} {fd : FuncData} {ps : List Str} {spx : Addr × Obj → Sp} {E : SV → XK} {x : Str} {p pos : Pos} {e : Expr} {es : List Expr} {t : TA}
theorem pe_callX {q : Addr × Obj} (F : FnX X.prog X.w X.K X.mg X.base CX k f fd ps spx) (room : RoomH k X.A) (hot : Hot1 X.A q) (hq : q ∈ X.pn) (hg : Gl X x) (hm : X.mg x = some (.ref f)) (kp : PySem.W.keepIn X.K (.ref f) = true) (bnd : Binds X.K fd ps []) (pas : ∀ σ, PassesAt CX X σ (E σ))
    (ha : PA X (e :: es) t) (ndb : (x == ("__debug__" : Str)) = false) (he : starEach (e :: es) X.env = (false, eval e X.env) :: starEach es X.env) (hpl : (backTo pos (starEach es X.env)).any (·.1) = false) :
    PE X (.Call (.Name x p) (e :: es) [] pos) (tCallS (spx q) E t) := by
  refine ⟨fun pins s σ H Q I want => ?_⟩
  refine wpAny_Call_Name_kw (ld_glob I hg hm ?_ ndb)
  refine PySem.W.callWith_K (h₀ := X.base) I.ok.mod.kin kp (thn (ha.run pos pins s σ H _ I want) fun us s1 ⟨vs, H1, I1, r, w1⟩ => ⟨I1.kIn, ?_⟩) he hpl
  have hl : us.length = ps.length := by rw [← r.length]; exact F.arity _ _ _ _ _ w1
  have b := bnd s1 us I1.kIn (by rw [List.append_nil]; exact hl)
  rw [List.append_nil] at b
  have pin1 := I1.pin q (List.mem_append_left _ hq)
  have pin : PinOk X.stack H1 s1 q := ⟨pin1.1, pin1.2.1, fun hm => (List.mem_cons.mp (I1.stkSub q.1 hm)).elim pin1.2.2.1 pin1.2.2.2.1, pin1.2.2.2.2⟩
  refine wpAny_call (codeAny_mono (F.go X.A X.stack s1 H1 ⟨us, []⟩ us vs Q (E σ) q room hot pin I1.env0 b r w1) fun r s2 c => ?_)
  cases r with
  | error e => exact pas σ pins H1 s1 e s2 I1 c
  | ok fl =>
    cases fl with
    | ret u => exact I1.after c
    | next => exact c.elim
    | brk => exact c.elim
    | cont => exact c.elim
end
/-! ### with and without the exception at hand -/
def Rc.with (c : Rc) (x : Hx) : Rc := { c with hx := some x }
section
variable {c : Rc} {x : Hx} {F : Addr → Prop} {am : List Addr} {H : Hp} {h : Hs} {S : Sl} {σ : SV}
mutual
theorem RD.toX (n : c.hx = none) : ∀ {d : D} {v : V}, RD c F am H d v → RD (c.with x) F am H d v
  | _, _, .non => .non
  | _, _, .bl b => .bl b
  | _, _, .int b => .int b
  | _, _, .str b => .str b
  | _, _, .tup r m l => .tup r m (RDs.toX n l)
  | _, _, .lst r m l => .lst r m (RDs.toX n l)
  | _, _, .scr r m l => .scr r m (RDs.toX n l)
  | _, _, .scrK r l => .scrK r (RDs.toX n l)
  | _, _, .ref q => .ref q
  | _, _, .fn q => .fn q
  | _, _, .exc a _ _ _ => by rw [n] at a; cases a
theorem RDs.toX (n : c.hx = none) : ∀ {ds : List D} {vs : List V}, RDs c F am H ds vs → RDs (c.with x) F am H ds vs
  | _, _, .nil => .nil
  | _, _, .cons r l => .cons (RD.toX n r) (RDs.toX n l)
end
mutual
theorem RD.unX : ∀ {d : D} {v : V}, RD (c.with x) F am H d v → d.noExc = true → RD c F am H d v
  | _, _, .non, _ => .non
  | _, _, .bl b, _ => .bl b
  | _, _, .int b, _ => .int b
  | _, _, .str b, _ => .str b
  | _, _, .tup r m l, e => .tup r m (RDs.unX l (by simpa only [D.noExc] using e))
  | _, _, .lst r m l, e => .lst r m (RDs.unX l (by simpa only [D.noExc] using e))
  | _, _, .scr (ds := ds) r m l, e => .scr r m (RDs.unX l (by simpa only [D.noExc] using e))
  | _, _, .scrK (ds := ds) r l, e => .scrK r (RDs.unX l (by simpa only [D.noExc] using e))
  | _, _, .ref q, _ => .ref q
  | _, _, .fn q, _ => .fn q
  | _, _, .exc a _ _ _, e => by simp [D.noExc] at e
theorem RDs.unX : ∀ {ds : List D} {vs : List V}, RDs (c.with x) F am H ds vs → D.noExcs ds = true → RDs c F am H ds vs
  | _, _, .nil, _ => .nil
  | _, _, .cons r l, e => by
    simp only [D.noExcs, Bool.and_eq_true] at e
    exact .cons (RD.unX r e.1) (RDs.unX l e.2)
end
theorem Sto.toX (n : c.hx = none) (s : Sto c F am H h) : Sto (c.with x) F am H h :=
  ⟨s.nd, s.len, s.inF, s.ok, fun i a o q1 q2 => by
    have z := s.obj i a o q1 q2
    cases o with
    | lst ds => obtain ⟨xs, e1, e2⟩ := z; exact ⟨xs, e1, e2.toX n⟩
    | dct ds => obtain ⟨xs, e1, ek, e2⟩ := z; exact ⟨xs, e1, ek, e2.toX n⟩⟩
theorem Sto.unX (s : Sto (c.with x) F am H h) (e : h.all O.noExc = true) : Sto c F am H h :=
  ⟨s.nd, s.len, s.inF, s.ok, fun i a o q1 q2 => by
    have z := s.obj i a o q1 q2
    have e2 := List.all_eq_true.mp e o (List.mem_of_getElem? q2)
    cases o with
    | lst ds => obtain ⟨xs, e1, e3⟩ := z; exact ⟨xs, e1, e3.unX (by simpa only [O.noExc] using e2)⟩
    | dct ds => obtain ⟨xs, e1, ek, e3⟩ := z; exact ⟨xs, e1, ek, e3.unX (by simpa only [O.noExc] using e2)⟩⟩
theorem Rel.toX (n : c.hx = none) (r : Rel c F am H h S σ) : Rel (c.with x) F am H h S σ :=
  ⟨r.sto.toX n, r.len, fun i d q => let ⟨v, h1, h2⟩ := r.sl i d q; ⟨v, h1, h2.toX n⟩⟩
end
end Ci

set_option Elab.async false
set_option linter.all false
set_option maxRecDepth 100000
set_option maxHeartbeats 8000000
namespace Ci
open PySem PySem.Spec PyProof.Rows L2
/-! ### every statement -/
/-- of a def called in a suite: the exception's object q is known -/
def spX (z : Si) (i : Nat) (q : Addr × Obj) : Sp := fun vs H Q E => ∃ F am h x ds C, x.a = q.1 ∧ z.ca x.c = some C ∧ Zc (.ref C) (some x.d) q.2 ∧ (∃ vs, q.2.data = .fields vs) ∧ x.f = z.fld x.c ∧ Sto (z.rc.with x) F am H h ∧ RDs (z.rc.with x) F am H ds vs ∧
  SatR { z.to E with rc := z.rc.with x } [] F am H (z.call i ds h) (PostD { z.to E with rc := z.rc.with x } Q)
/-- what the classes say -/
structure ClsOk (z : Si) : Prop where
  cl : ∀ c C, z.ca c = some C → ExcC z.K C ∧ PySem.W.findIn z.K (.ref C) (z.fld c) = some none ∧ PySem.W.kitOne z.K (.ref C) (.type "ValueError") = some (z.sub c 99)
  k : ∀ c C c' C', z.ca c = some C → z.ca c' = some C' → PySem.W.kitOne z.K (.ref C) (.ref C') = some (z.sub c c')
  em : ∀ c C c' C', z.ca c = some C → z.ca c' = some C' → PySem.W.exmOne z.K (.ref C) (.ref C') = some (z.sub c c')
  fl : ∀ c j, 100 ≤ j → z.sub c j = true → atn j = z.fld c
/-- a def's body's context -/
structure OkS (z : Si) (X : Cx) (N : List Str) (G : GT) (sc : Scope) (hot : Bool) : Prop extends Ok z X N G sc hot where
  po : PassesOwn (model X.prog X.w) X.A X.env X.xe
  fnc : ∀ y, sc.names.lookup y = some .cell → X.fn y = true
  kd : X.env.scope.kind = .function
  stk : hot = false → X.stack = X.env :: X.outer
  frm : hot = false → X.env.frame = some X.env.locals
  wd : hot = false → ∀ y i, G y = some (.wd i) → ∃ a, X.mg y = some (.ref a) ∧ PySem.W.keepIn X.K (.ref a) = true ∧ ∃ fd ps k, FnX X.prog X.w X.K X.mg X.base (L2N.CX X.prog X.w) k a fd ps (spX z i) ∧ L2H.RoomH k X.A ∧ Binds X.K fd ps []
  cls : ClsOk z
section
variable (N : List Str) (G : GT)
def locB (sc : Scope) (i : Nat) (y : Str) : Bool := N[i]? == some y && (sc.names.lookup y == some .local || sc.names.lookup y == some .cell)
def pLoc (sc : Scope) (i : Nat) (y : Str) : Bool := N[i]? == some y && sc.names.lookup y == some .local
def parB (hot : Bool) (sc : Scope) (t : Tg) (e : E) (tg v : Expr) : Bool := match t, e, tg, v with
  | .tp (.cons (.nm i) (.cons (.nm j) .nil)), .tup (.cons a (.cons b .nil)), .Tuple [.Name x _, .Name y _] _ _, .Tuple [ea, eb] _ _ =>
    swO sc tg v == some (some [x, y]) && pLoc N sc i x && pLoc N sc j y && !(i == j) && chkEs N G hot sc (.cons a (.cons b .nil)) [ea, eb]
  | .tp (.cons (.nm i) (.cons (.nm j) (.cons (.nm l) .nil))), .tup (.cons a (.cons b (.cons c .nil))), .Tuple [.Name x _, .Name y _, .Name w _] _ _, .Tuple [ea, eb, ec] _ _ =>
    swO sc tg v == some (some [x, y, w]) && pLoc N sc i x && pLoc N sc j y && pLoc N sc l w && !(i == j) && !(i == l) && !(j == l) && chkEs N G hot sc (.cons a (.cons b (.cons c .nil))) [ea, eb, ec]
  | _, _, _, _ => false
def isDcE : E → Bool
  | .dc .. => true
  | _ => false
def asgB (hot : Bool) (sc : Scope) (t : Tg) (e : E) (tg v : Expr) : Bool := match t, tg with
  | .nm i, .Name y py => locB N sc i y && (match v with
    | .ListComp a b c d => (if swC sc y py (.ListComp a b c d) then !hot && (match e with | .il l => chkL N G hot sc l (.ListComp a b c d) | .ml l => chkL N G hot sc l (.ListComp a b c d) | _ => false) else chkE N G hot sc e (.ListComp a b c d))
    | .DictComp a a' b c d => (if swD sc y py c d then !hot && isDcE e && chkE N G hot sc e (.DictComp a a' b c d) else chkE N G hot sc e (.DictComp a a' b c d))
    | v => noComp v && chkE N G hot sc e v)
  | t, tg => !hot && (parB N G hot sc t e tg v || (swO sc tg v == some none && noComp v && tgB N sc t tg && chkE N G hot sc e v))
def chkB (hot : Bool) (sc : Scope) : Ci.St → List Stmt → Bool
  | .skip, [] => true
  | .seq s t, x :: y :: xs => chkB hot sc s [x] && chkB hot sc t (y :: xs)
  | .asg t e, [.Assign [tg] v _] => asgB N G hot sc t e tg v
  | .set a i e, [.Assign [.Subscript o ix _] v _] => noSlice ix && noComp v && chkE N G hot sc a o && chkE N G hot sc i ix && chkE N G hot sc e v
  | .aug i op e, [.AugAssign (.Name y _) o v _] => op == o && (op == .Add || op == .Sub) && locB N sc i y && chkE N G hot sc e v
  | .augx a i op e, [.AugAssign (.Subscript o ix _) o' v _] => op == o' && (op == .Add || op == .Sub) && noSlice ix && chkE N G hot sc a o && chkE N G hot sc i ix && chkE N G hot sc e v
  | .ex e, [.Expr v _] => noComp v && chkE N G hot sc e v
  | .pass, [.Expr (.Constant (.str _) _ _) _] => true
  | .pass, [.Pass _] => true
  | .ret e, [.Return (some v) _] => chkE N G hot sc e v
  | .retn, [.Return none _] => true
  | .ife c s t, [.If x a b _] => chkE N G hot sc c x && testOk 30 x && chkB hot sc s a && chkB hot sc t b
  | .for_ t it s, [.For tg i body [] _] => !hot && noSet i && chkI N G hot sc tg it i && tgB N sc t tg && chkB hot sc s body
  | .whl c s, [.While x body [] _] => chkE N G hot sc c x && testOk 30 x && chkB hot sc s body
  | .rais c e, [.Raise (some (.Call (.Name y _) [x] [] _)) none _] => !hot && gl sc y && isErr G y c && noStar x && chkE N G hot sc e x
  | .try_ s c i (.ret (.call f (.cons (.var j) .nil))), [.Try body [.ExceptHandler (some (.Name y _)) (some n) [.Return (some (.Call (.Name w _) [.Name n' _] [] _)) _] _] [] [] _] =>
    !hot && gl sc y && isCls G y c && pLoc N sc i n && gl sc w && isWd G w f && j == i && n' == n && vis sc n && chkB hot sc s body
  | .brk, [.Break _] => true
  | .cnt, [.Continue _] => true
  | .nope, [_] => true
  | .enr i a elt own tg cond, [.Assign [.Name y _] (.Call (.Name g _) [x] [] _) _, .Return (some (.ListComp el [⟨.Tuple es k tp, .Name y' pn, ifs, 0⟩] sc' d)) _] =>
    !hot && g == "enumerate" && gl sc g && isTy G g "enumerate" && noStar x && locB N sc i y && y' == y && vis sc y && chkE N G hot sc a x && chkL N G hot sc (.comp elt own tg (.val (.var i)) cond) (.ListComp el [⟨.Tuple es k tp, .Name y' pn, ifs, 0⟩] sc' d)
  | _, _ => false
end
end Ci

set_option Elab.async false
set_option linter.all false
set_option maxRecDepth 100000
set_option maxHeartbeats 8000000
namespace Ci
open PySem PySem.Spec PyProof.Rows L2
section
variable {z : Si} {X : Cx} {N : List Str} {G : GT} {sc : Scope} {hot : Bool}
theorem eOk (ok : Ok z X N G sc hot) {e : E} {x : Expr} (h : chkE N G hot sc e x = true) : GoodE z X x e := (all_ok (sizeOf e + 1)).1 e z X sc hot x (Nat.lt_succ_self _) ok h
theorem esOk (ok : Ok z X N G sc hot) {e : Es} {x : List Expr} (h : chkEs N G hot sc e x = true) : PA X x (tEs z e) := (all_ok (sizeOf e + 1)).2.1 e z X sc hot x (Nat.lt_succ_self _) ok h
theorem lOk (ok : Ok z X N G sc hot) {e : L} {x : Expr} (h : chkL N G hot sc e x = true) : GoodL z X N x e := (all_ok (sizeOf e + 1)).2.2.1 e z X sc hot x (Nat.lt_succ_self _) ok h
theorem iOk (ok : Ok z X N G sc hot) {e : It} {t x : Expr} (h : chkI N G hot sc t e x = true) : PI X t x (tI z e) := (all_ok (sizeOf e + 1)).2.2.2 e z X sc hot t x (Nat.lt_succ_self _) ok h
theorem put_nm {S S' : Sl} {d : D} {i : Nat} (h : put S d (.nm i) = some S') : S' = S.set i (some d) := by
  unfold put at h
  split at h
  · cases h; rfl
  · cases h
theorem asg_imp {t : Tg} {e : E} {D : Ends} {σ : SV} {H : Hp} {g : TG} (q : tS z (.asg t e) D σ H) (k : ∀ v σ H Q, tG z t v σ H Q → g v σ H Q) : tAsg (tE z e) g D σ H := by
  obtain ⟨S, F, am, h, r, q⟩ := q
  simp only [ex] at q
  refine ⟨S, F, am, h, r, (SatS.st r q).mono fun d h1 F1 am1 H1 _ e1 s1 ⟨r1, q1⟩ v rv => k _ _ _ _ ?_⟩
  cases hp : put S d t with
  | none => rw [hp] at q1; exact q1.elim
  | some S' =>
    rw [hp] at q1
    exact ⟨S, F1, am1, h1, d, S', r1, rv, hp, fun σ' r' _ => SatS.nxt q1 r'⟩
theorem nm_imp {i : Nat} {v : V} {σ : SV} {H : Hp} {Q : SV → Hp → Prop} (q : tG z (.nm i) v σ H Q) : gName i v σ H Q := by
  obtain ⟨S, F, am, h, d, S', r, rv, hp, q⟩ := q
  rw [put_nm hp] at q
  exact q _ (r.set i rv) fun vs hv => wipe_at σ (hv i (by simp [tgIx]))
theorem loc_ok {i : Nat} {y : Str} (ok : OkS z X N G sc hot) (h : locB N sc i y = true) : X.N[i]? = some y ∧ Loc X.env.scope y ∧ (X.fn y = true ∨ X.env.scope.names.lookup y = some .local) := by
  unfold locB at h
  simp only [Bool.and_eq_true, Bool.or_eq_true, beq_iff_eq] at h
  refine ⟨by rw [ok.hN]; exact h.1, by rw [ok.hsc]; exact h.2, ?_⟩
  rcases h.2 with k | k
  · exact .inr (by rw [ok.hsc]; exact k)
  · exact .inl (ok.fnc y k)
theorem s_nm {i : Nat} {y : Str} {py pos : Pos} {e : E} {v : Expr} (ok : OkS z X N G sc hot) (h : locB N sc i y = true) (hv : PE X v (tE z e)) (hs : swapsWith v (some (.Name y py)) pos.line X.env = pure false) : PS X (.Assign [.Name y py] v pos) (tS z (.asg (.nm i) e)) := by
  obtain ⟨l1, l2, l3⟩ := loc_ok ok h
  exact (ps_set (by rw [ok.hN]; exact ok.nd) l1 l2 hv hs l3).imp fun D σ H q => asg_imp q fun _ _ _ _ => nm_imp
theorem s_lc {i : Nat} {y : Str} {py pos : Pos} {l : L} {e : E} {a : Expr} {b : List Comprehension} {c : Scope} {d : Pos} (ok : OkS z X N G sc hot) (h : locB N sc i y = true) (hsw : swC sc y py (.ListComp a b c d) = true) (hl : GoodL z X N (.ListComp a b c d) l)
    (he : ∀ {S F am h σ H Q}, Rel z.rc F am H h S σ → SatR z σ F am H (ev z.sub z.call e S h) (PostD z Q) → SatL z σ F am H (evL z.sub z.call l S h) Q) : PS X (.Assign [.Name y py] (.ListComp a b c d) pos) (tS z (.asg (.nm i) e)) := by
  obtain ⟨l1, l2, l3⟩ := loc_ok ok h
  obtain ⟨h1, h2⟩ := swC_yes (line := pos.line) ok.kd ok.hsc hsw
  obtain ⟨t, it, ifs, el, own, tg, wi, cond, rfl, P, ⟨lk, hL⟩, _⟩ := hl.cp a b c d rfl
  have hp := ps_setLc (own := own.filterMap fun k => N[k]?.map fun y => (y, k)) (i := i) (py := py) (pos := d) (spos := pos) P.calm P.nd l1 (by rw [ok.hsc]; exact h1) h2 P.hi P.blk P.hg P.ht P.he (fold_ok P.fld)
  rw [P.own2] at hp
  have key : ∀ D σ H, tS z (.asg (.nm i) e) D σ H → LkE lk (tLc wi (tG z.mute tg) (tCond z.mute cond) (tE z.mute el) own) σ H (fun v H' => D.nx (σ.set i (some v)) H') := fun D σ H q => by
    have q2 : tAsg (tE z e) (gName i) D σ H := asg_imp q fun _ _ _ _ => nm_imp
    obtain ⟨S, F, am, hs, r, q3⟩ := q2
    exact hL _ _ _ ⟨S, F, am, hs, r, he r q3⟩
  cases lk with
  | false => exact hp.imp fun D σ H q => key D σ H q
  | true => exact (ps_lock hp).imp fun D σ H q => key D σ H q
theorem s_dc {i : Nat} {y : Str} {py pos : Pos} {e : E} {a a' : Expr} {b : List Comprehension} {c : Scope} {d : Pos} (ok : OkS z X N G sc false) (h : locB N sc i y = true) (hsw : swD sc y py c d = true) (he : isDcE e = true) (hc : chkE N G false sc e (.DictComp a a' b c d) = true) : PS X (.Assign [.Name y py] (.DictComp a a' b c d) pos) (tS z (.asg (.nm i) e)) := by
  obtain ⟨l1, l2, l3⟩ := loc_ok ok h
  cases e <;> first | (simp [isDcE] at he; done) | skip
  rename_i k v own tg it cond
  obtain ⟨t, i2, ifs, rfl, P, hv⟩ := dc_parts ok.toOk hc
  have h2 := swD_is (a := a) (a' := a') (b := [⟨t, i2, ifs, 0⟩]) (line := pos.line) (py := py) (d := d) (c := c) (y := y) ok.kd ok.hsc
  rw [hsw] at h2
  have h1 : X.env.scope.names.lookup y = some .local := by
    rw [ok.hsc]
    simp only [swD, Bool.and_eq_true, beq_iff_eq] at hsw
    exact hsw.1.1
  have hp := ps_setDc (own := own.filterMap fun k => N[k]?.map fun y => (y, k)) (i := i) (py := py) (pos := d) (spos := pos) P.calm P.nd l1 h1 h2 P.hi P.blk P.hg P.ht P.he hv (fold_ok P.fld)
  rw [P.own2] at hp
  refine hp.imp fun D σ H q => ?_
  have q2 : tAsg (tE z (.dc k v own tg it cond)) (gName i) D σ H := asg_imp q fun _ _ _ _ => nm_imp
  exact dc_sim P.hown q2
theorem s_gen {t : Tg} {e : E} {tg v : Expr} {pos : Pos} (ok : OkS z X N G sc false) (hw : swO sc tg v = some none) (hn : noComp v = true) (ht : tgB N sc t tg = true) (hv : PE X v (tE z e)) : PS X (.Assign [tg] v pos) (tS z (.asg t e)) :=
  (ps_asg hv (g_ok (z := z) (P := fun _ => True) ⟨ok.hN, ok.nd, ok.hsc, ok.calm rfl, fun i y _ _ k => ok.fnc y k⟩ t tg ht fun _ _ => trivial) (noComp_ok hn _ _ _) (swO_ok ok.kd ok.hsc hw) (by rw [tg_one X.env [] ht]; rfl)).imp fun D σ H q => asg_imp q fun _ _ _ _ x => x
theorem ploc_ok {i : Nat} {y : Str} (ok : OkS z X N G sc hot) (h : pLoc N sc i y = true) : X.N[i]? = some y ∧ X.env.scope.names.lookup y = some .local := by
  unfold pLoc at h
  simp only [Bool.and_eq_true, beq_iff_eq] at h
  exact ⟨by rw [ok.hN]; exact h.1, by rw [ok.hsc]; exact h.2⟩
theorem tE_tup {es : Es} {σ : SV} {H : Hp} {S : Sl} {F : Addr → Prop} {am : List Addr} {h : Hs} {P : D → Hs → (Addr → Prop) → List Addr → Hp → Prop} (r : Rel z.rc F am H h S σ) (q : SatR z σ F am H (ev z.sub z.call (.tup es) S h) P) :
    SatR z σ F am H (evs z.sub z.call es S h) fun ds h1 F1 am1 H1 => P (.tup ds) h1 F1 am1 H1 := by
  simp only [ev] at q
  refine q.bind r.sto.inF fun ds h1 F1 am1 H1 _ e1 s1 q1 => ?_
  split at q1
  · exact SatR.now q1 s1
  · exact q1.elim
theorem s_par2 {i j : Nat} {x y : Str} {ea eb : Expr} {a b : E} {px py pt pt2 pos : Pos} {kt k2 : Nat} (ok : OkS z X N G sc false) (hw : swO sc (.Tuple [.Name x px, .Name y py] kt pt) (.Tuple [ea, eb] k2 pt2) = some (some [x, y])) (hx : pLoc N sc i x = true) (hy : pLoc N sc j y = true) (hij : i ≠ j)
    (he : PA X [ea, eb] (tEs z (.cons a (.cons b .nil)))) : PS X (.Assign [.Tuple [.Name x px, .Name y py] kt pt] (.Tuple [ea, eb] k2 pt2) pos) (tS z (.asg (.tp (.cons (.nm i) (.cons (.nm j) .nil))) (.tup (.cons a (.cons b .nil))))) := by
  obtain ⟨x1, x2⟩ := ploc_ok ok hx
  obtain ⟨y1, y2⟩ := ploc_ok ok hy
  refine (ps_par (ok.calm rfl) (by rw [ok.hN]; exact ok.nd) x1 y1 hij x2 y2 he (swO_ok ok.kd ok.hsc hw) rfl).imp fun D σ H ⟨S, F, am, h, r, q⟩ => ?_
  simp only [ex] at q
  refine ⟨S, F, am, h, r, (tE_tup r (SatS.st r q)).mono fun ds h1 F1 am1 H1 _ e1 s1 ⟨r1, q1⟩ vs k => ?_⟩
  cases hp : put S (.tup ds) (.tp (.cons (.nm i) (.cons (.nm j) .nil))) with
  | none => rw [hp] at q1; exact q1.elim
  | some S' =>
    rw [hp] at q1
    simp only [put, seqD, Option.bind_some] at hp
    cases k with
    | nil => simp [puts] at hp
    | cons k1 k =>
      cases k with
      | nil => simp only [puts] at hp; obtain ⟨S1, _, e2⟩ := bindS hp; cases e2
      | cons k2 k =>
        cases k with
        | cons _ _ => simp only [puts] at hp; obtain ⟨S1, _, e2⟩ := bindS hp; obtain ⟨S2, _, e3⟩ := bindS e2; cases e3
        | nil =>
          simp only [puts] at hp
          obtain ⟨S1, p1, e2⟩ := bindS hp
          obtain ⟨S2, p2, e3⟩ := bindS e2
          cases e3
          rw [put_nm p2, put_nm p1] at q1
          exact ⟨_, _, rfl, SatS.nxt q1 ((r1.set i k1).set j k2)⟩
theorem s_par3 {i j l : Nat} {x y w : Str} {ea eb ec : Expr} {a b c : E} {px py pw pt pt2 pos : Pos} {kt k2 : Nat} (ok : OkS z X N G sc false) (hw : swO sc (.Tuple [.Name x px, .Name y py, .Name w pw] kt pt) (.Tuple [ea, eb, ec] k2 pt2) = some (some [x, y, w])) (hx : pLoc N sc i x = true) (hy : pLoc N sc j y = true) (hz : pLoc N sc l w = true) (hij : i ≠ j) (hil : i ≠ l) (hjl : j ≠ l)
    (he : PA X [ea, eb, ec] (tEs z (.cons a (.cons b (.cons c .nil))))) : PS X (.Assign [.Tuple [.Name x px, .Name y py, .Name w pw] kt pt] (.Tuple [ea, eb, ec] k2 pt2) pos) (tS z (.asg (.tp (.cons (.nm i) (.cons (.nm j) (.cons (.nm l) .nil)))) (.tup (.cons a (.cons b (.cons c .nil)))))) := by
  obtain ⟨x1, x2⟩ := ploc_ok ok hx
  obtain ⟨y1, y2⟩ := ploc_ok ok hy
  obtain ⟨z1, z2⟩ := ploc_ok ok hz
  refine (ps_par3 (ok.calm rfl) (by rw [ok.hN]; exact ok.nd) x1 y1 z1 hij hil hjl x2 y2 z2 he (swO_ok ok.kd ok.hsc hw) rfl).imp fun D σ H ⟨S, F, am, h, r, q⟩ => ?_
  simp only [ex] at q
  refine ⟨S, F, am, h, r, (tE_tup r (SatS.st r q)).mono fun ds h1 F1 am1 H1 _ e1 s1 ⟨r1, q1⟩ vs k => ?_⟩
  cases hp : put S (.tup ds) (.tp (.cons (.nm i) (.cons (.nm j) (.cons (.nm l) .nil)))) with
  | none => rw [hp] at q1; exact q1.elim
  | some S' =>
    rw [hp] at q1
    simp only [put, seqD, Option.bind_some] at hp
    cases k with
    | nil => simp [puts] at hp
    | cons k1 k =>
      cases k with
      | nil => simp only [puts] at hp; obtain ⟨S1, _, e2⟩ := bindS hp; cases e2
      | cons k2 k =>
        cases k with
        | nil => simp only [puts] at hp; obtain ⟨S1, _, e2⟩ := bindS hp; obtain ⟨S2, _, e3⟩ := bindS e2; cases e3
        | cons k3 k =>
          cases k with
          | cons _ _ => simp only [puts] at hp; obtain ⟨S1, _, e2⟩ := bindS hp; obtain ⟨S2, _, e3⟩ := bindS e2; obtain ⟨S3, _, e4⟩ := bindS e3; cases e4
          | nil =>
            simp only [puts] at hp
            obtain ⟨S1, p1, e2⟩ := bindS hp
            obtain ⟨S2, p2, e3⟩ := bindS e2
            obtain ⟨S3, p3, e4⟩ := bindS e3
            cases e4
            rw [put_nm p3, put_nm p2, put_nm p1] at q1
            exact ⟨_, _, _, rfl, SatS.nxt q1 (((r1.set i k1).set j k2).set l k3)⟩
theorem s_set {a i e : E} {o ix v : Expr} {p pos : Pos} (hu : X.A.units + 1 < cLine) (hix : noSlice ix = true) (hn : noComp v = true) (ho : PE X o (tE z a)) (hi : PE X ix (tE z i)) (hv : PE X v (tE z e)) : PS X (.Assign [.Subscript o ix p] v pos) (tS z (.set a i e)) := by
  refine (ps_asg (tg := .Subscript o ix p) hv (pg_sub ho hi (set_both hu) (by intro u; cases ix <;> first | rfl | cases hix)) (noComp_ok hn (some (.Subscript o ix p)) pos.line X.env) rfl rfl).imp fun D σ H ⟨S, F, am, h, r, q⟩ => ?_
  simp only [ex] at q
  refine ⟨S, F, am, h, r, (SatS.st r q).mono fun w h1 F1 am1 H1 _ e1 s1 ⟨r1, q1⟩ v rv => ?_⟩
  refine ⟨S, F1, am1, h1, r1, (SatS.st r1 q1).mono fun d h2 F2 am2 H2 _ e2 s2 ⟨r2, q2⟩ u ru => ?_⟩
  refine ⟨S, F2, am2, h2, r2, (SatS.st r2 q2).mono fun k h3 F3 am3 H3 _ e3 s3 ⟨r3, q3⟩ t rt => ?_⟩
  have rv := (rv.ext e2 s1.inF).ext e3 s2.inF
  have ru := ru.ext e3 s2.inF
  obtain ⟨n, rfl⟩ : ∃ n, d = .ref n := by cases d <;> first | exact ⟨_, rfl⟩ | exact q3.elim
  obtain ⟨k, rfl⟩ : ∃ j, k = .int j := by cases k <;> first | exact ⟨_, rfl⟩ | exact q3.elim
  cases rt
  cases ru with
  | ref hn =>
    simp only at q3
    cases hh : h3[n]? with
    | none => rw [hh] at q3; exact q3.elim
    | some o =>
      cases o with
      | dct ds =>
        rw [hh] at q3
        simp only at q3
        obtain ⟨ws, g1, gk, g2⟩ := s3.obj _ _ _ hn hh
        split at q3
        · rename_i hl
          have kv : RKv z.rc F3 am3 H3 ds ws := ⟨gk, g2⟩
          obtain ⟨e4, s4⟩ := s3.writeD hn (kv.put (.inl k) rv)
          refine .inr ⟨_, _, rfl, DPut.k (k := .inl k) g1 (by rw [← kv.len]; exact hl), ?_⟩
          exact q3 F3 am3 _ σ e4 (r3.to e4 s4)
        · exact q3.elim
      | lst ds =>
        rw [hh] at q3
        simp only at q3
        obtain ⟨xs, g1, g2⟩ := s3.obj _ _ _ hn hh
        unfold setD at q3
        rw [ixI_eq] at q3
        cases hk : ixN ds.length k with
        | none => rw [hk] at q3; exact q3.elim
        | some j =>
          rw [hk] at q3
          obtain ⟨e4, s4⟩ := s3.write hn (g2.set rv j)
          exact .inl ⟨_, xs, k, j, rfl, rfl, g1, by rw [← g2.length]; exact hk, q3 F3 am3 _ σ e4 (r3.to e4 s4)⟩
theorem get_list : PGet X (fun o i H Q => ∃ p xs k z, o = .ref p ∧ i = .int k ∧ SqL X.K H p xs ∧ atI xs k = some z ∧ Q z H) := by
  intro pins s σ H o i ov iv Q I ro ri w
  obtain ⟨p, xs, k, z, rfl, rfl, hq, he, q⟩ := w
  cases ro
  obtain ⟨t, rfl⟩ := ri
  obtain ⟨its, r, pl, hz⟩ := I.list hq
  obtain ⟨j, a1, a2, a3, a4, a5⟩ := atI_get he
  obtain ⟨w, ew, rw'⟩ := r.get a2
  have hl := r.length
  have hn := line63
  by_cases h0 : 0 ≤ k
  · have hj : k.toNat = j := by
      rw [seqIndex_of h0 a5] at a1
      exact Option.some.inj a1
    exact wpAny_getItem_list (Q := EP X pins σ Q) pl.isList h0 (by omega) (by rw [hj]; simpa using ew) ⟨z, H, I, rw', q⟩
  · have hj : (k + (its.toArray.size : Int)).toNat = j := by
      rw [seqIndex_neg (by omega) a4] at a1
      rw [List.size_toArray, ← hl]
      exact Option.some.inj a1
    exact wpAny_getItem_list_neg (Q := EP X pins σ Q) pl.isList (by omega) (by rw [List.size_toArray] <;> omega) (by omega) (by rw [hj]; simpa using ew) ⟨z, H, I, rw', q⟩
theorem s_augx {a i e : E} {op : Operator} {o ix v : Expr} {p pos : Pos} (ho : op = .Add ∨ op = .Sub) (hix : noSlice ix = true) (h1 : PE X o (tE z a)) (h2 : PE X ix (tE z i)) (hv : PE X v (tE z e)) : PS X (.AugAssign (.Subscript o ix p) op v pos) (tS z (.augx a i op e)) := by
  have hst : ∀ ov iv new, augStore ix ov iv new = (do holding [new, ov, iv] (setItem ov iv new); release [new, ov, iv] []; pure .next) := by
    intro ov iv new
    cases ix <;> first | rfl | cases hix
  have key : ∀ {f : Int → Int → Int}, PIp X op (ipI f) → (∀ x y v, augV op x y = some v → ∃ j, y = .int j ∧ v = .int (f x j)) → PS X (.AugAssign (.Subscript o ix p) op v pos) (tS z (.augx a i op e)) := fun {f} hp hf => by
    refine (ps_augS h1 h2 get_list hv hp set_list hst).imp fun D σ H ⟨S, F, am, h, r, q⟩ => ?_
    simp only [ex] at q
    refine ⟨S, F, am, h, r, (SatS.st r q).mono fun d h1 F1 am1 H1 _ e1 s1 ⟨r1, q1⟩ vo ro => ?_⟩
    refine ⟨S, F1, am1, h1, r1, (SatS.st r1 q1).mono fun k h2 F2 am2 H2 _ e2 s2 ⟨r2, q2⟩ vk rk => ?_⟩
    have ko := rd_rel s2 (ro.ext e2 s1.inF)
    generalize rd h2 d = od at ko q2
    obtain ⟨xs, rfl⟩ : ∃ xs, od = .lst xs := by cases od <;> first | exact ⟨_, rfl⟩ | exact q2.elim
    obtain ⟨j, rfl⟩ : ∃ j, k = .int j := by cases k <;> first | exact ⟨_, rfl⟩ | exact q2.elim
    obtain ⟨b, ws, rfl, g1, k1⟩ := ko.list
    cases rk
    simp only at q2
    cases ha : atD xs j with
    | none => rw [ha] at q2; exact q2.elim
    | some w =>
      rw [ha] at q2
      obtain ⟨x, rfl⟩ : ∃ x, w = .int x := by cases w <;> first | exact ⟨_, rfl⟩ | exact q2.elim
      simp only at q2
      have hat : atI ws j = some (.int x) := by
        unfold atD at ha
        rw [ixI_eq] at ha
        cases e2 : ixN xs.length j with
        | none => rw [e2] at ha; cases ha
        | some n =>
          rw [e2, Option.bind_some] at ha
          obtain ⟨w', q1, q2⟩ := k1.get ha
          cases q2
          unfold atI
          rw [← k1.length, e2, Option.bind_some]
          exact q1
      refine ⟨b, ws, j, .int x, rfl, rfl, SqL.of g1, hat, S, F2, am2, h2, r2, (SatS.st r2 q2).mono fun y h3 F3 am3 H3 _ e3 s3 ⟨r3, q3⟩ vy ry => ?_⟩
      cases hv : augV op x y with
      | none => rw [hv] at q3; exact q3.elim
      | some nv =>
        rw [hv] at q3
        obtain ⟨j2, rfl, rfl⟩ := hf _ _ _ hv
        cases ry
        obtain ⟨n, rfl⟩ : ∃ n, d = .ref n := by cases d <;> first | exact ⟨_, rfl⟩ | exact q3.elim
        have ro := (ro.ext e2 s1.inF).ext e3 s2.inF
        cases ro with
        | ref hn =>
          refine ⟨x, j2, rfl, rfl, ?_⟩
          simp only [augO] at q3
          cases hh : h3[n]? with
          | none => rw [hh] at q3; exact q3.elim
          | some ob =>
            cases ob with
            | dct ds => rw [hh] at q3; exact q3.elim
            | lst ds =>
              rw [hh] at q3
              simp only at q3
              obtain ⟨zs, g3, g4⟩ := s3.obj _ _ _ hn hh
              unfold setD at q3
              rw [ixI_eq] at q3
              cases hk : ixN ds.length j with
              | none => rw [hk] at q3; exact q3.elim
              | some m =>
                rw [hk] at q3
                obtain ⟨e4, s4⟩ := s3.write hn (g4.set (.int (f x j2)) m)
                exact ⟨_, zs, j, m, rfl, rfl, g3, by rw [← g4.length]; exact hk, q3 F3 am3 _ σ e4 (r3.to e4 s4)⟩
  rcases ho with rfl | rfl
  · exact key ip_add fun x y v e => by
      cases y <;> simp only [augV, reduceCtorEq, Option.some.injEq] at e
      exact ⟨_, rfl, e.symm⟩
  · exact key ip_sub fun x y v e => by
      cases y <;> simp only [augV, reduceCtorEq, Option.some.injEq] at e
      exact ⟨_, rfl, e.symm⟩
theorem s_aug {i : Nat} {op : Operator} {e : E} {y : Str} {py pos : Pos} {v : Expr} (ok : OkS z X N G sc hot) (ho : op = .Add ∨ op = .Sub) (h : locB N sc i y = true) (hv : PE X v (tE z e)) : PS X (.AugAssign (.Name y py) op v pos) (tS z (.aug i op e)) := by
  obtain ⟨l1, l2, l3⟩ := loc_ok ok h
  have key : ∀ {f : Int → Int → Int}, PIp X op (ipI f) → (∀ (x y : Int) (S S' : Sl) (h : Hs), (match op, D.int y with | .Add, .int y => RS.nx (S.set i (some (.int (x + y)))) h | .Sub, .int y => .nx (S.set i (some (.int (x - y)))) h | _, _ => .bad) = .nx (S.set i (some (.int (f x y)))) h) →
      PS X (.AugAssign (.Name y py) op v pos) (tS z (.aug i op e)) := fun {f} hp hf =>
    (ps_aug (by rw [ok.hN]; exact ok.nd) l1 l2 hv hp l3).imp fun D σ H ⟨S, F, am, h, r, q⟩ => by
      simp only [ex] at q
      split at q
      · rename_i x hx
        obtain ⟨w, g1, g2⟩ := r.sl i _ hx
        cases g2
        refine ⟨_, g1, S, F, am, h, r, (SatS.st r q).mono fun d h1 F1 am1 H1 _ e1 s1 ⟨r1, q1⟩ v rv => ?_⟩
        obtain ⟨y, rfl⟩ : ∃ y, d = .int y := by cases d <;> first | exact ⟨_, rfl⟩ | (rcases ho with rfl | rfl <;> exact q1.elim)
        cases rv
        exact ⟨x, y, rfl, rfl, SatS.nxt (Eq.mp (congrArg (SatS z D F1 am1 H1) (hf x y S S h1)) q1) (r1.set i (.int _))⟩
      · exact q.elim
  rcases ho with rfl | rfl
  · exact key ip_add fun _ _ _ _ _ => rfl
  · exact key ip_sub fun _ _ _ _ _ => rfl
theorem s_ex {e : E} {v : Expr} {pos : Pos} (hn : noComp v = true) (hv : PE X v (tE z e)) : PS X (.Expr v pos) (tS z (.ex e)) :=
  (ps_expr hv (noComp_ok hn _ _ _)).imp fun D σ H ⟨S, F, am, h, r, q⟩ => by
    simp only [ex] at q
    exact ⟨S, F, am, h, r, (SatS.st r q).mono fun d h1 F1 am1 H1 _ e1 s1 ⟨r1, q1⟩ v rv => SatS.nxt q1 r1⟩
theorem s_ret {e : E} {v : Expr} {pos : Pos} (hv : PE X v (tE z e)) : PS X (.Return (some v) pos) (tS z (.ret e)) :=
  (ps_ret hv).imp fun D σ H ⟨S, F, am, h, r, q⟩ => by
    simp only [ex] at q
    exact ⟨S, F, am, h, r, (SatS.st r q).mono fun d h1 F1 am1 H1 _ e1 s1 ⟨r1, q1⟩ v rv => q1 F1 am1 H1 v .refl s1 rv⟩
theorem Rel.drop {F : Addr → Prop} {am : List Addr} {H : Hp} {h : Hs} {S : Sl} {σ : SV} {c : Rc} (r : Rel c F am H h S σ) (i : Nat) (x : Option V) : Rel c F am H h (S.set i none) (σ.set i x) := by
  refine ⟨r.sto, by simp [r.len], fun j d q => ?_⟩
  by_cases e : i = j
  · subst e
    rw [List.getElem?_set_self'] at q
    cases hS : S[i]? with
    | none => rw [hS] at q; cases q
    | some o => rw [hS] at q; cases q
  · rw [List.getElem?_set_ne e] at q ⊢
    exact r.sl j d q
theorem s_enr {i : Nat} {a elt : E} {own : List Nat} {tg : Tg} {cond : E} {y g y' : Str} {py p p2 pa tp pn d pr : Pos} {x el : Expr} {es : List Expr} {k : Nat} {ifs : List Expr} {sc' : Scope} (ok : OkS z X N G sc false) (hg : gl sc g = true) (hg2 : g = "enumerate") (hb : isTy G g "enumerate" = true) (hs : noStar x = true)
    (h : locB N sc i y = true) (hy : y' = y) (hv : vis sc y = true) (ha : PE X x (tE z a)) (hl : GoodL z X N (.ListComp el [⟨.Tuple es k tp, .Name y' pn, ifs, 0⟩] sc' d) (.comp elt own tg (.val (.var i)) cond)) :
    PSs X [.Assign [.Name y py] (.Call (.Name g p) [x] [] p2) pa, .Return (some (.ListComp el [⟨.Tuple es k tp, .Name y' pn, ifs, 0⟩] sc' d)) pr] (tS z (.enr i a elt own tg cond)) := by
  subst hg2 hy
  obtain ⟨l1, l2, l3⟩ := loc_ok ok h
  obtain ⟨v1, v2, v3⟩ := vis_ok ok.toOk hv
  obtain ⟨g1, g2, g3⟩ := gl_ok ok.toOk hg
  obtain ⟨t, it, ifs', el', own', tg', i2, cond', e1, P, _, e2⟩ := hl.cp _ _ _ _ rfl
  cases e1
  obtain ⟨rfl, rfl, rfl, rfl⟩ := e2 _ _ _ _ _ rfl
  have hA := ps_set (i := i) (pos' := py) (pos := pa) (by rw [ok.hN]; exact ok.nd) l1 l2 (pe_enV (p := p) (pos := p2) g1 (ty_at ok.toOk hb).1 (pa_cons ha pa_nil (star_ok hs)) (star_ok hs)) (noComp_ok rfl _ _ _) l3
  have hI : PI X (.Tuple es k tp) (.Name y' pn) (iEnV X (tVar i)) := pi_enV (pe_var l1 v1 v2 v3)
  have hp := pe_lc (own := own.filterMap fun k => N[k]?.map fun y => (y, k)) (pos := d) P.calm P.nd hI P.blk P.hg P.ht P.he (fold_ok rfl)
  rw [P.own2] at hp
  refine (pss_cons hA (pss_one (ps_ret (pos := pr) hp))).imp fun D σ H ⟨S, F, am, h, r, q⟩ => ?_
  simp only [ex] at q
  refine ⟨S, F, am, h, r, (SatS.st r q).mono fun b h1 F1 am1 H1 _ e1 s1 ⟨r1, q1⟩ v rv => ?_⟩
  cases b <;> first | exact q1.elim | skip
  cases rv with
  | lst g n kk =>
    by_cases hi : i < S.length
    rotate_left
    · simp only [hi, decide_false, Bool.false_eq_true, if_false] at q1
      exact q1.elim
    simp only [hi, decide_true, if_true] at q1
    have hi2 : i < σ.length := by rw [← r1.len]; exact hi
    refine ⟨_, _, rfl, SqL.of g, fun e it he hit hne me mi => ?_⟩
    have hd : ∀ (o1 o2 : HO), delH (delH (upd (upd H1 it o1) e o2) e) it = H1 := fun o1 o2 => by
      rw [delH_new (by rw [upd_ne hne]; exact he), delH_new hit]
    refine ⟨.ref e, ?_, e, it, _, _, rfl, upd_same, by rw [upd_ne (Ne.symm hne)]; exact upd_same, hne, me, mi, SqL.of ((upd_ne (ne_of_none g he)).trans ((upd_ne (ne_of_none g hit)).trans g)), ?_⟩
    · exact List.getElem?_set_self hi2
    · rw [hd]
      intro p hp
      have r2 : Rel z.rc F1 am1 H1 h1 (S.set i none) (σ.set i (some (.ref e))) := r1.drop i _
      simp only [ev] at q1
      have q2 := il_of (Q := D.rt) s1 ((SatS.st r2 q1).mono fun d h2 F2 am2 H2 _ e2 s2 ⟨r3, q3⟩ v rv => q3 F2 am2 H2 v .refl s2 rv)
      simp only [evL, evI, ev, seqD, liftO, Option.map] at q2
      exact lc_at (src := .fix (enumD 0 _)) P.hown r2 (wk_enum s1.inF kk (keepL s1.inF g n)) q2 p hp
theorem s_if {c : E} {s t : Ci.St} {x : Expr} {a b : List Stmt} {pos : Pos} (hc : PT X x (tB z c)) (ha : PSs X a (tS z s)) (hb : PSs X b (tS z t)) : PS X (.If x a b pos) (tS z (.ife c s t)) :=
  (ps_if hc ha hb).imp fun D σ H ⟨S, F, am, h, r, q⟩ => by
    simp only [ex] at q
    refine ⟨S, F, am, h, r, (SatS.st r q).mono fun k h1 F1 am1 H1 _ e1 s1 ⟨r1, q1⟩ => ?_⟩
    cases k with
    | true => exact ⟨S, F1, am1, h1, r1, q1⟩
    | false => exact ⟨S, F1, am1, h1, r1, q1⟩
theorem s_while {c : E} {s : Ci.St} {x : Expr} {body : List Stmt} {pos : Pos} (po : PassesOwn (model X.prog X.w) X.A X.env X.xe) (hc : PT X x (tB z c)) (hb : PSs X body (tS z s)) : PS X (.While x body [] pos) (tS z (.whl c s)) :=
  (ps_while po hc hb).imp fun D σ H ⟨S, F, am, h, r, q⟩ => by
    simp only [ex] at q
    refine ⟨fun m σ' H' => ∃ S F am h, Rel z.rc F am H' h S σ' ∧ SatS z D F am H' (whlF (tst z.sub z.call c) (ex z.sub z.call s) m S h), ⟨_, S, F, am, h, r, q⟩, fun m σ1 H1 ⟨S1, F1, am1, h1, r1, q1⟩ => ?_⟩
    cases m with
    | zero => exact q1.elim
    | succ m =>
      unfold whlF at q1
      refine ⟨S1, F1, am1, h1, r1, (SatS.st r1 q1).mono fun k h2 F2 am2 H2 _ e2 s2 ⟨r2, q2⟩ => ?_⟩
      cases k with
      | false => exact SatS.nxt q2 r2
      | true => exact ⟨fun σ3 H3 => ∃ S F am h, Rel z.rc F am H3 h S σ3 ∧ SatS z D F am H3 (whlF (tst z.sub z.call c) (ex z.sub z.call s) m S h), fun σ3 H3 w => ⟨m, Nat.lt_succ_self _, w⟩, S1, F2, am2, h2, r2,
          SatS.turn s2.inF q2 fun F' am' H' S' h' σ' _ r' q' => ⟨S', F', am', h', r', q'⟩⟩
theorem s_for {t : Tg} {it : It} {s : Ci.St} {tg x : Expr} {body : List Stmt} {pos : Pos} (po : PassesOwn (model X.prog X.w) X.A X.env X.xe) (hc : X.calm = true) (hns : noSet x = true) (hi : PI X tg x (tI z it)) (hg : PG X tg (tG z t)) (hb : PSs X body (tS z s)) : PS X (.For tg x body [] pos) (tS z (.for_ t it s)) :=
  (ps_for po hc hi hg hb (fold_ok hns)).imp fun D σ H ⟨S, F, am, h, r, q⟩ => by
    simp only [ex] at q
    refine ⟨S, F, am, h, r, (SatS.st r q).mono fun src h1 F1 am1 H1 _ e1 s1 ⟨r1, q1⟩ J w => ?_⟩
    generalize hturn : (fun (x : Ci.D) (S : Sl) (h : Hs) => match put S x t with
      | some S' => ex z.sub z.call s S' h
      | none => RS.bad) = turn at q1
    have q2 : ∃ k, SatS z D F1 am1 H1 (forG turn src k 0 S h1) := by
      cases src with
      | fix xs =>
        refine ⟨xs.length + 1, ?_⟩
        rw [← forF_G turn xs (xs.length + 1) 0 S h1 (by omega) (Nat.zero_le _)]
        exact q1
      | dyn n => exact ⟨wfuel, q1⟩
    obtain ⟨k0, q2⟩ := q2
    refine ⟨fun i m σ' H' => ∃ F am h S, Ext F1 am1 H1 F am H' ∧ Rel z.rc F am H' h S σ' ∧ SatS z D F am H' (forG turn src m i S h), ⟨k0, F1, am1, h1, S, .refl, r1, q2⟩, fun i m σ2 H2 ⟨F2, am2, h2, S2, e2, r2, q3⟩ => ?_⟩
    cases m with
    | zero => exact q3.elim
    | succ m =>
      unfold forG at q3
      obtain ⟨w1, w2⟩ := w F2 am2 H2 h2 e2 r2.sto i
      cases hi : itm src h2 i with
      | none =>
        rw [hi] at q3
        have q3 : SatS z D F2 am2 H2 (if srcOk src h2 = true then RS.nx S2 h2 else RS.bad) := q3
        cases hb : srcOk src h2 with
        | false => rw [hb] at q3; exact q3.elim
        | true =>
          rw [hb] at q3
          exact .inl ⟨w2 hi hb, SatS.nxt q3 r2⟩
      | some d =>
        rw [hi] at q3
        obtain ⟨g1, g2⟩ := w1 d hi
        refine .inr ⟨g1, fun σ3 H3 => ∃ F am h S, Ext F1 am1 H1 F am H3 ∧ Rel z.rc F am H3 h S σ3 ∧ SatS z D F am H3 (forG turn src m (i + 1) S h), fun σ3 H3 w => ⟨m, Nat.lt_succ_self _, w⟩, fun v H3 y => ?_⟩
        obtain ⟨F3, am3, e3, s3, rd⟩ := g2 v H3 y
        have r3 := r2.to e3 s3
        have q4 := SatS.ext e3 r2.sto.inF q3
        have q5 : SatS z { D with nx := fun σ3 H3 => ∃ F am h S, Ext F1 am1 H1 F am H3 ∧ Rel z.rc F am H3 h S σ3 ∧ SatS z D F am H3 (forG turn src m (i + 1) S h), ct := fun σ3 H3 => ∃ F am h S, Ext F1 am1 H1 F am H3 ∧ Rel z.rc F am H3 h S σ3 ∧ SatS z D F am H3 (forG turn src m (i + 1) S h), bk := D.nx } F3 am3 H3 (turn d S2 h2) :=
          SatS.turn s3.inF q4 fun F' am' H' S' h' σ' e' r' q' => ⟨F', am', h', S', (e2.trans e3 s1.inF).trans e' s1.inF, r', q'⟩
        rw [← hturn] at q5
        simp only at q5
        cases hp : put S2 d t with
        | none => rw [hp] at q5; exact q5.elim
        | some S3 =>
          rw [hp] at q5
          exact ⟨S2, F3, am3, h2, d, S3, r3, rd, hp, fun σ' r' _ => ⟨S3, F3, am3, h2, r', by rw [hturn] at *; exact q5⟩⟩
end
end Ci

set_option Elab.async false
set_option linter.all false
set_option maxRecDepth 100000
set_option maxHeartbeats 8000000
namespace Ci
open PySem PySem.Spec PyProof.Rows L2
section
variable {z : Si} {X : Cx} {N : List Str} {G : GT} {sc : Scope} {hot : Bool}
theorem scal_V {d : Ci.D} (h : d.scal = true) : ∃ w, scV d = some w := by
  cases d <;> first | exact ⟨_, rfl⟩ | (simp [D.scal] at h)
theorem s_rais {c : Nat} {e : E} {y : Str} {x : Expr} {p p2 pos : Pos} (ok : OkS z X N G sc false) (hg : gl sc y = true) (he : isErr G y c = true) (hs : noStar x = true) (hx : PE X x (tE z e)) : PS X (.Raise (some (.Call (.Name y p) [x] [] p2)) none pos) (tS z (.rais c e)) := by
  obtain ⟨g1, g2, g3⟩ := gl_ok ok.toOk hg
  obtain ⟨C, c1, c2, T⟩ := err_at ok.toOk he
  refine (L2N.ps_raise (ok.calm rfl) ok.tk (pmk_err T c2 ok.su (by have := ok.dp; omega) (pa_cons hx pa_nil (star_ok hs)) g1 g2 (star_ok hs))).imp fun D σ H ⟨S, F, am, h, r, q⟩ => ?_
  simp only [ex] at q
  refine ⟨S, F, am, h, r, (SatS.st r q).mono fun d h1 F1 am1 H1 _ e1 s1 ⟨r1, q1⟩ v rv => ?_⟩
  refine ⟨v, rfl, fun dd hd => ?_⟩
  split at q1
  · rename_i hsc
    obtain ⟨w, hw⟩ := scal_V hsc
    cases rv.sc hw
    obtain ⟨e2, s2, n2⟩ := s1.laid hd (.xd [(z.fld c, v)])
    exact q1 F1 am1 _ σ C dd v e2 (r1.to e2 s2) c1 hw upd_same n2
  · exact q1.elim
/-- what a suite wants -/
def tsX (z : Si) (t : Ci.St) : Addr → Value → Option Addr → TS := fun a cls d D σ H => ∃ (x : Hx) (C : Addr), x.a = a ∧ d = some x.d ∧ z.ca x.c = some C ∧ cls = .ref C ∧ x.f = z.fld x.c ∧ tS { z with rc := z.rc.with x, W := fun _ _ _ _ => False } t D σ H
theorem mark_h {A : Around} {a : Addr} : (A.mark (some (.ref a))).handled = some (.ref a) := rfl
theorem s_suite {f j : Nat} {w n : Str} {p1 p2 p3 p4 : Pos} (ok : OkS z X N G sc false) (hw : gl sc w = true) (hf : isWd G w f = true) (hj : N[j]? = some n) (hv : vis sc n = true) (a : Addr) (oe : Obj) (cls : Value) (d : Option Addr) (pn : List (Addr × Obj)) (hz : L2N.Zn cls d oe) (hvs : ∃ vs, oe.data = .fields vs) :
    PSs (X.suite a ((a, oe) :: pn)) [.Return (some (.Call (.Name w p1) [.Name n p2] [] p3)) p4] (tsX z (.ret (.call f (.cons (.var j) .nil))) a cls d) := by
  refine ⟨fun pins s σ H D I ⟨x, C, xa, xd, xc, xC, xf, q⟩ => ?_⟩
  obtain ⟨g1, g2, g3⟩ := gl_ok ok.toOk hw
  obtain ⟨fa, hm, hk, fd, ps, k, FO, hr, hb⟩ := ok.wd rfl w f (wd_at hf)
  obtain ⟨v1, v2, v3⟩ := vis_ok ok.toOk hv
  obtain ⟨fv, hfv⟩ := hvs
  have hot : L2H.Hot1 (X.suite a ((a, oe) :: pn)).A (a, oe) := ⟨mark_h, fv, hfv, hz.2.2 fv hfv⟩
  have room : L2H.RoomH k (X.suite a ((a, oe) :: pn)).A := ⟨hr.dp, hr.un⟩
  have pv : PE (X.suite a ((a, oe) :: pn)) (.Name n p2) (tVar j) := pe_var (i := j) (by show X.N[j]? = some n; rw [ok.hN]; exact hj) v1 v2 v3
  have tk : L2N.Takes (X.suite a ((a, oe) :: pn)) (fun _ _ _ _ => False) := fun u s' ⟨a, B, sI, pins, σ, H, cls, d, e, I, nb, up, sky, na, os, ag, w⟩ => w.elim
  refine (pss_one (ps_ret (pe_callX (X := X.suite a ((a, oe) :: pn)) (E := WE fun _ _ _ _ => False) FO room hot List.mem_cons_self g1 hm hk hb (fun σ => L2N.passAt tk σ) (pa_cons pv pa_nil (star_ok (x := .Name n p2) rfl)) g2 (star_ok (x := .Name n p2) rfl) rfl))).run pins s σ H D I ?_
  obtain ⟨S, F, am, h, r, q⟩ := q
  simp only [ex] at q
  have q1 := SatS.st r q
  simp only [ev, evs] at q1
  cases e : S[j]? with
  | none => rw [e] at q1; exact q1.elim
  | some o =>
    rw [e] at q1
    cases o with
    | none => exact q1.elim
    | some dd =>
      obtain ⟨v, h1, h2⟩ := r.sl j dd e
      refine ⟨v, h1, ?_⟩
      refine ⟨F, am, h, x, [dd], C, xa, xc, ⟨by rw [hz.1, xC], by rw [hz.2.1, xd]⟩, ⟨fv, hfv⟩, xf, r.sto, .cons h2 .nil, ?_⟩
      have q2 : SatR { z with rc := z.rc.with x, W := fun _ _ _ _ => False } σ F am H (z.call f [dd] h) (fun a h1 F1 am1 H1 => Rel (z.rc.with x) F1 am1 H1 h1 S σ ∧ SatS { z with rc := z.rc.with x, W := fun _ _ _ _ => False } D F1 am1 H1 (.rt a h1)) := q1
      generalize z.call f [dd] h = r2 at q2 ⊢
      cases r2 with
      | ok d2 h2 => exact fun F' am' H' e' s' v' rv' => (q2 F' am' H' e' s').2 F' am' H' v' .refl s' rv'
      | exc c v h => exact fun F' am' H' C dd w e s h1 h2 h3 h4 => q2 F' am' H' C dd w e s h1 h2 h3 h4
      | bad => exact q2
theorem s_try {s : Ci.St} {c i f : Nat} {y n w : Str} {np p1 p2 p3 p4 p5 pos : Pos} {body : List Stmt} (ok : OkS z X N G sc false) (hg : gl sc y = true) (hc : isCls G y c = true) (hi : pLoc N sc i n = true) (hw : gl sc w = true) (hf : isWd G w f = true) (hv : vis sc n = true)
    (hb : ∀ (W : WX) (pn : List (Addr × Obj)) (xe : Value → Shared → Prop), L2N.Takes (X.tr pn xe) W → PassesOwn (model X.prog X.w) X.A X.env xe → PSs (X.tr pn xe) body (tS { z with W := W } s)) :
    PS X (.Try body [.ExceptHandler (some (.Name y np)) (some n) [.Return (some (.Call (.Name w p1) [.Name n p2] [] p3)) p4] p5] [] [] pos) (tS z (.try_ s c i (.ret (.call f (.cons (.var i) .nil))))) := by
  obtain ⟨g1, g2, g3⟩ := gl_ok ok.toOk hg
  obtain ⟨C0, c1, c2⟩ := cls_at ok.toOk hc
  obtain ⟨i1, i2⟩ := ploc_ok ok hi
  have hin : N[i]? = some n := by rw [← ok.hN]; exact i1
  refine (L2N.ps_try_as (c := .ref C0) (i := i) (tb := fun W => tS { z with W := W } s) (ts := tsX z (.ret (.call f (.cons (.var i) .nil)))) (Wout := z.W) (ok.stk rfl) (ok.frm rfl) (by rw [ok.hN]; exact ok.nd) i1 i2 ⟨g1, g2, .inl c2⟩ ok.tk hb (s_suite ok hw hf hin hv)).imp fun D σ H ⟨S, F, am, h, r, q⟩ => ?_
  have hx0 := (ok.cf rfl).1
  have em := ok.cls.em
  rw [← ok.hK] at em
  refine ⟨S, F, am, h, r, ?_⟩
  unfold ex at q
  show SatS _ D F am H (ex z.sub z.call s S h)
  generalize ex z.sub z.call s S h = r1 at q ⊢
  cases r1 with
  | nx S1 h1 => exact q
  | rt d h1 => exact q
  | bk S1 h1 => exact q
  | ct S1 h1 => exact q
  | bad => exact q
  | exc e v S1 h1 =>
    intro F' am' H' σ' C dd w' e1 r1 k1 k2 k3 k4
    refine ⟨z.sub e c, em e C c C0 k1 c1, fun hs a na => ?_, fun hs => ?_⟩
    · simp only at q
      rw [hs, if_pos rfl] at q
      have q' := SatS.ext e1 r.sto.inF q
      refine ⟨⟨a, e, dd, z.fld e⟩, C, rfl, rfl, k1, rfl, rfl, S1.set i (some (.exc e v)), F', am', h1, (r1.toX hx0).set i (.exc (x := ⟨a, e, dd, z.fld e⟩) rfl k2 k3 k4), ?_⟩
      show SatS _ _ F' am' H' (ex z.sub z.call _ _ h1)
      generalize ex z.sub z.call (St.ret (E.call f (Es.cons (E.var i) Es.nil))) (S1.set i (some (.exc e v))) h1 = r2 at q' ⊢
      cases r2 with
      | rt d h2 =>
        simp only at q'
        split at q'
        · rename_i hc
          simp only [Bool.and_eq_true] at hc
          exact fun F2 am2 H2 v2 e2 s2 rv2 => q' F2 am2 H2 v2 e2 (s2.unX hc.2) (rv2.unX hc.1)
        · exact q'.elim
      | nx S1 h1 => exact q'.elim
      | bk S1 h1 => exact q'.elim
      | ct S1 h1 => exact q'.elim
      | exc c v S h => exact q'.elim
      | bad => exact q'.elim
    · simp only at q
      rw [hs, if_neg Bool.false_ne_true] at q
      exact q F' am' H' σ' C dd w' e1 r1 k1 k2 k3 k4
/-- a block does as the evaluator says -/
structure GoodS (z : Si) (X : Cx) (xs : List Stmt) (st : Ci.St) : Prop where
  pss : PSs X xs (tS z st)
  ps : ∀ x, xs = [x] → PS X x (tS z st)
theorem good_one {x : Stmt} {st : Ci.St} (h : PS X x (tS z st)) : GoodS z X [x] st := ⟨pss_one h, fun y e => by cases e; exact h⟩
theorem OkS.tr (ok : OkS z X N G sc false) (W : WX) (pn : List (Addr × Obj)) (xe : Value → Shared → Prop) (tk : L2N.Takes (X.tr pn xe) W) (po : PassesOwn (model X.prog X.w) X.A X.env xe) : OkS { z with W := W } (X.tr pn xe) N G sc false where
  hK := ok.hK
  hrK := ok.hrK
  hN := ok.hN
  nd := ok.nd
  hsc := ok.hsc
  calm := ok.calm
  un := ok.un
  tk := tk
  g := ok.g
  dp := ok.dp
  su := ok.su
  hx := fun x e => by
    have e : z.rc.hx = some x := e
    rw [(ok.cf rfl).1] at e; cases e
  cf := ok.cf
  po := po
  fnc := ok.fnc
  kd := ok.kd
  stk := ok.stk
  frm := ok.frm
  wd := ok.wd
  cls := ⟨ok.cls.cl, ok.cls.k, ok.cls.em, ok.cls.fl⟩
theorem st_ok (n : Nat) : ∀ (st : Ci.St) (z : Si) (X : Cx) (sc : Scope) (hot : Bool) (xs : List Stmt), sizeOf st < n → OkS z X N G sc hot → chkB N G hot sc st xs = true → GoodS z X xs st := by
  induction n with
  | zero => exact fun _ _ _ _ _ _ h => absurd h (Nat.not_lt_zero _)
  | succ n ih =>
    intro st z X sc hot xs hs ok h
    unfold chkB at h
    split at h <;> (try simp only [St.seq.sizeOf_spec, St.ife.sizeOf_spec, St.for_.sizeOf_spec, St.whl.sizeOf_spec, St.try_.sizeOf_spec] at hs)
    · -- nothing
      refine ⟨pss_nil.imp fun D σ H ⟨S, F, am, h, r, q⟩ => ?_, fun x e => (nomatch e)⟩
      simp only [ex] at q
      exact SatS.nxt q r
    · -- one, then more
      rename_i s t x y xs
      simp only [Bool.and_eq_true] at h
      have g1 := ih s z X sc hot _ (by omega) ok h.1
      have g2 := ih t z X sc hot _ (by omega) ok h.2
      refine ⟨(pss_cons (g1.ps x rfl) g2.pss).imp fun D σ H ⟨S, F, am, h, r, q⟩ => ?_, fun x e => (nomatch e)⟩
      simp only [ex] at q
      exact ⟨S, F, am, h, r, SatS.seq q r.sto.inF⟩
    · -- target = value
      rename_i t e tg v p
      refine good_one ?_
      unfold asgB at h
      split at h
      · rename_i i y py
        simp only [Bool.and_eq_true] at h
        obtain ⟨h1, h2⟩ := h
        split at h2
        · rename_i a b c d
          split at h2
          · rename_i hsw
            simp only [Bool.and_eq_true, Bool.not_eq_true'] at h2
            obtain ⟨rfl, h3⟩ := h2
            split at h3
            · exact s_lc ok h1 hsw (lOk ok.toOk h3) fun r q => il_of r.sto (by simpa only [ev] using q)
            · exact s_lc ok h1 hsw (lOk ok.toOk h3) fun r q => ml_of r.sto (by simpa only [ev] using q)
            · cases h3
          · rename_i hsw
            exact s_nm ok h1 (eOk ok.toOk h2).pe (swC_no ok.kd ok.hsc (.inr ⟨_, _, _, _, rfl⟩) (by simpa using hsw))
        · split at h2
          · rename_i hsw
            simp only [Bool.and_eq_true, Bool.not_eq_true'] at h2
            obtain ⟨⟨rfl, h3⟩, h4⟩ := h2
            exact s_dc ok h1 hsw h3 h4
          · rename_i hsw
            refine s_nm ok h1 (eOk ok.toOk h2).pe ?_
            rw [swD_is ok.kd ok.hsc, Bool.eq_false_iff.mpr hsw]
        · rename_i v' hv'
          simp only [Bool.and_eq_true] at h2
          exact s_nm ok h1 (eOk ok.toOk h2.2).pe (noComp_ok h2.1 _ _ _)
      · simp only [Bool.and_eq_true, Bool.or_eq_true, Bool.not_eq_true', beq_iff_eq] at h
        obtain ⟨rfl, h⟩ := h
        rcases h with h | h
        · unfold parB at h
          split at h
          · simp only [Bool.and_eq_true, Bool.not_eq_true', beq_iff_eq, beq_eq_false_iff_ne] at h
            obtain ⟨⟨⟨⟨h1, h2⟩, h3⟩, h4⟩, h5⟩ := h
            exact s_par2 ok h1 h2 h3 h4 (esOk ok.toOk h5)
          · simp only [Bool.and_eq_true, Bool.not_eq_true', beq_iff_eq, beq_eq_false_iff_ne] at h
            obtain ⟨⟨⟨⟨⟨⟨⟨h1, h2⟩, h3⟩, h4⟩, h5⟩, h6⟩, h7⟩, h8⟩ := h
            exact s_par3 ok h1 h2 h3 h4 h5 h6 h7 (esOk ok.toOk h8)
          · cases h
        · obtain ⟨⟨⟨h1, h2⟩, h3⟩, h4⟩ := h
          exact s_gen ok h1 h2 h3 (eOk ok.toOk h4).pe
    · simp only [Bool.and_eq_true] at h
      obtain ⟨⟨⟨⟨h1, h2⟩, h3⟩, h4⟩, h5⟩ := h
      exact good_one (s_set (by have := ok.toOk.un; omega) h1 h2 (eOk ok.toOk h3).pe (eOk ok.toOk h4).pe (eOk ok.toOk h5).pe)
    · simp only [Bool.and_eq_true, Bool.or_eq_true, beq_iff_eq] at h
      obtain ⟨⟨⟨rfl, h2⟩, h3⟩, h4⟩ := h
      exact good_one (s_aug ok h2 h3 (eOk ok.toOk h4).pe)
    · simp only [Bool.and_eq_true, Bool.or_eq_true, beq_iff_eq] at h
      obtain ⟨⟨⟨⟨⟨rfl, h2⟩, h3⟩, h4⟩, h5⟩, h6⟩ := h
      exact good_one (s_augx h2 h3 (eOk ok.toOk h4).pe (eOk ok.toOk h5).pe (eOk ok.toOk h6).pe)
    · simp only [Bool.and_eq_true] at h
      exact good_one (s_ex h.1 (eOk ok.toOk h.2).pe)
    · exact good_one (ps_doc.imp fun D σ H ⟨S, F, am, h, r, q⟩ => by simp only [ex] at q; exact SatS.nxt q r)
    · exact good_one (ps_pass.imp fun D σ H ⟨S, F, am, h, r, q⟩ => by simp only [ex] at q; exact SatS.nxt q r)
    · exact good_one (s_ret (eOk ok.toOk h).pe)
    · exact good_one (ps_retN.imp fun D σ H ⟨S, F, am, h, r, q⟩ => by simp only [ex] at q; exact q F am H .non .refl r.sto .non)
    · simp only [Bool.and_eq_true] at h
      obtain ⟨⟨⟨h1, h2⟩, h3⟩, h4⟩ := h
      exact good_one (s_if ((eOk ok.toOk h1).pt 30 h2) (ih _ z X sc hot _ (by omega) ok h3).pss (ih _ z X sc hot _ (by omega) ok h4).pss)
    · simp only [Bool.and_eq_true, Bool.not_eq_true'] at h
      obtain ⟨⟨⟨⟨rfl, h2⟩, h3⟩, h4⟩, h5⟩ := h
      exact good_one (s_for ok.po (ok.calm rfl) h2 (iOk ok.toOk h3) (g_ok (P := fun _ => True) ⟨ok.hN, ok.nd, ok.hsc, ok.calm rfl, fun i y _ _ k => ok.fnc y k⟩ _ _ h4 fun _ _ => trivial) (ih _ z X sc _ _ (by omega) ok h5).pss)
    · simp only [Bool.and_eq_true] at h
      obtain ⟨⟨h1, h2⟩, h3⟩ := h
      exact good_one (s_while ok.po ((eOk ok.toOk h1).pt 30 h2) (ih _ z X sc hot _ (by omega) ok h3).pss)
    · simp only [Bool.and_eq_true, Bool.not_eq_true'] at h
      obtain ⟨⟨⟨⟨rfl, h2⟩, h3⟩, h4⟩, h5⟩ := h
      exact good_one (s_rais ok h2 h3 h4 (eOk ok.toOk h5).pe)
    · simp only [Bool.and_eq_true, Bool.not_eq_true', beq_iff_eq] at h
      obtain ⟨⟨⟨⟨⟨⟨⟨⟨⟨rfl, h2⟩, h3⟩, h4⟩, h5⟩, h6⟩, rfl⟩, rfl⟩, h9⟩, h10⟩ := h
      exact good_one (s_try ok h2 h3 h4 h5 h6 h9 fun W pn xe tk po => (ih _ { z with W := W } (X.tr pn xe) sc false _ (by omega) (ok.tr W pn xe tk po) h10).pss)
    · exact good_one (ps_break.imp fun D σ H ⟨S, F, am, h, r, q⟩ => by simp only [ex] at q; exact q F am H σ .refl r)
    · exact good_one (ps_continue.imp fun D σ H ⟨S, F, am, h, r, q⟩ => by simp only [ex] at q; exact q F am H σ .refl r)
    · exact good_one ⟨fun pins s σ H D I ⟨S, F, am, h, r, q⟩ => by simp only [ex] at q; exact q.elim⟩
    · simp only [Bool.and_eq_true, Bool.not_eq_true', beq_iff_eq] at h
      obtain ⟨⟨⟨⟨⟨⟨⟨⟨⟨rfl, h1⟩, h2⟩, h3⟩, h4⟩, h5⟩, h6⟩, h7⟩, h8⟩, h9⟩ := h
      exact ⟨s_enr ok h2 h1 h3 h4 h5 h6 h7 (eOk ok.toOk h8).pe (lOk ok.toOk h9), fun _ e => nomatch e⟩
    · cases h
theorem stOk {st : Ci.St} {xs : List Stmt} (ok : OkS z X N G sc hot) (h : chkB N G hot sc st xs = true) : PSs X xs (tS z st) := (st_ok (sizeOf st + 1) st z X sc hot xs (Nat.lt_succ_self _) ok h).pss
end
end Ci

set_option Elab.async false
set_option linter.all false
set_option maxRecDepth 100000
set_option maxHeartbeats 8000000
namespace Ci
open PySem PySem.Spec PyProof.Rows L2
open PySem.W (Frag nsIn findIn alongIn typeIn subIn mroIn hasDictIn keepIn kitOne exmOne specialIn takesIn codeIn clsIn ksFn)
/-! ### the module -/
theorem lk_zip : ∀ {ps : List Str} {us : List Value}, ps.Nodup → us.length = ps.length → ∀ p ∈ ps, ((ps.zip us).lookup p).isSome = true
  | p :: ps, u :: us, nd, hl, q, hq => by
    rw [List.zip_cons_cons, List.lookup_cons]
    cases e : q == p with
    | true => rfl
    | false =>
      simp only
      refine lk_zip (List.nodup_cons.mp nd).2 (by simpa using hl) q ?_
      rcases List.mem_cons.mp hq with r | r
      · rw [r, beq_self_eq_true] at e; cases e
      · exact r
theorem fm_zip : ∀ {ps : List Str} {us : List Value} {f : Str → Option (Str × Value)}, ps.Nodup → us.length = ps.length → (∀ p ∈ ps, f p = ((ps.zip us).lookup p).map (p, ·)) → ps.filterMap f = ps.zip us
  | [], [], f, _, _, _ => rfl
  | p :: ps, u :: us, f, nd, hl, h => by
    have h0 := h p List.mem_cons_self
    rw [List.zip_cons_cons, List.lookup_cons, beq_self_eq_true] at h0
    rw [List.filterMap_cons, h0]
    simp only [Option.map_some, List.zip_cons_cons]
    rw [fm_zip (List.nodup_cons.mp nd).2 (by simpa using hl) fun q hq => ?_]
    rw [h q (List.mem_cons_of_mem _ hq), List.zip_cons_cons, List.lookup_cons]
    have e : (q == p) = false := by rw [beq_eq_false_iff_ne]; exact fun e => (List.nodup_cons.mp nd).1 (e ▸ hq)
    rw [e]
theorem bind_plain {fd : FuncData} {us : List Value} (h1 : fd.params.posonlyargs = []) (h2 : fd.params.vararg.isNone = true) (h3 : fd.params.kwonlyargs = []) (h4 : fd.params.kwarg.isNone = true) (hd : fd.defaults = .none) (nd : (fd.params.args.map (·.arg)).Nodup)
    (hl : us.length = (fd.params.args.map (·.arg)).length) : bindArgs fd ⟨us, []⟩ = pure ((fd.params.args.map (·.arg)).zip us) := by
  have h2 : fd.params.vararg = none := by simpa using h2
  have h4 : fd.params.kwarg = none := by simpa using h4
  unfold bindArgs
  simp only [h1, h2, h3, h4, hd]
  generalize fd.params.args.map (·.arg) = ps at nd hl
  have m : (ps.filter fun n => ((ps.zip us).lookup n).isNone) = [] := by
    rw [List.filter_eq_nil_iff]
    intro p hp
    have := lk_zip nd hl p hp
    simpa using this
  have e2 : (ps.filterMap fun n => ((ps.zip us).lookup n).map (n, ·)) = ps.zip us := fm_zip nd hl fun _ _ => rfl
  have e3 : seqItems? .none = pure none := rfl
  simp [e3, m, e2, hl]
/-- a def: its name, its mirror, its names, is it called in suites -/
structure De where
  x : Str
  fd : Fd
  N : List Str
  wd : Bool
/-- an exception class: its name, its field, is it raised -/
structure Ce where
  x : Str
  f : Str
  r : Bool
/-- the module's mirror -/
structure Md where
  ds : List De
  cs : List Ce
  gs : List (Str × GV)
  tb : List (List Nat)
def Md.sub (M : Md) : Nat → Nat → Bool := fun c j => if 100 ≤ j then (match M.cs[c]? with
  | some e => e.f == atn j
  | none => false) else ((M.tb[c]?).getD []).contains j
def Md.PF (M : Md) : Nat → Option Fd := fun i => (M.ds[i]?).map (·.fd)
def Md.G (M : Md) : GT := fun y => M.gs.lookup y
def refOf (K : Frag) (x : Str) : Option Addr := match nsIn K mainGlobals x with
  | some (some (.ref a)) => some a
  | _ => none
def Md.fa (M : Md) (K : Frag) : Nat → Option Addr := fun i => (M.ds[i]?).bind fun e => if e.wd then none else refOf K e.x
def Md.ca (M : Md) (K : Frag) : Nat → Option Addr := fun i => (M.cs[i]?).bind fun e => refOf K e.x
def Md.fld (M : Md) : Nat → Str := fun i => match M.cs[i]? with
  | some e => e.f
  | none => Str.empty
/-- the mirror's reading with fuel k -/
def Md.si (M : Md) (K : Frag) (k : Nat) : Si := { K := K, rc := ⟨K, M.fa K, none⟩, ca := M.ca K, fld := M.fld, sub := M.sub, call := callF M.sub M.PF k, W := fun _ _ _ _ => False }
def isNone0 : Value → Bool
  | .none => true
  | _ => false
def psOf (fd : FuncData) : List Str := fd.params.args.map (·.arg)
def scopeB (N P : List Str) (sc : Scope) : Bool :=
  isFnK sc.kind && !sc.isCoroutine && !sc.isGenerator && decide N.Nodup && (N.take P.length == P) && P.all (fun x => sc.names.lookup x == some .local || sc.names.lookup x == some .cell) && sc.names.all fun y => !(y.2 == .free)
def plainFd (fd : FuncData) : Bool := fd.params.posonlyargs.isEmpty && fd.params.vararg.isNone && fd.params.kwonlyargs.isEmpty && fd.params.kwarg.isNone && isNone0 fd.defaults && fd.globals == mainGlobals && fd.closure.isEmpty && fd.builtins == builtinsNs
def defB (K : Frag) (G : GT) (e : De) : Bool := match refOf K e.x with
  | some f => (match K.lookup f with
    | some ⟨_, _, .func fd, _⟩ => (match fd.body with
      | .stmts bd => plainFd fd && codeIn K fd.code fd.qualname && keepIn K (.ref f) && scopeB e.N (psOf fd) fd.scope && e.fd.np == (psOf fd).length && e.fd.nl == e.N.length && chkB e.N G e.wd fd.scope e.fd.body bd
      | _ => false)
    | _ => false)
  | none => false
theorem scopeB_ok {N P : List Str} {sc : Scope} (h : scopeB N P sc = true) : FnScope N P sc := by
  unfold scopeB at h
  simp only [Bool.and_eq_true, Bool.not_eq_true', decide_eq_true_eq, beq_iff_eq, List.all_eq_true, Bool.or_eq_true] at h
  obtain ⟨⟨⟨⟨⟨⟨h1, h2⟩, h3⟩, h4⟩, h5⟩, h6⟩, h7⟩ := h
  refine ⟨?_, h2, h3, h4, h5, h6, fun y hy e => ?_⟩
  · cases e : sc.kind <;> first | rfl | (rw [e] at h1; cases h1)
  · have := h7 y hy
    rw [e] at this
    cases this
/-- what defB says -/
structure DefOk (K : Frag) (G : GT) (e : De) (f : Addr) : Prop where
  ex : ∃ (oc : Value) (od : Option Addr) (osl : Array (Option Value)) (name qual : Str) (params : Arguments) (bd : List Stmt) (scp : Scope) (dV kV doc pm : Value) (an : Option Addr) (cdv ct : Value) (ps : List Str),
    K.lookup f = some ⟨oc, od, .func (PySem.W.fnOf name qual params bd scp dV kV doc pm an cdv ct), osl⟩ ∧ codeIn K cdv qual = true ∧ keepIn K (.ref f) = true ∧ FnScope e.N ps scp ∧ e.fd.np = ps.length ∧ e.fd.nl = e.N.length ∧ chkB e.N G e.wd scp e.fd.body bd = true ∧
    L2.Binds K (PySem.W.fnOf name qual params bd scp dV kV doc pm an cdv ct) ps [] ∧ (∀ us : List Value, us.length = ps.length → bindArgs (PySem.W.fnOf name qual params bd scp dV kV doc pm an cdv ct) ⟨us, []⟩ = pure (ps.zip us)) ∧ ps = params.args.map (·.arg)
theorem defB_ok {K : Frag} {G : GT} {e : De} (h : defB K G e = true) : ∃ f, refOf K e.x = some f ∧ DefOk K G e f := by
  unfold defB at h
  split at h
  · rename_i f hf
    refine ⟨f, hf, ?_⟩
    split at h
    · rename_i oc od fd osl hl
      split at h
      · rename_i bd hb
        simp only [Bool.and_eq_true, beq_iff_eq] at h
        obtain ⟨⟨⟨⟨⟨⟨h1, h2⟩, h3⟩, h4⟩, h5⟩, h6⟩, h7⟩ := h
        unfold plainFd at h1
        simp only [Bool.and_eq_true, beq_iff_eq, List.isEmpty_iff] at h1
        obtain ⟨⟨⟨⟨⟨⟨⟨p1, p2⟩, p3⟩, p4⟩, p5⟩, p6⟩, p7⟩, p8⟩ := h1
        have p5' : fd.defaults = .none := by cases e : fd.defaults <;> first | rfl | (rw [e] at p5; cases p5)
        have S := scopeB_ok h4
        have nd : (psOf fd).Nodup := by rw [← S.pre]; exact S.nd.sublist (List.take_sublist _ _)
        have ba : ∀ us : List Value, us.length = (psOf fd).length → bindArgs fd ⟨us, []⟩ = pure ((psOf fd).zip us) := fun us hl => bind_plain p1 p2 p3 p4 p5' nd hl
        have bn : L2.Binds K fd (psOf fd) [] := L2.Binds.all ba
        have e : fd = PySem.W.fnOf fd.name fd.qualname fd.params bd fd.scope fd.defaults fd.kwdefaults fd.doc fd.pyModule fd.annotations fd.code fd.closureTuple := by
          obtain ⟨a1, a2, a3, a4, a5, a6, a7, a8, a9, a10, a11, a12, a13, a14, a15⟩ := fd
          simp only at hb p6 p7 p8
          subst hb p6 p7 p8
          rfl
        refine ⟨oc, od, osl, fd.name, fd.qualname, fd.params, bd, fd.scope, fd.defaults, fd.kwdefaults, fd.doc, fd.pyModule, fd.annotations, fd.code, fd.closureTuple, psOf fd, ?_, h2, h3, S, h5, h6, h7, ?_, ?_, rfl⟩
        · rw [← e]; exact hl
        · rw [← e]; exact bn
        · rw [← e]; exact ba
      · cases h
    · cases h
  · cases h
/-! ### the names of the module -/
def isBlt (y : Str) (s : String) : Bool := match bootBuiltins y with
  | some (.builtin t) => t == s
  | _ => false
def isTyp (y : Str) (s : String) : Bool := match bootBuiltins y with
  | some (.type t) => t == s
  | _ => false
def noG (K : Frag) (y : Str) : Bool := match nsIn K mainGlobals y with
  | some none => true
  | _ => false
def cstB : D → Value → Bool
  | .non, .none => true
  | .bl a, .bool b => a == b
  | .int a, .int b _ => a == b
  | .str a, .str b _ => a == b
  | _, _ => false
def posB : Stmt → Stmt → Bool
  | _, _ => true
/-- __init__ as it has to be -/
def iniB (par : Str) (bd : List Stmt) (params : Arguments) (sc : Scope) : Bool := match bd, params.args with
  | [.Expr (.Call (.Attribute (.Call (.Name s _) [] [] _) i q3) [.Constant (.str _) _ _] [] q5) _, .Assign [.Attribute (.Name se _) f _] (.Name p _) _], [a1, a2] =>
    s == ("super" : Str) && i == ("__init__" : Str) && se == ("self" : Str) && f == par && p == par && a1.arg == ("self" : Str) && a2.arg == par && a1.annotation.isNone && a2.annotation.isNone && q3.endLine == q5.line
  | _, _ => false
def argsB (p : Arguments) : Bool := p.posonlyargs.isEmpty && p.vararg.isNone && p.kwonlyargs.isEmpty && p.kw_defaults.isEmpty && p.kwarg.isNone && p.defaults.isEmpty
def initScopeB (par : Str) (sc : Scope) : Bool := isFnK sc.kind && !sc.isCoroutine && !sc.isGenerator && sc.more.isEmpty && sc.names == (eS par).names
def clsShape : Option Obj → Addr → Option (List Value)
  | some ⟨.type t, _, .cls cd, sl⟩, C => (match cd.mro, sl.toList with
    | .ref c :: bm, [_, _, _, _, some (.builtin n), _] => if t == "type" && c == C && cd.hasDict && !cd.hasDel && n == "ValueError.__new__" && sl.size == 6 then some bm else none
    | _, _ => none)
  | _, _ => none
def parOk (par : Str) : Bool := par == ("reason" : Str) || par == ("at" : Str) || par == ("line" : Str)
def errB (P : Program) (K : Frag) (C : Addr) (par : Str) : Bool := match clsShape (K.lookup C) C, findIn K (.ref C) "__init__" with
  | some bm, some (some (.ref fI)) => PySem.HandSPX.refsVE bm && decide (alongIn K "__init__" bm = some (some (.builtin "ValueError.__init__"))) && decide (typeIn K (.ref fI) = some (.type "function")) && parOk par &&
    (match K.lookup fI with
      | some ⟨_, _, .func fd, _⟩ => (match fd.body, fd.closure, fd.code with
        | .stmts bd, [(cn, cc)], .ref cda => cn == ("__class__" : Str) && fd.name == ("__init__" : Str) && iniB par bd fd.params fd.scope && argsB fd.params && initScopeB par fd.scope && isNone0 fd.defaults && isNone0 fd.kwdefaults && fd.globals == mainGlobals && fd.builtins == builtinsNs && codeIn K (.ref cda) fd.qualname &&
          (match K.lookup cc with
            | some ⟨_, _, .cell (some (.ref D)), _⟩ => D == C
            | _ => false) &&
          (match K.lookup cda with
            | some ⟨_, _, .fields vs, _⟩ => (match (vs[2]? : Option Value) with
              | some (Value.str file _) => (P.main.file : Str) == file
              | _ => false)
            | _ => false)
        | _, _, _ => false)
      | _ => false) &&
    decide (findIn K (.ref C) "__setattr__" = some (some (.builtin "object.__setattr__"))) && decide (findIn K (.ref C) par = some none) && keepIn K (.ref C) && decide (subIn K (.ref C) (.type "BaseException") = some true) &&
    decide (subIn K (.ref C) (.type "ValueError") = some true) && decide (mroIn K C (.ref C) = some true) && decide (typeIn K (.ref C) = some (.type "type")) && decide (nsIn K cStatics "thirdparty.any" = some none) && !(P.main.scope.names.lookup ("super" : Str)).isSome &&
    hasDictIn K C && decide (findIn K (.ref C) "__getattribute__" = some (some (.builtin "BaseException.__getattribute__"))) && decide (findIn K (.ref C) "__getattr__" = some none)
  | _, _ => false

theorem none0 {v : Value} (h : isNone0 v = true) : v = .none := by cases v <;> first | rfl | cases h
theorem fnK {k : ScopeKind} (h : isFnK k = true) : k = .function := by cases k <;> first | rfl | cases h
theorem parBind {par : Str} (h : parOk par = true) : BindPar par ∧ (par == ("self" : Str)) = false ∧ (par == ("__class__" : Str)) = false ∧ (par == ("super" : Str)) = false ∧ (par == ("__debug__" : Str)) = false := by
  unfold parOk at h
  simp only [Bool.or_eq_true, beq_iff_eq] at h
  rcases h with (rfl | rfl) | rfl
  · exact ⟨bind_reason, by decide +kernel, by decide +kernel, by decide +kernel, by decide +kernel⟩
  · exact ⟨bind_at, by decide +kernel, by decide +kernel, by decide +kernel, by decide +kernel⟩
  · exact ⟨bind_line, by decide +kernel, by decide +kernel, by decide +kernel, by decide +kernel⟩
theorem clsShape_ok {o : Option Obj} {C : Addr} {bm : List Value} (h : clsShape o C = some bm) : ∃ (nm q : Str) (N : Addr) (bs : List Value) (sn : List Str) (sub : List Value) (ab : Bool) (col : Option Bool) (dd : Option Addr) (k0 k1 k2 k3 k5 : Option Value),
    o = some (excClassObj nm q C N bs bm true sn sub ab col dd k0 k1 k2 k3 k5 "ValueError.__new__") := by
  unfold clsShape at h
  split at h
  · rename_i t dd cd sl
    split at h
    · rename_i c bm' k0 k1 k2 k3 n k5 e1 e2
      split at h
      · rename_i hc
        cases h
        simp only [Bool.and_eq_true, Bool.not_eq_true', beq_iff_eq] at hc
        obtain ⟨⟨⟨⟨⟨rfl, rfl⟩, h3⟩, h4⟩, rfl⟩, h6⟩ := hc
        obtain ⟨nm, bs, mro, N, q, hd, sn, sub, ab, col, del⟩ := cd
        have h3 : hd = true := h3
        have h4 : del = false := h4
        have e1 : mro = _ := e1
        subst e1 h3 h4
        have es : sl = #[k0, k1, k2, k3, some (.builtin "ValueError.__new__"), k5] := by
          apply Array.toList_inj.mp
          rw [e2]
        subst es
        exact ⟨nm, q, N, bs, sn, sub, ab, col, dd, k0, k1, k2, k3, k5, rfl⟩
      · cases h
    · cases h
  · cases h
theorem args_ok {p : Arguments} {a1 a2 : Arg} {par : Str} (h : argsB p = true) (e : p.args = [a1, a2]) (h1 : a1.arg = ("self" : Str)) (h2 : a2.arg = par) (h3 : a1.annotation.isNone = true) (h4 : a2.annotation.isNone = true) : p = eA par a1.pos a2.pos := by
  unfold argsB at h
  simp only [Bool.and_eq_true, List.isEmpty_iff] at h
  obtain ⟨⟨⟨⟨⟨q1, q2⟩, q3⟩, q4⟩, q5⟩, q6⟩ := h
  obtain ⟨po, ar, va, ko, kd, kw, df⟩ := p
  obtain ⟨n1, an1, ps1⟩ := a1
  obtain ⟨n2, an2, ps2⟩ := a2
  have r2 : va = none := Option.isNone_iff_eq_none.mp q2
  have r5 : kw = none := Option.isNone_iff_eq_none.mp q5
  have r3 : an1 = none := Option.isNone_iff_eq_none.mp h3
  have r4 : an2 = none := Option.isNone_iff_eq_none.mp h4
  have r1 : po = [] := q1
  have r6 : ko = [] := q3
  have r7 : kd = [] := q4
  have r8 : df = [] := q6
  have r9 : n1 = _ := h1
  have r10 : n2 = par := h2
  have r11 : ar = _ := e
  subst r11 r10 r9 r8 r7 r6 r5 r4 r3 r2 r1
  rfl
theorem errB_ok {P : Program} {K : Frag} {C : Addr} {par : Str} (h : errB P K C par = true) : ErrTxt P K C par := by
  unfold errB at h
  split at h
  · rename_i bm fI e1 e2
    simp only [Bool.and_eq_true, Bool.not_eq_true', decide_eq_true_eq] at h
    obtain ⟨⟨⟨⟨⟨⟨⟨⟨⟨⟨⟨⟨⟨⟨⟨⟨h1, h2⟩, h3⟩, h4⟩, h5⟩, h6⟩, h7⟩, h8⟩, h9⟩, h10⟩, h11⟩, h12⟩, h13⟩, h14⟩, h15⟩, h16⟩, h17⟩ := h
    obtain ⟨nm, q, N, bs, sn, sub, ab, col, dd, k0, k1, k2, k3, k5, eC⟩ := clsShape_ok e1
    obtain ⟨pb, pn⟩ := parBind h4
    refine { ex := ⟨fI, ?_⟩, sa := h6, noN := h7, kC := h8, exC := h9, veC := h10, slC := h11, tyC := h12, op := h13, top := h14, pn := pn, hdC := h15, bd := pb, ga := h16, gg := h17 }
    split at h5
    · rename_i oc od fd osl eF
      split at h5
      · rename_i bd cn cc cda b1 b2 b3
        simp only [Bool.and_eq_true, beq_iff_eq] at h5
        obtain ⟨⟨⟨⟨⟨⟨⟨⟨⟨⟨⟨rfl, g2⟩, g3⟩, g4⟩, g5⟩, g6⟩, g7⟩, g8⟩, g9⟩, g10⟩, g11⟩, g12⟩ := h5
        unfold iniB at g3
        split at g3
        · rename_i s1 q1 q2 i1 q3 msg kk q4 q5 q6 se q7 f1 q8 p1 q9 q10 a1 a2 ea
          simp only [Bool.and_eq_true, beq_iff_eq] at g3
          obtain ⟨⟨⟨⟨⟨⟨⟨⟨⟨rfl, rfl⟩, rfl⟩, rfl⟩, rfl⟩, i6⟩, i7⟩, i8⟩, i9⟩, i10⟩ := g3
          have ep := args_ok g4 ea i6 i7 i8 i9
          have es : fd.scope = eS p1 := by
            unfold initScopeB at g5
            simp only [Bool.and_eq_true, Bool.not_eq_true', beq_iff_eq, List.isEmpty_iff] at g5
            obtain ⟨⟨⟨⟨s1, s2⟩, s3⟩, s4⟩, s5⟩ := g5
            have s1 := fnK s1
            generalize fd.scope = sc at s1 s2 s3 s4 s5
            obtain ⟨k, n, g, c, m⟩ := sc
            simp only at s1 s2 s3 s4 s5
            subst s1 s2 s3 s4 s5
            rfl
          have g6 := none0 g6
          have g7 := none0 g7
          split at g11
          · rename_i cl cld D csl eCell
            rw [beq_iff_eq] at g11
            subst g11
            split at g12
            · rename_i ccl cdd vs ccs eCode
              split at g12
              · rename_i file tf ev
                refine ⟨cc, cda, msg, nm, q, N, bs, bm, sn, sub, ab, col, dd, k0, k1, k2, k3, k5, eC, h1, h2, e2, h3, ⟨oc, od, fd.doc, fd.pyModule, fd.annotations, fd.closureTuple, osl, fd.qualname, a1.pos, a2.pos, q1, q2, q3, q4, q5, q6, q7, q8, q9, q10, kk, ?_, g10, by simpa using i10⟩, ⟨cl, cld, csl, eCell⟩, ⟨ccl, cdd, vs, ccs, file, tf, eCode, ev, by simpa using g12⟩⟩
                rw [eF]
                obtain ⟨x1, x2, x3, x4, x5, x6, x7, x8, x9, x10, x11, x12, x13, x14, x15⟩ := fd
                simp only at *
                subst b1 b2 b3 g2 g6 g7 g8 g9 ep es
                rfl
              · cases g12
            · cases g12
          · cases g11
        · cases g3
      · cases h5
    · cases h5
  · cases h
end Ci

set_option Elab.async false
set_option linter.all false
set_option maxRecDepth 100000
set_option maxHeartbeats 8000000
namespace Ci
open PySem PySem.Spec PyProof.Rows L2
open PySem.W (Frag nsIn findIn alongIn typeIn subIn mroIn hasDictIn keepIn kitOne exmOne specialIn takesIn codeIn clsIn ksFn)
/-! ### the module's check and what it gives -/
def exB (K : Frag) (D : Addr) : Bool :=
  decide (findIn K (.ref D) "__getattribute__" = some (some (.builtin "BaseException.__getattribute__"))) && decide (findIn K (.ref D) "__getattr__" = some none) && decide (subIn K (.ref D) (.type "BaseException") = some true) && hasDictIn K D &&
    decide (findIn K (.ref D) "__class__" = some (some (.builtin "object.__class__"))) && decide (specialIn K (.builtin "object.__class__") "__get__" = some (some (.builtin "getset_descriptor.__get__"))) && decide (takesIn K (.builtin "object.__class__") = some true) && decide (mroIn K D (.type "object") = some true)
theorem exB_ok {K : Frag} {D : Addr} (h : exB K D = true) : ExcC K D := by
  unfold exB at h
  simp only [Bool.and_eq_true, decide_eq_true_eq] at h
  obtain ⟨⟨⟨⟨⟨⟨⟨h1, h2⟩, h3⟩, h4⟩, h5⟩, h6⟩, h7⟩, h8⟩ := h
  exact ⟨h1, h2, h3, h4, h5, h6, h7, h8⟩
def clsB (M : Md) (K : Frag) : Bool := (List.range M.cs.length).all fun c => match M.ca K c with
  | none => true
  | some C => exB K C && decide (findIn K (.ref C) (M.fld c) = some none) && decide (kitOne K (.ref C) (.type "ValueError") = some (M.sub c 99)) &&
    (List.range M.cs.length).all fun c' => match M.ca K c' with
      | none => true
      | some C' => decide (kitOne K (.ref C) (.ref C') = some (M.sub c c')) && decide (exmOne K (.ref C) (.ref C') = some (M.sub c c'))
theorem ca_lt {M : Md} {K : Frag} {c : Nat} {C : Addr} (h : M.ca K c = some C) : c ∈ List.range M.cs.length := by
  unfold Md.ca at h
  cases e : M.cs[c]? with
  | none => rw [e] at h; cases h
  | some x => exact List.mem_range.mpr (List.getElem?_eq_some_iff.mp e).1
theorem clsB_ok {M : Md} {K : Frag} {k : Nat} (h : clsB M K = true) : ClsOk (M.si K k) := by
  unfold clsB at h
  rw [List.all_eq_true] at h
  have h1 : ∀ c C, M.ca K c = some C → exB K C = true ∧ findIn K (.ref C) (M.fld c) = some none ∧ kitOne K (.ref C) (.type "ValueError") = some (M.sub c 99) ∧ ∀ c' C', M.ca K c' = some C' → kitOne K (.ref C) (.ref C') = some (M.sub c c') ∧ exmOne K (.ref C) (.ref C') = some (M.sub c c') := fun c C e => by
    have q := h c (ca_lt e)
    rw [e] at q
    simp only [Bool.and_eq_true, decide_eq_true_eq, List.all_eq_true] at q
    obtain ⟨⟨⟨q1, q2⟩, q3⟩, q4⟩ := q
    refine ⟨q1, q2, q3, fun c' C' e' => ?_⟩
    have r := q4 c' (ca_lt e')
    rw [e'] at r
    simpa only [Bool.and_eq_true, decide_eq_true_eq] using r
  refine ⟨fun c C e => ⟨exB_ok (h1 c C e).1, (h1 c C e).2.1, (h1 c C e).2.2.1⟩, fun c C c' C' e e' => ((h1 c C e).2.2.2 c' C' e').1, fun c C c' C' e e' => ((h1 c C e).2.2.2 c' C' e').2, fun c j hj hs => ?_⟩
  have hs : M.sub c j = true := hs
  unfold Md.sub at hs
  rw [if_pos hj] at hs
  show atn j = M.fld c
  unfold Md.fld
  split at hs
  · rename_i e he
    exact (beq_iff_eq.mp hs).symm
  · cases hs
def gB (P : Program) (K : Frag) (M : Md) (y : Str) : GV → Bool
  | .bi s => noG K y && isBlt y s
  | .ty s => noG K y && isTyp y s
  | .fn i => (match M.fa K i, refOf K y with | some a, some b => a == b | _, _ => false)
  | .wd _ => true
  | .cst d => (match nsIn K mainGlobals y with | some (some u) => cstB d u | _ => false)
  | .cls c r => (match M.ca K c, refOf K y with | some a, some b => a == b && (!r || errB P K a (M.fld c)) | _, _ => false)
def wdB (K : Frag) (M : Md) (p : Str × GV) : Bool := match p.2 with
  | .wd i => (match M.ds[i]? with | some e => e.wd && e.x == p.1 | none => false)
  | _ => true
def modB (P : Program) (K : Frag) (M : Md) : Bool := M.ds.all (defB K M.G) && clsB M K && M.gs.all (fun p => gB P K M p.1 p.2) && M.gs.all (wdB K M) && noG K "super"
section
variable {P : Program} {K : Frag} {M : Md} {mg : Str → Option Value}
theorem refOf_ns {y : Str} {a : Addr} (h : refOf K y = some a) : nsIn K mainGlobals y = some (some (.ref a)) := by
  unfold refOf at h
  split at h
  · rename_i e; cases h; exact e
  · cases h
theorem noG_ns {y : Str} (h : noG K y = true) : nsIn K mainGlobals y = some none := by
  unfold noG at h
  split at h
  · rename_i e; exact e
  · cases h
theorem gB_ok {y : Str} {v : GV} {k : Nat} (h1 : ∀ n u, nsIn K mainGlobals n = some (some u) → mg n = some u) (h0 : ∀ n, nsIn K mainGlobals n = some none → mg n = none) (h : gB P K M y v = true) : GOk (M.si K k) P mg y v := by
  cases v with
  | bi s =>
    simp only [gB, Bool.and_eq_true] at h
    refine ⟨h0 _ (noG_ns h.1), ?_⟩
    have h2 := h.2
    unfold isBlt at h2
    split at h2
    · rename_i t e; rw [beq_iff_eq] at h2; rw [e, h2]
    · cases h2
  | ty s =>
    simp only [gB, Bool.and_eq_true] at h
    refine ⟨h0 _ (noG_ns h.1), ?_⟩
    have h2 := h.2
    unfold isTyp at h2
    split at h2
    · rename_i t e; rw [beq_iff_eq] at h2; rw [e, h2]
    · cases h2
  | fn i =>
    simp only [gB] at h
    split at h
    · rename_i a b e1 e2
      rw [beq_iff_eq] at h
      subst h
      exact ⟨a, e1, h1 _ _ (refOf_ns e2)⟩
    · cases h
  | wd i => trivial
  | cst d =>
    simp only [gB] at h
    split at h
    · rename_i u e
      refine ⟨u, ?_⟩
      unfold cstB at h
      split at h
      · exact ⟨.non, h1 _ _ e, rfl, rfl⟩
      · rw [beq_iff_eq] at h; subst h; exact ⟨.bl _, h1 _ _ e, rfl, rfl⟩
      · rw [beq_iff_eq] at h; subst h; exact ⟨.int _, h1 _ _ e, ⟨_, rfl⟩, rfl⟩
      · rw [beq_iff_eq] at h; subst h; exact ⟨.str _, h1 _ _ e, ⟨_, rfl⟩, rfl⟩
      · cases h
    · cases h
  | cls c r =>
    simp only [gB] at h
    split at h
    · rename_i a b e1 e2
      simp only [Bool.and_eq_true, beq_iff_eq, Bool.or_eq_true, Bool.not_eq_true'] at h
      obtain ⟨rfl, h2⟩ := h
      refine ⟨a, e1, h1 _ _ (refOf_ns e2), fun hr => ?_⟩
      rcases h2 with h2 | h2
      · rw [hr] at h2; cases h2
      · exact errB_ok h2
    · cases h
theorem gs_at {y : Str} {v : GV} (h : M.gs.all (fun p => gB P K M p.1 p.2) = true) (e : M.G y = some v) : gB P K M y v = true := by
  rw [List.all_eq_true] at h
  exact h (y, v) (PySem.mem_of_lookup e)
/-- a def's start -/
theorem start_rel {c : Rc} {F : Addr → Prop} {am : List Addr} {H : Hp} {h : Hs} {ds : List Ci.D} {vs : List V} {N : List Str} {np nl : Nat} (s : Sto c F am H h) (r : RDs c F am H ds vs) (h1 : ds.length = np) (h2 : nl = N.length) : Rel c F am H h (ds.map some ++ List.replicate (nl - np) none) (L2.start N vs) := by
  have hl := r.length
  refine ⟨s, ?_, fun i d e => ?_⟩
  · unfold L2.start
    simp only [List.length_append, List.length_map, List.length_replicate]
    omega
  · have hi : i < ds.length := by
      by_cases hi : i < ds.length
      · exact hi
      · rw [List.getElem?_append_right (by simpa using hi), List.getElem?_replicate] at e
        split at e <;> cases e
    rw [List.getElem?_append_left (by simpa using hi), List.getElem?_map] at e
    cases e2 : ds[i]? with
    | none => rw [e2] at e; cases e
    | some d' =>
      rw [e2] at e
      cases e
      obtain ⟨v, g1, g2⟩ := r.get e2
      refine ⟨v, ?_, g2⟩
      unfold L2.start
      rw [List.getElem?_append_left (by simp; omega), List.getElem?_map, g1]
      rfl
theorem call_sat {z : Si} {F : Addr → Prop} {am : List Addr} {H : Hp} {h : Hs} {Q : VK} {fd : Fd} {ds : List Ci.D} {vs : List V} {N : List Str} (h2 : fd.nl = N.length) (s : Sto z.rc F am H h) (r : RDs z.rc F am H ds vs) (hW : ∀ c d σ σ' H', z.W c d σ H' → z.W c d σ' H')
    (q : SatR z [] F am H (callB z.sub z.call fd ds h) (PostD z Q)) : tS z fd.body { nx := fun _ H' => Q .non H', rt := Q } (L2.start N vs) H := by
  unfold callB at q
  split at q
  · rename_i hl
    refine ⟨_, F, am, h, start_rel s r hl h2, ?_⟩
    generalize ex z.sub z.call fd.body (ds.map some ++ List.replicate (fd.nl - fd.np) none) h = r1 at q ⊢
    cases r1 with
    | nx S1 h1 => exact fun F' am' H' σ' e r' => q F' am' H' e r'.sto .non .non
    | rt d h1 => exact fun F' am' H' v e s' rv => q F' am' H' e s' v rv
    | exc c v S1 h1 => exact fun F' am' H' σ' C dd w e r' k1 k2 k3 k4 => hW _ _ _ _ _ (q F' am' H' C dd w e r'.sto k1 k2 k3 k4)
    | bk S1 h1 => exact q.elim
    | ct S1 h1 => exact q.elim
    | bad => exact q.elim
  · exact q.elim
theorem callF_zero {sub : Nat → Nat → Bool} {PF : Nat → Option Fd} {i : Nat} {ds : List Ci.D} {h : Hs} : callF sub PF 0 i ds h = .bad := rfl
/-- every def of the module does as the evaluator says -/
theorem fn_all {w : World} {base : Heap} (hm : modB P K M = true) (h1 : ∀ n u, nsIn K mainGlobals n = some (some u) → mg n = some u) (h0 : ∀ n, nsIn K mainGlobals n = some none → mg n = none) : ∀ k,
    (∀ i e f, M.ds[i]? = some e → refOf K e.x = some f → e.wd = false → ∀ oc od osl fd bd, K.lookup f = some ⟨oc, od, .func fd, osl⟩ → fd.body = .stmts bd → FnOk P w K mg base (L2N.CX P w) k f fd (psOf fd) (spF (M.si K k) i)) ∧
    (∀ i e f, M.ds[i]? = some e → refOf K e.x = some f → e.wd = true → ∀ oc od osl fd bd, K.lookup f = some ⟨oc, od, .func fd, osl⟩ → fd.body = .stmts bd → FnX P w K mg base (L2N.CX P w) k f fd (psOf fd) (spX (M.si K k) i)) := by
  unfold modB at hm
  simp only [Bool.and_eq_true] at hm
  obtain ⟨⟨⟨⟨hd, hc⟩, hg⟩, hw⟩, hs⟩ := hm
  rw [List.all_eq_true] at hd hw
  have hdef : ∀ i e, M.ds[i]? = some e → ∃ f, refOf K e.x = some f ∧ DefOk K M.G e f := fun i e he => defB_ok (hd e (List.mem_of_getElem? he))
  intro k
  induction k with
  | zero =>
    refine ⟨fun i e f _ _ _ oc od osl fd bd _ _ => ⟨fun vs H Q E h => ?_, fun A out s H ar us vs Q E _ _ _ _ h => ?_⟩, fun i e f _ _ _ oc od osl fd bd _ _ => ⟨fun q vs H Q E h => ?_, fun A out s H ar us vs Q E q _ _ _ _ _ _ h => ?_⟩⟩
    · obtain ⟨F, am, h, ds, _, _, q⟩ := h; exact q.elim
    · obtain ⟨F, am, h, ds, _, _, q⟩ := h; exact q.elim
    · obtain ⟨F, am, h, x, ds, C, _, _, _, _, _, _, _, q⟩ := h; exact q.elim
    · obtain ⟨F, am, h, x, ds, C, _, _, _, _, _, _, _, q⟩ := h; exact q.elim
  | succ k ih =>
    have ca : ∀ X : Cx, X.prog = P → X.w = w → X.K = K → X.mg = mg → X.base = base → Room k X.A → ∀ i a, M.fa K i = some a → keepIn X.K (.ref a) = true ∧ ∃ (fd : FuncData) (ps : List Str) (j : Nat),
        FnOk X.prog X.w X.K X.mg X.base (L2N.CX X.prog X.w) j a fd ps (spF (M.si K k) i) ∧ Room j X.A ∧ L2.Binds X.K fd ps [] := fun X e1 e2 e3 e4 e5 hr i a hf => by
      subst e1 e2 e3 e4 e5
      unfold Md.fa at hf
      cases he : M.ds[i]? with
      | none => rw [he] at hf; cases hf
      | some e =>
        rw [he] at hf
        have hf : (if e.wd = true then none else refOf X.K e.x) = some a := hf
        cases hwd : e.wd with
        | true => rw [hwd] at hf; cases hf
        | false =>
          rw [hwd] at hf
          have hf : refOf X.K e.x = some a := hf
          obtain ⟨f, r1, D⟩ := hdef i e he
          rw [hf] at r1
          cases r1
          obtain ⟨oc, od, osl, name, qual, params, bd, scp, dV, kV, doc, pm, an, cdv, ct, ps, g1, g2, g3, g4, g5, g6, g7, g8, g9, rfl⟩ := D.ex
          exact ⟨g3, _, _, k, ih.1 i e a he hf hwd oc od osl _ bd g1 rfl, hr, g8⟩
    have wd : ∀ X : Cx, X.prog = P → X.w = w → X.K = K → X.mg = mg → X.base = base → L2H.RoomH k X.A → ∀ y i, M.G y = some (.wd i) → ∃ a, X.mg y = some (.ref a) ∧ keepIn X.K (.ref a) = true ∧ ∃ fd ps j, FnX X.prog X.w X.K X.mg X.base (L2N.CX X.prog X.w) j a fd ps (spX (M.si K k) i) ∧ L2H.RoomH j X.A ∧ L2.Binds X.K fd ps [] := fun X e1 e2 e3 e4 e5 hr y i hy => by
      subst e1 e2 e3 e4 e5
      have q := hw _ (PySem.mem_of_lookup hy)
      unfold wdB at q
      simp only at q
      split at q
      · rename_i e he
        simp only [Bool.and_eq_true, beq_iff_eq] at q
        obtain ⟨q1, rfl⟩ := q
        obtain ⟨f, r1, D⟩ := hdef i e he
        obtain ⟨oc, od, osl, name, qual, params, bd, scp, dV, kV, doc, pm, an, cdv, ct, ps, g1, g2, g3, g4, g5, g6, g7, g8, g9, rfl⟩ := D.ex
        exact ⟨f, h1 _ _ (refOf_ns r1), g3, _, _, k, ih.2 i e f he r1 q1 oc od osl _ bd g1 rfl, hr, g8⟩
      · cases q
    refine ⟨fun i e f he hr hwd oc od osl fd bd hl hb => ?_, fun i e f he hr hwd oc od osl fd bd hl hb => ?_⟩
    · obtain ⟨f', r1, D⟩ := hdef i e he
      rw [hr] at r1
      cases r1
      obtain ⟨oc', od', osl', name, qual, params, bd', scp, dV, kV, doc, pm, an, cdv, ct, ps, g1, g2, g3, g4, g5, g6, g7, g8, g9, rfl⟩ := D.ex
      rw [hl] at g1
      cases g1
      have len : ∀ vs H Q E, spF (M.si K (k + 1)) i vs H Q E → vs.length = (params.args.map (·.arg)).length := fun vs H Q E ⟨F, am, h, ds, s, r, q⟩ => by
        have q : SatR _ _ F am H (callF M.sub M.PF (k + 1) i ds h) _ := q
        simp only [callF, Md.PF, he, Option.map_some, callB] at q
        split at q
        · rename_i hlen
          rw [← r.length, hlen, g5]
        · exact q.elim
      refine fn_of hl g2 g4 len fun A out s H vs Q E room ⟨F, am, h, ds, st, r, q⟩ => ?_
      have q : SatR ((M.si K (k + 1)).to E) [] F am H (callF M.sub M.PF (k + 1) i ds h) (PostD ((M.si K (k + 1)).to E) Q) := q
      simp only [callF, Md.PF, he, Option.map_some] at q
      refine ⟨tS ((M.si K k).to E) e.fd.body, stOk (N := e.N) (G := M.G) (sc := scp) (hot := e.wd) ?_ g7, call_sat (z := (M.si K k).to E) g6 st r (fun _ _ _ _ _ x => x) q⟩
      rw [hwd]
      exact {
        hK := rfl, hrK := rfl, hN := rfl, nd := g4.nd, hsc := rfl, calm := fun _ => rfl
        un := Nat.lt_of_le_of_lt (show (A.deeper (envOfC qual scp s.heap.objs.size f cdv)).units + 70 ≤ _ by omega) room.un
        tk := L2N.takes_of rfl rfl rfl rfl
        g := fun y v hy => by
          have z := gB_ok (k := k) h1 h0 (gs_at hg hy)
          cases v <;> exact z
        dp := Nat.lt_of_le_of_lt (show (A.deeper (envOfC qual scp s.heap.objs.size f cdv)).depth + 5 ≤ _ by omega) room.dp
        su := h0 _ (noG_ns hs)
        hx := fun x hx => nomatch hx
        cf := fun _ => ⟨rfl, ca _ rfl rfl rfl rfl rfl room⟩
        po := passes_of rfl
        fnc := fun _ _ => rfl
        kd := g4.kind
        stk := fun _ => rfl
        frm := fun _ => rfl
        wd := fun _ => wd _ rfl rfl rfl rfl rfl (L2H.roomH_of room)
        cls := ⟨(clsB_ok (k := k) hc).cl, (clsB_ok (k := k) hc).k, (clsB_ok (k := k) hc).em, (clsB_ok (k := k) hc).fl⟩ }
    · obtain ⟨f', r1, D⟩ := hdef i e he
      rw [hr] at r1
      cases r1
      obtain ⟨oc', od', osl', name, qual, params, bd', scp, dV, kV, doc, pm, an, cdv, ct, ps, g1, g2, g3, g4, g5, g6, g7, g8, g9, rfl⟩ := D.ex
      rw [hl] at g1
      cases g1
      have len : ∀ q vs H Q E, spX (M.si K (k + 1)) i q vs H Q E → vs.length = (params.args.map (·.arg)).length := fun q vs H Q E ⟨F, am, h, x, ds, C, x1, x2, x3, x4, x5, s, r, q⟩ => by
        have q : SatR _ _ F am H (callF M.sub M.PF (k + 1) i ds h) _ := q
        simp only [callF, Md.PF, he, Option.map_some, callB] at q
        split at q
        · rename_i hlen
          rw [← r.length, hlen, g5]
        · exact q.elim
      refine fnx_of hl g2 g4 len fun A out s H vs Q E p hot room ⟨F, am, h, x, ds, C, x1, x2, x3, x4, x5, st, r, q⟩ => ?_
      have q : SatR { (M.si K (k + 1)).to E with rc := (M.si K (k + 1)).rc.with x } [] F am H (callF M.sub M.PF (k + 1) i ds h) (PostD { (M.si K (k + 1)).to E with rc := (M.si K (k + 1)).rc.with x } Q) := q
      simp only [callF, Md.PF, he, Option.map_some] at q
      refine ⟨tS { (M.si K k).to E with rc := (M.si K k).rc.with x } e.fd.body, stOk (N := e.N) (G := M.G) (sc := scp) (hot := e.wd) ?_ g7, call_sat (z := { (M.si K k).to E with rc := (M.si K k).rc.with x }) g6 st r (fun _ _ _ _ _ x => x) q⟩
      rw [hwd]
      have cl := clsB_ok (k := k) hc
      exact {
        hK := rfl, hrK := rfl, hN := rfl, nd := g4.nd, hsc := rfl, calm := fun h => nomatch h
        un := Nat.lt_of_le_of_lt (show (A.deeper (envOfC qual scp s.heap.objs.size f cdv)).units + 70 ≤ _ by omega) room.un
        tk := L2N.takes_of rfl rfl rfl rfl
        g := fun y v hy => by
          have z := gB_ok (k := k) h1 h0 (gs_at hg hy)
          cases v <;> exact z
        dp := Nat.lt_of_le_of_lt (show (A.deeper (envOfC qual scp s.heap.objs.size f cdv)).depth + 5 ≤ _ by omega) room.dp
        su := h0 _ (noG_ns hs)
        hx := fun x' hx => by
          have hx : some x = some x' := hx
          cases hx
          exact ⟨⟨p.2, C, by rw [x1]; exact List.mem_singleton.mpr rfl, x2, x3, x4, x5, (cl.cl _ _ x2).1, by rw [x5]; exact (cl.cl _ _ x2).2.1⟩, fun C' c' C2 e1 e2 => cl.k _ _ _ _ e1 e2, fun C' e1 => (cl.cl _ _ e1).2.2, fun j hj hs => by rw [x5]; exact cl.fl _ j hj hs⟩
        cf := fun h => nomatch h
        po := passes_of rfl
        fnc := fun _ _ => rfl
        kd := g4.kind
        stk := fun h => nomatch h
        frm := fun h => nomatch h
        wd := fun h => nomatch h
        cls := ⟨cl.cl, cl.k, cl.em, cl.fl⟩ }
end
end Ci

set_option Elab.async false
set_option linter.all false
set_option maxRecDepth 100000
set_option maxHeartbeats 8000000
namespace Ci
open PySem PySem.Spec PyProof.Rows L2
open PySem.W (Frag nsIn)
/-! ### the end -/
def lawB (M : Md) (i : Nat) : Bool := match M.ds[i]? with
  | some e => e.x == ("law" : Str) && !e.wd && (match e.N with | x :: _ => x == ("script" : Str) | [] => false) && e.fd.np == 1
  | none => false
theorem scr_rel {c : Rc} {F : Addr → Prop} {am : List Addr} {H : Hp} : ∀ ns : List Int, RDs c F am H (ns.map Ci.D.int) (ns.map V.int)
  | [] => .nil
  | n :: ns => .cons (.int n) (scr_rel ns)
theorem law_S {M : Md} {K : Frag} {k i : Nat} {H : Hp} {a : Addr} {ns : List Int} (hO : Only H) (hS : SqL K H a (ns.map V.int)) (h : ∃ h', callF M.sub M.PF k i [.scr (ns.map .int)] [] = .ok (.bl true) h') : spF (M.si K k) i [.ref a] H (fun v _ => v = .bl true) fun _ _ _ => False := by
  obtain ⟨h', e⟩ := h
  refine ⟨fun _ => False, [], [], [.scr (ns.map .int)], ⟨List.nodup_nil, rfl, (fun _ m => nomatch m), (fun _ m => m.elim), (fun i a o e => by simp at e)⟩, .cons ?_ .nil, ?_⟩
  · rcases hS with (hS | ⟨o, hS⟩) | hS
    · rcases hO a with z | ⟨o, xs, z⟩
      · rw [hS] at z; cases z
      · rw [hS] at z; cases z
    · exact .scr hS (fun x => x) (scr_rel ns)
    · exact .scrK (.inr hS) (scr_rel ns)
  · show SatR _ [] _ [] H (callF M.sub M.PF k i [.scr (ns.map .int)] []) _
    rw [e]
    intro F' am' H' _ _ v rv
    cases rv
    rfl
theorem law_F {M : Md} {P : Program} {K : Frag} {k i : Nat} {w : World} {mg : Str → Option Value} {fa : Addr} {h : Heap} (hm : modB P K M = true) (hl : lawB M i = true) (KX : K.In h) (G : h.Ns mainGlobals mg) (hmg : mg "law" = some (.ref fa)) :
    ∃ fd : FuncData, (∀ (s : Shared) (u : Value), BindsTo s fd ⟨[u], []⟩ [(("script" : Str), u)]) ∧ ∀ base : Heap, K.In base → base.Ns mainGlobals mg → FnOk P w K mg base (L2N.CX P w) k fa fd ["script"] (spF (M.si K k) i) := by
  have h1 : ∀ n u, nsIn K mainGlobals n = some (some u) → mg n = some u := fun n u e => PySem.W.mg_of KX G e
  have h0 : ∀ n, nsIn K mainGlobals n = some none → mg n = none := fun n e => PySem.W.mg_none_of KX G e
  unfold lawB at hl
  split at hl
  · rename_i e he
    simp only [Bool.and_eq_true, Bool.not_eq_true', beq_iff_eq] at hl
    obtain ⟨⟨⟨hx, hwd⟩, hN⟩, hnp⟩ := hl
    have hm' := hm
    unfold modB at hm'
    simp only [Bool.and_eq_true, List.all_eq_true] at hm'
    obtain ⟨f, r1, D⟩ := defB_ok (hm'.1.1.1.1 e (List.mem_of_getElem? he))
    obtain ⟨oc, od, osl, name, qual, params, bd, scp, dV, kV, doc, pm, an, cdv, ct, ps, g1, g2, g3, g4, g5, g6, g7, g8, g9, rfl⟩ := D.ex
    have e2 := h1 _ _ (refOf_ns r1)
    rw [hx] at e2
    have e3 := hmg.symm.trans e2
    cases e3
    have hps : params.args.map (·.arg) = [("script" : Str)] := by
      have hpre := g4.pre
      rw [← g5, hnp] at hpre
      rw [← hpre]
      split at hN
      · rename_i x t e4
        rw [e4, beq_iff_eq.mp hN]
        rfl
      · cases hN
    refine ⟨PySem.W.fnOf name qual params bd scp dV kV doc pm an cdv ct, fun s u => .of_eq ?_, fun base hb hg => ?_⟩
    · have z := g9 [u] (by rw [hps]; rfl)
      rw [hps] at z
      exact z
    · have z := (fn_all (w := w) (base := base) hm h1 h0 k).1 i e fa he r1 hwd _ _ _ _ _ g1 rfl
      have z2 : psOf (PySem.W.fnOf name qual params bd scp dV kV doc pm an cdv ct) = [("script" : Str)] := hps
      rw [z2] at z
      exact z
  · cases hl
theorem law_X {P : Program} {w : World} {H : Hp} {s : Shared} {e : Value} {s' : Shared} (h : L2N.CX P w [] H s (fun _ _ _ => False) e s') : False := by
  obtain ⟨_, _, _, _, _, _, _, _, _, _, _, _, z⟩ := h
  exact z
/-- the end of a law, from its plain reading -/
theorem law_end {l : PySem.W.OpenLaw} {n k i : Nat} {M : Md} {q : Program} {loose : List Str} {XP : (Str → Option Value) → Heap → Prop} {YP : World → Heap → Prop} {d : DefRec} {K : Params → Frag}
    (hn : l.most = some n) (hn2 : n ≤ sizeLine) (hdf : d.params.defaults = []) (hr : Room k callerA) (hY : ∀ (w : World) (h : Heap), YP w h → (K w.params).In h) (hd : d.name = ("law" : Str)) (hK : ∀ p : Params, modB l.prog (K p) M = true) (hl : lawB M i = true)
    (plain : ∀ ns : List Int, ns.length ≤ n → ∃ h', callF M.sub M.PF k i [.scr (ns.map .int)] [] = .ok (.bl true) h') : PySem.W.WalkO q loose XP YP l.row.toRowW d [] (fun f vs => PySem.call f vs) :=
  walk_of (K := K) (x := "script") (CX := fun w => L2N.CX l.prog w) (sp := fun w => spF (M.si (K w.params) k) i) hn hn2 hdf hr hY (fun w mg fa h KX G hmg => law_F (hK w.params) hl KX G (by rw [← hd]; exact hmg)) (fun w H a ns h1 h2 h3 => law_S h2 h3 (plain ns h1)) fun _ _ _ _ _ h => law_X h
end Ci

set_option maxRecDepth 100000
namespace Ci
open PySem
/-- is_integer: value -/
def i_is_integer : Fd := ⟨1, 1, (.ret (.and_ (.isI (.var 0) .int) (.not_ (.isI (.var 0) .bool))))⟩
/-- check_spans: spans, own -/
def i_check_spans : Fd := ⟨1, 2, (.ife (.or_ (.not_ (.isI (.var 0) .tuple)) (.or_ (.cmp .Gt (.blt .len (.cons (.var 0) .nil)) (.glb (Str.ofString "MAX_ROWS") (.int (60)))) (.not_ (.blt .all (.cons (.il (.comp (.pcall 2 (.cons (.var 1) .nil)) [1] (.nm 1) (.val (.var 0)) .omit)) .nil))))) (.rais 2 (.lit (.str (Str.ofString "spans")))) .skip)⟩
/-- is_span: value, own -/
def i_is_span : Fd := ⟨1, 2, (.seq (.ife (.or_ (.not_ (.isI (.var 0) .tuple)) (.or_ (.cmp .NotEq (.blt .len (.cons (.var 0) .nil)) (.lit (.int (2)))) (.not_ (.blt .all (.cons (.il (.comp (.pcall 0 (.cons (.var 1) .nil)) [1] (.nm 1) (.val (.var 0)) .omit)) .nil))))) (.ret (.lit (.bl false))) .skip) (.ret (.cmp3 .LtE .LtE .LtE (.lit (.int (0))) (.ix (.var 0) (.lit (.int (0)))) (.ix (.var 0) (.lit (.int (1)))) (.glb (Str.ofString "MAX_HOURS") (.int (1000))))))⟩
/-- check_whole: begin, end -/
def i_check_whole : Fd := ⟨2, 2, (.seq (.ife (.or_ (.not_ (.pcall 0 (.cons (.var 0) .nil))) (.not_ (.cmp2 .LtE .LtE (.lit (.int (0))) (.var 0) (.glb (Str.ofString "MAX_HOURS") (.int (1000)))))) (.rais 3 (.lit (.str (Str.ofString "begin")))) .skip) (.ife (.or_ (.not_ (.pcall 0 (.cons (.var 1) .nil))) (.not_ (.cmp2 .LtE .LtE (.var 0) (.var 1) (.glb (Str.ofString "MAX_HOURS") (.int (1000)))))) (.rais 3 (.lit (.str (Str.ofString "end")))) .skip))⟩
/-- gaps_in: spans, begin, end -/
def i_gaps_in : Fd := ⟨3, 3, (.seq (.ex (.pcall 1 (.cons (.var 0) .nil))) (.seq (.ex (.pcall 3 (.cons (.var 1) (.cons (.var 2) .nil)))) (.ret (.blt .tuple (.cons (.pcall 5 (.cons (.var 0) (.cons (.var 1) (.cons (.var 2) .nil)))) .nil)))))⟩
/-- holes: spans, begin, end, found, hour, first, last, own -/
def i_holes : Fd := ⟨3, 8, (.seq (.asg (.nm 3) (.ml (.disp .nil))) (.seq (.asg (.nm 4) (.var 1)) (.seq (.for_ (.tp (.cons (.nm 5) (.cons (.nm 6) .nil))) (.val (.blt .sorted (.cons (.var 0) .nil))) (.seq (.ife (.cmp .Gt (.var 5) (.var 4)) (.ex (.meth .append (.var 3) (.cons (.tup (.cons (.var 4) (.cons (.blt .min2 (.cons (.bin .Sub (.var 5) (.lit (.int (1)))) (.cons (.var 2) .nil))) .nil))) .nil))) .skip) (.seq (.asg (.nm 4) (.blt .max2 (.cons (.var 4) (.cons (.bin .Add (.var 6) (.lit (.int (1)))) .nil)))) (.ife (.cmp .Gt (.var 4) (.var 2)) .brk .skip)))) (.seq (.ife (.cmp .LtE (.var 4) (.var 2)) (.ex (.meth .append (.var 3) (.cons (.tup (.cons (.var 4) (.cons (.var 2) .nil))) .nil))) .skip) (.ret (.il (.comp (.var 7) [7] (.nm 7) (.val (.var 3)) (.cmp .LtE (.ix (.var 7) (.lit (.int (0)))) (.ix (.var 7) (.lit (.int (1))))))))))))⟩
/-- judge_watch: spans, begin, end, left -/
def i_judge_watch : Fd := ⟨3, 4, (.seq (.ex (.pcall 1 (.cons (.var 0) .nil))) (.seq (.ex (.pcall 3 (.cons (.var 1) (.cons (.var 2) .nil)))) (.seq (.asg (.nm 3) (.pcall 5 (.cons (.var 0) (.cons (.var 1) (.cons (.var 2) .nil))))) (.ret (.ife (.var 3) (.tup (.cons (.lit (.str (Str.ofString "gap"))) (.cons (.ix (.ix (.var 3) (.lit (.int (0)))) (.lit (.int (0)))) .nil))) (.tup (.cons (.lit (.str (Str.ofString "kept"))) .nil)))))))⟩
/-- fewest_watches: spans, begin, end, found, hour, good, at, first, last -/
def i_fewest_watches : Fd := ⟨3, 9, (.seq (.ex (.pcall 1 (.cons (.var 0) .nil))) (.seq (.ex (.pcall 3 (.cons (.var 1) (.cons (.var 2) .nil)))) (.seq (.asg (.nm 3) (.ml (.disp .nil))) (.seq (.asg (.nm 4) (.var 1)) (.seq (.whl (.cmp .LtE (.var 4) (.var 2)) (.seq (.asg (.nm 5) (.il (.comp (.tup (.cons (.neg (.var 8)) (.cons (.var 6) .nil))) [6, 7, 8] (.tp (.cons (.nm 6) (.cons (.tp (.cons (.nm 7) (.cons (.nm 8) .nil))) .nil))) (.enum (.var 0)) (.cmp2 .LtE .LtE (.var 7) (.var 4) (.var 8))))) (.seq (.ife (.not_ (.var 5)) (.ret (.lit .non)) .skip) (.seq (.ex (.meth .append (.var 3) (.cons (.ix (.blt .min1 (.cons (.var 5) .nil)) (.lit (.int (1)))) .nil))) (.asg (.nm 4) (.bin .Add (.neg (.ix (.blt .min1 (.cons (.var 5) .nil)) (.lit (.int (0))))) (.lit (.int (1))))))))) (.ret (.blt .tuple (.cons (.var 3) .nil))))))))⟩
/-- accept_watches: spans, begin, end, numbers, many, at -/
def i_accept_watches : Fd := ⟨5, 6, (.seq (.ex (.pcall 1 (.cons (.var 0) .nil))) (.seq (.ex (.pcall 3 (.cons (.var 1) (.cons (.var 2) .nil)))) (.seq (.ife (.or_ (.not_ (.isI (.var 3) .tuple)) (.not_ (.blt .all (.cons (.il (.comp (.and_ (.pcall 0 (.cons (.var 5) .nil)) (.cmp2 .LtE .Lt (.lit (.int (0))) (.var 5) (.blt .len (.cons (.var 0) .nil)))) [5] (.nm 5) (.val (.var 3)) .omit)) .nil)))) (.rais 4 (.lit (.str (Str.ofString "form")))) .skip) (.seq (.ife (.not_ (.pcall 0 (.cons (.var 4) .nil))) (.rais 4 (.lit (.str (Str.ofString "form")))) .skip) (.seq (.ife (.pcall 5 (.cons (.il (.comp (.ix (.var 0) (.var 5)) [5] (.nm 5) (.val (.var 3)) .omit)) (.cons (.var 1) (.cons (.var 2) .nil)))) (.rais 4 (.lit (.str (Str.ofString "gap")))) .skip) (.ife (.cmp .Gt (.blt .len (.cons (.var 3) .nil)) (.var 4)) (.rais 4 (.lit (.str (Str.ofString "many")))) .skip))))))⟩
/-- accept_hours: spans, begin, end, hours, many, first, last, at, own -/
def i_accept_hours : Fd := ⟨5, 9, (.seq (.ex (.pcall 1 (.cons (.var 0) .nil))) (.seq (.ex (.pcall 3 (.cons (.var 1) (.cons (.var 2) .nil)))) (.seq (.ife (.or_ (.not_ (.isI (.var 3) .tuple)) (.not_ (.blt .all (.cons (.il (.comp (.and_ (.pcall 0 (.cons (.var 8) .nil)) (.cmp2 .LtE .LtE (.var 1) (.var 8) (.var 2))) [8] (.nm 8) (.val (.var 3)) .omit)) .nil)))) (.rais 4 (.lit (.str (Str.ofString "form")))) .skip) (.seq (.ife (.or_ (.il (.comp (.lit (.int (1))) [7] (.nm 7) (.rng1 (.bin .Sub (.blt .len (.cons (.var 3) .nil)) (.lit (.int (1))))) (.cmp .GtE (.ix (.var 3) (.var 7)) (.ix (.var 3) (.bin .Add (.var 7) (.lit (.int (1)))))))) (.not_ (.pcall 0 (.cons (.var 4) .nil)))) (.rais 4 (.lit (.str (Str.ofString "form")))) .skip) (.seq (.for_ (.tp (.cons (.nm 5) (.cons (.nm 6) .nil))) (.val (.var 0)) (.ife (.cmp .Gt (.blt .len (.cons (.il (.comp (.var 8) [8] (.nm 8) (.val (.var 3)) (.cmp2 .LtE .LtE (.var 5) (.var 8) (.var 6)))) .nil)) (.lit (.int (1)))) (.rais 4 (.lit (.str (Str.ofString "watch")))) .skip)) (.ife (.cmp .Lt (.blt .len (.cons (.var 3) .nil)) (.var 4)) (.rais 4 (.lit (.str (Str.ofString "many")))) .skip))))))⟩
/-- check_rest: rest -/
def i_check_rest : Fd := ⟨1, 1, (.ife (.or_ (.not_ (.pcall 0 (.cons (.var 0) .nil))) (.not_ (.cmp2 .LtE .LtE (.lit (.int (0))) (.var 0) (.glb (Str.ofString "MAX_HOURS") (.int (1000)))))) (.rais 3 (.lit (.str (Str.ofString "rest")))) .skip)⟩
/-- fewest_men: spans, rest, free, men, at, good, first, last, own, man, hour -/
def i_fewest_men : Fd := ⟨2, 11, (.seq (.ex (.pcall 1 (.cons (.var 0) .nil))) (.seq (.ex (.pcall 10 (.cons (.var 1) .nil))) (.seq (.asg (.nm 2) (.ml (.disp .nil))) (.seq (.asg (.nm 3) (.mrep (.il (.disp (.cons (.lit .non) .nil))) (.blt .len (.cons (.var 0) .nil)))) (.seq (.for_ (.tp (.cons (.tp (.cons (.nm 6) (.cons (.nm 7) .nil))) (.cons (.nm 4) .nil))) (.val (.blt .sorted (.cons (.il (.comp (.tup (.cons (.var 8) (.cons (.var 4) .nil))) [4, 8] (.tp (.cons (.nm 4) (.cons (.nm 8) .nil))) (.enum (.var 0)) .omit)) .nil))) (.seq (.asg (.nm 5) (.il (.compC true (.var 9) [9, 10] (.tp (.cons (.nm 9) (.cons (.nm 10) .nil))) 2 (.cmp .LtE (.var 10) (.var 6))))) (.ife (.var 5) (.seq (.set (.var 3) (.var 4) (.ix (.var 5) (.lit (.int (0))))) (.set (.var 2) (.ix (.var 5) (.lit (.int (0)))) (.bin .Add (.bin .Add (.var 7) (.lit (.int (1)))) (.var 1)))) (.seq (.set (.var 3) (.var 4) (.blt .len (.cons (.var 2) .nil))) (.ex (.meth .append (.var 2) (.cons (.bin .Add (.bin .Add (.var 7) (.lit (.int (1)))) (.var 1)) .nil))))))) (.ret (.tup (.cons (.blt .len (.cons (.var 2) .nil)) (.cons (.blt .tuple (.cons (.var 3) .nil)) .nil)))))))))⟩
/-- accept_men: spans, rest, men, many, at, other, first, last, begin, end, own -/
def i_accept_men : Fd := ⟨4, 11, (.seq (.ex (.pcall 1 (.cons (.var 0) .nil))) (.seq (.ex (.pcall 10 (.cons (.var 1) .nil))) (.seq (.ife (.or_ (.not_ (.isI (.var 2) .tuple)) (.or_ (.cmp .NotEq (.blt .len (.cons (.var 2) .nil)) (.blt .len (.cons (.var 0) .nil))) (.not_ (.blt .all (.cons (.il (.comp (.and_ (.pcall 0 (.cons (.var 10) .nil)) (.cmp .GtE (.var 10) (.lit (.int (0))))) [10] (.nm 10) (.val (.var 2)) .omit)) .nil))))) (.rais 4 (.lit (.str (Str.ofString "form")))) .skip) (.seq (.ife (.not_ (.pcall 0 (.cons (.var 3) .nil))) (.rais 4 (.lit (.str (Str.ofString "form")))) .skip) (.seq (.for_ (.tp (.cons (.nm 4) (.cons (.tp (.cons (.nm 6) (.cons (.nm 7) .nil))) .nil))) (.enum (.var 0)) (.for_ (.nm 5) (.rng1 (.var 4)) (.seq (.asg (.tp (.cons (.nm 8) (.cons (.nm 9) .nil))) (.ix (.var 0) (.var 5))) (.ife (.and_ (.cmp .Eq (.ix (.var 2) (.var 4)) (.ix (.var 2) (.var 5))) (.and_ (.cmp .LtE (.var 6) (.bin .Add (.var 9) (.var 1))) (.cmp .LtE (.var 8) (.bin .Add (.var 7) (.var 1))))) (.rais 4 (.lit (.str (Str.ofString "rest")))) .skip)))) (.ife (.cmp .Gt (.blt .len (.cons (.dc (.var 10) (.lit (.bl true)) [10] (.nm 10) (.val (.var 2)) .omit) .nil)) (.var 3)) (.rais 4 (.lit (.str (Str.ofString "many")))) .skip))))))⟩
/-- accept_crowd: spans, rest, hour, many, first, last -/
def i_accept_crowd : Fd := ⟨4, 6, (.seq (.ex (.pcall 1 (.cons (.var 0) .nil))) (.seq (.ex (.pcall 10 (.cons (.var 1) .nil))) (.seq (.ife (.or_ (.not_ (.pcall 0 (.cons (.var 2) .nil))) (.not_ (.pcall 0 (.cons (.var 3) .nil)))) (.rais 4 (.lit (.str (Str.ofString "form")))) .skip) (.ife (.cmp .Lt (.blt .len (.cons (.il (.comp (.lit (.int (1))) [4, 5] (.tp (.cons (.nm 4) (.cons (.nm 5) .nil))) (.val (.var 0)) (.cmp2 .LtE .LtE (.var 4) (.var 2) (.bin .Add (.var 5) (.var 1))))) .nil)) (.var 3)) (.rais 4 (.lit (.str (Str.ofString "many")))) .skip))))⟩
/-- crowded_hour: spans, rest, rows, own, end, first, last -/
def i_crowded_hour : Fd := ⟨2, 7, (.seq (.ex (.pcall 1 (.cons (.var 0) .nil))) (.seq (.ex (.pcall 10 (.cons (.var 1) .nil))) (.seq (.asg (.nm 2) (.il (.comp (.tup (.cons (.neg (.blt .len (.cons (.il (.comp (.lit (.int (1))) [5, 6] (.tp (.cons (.nm 5) (.cons (.nm 6) .nil))) (.val (.var 0)) (.cmp2 .LtE .LtE (.var 5) (.var 3) (.bin .Add (.var 6) (.var 1))))) .nil))) (.cons (.var 3) .nil))) [3, 4] (.tp (.cons (.nm 3) (.cons (.nm 4) .nil))) (.val (.var 0)) .omit))) (.ret (.ife (.var 2) (.tup (.cons (.neg (.ix (.blt .min1 (.cons (.var 2) .nil)) (.lit (.int (0))))) (.cons (.ix (.blt .min1 (.cons (.var 2) .nil)) (.lit (.int (1)))) .nil))) (.lit .non))))))⟩
/-- check_men: men, own -/
def i_check_men : Fd := ⟨1, 2, (.ife (.or_ (.not_ (.isI (.var 0) .tuple)) (.or_ (.not_ (.cmp2 .LtE .LtE (.lit (.int (1))) (.blt .len (.cons (.var 0) .nil)) (.glb (Str.ofString "MAX_WATCH") (.int (12))))) (.not_ (.blt .all (.cons (.il (.comp (.pcall 16 (.cons (.var 1) .nil)) [1] (.nm 1) (.val (.var 0)) .omit)) .nil))))) (.rais 3 (.lit (.str (Str.ofString "men")))) .skip)⟩
/-- is_hours: value, at, own -/
def i_is_hours : Fd := ⟨1, 3, (.seq (.ife (.or_ (.not_ (.isI (.var 0) .tuple)) (.not_ (.blt .all (.cons (.il (.comp (.and_ (.pcall 0 (.cons (.var 2) .nil)) (.cmp2 .LtE .Lt (.lit (.int (0))) (.var 2) (.lit (.int (24))))) [2] (.nm 2) (.val (.var 0)) .omit)) .nil)))) (.ret (.lit (.bl false))) .skip) (.ret (.not_ (.il (.comp (.lit (.int (1))) [1] (.nm 1) (.rng1 (.bin .Sub (.blt .len (.cons (.var 0) .nil)) (.lit (.int (1))))) (.cmp .GtE (.ix (.var 0) (.var 1)) (.ix (.var 0) (.bin .Add (.var 1) (.lit (.int (1)))))))))))⟩
/-- shared_day: men, most, told, hour, come, free, man, own, ahead -/
def i_shared_day : Fd := ⟨2, 9, (.seq (.ex (.pcall 15 (.cons (.var 0) .nil))) (.seq (.ife (.or_ (.not_ (.pcall 0 (.cons (.var 1) .nil))) (.not_ (.cmp2 .LtE .LtE (.lit (.int (0))) (.var 1) (.lit (.int (24)))))) (.rais 3 (.lit (.str (Str.ofString "most")))) .skip) (.seq (.asg (.nm 2) (.mrep (.il (.disp (.cons (.lit .non) .nil))) (.lit (.int (24))))) (.seq (.for_ (.nm 3) (.rng1 (.lit (.int (24)))) (.seq (.asg (.nm 4) (.call 18 (.cons (.var 0) (.cons (.var 1) (.cons (.var 2) (.cons (.var 3) .nil)))))) (.seq (.asg (.nm 5) (.il (.compC false (.var 6) [6] (.nm 6) 4 (.cmp .Lt (.meth .count (.var 2) (.cons (.var 6) .nil)) (.var 1))))) (.seq (.ife (.not_ (.var 5)) (.ret (.tup (.cons (.lit (.str (Str.ofString "short"))) (.cons (.blt .tuple (.cons (.blt .sorted (.cons (.bin .Add (.il (.disp (.cons (.var 3) .nil))) (.call 19 (.cons (.var 2) (.cons (.var 4) .nil)))) .nil)) .nil)) .nil)))) .skip) (.seq (.asg (.nm 6) (.ix (.var 5) (.lit (.int (0))))) (.whl (.noN (.var 6)) (.seq (.asg (.tp (.cons (.nm 7) (.cons (.nm 8) .nil))) (.ix (.var 4) (.var 6))) (.seq (.set (.var 2) (.var 7) (.var 6)) (.asg (.nm 6) (.var 8)))))))))) (.ret (.tup (.cons (.lit (.str (Str.ofString "kept"))) (.cons (.blt .tuple (.cons (.var 2) .nil)) .nil))))))))⟩
/-- way_more: men, most, told, hour, come, queue, man, own, giver, other -/
def i_way_more : Fd := ⟨4, 10, (.seq (.asg (.nm 4) .mdct) (.seq (.asg (.nm 5) (.ml (.disp (.cons (.tup (.cons (.var 3) (.cons (.lit .non) .nil))) .nil)))) (.seq (.whl (.var 5) (.seq (.asg (.tp (.cons (.nm 7) (.cons (.nm 8) .nil))) (.meth .pop (.var 5) (.cons (.lit (.int (0))) .nil))) (.for_ (.nm 6) (.rng1 (.blt .len (.cons (.var 0) .nil))) (.ife (.and_ (.cmp .In (.var 7) (.ix (.var 0) (.var 6))) (.cmp .NotIn (.var 6) (.var 4))) (.seq (.set (.var 4) (.var 6) (.tup (.cons (.var 7) (.cons (.var 8) .nil)))) (.ex (.meth .extend (.var 5) (.cons (.il (.comp (.tup (.cons (.var 9) (.cons (.var 6) .nil))) [9] (.nm 9) (.rng1 (.lit (.int (24)))) (.cmp .Eq (.ix (.var 2) (.var 9)) (.var 6)))) .nil)))) .skip)))) (.ret (.var 4)))))⟩
/-- come_hours: told, come, hour -/
def i_come_hours : Fd := ⟨2, 3, (.ret (.il (.comp (.var 2) [2] (.nm 2) (.rng1 (.lit (.int (24)))) (.and_ (.noN (.ix (.var 0) (.var 2))) (.cmp .In (.ix (.var 0) (.var 2)) (.var 1))))))⟩
/-- accept_short: men, most, hours, able, man, own -/
def i_accept_short : Fd := ⟨3, 6, (.seq (.ex (.pcall 15 (.cons (.var 0) .nil))) (.seq (.ife (.or_ (.not_ (.pcall 0 (.cons (.var 1) .nil))) (.not_ (.cmp2 .LtE .LtE (.lit (.int (0))) (.var 1) (.lit (.int (24)))))) (.rais 3 (.lit (.str (Str.ofString "most")))) .skip) (.seq (.ife (.not_ (.pcall 16 (.cons (.var 2) .nil))) (.rais 4 (.lit (.str (Str.ofString "form")))) .skip) (.seq (.asg (.nm 3) (.il (.comp (.var 4) [4] (.nm 4) (.val (.var 0)) (.il (.comp (.var 5) [5] (.nm 5) (.val (.var 4)) (.cmp .In (.var 5) (.var 2))))))) (.ife (.cmp .GtE (.bin .Mult (.blt .len (.cons (.var 3) .nil)) (.var 1)) (.blt .len (.cons (.var 2) .nil))) (.rais 4 (.lit (.str (Str.ofString "enough")))) .skip)))))⟩
/-- accept_day: men, most, told, man, hour -/
def i_accept_day : Fd := ⟨3, 5, (.seq (.ex (.pcall 15 (.cons (.var 0) .nil))) (.seq (.ife (.or_ (.not_ (.pcall 0 (.cons (.var 1) .nil))) (.not_ (.cmp2 .LtE .LtE (.lit (.int (0))) (.var 1) (.lit (.int (24)))))) (.rais 3 (.lit (.str (Str.ofString "most")))) .skip) (.seq (.ife (.or_ (.not_ (.isI (.var 2) .tuple)) (.or_ (.cmp .NotEq (.blt .len (.cons (.var 2) .nil)) (.lit (.int (24)))) (.not_ (.blt .all (.cons (.il (.comp (.pcall 0 (.cons (.var 3) .nil)) [3] (.nm 3) (.val (.var 2)) .omit)) .nil))))) (.rais 4 (.lit (.str (Str.ofString "form")))) .skip) (.seq (.ife (.il (.comp (.var 3) [3] (.nm 3) (.val (.var 2)) (.not_ (.cmp2 .LtE .Lt (.lit (.int (0))) (.var 3) (.blt .len (.cons (.var 0) .nil)))))) (.rais 4 (.lit (.str (Str.ofString "form")))) .skip) (.seq (.ife (.il (.comp (.var 4) [4, 3] (.tp (.cons (.nm 4) (.cons (.nm 3) .nil))) (.enum (.var 2)) (.cmp .NotIn (.var 4) (.ix (.var 0) (.var 3))))) (.rais 4 (.lit (.str (Str.ofString "hour")))) .skip) (.ife (.il (.comp (.var 3) [3] (.nm 3) (.val (.var 2)) (.cmp .Gt (.meth .count (.var 2) (.cons (.var 3) .nil)) (.var 1)))) (.rais 4 (.lit (.str (Str.ofString "most")))) .skip))))))⟩
/-- _law_start: script, seed, cell -/
def i__law_start : Fd := ⟨1, 3, (.seq (.asg (.nm 1) (.lit (.int (7)))) (.seq (.for_ (.nm 2) (.val (.var 0)) (.asg (.nm 1) (.bin .Add (.bin .Mod (.blt .int (.cons (.bin .Add (.bin .Mult (.var 1) (.lit (.int (48271)))) (.var 2)) .nil)) (.lit (.int (2147483629)))) (.lit (.int (1)))))) (.ret (.ml (.disp (.cons (.blt .list (.cons (.var 0) .nil)) (.cons (.lit (.int (0))) (.cons (.lit (.int (0))) (.cons (.var 1) .nil)))))))))⟩
/-- _law_draw: state, many, taken -/
def i__law_draw : Fd := ⟨2, 3, (.seq (.ife (.and_ (.cmp .Eq (.ix (.var 0) (.lit (.int (1)))) (.lit (.int (0)))) (.cmp .GtE (.ix (.var 0) (.lit (.int (2)))) (.blt .len (.cons (.ix (.var 0) (.lit (.int (0)))) .nil)))) (.seq (.set (.var 0) (.lit (.int (3))) (.bin .Mod (.blt .int (.cons (.bin .Add (.bin .Mult (.ix (.var 0) (.lit (.int (3)))) (.lit (.int (48271)))) (.lit (.int (69621)))) .nil)) (.lit (.int (2147483629))))) (.ret (.bin .Mod (.blt .int (.cons (.bin .FloorDiv (.ix (.var 0) (.lit (.int (3)))) (.lit (.int (13)))) .nil)) (.var 1)))) .skip) (.seq (.ife (.cmp .Eq (.ix (.var 0) (.lit (.int (1)))) (.lit (.int (0)))) (.seq (.set (.var 0) (.lit (.int (1))) (.blt .abs (.cons (.ix (.ix (.var 0) (.lit (.int (0)))) (.ix (.var 0) (.lit (.int (2))))) .nil))) (.set (.var 0) (.lit (.int (2))) (.bin .Add (.ix (.var 0) (.lit (.int (2)))) (.lit (.int (1)))))) .skip) (.seq (.asg (.nm 2) (.bin .Mod (.blt .int (.cons (.ix (.var 0) (.lit (.int (1)))) .nil)) (.var 1))) (.seq (.set (.var 0) (.lit (.int (1))) (.bin .FloorDiv (.ix (.var 0) (.lit (.int (1)))) (.var 1))) (.ret (.var 2))))))⟩
/-- _law_pick: state, some -/
def i__law_pick : Fd := ⟨2, 2, (.ret (.ix (.var 1) (.call 23 (.cons (.var 0) (.cons (.blt .len (.cons (.var 1) .nil)) .nil)))))⟩
/-- _law_word: error, kinds -/
def i__law_word : Fd := ⟨1, 2, (.seq (.ife (.isC (.var 0) 1) (.ret (.bin .Add (.lit (.str (Str.ofString "text "))) (.blt .str (.cons (.attr (.var 0) 101) .nil)))) .skip) (.seq (.asg (.nm 1) (.il (.disp (.cons (.isC (.var 0) 2) (.cons (.isC (.var 0) 3) (.cons (.isC (.var 0) 4) (.cons (.isC (.var 0) 5) .nil))))))) (.seq (.ife (.or_ (.not_ (.isC (.var 0) 0)) (.cmp .NotEq (.meth .count (.var 1) (.cons (.lit (.bl true)) .nil)) (.lit (.int (1))))) (.ret (.lit (.str (Str.ofString "other")))) .skip) (.ret (.bin .Add (.ix (.il (.disp (.cons (.lit (.str (Str.ofString "storm "))) (.cons (.lit (.str (Str.ofString "argument "))) (.cons (.lit (.str (Str.ofString "paper "))) (.cons (.lit (.str (Str.ofString "many "))) .nil)))))) (.meth .index (.var 1) (.cons (.lit (.bl true)) .nil))) (.blt .str (.cons (.attr (.var 0) 100) .nil)))))))⟩
/-- _law_asked: way, some, error -/
def i__law_asked : Fd := ⟨2, 3, (.try_ (.seq (.ife (.cmp .Lt (.blt .len (.cons (.var 1) .nil)) (.lit (.int (3)))) (.ret (.ife (.cmp .Eq (.blt .len (.cons (.var 1) .nil)) (.lit (.int (1)))) (.il (.disp (.cons (.pvcall 0 (.cons (.ix (.var 1) (.lit (.int (0)))) .nil)) .nil))) (.il (.disp (.cons (.pvcall 0 (.cons (.ix (.var 1) (.lit (.int (0)))) (.cons (.ix (.var 1) (.lit (.int (1)))) .nil))) .nil))))) .skip) (.seq (.ife (.cmp .Lt (.blt .len (.cons (.var 1) .nil)) (.lit (.int (5)))) (.ret (.ife (.cmp .Eq (.blt .len (.cons (.var 1) .nil)) (.lit (.int (3)))) (.il (.disp (.cons (.pvcall 0 (.cons (.ix (.var 1) (.lit (.int (0)))) (.cons (.ix (.var 1) (.lit (.int (1)))) (.cons (.ix (.var 1) (.lit (.int (2)))) .nil)))) .nil))) (.il (.disp (.cons (.pvcall 0 (.cons (.ix (.var 1) (.lit (.int (0)))) (.cons (.ix (.var 1) (.lit (.int (1)))) (.cons (.ix (.var 1) (.lit (.int (2)))) (.cons (.ix (.var 1) (.lit (.int (3)))) .nil))))) .nil))))) .skip) (.seq (.ife (.cmp .Lt (.blt .len (.cons (.var 1) .nil)) (.lit (.int (7)))) (.ret (.ife (.cmp .Eq (.blt .len (.cons (.var 1) .nil)) (.lit (.int (5)))) (.il (.disp (.cons (.pvcall 0 (.cons (.ix (.var 1) (.lit (.int (0)))) (.cons (.ix (.var 1) (.lit (.int (1)))) (.cons (.ix (.var 1) (.lit (.int (2)))) (.cons (.ix (.var 1) (.lit (.int (3)))) (.cons (.ix (.var 1) (.lit (.int (4)))) .nil)))))) .nil))) (.il (.disp (.cons (.pvcall 0 (.cons (.ix (.var 1) (.lit (.int (0)))) (.cons (.ix (.var 1) (.lit (.int (1)))) (.cons (.ix (.var 1) (.lit (.int (2)))) (.cons (.ix (.var 1) (.lit (.int (3)))) (.cons (.ix (.var 1) (.lit (.int (4)))) (.cons (.ix (.var 1) (.lit (.int (5)))) .nil))))))) .nil))))) .skip) (.ret (.il (.disp (.cons (.pvcall 0 (.cons (.ix (.var 1) (.lit (.int (0)))) (.cons (.ix (.var 1) (.lit (.int (1)))) (.cons (.ix (.var 1) (.lit (.int (2)))) (.cons (.ix (.var 1) (.lit (.int (3)))) (.cons (.ix (.var 1) (.lit (.int (4)))) (.cons (.ix (.var 1) (.lit (.int (5)))) (.cons (.ix (.var 1) (.lit (.int (6)))) .nil)))))))) .nil))))))) 0 2 (.ret (.call 25 (.cons (.var 2) .nil))))⟩
/-- _law_whole: content, low, high -/
def i__law_whole : Fd := ⟨3, 3, (.ret (.and_ (.isI (.var 0) .int) (.and_ (.not_ (.isI (.var 0) .bool)) (.cmp2 .LtE .LtE (.var 1) (.var 0) (.var 2)))))⟩
/-- _law_bent: state, value, at, way -/
def i__law_bent : Fd := ⟨2, 4, (.seq (.ife (.or_ (.not_ (.isI (.var 1) .tuple)) (.not_ (.var 1))) (.seq (.ife (.and_ (.isI (.var 1) .int) (.and_ (.not_ (.isI (.var 1) .bool)) (.cmp .Gt (.call 23 (.cons (.var 0) (.cons (.lit (.int (3))) .nil))) (.lit (.int (0)))))) (.ret (.bin .Add (.var 1) (.call 24 (.cons (.var 0) (.cons (.il (.disp (.cons (.lit (.int (1))) (.cons (.neg (.lit (.int (1)))) (.cons (.lit (.int (2))) (.cons (.bin .Pow (.lit (.int (10))) (.lit (.int (13)))) .nil)))))) .nil))))) .skip) (.ret (.call 24 (.cons (.var 0) (.cons (.il (.disp (.cons (.lit .non) (.cons (.lit (.bl true)) (.cons (.lit (.bl false)) (.cons (.neg (.lit (.int (1)))) (.cons (.lit (.int (0))) (.cons (.lit (.int (1))) (.cons (.lit (.str (Str.ofString "0"))) (.cons (.tup .nil) (.cons (.tup (.cons (.lit (.int (0))) .nil)) (.cons (.bin .Pow (.lit (.int (10))) (.lit (.int (30)))) .nil)))))))))))) .nil))))) .skip) (.seq (.asg (.tp (.cons (.nm 2) (.cons (.nm 3) .nil))) (.tup (.cons (.call 23 (.cons (.var 0) (.cons (.blt .len (.cons (.var 1) .nil)) .nil))) (.cons (.call 23 (.cons (.var 0) (.cons (.lit (.int (9))) .nil))) .nil)))) (.seq (.ife (.cmp .Lt (.var 3) (.lit (.int (5)))) (.ret (.bin .Add (.bin .Add (.sl (.var 1) .omit (.var 2)) (.tup (.cons (.call 28 (.cons (.var 0) (.cons (.ix (.var 1) (.var 2)) .nil))) .nil))) (.sl (.var 1) (.bin .Add (.var 2) (.lit (.int (1)))) .omit))) .skip) (.ret (.ix (.il (.disp (.cons (.bin .Add (.sl (.var 1) .omit (.var 2)) (.sl (.var 1) (.bin .Add (.var 2) (.lit (.int (1)))) .omit)) (.cons (.bin .Add (.bin .Add (.sl (.var 1) .omit (.var 2)) (.sl (.var 1) (.var 2) (.bin .Add (.var 2) (.lit (.int (1)))))) (.sl (.var 1) (.var 2) .omit)) (.cons (.rev (.var 1)) (.cons (.bin .Add (.var 1) (.tup (.cons (.lit (.int (0))) .nil))) .nil)))))) (.bin .Sub (.var 3) (.lit (.int (5)))))))))⟩
/-- _law_told: way, some, told -/
def i__law_told : Fd := ⟨2, 3, (.seq (.asg (.nm 2) (.pcall 26 (.cons (.var 0) (.cons (.var 1) .nil)))) (.ret (.ife (.isI (.var 2) .str) (.var 2) (.lit (.str (Str.ofString ""))))))⟩
/-- _law_first: words, found, word -/
def i__law_first : Fd := ⟨1, 3, (.seq (.asg (.nm 1) (.il (.comp (.var 2) [2] (.nm 2) (.val (.var 0)) (.cmp .NotEq (.var 2) (.lit (.str (Str.ofString ""))))))) (.ret (.ife (.var 1) (.ix (.var 1) (.lit (.int (0)))) (.lit (.str (Str.ofString ""))))))⟩
/-- _law_watches_hold: state, good, odd, spans, right, head, words, due, papers, begin, end, rest, many, low, high, own, way, row -/
def i__law_watches_hold : Fd := ⟨1, 18, (.seq (.asg (.nm 1) (.call 24 (.cons (.var 0) (.cons (.il (.disp (.cons (.tup (.cons (.tup (.cons (.lit (.int (0))) (.cons (.lit (.int (5))) .nil))) (.cons (.tup (.cons (.lit (.int (4))) (.cons (.lit (.int (9))) .nil))) (.cons (.tup (.cons (.lit (.int (12))) (.cons (.lit (.int (14))) .nil))) .nil)))) (.cons (.bin .Mult (.tup (.cons (.tup (.cons (.lit (.int (0))) (.cons (.lit (.int (1000))) .nil))) .nil)) (.lit (.int (60)))) (.cons (.tup .nil) (.cons (.tup (.cons (.tup (.cons (.lit (.int (1000))) (.cons (.lit (.int (1000))) .nil))) .nil)) .nil)))))) .nil)))) (.seq (.asg (.nm 2) (.il (.disp (.cons (.bin .Mult (.tup (.cons (.tup (.cons (.lit (.int (0))) (.cons (.lit (.int (1))) .nil))) .nil)) (.lit (.int (61)))) (.cons (.tup (.cons (.tup (.cons (.lit (.int (5))) (.cons (.lit (.int (4))) .nil))) .nil)) (.cons (.tup (.cons (.tup (.cons (.neg (.lit (.int (1)))) (.cons (.lit (.int (4))) .nil))) .nil)) (.cons (.tup (.cons (.tup (.cons (.lit (.int (0))) (.cons (.lit (.int (1001))) .nil))) .nil)) (.cons (.tup (.cons (.tup (.cons (.lit (.bl true)) (.cons (.lit (.int (4))) .nil))) .nil)) (.cons (.tup (.cons (.tup (.cons (.lit (.int (0))) (.cons (.lit (.bl true)) .nil))) .nil)) (.cons (.tup (.cons (.tup (.cons (.lit (.int (0))) .nil)) .nil)) (.cons (.tup (.cons (.tup (.cons (.lit (.int (0))) (.cons (.lit (.int (1))) (.cons (.lit (.int (2))) .nil)))) .nil)) (.cons (.tup (.cons (.lit (.int (5))) .nil)) (.cons (.tup (.cons (.lit .non) .nil)) (.cons (.lit .non) (.cons (.lit (.int (5))) (.cons (.lit (.str (Str.ofString "ab"))) .nil)))))))))))))))) (.seq (.asg (.nm 2) (.bin .Add (.var 2) (.il (.disp (.cons (.bin .Add (.bin .Mult (.tup (.cons (.tup (.cons (.lit (.int (0))) (.cons (.lit (.int (1))) .nil))) .nil)) (.lit (.int (59)))) (.tup (.cons (.tup (.cons (.lit (.int (0))) (.cons (.lit .non) .nil))) .nil))) (.cons (.bin .Add (.bin .Mult (.tup (.cons (.tup (.cons (.lit (.int (0))) (.cons (.lit (.int (1))) .nil))) .nil)) (.lit (.int (59)))) (.tup (.cons (.tup (.cons (.lit (.int (1))) (.cons (.lit (.int (0))) .nil))) .nil))) .nil)))))) (.seq (.asg (.nm 3) (.call 24 (.cons (.var 0) (.cons (.il (.disp (.cons (.var 1) (.cons (.var 1) (.cons (.call 28 (.cons (.var 0) (.cons (.var 1) .nil))) (.cons (.call 24 (.cons (.var 0) (.cons (.var 2) .nil))) .nil)))))) .nil)))) (.seq (.asg (.nm 4) (.and_ (.isI (.var 3) .tuple) (.and_ (.cmp .LtE (.blt .len (.cons (.var 3) .nil)) (.lit (.int (60)))) (.not_ (.il (.comp (.var 17) [17] (.nm 17) (.val (.var 3)) (.or_ (.not_ (.isI (.var 17) .tuple)) (.cmp .NotEq (.blt .len (.cons (.var 17) .nil)) (.lit (.int (2))))))))))) (.seq (.asg (.nm 4) (.and_ (.var 4) (.not_ (.il (.comp (.var 17) [17] (.nm 17) (.val (.var 3)) (.or_ (.not_ (.pcall 27 (.cons (.ix (.var 17) (.lit (.int (0)))) (.cons (.lit (.int (0))) (.cons (.lit (.int (1000))) .nil))))) (.not_ (.pcall 27 (.cons (.ix (.var 17) (.lit (.int (1)))) (.cons (.ix (.var 17) (.lit (.int (0)))) (.cons (.lit (.int (1000))) .nil))))))))))) (.seq (.asg (.nm 5) (.ife (.var 4) (.lit (.str (Str.ofString ""))) (.lit (.str (Str.ofString "storm spans"))))) (.seq (.asg (.tp (.cons (.nm 9) (.cons (.nm 10) (.cons (.nm 11) .nil)))) (.tup (.cons (.call 24 (.cons (.var 0) (.cons (.il (.disp (.cons (.lit (.int (0))) (.cons (.lit (.int (5))) (.cons (.lit (.int (1000))) (.cons (.lit (.int (1001))) (.cons (.neg (.lit (.int (1)))) (.cons (.lit (.bl true)) (.cons (.lit .non) .nil))))))))) .nil))) (.cons (.call 24 (.cons (.var 0) (.cons (.il (.disp (.cons (.lit (.int (0))) (.cons (.lit (.int (9))) (.cons (.lit (.int (1000))) (.cons (.lit (.int (1001))) (.cons (.neg (.lit (.int (1)))) (.cons (.lit (.bl false)) (.cons (.lit .non) .nil))))))))) .nil))) (.cons (.call 24 (.cons (.var 0) (.cons (.il (.disp (.cons (.lit (.int (0))) (.cons (.lit (.int (2))) (.cons (.lit (.int (1000))) (.cons (.lit (.int (1001))) (.cons (.neg (.lit (.int (1)))) (.cons (.lit (.bl true)) (.cons (.lit .non) .nil))))))))) .nil))) .nil))))) (.seq (.asg (.nm 6) (.ml (.disp (.cons (.var 5) (.cons (.ife (.pcall 27 (.cons (.var 9) (.cons (.lit (.int (0))) (.cons (.lit (.int (1000))) .nil)))) (.lit (.str (Str.ofString ""))) (.lit (.str (Str.ofString "argument begin")))) .nil))))) (.seq (.ex (.meth .append (.var 6) (.cons (.ife (.and_ (.cmp .Eq (.ix (.var 6) (.lit (.int (1)))) (.lit (.str (Str.ofString "")))) (.pcall 27 (.cons (.var 10) (.cons (.var 9) (.cons (.lit (.int (1000))) .nil))))) (.lit (.str (Str.ofString ""))) (.lit (.str (Str.ofString "argument end")))) .nil))) (.seq (.asg (.nm 7) (.call 30 (.cons (.var 6) .nil))) (.seq (.ife (.cmp .NotEq (.il (.comp (.pcall 29 (.cons (.var 16) (.cons (.il (.disp (.cons (.var 3) (.cons (.var 9) (.cons (.var 10) .nil))))) .nil))) [16] (.nm 16) (.val (.il (.disp (.cons (.fn 4) (.cons (.fn 6) (.cons (.fn 7) .nil)))))) .omit)) (.bin .Mult (.il (.disp (.cons (.var 7) .nil))) (.lit (.int (3))))) (.ret (.lit (.bl false))) .skip) (.seq (.asg (.tp (.cons (.nm 12) (.cons (.nm 13) (.cons (.nm 14) .nil)))) (.tup (.cons (.ife (.var 4) (.blt .len (.cons (.var 3) .nil)) (.lit (.int (3)))) (.cons (.ife (.cmp .Eq (.var 7) (.lit (.str (Str.ofString "")))) (.var 9) (.lit (.int (0)))) (.cons (.ife (.cmp .Eq (.var 7) (.lit (.str (Str.ofString "")))) (.var 10) (.lit (.int (5)))) .nil))))) (.seq (.asg (.nm 8) (.mcat (.il (.comp (.pcall 29 (.cons (.fn 8) (.cons (.il (.disp (.cons (.var 3) (.cons (.var 9) (.cons (.var 10) (.cons (.var 15) (.cons (.lit (.int (3))) .nil))))))) .nil))) [15] (.nm 15) (.val (.il (.disp (.cons (.lit .non) (.cons (.tup (.cons (.var 12) .nil)) (.cons (.tup (.cons (.neg (.lit (.int (1)))) .nil)) (.cons (.tup (.cons (.lit (.bl true)) .nil)) (.cons (.tup (.cons (.lit .non) .nil)) .nil)))))))) .omit)) (.il (.disp (.cons (.pcall 29 (.cons (.fn 8) (.cons (.il (.disp (.cons (.var 3) (.cons (.var 9) (.cons (.var 10) (.cons (.tup .nil) (.cons (.lit .non) .nil))))))) .nil))) .nil))))) (.seq (.asg (.nm 8) (.mcat (.var 8) (.il (.comp (.pcall 29 (.cons (.fn 9) (.cons (.il (.disp (.cons (.var 3) (.cons (.var 9) (.cons (.var 10) (.cons (.var 15) (.cons (.lit (.int (0))) .nil))))))) .nil))) [15] (.nm 15) (.val (.il (.disp (.cons (.lit .non) (.cons (.tup (.cons (.bin .Add (.var 14) (.lit (.int (1)))) .nil)) (.cons (.tup (.cons (.bin .Sub (.var 13) (.lit (.int (1)))) .nil)) (.cons (.tup (.cons (.var 13) (.cons (.var 13) .nil))) (.cons (.tup (.cons (.lit .non) .nil)) (.cons (.tup (.cons (.lit (.str (Str.ofString "0"))) .nil)) .nil))))))))) .omit)))) (.seq (.ex (.meth .append (.var 8) (.cons (.pcall 29 (.cons (.fn 9) (.cons (.il (.disp (.cons (.var 3) (.cons (.var 9) (.cons (.var 10) (.cons (.tup .nil) (.cons (.lit (.bl true)) .nil))))))) .nil))) .nil))) (.seq (.ife (.cmp .NotEq (.var 8) (.bin .Mult (.il (.disp (.cons (.ife (.cmp .NotEq (.var 7) (.lit (.str (Str.ofString "")))) (.var 7) (.lit (.str (Str.ofString "paper form")))) .nil))) (.lit (.int (13))))) (.ret (.lit (.bl false))) .skip) (.seq (.asg (.nm 7) (.pcall 30 (.cons (.il (.disp (.cons (.var 5) (.cons (.ife (.pcall 27 (.cons (.var 11) (.cons (.lit (.int (0))) (.cons (.lit (.int (1000))) .nil)))) (.lit (.str (Str.ofString ""))) (.lit (.str (Str.ofString "argument rest")))) .nil)))) .nil))) (.seq (.asg (.nm 8) (.ml (.comp (.pcall 29 (.cons (.fn 12) (.cons (.il (.disp (.cons (.var 3) (.cons (.var 11) (.cons (.var 15) (.cons (.lit (.int (3))) .nil)))))) .nil))) [15] (.nm 15) (.val (.il (.disp (.cons (.lit .non) (.cons (.bin .Mult (.tup (.cons (.lit (.int (0))) .nil)) (.lit (.int (61)))) (.cons (.bin .Mult (.tup (.cons (.neg (.lit (.int (1)))) .nil)) (.blt .max1 (.cons (.il (.disp (.cons (.lit (.int (1))) (.cons (.var 12) .nil)))) .nil))) (.cons (.bin .Mult (.tup (.cons (.lit (.bl true)) .nil)) (.blt .max1 (.cons (.il (.disp (.cons (.lit (.int (1))) (.cons (.var 12) .nil)))) .nil))) (.cons (.bin .Add (.bin .Mult (.tup (.cons (.lit (.int (0))) .nil)) (.bin .Sub (.blt .max1 (.cons (.il (.disp (.cons (.lit (.int (1))) (.cons (.var 12) .nil)))) .nil)) (.lit (.int (1))))) (.tup (.cons (.lit .non) .nil))) .nil)))))))) .omit))) (.seq (.asg (.nm 8) (.mcat (.var 8) (.il (.comp (.pcall 29 (.cons (.fn 13) (.cons (.bin .Add (.il (.disp (.cons (.var 3) (.cons (.var 11) .nil)))) (.var 15)) .nil))) [15] (.nm 15) (.val (.il (.disp (.cons (.il (.disp (.cons (.lit .non) (.cons (.lit (.int (0))) .nil)))) (.cons (.il (.disp (.cons (.lit (.int (0))) (.cons (.lit .non) .nil)))) (.cons (.il (.disp (.cons (.lit (.bl true)) (.cons (.lit (.int (0))) .nil)))) (.cons (.il (.disp (.cons (.lit (.int (0))) (.cons (.lit (.bl true)) .nil)))) .nil))))))) .omit)))) (.ret (.and_ (.cmp .Eq (.il (.comp (.pcall 29 (.cons (.var 16) (.cons (.il (.disp (.cons (.var 3) (.cons (.var 11) .nil)))) .nil))) [16] (.nm 16) (.val (.il (.disp (.cons (.fn 11) (.cons (.fn 14) .nil))))) .omit)) (.bin .Mult (.il (.disp (.cons (.var 7) .nil))) (.lit (.int (2))))) (.cmp .Eq (.var 8) (.bin .Mult (.il (.disp (.cons (.ife (.cmp .NotEq (.var 7) (.lit (.str (Str.ofString "")))) (.var 7) (.lit (.str (Str.ofString "paper form")))) .nil))) (.lit (.int (9)))))))))))))))))))))))))))⟩
/-- _law_days_hold: state, whole, good, odd, men, right, most, due, many, papers, own, man, k -/
def i__law_days_hold : Fd := ⟨1, 13, (.seq (.asg (.nm 1) (.blt .tuple (.cons (.rlist false .omit (.lit (.int (24)))) .nil))) (.seq (.asg (.nm 2) (.call 24 (.cons (.var 0) (.cons (.il (.disp (.cons (.tup (.cons (.var 1) (.cons (.tup (.cons (.lit (.int (0))) (.cons (.lit (.int (1))) .nil))) .nil))) (.cons (.tup (.cons (.var 1) .nil)) (.cons (.tup (.cons (.tup .nil) .nil)) (.cons (.bin .Mult (.tup (.cons (.var 1) .nil)) (.lit (.int (12)))) .nil)))))) .nil)))) (.seq (.asg (.nm 3) (.il (.disp (.cons (.tup .nil) (.cons (.bin .Mult (.tup (.cons (.var 1) .nil)) (.lit (.int (13)))) (.cons (.tup (.cons (.tup (.cons (.lit (.int (24))) .nil)) .nil)) (.cons (.tup (.cons (.tup (.cons (.neg (.lit (.int (1)))) .nil)) .nil)) (.cons (.tup (.cons (.tup (.cons (.lit (.int (0))) (.cons (.lit (.int (0))) .nil))) .nil)) (.cons (.tup (.cons (.tup (.cons (.lit (.int (1))) (.cons (.lit (.int (0))) .nil))) .nil)) (.cons (.tup (.cons (.tup (.cons (.lit (.bl true)) .nil)) .nil)) (.cons (.tup (.cons (.lit (.int (5))) .nil)) (.cons (.tup (.cons (.lit .non) .nil)) (.cons (.lit .non) (.cons (.lit (.int (5))) (.cons (.bin .Add (.bin .Mult (.tup (.cons (.var 1) .nil)) (.lit (.int (11)))) (.tup (.cons (.tup (.cons (.lit (.int (0))) (.cons (.lit .non) .nil))) .nil))) (.cons (.tup (.cons (.var 1) (.cons (.lit (.str (Str.ofString "0"))) .nil))) .nil)))))))))))))))) (.seq (.asg (.nm 4) (.call 24 (.cons (.var 0) (.cons (.il (.disp (.cons (.var 2) (.cons (.var 2) (.cons (.call 28 (.cons (.var 0) (.cons (.var 2) .nil))) (.cons (.call 24 (.cons (.var 0) (.cons (.var 3) .nil))) .nil)))))) .nil)))) (.seq (.asg (.nm 5) (.and_ (.isI (.var 4) .tuple) (.and_ (.cmp2 .LtE .LtE (.lit (.int (1))) (.blt .len (.cons (.var 4) .nil)) (.lit (.int (12)))) (.not_ (.il (.comp (.var 11) [11] (.nm 11) (.val (.var 4)) (.or_ (.not_ (.isI (.var 11) .tuple)) (.il (.comp (.var 10) [10] (.nm 10) (.val (.var 11)) (.not_ (.pcall 27 (.cons (.var 10) (.cons (.lit (.int (0))) (.cons (.lit (.int (23))) .nil)))))))))))))) (.seq (.asg (.nm 5) (.and_ (.var 5) (.not_ (.il (.comp (.var 11) [11] (.nm 11) (.val (.var 4)) (.il (.comp (.var 12) [12] (.nm 12) (.rng2 (.lit (.int (1))) (.blt .len (.cons (.var 11) .nil))) (.cmp .GtE (.ix (.var 11) (.bin .Sub (.var 12) (.lit (.int (1))))) (.ix (.var 11) (.var 12)))))))))) (.seq (.asg (.nm 6) (.call 24 (.cons (.var 0) (.cons (.il (.disp (.cons (.lit (.int (0))) (.cons (.lit (.int (12))) (.cons (.lit (.int (24))) (.cons (.lit (.int (25))) (.cons (.neg (.lit (.int (1)))) (.cons (.lit (.bl true)) (.cons (.lit .non) .nil))))))))) .nil)))) (.seq (.asg (.nm 7) (.pcall 30 (.cons (.il (.disp (.cons (.ife (.var 5) (.lit (.str (Str.ofString ""))) (.lit (.str (Str.ofString "argument men")))) (.cons (.ife (.pcall 27 (.cons (.var 6) (.cons (.lit (.int (0))) (.cons (.lit (.int (24))) .nil)))) (.lit (.str (Str.ofString ""))) (.lit (.str (Str.ofString "argument most")))) .nil)))) .nil))) (.seq (.asg (.nm 8) (.ife (.var 5) (.blt .len (.cons (.var 4) .nil)) (.lit (.int (2))))) (.seq (.asg (.nm 9) (.il (.comp (.pcall 29 (.cons (.fn 21) (.cons (.il (.disp (.cons (.var 4) (.cons (.var 6) (.cons (.var 10) .nil))))) .nil))) [10] (.nm 10) (.val (.il (.disp (.cons (.lit .non) (.cons (.bin .Mult (.tup (.cons (.lit (.int (0))) .nil)) (.lit (.int (23)))) (.cons (.bin .Mult (.tup (.cons (.lit (.int (0))) .nil)) (.lit (.int (25)))) (.cons (.bin .Add (.bin .Mult (.tup (.cons (.lit (.int (0))) .nil)) (.lit (.int (23)))) (.tup (.cons (.var 8) .nil))) (.cons (.bin .Add (.bin .Mult (.tup (.cons (.lit (.int (0))) .nil)) (.lit (.int (23)))) (.tup (.cons (.neg (.lit (.int (1)))) .nil))) (.cons (.bin .Add (.bin .Mult (.tup (.cons (.lit (.int (0))) .nil)) (.lit (.int (23)))) (.tup (.cons (.lit (.bl false)) .nil))) (.cons (.bin .Add (.bin .Mult (.tup (.cons (.lit (.int (0))) .nil)) (.lit (.int (23)))) (.tup (.cons (.lit .non) .nil))) .nil)))))))))) .omit))) (.seq (.asg (.nm 9) (.bin .Add (.var 9) (.il (.comp (.pcall 29 (.cons (.fn 20) (.cons (.il (.disp (.cons (.var 4) (.cons (.var 6) (.cons (.var 10) .nil))))) .nil))) [10] (.nm 10) (.val (.il (.disp (.cons (.lit .non) (.cons (.tup (.cons (.lit (.int (24))) .nil)) (.cons (.tup (.cons (.neg (.lit (.int (1)))) .nil)) (.cons (.tup (.cons (.lit (.int (0))) (.cons (.lit (.int (0))) .nil))) (.cons (.tup (.cons (.lit (.int (1))) (.cons (.lit (.int (0))) .nil))) (.cons (.tup (.cons (.lit (.bl true)) .nil)) (.cons (.tup (.cons (.lit .non) .nil)) .nil)))))))))) .omit)))) (.ret (.and_ (.cmp .Eq (.pcall 29 (.cons (.fn 17) (.cons (.il (.disp (.cons (.var 4) (.cons (.var 6) .nil)))) .nil))) (.var 7)) (.cmp .Eq (.var 9) (.bin .Mult (.il (.disp (.cons (.ife (.cmp .NotEq (.var 7) (.lit (.str (Str.ofString "")))) (.var 7) (.lit (.str (Str.ofString "paper form")))) .nil))) (.lit (.int (14))))))))))))))))))⟩
/-- law: script, state, turn -/
def i_law : Fd := ⟨1, 3, (.seq (.asg (.nm 1) (.call 22 (.cons (.var 0) .nil))) (.seq (.for_ (.nm 2) (.rng1 (.lit (.int (7)))) (.ife (.or_ (.not_ (.call 31 (.cons (.var 1) .nil))) (.not_ (.call 32 (.cons (.var 1) .nil)))) (.ret (.lit (.bl false))) .skip)) (.ret (.lit (.bl true)))))⟩
def mDs : List De := [⟨(Str.ofString "is_integer"), i_is_integer, [(Str.ofString "value")], false⟩,
  ⟨(Str.ofString "check_spans"), i_check_spans, [(Str.ofString "spans"), (Str.ofString "own")], false⟩,
  ⟨(Str.ofString "is_span"), i_is_span, [(Str.ofString "value"), (Str.ofString "own")], false⟩,
  ⟨(Str.ofString "check_whole"), i_check_whole, [(Str.ofString "begin"), (Str.ofString "end")], false⟩,
  ⟨(Str.ofString "gaps_in"), i_gaps_in, [(Str.ofString "spans"), (Str.ofString "begin"), (Str.ofString "end")], false⟩,
  ⟨(Str.ofString "holes"), i_holes, [(Str.ofString "spans"), (Str.ofString "begin"), (Str.ofString "end"), (Str.ofString "found"), (Str.ofString "hour"), (Str.ofString "first"), (Str.ofString "last"), (Str.ofString "own")], false⟩,
  ⟨(Str.ofString "judge_watch"), i_judge_watch, [(Str.ofString "spans"), (Str.ofString "begin"), (Str.ofString "end"), (Str.ofString "left")], false⟩,
  ⟨(Str.ofString "fewest_watches"), i_fewest_watches, [(Str.ofString "spans"), (Str.ofString "begin"), (Str.ofString "end"), (Str.ofString "found"), (Str.ofString "hour"), (Str.ofString "good"), (Str.ofString "at"), (Str.ofString "first"), (Str.ofString "last")], false⟩,
  ⟨(Str.ofString "accept_watches"), i_accept_watches, [(Str.ofString "spans"), (Str.ofString "begin"), (Str.ofString "end"), (Str.ofString "numbers"), (Str.ofString "many"), (Str.ofString "at")], false⟩,
  ⟨(Str.ofString "accept_hours"), i_accept_hours, [(Str.ofString "spans"), (Str.ofString "begin"), (Str.ofString "end"), (Str.ofString "hours"), (Str.ofString "many"), (Str.ofString "first"), (Str.ofString "last"), (Str.ofString "at"), (Str.ofString "own")], false⟩,
  ⟨(Str.ofString "check_rest"), i_check_rest, [(Str.ofString "rest")], false⟩,
  ⟨(Str.ofString "fewest_men"), i_fewest_men, [(Str.ofString "spans"), (Str.ofString "rest"), (Str.ofString "free"), (Str.ofString "men"), (Str.ofString "at"), (Str.ofString "good"), (Str.ofString "first"), (Str.ofString "last"), (Str.ofString "own"), (Str.ofString "man"), (Str.ofString "hour")], false⟩,
  ⟨(Str.ofString "accept_men"), i_accept_men, [(Str.ofString "spans"), (Str.ofString "rest"), (Str.ofString "men"), (Str.ofString "many"), (Str.ofString "at"), (Str.ofString "other"), (Str.ofString "first"), (Str.ofString "last"), (Str.ofString "begin"), (Str.ofString "end"), (Str.ofString "own")], false⟩,
  ⟨(Str.ofString "accept_crowd"), i_accept_crowd, [(Str.ofString "spans"), (Str.ofString "rest"), (Str.ofString "hour"), (Str.ofString "many"), (Str.ofString "first"), (Str.ofString "last")], false⟩,
  ⟨(Str.ofString "crowded_hour"), i_crowded_hour, [(Str.ofString "spans"), (Str.ofString "rest"), (Str.ofString "rows"), (Str.ofString "own"), (Str.ofString "end"), (Str.ofString "first"), (Str.ofString "last")], false⟩,
  ⟨(Str.ofString "check_men"), i_check_men, [(Str.ofString "men"), (Str.ofString "own")], false⟩,
  ⟨(Str.ofString "is_hours"), i_is_hours, [(Str.ofString "value"), (Str.ofString "at"), (Str.ofString "own")], false⟩,
  ⟨(Str.ofString "shared_day"), i_shared_day, [(Str.ofString "men"), (Str.ofString "most"), (Str.ofString "told"), (Str.ofString "hour"), (Str.ofString "come"), (Str.ofString "free"), (Str.ofString "man"), (Str.ofString "own"), (Str.ofString "ahead")], false⟩,
  ⟨(Str.ofString "way_more"), i_way_more, [(Str.ofString "men"), (Str.ofString "most"), (Str.ofString "told"), (Str.ofString "hour"), (Str.ofString "come"), (Str.ofString "queue"), (Str.ofString "man"), (Str.ofString "own"), (Str.ofString "giver"), (Str.ofString "other")], false⟩,
  ⟨(Str.ofString "come_hours"), i_come_hours, [(Str.ofString "told"), (Str.ofString "come"), (Str.ofString "hour")], false⟩,
  ⟨(Str.ofString "accept_short"), i_accept_short, [(Str.ofString "men"), (Str.ofString "most"), (Str.ofString "hours"), (Str.ofString "able"), (Str.ofString "man"), (Str.ofString "own")], false⟩,
  ⟨(Str.ofString "accept_day"), i_accept_day, [(Str.ofString "men"), (Str.ofString "most"), (Str.ofString "told"), (Str.ofString "man"), (Str.ofString "hour")], false⟩,
  ⟨(Str.ofString "_law_start"), i__law_start, [(Str.ofString "script"), (Str.ofString "seed"), (Str.ofString "cell")], false⟩,
  ⟨(Str.ofString "_law_draw"), i__law_draw, [(Str.ofString "state"), (Str.ofString "many"), (Str.ofString "taken")], false⟩,
  ⟨(Str.ofString "_law_pick"), i__law_pick, [(Str.ofString "state"), (Str.ofString "some")], false⟩,
  ⟨(Str.ofString "_law_word"), i__law_word, [(Str.ofString "error"), (Str.ofString "kinds")], true⟩,
  ⟨(Str.ofString "_law_asked"), i__law_asked, [(Str.ofString "way"), (Str.ofString "some"), (Str.ofString "error")], false⟩,
  ⟨(Str.ofString "_law_whole"), i__law_whole, [(Str.ofString "content"), (Str.ofString "low"), (Str.ofString "high")], false⟩,
  ⟨(Str.ofString "_law_bent"), i__law_bent, [(Str.ofString "state"), (Str.ofString "value"), (Str.ofString "at"), (Str.ofString "way")], false⟩,
  ⟨(Str.ofString "_law_told"), i__law_told, [(Str.ofString "way"), (Str.ofString "some"), (Str.ofString "told")], false⟩,
  ⟨(Str.ofString "_law_first"), i__law_first, [(Str.ofString "words"), (Str.ofString "found"), (Str.ofString "word")], false⟩,
  ⟨(Str.ofString "_law_watches_hold"), i__law_watches_hold, [(Str.ofString "state"), (Str.ofString "good"), (Str.ofString "odd"), (Str.ofString "spans"), (Str.ofString "right"), (Str.ofString "head"), (Str.ofString "words"), (Str.ofString "due"), (Str.ofString "papers"), (Str.ofString "begin"), (Str.ofString "end"), (Str.ofString "rest"), (Str.ofString "many"), (Str.ofString "low"), (Str.ofString "high"), (Str.ofString "own"), (Str.ofString "way"), (Str.ofString "row")], false⟩,
  ⟨(Str.ofString "_law_days_hold"), i__law_days_hold, [(Str.ofString "state"), (Str.ofString "whole"), (Str.ofString "good"), (Str.ofString "odd"), (Str.ofString "men"), (Str.ofString "right"), (Str.ofString "most"), (Str.ofString "due"), (Str.ofString "many"), (Str.ofString "papers"), (Str.ofString "own"), (Str.ofString "man"), (Str.ofString "k")], false⟩,
  ⟨(Str.ofString "law"), i_law, [(Str.ofString "script"), (Str.ofString "state"), (Str.ofString "turn")], false⟩]
def mCs : List Ce := [⟨(Str.ofString "SignalError"), (Str.ofString ""), false⟩, ⟨(Str.ofString "TextError"), (Str.ofString "at"), true⟩, ⟨(Str.ofString "StormError"), (Str.ofString "reason"), true⟩, ⟨(Str.ofString "ArgumentError"), (Str.ofString "reason"), true⟩, ⟨(Str.ofString "PaperError"), (Str.ofString "reason"), true⟩, ⟨(Str.ofString "TooMany"), (Str.ofString "reason"), true⟩]
def mGs : List (Str × GV) := [((Str.ofString "len"), .bi "len"),
  ((Str.ofString "all"), .bi "all"),
  ((Str.ofString "abs"), .bi "abs"),
  ((Str.ofString "max"), .bi "max"),
  ((Str.ofString "min"), .bi "min"),
  ((Str.ofString "sorted"), .bi "sorted"),
  ((Str.ofString "isinstance"), .bi "isinstance"),
  ((Str.ofString "tuple"), .ty "tuple"),
  ((Str.ofString "list"), .ty "list"),
  ((Str.ofString "int"), .ty "int"),
  ((Str.ofString "str"), .ty "str"),
  ((Str.ofString "bool"), .ty "bool"),
  ((Str.ofString "range"), .ty "range"),
  ((Str.ofString "enumerate"), .ty "enumerate"),
  ((Str.ofString "is_integer"), .fn 0),
  ((Str.ofString "check_spans"), .fn 1),
  ((Str.ofString "is_span"), .fn 2),
  ((Str.ofString "check_whole"), .fn 3),
  ((Str.ofString "gaps_in"), .fn 4),
  ((Str.ofString "holes"), .fn 5),
  ((Str.ofString "judge_watch"), .fn 6),
  ((Str.ofString "fewest_watches"), .fn 7),
  ((Str.ofString "accept_watches"), .fn 8),
  ((Str.ofString "accept_hours"), .fn 9),
  ((Str.ofString "check_rest"), .fn 10),
  ((Str.ofString "fewest_men"), .fn 11),
  ((Str.ofString "accept_men"), .fn 12),
  ((Str.ofString "accept_crowd"), .fn 13),
  ((Str.ofString "crowded_hour"), .fn 14),
  ((Str.ofString "check_men"), .fn 15),
  ((Str.ofString "is_hours"), .fn 16),
  ((Str.ofString "shared_day"), .fn 17),
  ((Str.ofString "way_more"), .fn 18),
  ((Str.ofString "come_hours"), .fn 19),
  ((Str.ofString "accept_short"), .fn 20),
  ((Str.ofString "accept_day"), .fn 21),
  ((Str.ofString "_law_start"), .fn 22),
  ((Str.ofString "_law_draw"), .fn 23),
  ((Str.ofString "_law_pick"), .fn 24),
  ((Str.ofString "_law_word"), .wd 25),
  ((Str.ofString "_law_asked"), .fn 26),
  ((Str.ofString "_law_whole"), .fn 27),
  ((Str.ofString "_law_bent"), .fn 28),
  ((Str.ofString "_law_told"), .fn 29),
  ((Str.ofString "_law_first"), .fn 30),
  ((Str.ofString "_law_watches_hold"), .fn 31),
  ((Str.ofString "_law_days_hold"), .fn 32),
  ((Str.ofString "law"), .fn 33),
  ((Str.ofString "MAX_HOURS"), .cst (.int (1000))),
  ((Str.ofString "MAX_ROWS"), .cst (.int (60))),
  ((Str.ofString "MAX_WATCH"), .cst (.int (12))),
  ((Str.ofString "SignalError"), .cls 0 false),
  ((Str.ofString "TextError"), .cls 1 true),
  ((Str.ofString "StormError"), .cls 2 true),
  ((Str.ofString "ArgumentError"), .cls 3 true),
  ((Str.ofString "PaperError"), .cls 4 true),
  ((Str.ofString "TooMany"), .cls 5 true)]
def mTb : List (List Nat) := [[0, 99], [1, 0, 99], [2, 0, 99], [3, 0, 99], [4, 0, 99], [5, 0, 99]]
def mM : Md := ⟨mDs, mCs, mGs, mTb⟩
def mLaw : Nat := 33
end Ci

set_option Elab.async false
set_option linter.all false
set_option maxRecDepth 100000
set_option maxHeartbeats 4000000
namespace Pl
open PySem Ci
/-! ### a kit for plain laws: the evaluator's steps as rules for simp; what follows a step has a name, so that simp does not look into it -/
section
variable {α β : Type}
@[simp ↓] theorem bindOk (a : α) (h : Hs) (f : α → Hs → R β) : (R.ok a h).bind f = f a h := rfl
@[simp ↓] theorem bindExc (c : Nat) (v : D) (h : Hs) (f : α → Hs → R β) : (R.exc c v h : R α).bind f = .exc c v h := rfl
@[simp ↓] theorem bindBad (f : α → Hs → R β) : (R.bad : R α).bind f = .bad := rfl
@[simp ↓] theorem stOk (a : α) (h : Hs) (S : Sl) (f : α → Hs → RS) : (R.ok a h).st S f = f a h := rfl
@[simp ↓] theorem stExc (c : Nat) (v : D) (h : Hs) (S : Sl) (f : α → Hs → RS) : (R.exc c v h : R α).st S f = .exc c v S h := rfl
@[simp ↓] theorem atNx (S : Sl) (h : Hs) (f : Sl → Hs → RS) : (RS.nx S h).andThen f = f S h := rfl
@[simp ↓] theorem atRt (d : D) (h : Hs) (f : Sl → Hs → RS) : (RS.rt d h).andThen f = .rt d h := rfl
@[simp ↓] theorem atExc (c : Nat) (v : D) (S : Sl) (h : Hs) (f : Sl → Hs → RS) : (RS.exc c v S h).andThen f = .exc c v S h := rfl
@[simp] theorem liftSome (a : α) (h : Hs) : liftO (some a) h = .ok a h := rfl
end
/-! what is read -/
theorem rdCl {h : Hs} {d : D} (c : d.clear = true) : rd h d = d := by
  cases d <;> first | rfl | (simp [D.clear] at c)
@[simp] theorem rdInt (h : Hs) (i : Int) : rd h (.int i) = .int i := rfl
@[simp] theorem rdNon (h : Hs) : rd h .non = .non := rfl
@[simp] theorem rdBl (h : Hs) (b : Bool) : rd h (.bl b) = .bl b := rfl
@[simp] theorem rdStr (h : Hs) (b : Str) : rd h (.str b) = .str b := rfl
@[simp] theorem rdTup (h : Hs) (b : List D) : rd h (.tup b) = .tup b := rfl
@[simp] theorem rdLst (h : Hs) (b : List D) : rd h (.lst b) = .lst b := rfl
@[simp] theorem rdScr (h : Hs) (b : List D) : rd h (.scr b) = .scr b := rfl
@[simp] theorem rdFn (h : Hs) (b : Nat) : rd h (.fn b) = .fn b := rfl
@[simp] theorem rdRef (xs : List D) (r : Hs) : rd (.lst xs :: r) (.ref 0) = .lst xs := rfl
theorem callS (sub : Nat → Nat → Bool) (P : Nat → Option Fd) (k f : Nat) (ds : List D) (h : Hs) (fd : Fd) (e : P f = some fd) : callF sub P (k + 1) f ds h = callB sub (callF sub P k) fd ds h := by
  simp only [callF, e]
theorem okLt {n : Nat} (h : n ≤ 100000) : okL n = true := decide_eq_true (by unfold sizeLine; omega)
@[simp] theorem okC (n : Nat) : okL n = decide (n ≤ 16777216) := rfl
/-- o[k] = v -/
def setO (S : Sl) (o k v : D) (h3 : Hs) : RS := match o, k with
    | .ref n, .int k => match h3[n]? with
      | some (.lst xs) => match setD xs k v with
        | some ys => .nx S (h3.set n (.lst ys))
        | none => .bad
      | some (.dct kvs) => if kvs.length < sizeLine then .nx S (h3.set n (.dct (dput kvs (.inl k) v))) else .bad
      | _ => .bad
    | _, _ => .bad
def cond1 {α : Type} (a b : R α) : Bool → R α
  | true => a
  | false => b
section
variable {sub : Nat → Nat → Bool} {call : Nat → List D → Hs → R D} {S : Sl} {h h1 h2 h3 : Hs} {x y z d : D} {i j : Int} {a b c e : E} {es : Es} {op : Operator} {o o2 : CmpOp} {xs ys : List D}
def gVar : Option (Option D) → Hs → R D
  | some (some d), h => .ok d h
  | _, _ => .bad
@[simp] theorem gVar1 : gVar (some (some d)) h = .ok d h := rfl
@[simp] theorem evVar {i} : ev sub call (.var i) S h = gVar S[i]? h := by
  show (match S[i]? with
    | some (some d) => (.ok d h : R D)
    | _ => .bad) = _
  cases S[i]? with
  | none => rfl
  | some o => cases o <;> rfl
@[simp] theorem evLit : ev sub call (.lit d) S h = .ok d h := rfl
@[simp] theorem evGlb {g} : ev sub call (.glb g d) S h = .ok d h := rfl
@[simp] theorem evFn {i} : ev sub call (.fn i) S h = .ok (.fn i) h := rfl
def kBin2 (op : Operator) (x y : D) (h2 : Hs) : R D := liftO (binD op (rd h2 x) (rd h2 y)) h2
def kBin (sub : Nat → Nat → Bool) (call : Nat → List D → Hs → R D) (op : Operator) (b : E) (S : Sl) (x : D) (h1 : Hs) : R D := (ev sub call b S h1).bind (kBin2 op x)
@[simp] theorem evBin : ev sub call (.bin op a b) S h = (ev sub call a S h).bind (kBin sub call op b S) := rfl
@[simp] theorem kBin_ : kBin sub call op b S x h1 = (ev sub call b S h1).bind (kBin2 op x) := rfl
@[simp] theorem kBin2_ : kBin2 op x y h2 = liftO (binD op (rd h2 x) (rd h2 y)) h2 := rfl
def kNeg (x : D) (h1 : Hs) : R D := match x with
    | .int i => .ok (.int (-i)) h1
    | _ => .bad
@[simp] theorem evNeg : ev sub call (.neg a) S h = (ev sub call a S h).bind kNeg := rfl
@[simp] theorem kNeg_ : kNeg (.int i) h = .ok (.int (-i)) h := rfl
def notO : Option Bool → Option D
  | some b => some (.bl (!b))
  | none => none
@[simp] theorem notO_ {b} : notO (some b) = some (.bl (!b)) := rfl
def kNot (x : D) (h1 : Hs) : R D := liftO (notO (truD (rd h1 x))) h1
theorem notE (o : Option Bool) : (o.map fun b => D.bl (!b)) = notO o := by cases o <;> rfl
@[simp] theorem evNot : ev sub call (.not_ a) S h = (ev sub call a S h).bind kNot := by
  show (ev sub call a S h).bind _ = _
  congr 1
  funext x h1
  exact congrArg (liftO · h1) (notE _)
@[simp] theorem kNot_ : kNot x h1 = liftO (notO (truD (rd h1 x))) h1 := rfl
def kAnd2 (sub : Nat → Nat → Bool) (call : Nat → List D → Hs → R D) (b : E) (S : Sl) (x : D) (h1 : Hs) : Option Bool → R D
  | some true => ev sub call b S h1
  | some false => .ok x h1
  | none => .bad
@[simp] theorem kAnd2t : kAnd2 sub call b S x h1 (some true) = ev sub call b S h1 := rfl
@[simp] theorem kAnd2f : kAnd2 sub call b S x h1 (some false) = .ok x h1 := rfl
def kAnd (sub : Nat → Nat → Bool) (call : Nat → List D → Hs → R D) (b : E) (S : Sl) (x : D) (h1 : Hs) : R D := kAnd2 sub call b S x h1 (truD (rd h1 x))
@[simp] theorem kAnd_ : kAnd sub call b S x h1 = kAnd2 sub call b S x h1 (truD (rd h1 x)) := rfl
@[simp] theorem evAnd : ev sub call (.and_ a b) S h = (ev sub call a S h).bind (kAnd sub call b S) := by
  rfl
def kOr2 (sub : Nat → Nat → Bool) (call : Nat → List D → Hs → R D) (b : E) (S : Sl) (x : D) (h1 : Hs) : Option Bool → R D
  | some true => .ok x h1
  | some false => ev sub call b S h1
  | none => .bad
@[simp] theorem kOr2t : kOr2 sub call b S x h1 (some true) = .ok x h1 := rfl
@[simp] theorem kOr2f : kOr2 sub call b S x h1 (some false) = ev sub call b S h1 := rfl
def kOr (sub : Nat → Nat → Bool) (call : Nat → List D → Hs → R D) (b : E) (S : Sl) (x : D) (h1 : Hs) : R D := kOr2 sub call b S x h1 (truD (rd h1 x))
@[simp] theorem kOr_ : kOr sub call b S x h1 = kOr2 sub call b S x h1 (truD (rd h1 x)) := rfl
@[simp] theorem evOr : ev sub call (.or_ a b) S h = (ev sub call a S h).bind (kOr sub call b S) := by
  rfl
def kIfe (sub : Nat → Nat → Bool) (call : Nat → List D → Hs → R D) (a b : E) (S : Sl) : Bool → Hs → R D
  | true, h1 => ev sub call a S h1
  | false, h1 => ev sub call b S h1
@[simp] theorem evIfe : ev sub call (.ife c a b) S h = (tru (ev sub call c S h)).bind (kIfe sub call a b S) := by
  show (tru (ev sub call c S h)).bind _ = _
  congr 1
  funext k h1
  cases k <;> rfl
@[simp] theorem kIfet : kIfe sub call a b S true h = ev sub call a S h := rfl
@[simp] theorem kIfef : kIfe sub call a b S false h = ev sub call b S h := rfl
def blO : Option Bool → Option D
  | some b => some (.bl b)
  | none => none
@[simp] theorem blO_ {b} : blO (some b) = some (.bl b) := rfl
theorem blE (o : Option Bool) : o.map D.bl = blO o := by cases o <;> rfl
def kCmp2 (o : CmpOp) (x y : D) (h2 : Hs) : R D := liftO (blO (cmpH h2 o x y)) h2
def kCmpD2 (o : CmpOp) (x y : D) (h2 : Hs) : R D := liftO (blO (cmpD o (rd h2 x) (rd h2 y))) h2
@[simp] theorem kCmpD2_ : kCmpD2 o x y h2 = liftO (blO (cmpD o (rd h2 x) (rd h2 y))) h2 := rfl
def kCmp (sub : Nat → Nat → Bool) (call : Nat → List D → Hs → R D) (o : CmpOp) (b : E) (S : Sl) (x : D) (h1 : Hs) : R D := (ev sub call b S h1).bind (kCmp2 o x)
@[simp] theorem kCmp2_ : kCmp2 o x y h2 = liftO (blO (cmpH h2 o x y)) h2 := rfl
@[simp] theorem kCmp_ : kCmp sub call o b S x h1 = (ev sub call b S h1).bind (kCmp2 o x) := rfl
@[simp] theorem evCmp : ev sub call (.cmp o a b) S h = (ev sub call a S h).bind (kCmp sub call o b S) := by
  show (ev sub call a S h).bind _ = _
  congr 1
  funext x h1
  show (ev sub call b S h1).bind _ = (ev sub call b S h1).bind _
  congr 1
  funext y h2
  exact congrArg (liftO · h2) (blE _)
def kC22 (sub : Nat → Nat → Bool) (call : Nat → List D → Hs → R D) (p : CmpOp) (c : E) (S : Sl) (y : D) (h2 : Hs) : Option Bool → R D
  | some true => (ev sub call c S h2).bind (kCmpD2 p y)
  | some false => .ok (.bl false) h2
  | none => .bad
@[simp] theorem kC22t {p} : kC22 sub call p c S y h2 (some true) = (ev sub call c S h2).bind (kCmpD2 p y) := rfl
@[simp] theorem kC22f {p} : kC22 sub call p c S y h2 (some false) = .ok (.bl false) h2 := rfl
def kC21 (sub : Nat → Nat → Bool) (call : Nat → List D → Hs → R D) (o p : CmpOp) (c : E) (S : Sl) (x y : D) (h2 : Hs) : R D := kC22 sub call p c S y h2 (cmpD o (rd h2 x) (rd h2 y))
@[simp] theorem kC21_ {p} : kC21 sub call o p c S x y h2 = kC22 sub call p c S y h2 (cmpD o (rd h2 x) (rd h2 y)) := rfl
def kC20 (sub : Nat → Nat → Bool) (call : Nat → List D → Hs → R D) (o p : CmpOp) (b c : E) (S : Sl) (x : D) (h1 : Hs) : R D := (ev sub call b S h1).bind (kC21 sub call o p c S x)
@[simp] theorem kC20_ {p} : kC20 sub call o p b c S x h1 = (ev sub call b S h1).bind (kC21 sub call o p c S x) := rfl
@[simp] theorem evCmp2 {p} : ev sub call (.cmp2 o p a b c) S h = (ev sub call a S h).bind (kC20 sub call o p b c S) := by
  show (ev sub call a S h).bind _ = _
  congr 1
  funext x h1
  show (ev sub call b S h1).bind _ = (ev sub call b S h1).bind _
  congr 1
  funext y h2
  show _ = kC22 sub call p c S y h2 _
  cases cmpD o (rd h2 x) (rd h2 y) with
  | none => rfl
  | some t => cases t with
    | false => rfl
    | true =>
      show (ev sub call c S h2).bind _ = (ev sub call c S h2).bind _
      congr 1
      funext z h3
      exact congrArg (liftO · h3) (blE _)
def kIsN (x : D) (h1 : Hs) : R D := .ok (.bl (isNonD x)) h1
@[simp] theorem kIsN_ : kIsN x h1 = .ok (.bl (isNonD x)) h1 := rfl
@[simp] theorem evIsN : ev sub call (.isN a) S h = (ev sub call a S h).bind kIsN := rfl
def kNoN (x : D) (h1 : Hs) : R D := .ok (.bl (!isNonD x)) h1
@[simp] theorem kNoN_ : kNoN x h1 = .ok (.bl (!isNonD x)) h1 := rfl
@[simp] theorem evNoN : ev sub call (.noN a) S h = (ev sub call a S h).bind kNoN := rfl
@[simp] theorem isNn : isNonD .non = true := rfl
@[simp] theorem isNi : isNonD (.int i) = false := rfl
@[simp] theorem isNb {b} : isNonD (.bl b) = false := rfl
@[simp] theorem isNs {b} : isNonD (.str b) = false := rfl
@[simp] theorem isNt : isNonD (.tup xs) = false := rfl
@[simp] theorem isNl : isNonD (.lst xs) = false := rfl
def kTup (xs : List D) (h1 : Hs) : R D := if okL xs.length then .ok (.tup xs) h1 else .bad
@[simp] theorem kTup_ : kTup xs h1 = if okL xs.length then .ok (.tup xs) h1 else .bad := rfl
@[simp] theorem evTup : ev sub call (.tup es) S h = (evs sub call es S h).bind kTup := rfl
def kIl (xs : List D) (h1 : Hs) : R D := .ok (.lst xs) h1
@[simp] theorem kIl_ : kIl xs h1 = .ok (.lst xs) h1 := rfl
@[simp] theorem evIl {l} : ev sub call (.il l) S h = (evL sub call l S h).bind kIl := rfl
def kMl (xs : List D) (h1 : Hs) : R D := .ok (.ref h1.length) (h1 ++ [.lst xs])
@[simp] theorem kMl_ : kMl xs h1 = .ok (.ref h1.length) (h1 ++ [.lst xs]) := rfl
@[simp] theorem evMl {l} : ev sub call (.ml l) S h = (evL sub call l S h).bind kMl := rfl
def kIx2 (x y : D) (h2 : Hs) : R D := liftO (ixH h2 x y) h2
@[simp] theorem kIx2_ : kIx2 x y h2 = liftO (ixH h2 x y) h2 := rfl
def kIx (sub : Nat → Nat → Bool) (call : Nat → List D → Hs → R D) (b : E) (S : Sl) (x : D) (h1 : Hs) : R D := (ev sub call b S h1).bind (kIx2 x)
@[simp] theorem kIx_ : kIx sub call b S x h1 = (ev sub call b S h1).bind (kIx2 x) := rfl
@[simp] theorem evIx : ev sub call (.ix a b) S h = (ev sub call a S h).bind (kIx sub call b S) := rfl
def kOpt (x : D) (h : Hs) : R (Option Int) := match x with
  | .int i => .ok (some i) h
  | _ => .bad
@[simp] theorem kOpt_ : kOpt (.int i) h = .ok (some i) h := rfl
def opE (sub : Nat → Nat → Bool) (call : Nat → List D → Hs → R D) (e : E) (S : Sl) (h : Hs) : R (Option Int) := if e.isOmit then .ok none h else (ev sub call e S h).bind kOpt
@[simp] theorem opE_ : opE sub call e S h = if e.isOmit then .ok none h else (ev sub call e S h).bind kOpt := rfl
def kSl3 (x : D) (i : Option Int) (j : Option Int) (h3 : Hs) : R D := liftO (slD (rd h3 x) i j) h3
@[simp] theorem kSl3_ {i j} : kSl3 x i j h = liftO (slD (rd h x) i j) h := rfl
def kSl2 (sub : Nat → Nat → Bool) (call : Nat → List D → Hs → R D) (hi : E) (S : Sl) (x : D) (i : Option Int) (h2 : Hs) : R D := (opE sub call hi S h2).bind (kSl3 x i)
@[simp] theorem kSl2_ {hi i} : kSl2 sub call hi S x i h = (opE sub call hi S h).bind (kSl3 x i) := rfl
def kSl (sub : Nat → Nat → Bool) (call : Nat → List D → Hs → R D) (lo hi : E) (S : Sl) (x : D) (h1 : Hs) : R D := (opE sub call lo S h1).bind (kSl2 sub call hi S x)
@[simp] theorem kSl_ {lo hi} : kSl sub call lo hi S x h = (opE sub call lo S h).bind (kSl2 sub call hi S x) := rfl
@[simp] theorem evSl {lo hi} : ev sub call (.sl a lo hi) S h = (ev sub call a S h).bind (kSl sub call lo hi S) := rfl
@[simp] theorem evCall {f} : ev sub call (.call f es) S h = (evs sub call es S h).bind (call f) := rfl
def kPc (call : Nat → List D → Hs → R D) (f : Nat) (xs : List D) (h : Hs) : R D := pcallF call f xs h
@[simp] theorem kPc_ {f} : kPc call f xs h = pcallF call f xs h := rfl
@[simp] theorem evPc {f} : ev sub call (.pcall f es) S h = (evs sub call es S h).bind (kPc call f) := rfl
def gPv (sub : Nat → Nat → Bool) (call : Nat → List D → Hs → R D) (es : Es) (S : Sl) (h : Hs) : Option (Option D) → R D
  | some (some (.fn f)) => (evs sub call es S h).bind (kPc call f)
  | _ => .bad
@[simp] theorem gPv_ {f} : gPv sub call es S h (some (some (.fn f))) = (evs sub call es S h).bind (kPc call f) := rfl
@[simp] theorem evPv {i} : ev sub call (.pvcall i es) S h = gPv sub call es S h S[i]? := rfl
def kIsI (t : Ty) (x : D) (h1 : Hs) : R D := liftO (blO (isiD (rd h1 x) t)) h1
@[simp] theorem kIsI_ {t} : kIsI t x h1 = liftO (blO (isiD (rd h1 x) t)) h1 := rfl
@[simp] theorem evIsI {t} : ev sub call (.isI a t) S h = (ev sub call a S h).bind (kIsI t) := by
  show (ev sub call a S h).bind _ = _
  congr 1
  funext x h1
  exact congrArg (liftO · h1) (blE _)
def kIsC (sub : Nat → Nat → Bool) (c : Nat) (x : D) (h1 : Hs) : R D := match x with
    | .exc e _ => .ok (.bl (sub e c)) h1
    | _ => .bad
@[simp] theorem kIsC_ {c e} : kIsC sub c (.exc e x) h = .ok (.bl (sub e c)) h := rfl
@[simp] theorem evIsC {c} : ev sub call (.isC a c) S h = (ev sub call a S h).bind (kIsC sub c) := rfl
def kBlt (b : Bl) (xs : List D) (h1 : Hs) : R D := liftO (bltH h1 b xs) h1
@[simp] theorem kBlt_ {b} : kBlt b xs h1 = liftO (bltH h1 b xs) h1 := rfl
@[simp] theorem evBlt {b} : ev sub call (.blt b es) S h = (evs sub call es S h).bind (kBlt b) := rfl
def kMe3 (sub : Nat → Nat → Bool) (call : Nat → List D → Hs → R D) (m : Me) (es : Es) (S : Sl) (x : D) (h1 : Hs) : Bool → R D
  | true => (evs sub call es S h1).bind (methD m x)
  | false => .bad
@[simp] theorem kMe3_ {m} : kMe3 sub call m es S x h1 true = (evs sub call es S h1).bind (methD m x) := rfl
def kMe (sub : Nat → Nat → Bool) (call : Nat → List D → Hs → R D) (m : Me) (es : Es) (S : Sl) (x : D) (h1 : Hs) : R D := kMe3 sub call m es S x h1 (isLst h1 x)
@[simp] theorem kMe_ {m} : kMe sub call m es S x h1 = kMe3 sub call m es S x h1 (isLst h1 x) := rfl
@[simp] theorem isL1 : isLst h (.lst xs) = true := rfl
@[simp] theorem isL2 {r : Hs} : isLst (.lst xs :: r) (.ref 0) = true := rfl
@[simp] theorem evMe {m} : ev sub call (.meth m a es) S h = (ev sub call a S h).bind (kMe sub call m es S) := by
  show (ev sub call a S h).bind _ = _
  congr 1
  funext x h1
  show _ = kMe3 sub call m es S x h1 (isLst h1 x)
  cases isLst h1 x <;> rfl
@[simp] theorem evsNil : evs sub call .nil S h = .ok [] h := rfl
def kEs2 (x : D) (xs : List D) (h2 : Hs) : R (List D) := .ok (x :: xs) h2
@[simp] theorem kEs2_ : kEs2 x xs h2 = .ok (x :: xs) h2 := rfl
def kEs (sub : Nat → Nat → Bool) (call : Nat → List D → Hs → R D) (es : Es) (S : Sl) (x : D) (h1 : Hs) : R (List D) := (evs sub call es S h1).bind (kEs2 x)
@[simp] theorem kEs_ : kEs sub call es S x h1 = (evs sub call es S h1).bind (kEs2 x) := rfl
@[simp] theorem evsCons : evs sub call (.cons e es) S h = (ev sub call e S h).bind (kEs sub call es S) := rfl
def kDisp (xs : List D) (h1 : Hs) : R (List D) := if okL xs.length then .ok xs h1 else .bad
@[simp] theorem kDisp_ : kDisp xs h1 = if okL xs.length then .ok xs h1 else .bad := rfl
@[simp] theorem evDisp : evL sub call (.disp es) S h = (evs sub call es S h).bind kDisp := rfl
/-! walks -/
/-- a walk's turn -/
def turnF (sub : Nat → Nat → Bool) (call : Nat → List D → Hs → R D) (t : Tg) (s : St) : D → Sl → Hs → RS := fun x S h => match put S x t with
  | some S' => ex sub call s S' h
  | none => .bad
def putK (sub : Nat → Nat → Bool) (call : Nat → List D → Hs → R D) (s : St) (h : Hs) : Option Sl → RS
  | some S' => ex sub call s S' h
  | none => .bad
@[simp] theorem putK_ {s S'} : putK sub call s h (some S') = ex sub call s S' h := rfl
theorem turnF_ {t s} : turnF sub call t s x S h = putK sub call s h (put S x t) := by
  unfold turnF
  cases put S x t <;> rfl
def kCt2 (y : D) (h4 : Hs) : R (Option D) := .ok (some y) h4
@[simp] theorem kCt2_ : kCt2 y h = .ok (some y) h := rfl
def kCt (sub : Nat → Nat → Bool) (call : Nat → List D → Hs → R D) (elt : E) (S2 : Sl) : Bool → Hs → R (Option D)
  | true, h3 => (ev sub call elt S2 h3).bind kCt2
  | false, h3 => .ok none h3
@[simp] theorem kCtt {elt S2} : kCt sub call elt S2 true h3 = (ev sub call elt S2 h3).bind kCt2 := rfl
@[simp] theorem kCtf {elt S2} : kCt sub call elt S2 false h3 = .ok none h3 := rfl
def cdE (sub : Nat → Nat → Bool) (call : Nat → List D → Hs → R D) (cond : E) (S2 : Sl) (h2 : Hs) : R Bool := if cond.isOmit then (.ok true h2 : R Bool) else tru (ev sub call cond S2 h2)
@[simp] theorem cdE_ {S2} : cdE sub call c S2 h2 = if c.isOmit then (.ok true h2 : R Bool) else tru (ev sub call c S2 h2) := rfl
def putC (sub : Nat → Nat → Bool) (call : Nat → List D → Hs → R D) (elt cond : E) (h2 : Hs) : Option Sl → R (Option D)
  | some S2 => noX ((cdE sub call cond S2 h2).bind (kCt sub call elt S2))
  | none => .bad
@[simp] theorem putC_ {elt S2} : putC sub call elt c h2 (some S2) = noX ((cdE sub call c S2 h2).bind (kCt sub call elt S2)) := rfl
/-- a comprehension's turn -/
def turnC (sub : Nat → Nat → Bool) (call : Nat → List D → Hs → R D) (elt : E) (own : List Nat) (tg : Tg) (cond : E) (S : Sl) (x : D) (h2 : Hs) : R (Option D) := putC sub call elt cond h2 (put (wipe S own) x tg)
theorem turnC_ {elt own tg} : turnC sub call elt own tg c S x h2 = putC sub call elt c h2 (put (wipe S own) x tg) := rfl
@[simp] theorem noXOk {α : Type} {a : α} : noX (R.ok a h) = .ok a h := rfl
@[simp] theorem compNil {t} : compF t [] h = .ok [] h := rfl
def kTn2 (o : Option D) (ys : List D) (h2 : Hs) : R (List D) := match o with
    | some y => .ok (y :: ys) h2
    | none => .ok ys h2
@[simp] theorem kTn2s : kTn2 (some y) ys h = .ok (y :: ys) h := rfl
@[simp] theorem kTn2n : kTn2 none ys h = .ok ys h := rfl
def kTn (t : D → Hs → R (Option D)) (xs : List D) (o : Option D) (h1 : Hs) : R (List D) := (compF t xs h1).bind (kTn2 o)
@[simp] theorem kTn_ {t o} : kTn t xs o h1 = (compF t xs h1).bind (kTn2 o) := rfl
@[simp] theorem compCons {t} : compF t (x :: xs) h = (t x h).bind (kTn t xs) := rfl
def kComp (t : D → Hs → R (Option D)) (src : Src) (h1 : Hs) : R (List D) := match src with
    | .fix xs => if okL xs.length then compF t xs h1 else .bad
    | .dyn n => compG t (.dyn n) wfuel 0 h1
@[simp] theorem kCompF {t} : kComp t (.fix xs) h = if okL xs.length then compF t xs h else .bad := rfl
@[simp] theorem evComp {elt own tg it} : evL sub call (.comp elt own tg it c) S h = (evI sub call it S h).bind (kComp (turnC sub call elt own tg c S)) := by
  show (evI sub call it S h).bind _ = _
  congr 1
  funext src h1
  have e : turnC sub call elt own tg c S = fun x h2 => match put (wipe S own) x tg with
      | some S2 => noX ((if c.isOmit then (.ok true h2 : R Bool) else tru (ev sub call c S2 h2)).bind fun k h3 => if k then (ev sub call elt S2 h3).bind fun y h4 => .ok (some y) h4 else .ok none h3)
      | none => .bad := by
    funext x h2
    unfold turnC
    cases put (wipe S own) x tg with
    | none => rfl
    | some S2 =>
      show noX _ = noX _
      congr 2
      funext k h3
      cases k <;> rfl
  cases src <;> simp only [kComp, e] <;> rfl
def srcO (h1 : Hs) : Option (List D) → R Src
  | some xs => .ok (.fix xs) h1
  | none => .bad
@[simp] theorem srcO_ : srcO h (some xs) = .ok (.fix xs) h := rfl
theorem srcE (o : Option (List D)) : liftO (o.map Src.fix) h = srcO h o := by cases o <;> rfl
def kVal (x : D) (h1 : Hs) : R Src := match x with
    | .ref n => if srcOk (.dyn n) h1 then .ok (.dyn n) h1 else .bad
    | .scr xs => .ok (.fix xs) h1
    | .str _ => .bad
    | d => liftO ((seqD d).map .fix) h1
@[simp] theorem kValT : kVal (.tup xs) h = .ok (.fix xs) h := rfl
@[simp] theorem kValL : kVal (.lst xs) h = .ok (.fix xs) h := rfl
@[simp] theorem kValS : kVal (.scr xs) h = .ok (.fix xs) h := rfl
@[simp] theorem kValR {n} : kVal (.ref n) h = if srcOk (.dyn n) h then .ok (.dyn n) h else .bad := rfl
@[simp] theorem evIVal : evI sub call (.val e) S h = (ev sub call e S h).bind kVal := rfl
def kRg (x : D) (h1 : Hs) : R Src := match x with
    | .int j => srcO h1 (rangeD 0 j)
    | _ => .bad
@[simp] theorem kRg_ : kRg (.int j) h = srcO h (rangeD 0 j) := rfl
@[simp] theorem evIRng : evI sub call (.rng1 a) S h = (ev sub call a S h).bind kRg := by
  show (ev sub call a S h).bind _ = _
  congr 1
  funext x h1
  cases x <;> first | rfl | exact srcE _
def kRg3 (x y : D) (h2 : Hs) : R Src := match x, y with
    | .int i, .int j => srcO h2 (rangeD i j)
    | _, _ => .bad
@[simp] theorem kRg3_ : kRg3 (.int i) (.int j) h = srcO h (rangeD i j) := rfl
def kRg2 (sub : Nat → Nat → Bool) (call : Nat → List D → Hs → R D) (b : E) (S : Sl) (x : D) (h1 : Hs) : R Src := (ev sub call b S h1).bind (kRg3 x)
@[simp] theorem kRg2_ : kRg2 sub call b S x h1 = (ev sub call b S h1).bind (kRg3 x) := rfl
@[simp] theorem evIRng2 : evI sub call (.rng2 a b) S h = (ev sub call a S h).bind (kRg2 sub call b S) := by
  show (ev sub call a S h).bind _ = _
  congr 1
  funext x h1
  show (ev sub call b S h1).bind _ = (ev sub call b S h1).bind _
  congr 1
  funext y h2
  cases x <;> cases y <;> first | rfl | exact srcE _
def kEnu (x : D) (h1 : Hs) : R Src := match x with
    | .lst xs => .ok (.fix (enumD 0 xs)) h1
    | .tup xs => .ok (.fix (enumD 0 xs)) h1
    | _ => .bad
@[simp] theorem kEnuL : kEnu (.lst xs) h = .ok (.fix (enumD 0 xs)) h := rfl
@[simp] theorem kEnuT : kEnu (.tup xs) h = .ok (.fix (enumD 0 xs)) h := rfl
@[simp] theorem evIEnum : evI sub call (.enum a) S h = (ev sub call a S h).bind kEnu := rfl
def kZp2 (x y : D) (h2 : Hs) : R Src := match x, y with
    | .lst xs, .lst ys => .ok (.fix (zipD xs ys)) h2
    | .tup xs, .tup ys => .ok (.fix (zipD xs ys)) h2
    | _, _ => .bad
@[simp] theorem kZp2L : kZp2 (.lst xs) (.lst ys) h = .ok (.fix (zipD xs ys)) h := rfl
@[simp] theorem kZp2T : kZp2 (.tup xs) (.tup ys) h = .ok (.fix (zipD xs ys)) h := rfl
def kZp (sub : Nat → Nat → Bool) (call : Nat → List D → Hs → R D) (b : E) (S : Sl) (x : D) (h1 : Hs) : R Src := (ev sub call b S h1).bind (kZp2 x)
@[simp] theorem kZp_ : kZp sub call b S x h1 = (ev sub call b S h1).bind (kZp2 x) := rfl
@[simp] theorem evIZip : evI sub call (.zip2 a b) S h = (ev sub call a S h).bind (kZp sub call b S) := rfl
def kTru (x : D) (h : Hs) : R Bool := liftO (truD (rd h x)) h
@[simp] theorem truOk {d : D} : tru (.ok d h) = liftO (truD (rd h d)) h := rfl
@[simp] theorem truExc {c} {d : D} : tru (.exc c d h) = .exc c d h := rfl
/-! dicts -/
/-- a dict comprehension's turn -/
def turnD (sub : Nat → Nat → Bool) (call : Nat → List D → Hs → R D) (k v : E) (own : List Nat) (tg : Tg) (cond : E) (S : Sl) : D → Hs → R (Option (Ky × D)) := fun x h2 => match put (wipe S own) x tg with
      | some S2 => noX ((if cond.isOmit then (.ok true h2 : R Bool) else tru (ev sub call cond S2 h2)).bind fun c h3 => if c then (ev sub call k S2 h3).bind fun y h4 => (ev sub call v S2 h4).bind fun z h5 => kvO y z h5 else .ok none h3)
      | none => .bad
def kDm (ps : List (Ky × D)) (h2 : Hs) : R D := .ok (.ref h2.length) (h2 ++ [.dct (dputs [] ps)])
@[simp] theorem kDm_ {ps} : kDm ps h2 = .ok (.ref h2.length) (h2 ++ [.dct (dputs [] ps)]) := rfl
def kDc (t : D → Hs → R (Option (Ky × D))) (src : Src) (h1 : Hs) : R D := (compP t src wfuel 0 h1).bind kDm
@[simp] theorem kDc_ {t src} : kDc t src h = (compP t src wfuel 0 h).bind kDm := rfl
@[simp] theorem evDc {k v own tg it} : ev sub call (.dc k v own tg it c) S h = (evI sub call it S h).bind (kDc (turnD sub call k v own tg c S)) := rfl
def rlA (sub : Nat → Nat → Bool) (call : Nat → List D → Hs → R D) (a : E) (S : Sl) (h : Hs) : R D := if a.isOmit then (.ok (.int 0) h : R D) else ev sub call a S h
@[simp] theorem rlA_ : rlA sub call a S h = if a.isOmit then (.ok (.int 0) h : R D) else ev sub call a S h := rfl
def kRl2 (t : Bool) (x y : D) (h2 : Hs) : R D := liftO (rlistD t x y) h2
@[simp] theorem kRl2_ {t} : kRl2 t x y h2 = liftO (rlistD t x y) h2 := rfl
def kRl (sub : Nat → Nat → Bool) (call : Nat → List D → Hs → R D) (t : Bool) (b : E) (S : Sl) (x : D) (h1 : Hs) : R D := (ev sub call b S h1).bind (kRl2 t x)
@[simp] theorem kRl_ {t} : kRl sub call t b S x h = (ev sub call b S h).bind (kRl2 t x) := rfl
@[simp] theorem evRl {t} : ev sub call (.rlist t a b) S h = (rlA sub call a S h).bind (kRl sub call t b S) := rfl
/-! statements -/
def kAsg (S : Sl) (t : Tg) (x : D) (h1 : Hs) : RS := match put S x t with
    | some S' => .nx S' h1
    | none => .bad
def nxO (h1 : Hs) : Option Sl → RS
  | some S' => .nx S' h1
  | none => .bad
@[simp] theorem nxO_ {S'} : nxO h (some S') = .nx S' h := rfl
@[simp] theorem kAsg_ {t} : kAsg S t x h1 = nxO h1 (put S x t) := by
  unfold kAsg
  cases put S x t <;> rfl
@[simp] theorem exAsg {t} : ex sub call (.asg t e) S h = (ev sub call e S h).st S (kAsg S t) := rfl
def kSet3 (S : Sl) (v o k : D) (h3 : Hs) : RS := setO S o k v h3
@[simp] theorem kSet3_ : kSet3 S x y z h = setO S y z x h := rfl
def kSet2 (sub : Nat → Nat → Bool) (call : Nat → List D → Hs → R D) (i : E) (S : Sl) (v o : D) (h2 : Hs) : RS := (ev sub call i S h2).st S (kSet3 S v o)
@[simp] theorem kSet2_ : kSet2 sub call e S x y h = (ev sub call e S h).st S (kSet3 S x y) := rfl
def kSet (sub : Nat → Nat → Bool) (call : Nat → List D → Hs → R D) (a i : E) (S : Sl) (v : D) (h1 : Hs) : RS := (ev sub call a S h1).st S (kSet2 sub call i S v)
@[simp] theorem kSet_ : kSet sub call a b S x h = (ev sub call a S h).st S (kSet2 sub call b S x) := rfl
@[simp] theorem exSet : ex sub call (.set a b e) S h = (ev sub call e S h).st S (kSet sub call a b S) := rfl
theorem setRef {r : Hs} (e : setD xs i x = some ys) : setO S (.ref 0) (.int i) x (.lst xs :: r) = .nx S (.lst ys :: r) := by
  simp only [setO, List.getElem?_cons_zero, e, List.set_cons_zero]
def kEx (S : Sl) (_ : D) (h1 : Hs) : RS := .nx S h1
@[simp] theorem kEx_ : kEx S x h = .nx S h := rfl
@[simp] theorem exEx : ex sub call (.ex e) S h = (ev sub call e S h).st S (kEx S) := rfl
def kRet (x : D) (h1 : Hs) : RS := .rt x h1
@[simp] theorem kRet_ : kRet x h = .rt x h := rfl
@[simp] theorem exRet : ex sub call (.ret e) S h = (ev sub call e S h).st S kRet := rfl
@[simp] theorem exRetn : ex sub call .retn S h = .rt .non h := rfl
def kIf (sub : Nat → Nat → Bool) (call : Nat → List D → Hs → R D) (s t : St) (S : Sl) : Bool → Hs → RS
  | true, h1 => ex sub call s S h1
  | false, h1 => ex sub call t S h1
@[simp] theorem kIf1 {s t} : kIf sub call s t S true h = ex sub call s S h := rfl
@[simp] theorem kIf0 {s t} : kIf sub call s t S false h = ex sub call t S h := rfl
@[simp] theorem exIfe {s t} : ex sub call (.ife c s t) S h = (tru (ev sub call c S h)).st S (kIf sub call s t S) := by
  show (tru (ev sub call c S h)).st S _ = _
  congr 1
  funext k h1
  cases k <;> rfl
def kFor (t : D → Sl → Hs → RS) (S : Sl) (src : Src) (h1 : Hs) : RS := match src with
    | .fix xs => forF t xs S h1
    | .dyn n => forG t (.dyn n) wfuel 0 S h1
@[simp] theorem kForF {t} : kFor t S (.fix xs) h = forF t xs S h := rfl
@[simp] theorem exFor {t it s} : ex sub call (.for_ t it s) S h = (evI sub call it S h).st S (kFor (turnF sub call t s) S) := rfl
@[simp] theorem forNil {t : D → Sl → Hs → RS} : forF t [] S h = .nx S h := rfl
def kFt (t : D → Sl → Hs → RS) (xs : List D) : RS → RS
  | .nx S' h' => forF t xs S' h'
  | .ct S' h' => forF t xs S' h'
  | .bk S' h' => .nx S' h'
  | r => r
@[simp] theorem kFtN {t : D → Sl → Hs → RS} : kFt t xs (.nx S h) = forF t xs S h := rfl
@[simp] theorem kFtC {t : D → Sl → Hs → RS} : kFt t xs (.ct S h) = forF t xs S h := rfl
@[simp] theorem kFtB {t : D → Sl → Hs → RS} : kFt t xs (.bk S h) = .nx S h := rfl
@[simp] theorem kFtR {t : D → Sl → Hs → RS} : kFt t xs (.rt x h) = .rt x h := rfl
@[simp] theorem kFtX {t : D → Sl → Hs → RS} {c} : kFt t xs (.exc c x S h) = .exc c x S h := rfl
@[simp] theorem forCons {t : D → Sl → Hs → RS} : forF t (x :: xs) S h = kFt t xs (t x S h) := by
  show (match t x S h with
    | .nx S' h' => forF t xs S' h'
    | .ct S' h' => forF t xs S' h'
    | .bk S' h' => .nx S' h'
    | r => r) = _
  cases t x S h <;> rfl
def kRai (c : Nat) (S : Sl) (v : D) (h1 : Hs) : RS := if v.scal then .exc c v S h1 else .bad
@[simp] theorem kRai_ {c} : kRai c S x h = if x.scal then .exc c x S h else .bad := rfl
@[simp] theorem exRais {c} : ex sub call (.rais c e) S h = (ev sub call e S h).st S (kRai c S) := rfl
@[simp] theorem exSkip : ex sub call .skip S h = .nx S h := rfl
@[simp] theorem exPass : ex sub call .pass S h = .nx S h := rfl
@[simp] theorem exBrk : ex sub call .brk S h = .bk S h := rfl
@[simp] theorem exCnt : ex sub call .cnt S h = .ct S h := rfl
@[simp] theorem exSeq {s t} : ex sub call (.seq s t) S h = (ex sub call s S h).andThen (ex sub call t) := rfl
theorem step {s t : St} {S' : Sl} {h' : Hs} {r : RS} (e : ex sub call s S h = .nx S' h') (f : ex sub call t S' h' = r) : ex sub call (.seq s t) S h = r := by
  rw [exSeq, e, atNx, f]
@[simp] theorem scalInt : D.scal (.int i) = true := rfl
@[simp] theorem scalStr {b} : D.scal (.str b) = true := rfl
@[simp] theorem scalNon : D.scal .non = true := rfl
@[simp] theorem scalBl {b} : D.scal (.bl b) = true := rfl
def kCall : RS → R D
  | .nx _ h' => .ok .non h'
  | .rt d h' => .ok d h'
  | .exc c v _ h' => .exc c v h'
  | _ => .bad
@[simp] theorem kCallN : kCall (.nx S h) = .ok .non h := rfl
@[simp] theorem kCallR : kCall (.rt x h) = .ok x h := rfl
@[simp] theorem kCallX {c} : kCall (.exc c x S h) = .exc c x h := rfl
theorem callB_ {f : Fd} : callB sub call f xs h = if xs.length = f.np then kCall (ex sub call f.body (xs.map some ++ List.replicate (f.nl - f.np) none) h) else .bad := by
  unfold callB
  split
  · cases ex sub call f.body (xs.map some ++ List.replicate (f.nl - f.np) none) h <;> rfl
  · rfl
end
/-! places of a frame -/
@[simp] theorem putNm {S : Sl} {x : D} {i : Nat} : put S x (.nm i) = if i < S.length then some (S.set i (some x)) else none := rfl
def kPuts (xs : List D) (ts : Tgs) : Option Sl → Option Sl
  | some S' => puts S' xs ts
  | none => none
@[simp] theorem kPuts_ {S : Sl} {xs : List D} {ts : Tgs} : kPuts xs ts (some S) = puts S xs ts := rfl
@[simp] theorem putsCons {S : Sl} {x : D} {xs : List D} {t : Tg} {ts : Tgs} : puts S (x :: xs) (.cons t ts) = kPuts xs ts (put S x t) := by
  show (put S x t).bind _ = _
  cases put S x t <;> rfl
@[simp] theorem putsNil {S : Sl} : puts S [] .nil = some S := rfl
@[simp] theorem putTpT {S : Sl} {xs : List D} {ts : Tgs} : put S (.tup xs) (.tp ts) = puts S xs ts := rfl
@[simp] theorem putTpL {S : Sl} {xs : List D} {ts : Tgs} : put S (.lst xs) (.tp ts) = puts S xs ts := rfl
@[simp] theorem wipeN {S : Sl} : wipe S [] = S := rfl
@[simp] theorem wipeC {S : Sl} {v : Nat} {vs : List Nat} : wipe S (v :: vs) = (wipe S vs).set v none := rfl
@[simp] theorem omitT : E.isOmit .omit = true := rfl
@[simp] theorem omitCmp {o a b} : E.isOmit (.cmp o a b) = false := rfl
@[simp] theorem omitCmp2 {o p a b c} : E.isOmit (.cmp2 o p a b c) = false := rfl
@[simp] theorem omitNot {a} : E.isOmit (.not_ a) = false := rfl
@[simp] theorem omitAnd {a b} : E.isOmit (.and_ a b) = false := rfl
@[simp] theorem omitOr {a b} : E.isOmit (.or_ a b) = false := rfl
@[simp] theorem omitNoN {a} : E.isOmit (.noN a) = false := rfl
@[simp] theorem omitIsN {a} : E.isOmit (.isN a) = false := rfl
@[simp] theorem omitPc {f a} : E.isOmit (.pcall f a) = false := rfl
@[simp] theorem omitBin {f a b} : E.isOmit (.bin f a b) = false := rfl
@[simp] theorem omitVar {a} : E.isOmit (.var a) = false := rfl
@[simp] theorem omitLit {a} : E.isOmit (.lit a) = false := rfl
@[simp] theorem omitBlt {a b} : E.isOmit (.blt a b) = false := rfl
/-! data -/
section
variable {xs ys : List D} {i j : Int} {a b : D}
@[simp] theorem ixTup : ixD (.tup xs) (.int i) = atD xs i := rfl
@[simp] theorem ixLst : ixD (.lst xs) (.int i) = atD xs i := rfl
@[simp] theorem lenTup : bltD .len [.tup xs] = some (.int xs.length) := rfl
@[simp] theorem lenLst : bltD .len [.lst xs] = some (.int xs.length) := rfl
@[simp] theorem tupLst : bltD .tuple [.lst xs] = some (.tup xs) := rfl
@[simp] theorem tupTup : bltD .tuple [.tup xs] = some (.tup xs) := rfl
@[simp] theorem listScr : bltD .list [.scr xs] = some (.lst xs) := rfl
def allO : Option (List Bool) → Option D
  | some bs => some (.bl (bs.all id))
  | none => none
@[simp] theorem allO_ {bs} : allO (some bs) = some (.bl (bs.all id)) := rfl
@[simp] theorem allLst : bltD .all [.lst xs] = allO (blsOf xs) := by
  show (blsOf xs).map _ = _
  cases blsOf xs <;> rfl
@[simp] theorem blsNil : blsOf [] = some [] := rfl
def consO (b : Bool) : Option (List Bool) → Option (List Bool)
  | some bs => some (b :: bs)
  | none => none
@[simp] theorem consO_ {b bs} : consO b (some bs) = some (b :: bs) := rfl
@[simp] theorem blsCons {b} : blsOf (.bl b :: xs) = consO b (blsOf xs) := by
  show (blsOf xs).map _ = _
  cases blsOf xs <;> rfl
@[simp] theorem absInt : bltD .abs [.int i] = some (.int (if i < 0 then -i else i)) := rfl
@[simp] theorem intInt : bltD .int [.int i] = some (.int i) := rfl
@[simp] theorem max2I : bltD .max2 [.int i, .int j] = some (.int (if j > i then j else i)) := rfl
@[simp] theorem min2I : bltD .min2 [.int i, .int j] = some (.int (if j < i then j else i)) := rfl
@[simp] theorem binAdd : binD .Add a b = addD a b := rfl
@[simp] theorem addInt : addD (.int i) (.int j) = some (.int (i + j)) := rfl
theorem addLst : addD (.lst xs) (.lst ys) = if okL (xs.length + ys.length) then some (.lst (xs ++ ys)) else none := rfl
theorem addTup : addD (.tup xs) (.tup ys) = if okL (xs.length + ys.length) then some (.tup (xs ++ ys)) else none := rfl
@[simp] theorem binSub : binD .Sub (.int i) (.int j) = some (.int (i - j)) := rfl
@[simp] theorem binMul : binD .Mult (.int i) (.int j) = if mulOk i j then some (.int (i * j)) else none := rfl
@[simp] theorem binDiv : binD .FloorDiv (.int i) (.int j) = if decide (0 < j) && decide (j.natAbs.log2 < 9000) then some (.int (i / j)) else none := rfl
@[simp] theorem binMod : binD .Mod (.int i) (.int j) = if decide (0 < j) then some (.int (i % j)) else none := rfl
@[simp] theorem cmpEq : cmpD .Eq a b = eqD a b := rfl
def negO : Option Bool → Option Bool
  | some b => some (!b)
  | none => none
@[simp] theorem negO_ {b} : negO (some b) = some (!b) := rfl
@[simp] theorem cmpNe : cmpD .NotEq a b = negO (eqD a b) := by
  show (eqD a b).map _ = _
  cases eqD a b <;> rfl
@[simp] theorem cmpLt : cmpD .Lt (.int i) (.int j) = some (decide (i < j)) := rfl
@[simp] theorem cmpLe : cmpD .LtE (.int i) (.int j) = some (decide (i ≤ j)) := rfl
@[simp] theorem cmpGt : cmpD .Gt (.int i) (.int j) = some (decide (j < i)) := rfl
@[simp] theorem cmpGe : cmpD .GtE (.int i) (.int j) = some (decide (j ≤ i)) := rfl
@[simp] theorem eqInt : eqD (.int i) (.int j) = some (i == j) := by
  simp only [eqD, D.eqOk, D.pure, D.py, SeqAt.shaped]
  rfl
@[simp] theorem isiTup {t : Ty} : isiD (.tup xs) t = some (t == .tuple) := rfl
@[simp] theorem isiInt {t : Ty} : isiD (.int i) t = some (t == .int) := rfl
@[simp] theorem isiBl {t : Ty} {b : Bool} : isiD (.bl b) t = some (t == .bool || t == .int) := rfl
@[simp] theorem isiNon {t : Ty} : isiD .non t = some false := rfl
@[simp] theorem isiStr {t : Ty} {b : Str} : isiD (.str b) t = some (t == .str) := rfl
@[simp] theorem isiLst {t : Ty} : isiD (.lst xs) t = some (t == .list) := rfl
@[simp] theorem truBl (b : Bool) : truD (.bl b) = some b := rfl
@[simp] theorem truInt (i : Int) : truD (.int i) = some (i != 0) := rfl
@[simp] theorem truNon : truD .non = some false := rfl
@[simp] theorem truTup : truD (.tup xs) = some (!xs.isEmpty) := rfl
@[simp] theorem truLst : truD (.lst xs) = some (!xs.isEmpty) := rfl
@[simp] theorem ty1 : (Ty.int == Ty.str) = false := rfl
@[simp] theorem ty2 : (Ty.bool == Ty.int) = false := rfl
@[simp] theorem ty3 : (Ty.int == Ty.bool) = false := rfl
@[simp] theorem ty4 : (Ty.tuple == Ty.int) = false := rfl
@[simp] theorem ty5 : (Ty.bool == Ty.str) = false := rfl
@[simp] theorem ty6 : (Ty.tuple == Ty.str) = false := rfl
@[simp] theorem ty7 : (Ty.tuple == Ty.bool) = false := rfl
@[simp] theorem ty8 : (Ty.tuple == Ty.list) = false := rfl
@[simp] theorem ty9 : (Ty.int == Ty.tuple) = false := rfl
@[simp] theorem ty10 : (Ty.bool == Ty.tuple) = false := rfl
@[simp] theorem ty11 : (Ty.str == Ty.int) = false := rfl
@[simp] theorem ty12 : (Ty.str == Ty.tuple) = false := rfl
@[simp] theorem ty13 : (Ty.str == Ty.bool) = false := rfl
@[simp] theorem seqTup (xs : List D) : seqD (.tup xs) = some xs := rfl
@[simp] theorem seqLst (xs : List D) : seqD (.lst xs) = some xs := rfl
end
section
variable {h r : Hs} {x y : D} {xs : List D} {i j : Int}
@[simp] theorem cmpHEq : cmpH h .Eq x y = cmpD .Eq (rd h x) (rd h y) := rfl
@[simp] theorem cmpHNe : cmpH h .NotEq x y = cmpD .NotEq (rd h x) (rd h y) := rfl
@[simp] theorem cmpHLt : cmpH h .Lt x y = cmpD .Lt (rd h x) (rd h y) := rfl
@[simp] theorem cmpHLe : cmpH h .LtE x y = cmpD .LtE (rd h x) (rd h y) := rfl
@[simp] theorem cmpHGt : cmpH h .Gt x y = cmpD .Gt (rd h x) (rd h y) := rfl
@[simp] theorem cmpHGe : cmpH h .GtE x y = cmpD .GtE (rd h x) (rd h y) := rfl
@[simp] theorem ixHT : ixH h (.tup xs) y = ixD (.tup xs) y := rfl
@[simp] theorem ixHL : ixH h (.lst xs) y = ixD (.lst xs) y := rfl
@[simp] theorem ixHR : ixH (.lst xs :: r) (.ref 0) y = ixD (.lst xs) y := rfl
theorem bltHo {b : Bl} {ds : List D} (e : b ≠ .sorted) : bltH h b ds = bltD b (ds.map (rd h)) := by
  unfold bltH
  split
  · exact absurd rfl e
  · rfl
@[simp] theorem bltHLen {ds} : bltH h .len ds = bltD .len (ds.map (rd h)) := bltHo (by decide)
@[simp] theorem bltHAll {ds} : bltH h .all ds = bltD .all (ds.map (rd h)) := bltHo (by decide)
@[simp] theorem bltHAny {ds} : bltH h .any ds = bltD .any (ds.map (rd h)) := bltHo (by decide)
@[simp] theorem bltHTup {ds} : bltH h .tuple ds = bltD .tuple (ds.map (rd h)) := bltHo (by decide)
@[simp] theorem bltHLst {ds} : bltH h .list ds = bltD .list (ds.map (rd h)) := bltHo (by decide)
@[simp] theorem bltHAbs {ds} : bltH h .abs ds = bltD .abs (ds.map (rd h)) := bltHo (by decide)
@[simp] theorem bltHInt {ds} : bltH h .int ds = bltD .int (ds.map (rd h)) := bltHo (by decide)
@[simp] theorem bltHSum {ds} : bltH h .sum ds = bltD .sum (ds.map (rd h)) := bltHo (by decide)
@[simp] theorem bltHMax1 {ds} : bltH h .max1 ds = bltD .max1 (ds.map (rd h)) := bltHo (by decide)
@[simp] theorem bltHMin1 {ds} : bltH h .min1 ds = bltD .min1 (ds.map (rd h)) := bltHo (by decide)
@[simp] theorem bltHMax2 {ds} : bltH h .max2 ds = bltD .max2 (ds.map (rd h)) := bltHo (by decide)
@[simp] theorem bltHMin2 {ds} : bltH h .min2 ds = bltD .min2 (ds.map (rd h)) := bltHo (by decide)
@[simp] theorem bltHStr {ds} : bltH h .str ds = bltD .str (ds.map (rd h)) := bltHo (by decide)
@[simp] theorem binAnd : binD .BitAnd (.int i) (.int j) = some (.int (Builtin.bitAnd i j)) := rfl
end
/-- the drawing state -/
def StD (h : Hs) : Prop := ∃ cs : List Int, ∃ a b s : Int, h = [.lst [.lst (cs.map .int), .int a, .int b, .int s]] ∧ 0 ≤ a ∧ 0 ≤ b ∧ 0 ≤ s ∧ s < 2147483648
end Pl

set_option Elab.async false
set_option linter.all false
set_option maxRecDepth 100000
set_option maxHeartbeats 4000000
namespace Pl
open PySem Ci
/-! ### more of the kit for plain laws: no mirror in it -/
def stSnd : St → St
  | .seq _ b => b
  | s => s
def stFst : St → St
  | .seq a _ => a
  | s => s
def stFor : St → St
  | .for_ _ _ s => s
  | s => s
theorem pcOk {call : Nat → List D → Hs → R D} {f : Nat} {ds : List D} {h : Hs} {d : D} (c : D.clears ds = true) (e : call f ds [] = .ok d []) (s : d.scal = true) : pcallF call f ds h = .ok d h := by
  cases d <;> first | (simp [D.scal] at s; done) | (simp [pcallF, c, e, thaw, rd, D.clear])
theorem pcExc {call : Nat → List D → Hs → R D} {f c : Nat} {ds : List D} {h g : Hs} {v : D} (cl : D.clears ds = true) (e : call f ds [] = .exc c v g) (s : v.scal = true) : pcallF call f ds h = .exc c v h := by
  simp [pcallF, cl, e, s]
theorem pcRef {call : Nat → List D → Hs → R D} {f : Nat} {ds xs : List D} {h : Hs} (c : D.clears ds = true) (e : call f ds [] = .ok (.ref 0) [.lst xs]) (cx : D.clears xs = true) (t : xs.map (thaw [.lst xs] 5) = xs) : pcallF call f ds h = .ok (.lst xs) h := by
  have e2 : thaw [.lst xs] 6 (.ref 0) = .lst (xs.map (thaw [.lst xs] 5)) := rfl
  simp only [pcallF, c, e, if_true, e2, t, D.clear, cx]
def cl1 (d : D) (h : d.clear = true) : D.clears [d] = true := by simp [D.clears, h]
theorem clT (xs : List D) (h : D.clears xs = true) : (D.tup xs).clear = true := by simp [D.clear, h]
def compElt : E → E
  | .not_ (.blt .all (.cons (.il (.comp e _ _ _ _)) .nil)) => e
  | e => e
def ifC : St → E
  | .ife c _ _ => c
  | _ => .nope
theorem comp_all (t : D → Hs → R (Option D)) (h : Hs) : ∀ (xs : List D), (∀ x ∈ xs, t x h = .ok (some (.bl true)) h) → compF t xs h = .ok (xs.map fun _ => .bl true) h
  | [], _ => rfl
  | x :: xs, a => by
    simp only [compF, a x List.mem_cons_self, bindOk, comp_all t h xs (fun y hy => a y (List.mem_cons_of_mem _ hy)), List.map_cons]
theorem bls_true (xs : List D) : blsOf (xs.map fun _ => .bl true) = some (xs.map fun _ => true) := by
  induction xs with
  | nil => rfl
  | cons x xs ih => simp [ih]
theorem bls_all (xs : List D) : ((xs.map fun _ => true).all id) = true := by
  induction xs with
  | nil => rfl
  | cons x xs ih => simp
theorem allT {α : Type} (xs : List α) : (xs.all fun _ => true) = true := by induction xs <;> simp_all
theorem scCl {d : D} (s : d.scal = true) : d.clear = true := by cases d <;> simp_all [D.scal, D.clear]
/-- a result with nothing of a store in it -/
def flatR : R D → Bool
  | .ok v [] => v.scal
  | .exc _ v [] => v.scal
  | _ => false
/-- in any store -/
def inSt {α : Type} (r : R α) (h : Hs) : R α := match r with
  | .ok v _ => .ok v h
  | .exc c v _ => .exc c v h
  | .bad => .bad
theorem pcFlat {call : Nat → List D → Hs → R D} {f : Nat} {ds : List D} {h : Hs} {r : R D} (c : D.clears ds = true) (e : call f ds [] = r) (s : flatR r = true) : pcallF call f ds h = inSt r h := by
  cases r with
  | ok v g => cases g with
    | nil => exact pcOk c e s
    | cons _ _ => cases s
  | exc cc v g => cases g with
    | nil => exact pcExc c e s
    | cons _ _ => cases s
  | bad => cases s
/-- a comprehension with draws -/
theorem comp_draw (P : D → Prop) (t : D → Hs → R (Option D)) : ∀ (xs : List D) (h : Hs), (∀ x ∈ xs, ∀ h, StD h → ∃ y h', StD h' ∧ P y ∧ t x h = .ok (some y) h') → StD h → ∃ ys h', StD h' ∧ (∀ y ∈ ys, P y) ∧ ys.length = xs.length ∧ compF t xs h = .ok ys h'
  | [], h, _, g => ⟨[], h, g, by simp, rfl, rfl⟩
  | x :: xs, h, a, g => by
    obtain ⟨y, h1, g1, py, e⟩ := a x List.mem_cons_self h g
    obtain ⟨ys, h2, g2, p, l, e2⟩ := comp_draw P t xs h1 (fun z hz => a z (List.mem_cons_of_mem _ hz)) g1
    refine ⟨y :: ys, h2, g2, ?_, by simp [l], ?_⟩
    · intro z hz
      rcases List.mem_cons.1 hz with rfl | hz
      · exact py
      · exact p z hz
    · simp only [compF, e, bindOk, e2]
theorem for_draw (I : Sl → Prop) (t : D → Sl → Hs → RS) : ∀ (xs : List D) (S : Sl) (h : Hs), (∀ x ∈ xs, ∀ S h, I S → StD h → ∃ S' h', I S' ∧ StD h' ∧ t x S h = .nx S' h') → I S → StD h → ∃ S' h', I S' ∧ StD h' ∧ forF t xs S h = .nx S' h'
  | [], S, h, _, i, g => ⟨S, h, i, g, rfl⟩
  | x :: xs, S, h, a, i, g => by
    obtain ⟨S1, h1, i1, g1, e⟩ := a x List.mem_cons_self S h i g
    obtain ⟨S2, h2, i2, g2, e2⟩ := for_draw I t xs S1 h1 (fun z hz => a z (List.mem_cons_of_mem _ hz)) i1 g1
    exact ⟨S2, h2, i2, g2, by simp only [forF, e, e2]⟩
theorem ex_map {α : Type} (Q : α → Prop) (f : α → D) : ∀ ys : List D, (∀ y ∈ ys, ∃ p, Q p ∧ y = f p) → ∃ l : List α, ys = l.map f ∧ ∀ p ∈ l, Q p
  | [], _ => ⟨[], rfl, by simp⟩
  | y :: ys, a => by
    obtain ⟨p, q, rfl⟩ := a y List.mem_cons_self
    obtain ⟨l, rfl, b⟩ := ex_map Q f ys (fun z hz => a z (List.mem_cons_of_mem _ hz))
    refine ⟨p :: l, rfl, ?_⟩
    intro z hz
    rcases List.mem_cons.1 hz with rfl | hz
    · exact q
    · exact b z hz
theorem rng_len (n : Int) (a : 0 ≤ n) (b : n ≤ 1000) : ∃ xs, rangeD 0 n = some xs ∧ xs.length = n.toNat := by
  have h1 : n < 2 ^ 62 := by omega
  have h2 : -(2 ^ 62) ≤ n := by omega
  exact ⟨(List.range (n - 0).toNat).map fun k => .int (0 + (k : Nat)), by simp [rangeD]; omega, by simp⟩
def isExc (r : R D) (c : Nat) (x : Str) : Bool := match r with
  | .exc d (.str y) [] => d == c && y == x
  | _ => false
theorem isExc_eq {r : R D} {c : Nat} {x : Str} (h : isExc r c x = true) : r = .exc c (.str x) [] := by
  unfold isExc at h
  split at h
  · simp only [Bool.and_eq_true, beq_iff_eq] at h
    rw [h.1, h.2]
  · cases h
def isOk (r : R D) (d : D) : Bool := match r with
  | .ok e [] => D.beq e d
  | _ => false
theorem isOk_eq {r : R D} {d : D} (h : isOk r d = true) : r = .ok d [] := by
  unfold isOk at h
  split at h
  · rw [D.beq_eq h]
  · cases h
/-- a pure call is the same in any store -/
theorem pcSt {call : Nat → List D → Hs → R D} {f : Nat} {ds : List D} {r : R D} (e : pcallF call f ds [] = r) (h : Hs) : pcallF call f ds h = inSt r h := by
  subst e
  unfold pcallF
  split
  · cases call f ds [] with
    | ok d g => simp only []; split <;> rfl
    | exc c v g => simp only []; split <;> rfl
    | bad => rfl
  · rfl
theorem all_mem {xs : List D} {p : D → Bool} (h : xs.all p = true) {x : D} (m : x ∈ xs) : p x = true := List.all_eq_true.1 h x m
theorem isOkN {r : R D} (h : isOk r .non = true) : r = .ok .non [] := isOk_eq h
theorem at_nat {xs : List D} {i : Int} {x : D} (h0 : 0 ≤ i) (e : xs[i.toNat]? = some x) : atD xs i = some x := by
  have l : i.toNat < xs.length := by
    rcases Nat.lt_or_ge i.toNat xs.length with h | h
    · exact h
    · rw [List.getElem?_eq_none h] at e; cases e
  have h1 : i < (xs.length : Int) := by omega
  simp only [atD, ixI, h0, h1, if_true, Option.bind_some, e]
/-- what is kept of a walk over data -/
theorem comp_pick {α : Type} (f : α → D) (c : α → Bool) (g : α → D) (t : D → Hs → R (Option D)) (h : Hs) : ∀ (xs : List α), (∀ x ∈ xs, t (f x) h = .ok (if c x then some (g x) else none) h) → compF t (xs.map f) h = .ok ((xs.filter c).map g) h
  | [], _ => rfl
  | x :: xs, a => by
    simp only [List.map_cons, compF, a x List.mem_cons_self, bindOk, comp_pick f c g t h xs (fun y hy => a y (List.mem_cons_of_mem _ hy))]
    cases e : c x <;> simp [List.filter_cons, e]
theorem mem1 {p : D → Bool} {xs : List D} (h : (xs.all fun g => g.clear && p g) = true) {x : D} (m : x ∈ xs) : x.clear = true ∧ p x = true := by
  have := List.all_eq_true.1 h x m
  simpa only [Bool.and_eq_true] using this
end Pl

set_option Elab.async false
set_option linter.all false
set_option maxRecDepth 100000
set_option maxHeartbeats 4000000
namespace Pl
open PySem Ci
/-- the drawing state, and what else lies in the store -/
def StR (r : Hs) (h : Hs) : Prop := ∃ cs : List Int, ∃ a b s : Int, h = .lst [.lst (cs.map .int), .int a, .int b, .int s] :: r ∧ 0 ≤ a ∧ 0 ≤ b ∧ 0 ≤ s ∧ s < 2147483648
/-- a comprehension whose turns keep T -/
theorem comp_T (T : Hs → Prop) (P : D → Prop) (t : D → Hs → R (Option D)) : ∀ (xs : List D) (h : Hs), (∀ x ∈ xs, ∀ h, T h → ∃ y h', T h' ∧ P y ∧ t x h = .ok (some y) h') → T h → ∃ ys h', T h' ∧ (∀ y ∈ ys, P y) ∧ ys.length = xs.length ∧ compF t xs h = .ok ys h'
  | [], h, _, g => ⟨[], h, g, by simp, rfl, rfl⟩
  | x :: xs, h, a, g => by
    obtain ⟨y, h1, g1, py, e⟩ := a x List.mem_cons_self h g
    obtain ⟨ys, h2, g2, p, l, e2⟩ := comp_T T P t xs h1 (fun z hz => a z (List.mem_cons_of_mem _ hz)) g1
    refine ⟨y :: ys, h2, g2, ?_, by simp [l], ?_⟩
    · intro z hz
      rcases List.mem_cons.1 hz with rfl | hz
      · exact py
      · exact p z hz
    · simp only [compF, e, bindOk, e2]
theorem for_T (T : Sl → Hs → Prop) (t : D → Sl → Hs → RS) : ∀ (xs : List D) (S : Sl) (h : Hs), (∀ x ∈ xs, ∀ S h, T S h → ∃ S' h', T S' h' ∧ t x S h = .nx S' h') → T S h → ∃ S' h', T S' h' ∧ forF t xs S h = .nx S' h'
  | [], S, h, _, g => ⟨S, h, g, rfl⟩
  | x :: xs, S, h, a, g => by
    obtain ⟨S1, h1, g1, e⟩ := a x List.mem_cons_self S h g
    obtain ⟨S2, h2, g2, e2⟩ := for_T T t xs S1 h1 (fun z hz => a z (List.mem_cons_of_mem _ hz)) g1
    exact ⟨S2, h2, g2, by simp only [forF, e, e2]⟩
theorem filter_any {α : Type} (f : α → D) (c : α → Bool) : ∀ xs : List α, ((xs.filter c).map f).isEmpty = !xs.any c
  | [] => rfl
  | x :: xs => by
    cases e : c x <;> simp [List.filter_cons, e, filter_any f c xs]
/-- a result out of any store -/
theorem pcAny {call : Nat → List D → Hs → R D} {f : Nat} {ds : List D} {h g : Hs} {d : D} (c : D.clears ds = true) (e : call f ds [] = .ok d g) (t : thaw g 6 d = d) (cd : d.clear = true) : pcallF call f ds h = .ok d h := by
  simp only [pcallF, c, e, if_true, t, cd]
@[simp] theorem exAugx {sub : Nat → Nat → Bool} {call : Nat → List D → Hs → R D} {S : Sl} {h : Hs} {a i e : E} {op : Operator} : ex sub call (.augx a i op e) S h = (ev sub call a S h).st S fun o h1 => (ev sub call i S h1).st S fun k h2 => match rd h2 o, k with
    | .lst xs, .int j => match atD xs j with
      | some (.int x) => (ev sub call e S h2).st S fun y h3 => match augV op x y with
        | some v => augO S o j v h3
        | none => .bad
      | _ => .bad
    | _, _ => .bad := rfl
def kRev (x : D) (h1 : Hs) : R D := liftO (revD (rd h1 x)) h1
@[simp] theorem kRev_ {x : D} {h : Hs} : kRev x h = liftO (revD (rd h x)) h := rfl
@[simp] theorem evRev {sub : Nat → Nat → Bool} {call : Nat → List D → Hs → R D} {S : Sl} {h : Hs} {a : E} : ev sub call (.rev a) S h = (ev sub call a S h).bind kRev := rfl
@[simp] theorem revT {xs : List D} : revD (.tup xs) = some (.tup xs.reverse) := rfl
@[simp] theorem revL {xs : List D} : revD (.lst xs) = some (.lst xs.reverse) := rfl
theorem compP_all (t : D → Hs → R (Option (Ky × D))) (h : Hs) (g : D → Ky × D) (xs : List D) (ht : ∀ x ∈ xs, t x h = .ok (some (g x)) h) : ∀ (k i : Nat), i ≤ xs.length → xs.length < i + k → compP t (.fix xs) k i h = .ok ((xs.drop i).map g) h
  | 0, i, h1, h2 => by omega
  | k + 1, i, h1, h2 => by
    unfold compP
    by_cases hl : i < xs.length
    · rw [List.drop_eq_getElem_cons hl]
      simp only [itm, List.getElem?_eq_getElem hl, ht _ (List.getElem_mem hl), bindOk, compP_all t h g xs ht k (i + 1) hl (by omega), List.map_cons]
    · have e : i = xs.length := by omega
      subst e
      simp [itm, srcOk]
/-- a new key at the end -/
def addK (ks : List Int) (p : Int) : List Int := if p ∈ ks then ks else ks ++ [p]
def addKs (ks : List Int) : List Int → List Int
  | [] => ks
  | p :: r => addKs (addK ks p) r
def mkK (k : Int) : Ky × D := (.inl k, .bl true)
theorem dput_mk (ks : List Int) (p : Int) : dput (ks.map mkK) (.inl p) (.bl true) = (addK ks p).map mkK := by
  have e : ((ks.map mkK).any fun kv => decide (kv.1 = Sum.inl p)) = decide (p ∈ ks) := by
    induction ks with
    | nil => rfl
    | cons k ks ih =>
      simp only [List.map_cons, List.any_cons, ih, mkK, List.mem_cons]
      by_cases q : k = p
      · simp [q]
      · simp [q, Ne.symm q]
  unfold dput addK
  rw [e]
  by_cases q : p ∈ ks
  · rw [if_pos (by simpa using q), if_pos q, List.map_map]
    apply List.map_congr_left
    intro k _
    simp only [Function.comp, mkK]
    exact ite_self _
  · rw [if_neg (by simpa using q), if_neg q]
    simp [mkK]
theorem dputs_mk : ∀ (ps ks : List Int), dputs (ks.map mkK) (ps.map mkK) = (addKs ks ps).map mkK
  | [], ks => rfl
  | p :: ps, ks => by
    show dputs (dput (ks.map mkK) (.inl p) (.bl true)) (ps.map mkK) = _
    rw [dput_mk, dputs_mk ps]
    rfl
theorem keys_mk : ∀ ks : List Int, keysI (ks.map mkK) = some ks
  | [] => rfl
  | k :: ks => by simp [keysI, mkK, keys_mk ks]
theorem at_any (qs : List Int) (j : Int) (h1 : -(qs.length : Int) ≤ j) (h2 : j < qs.length) : ∃ l, atD (qs.map .int) j = some (.int l) := by
  unfold atD
  by_cases h0 : 0 ≤ j
  · have t : j.toNat < qs.length := by omega
    exact ⟨qs[j.toNat], by simp [ixI, h0, h2, t]⟩
  · have t : (j + qs.length).toNat < qs.length := by omega
    exact ⟨qs[(j + qs.length).toNat], by simp [ixI, h0, h1, t]⟩
def isP (d : D) : Prop := ∃ a b, d = .tup [.int a, .int b]
theorem isP_facts : ∀ (rows : List D), (∀ r ∈ rows, isP r) → D.pures rows = true ∧ PyData.depthAll (D.pys rows) ≤ 2
  | [], _ => ⟨rfl, by simp [D.pys, PyData.depthAll]⟩
  | r :: rows, h => by
    obtain ⟨a, b, rfl⟩ := h r List.mem_cons_self
    obtain ⟨h1, h2⟩ := isP_facts rows fun x hx => h x (List.mem_cons_of_mem _ hx)
    refine ⟨by simp [D.pures, D.pure, h1], ?_⟩
    simp only [D.pys, D.py, PyData.depthAll, PyData.depth]
    omega
theorem isP_alike {x y : D} (hx : isP x) (hy : isP y) : PySem.W.alike x.py y.py = true := by
  obtain ⟨a, b, rfl⟩ := hx
  obtain ⟨c, d, rfl⟩ := hy
  simp [D.py, D.pys, PySem.W.alike, PySem.W.alikeAll]
theorem isP_all {rows : List D} (h : ∀ r ∈ rows, isP r) : alikeB rows = true := by
  obtain ⟨h1, h2⟩ := isP_facts rows h
  unfold alikeB
  simp only [h1, Bool.true_and, Bool.and_eq_true, decide_eq_true_eq, List.all_eq_true]
  refine ⟨⟨fun x hx y hy => isP_alike (h x hx) (h y hy), fun x hx => ?_⟩, by omega⟩
  obtain ⟨a, b, rfl⟩ := h x hx
  rfl
theorem addKs_len : ∀ (ps ks : List Int), (addKs ks ps).length ≤ ks.length + ps.length
  | [], ks => by simp [addKs]
  | p :: ps, ks => by
    have h1 := addKs_len ps (addK ks p)
    have h2 : (addK ks p).length ≤ ks.length + 1 := by unfold addK; split <;> simp
    show (addKs (addK ks p) ps).length ≤ _
    simp only [List.length_cons]; omega
theorem addKs_mem (x : Int) : ∀ (ps ks : List Int), x ∈ addKs ks ps ↔ x ∈ ks ∨ x ∈ ps
  | [], ks => by simp [addKs]
  | p :: ps, ks => by
    have h1 := addKs_mem x ps (addK ks p)
    have h2 : x ∈ addK ks p ↔ x ∈ ks ∨ x = p := by
      unfold addK
      split
      · constructor
        · exact Or.inl
        · rintro (h | rfl)
          · exact h
          · assumption
      · simp
    show x ∈ addKs (addK ks p) ps ↔ _
    rw [h1, h2, List.mem_cons]
    constructor
    · rintro ((h | h) | h)
      · exact .inl h
      · exact .inr (.inl h)
      · exact .inr (.inr h)
    · rintro (h | h | h)
      · exact .inl (.inl h)
      · exact .inl (.inr h)
      · exact .inr h
/-- pairs in order -/
theorem sort_pairs {rows : List D} (h : ∀ r ∈ rows, isP r) (l : rows.length ≤ 1000) : ∃ out, bltD .sorted [.lst rows] = some (.lst out) ∧ out.Perm rows := by
  cases rows with
  | nil => exact ⟨[], rfl, .refl _⟩
  | cons r rows =>
    have hi : intsOf (r :: rows) = none := by
      obtain ⟨c, d, rfl⟩ := h r List.mem_cons_self
      rfl
    have hs : sortB (r :: rows) = true := by
      unfold sortB
      rw [List.all_eq_true]
      intro x hx
      obtain ⟨c, d, rfl⟩ := h x hx
      rfl
    have ho : okL (r :: rows).length = true := okLt (by omega)
    refine ⟨(r :: rows).mergeSort (PySem.W.dataLe false D.py), ?_, List.mergeSort_perm _ _⟩
    simp only [bltD, hi, isP_all h, hs, ho, Bool.and_self, if_true]
theorem cut_mem {xs : List D} {lo hi : Option Int} {x : D} (h : x ∈ cutL xs lo hi) : x ∈ xs := by
  unfold cutL at h
  exact List.mem_of_mem_drop (List.mem_of_mem_take h)
theorem cut_len (xs : List D) (lo hi : Option Int) : (cutL xs lo hi).length ≤ xs.length := by
  unfold cutL
  rw [List.length_take, List.length_drop]
  omega
/-- places and items -/
def enumP {α : Type} (i : Nat) : List α → List (Nat × α)
  | [] => []
  | x :: xs => (i, x) :: enumP (i + 1) xs
theorem enum_map {α : Type} (f : α → D) : ∀ (xs : List α) (i : Nat), enumD i (xs.map f) = (enumP i xs).map fun z => .tup [.int (z.1 : Nat), f z.2]
  | [], _ => rfl
  | x :: xs, i => by simp [enumD, enumP, enum_map f xs (i + 1)]
theorem enum_len {α : Type} : ∀ (xs : List α) (i : Nat), (enumP i xs).length = xs.length
  | [], _ => rfl
  | x :: xs, i => by simp [enumP, enum_len xs (i + 1)]
theorem enum_filter {α : Type} (c : α → Bool) : ∀ (xs : List α) (i : Nat), ((enumP i xs).filter fun z => c z.2).length = (xs.filter c).length
  | [], _ => rfl
  | x :: xs, i => by
    have := enum_filter c xs (i + 1)
    cases e : c x <;> simp [enumP, List.filter_cons, e, this]
end Pl

set_option Elab.async false
set_option linter.all false
set_option maxRecDepth 100000
set_option maxHeartbeats 4000000
namespace Pl
open PySem Ci
theorem PF22 : mM.PF 22 = some i__law_start := rfl
theorem PF23 : mM.PF 23 = some i__law_draw := rfl
theorem PF24 : mM.PF 24 = some i__law_pick := rfl
theorem log_le {x : Int} {n : Nat} (h0 : 0 ≤ x) (h : x < 2 ^ n) : x.natAbs.log2 ≤ n := by
  rcases Nat.eq_zero_or_pos x.natAbs with e | p
  · rw [e]; exact Nat.zero_le n
  · have : x.natAbs < 2 ^ n := by
      have : (x.natAbs : Int) < 2 ^ n := by rw [Int.natAbs_of_nonneg h0]; exact h
      exact_mod_cast this
    exact Nat.le_of_lt ((Nat.log2_lt (by omega)).2 this)
theorem mul_ok {x y : Int} (h0 : 0 ≤ x) (h : x < 2 ^ 100) (h1 : 0 ≤ y) (h2 : y < 2 ^ 100) : mulOk x y = true := by
  unfold mulOk
  have := log_le h0 h
  have := log_le h1 h2
  exact decide_eq_true (by omega)
theorem start_turn (sub : Nat → Nat → Bool) (call : Nat → List D → Hs → R D) (o : D) (v : Option D) (c s : Int) (h0 : 0 ≤ s) (h1 : s < 2147483648) : 
   ex sub call (.asg (.nm 1) (.bin .Add (.bin .Mod (.blt .int (.cons (.bin .Add (.bin .Mult (.var 1) (.lit (.int (48271)))) (.var 2)) .nil)) (.lit (.int (2147483629)))) (.lit (.int (1))))) [some o, some (.int s), some (.int c)] [] = .nx [some o, some (.int ((s * 48271 + c) % 2147483629 + 1)), some (.int c)] [] := by
  have m : mulOk s 48271 = true := mul_ok h0 (by omega) (by omega) (by omega)
  simp [m]
def startB : St := .asg (.nm 1) (.bin .Add (.bin .Mod (.blt .int (.cons (.bin .Add (.bin .Mult (.var 1) (.lit (.int (48271)))) (.var 2)) .nil)) (.lit (.int (2147483629)))) (.lit (.int (1))))
theorem start_loop (sub : Nat → Nat → Bool) (call : Nat → List D → Hs → R D) (o : D) : ∀ (ns : List Int) (s : Int) (v : Option D), 0 ≤ s → s < 2147483648 → ∃ s' v', 0 ≤ s' ∧ s' < 2147483648 ∧ forF (turnF sub call (.nm 2) startB) (ns.map .int) [some o, some (.int s), v] [] = .nx [some o, some (.int s'), v'] []
  | [], s, v, h0, h1 => ⟨s, v, h0, h1, rfl⟩
  | c :: ns, s, v, h0, h1 => by
    obtain ⟨s', v', a, b, f⟩ := start_loop sub call o ns ((s * 48271 + c) % 2147483629 + 1) (some (.int c)) (by omega) (by omega)
    refine ⟨s', v', a, b, ?_⟩
    rw [List.map_cons, forF]
    have e : turnF sub call (.nm 2) startB (.int c) [some o, some (.int s), v] [] = .nx [some o, some (.int ((s * 48271 + c) % 2147483629 + 1)), some (.int c)] [] := start_turn sub call o v c s h0 h1
    rw [e]
    exact f
theorem start_ok (k : Nat) (ns : List Int) : ∃ h, StR [] h ∧ callF mM.sub mM.PF (k + 1) 22 [.scr (ns.map .int)] [] = .ok (.ref 0) h := by
  rw [callS _ _ _ _ _ _ _ PF22]
  obtain ⟨s', v', a, b, f⟩ := start_loop mM.sub (callF mM.sub mM.PF k) (.scr (ns.map .int)) ns 7 none (by omega) (by omega)
  unfold startB at f
  simp [callB_, i__law_start, f, okL, sizeLine]
  exact ⟨ns, 0, 0, s', rfl, by omega, by omega, a, b⟩
theorem at0 (a b c d : D) : atD [a, b, c, d] 0 = some a := rfl
theorem at1 (a b c d : D) : atD [a, b, c, d] 1 = some b := rfl
theorem at2 (a b c d : D) : atD [a, b, c, d] 2 = some c := rfl
theorem at3 (a b c d : D) : atD [a, b, c, d] 3 = some d := rfl
theorem st1 (S : Sl) (r : Hs) (a b c d v : D) : setO S (.ref 0) (.int 1) v (.lst [a, b, c, d] :: r) = .nx S (.lst [a, v, c, d] :: r) := setRef rfl
theorem st2 (S : Sl) (r : Hs) (a b c d v : D) : setO S (.ref 0) (.int 2) v (.lst [a, b, c, d] :: r) = .nx S (.lst [a, b, v, d] :: r) := setRef rfl
theorem st3 (S : Sl) (r : Hs) (a b c d v : D) : setO S (.ref 0) (.int 3) v (.lst [a, b, c, d] :: r) = .nx S (.lst [a, b, c, v] :: r) := setRef rfl
theorem atL {f : Int → D} {cs : List Int} {i : Int} (h0 : 0 ≤ i) (h : i < cs.length) : atD (cs.map f) i = some (f (cs[i.toNat]'(by omega))) := by
  have hx : i < ((cs.map f).length : Int) := by simpa using h
  simp only [atD, ixI, h0, hx, if_true, Option.bind_some]
  rw [List.getElem?_eq_getElem (by simp; omega)]
  simp
theorem draw_ok {r : Hs} (k : Nat) (h : Hs) (m : Int) (g : StR r h) (m0 : 0 < m) (m1 : m < 2 ^ 100) : ∃ v h', StR r h' ∧ 0 ≤ v ∧ v < m ∧ callF mM.sub mM.PF (k + 1) 23 [.ref 0, .int m] h = .ok (.int v) h' := by
  obtain ⟨cs, a, b, s, rfl, ha, hb, hs, hs2⟩ := g
  rw [callS _ _ _ _ _ _ _ PF23]
  have ml : mulOk s 48271 = true := mul_ok hs (by omega) (by omega) (by omega)
  have lg : m.natAbs.log2 < 9000 := Nat.lt_of_le_of_lt (log_le (n := 100) (by omega) m1) (by omega)
  have l13 : Nat.log2 13 < 9000 := by decide
  have md : ∀ x : Int, 0 ≤ x % m ∧ x % m < m := fun x => ⟨Int.emod_nonneg _ (by omega), Int.emod_lt_of_pos _ m0⟩
  by_cases e : a = 0
  · by_cases e2 : (cs.length : Int) ≤ b
    · simp [callB_, i__law_draw, at0, at1, at2, at3, st1, st2, st3, e, e2, ml, lg, m0, l13]
      exact ⟨_, _, ⟨cs, 0, b, _, rfl, by omega, hb, by omega, by omega⟩, (md _).1, (md _).2, rfl, rfl⟩
    · have l := atL (f := D.int) hb (Int.not_le.1 e2)
      simp [callB_, i__law_draw, at0, at1, at2, at3, st1, st2, st3, e, e2, ml, lg, m0, l13, l]
      exact ⟨_, _, ⟨cs, _, b + 1, s, rfl, Int.ediv_nonneg (by split <;> omega) (by omega), by omega, hs, hs2⟩, (md _).1, (md _).2, rfl, rfl⟩
  · have eb : (a == 0) = false := by simp [e]
    simp [callB_, i__law_draw, at0, at1, at2, at3, st1, st2, st3, eb, ml, lg, m0, l13]
    exact ⟨_, _, ⟨cs, _, b, s, rfl, Int.ediv_nonneg (by omega) (by omega), by omega, hs, hs2⟩, (md _).1, (md _).2, rfl, rfl⟩
/-- any item of what is offered -/
theorem pick_ok {r : Hs} (k : Nat) (h : Hs) (xs : List D) (g : StR r h) (e : xs ≠ []) (l : xs.length < 1000) : ∃ x h', StR r h' ∧ x ∈ xs ∧ callF mM.sub mM.PF (k + 2) 24 [.ref 0, .lst xs] h = .ok x h' := by
  rw [callS _ _ _ _ _ _ _ PF24]
  have p : 0 < xs.length := List.length_pos_iff.2 e
  obtain ⟨v, h', g', v0, v1, ev⟩ := draw_ok k h xs.length g (by omega) (by omega)
  have t : v.toNat < xs.length := by omega
  have at' : atD xs v = some xs[v.toNat] := by
    simp only [atD, ixI, v0, v1, if_true, Option.bind_some]
    rw [List.getElem?_eq_getElem t]
  refine ⟨xs[v.toNat], h', g', List.getElem_mem t, ?_⟩
  simp [callB_, i__law_pick, ev, at']
theorem pickT_ok {r : Hs} (k : Nat) (h : Hs) (xs : List D) (g : StR r h) (e : xs ≠ []) (l : xs.length < 1000) : ∃ x h', StR r h' ∧ x ∈ xs ∧ callF mM.sub mM.PF (k + 2) 24 [.ref 0, .tup xs] h = .ok x h' := by
  rw [callS _ _ _ _ _ _ _ PF24]
  have p : 0 < xs.length := List.length_pos_iff.2 e
  obtain ⟨v, h', g', v0, v1, ev⟩ := draw_ok k h xs.length g (by omega) (by omega)
  have t : v.toNat < xs.length := by omega
  have at' : atD xs v = some xs[v.toNat] := by
    simp only [atD, ixI, v0, v1, if_true, Option.bind_some]
    rw [List.getElem?_eq_getElem t]
  refine ⟨xs[v.toNat], h', g', List.getElem_mem t, ?_⟩
  simp [callB_, i__law_pick, ev, at']
end Pl

set_option Elab.async false
set_option linter.all false
set_option maxRecDepth 100000
set_option maxHeartbeats 4000000
namespace Pl
open PySem Ci
theorem PF0 : mM.PF 0 = some i_is_integer := rfl
theorem PF1 : mM.PF 1 = some i_check_spans := rfl
theorem PF2 : mM.PF 2 = some i_is_span := rfl
theorem PF3 : mM.PF 3 = some i_check_whole := rfl
theorem PF4 : mM.PF 4 = some i_gaps_in := rfl
theorem PF5 : mM.PF 5 = some i_holes := rfl
theorem PF6 : mM.PF 6 = some i_judge_watch := rfl
theorem PF7 : mM.PF 7 = some i_fewest_watches := rfl
theorem PF8 : mM.PF 8 = some i_accept_watches := rfl
theorem PF9 : mM.PF 9 = some i_accept_hours := rfl
theorem PF10 : mM.PF 10 = some i_check_rest := rfl
theorem PF11 : mM.PF 11 = some i_fewest_men := rfl
theorem PF12 : mM.PF 12 = some i_accept_men := rfl
theorem PF13 : mM.PF 13 = some i_accept_crowd := rfl
theorem PF14 : mM.PF 14 = some i_crowded_hour := rfl
theorem PF15 : mM.PF 15 = some i_check_men := rfl
theorem PF16 : mM.PF 16 = some i_is_hours := rfl
theorem PF17 : mM.PF 17 = some i_shared_day := rfl
theorem PF18 : mM.PF 18 = some i_way_more := rfl
theorem PF19 : mM.PF 19 = some i_come_hours := rfl
theorem PF20 : mM.PF 20 = some i_accept_short := rfl
theorem PF21 : mM.PF 21 = some i_accept_day := rfl
theorem PF25 : mM.PF 25 = some i__law_word := rfl
theorem PF26 : mM.PF 26 = some i__law_asked := rfl
theorem PF27 : mM.PF 27 = some i__law_whole := rfl
theorem PF28 : mM.PF 28 = some i__law_bent := rfl
theorem PF29 : mM.PF 29 = some i__law_told := rfl
theorem PF30 : mM.PF 30 = some i__law_first := rfl
theorem PF31 : mM.PF 31 = some i__law_watches_hold := rfl
theorem PF32 : mM.PF 32 = some i__law_days_hold := rfl
theorem PF33 : mM.PF 33 = some i_law := rfl
/-! plain data: no list, no reference; tuples of at most N items -/
mutual
def pln (N : Nat) : D → Bool
  | .non => true
  | .bl _ => true
  | .int _ => true
  | .str _ => true
  | .tup xs => decide (xs.length ≤ N) && plns N xs
  | _ => false
def plns (N : Nat) : List D → Bool
  | [] => true
  | x :: xs => pln N x && plns N xs
end
theorem plns_iff {N : Nat} : ∀ {xs : List D}, plns N xs = true ↔ ∀ x ∈ xs, pln N x = true
  | [] => by simp [plns]
  | x :: xs => by
    simp only [plns, Bool.and_eq_true, List.mem_cons, forall_eq_or_imp]
    rw [plns_iff]
theorem pln_tup {N : Nat} {xs : List D} : pln N (.tup xs) = true ↔ xs.length ≤ N ∧ ∀ x ∈ xs, pln N x = true := by
  simp only [pln, Bool.and_eq_true, decide_eq_true_eq]
  rw [plns_iff]
mutual
theorem pln_clear {N : Nat} : ∀ {d : D}, pln N d = true → d.clear = true
  | .non, _ => rfl
  | .bl _, _ => rfl
  | .int _, _ => rfl
  | .str _, _ => rfl
  | .tup xs, h => by
    simp only [pln, Bool.and_eq_true] at h
    simp only [D.clear]
    exact plns_clear h.2
  | .lst _, h => by simp [pln] at h
  | .ref _, h => by simp [pln] at h
  | .fn _, h => by simp [pln] at h
  | .exc _ _, h => by simp [pln] at h
  | .scr _, h => by simp [pln] at h
theorem plns_clear {N : Nat} : ∀ {xs : List D}, plns N xs = true → D.clears xs = true
  | [], _ => rfl
  | x :: xs, h => by
    simp only [plns, Bool.and_eq_true] at h
    simp only [D.clears, pln_clear h.1, plns_clear h.2, Bool.and_self]
end
mutual
theorem pln_mono {N M : Nat} (l : N ≤ M) : ∀ {d : D}, pln N d = true → pln M d = true
  | .non, _ => rfl
  | .bl _, _ => rfl
  | .int _, _ => rfl
  | .str _, _ => rfl
  | .tup xs, h => by
    simp only [pln, Bool.and_eq_true, decide_eq_true_eq] at h ⊢
    exact ⟨by omega, plns_mono l h.2⟩
  | .lst _, h => by simp [pln] at h
  | .ref _, h => by simp [pln] at h
  | .fn _, h => by simp [pln] at h
  | .exc _ _, h => by simp [pln] at h
  | .scr _, h => by simp [pln] at h
theorem plns_mono {N M : Nat} (l : N ≤ M) : ∀ {xs : List D}, plns N xs = true → plns M xs = true
  | [], _ => rfl
  | x :: xs, h => by
    simp only [plns, Bool.and_eq_true] at h ⊢
    exact ⟨pln_mono l h.1, plns_mono l h.2⟩
end
mutual
theorem thaw_pure (g : Hs) : ∀ (n : Nat) {d : D}, d.pure = true → thaw g n d = d
  | 0, _, _ => rfl
  | n + 1, .non, _ => rfl
  | n + 1, .bl _, _ => rfl
  | n + 1, .int _, _ => rfl
  | n + 1, .str _, _ => rfl
  | n + 1, .tup xs, h => by
    simp only [D.pure] at h
    show D.tup (xs.map (thaw g n)) = _
    rw [thaws_pure g n h]
  | n + 1, .lst xs, h => by
    simp only [D.pure] at h
    show D.lst (xs.map (thaw g n)) = _
    rw [thaws_pure g n h]
  | n + 1, .ref _, h => by simp [D.pure] at h
  | n + 1, .fn _, h => by simp [D.pure] at h
  | n + 1, .exc _ _, h => by simp [D.pure] at h
  | n + 1, .scr _, h => by simp [D.pure] at h
theorem thaws_pure (g : Hs) : ∀ (n : Nat) {xs : List D}, D.pures xs = true → xs.map (thaw g n) = xs
  | n, [], _ => rfl
  | n, x :: xs, h => by
    simp only [D.pures, Bool.and_eq_true] at h
    rw [List.map_cons, thaw_pure g n h.1, thaws_pure g n h.2]
end
mutual
theorem pure_clear : ∀ {d : D}, d.pure = true → d.clear = true
  | .non, _ => rfl
  | .bl _, _ => rfl
  | .int _, _ => rfl
  | .str _, _ => rfl
  | .tup xs, h => by simp only [D.pure] at h; simp only [D.clear]; exact pures_clear h
  | .lst xs, h => by simp only [D.pure] at h; simp only [D.clear]; exact pures_clear h
  | .ref _, h => by simp [D.pure] at h
  | .fn _, h => by simp [D.pure] at h
  | .exc _ _, h => by simp [D.pure] at h
  | .scr _, h => by simp [D.pure] at h
theorem pures_clear : ∀ {xs : List D}, D.pures xs = true → D.clears xs = true
  | [], _ => rfl
  | x :: xs, h => by
    simp only [D.pures, Bool.and_eq_true] at h
    simp only [D.clears, pure_clear h.1, pures_clear h.2, Bool.and_self]
end
theorem pcPure {call : Nat → List D → Hs → R D} {f : Nat} {ds : List D} {h g : Hs} {d : D} (c : D.clears ds = true) (e : call f ds [] = .ok d g) (p : d.pure = true) : pcallF call f ds h = .ok d h :=
  pcAny c e (thaw_pure _ _ p) (pure_clear p)
def isW : D → Bool
  | .int _ => true
  | _ => false
theorem isint_any {N : Nat} (k : Nat) (h : Hs) (d : D) (s : pln N d = true) : pcallF (callF mM.sub mM.PF (k + 1)) 0 [d] h = .ok (.bl (isW d)) h := by
  have e : callF mM.sub mM.PF (k + 1) 0 [d] [] = .ok (.bl (isW d)) [] := by
    rw [callS _ _ _ _ _ _ _ PF0]
    cases d <;> first | (simp [pln] at s; done) | (simp [callB_, i_is_integer, isW])
  exact pcOk (cl1 d (pln_clear s)) e rfl
def whB (a b : Int) : D → Bool
  | .int i => decide (a ≤ i) && decide (i ≤ b)
  | _ => false
theorem whole_any {N : Nat} (k : Nat) (h : Hs) (d : D) (a b : Int) (s : pln N d = true) : pcallF (callF mM.sub mM.PF (k + 1)) 27 [d, .int a, .int b] h = .ok (.bl (whB a b d)) h := by
  have e : callF mM.sub mM.PF (k + 1) 27 [d, .int a, .int b] [] = .ok (.bl (whB a b d)) [] := by
    rw [callS _ _ _ _ _ _ _ PF27]
    cases d with
    | int i =>
      by_cases q : a ≤ i
      · simp [callB_, i__law_whole, whB, q]
      · simp [callB_, i__law_whole, whB, q]
    | non => simp [callB_, i__law_whole, whB]
    | bl b => simp [callB_, i__law_whole, whB]
    | str b => simp [callB_, i__law_whole, whB]
    | tup b => simp [callB_, i__law_whole, whB]
    | _ => simp [pln] at s
  exact pcOk (by simp [D.clears, D.clear, pln_clear s]) e rfl
theorem cmp3I {sub : Nat → Nat → Bool} {call : Nat → List D → Hs → R D} {a b c d : E} {S : Sl} {h : Hs} {i j k l : Int} (ea : ev sub call a S h = .ok (.int i) h) (eb : ev sub call b S h = .ok (.int j) h) (ec : ev sub call c S h = .ok (.int k) h) (ed : ev sub call d S h = .ok (.int l) h) : ev sub call (.cmp3 .LtE .LtE .LtE a b c d) S h = .ok (.bl (decide (i ≤ j) && (decide (j ≤ k) && decide (k ≤ l)))) h := by
  simp only [ev, ea, eb, ec, ed, R.bind, rdInt, cmpLe]
  by_cases q1 : i ≤ j
  · by_cases q2 : j ≤ k
    · simp only [decide_eq_true q1, decide_eq_true q2, Bool.true_and, Option.map_some, liftSome]
    · simp only [decide_eq_true q1, decide_eq_false q2, Bool.true_and, Bool.false_and]
  · simp only [decide_eq_false q1, Bool.false_and]
/-! data -/
def pD (p : Int × Int) : D := .tup [.int p.1, .int p.2]
def psD (ps : List (Int × Int)) : List D := ps.map pD
theorem ps_len (ps : List (Int × Int)) : (psD ps).length = ps.length := by simp [psD]
theorem ps_pure (ps : List (Int × Int)) : D.pures (psD ps) = true := by
  induction ps with
  | nil => rfl
  | cons p ds ih => simp [psD, pD, D.pures, D.pure] at ih ⊢; exact ih
theorem ps_clear (ps : List (Int × Int)) : D.clears (psD ps) = true := pures_clear (ps_pure ps)
theorem ints_pure (is : List Int) : D.pures (is.map .int) = true := by
  induction is with
  | nil => rfl
  | cons p ps ih => simp [D.pures, D.pure, ih]
theorem ints_clear (is : List Int) : D.clears (is.map .int) = true := pures_clear (ints_pure is)
theorem b0 (x y : D) : atD [x, y] 0 = some x := rfl
theorem b1 (x y : D) : atD [x, y] 1 = some y := rfl
theorem t0 (x y z : D) : atD [x, y, z] 0 = some x := rfl
theorem t1 (x y z : D) : atD [x, y, z] 1 = some y := rfl
theorem t2 (x y z : D) : atD [x, y, z] 2 = some z := rfl
def spB : D → Bool
  | .tup [.int a, .int b] => decide (0 ≤ a) && (decide (a ≤ b) && decide (b ≤ 1000))
  | _ => false
theorem spB_is {d : D} (h : spB d = true) : ∃ p : Int × Int, d = pD p ∧ 0 ≤ p.1 ∧ p.1 ≤ p.2 ∧ p.2 ≤ 1000 := by
  unfold spB at h
  split at h
  · simp only [Bool.and_eq_true, decide_eq_true_eq] at h
    exact ⟨(_, _), rfl, h.1, h.2.1, h.2.2⟩
  · cases h
theorem spB_len {xs : List D} (l : xs.length ≠ 2) : spB (.tup xs) = false := by
  unfold spB
  split
  · rename_i e; cases e; simp at l
  · rfl
theorem spB_w1 {x y : D} (h : isW x = false) : spB (.tup [x, y]) = false := by
  cases x <;> first | (simp [isW] at h; done) | rfl
theorem spB_w2 {x y : D} (h : isW y = false) : spB (.tup [x, y]) = false := by
  cases x <;> cases y <;> first | (simp [isW] at h; done) | rfl
theorem span_ok {N : Nat} (k : Nat) (h : Hs) (d : D) (s : pln N d = true) (n1 : N ≤ 1000) : pcallF (callF mM.sub mM.PF (k + 2)) 2 [d] h = .ok (.bl (spB d)) h := by
  have e : callF mM.sub mM.PF (k + 2) 2 [d] [] = .ok (.bl (spB d)) [] := by
    rw [callS _ _ _ _ _ _ _ PF2]
    cases d with
    | non => simp [callB_, i_is_span, spB]
    | bl b => simp [callB_, i_is_span, spB]
    | int b => simp [callB_, i_is_span, spB]
    | str b => simp [callB_, i_is_span, spB]
    | tup xs =>
      obtain ⟨lx, px⟩ := pln_tup.1 s
      by_cases l : xs.length = 2
      · obtain ⟨x, y, rfl⟩ : ∃ x y, xs = [x, y] := by
          match xs, l with
          | [x, y], _ => exact ⟨x, y, rfl⟩
        have ix := isint_any k [] x (px x (by simp))
        have iy := isint_any k [] y (px y (by simp))
        cases wx : isW x with
        | false => rw [wx] at ix; cases wy : isW y with
          | false => rw [wy] at iy; simp [callB_, i_is_span, turnC_, ix, iy, spB_w1 wx]
          | true => rw [wy] at iy; simp [callB_, i_is_span, turnC_, ix, iy, spB_w1 wx]
        | true => rw [wx] at ix; cases wy : isW y with
          | false => rw [wy] at iy; simp [callB_, i_is_span, turnC_, ix, iy, spB_w2 wy]
          | true =>
            rw [wy] at iy
            cases x <;> first | (simp [isW] at wx; done) | skip
            cases y <;> first | (simp [isW] at wy; done) | skip
            rename_i a b
            have c3 := cmp3I (sub := mM.sub) (call := callF mM.sub mM.PF (k + 1)) (a := .lit (.int (0))) (b := .ix (.var 0) (.lit (.int (0)))) (c := .ix (.var 0) (.lit (.int (1)))) (d := .glb (Str.ofString "MAX_HOURS") (.int (1000))) (S := [some (.tup [.int a, .int b]), none]) (h := []) (i := 0) (j := a) (k := b) (l := 1000) (by simp) (by simp [b0]) (by simp [b1]) (by simp)
            simp [callB_, i_is_span, turnC_, ix, iy, c3, spB]
      · have l' : ((xs.length : Int) == 2) = false := by simp; omega
        simp [callB_, i_is_span, l', spB_len l]
    | _ => simp [pln] at s
  exact pcOk (cl1 d (pln_clear s)) e rfl
def gsB : D → Bool
  | .tup xs => decide (xs.length ≤ 60) && xs.all spB
  | _ => false
theorem gsB_is {d : D} (h : gsB d = true) : ∃ ps : List (Int × Int), d = .tup (psD ps) ∧ ps.length ≤ 60 ∧ ∀ p ∈ ps, 0 ≤ p.1 ∧ p.1 ≤ p.2 ∧ p.2 ≤ 1000 := by
  unfold gsB at h
  split at h
  · rename_i xs
    simp only [Bool.and_eq_true, decide_eq_true_eq, List.all_eq_true] at h
    obtain ⟨ps, rfl, q⟩ := ex_map (fun p : Int × Int => 0 ≤ p.1 ∧ p.1 ≤ p.2 ∧ p.2 ≤ 1000) pD xs (fun y hy => by
      obtain ⟨p, e, b⟩ := spB_is (h.2 y hy)
      exact ⟨p, b, e⟩)
    exact ⟨ps, rfl, by simpa using h.1, q⟩
  · cases h
theorem comp_map (g : D → D) (t : D → Hs → R (Option D)) (h : Hs) : ∀ xs : List D, (∀ x ∈ xs, t x h = .ok (some (g x)) h) → compF t xs h = .ok (xs.map g) h
  | [], _ => rfl
  | x :: xs, a => by simp only [compF, a x List.mem_cons_self, bindOk, comp_map g t h xs (fun y hy => a y (List.mem_cons_of_mem _ hy)), List.map_cons]
theorem comp_mapf {α : Type} (f g : α → D) (t : D → Hs → R (Option D)) (h : Hs) : ∀ (xs : List α), (∀ x ∈ xs, t (f x) h = .ok (some (g x)) h) → compF t (xs.map f) h = .ok (xs.map g) h
  | [], _ => rfl
  | x :: xs, a => by
    simp only [List.map_cons, compF, a x List.mem_cons_self, bindOk, comp_mapf f g t h xs (fun y hy => a y (List.mem_cons_of_mem _ hy))]
theorem bls_map (f : D → Bool) : ∀ xs : List D, blsOf (xs.map fun x => .bl (f x)) = some (xs.map f)
  | [] => rfl
  | x :: xs => by simp [bls_map f xs]
theorem all_map (f : D → Bool) (xs : List D) : ((xs.map f).all id) = xs.all f := by
  induction xs with
  | nil => rfl
  | cons x xs ih => simp_all
def galR (d : D) (h : Hs) : R D := if gsB d then .ok .non h else .exc 2 (.str (Str.ofString "spans")) h
theorem cspans_any {N : Nat} (k : Nat) (h : Hs) (d : D) (s : pln N d = true) (n1 : N ≤ 1000) : pcallF (callF mM.sub mM.PF (k + 3)) 1 [d] h = galR d h := by
  have e : callF mM.sub mM.PF (k + 3) 1 [d] [] = galR d [] := by
    rw [callS _ _ _ _ _ _ _ PF1]
    cases d with
    | non => simp [callB_, i_check_spans, galR, gsB]
    | bl b => simp [callB_, i_check_spans, galR, gsB]
    | int b => simp [callB_, i_check_spans, galR, gsB]
    | str b => simp [callB_, i_check_spans, galR, gsB]
    | tup xs =>
      obtain ⟨lx, px⟩ := pln_tup.1 s
      by_cases l : xs.length ≤ 60
      · have c := comp_map (fun x => .bl (spB x)) (turnC mM.sub (callF mM.sub mM.PF (k + 2)) (.pcall 2 (.cons (.var 1) .nil)) [1] (.nm 1) .omit [some (.tup xs), none]) [] xs (fun x hx => by
          simp [turnC_, span_ok k [] x (px x hx) n1])
        have l1 : xs.length ≤ 16777216 := by omega
        have l2 : ¬ (60 : Int) < xs.length := by omega
        cases e : xs.all spB with
        | true => simp [callB_, i_check_spans, galR, gsB, l, l1, l2, c, bls_map, all_map, e, -List.all_map, -List.all_eq_true, -List.all_eq_false]
        | false => simp [callB_, i_check_spans, galR, gsB, l, l1, l2, c, bls_map, all_map, e, -List.all_map, -List.all_eq_true, -List.all_eq_false]
      · have l2 : (60 : Int) < xs.length := by omega
        simp [callB_, i_check_spans, galR, gsB, l, l2]
    | _ => simp [pln] at s
  unfold galR at e ⊢
  split at e
  · rename_i q; rw [if_pos q]; exact pcOk (cl1 d (pln_clear s)) e rfl
  · rename_i q; rw [if_neg q]; exact pcExc (cl1 d (pln_clear s)) e rfl
theorem crest_any {N : Nat} (k : Nat) (h : Hs) (d : D) (s : pln N d = true) : pcallF (callF mM.sub mM.PF (k + 2)) 10 [d] h = if whB 0 1000 d then .ok .non h else .exc 3 (.str (Str.ofString "rest")) h := by
  have e : callF mM.sub mM.PF (k + 2) 10 [d] [] = if whB 0 1000 d then .ok .non [] else .exc 3 (.str (Str.ofString "rest")) [] := by
    rw [callS _ _ _ _ _ _ _ PF10]
    have q := isint_any k [] d s
    cases d with
    | int i =>
      by_cases q1 : 0 ≤ i
      · by_cases q2 : i ≤ 1000
        · simp [callB_, i_check_rest, q, isW, whB, q1, q2]
        · simp [callB_, i_check_rest, q, isW, whB, q1, q2]
      · simp [callB_, i_check_rest, q, isW, whB, q1]
    | non => simp [callB_, i_check_rest, q, isW, whB]
    | bl b => simp [callB_, i_check_rest, q, isW, whB]
    | str b => simp [callB_, i_check_rest, q, isW, whB]
    | tup b => simp [callB_, i_check_rest, q, isW, whB]
    | _ => simp [pln] at s
  split at e
  · rename_i q; rw [if_pos q]; exact pcOk (cl1 d (pln_clear s)) e rfl
  · rename_i q; rw [if_neg q]; exact pcExc (cl1 d (pln_clear s)) e rfl
end Pl

set_option Elab.async false
set_option linter.all false
set_option maxRecDepth 100000
set_option maxHeartbeats 4000000
namespace Pl
open PySem Ci
theorem isP_ps (ps : List (Int × Int)) : ∀ r ∈ psD ps, isP r := fun r hr => by
  obtain ⟨p, _, rfl⟩ := List.mem_map.1 hr
  exact ⟨p.1, p.2, rfl⟩
theorem isP_list {rows : List D} (h : ∀ r ∈ rows, isP r) : ∃ ps, rows = psD ps := by
  obtain ⟨ps, rfl, _⟩ := ex_map (fun _ : Int × Int => True) pD rows (fun y hy => by
    obtain ⟨a, b, rfl⟩ := h y hy
    exact ⟨(a, b), trivial, rfl⟩)
  exact ⟨ps, rfl⟩
theorem sortB_ps (ps : List (Int × Int)) : sortB (psD ps) = true := by
  unfold sortB
  rw [List.all_eq_true]
  intro r hr
  obtain ⟨p, _, rfl⟩ := List.mem_map.1 hr
  rfl
theorem sort_ps (ps : List (Int × Int)) (l : ps.length ≤ 1000) : ∃ out : List (Int × Int), out.length = ps.length ∧ bltD .sorted [.tup (psD ps)] = some (.lst (psD out)) ∧ bltD .sorted [.lst (psD ps)] = some (.lst (psD out)) := by
  cases ps with
  | nil => exact ⟨[], rfl, rfl, rfl⟩
  | cons p ps =>
    have hp := (List.mergeSort_perm (psD (p :: ps)) (PySem.W.dataLe false D.py))
    obtain ⟨out, eo⟩ := isP_list (rows := (psD (p :: ps)).mergeSort (PySem.W.dataLe false D.py)) (fun r hr => isP_ps _ r (hp.mem_iff.1 hr))
    have lo : out.length = (p :: ps).length := by
      have := hp.length_eq
      rw [eo, ps_len, ps_len] at this
      exact this
    have c : (alikeB (psD (p :: ps)) && sortB (psD (p :: ps)) && okL (psD (p :: ps)).length) = true := by
      rw [isP_all (isP_ps _), sortB_ps, ps_len]
      simp only [Bool.true_and]
      exact okLt (by omega)
    have i0 : intsOf (psD (p :: ps)) = none := rfl
    refine ⟨out, lo, ?_, ?_⟩
    · simp only [bltD, i0, c, if_true, eo]
    · simp only [bltD, i0, c, if_true, eo]
theorem sort_tupH (h : Hs) (ps : List (Int × Int)) (l : ps.length ≤ 1000) : ∃ out : List (Int × Int), out.length = ps.length ∧ ∀ h, bltH h .sorted [.tup (psD ps)] = some (.lst (psD out)) := by
  obtain ⟨out, a, b, _⟩ := sort_ps ps l
  exact ⟨out, a, fun h => by simp only [bltH, dct, rdTup, b]⟩
theorem sort_lstH (ps : List (Int × Int)) (l : ps.length ≤ 1000) : ∃ out : List (Int × Int), out.length = ps.length ∧ ∀ h, bltH h .sorted [.lst (psD ps)] = some (.lst (psD out)) := by
  obtain ⟨out, a, _, b⟩ := sort_ps ps l
  exact ⟨out, a, fun h => by simp only [bltH, dct, rdLst, b]⟩
theorem at_last (xs : List D) (x : D) : atD (xs ++ [x]) (-1) = some x := by
  have h1 : ((-1 : Int) + ((xs.length + 1 : Nat) : Int)).toNat = xs.length := by omega
  simp only [atD, ixI, List.length_append, List.length_singleton]
  rw [if_neg (by omega), if_pos (by omega), h1]
  simp
theorem set_last (xs : List D) (x y : D) : setD (xs ++ [x]) (-1) y = some (xs ++ [y]) := by
  have h1 : ((-1 : Int) + ((xs.length + 1 : Nat) : Int)).toNat = xs.length := by omega
  simp only [setD, ixI, List.length_append, List.length_singleton]
  rw [if_neg (by omega), if_pos (by omega), h1]
  simp
theorem snoc {α : Type} (L : List α) : L = [] ∨ ∃ M x, L = M ++ [x] := by
  rcases List.eq_nil_or_concat L with h | ⟨M, x, h⟩
  · exact .inl h
  · exact .inr ⟨M, x, by simpa using h⟩
/-- f ends with plain data -/
def Fin (k f : Nat) (ds : List D) : Prop := ∃ v g, callF mM.sub mM.PF k f ds [] = .ok v g ∧ v.pure = true
theorem min_ps (p : Int × Int) (ps : List (Int × Int)) : ∃ q : Int × Int, bltD .min1 [.lst (psD (p :: ps))] = some (.tup [.int q.1, .int q.2]) := by
  have i0 : intsOf (psD (p :: ps)) = none := rfl
  have c := isP_all (isP_ps (p :: ps))
  have m : ∀ (rows : List D) (x : D), isP x → (∀ r ∈ rows, isP r) → isP (minB x rows) := by
    intro rows
    induction rows with
    | nil => intro x hx _; exact hx
    | cons y r ih =>
      intro x hx hr
      simp only [minB]
      apply ih
      · split
        · exact hr y List.mem_cons_self
        · exact hx
      · exact fun z hz => hr z (List.mem_cons_of_mem _ hz)
  obtain ⟨a, b, e⟩ := m (psD ps) (pD p) ⟨_, _, rfl⟩ (isP_ps ps)
  refine ⟨(a, b), ?_⟩
  simp only [psD, List.map_cons] at c i0 e ⊢
  simp only [bltD, i0, c, if_true, e]
section
variable (k : Nat) (ps : List (Int × Int)) (l : ps.length ≤ 60)
def okPs (ps : List (Int × Int)) : Prop := ps.length ≤ 60 ∧ ∀ p ∈ ps, 0 ≤ p.1 ∧ p.1 ≤ p.2 ∧ p.2 ≤ 1000
end
theorem pln_ps (ps : List (Int × Int)) (l : ps.length ≤ 60) : pln 100 (.tup (psD ps)) = true := by
  rw [pln_tup]
  refine ⟨by rw [ps_len]; omega, fun x hx => ?_⟩
  obtain ⟨p, _, rfl⟩ := List.mem_map.1 hx
  rfl
theorem gsB_ps {ps : List (Int × Int)} (g : okPs ps) : gsB (.tup (psD ps)) = true := by
  simp only [gsB, Bool.and_eq_true, decide_eq_true_eq, List.all_eq_true]
  refine ⟨by rw [ps_len]; exact g.1, fun x hx => ?_⟩
  obtain ⟨p, hp, rfl⟩ := List.mem_map.1 hx
  have := g.2 p hp
  simp [spB, pD, this]
theorem cg_ok (k : Nat) (h : Hs) {ps : List (Int × Int)} (g : okPs ps) : pcallF (callF mM.sub mM.PF (k + 3)) 1 [.tup (psD ps)] h = .ok .non h := by
  rw [cspans_any k h _ (pln_ps ps g.1) (by omega), galR, gsB_ps g]; rfl
theorem zip_ps : ∀ (A B : List (Int × Int)), ∃ Z : List ((Int × Int) × (Int × Int)), Z.length ≤ A.length ∧ zipD (psD A) (psD B) = Z.map fun z => .tup [pD z.1, pD z.2]
  | [], B => ⟨[], by simp, by simp [psD, zipD]⟩
  | a :: A, [] => ⟨[], by simp, by simp [psD, zipD]⟩
  | a :: A, b :: B => by
    obtain ⟨Z, l, e⟩ := zip_ps A B
    simp only [psD] at e
    exact ⟨(a, b) :: Z, by simp; omega, by simp [psD, zipD, e]⟩
theorem cut_ps (L : List (Int × Int)) (lo hi : Option Int) : ∃ M, cutL (psD L) lo hi = psD M := by
  refine ⟨(L.drop (cutI L.length 0 lo)).take (cutI L.length L.length hi - cutI L.length 0 lo), ?_⟩
  simp [cutL, psD, List.map_drop, List.map_take]
theorem slLst {xs : List D} {lo hi : Option Int} : slD (.lst xs) lo hi = some (.lst (cutL xs lo hi)) := rfl
theorem slTup {xs : List D} {lo hi : Option Int} : slD (.tup xs) lo hi = some (.tup (cutL xs lo hi)) := rfl
end Pl

set_option Elab.async false
set_option linter.all false
set_option maxRecDepth 100000
set_option maxHeartbeats 4000000
namespace Pl
open PySem Ci
/-! check_whole -/
def whE (b e : D) : Bool := match b with
  | .int i => whB i 1000 e
  | _ => false
def whR (b e : D) (h : Hs) : R D := if whB 0 1000 b then (if whE b e then .ok .non h else .exc 3 (.str (Str.ofString "end")) h) else .exc 3 (.str (Str.ofString "begin")) h
theorem cwhole_any (k : Nat) (h : Hs) (b e : D) (sb : pln 100 b = true) (se : pln 100 e = true) : pcallF (callF mM.sub mM.PF (k + 2)) 3 [b, e] h = whR b e h := by
  have q : callF mM.sub mM.PF (k + 2) 3 [b, e] [] = whR b e [] := by
    rw [callS _ _ _ _ _ _ _ PF3]
    have ib := isint_any (N := 100) k [] b sb
    have ie := isint_any (N := 100) k [] e se
    cases b with
    | int i =>
      by_cases q1 : 0 ≤ i
      · by_cases q2 : i ≤ 1000
        · cases e with
          | int j =>
            by_cases q3 : i ≤ j
            · by_cases q4 : j ≤ 1000
              · simp [callB_, i_check_whole, ib, ie, isW, whB, whE, whR, q1, q2, q3, q4]
              · simp [callB_, i_check_whole, ib, ie, isW, whB, whE, whR, q1, q2, q3, q4]
            · simp [callB_, i_check_whole, ib, ie, isW, whB, whE, whR, q1, q2, q3]
          | non => simp [callB_, i_check_whole, ib, ie, isW, whB, whE, whR, q1, q2]
          | bl b => simp [callB_, i_check_whole, ib, ie, isW, whB, whE, whR, q1, q2]
          | str b => simp [callB_, i_check_whole, ib, ie, isW, whB, whE, whR, q1, q2]
          | tup b => simp [callB_, i_check_whole, ib, ie, isW, whB, whE, whR, q1, q2]
          | _ => simp [pln] at se
        · simp [callB_, i_check_whole, ib, isW, whB, whR, q1, q2]
      · simp [callB_, i_check_whole, ib, isW, whB, whR, q1]
    | non => simp [callB_, i_check_whole, ib, isW, whB, whR]
    | bl b => simp [callB_, i_check_whole, ib, isW, whB, whR]
    | str b => simp [callB_, i_check_whole, ib, isW, whB, whR]
    | tup b => simp [callB_, i_check_whole, ib, isW, whB, whR]
    | _ => simp [pln] at sb
  have cl : D.clears [b, e] = true := by simp [D.clears, pln_clear sb, pln_clear se]
  unfold whR at q ⊢
  split at q
  · rename_i q1
    rw [if_pos q1]
    split at q
    · rename_i q2; rw [if_pos q2]; exact pcOk cl q rfl
    · rename_i q2; rw [if_neg q2]; exact pcExc cl q rfl
  · rename_i q1
    rw [if_neg q1]
    exact pcExc cl q rfl
theorem cwh_ok (k : Nat) (h : Hs) {b e : Int} (b0 : 0 ≤ b) (b1 : b ≤ e) (e1 : e ≤ 1000) : pcallF (callF mM.sub mM.PF (k + 2)) 3 [.int b, .int e] h = .ok .non h := by
  rw [cwhole_any k h _ _ rfl rfl, whR]
  have : b ≤ 1000 := by omega
  simp [whB, whE, b0, b1, e1, this]
/-- a walk over a changing list that stays as it is -/
theorem dyn_fix (t : D → Hs → R (Option D)) (n : Nat) (xs : List D) (h : Hs) (q : h[n]? = some (.lst xs)) (a : ∀ x ∈ xs, ∃ o, t x h = .ok o h) : ∀ (k i : Nat), i ≤ xs.length → xs.length < i + k → compG t (.dyn n) k i h = compF t (xs.drop i) h
  | 0, i, h1, h2 => by omega
  | k + 1, i, h1, h2 => by
    unfold compG
    by_cases hl : i < xs.length
    · obtain ⟨o, e⟩ := a xs[i] (List.getElem_mem hl)
      have d : xs.drop i = xs[i] :: xs.drop (i + 1) := List.drop_eq_getElem_cons hl
      rw [d, compF]
      simp only [itm, q, List.getElem?_eq_getElem hl, e, bindOk, dyn_fix t n xs h q a k (i + 1) hl (by omega)]
    · have e : i = xs.length := by omega
      subst e
      rw [List.drop_length]
      simp [itm, q, srcOk, compF]
theorem kCompD {t : D → Hs → R (Option D)} {n : Nat} {h : Hs} : kComp t (.dyn n) h = compG t (.dyn n) wfuel 0 h := rfl
/-! holes -/
def hoB : St := stFor (stFst (stSnd (stSnd i_holes.body)))
theorem ho_turn (sub : Nat → Nat → Bool) (call : Nat → List D → Hs → R D) (g : D) (b e : Int) (p : Int × Int) (L : List (Int × Int)) (hour : Int) (l : L.length ≤ 1000) (v5 v6 v7 : Option D) : ∃ (L' : List (Int × Int)) (hour' : Int), L'.length ≤ L.length + 1 ∧ (turnF sub call (.tp (.cons (.nm 5) (.cons (.nm 6) .nil))) hoB (pD p) [some g, some (.int b), some (.int e), some (.ref 0), some (.int hour), v5, v6, v7] [.lst (psD L)] = .nx [some g, some (.int b), some (.int e), some (.ref 0), some (.int hour'), some (.int p.1), some (.int p.2), v7] [.lst (psD L')] ∨ turnF sub call (.tp (.cons (.nm 5) (.cons (.nm 6) .nil))) hoB (pD p) [some g, some (.int b), some (.int e), some (.ref 0), some (.int hour), v5, v6, v7] [.lst (psD L)] = .bk [some g, some (.int b), some (.int e), some (.ref 0), some (.int hour'), some (.int p.1), some (.int p.2), v7] [.lst (psD L')]) := by
  have l2 : L.length < 16777216 := by omega
  have key : ∀ (L' : List (Int × Int)), ex sub call (stFst hoB) [some g, some (.int b), some (.int e), some (.ref 0), some (.int hour), some (.int p.1), some (.int p.2), v7] [.lst (psD L)] = .nx [some g, some (.int b), some (.int e), some (.ref 0), some (.int hour), some (.int p.1), some (.int p.2), v7] [.lst (psD L')] → (turnF sub call (.tp (.cons (.nm 5) (.cons (.nm 6) .nil))) hoB (pD p) [some g, some (.int b), some (.int e), some (.ref 0), some (.int hour), v5, v6, v7] [.lst (psD L)] = .nx [some g, some (.int b), some (.int e), some (.ref 0), some (.int (if p.2 + 1 > hour then p.2 + 1 else hour)), some (.int p.1), some (.int p.2), v7] [.lst (psD L')] ∨ turnF sub call (.tp (.cons (.nm 5) (.cons (.nm 6) .nil))) hoB (pD p) [some g, some (.int b), some (.int e), some (.ref 0), some (.int hour), v5, v6, v7] [.lst (psD L)] = .bk [some g, some (.int b), some (.int e), some (.ref 0), some (.int (if p.2 + 1 > hour then p.2 + 1 else hour)), some (.int p.1), some (.int p.2), v7] [.lst (psD L')]) := by
    intro L' s1
    simp only [hoB, stFor, stFst, stSnd, i_holes] at s1
    by_cases c : e < (if p.2 + 1 > hour then p.2 + 1 else hour)
    · refine .inr ?_
      rw [turnF_]
      simp only [hoB, stFor, stFst, stSnd, i_holes, pD, put, puts, seqTup, Option.bind_some, putK]
      simp at s1 c ⊢
      simp [s1, c]
    · refine .inl ?_
      simp at s1 c ⊢
      have c' : decide (e < if hour < p.2 + 1 then p.2 + 1 else hour) = false := decide_eq_false (Int.not_lt.2 c)
      simp [turnF_, hoB, stFor, stFst, stSnd, i_holes, pD, s1, c', -decide_eq_false_iff_not]
  by_cases q : hour < p.1
  · refine ⟨L ++ [(hour, if e < p.1 - 1 then e else p.1 - 1)], _, by simp, key _ ?_⟩
    rw [show psD (L ++ [(hour, if e < p.1 - 1 then e else p.1 - 1)]) = psD L ++ [.tup [.int hour, .int (if e < p.1 - 1 then e else p.1 - 1)]] by simp [psD, pD]]
    simp [hoB, stFor, stFst, stSnd, i_holes, methD, isLst, sizeLine, ps_len, l2, q]
  · refine ⟨L, _, by omega, key _ ?_⟩
    simp [hoB, stFor, stFst, stSnd, i_holes, q]

theorem ho_loop (sub : Nat → Nat → Bool) (call : Nat → List D → Hs → R D) (g : D) (b e : Int) (v7 : Option D) : ∀ (out L : List (Int × Int)) (hour : Int) (v5 v6 : Option D), L.length + out.length ≤ 900 → ∃ (L' : List (Int × Int)) (hour' : Int) (u5 u6 : Option D), L'.length ≤ L.length + out.length ∧ forF (turnF sub call (.tp (.cons (.nm 5) (.cons (.nm 6) .nil))) hoB) (psD out) [some g, some (.int b), some (.int e), some (.ref 0), some (.int hour), v5, v6, v7] [.lst (psD L)] = .nx [some g, some (.int b), some (.int e), some (.ref 0), some (.int hour'), u5, u6, v7] [.lst (psD L')]
  | [], L, hour, v5, v6, l => ⟨L, hour, v5, v6, by simp, rfl⟩
  | p :: out, L, hour, v5, v6, l => by
    simp only [List.length_cons] at l
    obtain ⟨L1, hr1, l1, t⟩ := ho_turn sub call g b e p L hour (by omega) v5 v6 v7
    rcases t with t | t
    · obtain ⟨L', hour', u5, u6, l2, f⟩ := ho_loop sub call g b e v7 out L1 hr1 (some (.int p.1)) (some (.int p.2)) (by omega)
      refine ⟨L', hour', u5, u6, by simp only [List.length_cons]; omega, ?_⟩
      rw [psD, List.map_cons, forCons, t, kFtN]
      exact f
    · refine ⟨L1, hr1, some (.int p.1), some (.int p.2), by simp only [List.length_cons]; omega, ?_⟩
      rw [psD, List.map_cons, forCons, t, kFtB]
theorem holes_ok (k : Nat) (ps : List (Int × Int)) (l : ps.length ≤ 60) (b e : Int) : ∃ L : List (Int × Int), ∀ h, pcallF (callF mM.sub mM.PF (k + 1)) 5 [.tup (psD ps), .int b, .int e] h = .ok (.lst (psD L)) h := by
  obtain ⟨out, lo, so⟩ := sort_tupH [] ps (by omega)
  obtain ⟨L, hr, u5, u6, ll, f⟩ := ho_loop mM.sub (callF mM.sub mM.PF k) (.tup (psD ps)) b e none out [] b none none (by simp; omega)
  simp only [List.length_nil] at ll
  have cl : D.clears [.tup (psD ps), .int b, .int e] = true := by simp [D.clears, D.clear, ps_clear]
  have hl : L.length < 16777216 := by omega
  obtain ⟨M, lM, s3⟩ : ∃ M : List (Int × Int), M.length ≤ 1000 ∧ ex mM.sub (callF mM.sub mM.PF k) (stFst (stSnd (stSnd (stSnd i_holes.body)))) [some (.tup (psD ps)), some (.int b), some (.int e), some (.ref 0), some (.int hr), u5, u6, none] [.lst (psD L)] = .nx [some (.tup (psD ps)), some (.int b), some (.int e), some (.ref 0), some (.int hr), u5, u6, none] [.lst (psD M)] := by
    by_cases q : hr ≤ e
    · refine ⟨L ++ [(hr, e)], by simp; omega, ?_⟩
      rw [show psD (L ++ [(hr, e)]) = psD L ++ [.tup [.int hr, .int e]] by simp [psD, pD]]
      simp [stFst, stSnd, i_holes, methD, isLst, sizeLine, ps_len, hl, q]
    · exact ⟨L, by omega, by simp [stFst, stSnd, i_holes, q]⟩
  have t : ∀ p : Int × Int, turnC mM.sub (callF mM.sub mM.PF k) (.var 7) [7] (.nm 7) (.cmp .LtE (.ix (.var 7) (.lit (.int (0)))) (.ix (.var 7) (.lit (.int (1))))) [some (.tup (psD ps)), some (.int b), some (.int e), some (.ref 0), some (.int hr), u5, u6, none] (pD p) [.lst (psD M)] = .ok (if decide (p.1 ≤ p.2) then some (pD p) else none) [.lst (psD M)] := by
    intro p
    by_cases z : p.1 ≤ p.2
    · simp [turnC_, pD, b0, b1, z]
    · simp [turnC_, pD, b0, b1, z]
  have c0 := dyn_fix _ 0 (psD M) [.lst (psD M)] rfl (fun x hx => by
    obtain ⟨p, _, rfl⟩ := List.mem_map.1 hx
    exact ⟨_, t p⟩) wfuel 0 (Nat.zero_le _) (by rw [ps_len]; unfold wfuel; omega)
  have c1 := comp_pick pD (fun p : Int × Int => decide (p.1 ≤ p.2)) pD _ _ M (fun p _ => t p)
  rw [show M.map pD = psD M from rfl] at c1
  rw [List.drop_zero, c1] at c0
  refine ⟨M.filter fun p => decide (p.1 ≤ p.2), fun h => ?_⟩
  have e : callF mM.sub mM.PF (k + 1) 5 [.tup (psD ps), .int b, .int e] [] = .ok (.lst (psD (M.filter fun p => decide (p.1 ≤ p.2)))) [.lst (psD M)] := by
    rw [callS _ _ _ _ _ _ _ PF5]
    simp only [hoB, stFor, stFst, stSnd, i_holes] at f s3
    rw [show psD [] = [] from rfl] at f
    rw [show (M.filter fun p => decide (p.1 ≤ p.2)).map pD = psD (M.filter fun p => decide (p.1 ≤ p.2)) from rfl] at c0
    generalize psD (M.filter fun p => decide (p.1 ≤ p.2)) = W at c0 ⊢
    have so := so [.lst []]
    have B : ex mM.sub (callF mM.sub mM.PF k) i_holes.body [some (.tup (psD ps)), some (.int b), some (.int e), none, none, none, none, none] [] = .rt (.lst W) [.lst (psD M)] := by
      unfold i_holes
      refine step (S' := [some (.tup (psD ps)), some (.int b), some (.int e), some (.ref 0), none, none, none, none]) (h' := [.lst []]) (by simp) ?_
      refine step (S' := [some (.tup (psD ps)), some (.int b), some (.int e), some (.ref 0), some (.int b), none, none, none]) (h' := [.lst []]) (by simp) ?_
      refine step (S' := [some (.tup (psD ps)), some (.int b), some (.int e), some (.ref 0), some (.int hr), u5, u6, none]) (h' := [.lst (psD L)]) (by simp [so, f]) ?_
      refine step s3 ?_
      simp [srcOk, kCompD, c0]
    simp [callB_, show i_holes.np = 3 from rfl, show i_holes.nl = 8 from rfl, B]
  exact pcAny cl e (by rw [show thaw [.lst (psD M)] 6 (.lst (psD (M.filter fun p => decide (p.1 ≤ p.2)))) = .lst ((psD (M.filter fun p => decide (p.1 ≤ p.2))).map (thaw _ 5)) from rfl, thaws_pure _ _ (ps_pure _)]) (by simp only [D.clear]; exact ps_clear _)

theorem gaps_fin (k : Nat) {ps : List (Int × Int)} (g : okPs ps) {b e : Int} (b0 : 0 ≤ b) (b1 : b ≤ e) (e1 : e ≤ 1000) : Fin (k + 4) 4 [.tup (psD ps), .int b, .int e] := by
  obtain ⟨L, h5⟩ := holes_ok (k + 2) ps g.1 b e
  have c1 := cg_ok k [] g
  have c2 := cwh_ok (k + 1) [] b0 b1 e1
  have h5 : ∀ h, pcallF (callF mM.sub mM.PF (k + 3)) 5 [.tup (psD ps), .int b, .int e] h = .ok (.lst (psD L)) h := h5
  refine ⟨.tup (psD L), [], ?_, by simp [D.pure, ps_pure]⟩
  rw [callS _ _ _ _ _ _ _ PF4]
  simp [callB_, i_gaps_in, c1, c2, h5]
theorem judge_fin (k : Nat) {ps : List (Int × Int)} (g : okPs ps) {b e : Int} (b0' : 0 ≤ b) (b1' : b ≤ e) (e1 : e ≤ 1000) : Fin (k + 4) 6 [.tup (psD ps), .int b, .int e] := by
  obtain ⟨L, h5⟩ := holes_ok (k + 2) ps g.1 b e
  have c1 := cg_ok k [] g
  have c2 := cwh_ok (k + 1) [] b0' b1' e1
  have h5 : ∀ h, pcallF (callF mM.sub mM.PF (k + 3)) 5 [.tup (psD ps), .int b, .int e] h = .ok (.lst (psD L)) h := h5
  cases L with
  | nil =>
    refine ⟨.tup [.str (Str.ofString "kept")], [], ?_, rfl⟩
    rw [callS _ _ _ _ _ _ _ PF6]
    rw [show psD [] = [] from rfl] at h5
    simp [callB_, i_judge_watch, c1, c2, h5]
  | cons p L =>
    refine ⟨.tup [.str (Str.ofString "gap"), .int p.1], [], ?_, rfl⟩
    rw [callS _ _ _ _ _ _ _ PF6]
    have a0 : atD (psD (p :: L)) 0 = some (.tup [.int p.1, .int p.2]) := by simp [psD, pD, atD, ixI]
    have ne : (psD (p :: L)).isEmpty = false := rfl
    generalize psD (p :: L) = W at h5 a0 ne
    simp [callB_, i_judge_watch, c1, c2, h5, a0, ne, b0, -List.isEmpty_iff]
theorem crest_ok (k : Nat) (h : Hs) {r : Int} (r0 : 0 ≤ r) (r1 : r ≤ 1000) : pcallF (callF mM.sub mM.PF (k + 2)) 10 [.int r] h = .ok .non h := by
  rw [crest_any (N := 100) k h _ rfl]
  simp [whB, r0, r1]
theorem crowd_fin (k : Nat) {ps : List (Int × Int)} (g : okPs ps) {r : Int} (r0 : 0 ≤ r) (r1 : r ≤ 1000) : Fin (k + 4) 14 [.tup (psD ps), .int r] := by
  have c1 := cg_ok k [] g
  have c2 := crest_ok (k + 1) [] r0 r1
  have l60 := g.1
  have l1 : ps.length ≤ 16777216 := by omega
  have inner : ∀ (x : Int) (v4 : Option D), compF (turnC mM.sub (callF mM.sub mM.PF (k + 3)) (.lit (.int (1))) [5, 6] (.tp (.cons (.nm 5) (.cons (.nm 6) .nil))) (.cmp2 .LtE .LtE (.var 5) (.var 3) (.bin .Add (.var 6) (.var 1))) [some (.tup (psD ps)), some (.int r), none, some (.int x), v4, none, none]) (psD ps) [] = .ok ((ps.filter fun p => decide (p.1 ≤ x) && decide (x ≤ p.2 + r)).map fun _ => D.int 1) [] := by
    intro x v4
    apply comp_pick pD
    intro p hp
    by_cases q1 : p.1 ≤ x
    · by_cases q2 : x ≤ p.2 + r
      · simp [turnC_, pD, q1, q2]
      · simp [turnC_, pD, q1, q2]
    · simp [turnC_, pD, q1]
  have c := comp_mapf pD (fun p => pD (-((ps.filter fun q => decide (q.1 ≤ p.1) && decide (p.1 ≤ q.2 + r)).length : Int), p.1)) (turnC mM.sub (callF mM.sub mM.PF (k + 3)) (.tup (.cons (.neg (.blt .len (.cons (.il (.comp (.lit (.int (1))) [5, 6] (.tp (.cons (.nm 5) (.cons (.nm 6) .nil))) (.val (.var 0)) (.cmp2 .LtE .LtE (.var 5) (.var 3) (.bin .Add (.var 6) (.var 1))))) .nil))) (.cons (.var 3) .nil))) [3, 4] (.tp (.cons (.nm 3) (.cons (.nm 4) .nil))) .omit [some (.tup (psD ps)), some (.int r), none, none, none, none, none]) [] ps (by
    intro p hp
    have i := inner p.1 (some (.int p.2))
    have ll := List.length_filter_le (fun q : Int × Int => decide (q.1 ≤ p.1) && decide (p.1 ≤ q.2 + r)) ps
    generalize (ps.filter fun q => decide (q.1 ≤ p.1) && decide (p.1 ≤ q.2 + r)) = Z at i ll ⊢
    simp [turnC_, pD, ps_len, l1, i])
  rw [show ps.map pD = psD ps from rfl] at c
  rw [show ∀ f : Int × Int → Int × Int, ps.map (fun p => pD (f p)) = psD (ps.map f) from fun f => by simp [psD]] at c
  generalize (ps.map fun p => (-((ps.filter fun q => decide (q.1 ≤ p.1) && decide (p.1 ≤ q.2 + r)).length : Int), p.1)) = M at c
  cases M with
  | nil =>
    refine ⟨.non, [], ?_, rfl⟩
    rw [callS _ _ _ _ _ _ _ PF14]
    rw [show psD [] = [] from rfl] at c
    simp [callB_, i_crowded_hour, c1, c2, ps_len, l1, c]
  | cons p M =>
    obtain ⟨q, mq⟩ := min_ps p M
    refine ⟨.tup [.int (-q.1), .int q.2], [], ?_, rfl⟩
    rw [callS _ _ _ _ _ _ _ PF14]
    have ne : (psD (p :: M)).isEmpty = false := rfl
    generalize psD (p :: M) = PM at c mq ne
    simp [callB_, i_crowded_hour, c1, c2, ps_len, l1, c, mq, ne, b0, b1, -List.isEmpty_iff]
end Pl

set_option Elab.async false
set_option linter.all false
set_option maxRecDepth 100000
set_option maxHeartbeats 4000000
namespace Pl
open PySem Ci
theorem minB_mem : ∀ (rows : List D) (x : D), minB x rows ∈ x :: rows
  | [], x => by simp [minB]
  | y :: r, x => by
    have := minB_mem r (if PySem.W.dataLt y.py x.py then y else x)
    show minB _ r ∈ _
    rcases List.mem_cons.1 this with h | h
    · rw [h]; split <;> simp
    · exact List.mem_cons_of_mem _ (List.mem_cons_of_mem _ h)
theorem pD_inj {p q : Int × Int} (h : pD p = pD q) : p = q := by
  simp only [pD, D.tup.injEq, List.cons.injEq, D.int.injEq, and_true] at h
  exact Prod.ext h.1 h.2
theorem min_psm (p : Int × Int) (ps : List (Int × Int)) : ∃ q ∈ p :: ps, bltD .min1 [.lst (psD (p :: ps))] = some (.tup [.int q.1, .int q.2]) := by
  have i0 : intsOf (psD (p :: ps)) = none := rfl
  have c := isP_all (isP_ps (p :: ps))
  have m := minB_mem (psD ps) (pD p)
  obtain ⟨q, hq, e⟩ := List.mem_map.1 (show minB (pD p) (psD ps) ∈ (p :: ps).map pD from m)
  refine ⟨q, hq, ?_⟩
  simp only [psD, List.map_cons] at c i0 e ⊢
  have e : D.tup [.int q.1, .int q.2] = minB (pD p) (List.map pD ps) := e
  rw [e]
  generalize List.map pD ps = R at c i0
  simp only [bltD, i0, c, if_true]
theorem whlS {sub : Nat → Nat → Bool} {call : Nat → List D → Hs → R D} {c : E} {s : St} {S : Sl} {h : Hs} {n : Nat} : whlF (tst sub call c) (ex sub call s) (n + 1) S h = (tst sub call c S h).st S fun b h1 => if b then match ex sub call s S h1 with
      | .nx S' h' => whlF (tst sub call c) (ex sub call s) n S' h'
      | .ct S' h' => whlF (tst sub call c) (ex sub call s) n S' h'
      | .bk S' h' => .nx S' h'
      | r => r
    else .nx S h1 := rfl
theorem exWhl {sub : Nat → Nat → Bool} {call : Nat → List D → Hs → R D} {c : E} {s : St} {S : Sl} {h : Hs} : ex sub call (.whl c s) S h = whlF (tst sub call c) (ex sub call s) wfuel S h := rfl
theorem tst_ {sub : Nat → Nat → Bool} {call : Nat → List D → Hs → R D} {c : E} {S : Sl} {h : Hs} : tst sub call c S h = tru (ev sub call c S h) := rfl
theorem whlN {sub : Nat → Nat → Bool} {call : Nat → List D → Hs → R D} {c : E} {s : St} {S S' : Sl} {h h' : Hs} {n : Nat} (t : tst sub call c S h = .ok true h) (e : ex sub call s S h = .nx S' h') : whlF (tst sub call c) (ex sub call s) (n + 1) S h = whlF (tst sub call c) (ex sub call s) n S' h' := by
  rw [whlS, t]
  show (match ex sub call s S h with | .nx S' h' => _ | .ct S' h' => _ | .bk S' h' => _ | r => r) = _
  rw [e]
theorem whlR {sub : Nat → Nat → Bool} {call : Nat → List D → Hs → R D} {c : E} {s : St} {S : Sl} {h h' : Hs} {v : D} {n : Nat} (t : tst sub call c S h = .ok true h) (e : ex sub call s S h = .rt v h') : whlF (tst sub call c) (ex sub call s) (n + 1) S h = .rt v h' := by
  rw [whlS, t]
  show (match ex sub call s S h with | .nx S' h' => _ | .ct S' h' => _ | .bk S' h' => _ | r => r) = _
  rw [e]
theorem whlE {sub : Nat → Nat → Bool} {call : Nat → List D → Hs → R D} {c : E} {s : St} {S : Sl} {h : Hs} {n : Nat} (t : tst sub call c S h = .ok false h) : whlF (tst sub call c) (ex sub call s) (n + 1) S h = .nx S h := by
  rw [whlS, t]; rfl
/-! fewest_watches -/
def stWhl : St → St
  | .whl _ s => s
  | s => s
def fwB : St := stWhl (stFst (stSnd (stSnd (stSnd (stSnd i_fewest_watches.body)))))
theorem enum_le {α : Type} (xs : List α) : (enumP 0 xs).length = xs.length := enum_len xs 0
theorem enumP_mem {α : Type} : ∀ (xs : List α) (i : Nat) (z : Nat × α), z ∈ enumP i xs → z.2 ∈ xs ∧ i ≤ z.1 ∧ z.1 < i + xs.length
  | [], _, _, h => by cases h
  | x :: xs, i, z, h => by
    simp only [enumP, List.mem_cons] at h
    rcases h with rfl | h
    · simp
    · obtain ⟨a, b, c⟩ := enumP_mem xs (i + 1) z h
      exact ⟨List.mem_cons_of_mem _ a, by omega, by simp only [List.length_cons]; omega⟩
theorem fw_turn (sub : Nat → Nat → Bool) (call : Nat → List D → Hs → R D) {ps : List (Int × Int)} (g : okPs ps) (b e hour : Int) (L : List Int) (l : L.length ≤ 100000) (v5 : Option D) : (∃ h', ex sub call fwB [some (.tup (psD ps)), some (.int b), some (.int e), some (.ref 0), some (.int hour), v5, none, none, none] [.lst (L.map .int)] = .rt .non h') ∨ ∃ (a hour' : Int) (u5 : Option D), hour < hour' ∧ hour' ≤ 1001 ∧ ex sub call fwB [some (.tup (psD ps)), some (.int b), some (.int e), some (.ref 0), some (.int hour), v5, none, none, none] [.lst (L.map .int)] = .nx [some (.tup (psD ps)), some (.int b), some (.int e), some (.ref 0), some (.int hour'), u5, none, none, none] [.lst ((L ++ [a]).map .int)] := by
  have en : enumD 0 (psD ps) = (enumP 0 ps).map fun z => .tup [.int (z.1 : Nat), pD z.2] := enum_map pD ps 0
  have l60 := g.1
  have le : (enumD 0 (psD ps)).length ≤ 16777216 := by rw [en, List.length_map, enum_le]; omega
  have hl : L.length < 16777216 := by omega
  have c := comp_pick (fun z : Nat × (Int × Int) => D.tup [.int (z.1 : Nat), pD z.2]) (fun z => decide (z.2.1 ≤ hour) && decide (hour ≤ z.2.2)) (fun z => pD (-z.2.2, (z.1 : Nat))) (turnC sub call (.tup (.cons (.neg (.var 8)) (.cons (.var 6) .nil))) [6, 7, 8] (.tp (.cons (.nm 6) (.cons (.tp (.cons (.nm 7) (.cons (.nm 8) .nil))) .nil))) (.cmp2 .LtE .LtE (.var 7) (.var 4) (.var 8)) [some (.tup (psD ps)), some (.int b), some (.int e), some (.ref 0), some (.int hour), v5, none, none, none]) [.lst (L.map .int)] (enumP 0 ps) (by
    intro z hz
    by_cases q1 : z.2.1 ≤ hour
    · by_cases q2 : hour ≤ z.2.2
      · simp [turnC_, pD, q1, q2]
      · simp [turnC_, pD, q1, q2]
    · simp [turnC_, pD, q1])
  rw [← en] at c
  rw [show ∀ (f : Nat × (Int × Int) → Int × Int) (Z : List (Nat × (Int × Int))), Z.map (fun z => pD (f z)) = psD (Z.map f) from fun f Z => by simp [psD]] at c
  have mem : ∀ q ∈ ((enumP 0 ps).filter fun z => decide (z.2.1 ≤ hour) && decide (hour ≤ z.2.2)).map (fun z => (-z.2.2, ((z.1 : Nat) : Int))), hour ≤ -q.1 ∧ -q.1 ≤ 1000 := by
    intro q hq
    obtain ⟨z, hz, rfl⟩ := List.mem_map.1 hq
    obtain ⟨h1, h2⟩ := List.mem_filter.1 hz
    simp only [Bool.and_eq_true, decide_eq_true_eq] at h2
    have := (g.2 z.2 (enumP_mem ps 0 z h1).1)
    exact ⟨by simp; omega, by simp; omega⟩
  generalize ((enumP 0 ps).filter fun z => decide (z.2.1 ≤ hour) && decide (hour ≤ z.2.2)).map (fun z => (-z.2.2, ((z.1 : Nat) : Int))) = M at c mem
  cases M with
  | nil =>
    refine .inl ⟨[.lst (L.map .int)], ?_⟩
    rw [show psD [] = [] from rfl] at c
    simp [fwB, stWhl, stFst, stSnd, i_fewest_watches, le, c]
  | cons p M =>
    obtain ⟨q, hq, mq⟩ := min_psm p M
    have mm := mem q hq
    refine .inr ⟨q.2, -q.1 + 1, some (.lst (psD (p :: M))), by omega, by omega, ?_⟩
    have ne : (psD (p :: M)).isEmpty = false := rfl
    generalize psD (p :: M) = PM at c mq ne ⊢
    simp [fwB, stWhl, stFst, stSnd, i_fewest_watches, le, c, mq, ne, b0, b1, methD, isLst, sizeLine, hl, -List.isEmpty_iff]
theorem fw_loop (sub : Nat → Nat → Bool) (call : Nat → List D → Hs → R D) {ps : List (Int × Int)} (g : okPs ps) (b e : Int) (e1 : e ≤ 1000) : ∀ (n : Nat) (hour : Int) (L : List Int) (v5 : Option D), (1001 - hour).toNat < n → L.length + (1001 - hour).toNat ≤ 90000 → (∃ h', whlF (tst sub call (.cmp .LtE (.var 4) (.var 2))) (ex sub call fwB) n [some (.tup (psD ps)), some (.int b), some (.int e), some (.ref 0), some (.int hour), v5, none, none, none] [.lst (L.map .int)] = .rt .non h') ∨ ∃ (hour' : Int) (L' : List Int) (u5 : Option D), whlF (tst sub call (.cmp .LtE (.var 4) (.var 2))) (ex sub call fwB) n [some (.tup (psD ps)), some (.int b), some (.int e), some (.ref 0), some (.int hour), v5, none, none, none] [.lst (L.map .int)] = .nx [some (.tup (psD ps)), some (.int b), some (.int e), some (.ref 0), some (.int hour'), u5, none, none, none] [.lst (L'.map .int)]
  | 0, hour, L, v5, h1, h2 => by omega
  | n + 1, hour, L, v5, h1, h2 => by
    by_cases q : hour ≤ e
    · have t : tst sub call (.cmp .LtE (.var 4) (.var 2)) [some (.tup (psD ps)), some (.int b), some (.int e), some (.ref 0), some (.int hour), v5, none, none, none] [.lst (L.map .int)] = .ok true [.lst (L.map .int)] := by simp [tst_, q]
      rcases fw_turn sub call g b e hour L (by omega) v5 with ⟨h', x⟩ | ⟨a, hr, u5, k1, k2, x⟩
      · exact .inl ⟨h', whlR t x⟩
      · rw [whlN t x]
        exact fw_loop sub call g b e e1 n hr (L ++ [a]) u5 (by omega) (by simp; omega)
    · have t : tst sub call (.cmp .LtE (.var 4) (.var 2)) [some (.tup (psD ps)), some (.int b), some (.int e), some (.ref 0), some (.int hour), v5, none, none, none] [.lst (L.map .int)] = .ok false [.lst (L.map .int)] := by simp [tst_, q]
      exact .inr ⟨hour, L, v5, whlE t⟩
theorem fw_fin (k : Nat) {ps : List (Int × Int)} (g : okPs ps) {b e : Int} (b0' : 0 ≤ b) (b1' : b ≤ e) (e1 : e ≤ 1000) : Fin (k + 4) 7 [.tup (psD ps), .int b, .int e] := by
  have c1 := cg_ok k [] g
  have c2 := cwh_ok (k + 1) [] b0' b1' e1
  have f := fw_loop mM.sub (callF mM.sub mM.PF (k + 3)) g b e e1 wfuel b [] none (by unfold wfuel; omega) (by simp; omega)
  rw [List.map_nil] at f
  rcases f with ⟨h', f⟩ | ⟨hr, L, u5, f⟩
  · refine ⟨.non, h', ?_, rfl⟩
    rw [callS _ _ _ _ _ _ _ PF7]
    simp only [fwB, stWhl, stFst, stSnd, i_fewest_watches] at f
    simp [callB_, i_fewest_watches, c1, c2, exWhl, f]
  · refine ⟨.tup (L.map .int), [.lst (L.map .int)], ?_, by simp [D.pure, ints_pure]⟩
    rw [callS _ _ _ _ _ _ _ PF7]
    simp only [fwB, stWhl, stFst, stSnd, i_fewest_watches] at f
    simp [callB_, i_fewest_watches, c1, c2, exWhl, f]
end Pl

set_option Elab.async false
set_option linter.all false
set_option maxRecDepth 100000
set_option maxHeartbeats 4000000
namespace Pl
open PySem Ci
theorem rdR1 {a : O} {xs : List D} {r : Hs} : rd (a :: .lst xs :: r) (.ref 1) = .lst xs := rfl
theorem ixR1 {a : O} {xs : List D} {r : Hs} {y : D} : ixH (a :: .lst xs :: r) (.ref 1) y = ixD (.lst xs) y := rfl
def cutO (n : Nat) : Option D → Option D := fun o => match o with
  | some (.ref m) => if m < n then some (.ref m) else none
  | some d => if d.clear then some d else none
  | none => none
theorem evCompC {sub : Nat → Nat → Bool} {call : Nat → List D → Hs → R D} {e : Bool} {elt : E} {own : List Nat} {tg : Tg} {i : Nat} {cond : E} {S : Sl} {h h2 : Hs} {n : Nat} {ks ys : List D} (hS : S[i]? = some (some (.ref n))) (hk : (h[n]?).bind (srcC e) = some ks) (l : ks.length ≤ 100000) (cl : (h.take (n + 1)).all O.clear = true) (c : compF (turnC sub call elt own tg cond (cutS n S)) ks (h.take n) = .ok ys h2) (hl : h2.length = n) : ev sub call (.il (.compC e elt own tg i cond)) S h = .ok (.lst ys) (h2 ++ h.drop n) := by
  have et : turnC sub call elt own tg cond (cutS n S) = fun x h2 => match put (wipe (cutS n S) own) x tg with
      | some S2 => noX ((if cond.isOmit then (.ok true h2 : R Bool) else tru (ev sub call cond S2 h2)).bind fun k h3 => if k then (ev sub call elt S2 h3).bind fun y h4 => .ok (some y) h4 else .ok none h3)
      | none => .bad := by
    funext x h2
    unfold turnC
    cases put (wipe (cutS n S) own) x tg with
    | none => rfl
    | some S2 =>
      show noX _ = noX _
      congr 2
      funext k h3
      cases k <;> rfl
  rw [et] at c
  have o : (okL ks.length && (h.take (n + 1)).all O.clear) = true := by rw [okLt l, cl]; rfl
  simp only [ev, evL, hS, hk, o, if_true]
  exact (congrArg (fun r : R (List D) => ((Ci.noX r).bind fun ys h2 => if h2.length = n then (.ok ys (h2 ++ h.drop n) : R (List D)) else .bad).bind fun xs h1 => .ok (D.lst xs) h1) c).trans (by simp only [Ci.noX, R.bind, hl, if_true])
/-! three in a row -/
def tD (p : (Int × Int) × Nat) : D := .tup [pD p.1, .int (p.2 : Nat)]
def isT (d : D) : Prop := ∃ a b c, d = .tup [.tup [.int a, .int b], .int c]
theorem isT_facts : ∀ (rows : List D), (∀ r ∈ rows, isT r) → D.pures rows = true ∧ PyData.depthAll (D.pys rows) ≤ 3
  | [], _ => ⟨rfl, by simp [D.pys, PyData.depthAll]⟩
  | r :: rows, h => by
    obtain ⟨a, b, c, rfl⟩ := h r List.mem_cons_self
    obtain ⟨h1, h2⟩ := isT_facts rows fun x hx => h x (List.mem_cons_of_mem _ hx)
    refine ⟨by simp [D.pures, D.pure, h1], ?_⟩
    simp only [D.pys, D.py, PyData.depthAll, PyData.depth]
    omega
theorem isT_alike {x y : D} (hx : isT x) (hy : isT y) : PySem.W.alike x.py y.py = true := by
  obtain ⟨a, b, c, rfl⟩ := hx
  obtain ⟨a', b', c', rfl⟩ := hy
  simp [D.py, D.pys, PySem.W.alike, PySem.W.alikeAll]
theorem isT_all {rows : List D} (h : ∀ r ∈ rows, isT r) : alikeB rows = true := by
  obtain ⟨h1, h2⟩ := isT_facts rows h
  unfold alikeB
  simp only [h1, Bool.true_and, Bool.and_eq_true, decide_eq_true_eq, List.all_eq_true]
  refine ⟨⟨fun x hx y hy => isT_alike (h x hx) (h y hy), fun x hx => ?_⟩, by omega⟩
  obtain ⟨a, b, c, rfl⟩ := h x hx
  rfl
theorem sort_tD (zs : List ((Int × Int) × Nat)) (l : zs.length ≤ 1000) : ∃ out : List ((Int × Int) × Nat), (∀ x ∈ out, x ∈ zs) ∧ out.length = zs.length ∧ ∀ h, bltH h .sorted [.lst (zs.map tD)] = some (.lst (out.map tD)) := by
  have it : ∀ r ∈ zs.map tD, isT r := fun r hr => by
    obtain ⟨p, _, rfl⟩ := List.mem_map.1 hr
    exact ⟨_, _, _, rfl⟩
  cases zs with
  | nil => exact ⟨[], by simp, rfl, fun h => rfl⟩
  | cons z zs =>
    have hp := (List.mergeSort_perm ((z :: zs).map tD) (PySem.W.dataLe false D.py))
    obtain ⟨out, eo, ho⟩ := ex_map (fun x => x ∈ z :: zs) tD _ (fun y hy => by
      obtain ⟨p, hp', rfl⟩ := List.mem_map.1 (hp.mem_iff.1 hy)
      exact ⟨p, hp', rfl⟩)
    have lo : out.length = (z :: zs).length := by
      have := hp.length_eq
      rw [eo, List.length_map, List.length_map] at this
      exact this
    have so : sortB ((z :: zs).map tD) = true := by
      unfold sortB
      rw [List.all_eq_true]
      intro r hr
      obtain ⟨p, _, rfl⟩ := List.mem_map.1 hr
      rfl
    have c : (alikeB ((z :: zs).map tD) && sortB ((z :: zs).map tD) && okL ((z :: zs).map tD).length) = true := by
      rw [isT_all it, so]
      simp only [Bool.true_and]
      exact okLt (by rw [List.length_map]; omega)
    have i0 : intsOf ((z :: zs).map tD) = none := rfl
    have b : bltD .sorted [.lst ((z :: zs).map tD)] = some (.lst (out.map tD)) := by simp only [bltD, i0, c, if_true, eo]
    exact ⟨out, ho, lo, fun h => by simp only [bltH, dct, rdLst, b]⟩
/-! fewest_men -/
def fmB : St := stFor (stFst (stSnd (stSnd (stSnd (stSnd i_fewest_men.body)))))
theorem setR1 {a : O} {xs ys : List D} {r : Hs} {S : Sl} {i : Int} {x : D} (e : setD xs i x = some ys) : setO S (.ref 1) (.int i) x (a :: .lst xs :: r) = .nx S (a :: .lst ys :: r) := by
  simp [setO, e]
theorem set_nat (xs : List D) (n : Nat) (v : D) (l : n < xs.length) : setD xs (n : Nat) v = some (xs.set n v) := by
  have h0 : (0 : Int) ≤ (n : Int) := by omega
  have h1 : (n : Int) < (xs.length : Int) := by omega
  simp only [setD, ixI, h0, h1, if_true, Option.map_some, Int.toNat_natCast]
theorem pures_set : ∀ (xs : List D) (n : Nat) (v : D), D.pures xs = true → v.pure = true → D.pures (xs.set n v) = true
  | [], _, _, h, _ => h
  | x :: xs, 0, v, h, hv => by
    simp only [D.pures, Bool.and_eq_true] at h
    simp only [List.set_cons_zero, D.pures, hv, h.2, Bool.and_self]
  | x :: xs, n + 1, v, h, hv => by
    simp only [D.pures, Bool.and_eq_true] at h
    simp only [List.set_cons_succ, D.pures, h.1, pures_set xs n v h.2 hv, Bool.and_self]
theorem fm_turn (sub : Nat → Nat → Bool) (call : Nat → List D → Hs → R D) (g : D) (rest : Int) (F : List Int) (mns : List D) (pm : D.pures mns = true) (lF : F.length ≤ 1000) (z : (Int × Int) × Nat) (lz : z.2 < mns.length) (v4 v5 v6 v7 : Option D) : ∃ (F' : List Int) (mns' : List D) (u5 : Option D), D.pures mns' = true ∧ mns'.length = mns.length ∧ F'.length ≤ F.length + 1 ∧ turnF sub call (.tp (.cons (.tp (.cons (.nm 6) (.cons (.nm 7) .nil))) (.cons (.nm 4) .nil))) fmB (tD z) [some g, some (.int rest), some (.ref 0), some (.ref 1), v4, v5, v6, v7, none, none, none] [.lst (F.map .int), .lst mns] = .nx [some g, some (.int rest), some (.ref 0), some (.ref 1), some (.int (z.2 : Nat)), u5, some (.int z.1.1), some (.int z.1.2), none, none, none] [.lst (F'.map .int), .lst mns'] := by
  obtain ⟨⟨first, last⟩, at_⟩ := z
  have en : enumD 0 (F.map D.int) = (enumP 0 F).map fun z => .tup [.int (z.1 : Nat), .int z.2] := enum_map D.int F 0
  have ce := evCompC (sub := sub) (call := call) (e := true) (elt := .var 9) (own := [9, 10]) (tg := .tp (.cons (.nm 9) (.cons (.nm 10) .nil))) (i := 2) (cond := .cmp .LtE (.var 10) (.var 6)) (S := [some g, some (.int rest), some (.ref 0), some (.ref 1), some (.int (at_ : Nat)), v5, some (.int first), some (.int last), none, none, none]) (h := [.lst (F.map .int), .lst mns]) (h2 := []) (n := 0) (ks := enumD 0 (F.map .int)) (ys := ((enumP 0 F).filter fun z => decide (z.2 ≤ first)).map fun z => D.int (z.1 : Nat)) rfl rfl (by rw [en, List.length_map, enum_le]; omega) (by simp [O.clear, ints_clear]) (by
    rw [en]
    apply comp_pick (fun z : Nat × Int => D.tup [.int (z.1 : Nat), .int z.2])
    intro z hz
    have cs : cutS 0 [some g, some (.int rest), some (.ref 0), some (.ref 1), some (.int (at_ : Nat)), v5, some (.int first), some (.int last), none, none, none] = [cutO 0 (some g), some (.int rest), none, none, some (.int (at_ : Nat)), cutO 0 v5, some (.int first), some (.int last), none, none, none] := rfl
    rw [cs]
    by_cases q : z.2 ≤ first
    · simp [turnC_, q]
    · simp [turnC_, q]) rfl
  simp only [List.nil_append, List.drop_zero] at ce
  have lt : ∀ z ∈ (enumP 0 F).filter (fun z => decide (z.2 ≤ first)), z.1 < F.length := fun z hz => by
    have := (enumP_mem F 0 z (List.mem_filter.1 hz).1).2.2
    omega
  generalize (enumP 0 F).filter (fun z => decide (z.2 ≤ first)) = Z at ce lt
  have sM : ∀ v, setD mns (at_ : Nat) v = some (mns.set at_ v) := fun v => set_nat mns at_ v lz
  cases Z with
  | nil =>
    refine ⟨F ++ [last + 1 + rest], mns.set at_ (.int (F.length : Nat)), some (.lst []), pures_set _ _ _ pm rfl, by simp, by simp, ?_⟩
    rw [List.map_nil] at ce
    have sM1 := sM (.int (F.length : Nat))
    have hl : F.length < 16777216 := by omega
    rw [List.map_append, List.map_singleton]
    simp [turnF_, fmB, stFor, stFst, stSnd, i_fewest_men, tD, pD, ce, setR1 sM1, methD, isLst, sizeLine, hl]
  | cons w Z =>
    have lw := lt w List.mem_cons_self
    refine ⟨F.set w.1 (last + 1 + rest), mns.set at_ (.int (w.1 : Nat)), some (.lst ((w :: Z).map fun z => D.int (z.1 : Nat))), pures_set _ _ _ pm rfl, by simp, by simp, ?_⟩
    have sM1 := sM (.int (w.1 : Nat))
    have sF := set_nat (F.map .int) w.1 (.int (last + 1 + rest)) (by simpa using lw)
    rw [← List.map_set] at sF
    have ne : ((w :: Z).map fun z => D.int (z.1 : Nat)).isEmpty = false := rfl
    have a0 : atD ((w :: Z).map fun z => D.int (z.1 : Nat)) 0 = some (.int (w.1 : Nat)) := by simp [atD, ixI]
    generalize ((w :: Z).map fun z => D.int (z.1 : Nat)) = G at ce ne a0 ⊢
    generalize F.set w.1 (last + 1 + rest) = F2 at sF ⊢
    simp [turnF_, fmB, stFor, stFst, stSnd, i_fewest_men, tD, pD, ce, setR1 sM1, setRef sF, ne, a0, -List.isEmpty_iff]
theorem fm_loop (sub : Nat → Nat → Bool) (call : Nat → List D → Hs → R D) (g : D) (rest : Int) (n : Nat) : ∀ (zs : List ((Int × Int) × Nat)) (F : List Int) (mns : List D) (v4 v5 v6 v7 : Option D), D.pures mns = true → mns.length = n → (∀ z ∈ zs, z.2 < n) → F.length + zs.length ≤ 1000 → ∃ (F' : List Int) (mns' : List D) (u4 u5 u6 u7 : Option D), D.pures mns' = true ∧ F'.length ≤ F.length + zs.length ∧ forF (turnF sub call (.tp (.cons (.tp (.cons (.nm 6) (.cons (.nm 7) .nil))) (.cons (.nm 4) .nil))) fmB) (zs.map tD) [some g, some (.int rest), some (.ref 0), some (.ref 1), v4, v5, v6, v7, none, none, none] [.lst (F.map .int), .lst mns] = .nx [some g, some (.int rest), some (.ref 0), some (.ref 1), u4, u5, u6, u7, none, none, none] [.lst (F'.map .int), .lst mns']
  | [], F, mns, v4, v5, v6, v7, pm, l, a, le => ⟨F, mns, v4, v5, v6, v7, pm, by simp, rfl⟩
  | z :: zs, F, mns, v4, v5, v6, v7, pm, l, a, le => by
    simp only [List.length_cons] at le
    obtain ⟨F1, m1, w5, p1, l1, lF, t⟩ := fm_turn sub call g rest F mns pm (by omega) z (by rw [l]; exact a z List.mem_cons_self) v4 v5 v6 v7
    obtain ⟨F', m', u4, u5, u6, u7, p', lf, f⟩ := fm_loop sub call g rest n zs F1 m1 (some (.int (z.2 : Nat))) w5 (some (.int z.1.1)) (some (.int z.1.2)) p1 (by rw [l1, l]) (fun x hx => a x (List.mem_cons_of_mem _ hx)) (by omega)
    refine ⟨F', m', u4, u5, u6, u7, p', by simp only [List.length_cons]; omega, ?_⟩
    rw [List.map_cons, forCons, t, kFtN]
    exact f
theorem evMrep {sub : Nat → Nat → Bool} {call : Nat → List D → Hs → R D} {S : Sl} {h h1 h2 : Hs} {a b : E} {xs : List D} {k : Nat} (ha : ev sub call a S h = .ok (.lst xs) h1) (hb : ev sub call b S h1 = .ok (.int (k : Nat)) h2) (l : k ≤ 1000) (lx : xs.length ≤ 1000) : ev sub call (.mrep a b) S h = .ok (.ref h2.length) (h2 ++ [.lst (List.replicate k xs).flatten]) := by
  have h0 : (0 : Int) ≤ (k : Int) := by omega
  have h1' : (k : Int) ≤ 2000 := by omega
  have h2' : xs.length ≤ 2000 := by omega
  simp only [ev, ha, hb, R.bind, rdLst, decide_eq_true h0, decide_eq_true h1', decide_eq_true h2', Bool.and_self, if_true, Int.toNat_natCast]
theorem pures_rep (n : Nat) : D.pures (List.replicate n .non) = true := by
  induction n with
  | zero => rfl
  | succ n ih => simp only [List.replicate_succ, D.pures, D.pure, ih, Bool.and_self]
theorem men_fin (k : Nat) {ps : List (Int × Int)} (g : okPs ps) {r : Int} (r0 : 0 ≤ r) (r1 : r ≤ 1000) : Fin (k + 4) 11 [.tup (psD ps), .int r] := by
  have c1 := cg_ok k [] g
  have c2 := crest_ok (k + 1) [] r0 r1
  have l60 := g.1
  have en : enumD 0 (psD ps) = (enumP 0 ps).map fun z => .tup [.int (z.1 : Nat), pD z.2] := enum_map pD ps 0
  have le : (enumD 0 (psD ps)).length ≤ 16777216 := by rw [en, List.length_map, enum_le]; omega
  obtain ⟨out, ho, lo, so⟩ := sort_tD ((enumP 0 ps).map fun z => (z.2, z.1)) (by rw [List.length_map, enum_le]; omega)
  have lo2 : out.length = ps.length := by rw [lo, List.length_map, enum_le]
  have hz : ∀ z ∈ out, z.2 < ps.length := fun z hz => by
    obtain ⟨w, hw, rfl⟩ := List.mem_map.1 (ho z hz)
    have := (enumP_mem ps 0 w hw).2.2
    simpa using this
  obtain ⟨F, mns, u4, u5, u6, u7, p', lF, f⟩ := fm_loop mM.sub (callF mM.sub mM.PF (k + 3)) (.tup (psD ps)) r ps.length out [] (List.replicate ps.length .non) none none none none (pures_rep _) (by simp) hz (by simp; omega)
  have c : ∀ S : List O, compF (turnC mM.sub (callF mM.sub mM.PF (k + 3)) (.tup (.cons (.var 8) (.cons (.var 4) .nil))) [4, 8] (.tp (.cons (.nm 4) (.cons (.nm 8) .nil))) .omit [some (.tup (psD ps)), some (.int r), some (.ref 0), some (.ref 1), none, none, none, none, none, none, none]) (enumD 0 (psD ps)) S = .ok (((enumP 0 ps).map fun z => (z.2, z.1)).map tD) S := by
    intro S
    rw [en, List.map_map]
    apply comp_mapf (fun z : Nat × (Int × Int) => D.tup [.int (z.1 : Nat), pD z.2])
    intro z hz
    simp [turnC_, tD]
  have mr := evMrep (sub := mM.sub) (call := callF mM.sub mM.PF (k + 3)) (S := [some (.tup (psD ps)), some (.int r), some (.ref 0), none, none, none, none, none, none, none, none]) (h := [.lst []]) (a := .il (.disp (.cons (.lit .non) .nil))) (b := .blt .len (.cons (.var 0) .nil)) (xs := [.non]) (k := ps.length) (h1 := [.lst []]) (h2 := [.lst []]) (by simp) (by simp [ps_len]) (by omega) (by simp)
  rw [show (List.replicate ps.length [D.non]).flatten = List.replicate ps.length .non by simp] at mr
  simp only [List.map_nil, List.length_nil, Nat.zero_add] at f lF
  refine ⟨.tup [.int (F.length : Nat), .tup mns], [.lst (F.map .int), .lst mns], ?_, by simp [D.pure, D.pures, p']⟩
  rw [callS _ _ _ _ _ _ _ PF11]
  simp only [fmB, stFor, stFst, stSnd, i_fewest_men] at f
  generalize List.replicate ps.length D.non = NN at f mr
  generalize ((enumP 0 ps).map fun z => (z.2, z.1)).map tD = RR at c so
  have B : ex mM.sub (callF mM.sub mM.PF (k + 3)) i_fewest_men.body [some (.tup (psD ps)), some (.int r), none, none, none, none, none, none, none, none, none] [] = .rt (.tup [.int (F.length : Nat), .tup mns]) [.lst (F.map .int), .lst mns] := by
    unfold i_fewest_men
    refine step (S' := [some (.tup (psD ps)), some (.int r), none, none, none, none, none, none, none, none, none]) (h' := []) (by simp [c1]) ?_
    refine step (S' := [some (.tup (psD ps)), some (.int r), none, none, none, none, none, none, none, none, none]) (h' := []) (by simp [c2]) ?_
    refine step (S' := [some (.tup (psD ps)), some (.int r), some (.ref 0), none, none, none, none, none, none, none, none]) (h' := [.lst []]) (by simp) ?_
    refine step (S' := [some (.tup (psD ps)), some (.int r), some (.ref 0), some (.ref 1), none, none, none, none, none, none, none]) (h' := [.lst [], .lst NN]) (by rw [exAsg, mr]; rfl) ?_
    refine step (S' := [some (.tup (psD ps)), some (.int r), some (.ref 0), some (.ref 1), u4, u5, u6, u7, none, none, none]) (h' := [.lst (F.map .int), .lst mns]) (by simp [le, c, so, f]) ?_
    simp [rdR1]
  simp [callB_, show i_fewest_men.np = 2 from rfl, show i_fewest_men.nl = 11 from rfl, B]
end Pl

set_option Elab.async false
set_option linter.all false
set_option maxRecDepth 100000
set_option maxHeartbeats 4000000
namespace Pl
open PySem Ci
def vd (n : Nat) : D → Bool
  | .int i => decide (0 ≤ i) && decide (i < n)
  | _ => false
def intsD : List D → List Int
  | [] => []
  | .int i :: r => i :: intsD r
  | _ :: r => intsD r
theorem ints_vd {n : Nat} : ∀ {xs : List D}, xs.all (vd n) = true → xs = (intsD xs).map .int ∧ ∀ i ∈ intsD xs, 0 ≤ i ∧ i < n
  | [], _ => ⟨rfl, by simp [intsD]⟩
  | x :: xs, h => by
    simp only [List.all_cons, Bool.and_eq_true] at h
    obtain ⟨e, b⟩ := ints_vd h.2
    cases x with
    | int i =>
      have hi := h.1
      simp only [vd, Bool.and_eq_true, decide_eq_true_eq] at hi
      refine ⟨by simp only [intsD, List.map_cons]; rw [← e], ?_⟩
      intro j hj
      simp only [intsD, List.mem_cons] at hj
      rcases hj with rfl | hj
      · exact hi
      · exact b j hj
    | _ => simp [vd] at h
/-- not rising -/
def nr (is : List Int) : Bool := (List.range (is.length - 1)).any fun k => decide (is.getD (k + 1) 0 ≤ is.getD k 0)
theorem rng_is (a j : Int) (h1 : -1000 ≤ a) (h2 : a ≤ 1000) (h3 : -1 ≤ j) (h4 : j ≤ 1000) : rangeD a j = some ((List.range (j - a).toNat).map fun k => .int (a + (k : Nat))) := by
  unfold rangeD
  have e : (decide (-(2 ^ 62) ≤ a) && decide (a < 2 ^ 62) && decide (-(2 ^ 62) ≤ j) && decide (j < 2 ^ 62)) = true := by
    simp; omega
  rw [if_pos e]
theorem rng_n (n : Nat) (l : n ≤ 1000) : rangeD 0 (n : Int) = some ((List.range n).map fun k => .int (k : Nat)) := by
  rw [rng_is 0 _ (by omega) (by omega) (by omega) (by omega)]
  simp
theorem il1 {sub : Nat → Nat → Bool} {call : Nat → List D → Hs → R D} {e : E} {vs : List Nat} {w : Tg} {c : E} {a : E} {j : Int} {S : Sl} {h : Hs} {L M : List D} (ha : ev sub call a S h = .ok (.int j) h) (r : rangeD 0 j = some M) (c2 : compF (turnC sub call e vs w c S) M h = .ok L h) (l : M.length ≤ 16777216) : ev sub call (.il (.comp e vs w (.rng1 a) c)) S h = .ok (.lst L) h := by
  simp [ha, r, c2, l]
theorem for1 {sub : Nat → Nat → Bool} {call : Nat → List D → Hs → R D} {t : Tg} {a : E} {b : St} {S : Sl} {h : Hs} {j : Int} {xs : List D} (ha : ev sub call a S h = .ok (.int j) h) (r : rangeD 0 j = some xs) : ex sub call (.for_ t (.rng1 a) b) S h = forF (turnF sub call t b) xs S h := by
  simp -implicitDefEqProofs [ha, r]
theorem at_is {is : List Int} {k : Nat} (h : k < is.length) : atD (is.map .int) (k : Nat) = some (.int (is.getD k 0)) := by
  have := atL (f := D.int) (cs := is) (i := (k : Nat)) (by omega) (by omega)
  rw [this]
  simp [List.getD_eq_getElem?_getD, h]
theorem intsD_map : ∀ is : List Int, intsD (is.map .int) = is
  | [] => rfl
  | i :: is => by simp [intsD, intsD_map is]
theorem rr0 (is : List Int) (l : is.length ≤ 1000) : rangeD 0 ((is.length : Int) - 1) = some ((List.range (is.length - 1)).map fun k => .int (k : Nat)) := by
  rw [rng_is 0 _ (by omega) (by omega) (by omega) (by omega)]
  have e : ((is.length : Int) - 1 - 0).toNat = is.length - 1 := by omega
  rw [e]
  simp
theorem rr1 (is : List Int) (l : is.length ≤ 1000) : rangeD 1 (is.length : Int) = some ((List.range (is.length - 1)).map fun k => .int (1 + (k : Nat))) := by
  rw [rng_is 1 _ (by omega) (by omega) (by omega) (by omega)]
  have e : ((is.length : Int) - 1).toNat = is.length - 1 := by omega
  rw [e]

def hoursB : D → Bool
  | .tup xs => xs.all (vd 24) && !nr (intsD xs)
  | _ => false
theorem hours_any (k : Nat) (h : Hs) (d : D) (s : pln 100 d = true) : pcallF (callF mM.sub mM.PF (k + 2)) 16 [d] h = .ok (.bl (hoursB d)) h := by
  have e : callF mM.sub mM.PF (k + 2) 16 [d] [] = .ok (.bl (hoursB d)) [] := by
    rw [callS _ _ _ _ _ _ _ PF16]
    cases d with
    | tup xs =>
      obtain ⟨lx, px⟩ := pln_tup.1 s
      have lx2 : xs.length ≤ 16777216 := by omega
      have c := comp_map (fun x => .bl (vd 24 x)) (turnC mM.sub (callF mM.sub mM.PF (k + 1)) (.and_ (.pcall 0 (.cons (.var 2) .nil)) (.cmp2 .LtE .Lt (.lit (.int (0))) (.var 2) (.lit (.int (24))))) [2] (.nm 2) .omit [some (.tup xs), none, none]) [] xs (fun x hx => by
        have ix := isint_any (N := 100) k [] x (px x hx)
        have p1 := px x hx
        cases x with
        | int i =>
          by_cases q1 : 0 ≤ i
          · by_cases q2 : i < 24
            · simp [turnC_, ix, isW, vd, q1, q2]
            · simp [turnC_, ix, isW, vd, q1, q2]
          · simp [turnC_, ix, isW, vd, q1]
        | non => simp [turnC_, ix, isW, vd]
        | bl b => simp [turnC_, ix, isW, vd]
        | str b => simp [turnC_, ix, isW, vd]
        | tup b => simp [turnC_, ix, isW, vd]
        | _ => simp [pln] at p1)
      cases a : xs.all (vd 24) with
      | false => simp [callB_, i_is_hours, hoursB, lx2, c, bls_map, all_map, a, -List.all_map, -List.all_eq_true, -List.all_eq_false]
      | true =>
        obtain ⟨ex, _⟩ := ints_vd a
        obtain ⟨is, eis⟩ : ∃ is, intsD xs = is := ⟨_, rfl⟩
        rw [eis] at ex
        have li : is.length = xs.length := by rw [ex]; simp
        have rr := rr0 is (by omega)
        have c2 := comp_pick (fun j : Nat => D.int (j : Int)) (fun j : Nat => decide (is.getD (j + 1) 0 ≤ is.getD j 0)) (fun _ => D.int 1) (turnC mM.sub (callF mM.sub mM.PF (k + 1)) (.lit (.int (1))) [1] (.nm 1) (.cmp .GtE (.ix (.var 0) (.var 1)) (.ix (.var 0) (.bin .Add (.var 1) (.lit (.int (1)))))) [some (.tup xs), none, none]) [] (List.range (is.length - 1)) (by
          intro j hj
          have hj := List.mem_range.1 hj
          have a1 := at_is (is := is) (k := j) (by omega)
          have a2 := at_is (is := is) (k := j + 1) (by omega)
          rw [show ((j + 1 : Nat) : Int) = (j : Int) + 1 by omega] at a2
          rw [← ex] at a1 a2
          by_cases q : is.getD (j + 1) 0 ≤ is.getD j 0
          · simp only [turnC_, put, wipe]
            simp [a1, a2, q, -List.getD_eq_getElem?_getD]
          · simp only [turnC_, put, wipe]
            simp [a1, a2, q, -List.getD_eq_getElem?_getD])
        have ne := filter_any (fun _ : Nat => D.int 1) (fun j : Nat => decide (is.getD (j + 1) 0 ≤ is.getD j 0)) (List.range (is.length - 1))
        have en : nr is = (List.range (is.length - 1)).any fun j => decide (is.getD (j + 1) 0 ≤ is.getD j 0) := rfl
        rw [← en] at ne
        generalize ((List.range (is.length - 1)).filter _).map (fun _ => D.int 1) = Z at c2 ne
        rw [li] at rr c2
        have lr : xs.length - 1 ≤ 16777216 := by omega
        simp [callB_, i_is_hours, hoursB, lx2, lr, c, bls_map, all_map, a, rr, c2, ne, eis, -List.all_map, -List.all_eq_true, -List.all_eq_false, -List.isEmpty_iff]
    | non => simp [callB_, i_is_hours, hoursB]
    | bl b => simp [callB_, i_is_hours, hoursB]
    | int b => simp [callB_, i_is_hours, hoursB]
    | str b => simp [callB_, i_is_hours, hoursB]
    | _ => simp [pln] at s
  exact pcOk (cl1 d (pln_clear s)) e rfl
def menB : D → Bool
  | .tup xs => (decide (1 ≤ xs.length) && decide (xs.length ≤ 12)) && xs.all hoursB
  | _ => false
theorem cmen_any (k : Nat) (h : Hs) (d : D) (s : pln 100 d = true) : pcallF (callF mM.sub mM.PF (k + 3)) 15 [d] h = if menB d then .ok .non h else .exc 3 (.str (Str.ofString "men")) h := by
  have e : callF mM.sub mM.PF (k + 3) 15 [d] [] = if menB d then .ok .non [] else .exc 3 (.str (Str.ofString "men")) [] := by
    rw [callS _ _ _ _ _ _ _ PF15]
    cases d with
    | tup xs =>
      obtain ⟨lx, px⟩ := pln_tup.1 s
      have lx2 : xs.length ≤ 16777216 := by omega
      have c := comp_map (fun x => .bl (hoursB x)) (turnC mM.sub (callF mM.sub mM.PF (k + 2)) (.pcall 16 (.cons (.var 1) .nil)) [1] (.nm 1) .omit [some (.tup xs), none]) [] xs (fun x hx => by simp [turnC_, hours_any k [] x (px x hx)])
      by_cases l1 : 1 ≤ xs.length
      · have l1' : (1 : Int) ≤ xs.length := by omega
        by_cases l2 : xs.length ≤ 12
        · have l2' : (xs.length : Int) ≤ 12 := by omega
          cases a : xs.all hoursB with
          | true => simp [callB_, i_check_men, menB, l1, l1', l2, l2', lx2, c, bls_map, all_map, a, -List.all_map, -List.all_eq_true, -List.all_eq_false]
          | false => simp [callB_, i_check_men, menB, l1, l1', l2, l2', lx2, c, bls_map, all_map, a, -List.all_map, -List.all_eq_true, -List.all_eq_false]
        · have l2' : ¬ (xs.length : Int) ≤ 12 := by omega
          simp [callB_, i_check_men, menB, l1, l1', l2, l2']
      · have l1' : ¬ (1 : Int) ≤ xs.length := by omega
        simp [callB_, i_check_men, menB, l1, l1']
    | non => simp [callB_, i_check_men, menB]
    | bl b => simp [callB_, i_check_men, menB]
    | int b => simp [callB_, i_check_men, menB]
    | str b => simp [callB_, i_check_men, menB]
    | _ => simp [pln] at s
  split at e
  · rename_i q; rw [if_pos q]; exact pcOk (cl1 d (pln_clear s)) e rfl
  · rename_i q; rw [if_neg q]; exact pcExc (cl1 d (pln_clear s)) e rfl
def msD (mss : List (List Int)) : List D := mss.map fun is => .tup (is.map .int)
theorem menB_is {d : D} (h : menB d = true) : ∃ mss, d = .tup (msD mss) ∧ 1 ≤ mss.length ∧ mss.length ≤ 12 := by
  unfold menB at h
  split at h
  · rename_i xs
    simp only [Bool.and_eq_true, decide_eq_true_eq, List.all_eq_true] at h
    obtain ⟨mss, rfl, _⟩ := ex_map (fun _ : List Int => True) (fun is => D.tup (is.map .int)) xs (fun y hy => by
      have := h.2 y hy
      unfold hoursB at this
      split at this
      · rename_i zs
        simp only [Bool.and_eq_true] at this
        obtain ⟨e, _⟩ := ints_vd this.1
        exact ⟨intsD zs, trivial, by rw [← e]⟩
      · cases this)
    exact ⟨mss, rfl, by simpa using h.1⟩
  · cases h
end Pl

set_option Elab.async false
set_option linter.all false
set_option maxRecDepth 100000
set_option maxHeartbeats 4000000
namespace Pl
open PySem Ci
/-! way_more -/
abbrev Ent := Nat × Nat × Option Nat
def oD : Option Nat → D
  | none => .non
  | some m => .int (m : Nat)
def eD (e : Ent) : Ky × D := (.inl (e.1 : Nat), .tup [.int (e.2.1 : Nat), oD e.2.2])
def qD (q : Nat × Option Nat) : D := .tup [.int (q.1 : Nat), oD q.2]
def keysR (R : List Ent) : List Nat := R.map (·.1)
def Good (n : Nat) : List Ent → Prop
  | [] => True
  | e :: r => e.1 < n ∧ e.1 ∉ keysR r ∧ e.2.1 < 24 ∧ (∀ g, e.2.2 = some g → g ∈ keysR r) ∧ Good n r
def qOk (R : List Ent) (q : Nat × Option Nat) : Prop := q.1 < 24 ∧ ∀ g, q.2 = some g → g ∈ keysR R
def freeN (n : Nat) (R : List Ent) : Nat := (List.range n).countP fun j => !(keysR R).contains j
theorem count_less (p : Nat → Bool) (m : Nat) : ∀ l : List Nat, m ∈ l → p m = true → l.countP (fun j => p j && !(j == m)) + 1 ≤ l.countP p
  | [], h, _ => by cases h
  | x :: l, h, pm => by
    have mono : l.countP (fun j => p j && !(j == m)) ≤ l.countP p := List.countP_mono_left fun j _ hj => by
      simp only [Bool.and_eq_true] at hj
      exact hj.1
    rw [List.countP_cons, List.countP_cons]
    rcases List.mem_cons.1 h with rfl | h
    · simp [pm]; omega
    · have ih := count_less p m l h pm
      by_cases e : x = m
      · subst e; simp [pm]; omega
      · cases px : p x <;> simp [px, e] <;> omega
theorem free_less (n : Nat) (R : List Ent) (e : Ent) (h : e.1 < n) (q : e.1 ∉ keysR R) : freeN n (e :: R) + 1 ≤ freeN n R := by
  have := count_less (fun j => !(keysR R).contains j) e.1 (List.range n) (List.mem_range.2 h) (by simpa using q)
  refine Nat.le_trans (Nat.add_le_add_right (List.countP_mono_left fun j _ hj => ?_) 1) this
  simp only [keysR, List.map_cons, List.contains_cons, Bool.not_eq_true', Bool.or_eq_false_iff, Bool.and_eq_true] at hj ⊢
  exact ⟨hj.2, hj.1⟩
def hw (T : List D) (r : Hs) (R : List Ent) (Q : List (Nat × Option Nat)) : Hs := .lst T :: (r ++ [.dct (R.reverse.map eD), .lst (Q.map qD)])
section
variable {a x y z : O} {r : Hs}
theorem getA : (a :: (r ++ [x, y]))[r.length + 1]? = some x := by simp
theorem getB : (a :: (r ++ [x, y]))[r.length + 1 + 1]? = some y := by simp
theorem setA : (a :: (r ++ [x, y])).set (r.length + 1) z = a :: (r ++ [z, y]) := by simp [List.set_append_right]
theorem setB : (a :: (r ++ [x, y])).set (r.length + 1 + 1) z = a :: (r ++ [x, z]) := by
  simp [List.set_append_right]
end
theorem eD_any (C : List Ent) (m : Nat) : ((C.map eD).any fun kv => decide (kv.1 = Sum.inl (m : Int))) = (keysR C).contains m := by
  induction C with
  | nil => rfl
  | cons e C ih =>
    simp only [List.map_cons, List.any_cons, ih, keysR, List.contains_cons]
    congr 1
    by_cases q : e.1 = m
    · simp [eD, q]
    · have h1 : (decide ((eD e).1 = Sum.inl (m : Int))) = false := decide_eq_false fun h => q (by simp only [eD, Sum.inl.injEq] at h; exact_mod_cast h)
      rw [h1]
      exact (beq_false_of_ne fun h => q h.symm).symm
theorem dval_none (C : List Ent) (m : Nat) (h : m ∉ keysR C) : dval (C.map eD) (.inl (m : Int)) = none := by
  unfold dval
  rw [Option.map_eq_none_iff, List.find?_eq_none]
  intro kv hkv e
  obtain ⟨x, hx, rfl⟩ := List.mem_map.1 hkv
  simp only [eD, decide_eq_true_eq, Sum.inl.injEq] at e
  have : x.1 = m := by exact_mod_cast e
  exact h (this ▸ List.mem_map.2 ⟨x, hx, rfl⟩)
theorem dval_some (C : List Ent) (m : Nat) (h : m ∈ keysR C) : (dval (C.map eD) (.inl (m : Int))).isSome = true := by
  unfold dval
  rw [Option.isSome_map, List.find?_isSome]
  obtain ⟨x, hx, e⟩ := List.mem_map.1 h
  exact ⟨eD x, List.mem_map.2 ⟨x, hx, rfl⟩, by simp [eD, e]⟩
theorem keys_rev (R : List Ent) (m : Nat) : m ∈ keysR R.reverse ↔ m ∈ keysR R := by
  simp [keysR]
theorem dput_new (C : List Ent) (m o : Nat) (g : Option Nat) (h : m ∉ keysR C) : dput (C.map eD) (.inl (m : Int)) (.tup [.int (o : Nat), oD g]) = (C ++ [(m, o, g)]).map eD := by
  unfold dput
  rw [eD_any]
  rw [if_neg (by simpa using h)]
  simp [eD]
theorem ints_lay (l : List Int) : PyData.canLayAll0 (D.pys (l.map .int)) = true ∧ PyData.depthAll (D.pys (l.map .int)) ≤ 0 := by
  induction l with
  | nil => exact ⟨rfl, Nat.le_refl 0⟩
  | cons a l ih => exact ⟨by simp only [List.map_cons, D.pys, D.py, PyData.canLayAll0, PyData.canLay0, ih.1, Bool.and_self], by simp only [List.map_cons, D.pys, D.py, PyData.depthAll, PyData.depth]; omega⟩
theorem ints_eqOk (l : List Int) : D.eqOk (.tup (l.map .int)) = true := by
  have c : PyData.canLay0 (D.py (.tup (l.map .int))) = true := by simp only [D.py, PyData.canLay0, (ints_lay l).1]
  have d : PyData.depth (D.py (.tup (l.map .int))) ≤ 64 := by simp only [D.py, PyData.depth]; have := (ints_lay l).2; omega
  simp only [D.eqOk, D.pure, ints_pure, SeqAt.shaped, c, decide_eq_true d, Bool.and_self]
theorem in_ints (h : Hs) (i : Int) (l : List Int) : cmpH h .In (.int i) (.tup (l.map .int)) = some (inD (.int i) (l.map .int)) := by
  have e1 : D.eqOk (.int i) = true := rfl
  simp only [cmpH, dct, rdTup, rdInt, cmpD, e1, ints_eqOk, Bool.and_self, if_true]
/-- hours told: none, or a man -/
def tOk (n : Nat) (x : D) : Prop := x = .non ∨ ∃ m, m < n ∧ x = .int (m : Nat)
def isM (m : Nat) : D → Bool
  | .int i => i == (m : Int)
  | _ => false
theorem eq_tOk {n : Nat} {x : D} (m : Nat) (h : tOk n x) : eqD x (.int (m : Nat)) = some (isM m x) := by
  rcases h with rfl | ⟨j, _, rfl⟩
  · rfl
  · exact eqInt
def wmB : St := stWhl (stFst (stSnd (stSnd i_way_more.body)))
def wmF : St := stFor (stSnd wmB)
/-- the frame -/
abbrev WS (mss : List (List Int)) (most hour : D) (c : Nat) (v6 v7 v8 : Option D) : Sl := [some (.tup (msD mss)), some most, some (.ref 0), some hour, some (.ref c), some (.ref (c + 1)), v6, v7, v8, none]
theorem wm_turn (sub : Nat → Nat → Bool) (call : Nat → List D → Hs → R D) (mss : List (List Int)) (most hour : D) (T : List D) (lT : T.length = 24) (tT : ∀ x ∈ T, tOk mss.length x) (r : Hs) (own : Nat) (lo : own < 24) (giver : Option Nat) (R : List Ent) (Q : List (Nat × Option Nat)) (m : Nat) (hm : m < mss.length) (gR : Good mss.length R) (gg : ∀ g, giver = some g → g ∈ keysR R) (gQ : ∀ q ∈ Q, qOk R q) (lR : R.length + freeN mss.length R ≤ 100) (lQ : Q.length + 25 * freeN mss.length R ≤ 1000) (v6 : Option D) :
    ∃ R' Q', Good mss.length R' ∧ (∀ g, giver = some g → g ∈ keysR R') ∧ (∀ q ∈ Q', qOk R' q) ∧ R'.length + freeN mss.length R' ≤ 100 ∧ Q'.length + 25 * freeN mss.length R' ≤ Q.length + 25 * freeN mss.length R ∧
      turnF sub call (.nm 6) wmF (.int (m : Nat)) (WS mss most hour (r.length + 1) v6 (some (.int (own : Nat))) (some (oD giver))) (hw T r R Q) = .nx (WS mss most hour (r.length + 1) (some (.int (m : Nat))) (some (.int (own : Nat))) (some (oD giver))) (hw T r R' Q') := by
  have am : atD (msD mss) (m : Nat) = some (.tup ((mss[m]'hm).map .int)) := by
    have h0 : (0 : Int) ≤ (m : Int) := by omega
    have h1 : (m : Int) < ((msD mss).length : Int) := by simp [msD]; omega
    simp only [atD, ixI, h0, h1, if_true, Option.bind_some, Int.toNat_natCast]
    simp [msD, hm]
  generalize (mss[m]'hm) = is at am
  have ci := in_ints (hw T r R Q) (own : Nat) is
  have hd : dct (hw T r R Q) (.ref (r.length + 1)) = some (R.reverse.map eD) := by
    unfold hw
    simp only [dct, getA]
  have cn : cmpH (hw T r R Q) .NotIn (.int (m : Nat)) (.ref (r.length + 1)) = some (!(dval (R.reverse.map eD) (.inl (m : Int))).isSome) := by
    simp only [cmpH, hd, kyOf, Option.map_some]
  cases b1 : inD (.int (own : Nat)) (is.map .int) with
  | false =>
    rw [b1] at ci
    refine ⟨R, Q, gR, gg, gQ, lR, Nat.le_refl _, ?_⟩
    generalize hw T r R Q = H at ci ⊢
    simp [turnF_, wmF, wmB, stFor, stWhl, stFst, stSnd, i_way_more, am, ci]
  | true =>
    rw [b1] at ci
    by_cases k : m ∈ keysR R
    · have ds := dval_some R.reverse m ((keys_rev R m).2 k)
      rw [ds] at cn
      refine ⟨R, Q, gR, gg, gQ, lR, Nat.le_refl _, ?_⟩
      generalize hw T r R Q = H at ci cn ⊢
      simp [turnF_, wmF, wmB, stFor, stWhl, stFst, stSnd, i_way_more, am, ci, cn]
    · have k' : m ∉ keysR R.reverse := fun q => k ((keys_rev R m).1 q)
      rw [dval_none _ _ k'] at cn
      have dp := dput_new R.reverse m own giver k'
      have fl := free_less mss.length R (m, own, giver) hm k
      -- what is laid behind
      have cT : ∀ H : Hs, (∀ y, ixH H (.ref 0) y = ixD (.lst T) y) → compF (turnC sub call (.tup (.cons (.var 9) (.cons (.var 6) .nil))) [9] (.nm 9) (.cmp .Eq (.ix (.var 2) (.var 9)) (.var 6)) (WS mss most hour (r.length + 1) (some (.int (m : Nat))) (some (.int (own : Nat))) (some (oD giver)))) ((List.range 24).map fun j => .int (j : Nat)) H = .ok (((List.range 24).filter fun j => isM m (T.getD j .non)).map fun j => qD (j, some m)) H := by
        intro H hH
        apply comp_pick (fun j : Nat => D.int (j : Nat))
        intro j hj
        have hj := List.mem_range.1 hj
        have aj : atD T (j : Nat) = some (T.getD j .non) := by
          have h0 : (0 : Int) ≤ (j : Int) := by omega
          have h1 : (j : Int) < (T.length : Int) := by omega
          simp only [atD, ixI, h0, h1, if_true, Option.bind_some, Int.toNat_natCast]
          rw [List.getD_eq_getElem?_getD, List.getElem?_eq_getElem (by omega)]; rfl
        have tj : tOk mss.length (T.getD j .non) := by
          rw [List.getD_eq_getElem?_getD, List.getElem?_eq_getElem (by omega)]
          exact tT _ (List.getElem_mem _)
        have ej := eq_tOk m tj
        generalize T.getD j .non = x at aj ej tj
        have rx : rd H x = x := by rcases tj with rfl | ⟨_, _, rfl⟩ <;> rfl
        cases e : isM m x with
        | true => rw [e] at ej; simp [turnC_, E.isOmit, hH, aj, rx, ej, qD, oD]
        | false => rw [e] at ej; simp [turnC_, E.isOmit, hH, aj, rx, ej]
      obtain ⟨W, hW⟩ : ∃ W, ((List.range 24).filter fun j => isM m (T.getD j .non)) = W := ⟨_, rfl⟩
      have lW : W.length ≤ 24 := by
        rw [← hW]
        have := List.length_filter_le (fun j => isM m (T.getD j .non)) (List.range 24)
        simpa using this
      have wW : ∀ j ∈ W, j < 24 := fun j hj => by
        rw [← hW] at hj
        exact List.mem_range.1 (List.mem_filter.1 hj).1
      simp only [hW] at cT
      refine ⟨(m, own, giver) :: R, Q ++ W.map fun j => (j, some m), ⟨hm, k, lo, gg, gR⟩, fun g hg => List.mem_cons_of_mem _ (gg g hg), ?_, by simp only [List.length_cons]; omega, by simp only [List.length_append, List.length_map]; omega, ?_⟩
      · intro q hq
        rcases List.mem_append.1 hq with hq | hq
        · obtain ⟨h1, h2⟩ := gQ q hq
          exact ⟨h1, fun g hg => List.mem_cons_of_mem _ (h2 g hg)⟩
        · obtain ⟨j, hj, rfl⟩ := List.mem_map.1 hq
          refine ⟨wW j hj, fun g hg => ?_⟩
          simp only [Option.some.injEq] at hg
          subst hg
          exact List.mem_cons_self
      · have r24 : rangeD 0 24 = some ((List.range 24).map fun j => .int (j : Nat)) := by rfl
        obtain ⟨H1, hH1⟩ : ∃ H1, hw T r ((m, own, giver) :: R) Q = H1 := ⟨_, rfl⟩
        have s1 : ∀ S, setO S (.ref (r.length + 1)) (.int (m : Nat)) (.tup [.int (own : Nat), oD giver]) (hw T r R Q) = .nx S H1 := by
          intro S
          rw [← hH1]
          unfold hw
          have l1 : (R.reverse.map eD).length < sizeLine := by unfold sizeLine; simp; omega
          simp only [setO, getA, l1, if_true, setA, dp]
          simp
        have il : isLst H1 (.ref (r.length + 1 + 1)) = true := by
          rw [← hH1]; unfold hw
          simp only [isLst, rd, getB]
        have me : methD .extend (.ref (r.length + 1 + 1)) [.lst (W.map fun j => qD (j, some m))] H1 = .ok .non (hw T r ((m, own, giver) :: R) (Q ++ W.map fun j => (j, some m))) := by
          rw [← hH1]; unfold hw
          have l2 : (Q.map qD).length + (W.map fun j => qD (j, some m)).length ≤ sizeLine := by unfold sizeLine; simp; omega
          simp only [methD, getB, l2, if_true, setB]
          simp
        have c1 := cT H1 (fun y => by rw [← hH1]; rfl)
        generalize hw T r ((m, own, giver) :: R) (Q ++ W.map fun j => (j, some m)) = H2 at me ⊢
        generalize (W.map fun j => qD (j, some m)) = WD at me c1
        generalize hw T r R Q = H at ci cn s1 ⊢
        simp [turnF_, wmF, wmB, stFor, stWhl, stFst, stSnd, i_way_more, am, ci, cn, s1, il, r24, c1, me]
theorem wm_for (sub : Nat → Nat → Bool) (call : Nat → List D → Hs → R D) (mss : List (List Int)) (most hour : D) (T : List D) (lT : T.length = 24) (tT : ∀ x ∈ T, tOk mss.length x) (r : Hs) (own : Nat) (lo : own < 24) (giver : Option Nat) : ∀ (ms : List Nat) (R : List Ent) (Q : List (Nat × Option Nat)) (v6 : Option D), (∀ m ∈ ms, m < mss.length) → Good mss.length R → (∀ g, giver = some g → g ∈ keysR R) → (∀ q ∈ Q, qOk R q) → R.length + freeN mss.length R ≤ 100 → Q.length + 25 * freeN mss.length R ≤ 1000 →
    ∃ R' Q' u6, Good mss.length R' ∧ (∀ q ∈ Q', qOk R' q) ∧ R'.length + freeN mss.length R' ≤ 100 ∧ Q'.length + 25 * freeN mss.length R' ≤ Q.length + 25 * freeN mss.length R ∧
      forF (turnF sub call (.nm 6) wmF) (ms.map fun m => .int (m : Nat)) (WS mss most hour (r.length + 1) v6 (some (.int (own : Nat))) (some (oD giver))) (hw T r R Q) = .nx (WS mss most hour (r.length + 1) u6 (some (.int (own : Nat))) (some (oD giver))) (hw T r R' Q')
  | [], R, Q, v6, _, gR, gg, gQ, lR, lQ => ⟨R, Q, v6, gR, gQ, lR, Nat.le_refl _, rfl⟩
  | m :: ms, R, Q, v6, a, gR, gg, gQ, lR, lQ => by
    obtain ⟨R1, Q1, g1, gg1, q1, l1, m1, t⟩ := wm_turn sub call mss most hour T lT tT r own lo giver R Q m (a m List.mem_cons_self) gR gg gQ lR lQ v6
    obtain ⟨R', Q', u6, g2, q2, l2, m2, f⟩ := wm_for sub call mss most hour T lT tT r own lo giver ms R1 Q1 (some (.int (m : Nat))) (fun x hx => a x (List.mem_cons_of_mem _ hx)) g1 gg1 q1 l1 (by omega)
    refine ⟨R', Q', u6, g2, q2, l2, by omega, ?_⟩
    rw [List.map_cons, forCons, t, kFtN]
    exact f
theorem wm_iter (sub : Nat → Nat → Bool) (call : Nat → List D → Hs → R D) (mss : List (List Int)) (l12 : mss.length ≤ 12) (most hour : D) (T : List D) (r : Hs) (R : List Ent) (Q : List (Nat × Option Nat)) (own : Nat) (giver : Option Nat) (v6 v7 v8 u6 : Option D) (H1 : Hs) (f : forF (turnF sub call (.nm 6) wmF) ((List.range mss.length).map fun m => .int (m : Nat)) (WS mss most hour (r.length + 1) v6 (some (.int (own : Nat))) (some (oD giver))) (hw T r R Q) = .nx (WS mss most hour (r.length + 1) u6 (some (.int (own : Nat))) (some (oD giver))) H1) :
    ex sub call wmB (WS mss most hour (r.length + 1) v6 v7 v8) (hw T r R ((own, giver) :: Q)) = .nx (WS mss most hour (r.length + 1) u6 (some (.int (own : Nat))) (some (oD giver))) H1 := by
  have po : methD .pop (.ref (r.length + 1 + 1)) [.int 0] (hw T r R ((own, giver) :: Q)) = .ok (.tup [.int (own : Nat), oD giver]) (hw T r R Q) := by
    unfold hw
    simp only [methD, getB, List.map_cons]
    simp [setB, qD]
  have il : isLst (hw T r R ((own, giver) :: Q)) (.ref (r.length + 1 + 1)) = true := by
    unfold hw; simp only [isLst, rd, getB]
  have rn : rangeD 0 (mss.length : Int) = some ((List.range mss.length).map fun k => .int (k : Nat)) := by
    rw [rng_is 0 _ (by omega) (by omega) (by omega) (by omega)]
    simp
  have ml : (msD mss).length = mss.length := by simp [msD]
  simp only [wmF, wmB, stFor, stWhl, stFst, stSnd, i_way_more] at f
  generalize hw T r R ((own, giver) :: Q) = H at po il ⊢
  generalize hw T r R Q = H2 at po f
  generalize oD giver = gv at po f ⊢
  simp -implicitDefEqProofs [wmB, stWhl, stFst, stSnd, i_way_more, po, il, ml, rn, f]
theorem wm_tst (sub : Nat → Nat → Bool) (call : Nat → List D → Hs → R D) (mss : List (List Int)) (most hour : D) (T : List D) (r : Hs) (R : List Ent) (Q : List (Nat × Option Nat)) (v6 v7 v8 : Option D) : tst sub call (.var 5) (WS mss most hour (r.length + 1) v6 v7 v8) (hw T r R Q) = .ok (!Q.isEmpty) (hw T r R Q) := by
  have rq : rd (hw T r R Q) (.ref (r.length + 1 + 1)) = .lst (Q.map qD) := by
    unfold hw; simp only [rd, getB]
  have ie : (Q.map qD).isEmpty = Q.isEmpty := by cases Q <;> rfl
  generalize hw T r R Q = H at rq ⊢
  simp -implicitDefEqProofs [tst_, rq, ie, -List.isEmpty_iff]
theorem wm_while (sub : Nat → Nat → Bool) (call : Nat → List D → Hs → R D) (mss : List (List Int)) (l12 : mss.length ≤ 12) (most hour : D) (T : List D) (lT : T.length = 24) (tT : ∀ x ∈ T, tOk mss.length x) (r : Hs) (n : Nat) : ∀ (R : List Ent) (Q : List (Nat × Option Nat)) (v6 v7 v8 : Option D), Q.length + 25 * freeN mss.length R < n → Good mss.length R → (∀ q ∈ Q, qOk R q) → R.length + freeN mss.length R ≤ 100 → Q.length + 25 * freeN mss.length R ≤ 1000 →
    ∃ R' S', Good mss.length R' ∧ R'.length ≤ 100 ∧ whlF (tst sub call (.var 5)) (ex sub call wmB) n (WS mss most hour (r.length + 1) v6 v7 v8) (hw T r R Q) = .nx S' (hw T r R' []) ∧ S'[4]? = some (some (.ref (r.length + 1))) := by
  induction n with
  | zero => intro R Q v6 v7 v8 h; omega
  | succ n ih =>
    intro R Q v6 v7 v8 h gR gQ lR lQ
    have t := wm_tst sub call mss most hour T r R Q v6 v7 v8
    cases Q with
    | nil => exact ⟨R, WS mss most hour (r.length + 1) v6 v7 v8, gR, by omega, whlE t, rfl⟩
    | cons q Q =>
      simp only [List.length_cons] at h lQ
      obtain ⟨own, giver⟩ := q
      obtain ⟨lo, gg⟩ := gQ (own, giver) List.mem_cons_self
      obtain ⟨R1, Q1, u6, g1, q1, l1, m1, f⟩ := wm_for sub call mss most hour T lT tT r own lo giver (List.range mss.length) R Q v6 (fun m hm => List.mem_range.1 hm) gR gg (fun x hx => gQ x (List.mem_cons_of_mem _ hx)) lR (by omega)
      obtain ⟨R', S', g2, l2, w, s4⟩ := ih R1 Q1 u6 (some (.int (own : Nat))) (some (oD giver)) (by omega) g1 q1 l1 (by omega)
      refine ⟨R', S', g2, l2, ?_, s4⟩
      have e := wm_iter sub call mss l12 most hour T r R Q own giver v6 v7 v8 u6 _ f
      rw [whlN t e]
      exact w
theorem free0 (n : Nat) : freeN n [] = n := by
  unfold freeN keysR
  simp
theorem way_ok (k : Nat) (mss : List (List Int)) (l12 : mss.length ≤ 12) (most : D) (hour : Nat) (h24 : hour < 24) (T : List D) (lT : T.length = 24) (tT : ∀ x ∈ T, tOk mss.length x) (r : Hs) : ∃ R, Good mss.length R ∧ R.length ≤ 100 ∧ callF mM.sub mM.PF (k + 1) 18 [.tup (msD mss), most, .ref 0, .int (hour : Nat)] (.lst T :: r) = .ok (.ref (r.length + 1)) (hw T r R []) := by
  obtain ⟨R, S', gR, lR, w, s4⟩ := wm_while mM.sub (callF mM.sub mM.PF k) mss l12 most (.int (hour : Nat)) T lT tT r wfuel [] [(hour, none)] none none none (by rw [free0]; unfold wfuel; simp; omega) trivial (fun q hq => by
    rw [List.mem_singleton.1 hq]
    exact ⟨h24, fun g hg => by cases hg⟩) (by rw [free0]; simp; omega) (by rw [free0]; simp; omega)
  refine ⟨R, gR, lR, ?_⟩
  rw [callS _ _ _ _ _ _ _ PF18]
  have h0 : hw T r [] [(hour, none)] = .lst T :: (r ++ [.dct [], .lst [.tup [.int (hour : Nat), .non]]]) := rfl
  have Z : ex mM.sub (callF mM.sub mM.PF k) i_way_more.body [some (.tup (msD mss)), some most, some (.ref 0), some (.int (hour : Nat)), none, none, none, none, none, none] (.lst T :: r) = .rt (.ref (r.length + 1)) (hw T r R []) := by
    unfold i_way_more
    refine step (S' := [some (.tup (msD mss)), some most, some (.ref 0), some (.int (hour : Nat)), some (.ref (r.length + 1)), none, none, none, none, none]) (h' := .lst T :: (r ++ [.dct []])) (by rw [exAsg, show ∀ S h, ev mM.sub (callF mM.sub mM.PF k) .mdct S h = .ok (.ref h.length) (h ++ [.dct []]) from fun _ _ => rfl]; simp) ?_
    refine step (S' := WS mss most (.int (hour : Nat)) (r.length + 1) none none none) (h' := hw T r [] [(hour, none)]) (by rw [h0]; simp) ?_
    refine step (S' := S') (h' := hw T r R []) w ?_
    simp [s4]
  simp [callB_, show i_way_more.np = 4 from rfl, show i_way_more.nl = 10 from rfl, Z]
end Pl

set_option Elab.async false
set_option linter.all false
set_option maxRecDepth 100000
set_option maxHeartbeats 4000000
namespace Pl
open PySem Ci
/-! come_hours -/
theorem hw_dct (T : List D) (r : Hs) (R : List Ent) (Q : List (Nat × Option Nat)) : dct (hw T r R Q) (.ref (r.length + 1)) = some (R.reverse.map eD) := by
  unfold hw
  simp only [dct, getA]
def inC (R : List Ent) : D → Bool
  | .int i => (dval (R.reverse.map eD) (.inl i)).isSome
  | _ => false
theorem at_T {T : List D} {j : Nat} (lj : j < T.length) : atD T (j : Nat) = some (T.getD j .non) := by
  have h0 : (0 : Int) ≤ (j : Int) := by omega
  have h1 : (j : Int) < (T.length : Int) := by omega
  simp only [atD, ixI, h0, h1, if_true, Option.bind_some, Int.toNat_natCast]
  rw [List.getD_eq_getElem?_getD, List.getElem?_eq_getElem lj]; rfl
theorem getD_tOk {n : Nat} {T : List D} {j : Nat} (lj : j < T.length) (t : ∀ x ∈ T, tOk n x) : tOk n (T.getD j .non) := by
  rw [List.getD_eq_getElem?_getD, List.getElem?_eq_getElem lj]
  exact t _ (List.getElem_mem _)
theorem ch_ok (k n : Nat) (T : List D) (lT : T.length = 24) (tT : ∀ x ∈ T, tOk n x) (r : Hs) (R : List Ent) : ∃ W : List Nat, W.length ≤ 24 ∧ callF mM.sub mM.PF (k + 1) 19 [.ref 0, .ref (r.length + 1)] (hw T r R []) = .ok (.lst (W.map fun j => .int (j : Nat))) (hw T r R []) := by
  have hd := hw_dct T r R []
  have h0 : ∀ y, ixH (hw T r R []) (.ref 0) y = ixD (.lst T) y := fun y => rfl
  have ce : ∀ i, cmpH (hw T r R []) .In (.int i) (.ref (r.length + 1)) = some (inC R (.int i)) := by
    intro i
    simp only [cmpH, hd, kyOf, Option.map_some, inC]
  have c := comp_pick (fun j : Nat => D.int (j : Nat)) (fun j : Nat => inC R (T.getD j .non)) (fun j : Nat => D.int (j : Nat)) (turnC mM.sub (callF mM.sub mM.PF k) (.var 2) [2] (.nm 2) (.and_ (.noN (.ix (.var 0) (.var 2))) (.cmp .In (.ix (.var 0) (.var 2)) (.var 1))) [some (.ref 0), some (.ref (r.length + 1)), none]) (hw T r R []) (List.range 24) (by
    intro j hj
    have hj := List.mem_range.1 hj
    have aj := at_T (T := T) (j := j) (by omega)
    have tj := getD_tOk (n := n) (T := T) (j := j) (by omega) tT
    generalize T.getD j .non = x at aj tj ⊢
    generalize hw T r R [] = H at h0 ce ⊢
    rcases tj with rfl | ⟨m, _, rfl⟩
    · simp -implicitDefEqProofs [turnC_, h0, aj, inC]
    · have cm := ce (m : Nat)
      cases e : inC R (.int (m : Nat)) with
      | true => rw [e] at cm; simp -implicitDefEqProofs [turnC_, h0, aj, cm]
      | false => rw [e] at cm; simp -implicitDefEqProofs [turnC_, h0, aj, cm])
  have r24 : rangeD 0 24 = some ((List.range 24).map fun j => .int (j : Nat)) := by rfl
  obtain ⟨W, hW⟩ : ∃ W, ((List.range 24).filter fun j => inC R (T.getD j .non)) = W := ⟨_, rfl⟩
  rw [hW] at c
  refine ⟨W, ?_, ?_⟩
  · rw [← hW]
    have := List.length_filter_le (fun j => inC R (T.getD j .non)) (List.range 24)
    simpa using this
  · rw [callS _ _ _ _ _ _ _ PF19]
    generalize hw T r R [] = H at c ⊢
    simp -implicitDefEqProofs [callB_, i_come_hours, r24, c]
/-! the keys -/
theorem good_nd {n : Nat} : ∀ {R : List Ent}, Good n R → (keysR R).Nodup
  | [], _ => by simp [keysR]
  | e :: r, h => by
    simp only [keysR, List.map_cons, List.nodup_cons]
    exact ⟨h.2.1, good_nd h.2.2.2.2⟩
theorem dval_mem : ∀ (C : List Ent) (e : Ent), (keysR C).Nodup → e ∈ C → dval (C.map eD) (.inl (e.1 : Int)) = some (eD e).2
  | [], e, _, h => by cases h
  | x :: C, e, nd, h => by
    simp only [keysR, List.map_cons, List.nodup_cons] at nd
    rcases List.mem_cons.1 h with rfl | h
    · simp [dval, eD]
    · have ne : ¬ (eD x).1 = Sum.inl (e.1 : Int) := fun q => by
        simp only [eD, Sum.inl.injEq] at q
        have : x.1 = e.1 := by exact_mod_cast q
        exact nd.1 (this ▸ List.mem_map.2 ⟨e, h, rfl⟩)
      have e1 : dval ((x :: C).map eD) (.inl (e.1 : Int)) = dval (C.map eD) (.inl (e.1 : Int)) := by
        simp [dval, ne]
      rw [e1]
      exact dval_mem C e nd.2 h
theorem good_at {n : Nat} {R : List Ent} (g : Good n R) {e : Ent} (h : e ∈ R) : dval (R.reverse.map eD) (.inl (e.1 : Int)) = some (.tup [.int (e.2.1 : Nat), oD e.2.2]) := by
  apply dval_mem R.reverse e
  · have := good_nd g
    unfold keysR at this ⊢
    rw [List.map_reverse]
    exact (List.reverse_perm _).nodup_iff.2 this
  · exact List.mem_reverse.2 h
/-! shared_day: hours change hands -/
def sdB : St := stFor (stFst (stSnd (stSnd (stSnd i_shared_day.body))))
def sdW : St := stWhl (stSnd (stSnd (stSnd (stSnd sdB))))
abbrev SS (mss : List (List Int)) (most : Int) (v3 : Option D) (c : Nat) (v5 v6 v7 v8 : Option D) : Sl := [some (.tup (msD mss)), some (.int most), some (.ref 0), v3, some (.ref c), v5, v6, v7, v8]
theorem tOk_set {n : Nat} {T : List D} {j m : Nat} (t : ∀ x ∈ T, tOk n x) (hm : m < n) : ∀ x ∈ T.set j (.int (m : Nat)), tOk n x := fun x hx => by
  rcases List.mem_or_eq_of_mem_set hx with h | h
  · exact t x h
  · exact .inr ⟨m, hm, h⟩
theorem aug_turn (sub : Nat → Nat → Bool) (call : Nat → List D → Hs → R D) (mss : List (List Int)) (most : Int) (T : List D) (lT : T.length = 24) (r : Hs) (R : List Ent) (gR : Good mss.length R) (e : Ent) (he : e ∈ R) (lo : e.2.1 < 24) (v3 v5 v7 v8 : Option D) : ex sub call sdW (SS mss most v3 (r.length + 1) v5 (some (.int (e.1 : Nat))) v7 v8) (hw T r R []) = .nx (SS mss most v3 (r.length + 1) v5 (some (oD e.2.2)) (some (.int (e.2.1 : Nat))) (some (oD e.2.2))) (hw (T.set e.2.1 (.int (e.1 : Nat))) r R []) := by
  have hd := hw_dct T r R []
  have ix : ixH (hw T r R []) (.ref (r.length + 1)) (.int (e.1 : Nat)) = some (.tup [.int (e.2.1 : Nat), oD e.2.2]) := by
    simp only [ixH, hd, kyOf, Option.bind_some]
    exact good_at gR he
  have st : ∀ S, setO S (.ref 0) (.int (e.2.1 : Nat)) (.int (e.1 : Nat)) (hw T r R []) = .nx S (hw (T.set e.2.1 (.int (e.1 : Nat))) r R []) := fun S => setRef (set_nat T e.2.1 _ (by omega))
  generalize hw (T.set e.2.1 (.int (e.1 : Nat))) r R [] = H2 at st ⊢
  generalize hw T r R [] = H at ix st ⊢
  generalize oD e.2.2 = gv at ix ⊢
  simp -implicitDefEqProofs [sdW, sdB, stFor, stWhl, stFst, stSnd, i_shared_day, ix, st]
theorem aug_tst (sub : Nat → Nat → Bool) (call : Nat → List D → Hs → R D) (mss : List (List Int)) (most : Int) (H : Hs) (c : Nat) (g : Option Nat) (v3 v5 v7 v8 : Option D) : tst sub call (.noN (.var 6)) (SS mss most v3 c v5 (some (oD g)) v7 v8) H = .ok g.isSome H := by
  cases g with
  | none => simp -implicitDefEqProofs [tst_, oD]
  | some m => simp -implicitDefEqProofs [tst_, oD]
theorem aug_loop (sub : Nat → Nat → Bool) (call : Nat → List D → Hs → R D) (mss : List (List Int)) (most : Int) (r : Hs) (R : List Ent) (gR : Good mss.length R) (v3 v5 : Option D) : ∀ (r' l : List Ent), R = l ++ r' → Good mss.length r' → ∀ (m n : Nat) (T : List D) (v7 v8 : Option D), m ∈ keysR r' → r'.length + 1 < n → T.length = 24 → (∀ x ∈ T, tOk mss.length x) → ∃ T' u7 u8, T'.length = 24 ∧ (∀ x ∈ T', tOk mss.length x) ∧ whlF (tst sub call (.noN (.var 6))) (ex sub call sdW) n (SS mss most v3 (r.length + 1) v5 (some (.int (m : Nat))) v7 v8) (hw T r R []) = .nx (SS mss most v3 (r.length + 1) v5 (some .non) u7 u8) (hw T' r R []) := by
  intro r'
  induction r' with
  | nil => intro l _ _ m n T v7 v8 hm; simp [keysR] at hm
  | cons e r2 ih =>
    intro l hR g2 m n T v7 v8 hm hn lT tT
    simp only [List.length_cons] at hn
    have he : e ∈ R := by rw [hR]; simp
    by_cases q : e.1 = m
    · subst q
      obtain ⟨n, rfl⟩ : ∃ n', n = n' + 1 := ⟨n - 1, by omega⟩
      have t1 : tst sub call (.noN (.var 6)) (SS mss most v3 (r.length + 1) v5 (some (.int (e.1 : Nat))) v7 v8) (hw T r R []) = .ok true (hw T r R []) := aug_tst sub call mss most (hw T r R []) (r.length + 1) (some e.1) v3 v5 v7 v8
      have x1 := aug_turn sub call mss most T lT r R gR e he g2.2.2.1 v3 v5 v7 v8
      have lT' : (T.set e.2.1 (.int (e.1 : Nat))).length = 24 := by simp [lT]
      have tT' := tOk_set (j := e.2.1) tT g2.1
      rw [whlN t1 x1]
      cases hg : e.2.2 with
      | none =>
        obtain ⟨n, rfl⟩ : ∃ n', n = n' + 1 := ⟨n - 1, by omega⟩
        have t2 := aug_tst sub call mss most (hw (T.set e.2.1 (.int (e.1 : Nat))) r R []) (r.length + 1) none v3 v5 (some (.int (e.2.1 : Nat))) (some (oD none))
        exact ⟨_, _, _, lT', tT', whlE t2⟩
      | some g =>
        have hgm := g2.2.2.2.1 g hg
        exact ih (l ++ [e]) (by rw [hR]; simp) g2.2.2.2.2 g n _ _ _ hgm (by omega) lT' tT'
    · have hm2 : m ∈ keysR r2 := by
        simp only [keysR, List.map_cons, List.mem_cons] at hm
        rcases hm with h | h
        · exact absurd h.symm q
        · exact h
      exact ih (l ++ [e]) (by rw [hR]; simp) g2.2.2.2.2 m n T v7 v8 hm2 (by omega) lT tT
end Pl

set_option Elab.async false
set_option linter.all false
set_option maxRecDepth 100000
set_option maxHeartbeats 4000000
namespace Pl
open PySem Ci
theorem t_facts {n : Nat} : ∀ {T : List D}, (∀ x ∈ T, tOk n x) → D.pures T = true ∧ PyData.canLayAll0 (D.pys T) = true ∧ PyData.depthAll (D.pys T) ≤ 0
  | [], _ => ⟨rfl, rfl, Nat.le_refl 0⟩
  | x :: T, h => by
    obtain ⟨h1, h2, h3⟩ := t_facts fun y hy => h y (List.mem_cons_of_mem _ hy)
    rcases h x List.mem_cons_self with rfl | ⟨m, _, rfl⟩
    · exact ⟨by simp [D.pures, D.pure, h1], by simp only [D.pys, D.py, PyData.canLayAll0, PyData.canLay0, h2, Bool.and_self], by simp only [D.pys, D.py, PyData.depthAll, PyData.depth]; omega⟩
    · exact ⟨by simp [D.pures, D.pure, h1], by simp only [D.pys, D.py, PyData.canLayAll0, PyData.canLay0, h2, Bool.and_self], by simp only [D.pys, D.py, PyData.depthAll, PyData.depth]; omega⟩
theorem t_eqOk {n : Nat} {T : List D} (h : ∀ x ∈ T, tOk n x) : D.eqOk (.lst T) = true := by
  obtain ⟨h1, h2, h3⟩ := t_facts h
  have c : PyData.canLay0 (D.py (.lst T)) = true := by simp only [D.py, PyData.canLay0, h2]
  have d : PyData.depth (D.py (.lst T)) ≤ 64 := by simp only [D.py, PyData.depth]; omega
  simp only [D.eqOk, D.pure, h1, SeqAt.shaped, c, decide_eq_true d, Bool.and_self]
theorem oD_clear (g : Option Nat) : (oD g).clear = true := by cases g <;> rfl
theorem eD_clear (C : List Ent) : D.clears ((C.map eD).map (·.2)) = true := by
  induction C with
  | nil => rfl
  | cons e C ih =>
    simp only [List.map_cons, D.clears, eD, D.clear, oD_clear, Bool.and_self, Bool.true_and]
    exact ih
theorem keys_map (C : List Ent) : (C.map eD).map (fun kv => kyD kv.1) = C.map fun e => D.int (e.1 : Nat) := by
  rw [List.map_map]; rfl
def cntN (T : List D) (m : Nat) : Nat := (D.pys T).countP fun z => PyData.eqv z (D.py (.int (m : Nat)))
theorem free_ok (sub : Nat → Nat → Bool) (call : Nat → List D → Hs → R D) (mss : List (List Int)) (most : Int) (T : List D) (tT : ∀ x ∈ T, tOk mss.length x) (r : Hs) (cr : r.all O.clear = true) (R : List Ent) (lR : R.length ≤ 100) (v3 v5 v6 v7 v8 : Option D) : ∃ ms : List Nat, (∀ m ∈ ms, m ∈ keysR R) ∧ ev sub call (.il (.compC false (.var 6) [6] (.nm 6) 4 (.cmp .Lt (.meth .count (.var 2) (.cons (.var 6) .nil)) (.var 1)))) (SS mss most v3 (r.length + 1) v5 v6 v7 v8) (hw T r R []) = .ok (.lst (ms.map fun m => .int (m : Nat))) (hw T r R []) := by
  have tk : (hw T r R []).take (r.length + 1) = .lst T :: r := by
    unfold hw
    simp
  have tk2 : (hw T r R []).take (r.length + 1 + 1) = .lst T :: (r ++ [.dct (R.reverse.map eD)]) := by
    unfold hw
    simp [List.take_append]
    exact List.take_of_length_le (Nat.le_succ _)
  have dk : (hw T r R []).drop (r.length + 1) = [.dct (R.reverse.map eD), .lst []] := by
    unfold hw
    simp
  have g1 : (hw T r R [])[r.length + 1]? = some (.dct (R.reverse.map eD)) := by
    unfold hw; exact getA
  have ce := evCompC (sub := sub) (call := call) (e := false) (elt := .var 6) (own := [6]) (tg := .nm 6) (i := 4) (cond := .cmp .Lt (.meth .count (.var 2) (.cons (.var 6) .nil)) (.var 1)) (S := SS mss most v3 (r.length + 1) v5 v6 v7 v8) (h := hw T r R []) (h2 := .lst T :: r) (n := r.length + 1) (ks := R.reverse.map fun e => .int (e.1 : Nat)) (ys := (R.reverse.filter fun e => decide ((cntN T e.1 : Int) < most)).map fun e => .int (e.1 : Nat)) rfl (by rw [g1]; simp only [Option.bind_some, srcC]; rw [keys_map]) (by simp; omega) (by
    rw [tk2]
    have tc : D.clears T = true := pures_clear (t_facts tT).1
    simp only [List.all_cons, List.all_append, O.clear, tc, cr, eD_clear, List.all_nil, Bool.and_self]) (by
    rw [tk]
    have cs : cutS (r.length + 1) (SS mss most v3 (r.length + 1) v5 v6 v7 v8) = [cutO (r.length + 1) (some (.tup (msD mss))), cutO (r.length + 1) (some (.int most)), cutO (r.length + 1) (some (.ref 0)), cutO (r.length + 1) v3, cutO (r.length + 1) (some (.ref (r.length + 1))), cutO (r.length + 1) v5, cutO (r.length + 1) v6, cutO (r.length + 1) v7, cutO (r.length + 1) v8] := rfl
    have q1 : cutO (r.length + 1) (some (D.ref 0)) = some (D.ref 0) := by simp [cutO]
    have q2 : cutO (r.length + 1) (some (D.int most)) = some (D.int most) := rfl
    rw [cs, q1, q2]
    clear cs q1 q2
    apply comp_pick (fun e : Ent => D.int (e.1 : Nat))
    intro e he
    have me : methD .count (.ref 0) [.int (e.1 : Nat)] (.lst T :: r) = .ok (.int (cntN T e.1 : Nat)) (.lst T :: r) := by
      have e1 : D.eqOk (.int (e.1 : Nat)) = true := rfl
      simp only [methD, rd, List.getElem?_cons_zero, t_eqOk tT, e1, Bool.and_self, if_true, cntN]
    have il : isLst (.lst T :: r) (.ref 0) = true := rfl
    generalize (.lst T :: r : Hs) = H at me il ⊢
    by_cases q : (cntN T e.1 : Int) < most
    · simp -implicitDefEqProofs [turnC_, E.isOmit, il, me, q]
    · simp -implicitDefEqProofs [turnC_, E.isOmit, il, me, q]) (by simp)
  rw [dk] at ce
  refine ⟨(R.reverse.filter fun e => decide ((cntN T e.1 : Int) < most)).map (·.1), fun m hm => ?_, ?_⟩
  · obtain ⟨e, he, rfl⟩ := List.mem_map.1 hm
    exact List.mem_map.2 ⟨e, List.mem_reverse.1 (List.mem_filter.1 he).1, rfl⟩
  · rw [ce, List.map_map]
    rfl
theorem stepR' {sub : Nat → Nat → Bool} {call : Nat → List D → Hs → R D} {s t : St} {S : Sl} {h h' : Hs} {v : D} (e : ex sub call s S h = .rt v h') : ex sub call (.seq s t) S h = .rt v h' := by
  rw [exSeq, e, atRt]
theorem sort_ints (h : Hs) (is : List Int) (l : is.length ≤ 1000) : bltH h .sorted [.lst (is.map .int)] = some (.lst ((sortI is).map .int)) := by
  have i0 : intsOf (is.map .int) = some is := by
    induction is with
    | nil => rfl
    | cons a is ih => simp [intsOf, ih (by simp only [List.length_cons] at l; omega)]
  have o : okL is.length = true := okLt (by omega)
  simp only [bltH, dct, rdLst, bltD, i0, o, if_true]
theorem sd_turn (k : Nat) (mss : List (List Int)) (l12 : mss.length ≤ 12) (most : Int) (hour : Nat) (h24 : hour < 24) (T : List D) (lT : T.length = 24) (tT : ∀ x ∈ T, tOk mss.length x) (r : Hs) (cr : r.all O.clear = true) (v3 v4 v5 v6 v7 v8 : Option D) :
    (∃ v h', v.pure = true ∧ turnF mM.sub (callF mM.sub mM.PF (k + 1)) (.nm 3) sdB (.int (hour : Nat)) [some (.tup (msD mss)), some (.int most), some (.ref 0), v3, v4, v5, v6, v7, v8] (.lst T :: r) = .rt v h') ∨
    ∃ T' r' u4 u5 u6 u7 u8, T'.length = 24 ∧ (∀ x ∈ T', tOk mss.length x) ∧ r'.all O.clear = true ∧ turnF mM.sub (callF mM.sub mM.PF (k + 1)) (.nm 3) sdB (.int (hour : Nat)) [some (.tup (msD mss)), some (.int most), some (.ref 0), v3, v4, v5, v6, v7, v8] (.lst T :: r) = .nx [some (.tup (msD mss)), some (.int most), some (.ref 0), some (.int (hour : Nat)), u4, u5, u6, u7, u8] (.lst T' :: r') := by
  obtain ⟨R, gR, lR, w⟩ := way_ok k mss l12 (.int most) hour h24 T lT tT r
  obtain ⟨ms, hms, fe⟩ := free_ok mM.sub (callF mM.sub mM.PF (k + 1)) mss most T tT r cr R lR (some (.int (hour : Nat))) v5 v6 v7 v8
  have s1 : ex mM.sub (callF mM.sub mM.PF (k + 1)) (stFst sdB) [some (.tup (msD mss)), some (.int most), some (.ref 0), some (.int (hour : Nat)), v4, v5, v6, v7, v8] (.lst T :: r) = .nx (SS mss most (some (.int (hour : Nat))) (r.length + 1) v5 v6 v7 v8) (hw T r R []) := by
    generalize hw T r R [] = H at w ⊢
    simp -implicitDefEqProofs [sdB, stFor, stFst, stSnd, i_shared_day, w]
  have s2 : ex mM.sub (callF mM.sub mM.PF (k + 1)) (stFst (stSnd sdB)) (SS mss most (some (.int (hour : Nat))) (r.length + 1) v5 v6 v7 v8) (hw T r R []) = .nx (SS mss most (some (.int (hour : Nat))) (r.length + 1) (some (.lst (ms.map fun m => .int (m : Nat)))) v6 v7 v8) (hw T r R []) := by
    have : stFst (stSnd sdB) = .asg (.nm 5) (.il (.compC false (.var 6) [6] (.nm 6) 4 (.cmp .Lt (.meth .count (.var 2) (.cons (.var 6) .nil)) (.var 1)))) := rfl
    rw [this, exAsg, fe]
    rfl
  cases ms with
  | nil =>
    left
    obtain ⟨W, lW, ch⟩ := ch_ok k mss.length T lT tT r R
    have so := sort_ints (hw T r R []) ((hour : Int) :: W.map fun j : Nat => (j : Int)) (by simp; omega)
    rw [List.map_cons, List.map_map] at so
    have so : bltH (hw T r R []) .sorted [.lst (.int (hour : Nat) :: W.map fun j : Nat => D.int (j : Nat))] = some (.lst ((sortI ((hour : Int) :: W.map fun j : Nat => (j : Int))).map .int)) := so
    have ad : addD (.lst [.int (hour : Nat)]) (.lst (W.map fun j : Nat => D.int (j : Nat))) = some (.lst (.int (hour : Nat) :: W.map fun j : Nat => D.int (j : Nat))) := by
      rw [addLst, okLt (by simp; omega)]; rfl
    obtain ⟨Z, hZ⟩ : ∃ Z, sortI ((hour : Int) :: W.map fun j : Nat => (j : Int)) = Z := ⟨_, rfl⟩
    rw [hZ] at so
    refine ⟨.tup [.str (Str.ofString "short"), .tup (Z.map .int)], hw T r R [], by simp [D.pure, D.pures, ints_pure], ?_⟩
    have s3 : ex mM.sub (callF mM.sub mM.PF (k + 1)) (stFst (stSnd (stSnd sdB))) (SS mss most (some (.int (hour : Nat))) (r.length + 1) (some (.lst [])) v6 v7 v8) (hw T r R []) = .rt (.tup [.str (Str.ofString "short"), .tup (Z.map .int)]) (hw T r R []) := by
      generalize hw T r R [] = H at ch so ⊢
      generalize W.map (fun j => D.int (j : Nat)) = WD at ch so ad
      simp -implicitDefEqProofs [sdB, stFor, stFst, stSnd, i_shared_day, ch, ad, so]
    rw [List.map_nil] at s2
    rw [turnF_]
    exact step s1 (step s2 (stepR' s3))
  | cons m ms =>
    right
    have hm := hms m List.mem_cons_self
    obtain ⟨T', u7, u8, lT', tT', wl⟩ := aug_loop mM.sub (callF mM.sub mM.PF (k + 1)) mss most r R gR (some (.int (hour : Nat))) (some (.lst ((m :: ms).map fun m => .int (m : Nat)))) R [] rfl gR m wfuel T v7 v8 hm (by unfold wfuel; omega) lT tT
    have s3 : ex mM.sub (callF mM.sub mM.PF (k + 1)) (stFst (stSnd (stSnd sdB))) (SS mss most (some (.int (hour : Nat))) (r.length + 1) (some (.lst ((m :: ms).map fun m => .int (m : Nat)))) v6 v7 v8) (hw T r R []) = .nx (SS mss most (some (.int (hour : Nat))) (r.length + 1) (some (.lst ((m :: ms).map fun m => .int (m : Nat)))) v6 v7 v8) (hw T r R []) := by
      generalize hw T r R [] = H
      simp -implicitDefEqProofs [sdB, stFor, stFst, stSnd, i_shared_day]
    have a0 : atD ((m :: ms).map fun m => D.int (m : Nat)) 0 = some (.int (m : Nat)) := by simp [atD, ixI]
    have s4 : ex mM.sub (callF mM.sub mM.PF (k + 1)) (stFst (stSnd (stSnd (stSnd sdB)))) (SS mss most (some (.int (hour : Nat))) (r.length + 1) (some (.lst ((m :: ms).map fun m => .int (m : Nat)))) v6 v7 v8) (hw T r R []) = .nx (SS mss most (some (.int (hour : Nat))) (r.length + 1) (some (.lst ((m :: ms).map fun m => .int (m : Nat)))) (some (.int (m : Nat))) v7 v8) (hw T r R []) := by
      generalize hw T r R [] = H
      generalize (m :: ms).map (fun m => D.int (m : Nat)) = MD at a0 ⊢
      simp -implicitDefEqProofs [sdB, stFor, stFst, stSnd, i_shared_day, a0]
    refine ⟨T', r ++ [.dct (R.reverse.map eD), .lst []], some (.ref (r.length + 1)), some (.lst ((m :: ms).map fun m => .int (m : Nat))), some .non, u7, u8, lT', tT', by simp only [List.all_append, cr, List.all_cons, O.clear, eD_clear, List.all_nil, D.clears, Bool.and_self], ?_⟩
    rw [turnF_]
    refine step s1 (step s2 (step s3 (step s4 ?_)))
    exact wl
theorem sd_loop (k : Nat) (mss : List (List Int)) (l12 : mss.length ≤ 12) (most : Int) : ∀ (hs : List Nat) (T : List D) (r : Hs) (v3 v4 v5 v6 v7 v8 : Option D), (∀ h ∈ hs, h < 24) → T.length = 24 → (∀ x ∈ T, tOk mss.length x) → r.all O.clear = true →
    (∃ v h', v.pure = true ∧ forF (turnF mM.sub (callF mM.sub mM.PF (k + 1)) (.nm 3) sdB) (hs.map fun h => .int (h : Nat)) [some (.tup (msD mss)), some (.int most), some (.ref 0), v3, v4, v5, v6, v7, v8] (.lst T :: r) = .rt v h') ∨
    ∃ T' r' u3 u4 u5 u6 u7 u8, (∀ x ∈ T', tOk mss.length x) ∧ forF (turnF mM.sub (callF mM.sub mM.PF (k + 1)) (.nm 3) sdB) (hs.map fun h => .int (h : Nat)) [some (.tup (msD mss)), some (.int most), some (.ref 0), v3, v4, v5, v6, v7, v8] (.lst T :: r) = .nx [some (.tup (msD mss)), some (.int most), some (.ref 0), u3, u4, u5, u6, u7, u8] (.lst T' :: r')
  | [], T, r, v3, v4, v5, v6, v7, v8, _, lT, tT, cr => .inr ⟨T, r, v3, v4, v5, v6, v7, v8, tT, rfl⟩
  | h :: hs, T, r, v3, v4, v5, v6, v7, v8, a, lT, tT, cr => by
    rcases sd_turn k mss l12 most h (a h List.mem_cons_self) T lT tT r cr v3 v4 v5 v6 v7 v8 with ⟨v, h', p, t⟩ | ⟨T1, r1, w4, w5, w6, w7, w8, lT1, tT1, cr1, t⟩
    · refine .inl ⟨v, h', p, ?_⟩
      rw [List.map_cons, forCons, t, kFtR]
    · have ih := sd_loop k mss l12 most hs T1 r1 (some (.int (h : Nat))) w4 w5 w6 w7 w8 (fun x hx => a x (List.mem_cons_of_mem _ hx)) lT1 tT1 cr1
      rw [List.map_cons, forCons, t, kFtN]
      exact ih
theorem cmen_ok (k : Nat) (h : Hs) {d : D} (s : pln 100 d = true) (e : menB d = true) : pcallF (callF mM.sub mM.PF (k + 3)) 15 [d] h = .ok .non h := by
  rw [cmen_any k h d s, e]; rfl
theorem shared_fin (k : Nat) {d : D} (s : pln 100 d = true) (e : menB d = true) {most : Int} (m0 : 0 ≤ most) (m1 : most ≤ 24) : Fin (k + 4) 17 [d, .int most] := by
  have c1 := cmen_ok k [] s e
  have c2 : pcallF (callF mM.sub mM.PF (k + 3)) 0 [.int most] [] = .ok (.bl true) [] := isint_any (N := 100) (k + 2) [] (.int most) rfl
  obtain ⟨mss, rfl, l1, l12⟩ := menB_is e
  have r24 : rangeD 0 24 = some ((List.range 24).map fun j => .int (j : Nat)) := by rfl
  have mr := evMrep (sub := mM.sub) (call := callF mM.sub mM.PF (k + 3)) (S := [some (.tup (msD mss)), some (.int most), none, none, none, none, none, none, none]) (h := []) (a := .il (.disp (.cons (.lit .non) .nil))) (b := .lit (.int 24)) (xs := [.non]) (k := 24) (h1 := []) (h2 := []) (by simp) (by simp) (by omega) (by simp)
  rw [show (List.replicate 24 [D.non]).flatten = List.replicate 24 .non from rfl] at mr
  have tN : ∀ x ∈ List.replicate 24 D.non, tOk mss.length x := fun x hx => .inl (List.eq_of_mem_replicate hx)
  have lp := sd_loop (k + 2) mss l12 most (List.range 24) (List.replicate 24 .non) [] none none none none none none (fun h hh => List.mem_range.1 hh) (by simp) tN rfl
  have start : ∀ v h', ex mM.sub (callF mM.sub mM.PF (k + 3)) (stSnd (stSnd (stSnd i_shared_day.body))) [some (.tup (msD mss)), some (.int most), some (.ref 0), none, none, none, none, none, none] [.lst (List.replicate 24 .non)] = .rt v h' → callF mM.sub mM.PF (k + 4) 17 [.tup (msD mss), .int most] [] = .ok v h' := by
    intro v h' z
    rw [callS _ _ _ _ _ _ _ PF17]
    have B : ex mM.sub (callF mM.sub mM.PF (k + 3)) i_shared_day.body [some (.tup (msD mss)), some (.int most), none, none, none, none, none, none, none] [] = .rt v h' := by
      refine step (S' := [some (.tup (msD mss)), some (.int most), none, none, none, none, none, none, none]) (h' := []) (by simp [c1]) ?_
      refine step (S' := [some (.tup (msD mss)), some (.int most), none, none, none, none, none, none, none]) (h' := []) (by simp [c2, m0, m1]) ?_
      refine step (S' := [some (.tup (msD mss)), some (.int most), some (.ref 0), none, none, none, none, none, none]) (h' := [.lst (List.replicate 24 .non)]) (by rw [exAsg, mr]; rfl) ?_
      exact z
    simp [callB_, show i_shared_day.np = 2 from rfl, show i_shared_day.nl = 9 from rfl, B]
  have fr : ∀ S h, ex mM.sub (callF mM.sub mM.PF (k + 3)) (.for_ (.nm 3) (.rng1 (.lit (.int (24)))) sdB) S h = forF (turnF mM.sub (callF mM.sub mM.PF (k + 3)) (.nm 3) sdB) ((List.range 24).map fun j => .int (j : Nat)) S h := by
    intro S h
    simp -implicitDefEqProofs [r24]
  rcases lp with ⟨v, h', p, f⟩ | ⟨T', r', u3, u4, u5, u6, u7, u8, tT', f⟩
  · refine ⟨v, h', start v h' ?_, p⟩
    exact stepR' ((fr _ _).trans f)
  · refine ⟨.tup [.str (Str.ofString "kept"), .tup T'], .lst T' :: r', start _ _ ?_, by simp [D.pure, D.pures, (t_facts tT').1]⟩
    refine step ((fr _ _).trans f) ?_
    simp
end Pl

set_option Elab.async false
set_option linter.all false
set_option maxRecDepth 100000
set_option maxHeartbeats 4000000
namespace Pl
open PySem Ci
theorem v0 (a b c d e : D) : atD [a, b, c, d, e] 0 = some a := rfl
theorem v1 (a b c d e : D) : atD [a, b, c, d, e] 1 = some b := rfl
theorem v2 (a b c d e : D) : atD [a, b, c, d, e] 2 = some c := rfl
theorem v3 (a b c d e : D) : atD [a, b, c, d, e] 3 = some d := rfl
theorem v4 (a b c d e : D) : atD [a, b, c, d, e] 4 = some e := rfl
abbrev q (x : String) : Str := Str.ofString x
/-- what told says -/
def Says (f : Nat) (ds : List D) (w : Str) : Prop := ∀ h, pcallF (callF mM.sub mM.PF 198) 29 [.fn f, .lst ds] h = .ok (.str w) h
def Bads (f : Nat) (ds : List D) (c : Nat) (x : Str) : Prop := ∃ g, callF mM.sub mM.PF 196 f ds [] = .exc c (.str x) g
theorem pcP {k f : Nat} {ds : List D} {h g : Hs} {v : D} (c : D.clears ds = true) (e : callF mM.sub mM.PF k f ds [] = .ok v g) (p : v.pure = true) : pcallF (callF mM.sub mM.PF k) f ds h = .ok v h := pcPure c e p
theorem tryR {sub : Nat → Nat → Bool} {call : Nat → List D → Hs → R D} {s t : St} {S : Sl} {h h2 : Hs} {d : D} {c i : Nat} (e : ex sub call s S h = .rt d h2) : ex sub call (.try_ s c i t) S h = .rt d h2 := by
  simp only [ex, e]
theorem tryX {sub : Nat → Nat → Bool} {call : Nat → List D → Hs → R D} {s t : St} {S S' : Sl} {h h' h2 : Hs} {d v : D} {c cc i : Nat} (e : ex sub call s S h = .exc cc v S' h') (sb : sub cc c = true) (et : ex sub call t (S'.set i (some (.exc cc v))) h' = .rt d h2) (n : (d.noExc && h2.all O.noExc) = true) : ex sub call (.try_ s c i t) S h = .rt d h2 := by
  simp only [ex, e, sb, et, n, if_true]
def tryS : St := match i__law_asked.body with
  | .try_ s _ _ _ => s
  | s => s
theorem asked_ok {f : Nat} {ds : List D} {v : D} {g : Hs} (c : D.clears ds = true) (l : 1 ≤ ds.length ∧ ds.length ≤ 5) (e : callF mM.sub mM.PF 196 f ds [] = .ok v g) (p : v.pure = true) : callF mM.sub mM.PF 197 26 [.fn f, .lst ds] [] = .ok (.lst [v]) [] := by
  have pc : pcallF (callF mM.sub mM.PF 196) f ds [] = .ok v [] := pcP c e p
  rw [callS _ _ 196 _ _ _ _ PF26]
  have B : ex mM.sub (callF mM.sub mM.PF 196) tryS [some (.fn f), some (.lst ds), none] [] = .rt (.lst [v]) [] := by
    match ds, l with
    | [a], _ =>
      have i0 : atD [a] 0 = some a := rfl
      simp -implicitDefEqProofs [tryS, i__law_asked, i0, pc]
    | [a, b], _ =>
      simp -implicitDefEqProofs [tryS, i__law_asked, b0, b1, pc]
    | [a, b, d], _ =>
      simp -implicitDefEqProofs [tryS, i__law_asked, t0, t1, t2, pc]
    | [a, b, d, e], _ =>
      simp -implicitDefEqProofs [tryS, i__law_asked, at0, at1, at2, at3, pc]
    | [a, b, d, e, f5], _ =>
      simp -implicitDefEqProofs [tryS, i__law_asked, v0, v1, v2, v3, v4, pc]
    | [], l => exact absurd l.1 (by simp)
    | _ :: _ :: _ :: _ :: _ :: _ :: _, l => exact absurd l.2 (by simp)
  have T := tryR (c := 0) (i := 2) (t := .ret (.call 25 (.cons (.var 2) .nil))) B
  simp only [tryS, i__law_asked] at T
  simp -implicitDefEqProofs [callB_, i__law_asked, T]
theorem asked_exc {f cc : Nat} {ds : List D} {x w : Str} {g : Hs} (c : D.clears ds = true) (l : 1 ≤ ds.length ∧ ds.length ≤ 5) (e : callF mM.sub mM.PF 196 f ds [] = .exc cc (.str x) g) (s0 : mM.sub cc 0 = true) (hw : callF mM.sub mM.PF 196 25 [.exc cc (.str x)] [] = .ok (.str w) []) : callF mM.sub mM.PF 197 26 [.fn f, .lst ds] [] = .ok (.str w) [] := by
  have pc : pcallF (callF mM.sub mM.PF 196) f ds [] = .exc cc (.str x) [] := pcExc c e rfl
  rw [callS _ _ 196 _ _ _ _ PF26]
  have B : ex mM.sub (callF mM.sub mM.PF 196) tryS [some (.fn f), some (.lst ds), none] [] = .exc cc (.str x) [some (.fn f), some (.lst ds), none] [] := by
    match ds, l with
    | [a], _ =>
      have i0 : atD [a] 0 = some a := rfl
      simp -implicitDefEqProofs [tryS, i__law_asked, i0, pc]
    | [a, b], _ =>
      simp -implicitDefEqProofs [tryS, i__law_asked, b0, b1, pc]
    | [a, b, d], _ =>
      simp -implicitDefEqProofs [tryS, i__law_asked, t0, t1, t2, pc]
    | [a, b, d, e], _ =>
      simp -implicitDefEqProofs [tryS, i__law_asked, at0, at1, at2, at3, pc]
    | [a, b, d, e, f5], _ =>
      simp -implicitDefEqProofs [tryS, i__law_asked, v0, v1, v2, v3, v4, pc]
    | [], l => exact absurd l.1 (by simp)
    | _ :: _ :: _ :: _ :: _ :: _ :: _, l => exact absurd l.2 (by simp)
  have T := tryX (c := 0) (i := 2) (t := .ret (.call 25 (.cons (.var 2) .nil))) (d := .str w) (h2 := []) B s0 (by simp [hw]) rfl
  simp only [tryS, i__law_asked] at T
  simp -implicitDefEqProofs [callB_, i__law_asked, T]
theorem told_ok {f : Nat} {ds : List D} (c : D.clears ds = true) (l : 1 ≤ ds.length ∧ ds.length ≤ 5) (e : Fin 196 f ds) : Says f ds (q "") := by
  obtain ⟨v, g, e, p⟩ := e
  have c2 : D.clears [.fn f, .lst ds] = true := by simp [D.clears, D.clear, c]
  have a := pcP (h := []) c2 (asked_ok c l e p) (by simp [D.pure, D.pures, p])
  have e2 : callF mM.sub mM.PF 198 29 [.fn f, .lst ds] [] = .ok (.str (q "")) [] := by
    rw [callS _ _ 197 _ _ _ _ PF29]
    simp [callB_, i__law_told, a, q, show (Ty.str == Ty.list) = false from rfl]
  exact fun h => pcOk c2 e2 rfl
theorem told_exc {f cc : Nat} {ds : List D} {x : Str} (w : Str) (c : D.clears ds = true) (l : 1 ≤ ds.length ∧ ds.length ≤ 5) (e : Bads f ds cc x) (s0 : mM.sub cc 0 = true) (hw : callF mM.sub mM.PF 196 25 [.exc cc (.str x)] [] = .ok (.str w) []) : Says f ds w := by
  obtain ⟨g, e⟩ := e
  have c2 : D.clears [.fn f, .lst ds] = true := by simp [D.clears, D.clear, c]
  have a := pcOk (h := []) c2 (asked_exc c l e s0 hw) rfl
  have e2 : callF mM.sub mM.PF 198 29 [.fn f, .lst ds] [] = .ok (.str w) [] := by
    rw [callS _ _ 197 _ _ _ _ PF29]
    simp [callB_, i__law_told, a]
  exact fun h => pcOk c2 e2 rfl
theorem w_spans : callF mM.sub mM.PF 196 25 [.exc 2 (.str (q "spans"))] [] = .ok (.str (q "storm spans")) [] := by rfl
theorem w_begin : callF mM.sub mM.PF 196 25 [.exc 3 (.str (q "begin"))] [] = .ok (.str (q "argument begin")) [] := by rfl
theorem w_end : callF mM.sub mM.PF 196 25 [.exc 3 (.str (q "end"))] [] = .ok (.str (q "argument end")) [] := by rfl
theorem w_rest : callF mM.sub mM.PF 196 25 [.exc 3 (.str (q "rest"))] [] = .ok (.str (q "argument rest")) [] := by rfl
theorem w_men : callF mM.sub mM.PF 196 25 [.exc 3 (.str (q "men"))] [] = .ok (.str (q "argument men")) [] := by rfl
theorem w_most : callF mM.sub mM.PF 196 25 [.exc 3 (.str (q "most"))] [] = .ok (.str (q "argument most")) [] := by rfl
theorem w_form : callF mM.sub mM.PF 196 25 [.exc 4 (.str (q "form"))] [] = .ok (.str (q "paper form")) [] := by rfl
theorem s2 : mM.sub 2 0 = true := rfl
theorem s3 : mM.sub 3 0 = true := rfl
theorem s4 : mM.sub 4 0 = true := rfl
theorem isint195 {x : D} (px : pln 100 x = true) (h : Hs) : pcallF (callF mM.sub mM.PF 195) 0 [x] h = .ok (.bl (isW x)) h := isint_any 194 h x px
theorem clsP : ∀ {ds : List D}, (∀ d ∈ ds, pln 100 d = true) → D.clears ds = true
  | [], _ => rfl
  | d :: ds, h => by
    simp only [D.clears, pln_clear (h d List.mem_cons_self), Bool.true_and]
    exact clsP fun x hx => h x (List.mem_cons_of_mem _ hx)
theorem exc_of {f cc : Nat} {ds : List D} {x : Str} (w : Str) (c : ∀ d ∈ ds, pln 100 d = true) (l : 1 ≤ ds.length ∧ ds.length ≤ 5) (e : callF mM.sub mM.PF 196 f ds [] = .exc cc (.str x) []) (s0 : mM.sub cc 0 = true) (hw : callF mM.sub mM.PF 196 25 [.exc cc (.str x)] [] = .ok (.str w) []) : Says f ds w := told_exc w (clsP c) l ⟨[], e⟩ s0 hw
theorem fin_of {f : Nat} {ds : List D} (c : ∀ d ∈ ds, pln 100 d = true) (l : 1 ≤ ds.length ∧ ds.length ≤ 5) (e : Fin 196 f ds) : Says f ds (q "") := told_ok (clsP c) l e
/-! spans, begin, end -/
def wW (s b e : D) : Str := if gsB s then (if whB 0 1000 b then (if whE b e then q "" else q "argument end") else q "argument begin") else q "storm spans"
section
variable {s b e : D} (ps : pln 100 s = true) (pb : pln 100 b = true) (pe : pln 100 e = true)
include ps in
theorem bad_sp (g : gsB s = false) : ∀ h, pcallF (callF mM.sub mM.PF 195) 1 [s] h = .exc 2 (.str (q "spans")) h := fun h => by
  rw [cspans_any 192 h s ps (by omega), galR, g]; rfl
include ps in
theorem ok_sp (g : gsB s = true) : ∀ h, pcallF (callF mM.sub mM.PF 195) 1 [s] h = .ok .non h := fun h => by
  rw [cspans_any 192 h s ps (by omega), galR, g]; rfl
include pb pe in
theorem bad_b (g : whB 0 1000 b = false) : ∀ h, pcallF (callF mM.sub mM.PF 195) 3 [b, e] h = .exc 3 (.str (q "begin")) h := fun h => by
  rw [cwhole_any 193 h b e pb pe, whR, g]; rfl
include pb pe in
theorem bad_e (g : whB 0 1000 b = true) (g2 : whE b e = false) : ∀ h, pcallF (callF mM.sub mM.PF 195) 3 [b, e] h = .exc 3 (.str (q "end")) h := fun h => by
  rw [cwhole_any 193 h b e pb pe, whR, g, g2]; rfl
include pb pe in
theorem ok_be (g : whB 0 1000 b = true) (g2 : whE b e = true) : ∀ h, pcallF (callF mM.sub mM.PF 195) 3 [b, e] h = .ok .non h := fun h => by
  rw [cwhole_any 193 h b e pb pe, whR, g, g2]; rfl
omit ps pb pe in
theorem be_int (g : whB 0 1000 b = true) (g2 : whE b e = true) : ∃ i j, b = .int i ∧ e = .int j ∧ 0 ≤ i ∧ i ≤ j ∧ j ≤ 1000 := by
  cases b <;> first | (simp [whB] at g; done) | skip
  rename_i i
  simp only [whE] at g2
  cases e <;> first | (simp [whB] at g2; done) | skip
  rename_i j
  simp only [whB, Bool.and_eq_true, decide_eq_true_eq] at g g2
  exact ⟨i, j, rfl, rfl, g.1, g2.1, g2.2⟩
include ps pb pe in
/-- what is due ahead of all else -/
theorem be_first (f : Nat) (ds : List D) (pd : ∀ d ∈ ds, pln 100 d = true) (l : ds.length ≤ 2) (w : Str) (hw : gsB s = true → whB 0 1000 b = true → whE b e = true → Says f (s :: b :: e :: ds) w)
    (h1 : ∀ x, (∀ h, pcallF (callF mM.sub mM.PF 195) 1 [s] h = .exc 2 (.str x) h) → callF mM.sub mM.PF 196 f (s :: b :: e :: ds) [] = .exc 2 (.str x) [])
    (h2 : ∀ x, (∀ h, pcallF (callF mM.sub mM.PF 195) 1 [s] h = .ok .non h) → (∀ h, pcallF (callF mM.sub mM.PF 195) 3 [b, e] h = .exc 3 (.str x) h) → callF mM.sub mM.PF 196 f (s :: b :: e :: ds) [] = .exc 3 (.str x) []) :
    Says f (s :: b :: e :: ds) (if wW s b e = q "" then w else wW s b e) := by
  have pa : ∀ d ∈ s :: b :: e :: ds, pln 100 d = true := fun d hd => by
    rcases List.mem_cons.1 hd with rfl | hd
    · exact ps
    · rcases List.mem_cons.1 hd with rfl | hd
      · exact pb
      · rcases List.mem_cons.1 hd with rfl | hd
        · exact pe
        · exact pd d hd
  have la : 1 ≤ (s :: b :: e :: ds).length ∧ (s :: b :: e :: ds).length ≤ 5 := by simp only [List.length_cons]; omega
  have n1 : ¬ q "storm spans" = q "" := by decide
  have n2 : ¬ q "argument begin" = q "" := by decide
  have n3 : ¬ q "argument end" = q "" := by decide
  unfold wW
  cases g : gsB s with
  | false =>
    simp only [Bool.false_eq_true, if_false, n1]
    exact exc_of (q "storm spans") pa la (h1 _ (bad_sp ps g)) s2 w_spans
  | true =>
    cases g2 : whB 0 1000 b with
    | false =>
      simp only [Bool.false_eq_true, if_false, if_true, n2]
      exact exc_of (q "argument begin") pa la (h2 _ (ok_sp ps g) (bad_b pb pe g2)) s3 w_begin
    | true =>
      cases g3 : whE b e with
      | false =>
        simp only [Bool.false_eq_true, if_false, if_true, n3]
        exact exc_of (q "argument end") pa la (h2 _ (ok_sp ps g) (bad_e pb pe g2 g3)) s3 w_end
      | true =>
        simp only [if_true]
        exact hw g g2 g3
end
end Pl

set_option Elab.async false
set_option linter.all false
set_option maxRecDepth 100000
set_option maxHeartbeats 4000000
namespace Pl
open PySem Ci
def lenD : D → Nat
  | .tup xs => xs.length
  | _ => 0
def ixB (n : Nat) : D → Bool
  | .int i => decide (0 ≤ i) && decide (i < n)
  | _ => false
def allX (n : Nat) : D → Bool
  | .tup xs => xs.all (ixB n)
  | _ => false
def inR (b e : Int) : D → Bool
  | .int i => decide (b ≤ i) && decide (i ≤ e)
  | _ => false
theorem ints_inR {b e : Int} : ∀ {xs : List D}, xs.all (inR b e) = true → xs = (intsD xs).map .int
  | [], _ => rfl
  | x :: xs, h => by
    simp only [List.all_cons, Bool.and_eq_true] at h
    have ih := ints_inR h.2
    cases x with
    | int i => simp only [intsD, List.map_cons]; rw [← ih]
    | _ => simp [inR] at h
def hrsB (b e : D) (p m : D) : Bool := match b, e, p with
  | .int i, .int j, .tup xs => xs.all (inR i j) && !nr (intsD xs) && isW m
  | _, _, _ => false
section
variable {s b e p m : D} (ps : pln 100 s = true) (pb : pln 100 b = true) (pe : pln 100 e = true)
include ps pb pe
theorem says4 : Says 4 [s, b, e] (wW s b e) := by
  have h := be_first ps pb pe 4 [] (fun d hd => by cases hd) (by simp) (q "") (fun g g2 g3 => by
    obtain ⟨i, j, rfl, rfl, k1, k2, k3⟩ := be_int g2 g3
    obtain ⟨zs, rfl, ok⟩ := gsB_is g
    exact fin_of (fun d hd => by
      simp only [List.mem_cons, List.not_mem_nil, or_false] at hd
      rcases hd with rfl | rfl | rfl
      · exact ps
      · rfl
      · rfl) (by simp) (gaps_fin 192 ok k1 k2 k3)) (fun x h => by
    rw [callS _ _ 195 _ _ _ _ PF4]; simp [callB_, i_gaps_in, h]) (fun x h h2 => by
    rw [callS _ _ 195 _ _ _ _ PF4]; simp [callB_, i_gaps_in, h, h2])
  split at h
  · rename_i z; rw [z]; exact h
  · exact h
theorem says6 : Says 6 [s, b, e] (wW s b e) := by
  have h := be_first ps pb pe 6 [] (fun d hd => by cases hd) (by simp) (q "") (fun g g2 g3 => by
    obtain ⟨i, j, rfl, rfl, k1, k2, k3⟩ := be_int g2 g3
    obtain ⟨zs, rfl, ok⟩ := gsB_is g
    exact fin_of (fun d hd => by
      simp only [List.mem_cons, List.not_mem_nil, or_false] at hd
      rcases hd with rfl | rfl | rfl
      · exact ps
      · rfl
      · rfl) (by simp) (judge_fin 192 ok k1 k2 k3)) (fun x h => by
    rw [callS _ _ 195 _ _ _ _ PF6]; simp [callB_, i_judge_watch, h]) (fun x h h2 => by
    rw [callS _ _ 195 _ _ _ _ PF6]; simp [callB_, i_judge_watch, h, h2])
  split at h
  · rename_i z; rw [z]; exact h
  · exact h
theorem says7 : Says 7 [s, b, e] (wW s b e) := by
  have h := be_first ps pb pe 7 [] (fun d hd => by cases hd) (by simp) (q "") (fun g g2 g3 => by
    obtain ⟨i, j, rfl, rfl, k1, k2, k3⟩ := be_int g2 g3
    obtain ⟨zs, rfl, ok⟩ := gsB_is g
    exact fin_of (fun d hd => by
      simp only [List.mem_cons, List.not_mem_nil, or_false] at hd
      rcases hd with rfl | rfl | rfl
      · exact ps
      · rfl
      · rfl) (by simp) (fw_fin 192 ok k1 k2 k3)) (fun x h => by
    rw [callS _ _ 195 _ _ _ _ PF7]; simp [callB_, i_fewest_watches, h]) (fun x h h2 => by
    rw [callS _ _ 195 _ _ _ _ PF7]; simp [callB_, i_fewest_watches, h, h2])
  split at h
  · rename_i z; rw [z]; exact h
  · exact h
theorem says8 (pp : pln 100 p = true) (pm : pln 100 m = true) (bd : gsB s = true → (allX (lenD s) p && isW m) = false) : Says 8 [s, b, e, p, m] (if wW s b e = q "" then q "paper form" else wW s b e) := by
  refine be_first ps pb pe 8 [p, m] (fun d hd => by
    simp only [List.mem_cons, List.not_mem_nil, or_false] at hd
    rcases hd with rfl | rfl
    · exact pp
    · exact pm) (by simp) _ (fun g g2 g3 => ?_) (fun x h => by
    rw [callS _ _ 195 _ _ _ _ PF8]; simp [callB_, i_accept_watches, h]) (fun x h h2 => by
    rw [callS _ _ 195 _ _ _ _ PF8]; simp [callB_, i_accept_watches, h, h2])
  have bd := bd g
  have b1' := ok_sp ps g
  have b2' := ok_be pb pe g2 g3
  have im := isint195 pm []
  refine exc_of (q "paper form") (fun d hd => by
    simp only [List.mem_cons, List.not_mem_nil, or_false] at hd
    rcases hd with rfl | rfl | rfl | rfl | rfl <;> assumption) (by simp) ?_ s4 w_form
  obtain ⟨zs, rfl, ok⟩ := gsB_is g
  rw [callS _ _ 195 _ _ _ _ PF8]
  cases p with
  | tup xs =>
    obtain ⟨lx, px⟩ := pln_tup.1 pp
    have lx2 : xs.length ≤ 16777216 := by omega
    have ln : lenD (.tup (psD zs)) = zs.length := ps_len zs
    have c := comp_map (fun x => .bl (ixB zs.length x)) (turnC mM.sub (callF mM.sub mM.PF 195) (.and_ (.pcall 0 (.cons (.var 5) .nil)) (.cmp2 .LtE .Lt (.lit (.int (0))) (.var 5) (.blt .len (.cons (.var 0) .nil)))) [5] (.nm 5) .omit [some (.tup (psD zs)), some b, some e, some (.tup xs), some m, none]) [] xs (fun x hx => by
      have ix := isint195 (px x hx) []
      have p1 := px x hx
      cases x with
      | int i =>
        by_cases q1 : 0 ≤ i
        · by_cases q2 : i < zs.length
          · simp [turnC_, ix, isW, ixB, ps_len, q1, q2]
          · simp [turnC_, ix, isW, ixB, ps_len, q1, q2]
        · simp [turnC_, ix, isW, ixB, ps_len, q1]
      | non => simp [turnC_, ix, isW, ixB]
      | bl b => simp [turnC_, ix, isW, ixB]
      | str b => simp [turnC_, ix, isW, ixB]
      | tup b => simp [turnC_, ix, isW, ixB]
      | _ => simp [pln] at p1)
    rw [ln] at bd
    simp only [allX] at bd
    cases a : xs.all (ixB zs.length) with
    | true =>
      rw [a, Bool.true_and] at bd
      rw [bd] at im
      simp [callB_, i_accept_watches, b1', b2', lx2, c, bls_map, all_map, a, im, -List.all_map, -List.all_eq_true, -List.all_eq_false]
    | false =>
      simp [callB_, i_accept_watches, b1', b2', lx2, c, bls_map, all_map, a, im, -List.all_map, -List.all_eq_true, -List.all_eq_false]
  | non => simp [callB_, i_accept_watches, b1', b2']
  | bl b => simp [callB_, i_accept_watches, b1', b2']
  | int b => simp [callB_, i_accept_watches, b1', b2']
  | str b => simp [callB_, i_accept_watches, b1', b2']
  | _ => simp [pln] at pp
theorem says9 (pp : pln 100 p = true) (pm : pln 100 m = true) (bd : gsB s = true → whB 0 1000 b = true → whE b e = true → hrsB b e p m = false) : Says 9 [s, b, e, p, m] (if wW s b e = q "" then q "paper form" else wW s b e) := by
  refine be_first ps pb pe 9 [p, m] (fun d hd => by
    simp only [List.mem_cons, List.not_mem_nil, or_false] at hd
    rcases hd with rfl | rfl
    · exact pp
    · exact pm) (by simp) _ (fun g g2 g3 => ?_) (fun x h => by
    rw [callS _ _ 195 _ _ _ _ PF9]; simp [callB_, i_accept_hours, h]) (fun x h h2 => by
    rw [callS _ _ 195 _ _ _ _ PF9]; simp [callB_, i_accept_hours, h, h2])
  have bd := bd g g2 g3
  have b1' := ok_sp ps g
  have b2' := ok_be pb pe g2 g3
  have im := isint195 pm []
  refine exc_of (q "paper form") (fun d hd => by
    simp only [List.mem_cons, List.not_mem_nil, or_false] at hd
    rcases hd with rfl | rfl | rfl | rfl | rfl <;> assumption) (by simp) ?_ s4 w_form
  obtain ⟨i, j, rfl, rfl, k1, k2, k3⟩ := be_int g2 g3
  rw [callS _ _ 195 _ _ _ _ PF9]
  cases p with
  | tup xs =>
    obtain ⟨lx, px⟩ := pln_tup.1 pp
    have lx2 : xs.length ≤ 16777216 := by omega
    have c := comp_map (fun x => .bl (inR i j x)) (turnC mM.sub (callF mM.sub mM.PF 195) (.and_ (.pcall 0 (.cons (.var 8) .nil)) (.cmp2 .LtE .LtE (.var 1) (.var 8) (.var 2))) [8] (.nm 8) .omit [some s, some (.int i), some (.int j), some (.tup xs), some m, none, none, none, none]) [] xs (fun x hx => by
      have ix := isint195 (px x hx) []
      have p1 := px x hx
      cases x with
      | int y =>
        by_cases q1 : i ≤ y
        · by_cases q2 : y ≤ j
          · simp [turnC_, ix, isW, inR, q1, q2]
          · simp [turnC_, ix, isW, inR, q1, q2]
        · simp [turnC_, ix, isW, inR, q1]
      | non => simp [turnC_, ix, isW, inR]
      | bl b => simp [turnC_, ix, isW, inR]
      | str b => simp [turnC_, ix, isW, inR]
      | tup b => simp [turnC_, ix, isW, inR]
      | _ => simp [pln] at p1)
    cases a : xs.all (inR i j) with
    | false => simp [callB_, i_accept_hours, b1', b2', lx2, c, bls_map, all_map, a, -List.all_map, -List.all_eq_true, -List.all_eq_false]
    | true =>
      have exs := ints_inR a
      obtain ⟨is, eis⟩ : ∃ is, intsD xs = is := ⟨_, rfl⟩
      rw [eis] at exs
      have li : is.length = xs.length := by rw [exs]; simp
      have rr := rr0 is (by omega)
      have c2 := comp_pick (fun j : Nat => D.int (j : Int)) (fun j : Nat => decide (is.getD (j + 1) 0 ≤ is.getD j 0)) (fun _ => D.int 1) (turnC mM.sub (callF mM.sub mM.PF 195) (.lit (.int (1))) [7] (.nm 7) (.cmp .GtE (.ix (.var 3) (.var 7)) (.ix (.var 3) (.bin .Add (.var 7) (.lit (.int (1)))))) [some s, some (.int i), some (.int j), some (.tup xs), some m, none, none, none, none]) [] (List.range (is.length - 1)) (by
        intro j hj
        have hj := List.mem_range.1 hj
        have a1 := at_is (is := is) (k := j) (by omega)
        have a2 := at_is (is := is) (k := j + 1) (by omega)
        rw [show ((j + 1 : Nat) : Int) = (j : Int) + 1 by omega] at a2
        rw [← exs] at a1 a2
        by_cases q : is.getD (j + 1) 0 ≤ is.getD j 0
        · simp only [turnC_, put, wipe]
          simp [a1, a2, q, -List.getD_eq_getElem?_getD]
        · simp only [turnC_, put, wipe]
          simp [a1, a2, q, -List.getD_eq_getElem?_getD])
      have ne := filter_any (fun _ : Nat => D.int 1) (fun j : Nat => decide (is.getD (j + 1) 0 ≤ is.getD j 0)) (List.range (is.length - 1))
      have en : nr is = (List.range (is.length - 1)).any fun j => decide (is.getD (j + 1) 0 ≤ is.getD j 0) := rfl
      rw [← en] at ne
      generalize ((List.range (is.length - 1)).filter _).map (fun _ => D.int 1) = Z at c2 ne
      rw [li] at rr c2
      have lr : xs.length - 1 ≤ 16777216 := by omega
      simp only [hrsB, a, eis, Bool.true_and] at bd
      cases z : nr is with
      | true =>
        rw [z] at ne
        simp [callB_, i_accept_hours, b1', b2', lx2, lr, c, bls_map, all_map, a, rr, c2, ne, E.isOmit, -List.all_map, -List.all_eq_true, -List.all_eq_false, -List.isEmpty_iff, -List.isEmpty_eq_false_iff]
      | false =>
        rw [z] at ne bd
        simp only [Bool.not_false, Bool.true_and] at bd
        rw [bd] at im
        simp [callB_, i_accept_hours, b1', b2', lx2, lr, c, bls_map, all_map, a, rr, c2, ne, im, E.isOmit, -List.all_map, -List.all_eq_true, -List.all_eq_false, -List.isEmpty_iff, -List.isEmpty_eq_false_iff]
  | non => simp [callB_, i_accept_hours, b1', b2']
  | bl b => simp [callB_, i_accept_hours, b1', b2']
  | int b => simp [callB_, i_accept_hours, b1', b2']
  | str b => simp [callB_, i_accept_hours, b1', b2']
  | _ => simp [pln] at pp
end
end Pl

set_option Elab.async false
set_option linter.all false
set_option maxRecDepth 100000
set_option maxHeartbeats 4000000
namespace Pl
open PySem Ci
def wR (s r : D) : Str := if gsB s then (if whB 0 1000 r then q "" else q "argument rest") else q "storm spans"
def nnB : D → Bool
  | .int i => decide (0 ≤ i)
  | _ => false
def allN : D → Bool
  | .tup xs => xs.all nnB
  | _ => false
section
variable {s r p m : D} (ps : pln 100 s = true) (pr : pln 100 r = true)
include pr in
theorem bad_r (g : whB 0 1000 r = false) : ∀ h, pcallF (callF mM.sub mM.PF 195) 10 [r] h = .exc 3 (.str (q "rest")) h := fun h => by
  rw [crest_any 193 h r pr, g]; rfl
include pr in
theorem ok_r (g : whB 0 1000 r = true) : ∀ h, pcallF (callF mM.sub mM.PF 195) 10 [r] h = .ok .non h := fun h => by
  rw [crest_any 193 h r pr, g]; rfl
include ps pr in
theorem r_first (f : Nat) (ds : List D) (pd : ∀ d ∈ ds, pln 100 d = true) (l : ds.length ≤ 3) (w : Str) (hw : gsB s = true → whB 0 1000 r = true → Says f (s :: r :: ds) w)
    (h1 : ∀ x, (∀ h, pcallF (callF mM.sub mM.PF 195) 1 [s] h = .exc 2 (.str x) h) → callF mM.sub mM.PF 196 f (s :: r :: ds) [] = .exc 2 (.str x) [])
    (h2 : ∀ x, (∀ h, pcallF (callF mM.sub mM.PF 195) 1 [s] h = .ok .non h) → (∀ h, pcallF (callF mM.sub mM.PF 195) 10 [r] h = .exc 3 (.str x) h) → callF mM.sub mM.PF 196 f (s :: r :: ds) [] = .exc 3 (.str x) []) :
    Says f (s :: r :: ds) (if wR s r = q "" then w else wR s r) := by
  have pa : ∀ d ∈ s :: r :: ds, pln 100 d = true := fun d hd => by
    rcases List.mem_cons.1 hd with rfl | hd
    · exact ps
    · rcases List.mem_cons.1 hd with rfl | hd
      · exact pr
      · exact pd d hd
  have la : 1 ≤ (s :: r :: ds).length ∧ (s :: r :: ds).length ≤ 5 := by simp only [List.length_cons]; omega
  have n1 : ¬ q "storm spans" = q "" := by decide
  have n2 : ¬ q "argument rest" = q "" := by decide
  unfold wR
  cases g : gsB s with
  | false =>
    simp only [Bool.false_eq_true, if_false, n1]
    exact exc_of (q "storm spans") pa la (h1 _ (bad_sp ps g)) s2 w_spans
  | true =>
    cases g2 : whB 0 1000 r with
    | false =>
      simp only [Bool.false_eq_true, if_false, if_true, n2]
      exact exc_of (q "argument rest") pa la (h2 _ (ok_sp ps g) (bad_r pr g2)) s3 w_rest
    | true =>
      simp only [if_true]
      exact hw g g2
include ps pr
theorem says11 : Says 11 [s, r] (wR s r) := by
  have h := r_first ps pr 11 [] (fun d hd => by cases hd) (by simp) (q "") (fun g g2 => by
    obtain ⟨i, rfl⟩ : ∃ i, r = .int i := by
      cases r <;> first | exact ⟨_, rfl⟩ | (simp [whB] at g2)
    simp only [whB, Bool.and_eq_true, decide_eq_true_eq] at g2
    obtain ⟨zs, rfl, ok⟩ := gsB_is g
    exact fin_of (fun d hd => by
      simp only [List.mem_cons, List.not_mem_nil, or_false] at hd
      rcases hd with rfl | rfl
      · exact ps
      · rfl) (by simp) (men_fin 192 ok g2.1 g2.2)) (fun x h => by
    rw [callS _ _ 195 _ _ _ _ PF11]; simp [callB_, i_fewest_men, h]) (fun x h h2 => by
    rw [callS _ _ 195 _ _ _ _ PF11]; simp [callB_, i_fewest_men, h, h2])
  split at h
  · rename_i z; rw [z]; exact h
  · exact h
theorem says14 : Says 14 [s, r] (wR s r) := by
  have h := r_first ps pr 14 [] (fun d hd => by cases hd) (by simp) (q "") (fun g g2 => by
    obtain ⟨i, rfl⟩ : ∃ i, r = .int i := by
      cases r <;> first | exact ⟨_, rfl⟩ | (simp [whB] at g2)
    simp only [whB, Bool.and_eq_true, decide_eq_true_eq] at g2
    obtain ⟨zs, rfl, ok⟩ := gsB_is g
    exact fin_of (fun d hd => by
      simp only [List.mem_cons, List.not_mem_nil, or_false] at hd
      rcases hd with rfl | rfl
      · exact ps
      · rfl) (by simp) (crowd_fin 192 ok g2.1 g2.2)) (fun x h => by
    rw [callS _ _ 195 _ _ _ _ PF14]; simp [callB_, i_crowded_hour, h]) (fun x h h2 => by
    rw [callS _ _ 195 _ _ _ _ PF14]; simp [callB_, i_crowded_hour, h, h2])
  split at h
  · rename_i z; rw [z]; exact h
  · exact h
theorem says13 (pp : pln 100 p = true) (pm : pln 100 m = true) (bd : (isW p && isW m) = false) : Says 13 [s, r, p, m] (if wR s r = q "" then q "paper form" else wR s r) := by
  refine r_first ps pr 13 [p, m] (fun d hd => by
    simp only [List.mem_cons, List.not_mem_nil, or_false] at hd
    rcases hd with rfl | rfl
    · exact pp
    · exact pm) (by simp) _ (fun g g2 => ?_) (fun x h => by
    rw [callS _ _ 195 _ _ _ _ PF13]; simp [callB_, i_accept_crowd, h]) (fun x h h2 => by
    rw [callS _ _ 195 _ _ _ _ PF13]; simp [callB_, i_accept_crowd, h, h2])
  have b1' := ok_sp ps g
  have b2' := ok_r pr g2
  have ip := isint195 pp []
  have im := isint195 pm []
  refine exc_of (q "paper form") (fun d hd => by
    simp only [List.mem_cons, List.not_mem_nil, or_false] at hd
    rcases hd with rfl | rfl | rfl | rfl <;> assumption) (by simp) ?_ s4 w_form
  rw [callS _ _ 195 _ _ _ _ PF13]
  cases a : isW p with
  | true =>
    rw [a, Bool.true_and] at bd
    rw [a] at ip
    rw [bd] at im
    simp [callB_, i_accept_crowd, b1', b2', ip, im]
  | false =>
    rw [a] at ip
    simp [callB_, i_accept_crowd, b1', b2', ip, im]
theorem says12 (pp : pln 100 p = true) (pm : pln 100 m = true) (bd : gsB s = true → (allN p && decide (lenD p = lenD s)) = false) : Says 12 [s, r, p, m] (if wR s r = q "" then q "paper form" else wR s r) := by
  refine r_first ps pr 12 [p, m] (fun d hd => by
    simp only [List.mem_cons, List.not_mem_nil, or_false] at hd
    rcases hd with rfl | rfl
    · exact pp
    · exact pm) (by simp) _ (fun g g2 => ?_) (fun x h => by
    rw [callS _ _ 195 _ _ _ _ PF12]; simp [callB_, i_accept_men, h]) (fun x h h2 => by
    rw [callS _ _ 195 _ _ _ _ PF12]; simp [callB_, i_accept_men, h, h2])
  have bd := bd g
  have b1' := ok_sp ps g
  have b2' := ok_r pr g2
  refine exc_of (q "paper form") (fun d hd => by
    simp only [List.mem_cons, List.not_mem_nil, or_false] at hd
    rcases hd with rfl | rfl | rfl | rfl <;> assumption) (by simp) ?_ s4 w_form
  obtain ⟨zs, rfl, ok⟩ := gsB_is g
  rw [callS _ _ 195 _ _ _ _ PF12]
  cases p with
  | tup xs =>
    obtain ⟨lx, px⟩ := pln_tup.1 pp
    have lx2 : xs.length ≤ 16777216 := by omega
    have ln : lenD (.tup (psD zs)) = zs.length := ps_len zs
    have c := comp_map (fun x => .bl (nnB x)) (turnC mM.sub (callF mM.sub mM.PF 195) (.and_ (.pcall 0 (.cons (.var 10) .nil)) (.cmp .GtE (.var 10) (.lit (.int (0))))) [10] (.nm 10) .omit [some (.tup (psD zs)), some r, some (.tup xs), some m, none, none, none, none, none, none, none]) [] xs (fun x hx => by
      have ix := isint195 (px x hx) []
      have p1 := px x hx
      cases x with
      | int y =>
        by_cases q1 : 0 ≤ y
        · simp [turnC_, ix, isW, nnB, q1]
        · simp [turnC_, ix, isW, nnB, q1]
      | non => simp [turnC_, ix, isW, nnB]
      | bl b => simp [turnC_, ix, isW, nnB]
      | str b => simp [turnC_, ix, isW, nnB]
      | tup b => simp [turnC_, ix, isW, nnB]
      | _ => simp [pln] at p1)
    by_cases l : xs.length = zs.length
    · have l2 : ((xs.length : Int) == (zs.length : Int)) = true := by simp [l]
      have l3 : lenD (.tup xs) = lenD (.tup (psD zs)) := by rw [ln]; exact l
      rw [decide_eq_true l3, Bool.and_true] at bd
      simp only [allN] at bd
      simp [callB_, i_accept_men, b1', b2', ps_len, l2, lx2, c, bls_map, all_map, bd, -List.all_map, -List.all_eq_true, -List.all_eq_false]
    · have l2 : ((xs.length : Int) == (zs.length : Int)) = false := by simp; omega
      simp [callB_, i_accept_men, b1', b2', ps_len, l2]
  | non => simp [callB_, i_accept_men, b1', b2']
  | bl b => simp [callB_, i_accept_men, b1', b2']
  | int b => simp [callB_, i_accept_men, b1', b2']
  | str b => simp [callB_, i_accept_men, b1', b2']
  | _ => simp [pln] at pp
end
/-! men -/
def wM (d m : D) : Str := if menB d then (if whB 0 24 m then q "" else q "argument most") else q "argument men"
def dayB (n : Nat) : D → Bool
  | .tup xs => decide (xs.length = 24) && xs.all (ixB n)
  | _ => false
section
variable {d m p : D} (pd : pln 100 d = true) (pm : pln 100 m = true)
include pd in
theorem bad_m (g : menB d = false) : ∀ h, pcallF (callF mM.sub mM.PF 195) 15 [d] h = .exc 3 (.str (q "men")) h := fun h => by
  rw [cmen_any 192 h d pd, g]; rfl
include pd in
theorem ok_m (g : menB d = true) : ∀ h, pcallF (callF mM.sub mM.PF 195) 15 [d] h = .ok .non h := fun h => by
  rw [cmen_any 192 h d pd, g]; rfl
include pd pm in
theorem m_first (f : Nat) (ds : List D) (px : ∀ x ∈ ds, pln 100 x = true) (l : ds.length ≤ 3) (w : Str) (hw : menB d = true → whB 0 24 m = true → Says f (d :: m :: ds) w)
    (h1 : ∀ x, (∀ h, pcallF (callF mM.sub mM.PF 195) 15 [d] h = .exc 3 (.str x) h) → callF mM.sub mM.PF 196 f (d :: m :: ds) [] = .exc 3 (.str x) [])
    (h2 : (∀ h, pcallF (callF mM.sub mM.PF 195) 15 [d] h = .ok .non h) → whB 0 24 m = false → callF mM.sub mM.PF 196 f (d :: m :: ds) [] = .exc 3 (.str (q "most")) []) :
    Says f (d :: m :: ds) (if wM d m = q "" then w else wM d m) := by
  have pa : ∀ x ∈ d :: m :: ds, pln 100 x = true := fun x hx => by
    rcases List.mem_cons.1 hx with rfl | hx
    · exact pd
    · rcases List.mem_cons.1 hx with rfl | hx
      · exact pm
      · exact px x hx
  have la : 1 ≤ (d :: m :: ds).length ∧ (d :: m :: ds).length ≤ 5 := by simp only [List.length_cons]; omega
  have n1 : ¬ q "argument men" = q "" := by decide
  have n2 : ¬ q "argument most" = q "" := by decide
  unfold wM
  cases g : menB d with
  | false =>
    simp only [Bool.false_eq_true, if_false, n1]
    exact exc_of (q "argument men") pa la (h1 _ (bad_m pd g)) s3 w_men
  | true =>
    cases g2 : whB 0 24 m with
    | false =>
      simp only [Bool.false_eq_true, if_false, if_true, n2]
      exact exc_of (q "argument most") pa la (h2 (ok_m pd g) g2) s3 w_most
    | true =>
      simp only [if_true]
      exact hw g g2
end
end Pl

set_option Elab.async false
set_option linter.all false
set_option maxRecDepth 100000
set_option maxHeartbeats 4000000
namespace Pl
open PySem Ci
section
variable {d m p : D} (pd : pln 100 d = true) (pm : pln 100 m = true)
include pd pm
theorem says17 : Says 17 [d, m] (wM d m) := by
  have h := m_first pd pm 17 [] (fun x hx => by cases hx) (by simp) (q "") (fun g g2 => by
    obtain ⟨i, rfl⟩ : ∃ i, m = .int i := by
      cases m <;> first | exact ⟨_, rfl⟩ | (simp [whB] at g2)
    simp only [whB, Bool.and_eq_true, decide_eq_true_eq] at g2
    exact fin_of (fun x hx => by
      simp only [List.mem_cons, List.not_mem_nil, or_false] at hx
      rcases hx with rfl | rfl
      · exact pd
      · rfl) (by simp) (shared_fin 192 pd g g2.1 g2.2)) (fun x h => by
    rw [callS _ _ 195 _ _ _ _ PF17]; simp [callB_, i_shared_day, h]) (fun h g2 => by
    have im := isint195 pm []
    rw [callS _ _ 195 _ _ _ _ PF17]
    cases m with
    | int y =>
      simp only [whB] at g2
      by_cases q1 : 0 ≤ y
      · have q2 : ¬ y ≤ 24 := fun q2 => by simp [q1, q2] at g2
        simp [callB_, i_shared_day, h, im, isW, q1, q2]
      · simp [callB_, i_shared_day, h, im, isW, q1]
    | non => simp [callB_, i_shared_day, h, im, isW]
    | bl b => simp [callB_, i_shared_day, h, im, isW]
    | str b => simp [callB_, i_shared_day, h, im, isW]
    | tup b => simp [callB_, i_shared_day, h, im, isW]
    | _ => simp [pln] at pm)
  split at h
  · rename_i z; rw [z]; exact h
  · exact h
theorem says20 (pp : pln 100 p = true) (bd : hoursB p = false) : Says 20 [d, m, p] (if wM d m = q "" then q "paper form" else wM d m) := by
  refine m_first pd pm 20 [p] (fun x hx => by
    rw [List.mem_singleton.1 hx]; exact pp) (by simp) _ (fun g g2 => ?_) (fun x h => by
    rw [callS _ _ 195 _ _ _ _ PF20]; simp [callB_, i_accept_short, h]) (fun h g2 => by
    have im := isint195 pm []
    rw [callS _ _ 195 _ _ _ _ PF20]
    cases m with
    | int y =>
      simp only [whB] at g2
      by_cases q1 : 0 ≤ y
      · have q2 : ¬ y ≤ 24 := fun q2 => by simp [q1, q2] at g2
        simp [callB_, i_accept_short, h, im, isW, q1, q2]
      · simp [callB_, i_accept_short, h, im, isW, q1]
    | non => simp [callB_, i_accept_short, h, im, isW]
    | bl b => simp [callB_, i_accept_short, h, im, isW]
    | str b => simp [callB_, i_accept_short, h, im, isW]
    | tup b => simp [callB_, i_accept_short, h, im, isW]
    | _ => simp [pln] at pm)
  have b1' := ok_m pd g
  have hp : ∀ h, pcallF (callF mM.sub mM.PF 195) 16 [p] h = .ok (.bl (hoursB p)) h := fun h => hours_any 193 h p pp
  rw [bd] at hp
  have im := isint195 pm []
  refine exc_of (q "paper form") (fun x hx => by
    simp only [List.mem_cons, List.not_mem_nil, or_false] at hx
    rcases hx with rfl | rfl | rfl <;> assumption) (by simp) ?_ s4 w_form
  rw [callS _ _ 195 _ _ _ _ PF20]
  obtain ⟨i, rfl⟩ : ∃ i, m = .int i := by
    cases m <;> first | exact ⟨_, rfl⟩ | (simp [whB] at g2)
  simp only [whB, Bool.and_eq_true, decide_eq_true_eq] at g2
  have im : pcallF (callF mM.sub mM.PF 195) 0 [.int i] [] = .ok (.bl true) [] := im
  simp [callB_, i_accept_short, b1', im, g2.1, g2.2, hp]
theorem says21 (pp : pln 100 p = true) (bd : menB d = true → dayB (lenD d) p = false) : Says 21 [d, m, p] (if wM d m = q "" then q "paper form" else wM d m) := by
  refine m_first pd pm 21 [p] (fun x hx => by
    rw [List.mem_singleton.1 hx]; exact pp) (by simp) _ (fun g g2 => ?_) (fun x h => by
    rw [callS _ _ 195 _ _ _ _ PF21]; simp [callB_, i_accept_day, h]) (fun h g2 => by
    have im := isint195 pm []
    rw [callS _ _ 195 _ _ _ _ PF21]
    cases m with
    | int y =>
      simp only [whB] at g2
      by_cases q1 : 0 ≤ y
      · have q2 : ¬ y ≤ 24 := fun q2 => by simp [q1, q2] at g2
        simp [callB_, i_accept_day, h, im, isW, q1, q2]
      · simp [callB_, i_accept_day, h, im, isW, q1]
    | non => simp [callB_, i_accept_day, h, im, isW]
    | bl b => simp [callB_, i_accept_day, h, im, isW]
    | str b => simp [callB_, i_accept_day, h, im, isW]
    | tup b => simp [callB_, i_accept_day, h, im, isW]
    | _ => simp [pln] at pm)
  have bd := bd g
  have b1' := ok_m pd g
  have im := isint195 pm []
  refine exc_of (q "paper form") (fun x hx => by
    simp only [List.mem_cons, List.not_mem_nil, or_false] at hx
    rcases hx with rfl | rfl | rfl <;> assumption) (by simp) ?_ s4 w_form
  rw [callS _ _ 195 _ _ _ _ PF21]
  obtain ⟨i, rfl⟩ : ∃ i, m = .int i := by
    cases m <;> first | exact ⟨_, rfl⟩ | (simp [whB] at g2)
  simp only [whB, Bool.and_eq_true, decide_eq_true_eq] at g2
  have im : pcallF (callF mM.sub mM.PF 195) 0 [.int i] [] = .ok (.bl true) [] := im
  have m0 := g2.1
  have m1 := g2.2
  obtain ⟨mss, rfl, _, _⟩ := menB_is g
  have ln : lenD (.tup (msD mss)) = mss.length := by simp [lenD, msD]
  have ml : (msD mss).length = mss.length := by simp [msD]
  rw [ln] at bd
  cases p with
  | tup xs =>
    obtain ⟨lx, px⟩ := pln_tup.1 pp
    have lx2 : xs.length ≤ 16777216 := by omega
    by_cases l : xs.length = 24
    · have l2 : ((xs.length : Int) == 24) = true := by simp [l]
      have c := comp_map (fun x => .bl (isW x)) (turnC mM.sub (callF mM.sub mM.PF 195) (.pcall 0 (.cons (.var 3) .nil)) [3] (.nm 3) .omit [some (.tup (msD mss)), some (.int i), some (.tup xs), none, none]) [] xs (fun x hx => by simp [turnC_, isint195 (px x hx)])
      cases a : xs.all isW with
      | false => simp [callB_, i_accept_day, b1', im, m0, m1, l2, lx2, c, bls_map, all_map, a, -List.all_map, -List.all_eq_true, -List.all_eq_false]
      | true =>
        have exs : ∀ {xs : List D}, xs.all isW = true → xs = (intsD xs).map .int := by
          intro xs
          induction xs with
          | nil => intro _; rfl
          | cons x xs ih =>
            intro h
            simp only [List.all_cons, Bool.and_eq_true] at h
            cases x with
            | int i => simp only [intsD, List.map_cons]; rw [← ih h.2]
            | _ => simp [isW] at h
        have exs := exs a
        obtain ⟨is, eis⟩ : ∃ is, intsD xs = is := ⟨_, rfl⟩
        rw [eis] at exs
        have c2 := comp_pick D.int (fun y => !(decide (0 ≤ y) && decide (y < (mss.length : Int)))) D.int (turnC mM.sub (callF mM.sub mM.PF 195) (.var 3) [3] (.nm 3) (.not_ (.cmp2 .LtE .Lt (.lit (.int (0))) (.var 3) (.blt .len (.cons (.var 0) .nil)))) [some (.tup (msD mss)), some (.int i), some (.tup xs), none, none]) [] is (by
          intro y hy
          by_cases q1 : 0 ≤ y
          · by_cases q2 : y < (mss.length : Int)
            · simp [turnC_, E.isOmit, ml, q1, q2]
            · simp [turnC_, E.isOmit, ml, q1, q2]
          · simp [turnC_, E.isOmit, ml, q1])
        rw [← exs] at c2
        have ne := filter_any D.int (fun y => !(decide (0 ≤ y) && decide (y < (mss.length : Int)))) is
        have ab : xs.all (ixB mss.length) = !(is.any fun y => !(decide (0 ≤ y) && decide (y < (mss.length : Int)))) := by
          rw [exs]
          clear c2 ne exs eis
          induction is with
          | nil => rfl
          | cons y is ih => simp only [List.map_cons, List.all_cons, List.any_cons, ih, ixB, Bool.not_or, Bool.not_not]
        simp only [dayB, l, decide_true, Bool.true_and, ab, Bool.not_eq_false'] at bd
        rw [bd] at ne
        generalize (is.filter fun y => !(decide (0 ≤ y) && decide (y < (mss.length : Int)))).map D.int = Z at c2 ne
        simp [callB_, i_accept_day, b1', im, m0, m1, l2, lx2, c, bls_map, all_map, a, c2, ne, -List.all_map, -List.all_eq_true, -List.all_eq_false, -List.isEmpty_iff, -List.isEmpty_eq_false_iff]
    · have l2 : ((xs.length : Int) == 24) = false := by simp; omega
      simp [callB_, i_accept_day, b1', im, m0, m1, l2]
  | non => simp [callB_, i_accept_day, b1', im, m0, m1]
  | bl b => simp [callB_, i_accept_day, b1', im, m0, m1]
  | int b => simp [callB_, i_accept_day, b1', im, m0, m1]
  | str b => simp [callB_, i_accept_day, b1', im, m0, m1]
  | _ => simp [pln] at pp
end
end Pl

set_option Elab.async false
set_option linter.all false
set_option maxRecDepth 100000
set_option maxHeartbeats 4000000
namespace Pl
open PySem Ci
theorem slTup' {xs : List D} {lo hi : Option Int} : slD (.tup xs) lo hi = some (.tup (cutL xs lo hi)) := rfl
/-- the first word that is due -/
def nz (w : Str) : Bool := !(w == q "")
def firstS (ws : List Str) : Str := match ws.filter nz with
  | [] => q ""
  | w :: _ => w
theorem strs_clear (ws : List Str) : D.clears (ws.map .str) = true := by
  induction ws with
  | nil => rfl
  | cons w ws ih => simp [D.clears, D.clear, ih]
theorem first_ok (k : Nat) (ws : List Str) (l : ws.length ≤ 1000) (hw : ∀ w ∈ ws, eqD (.str w) (.str (q "")) = some (!nz w)) : ∀ h, pcallF (callF mM.sub mM.PF (k + 1)) 30 [.lst (ws.map .str)] h = .ok (.str (firstS ws)) h := by
  have c := comp_pick D.str nz D.str (turnC mM.sub (callF mM.sub mM.PF k) (.var 2) [2] (.nm 2) (.cmp .NotEq (.var 2) (.lit (.str (Str.ofString "")))) [some (.lst (ws.map .str)), none, none]) [] ws (fun w h => by
    have := hw w h
    simp only [q] at this
    cases e : nz w with
    | true => rw [e] at this; simp -implicitDefEqProofs [turnC_, E.isOmit, this]
    | false => rw [e] at this; simp -implicitDefEqProofs [turnC_, E.isOmit, this])
  have e : callF mM.sub mM.PF (k + 1) 30 [.lst (ws.map .str)] [] = .ok (.str (firstS ws)) [] := by
    rw [callS _ _ _ _ _ _ _ PF30]
    have l1 : ws.length ≤ 16777216 := by omega
    unfold firstS
    cases F : ws.filter nz with
    | nil =>
      rw [F] at c
      simp -implicitDefEqProofs [callB_, i__law_first, l1, c]
    | cons w W =>
      rw [F] at c
      have a0 : atD (.str w :: W.map .str) 0 = some (.str w) := by
        simp [atD, ixI]
      simp -implicitDefEqProofs [callB_, i__law_first, l1, c, a0]
  refine fun h => pcOk ?_ e rfl
  simp [D.clears, D.clear, strs_clear]
theorem first_dyn (k : Nat) (ws : List Str) (l : ws.length ≤ 1000) (hw : ∀ w ∈ ws, eqD (.str w) (.str (q "")) = some (!nz w)) (n : Nat) (h : Hs) (hn : h[n]? = some (.lst (ws.map .str))) : callF mM.sub mM.PF (k + 1) 30 [.ref n] h = .ok (.str (firstS ws)) h := by
  have t : ∀ w ∈ ws, turnC mM.sub (callF mM.sub mM.PF k) (.var 2) [2] (.nm 2) (.cmp .NotEq (.var 2) (.lit (.str (Str.ofString "")))) [some (.ref n), none, none] (.str w) h = .ok (if nz w then some (.str w) else none) h := fun w hw' => by
    have := hw w hw'
    simp only [q] at this
    cases e : nz w with
    | true => rw [e] at this; simp -implicitDefEqProofs [turnC_, E.isOmit, this]
    | false => rw [e] at this; simp -implicitDefEqProofs [turnC_, E.isOmit, this]
  have c0 := dyn_fix _ n (ws.map .str) h hn (fun x hx => by
    obtain ⟨w, hw', rfl⟩ := List.mem_map.1 hx
    exact ⟨_, t w hw'⟩) wfuel 0 (Nat.zero_le _) (by rw [List.length_map]; unfold wfuel; omega)
  rw [List.drop_zero, comp_pick D.str nz D.str _ h ws t] at c0
  have so : srcOk (.dyn n) h = true := by simp only [srcOk, hn]
  rw [callS _ _ _ _ _ _ _ PF30]
  unfold firstS
  cases F : ws.filter nz with
  | nil =>
    rw [F] at c0
    simp -implicitDefEqProofs [callB_, i__law_first, so, kCompD, c0]
  | cons w W =>
    rw [F] at c0
    have a0 : atD (.str w :: W.map .str) 0 = some (.str w) := by
      simp [atD, ixI]
    simp -implicitDefEqProofs [callB_, i__law_first, so, kCompD, c0, a0]
theorem pow13 : binD .Pow (.int 10) (.int 13) = some (.int 10000000000000) := rfl
theorem pow30 : binD .Pow (.int 10) (.int 30) = some (.int 1000000000000000000000000000000) := rfl
def lv : Nat → D → Bool
  | 0, .tup xs => xs.isEmpty
  | n + 1, .tup xs => xs.all (lv n)
  | _, _ => true
def leafL : List D := [.non, .bl true, .bl false, .int (-1), .int 0, .int 1, .str (Str.ofString "0"), .tup [], .tup [.int 0], .int 1000000000000000000000000000000]
theorem leafL_pln {N : Nat} {x : D} (h : x ∈ leafL) : pln (N + 1) x = true := by
  have : leafL.all (pln 1) = true := by decide +kernel
  exact pln_mono (by omega) (List.all_eq_true.1 this x h)
def addL : List D := [.int 1, .int (-1), .int 2, .int 10000000000000]
theorem addL_int {x : D} (h : x ∈ addL) : ∃ i, x = .int i := by
  simp only [addL, List.mem_cons, List.not_mem_nil, or_false] at h
  rcases h with rfl | rfl | rfl | rfl <;> exact ⟨_, rfl⟩
def leafD : D → Bool
  | .tup xs => xs.isEmpty
  | _ => true
theorem bent_leaf (m N : Nat) {r h : Hs} {d : D} (g : StR r h) (lf : leafD d = true) (p : pln N d = true) : ∃ d' h', StR r h' ∧ pln (N + 1) d' = true ∧ callF mM.sub mM.PF (m + 3) 28 [.ref 0, d] h = .ok d' h' := by
  cases d with
  | int i =>
    obtain ⟨v, h1, g1, v0, v1, e1⟩ := draw_ok (m + 1) h 3 g (by omega) (by omega)
    by_cases z : 0 < v
    · obtain ⟨x, h2, g2, mx, e2⟩ := pick_ok m h1 addL g1 (by simp [addL]) (by simp [addL])
      obtain ⟨j, rfl⟩ := addL_int mx
      simp only [addL] at e2
      refine ⟨.int (i + j), h2, g2, rfl, ?_⟩
      rw [callS _ _ (m + 2) _ _ _ _ PF28]
      simp -implicitDefEqProofs [callB_, i__law_bent, pow13, e1, e2, z]
    · obtain ⟨x, h2, g2, mx, e2⟩ := pick_ok m h1 leafL g1 (by simp [leafL]) (by simp [leafL])
      refine ⟨x, h2, g2, leafL_pln mx, ?_⟩
      simp only [leafL] at e2
      rw [callS _ _ (m + 2) _ _ _ _ PF28]
      simp -implicitDefEqProofs [callB_, i__law_bent, pow30, e1, e2, z]
  | tup xs =>
    simp only [leafD, List.isEmpty_iff] at lf
    subst lf
    obtain ⟨x, h2, g2, mx, e2⟩ := pick_ok m h leafL g (by simp [leafL]) (by simp [leafL])
    refine ⟨x, h2, g2, leafL_pln mx, ?_⟩
    simp only [leafL] at e2
    rw [callS _ _ (m + 2) _ _ _ _ PF28]
    simp -implicitDefEqProofs [callB_, i__law_bent, pow30, e2]
  | non =>
    obtain ⟨x, h2, g2, mx, e2⟩ := pick_ok m h leafL g (by simp [leafL]) (by simp [leafL])
    refine ⟨x, h2, g2, leafL_pln mx, ?_⟩
    simp only [leafL] at e2
    rw [callS _ _ (m + 2) _ _ _ _ PF28]
    simp -implicitDefEqProofs [callB_, i__law_bent, pow30, e2]
  | bl b =>
    obtain ⟨x, h2, g2, mx, e2⟩ := pick_ok m h leafL g (by simp [leafL]) (by simp [leafL])
    refine ⟨x, h2, g2, leafL_pln mx, ?_⟩
    simp only [leafL] at e2
    rw [callS _ _ (m + 2) _ _ _ _ PF28]
    simp -implicitDefEqProofs [callB_, i__law_bent, pow30, e2]
  | str b =>
    obtain ⟨x, h2, g2, mx, e2⟩ := pick_ok m h leafL g (by simp [leafL]) (by simp [leafL])
    refine ⟨x, h2, g2, leafL_pln mx, ?_⟩
    simp only [leafL] at e2
    rw [callS _ _ (m + 2) _ _ _ _ PF28]
    simp -implicitDefEqProofs [callB_, i__law_bent, pow30, e2]
  | _ => simp [pln] at p
theorem cutI_nat (n d j : Nat) (l : j ≤ n) : cutI n d (some (j : Int)) = j := by
  simp only [cutI]
  rw [if_neg (by omega), Int.toNat_natCast]
  omega
theorem cut_take (xs : List D) (j : Nat) (l : j ≤ xs.length) : cutL xs none (some (j : Int)) = xs.take j := by
  simp only [cutL, cutI_nat _ _ _ l]
  simp [cutI]
theorem cut_drop (xs : List D) (j : Nat) (l : j ≤ xs.length) : cutL xs (some (j : Int)) none = xs.drop j := by
  simp only [cutL, cutI_nat _ _ _ l]
  simp only [cutI]
  rw [List.take_of_length_le (by simp)]
theorem cut_one (xs : List D) (j : Nat) (l : j + 1 ≤ xs.length) : cutL xs (some (j : Int)) (some ((j + 1 : Nat) : Int)) = (xs.drop j).take 1 := by
  have e1 := cutI_nat xs.length 0 j (by omega)
  have e2 := cutI_nat xs.length xs.length (j + 1) l
  simp only [cutL, e1, e2]
  congr 1
  omega
theorem addT {xs ys : List D} (l : xs.length + ys.length ≤ 100000) : addD (.tup xs) (.tup ys) = some (.tup (xs ++ ys)) := by
  rw [addTup, okLt l]; rfl
theorem bent_tup (m n N : Nat) (ih : ∀ (N : Nat) {r h : Hs} {d : D}, StR r h → lv n d = true → pln N d = true → N ≤ 90 → ∃ d' h', StR r h' ∧ pln (N + 1) d' = true ∧ callF mM.sub mM.PF (m + 3) 28 [.ref 0, d] h = .ok d' h') {r h : Hs} {xs : List D} (g : StR r h) (lf : lv (n + 1) (.tup xs) = true) (p : pln N (.tup xs) = true) (n9 : N ≤ 90) (ne : xs ≠ []) : ∃ d' h', StR r h' ∧ pln (N + 1) d' = true ∧ callF mM.sub mM.PF (m + 4) 28 [.ref 0, .tup xs] h = .ok d' h' := by
  obtain ⟨lx, px⟩ := pln_tup.1 p
  have l0 : 0 < xs.length := List.length_pos_iff.2 ne
  have ie : xs.isEmpty = false := by simpa using ne
  obtain ⟨a, h1, g1, a0, a1, e1⟩ := draw_ok (m + 2) h xs.length g (by omega) (by omega)
  obtain ⟨w, h2, g2, w0, w1, e2⟩ := draw_ok (m + 2) h1 9 g1 (by omega) (by omega)
  obtain ⟨j, hj, lj⟩ : ∃ j : Nat, a = (j : Int) ∧ j < xs.length := ⟨a.toNat, by omega, by omega⟩
  subst hj
  obtain ⟨y, hy⟩ : ∃ y, xs[j] = y := ⟨_, rfl⟩
  have my : y ∈ xs := hy ▸ List.getElem_mem lj
  have aj : atD xs (j : Int) = some y := by
    have h0 : (0 : Int) ≤ (j : Int) := by omega
    have h1 : (j : Int) < (xs.length : Int) := by omega
    simp only [atD, ixI, h0, h1, if_true, Option.bind_some, Int.toNat_natCast]
    rw [List.getElem?_eq_getElem lj, hy]
  obtain ⟨A, hA⟩ : ∃ A, xs.take j = A := ⟨_, rfl⟩
  obtain ⟨B, hB⟩ : ∃ B, xs.drop (j + 1) = B := ⟨_, rfl⟩
  obtain ⟨C, hC⟩ : ∃ C, (xs.drop j).take 1 = C := ⟨_, rfl⟩
  obtain ⟨E, hE⟩ : ∃ E, xs.drop j = E := ⟨_, rfl⟩
  have lA : A.length = j := by rw [← hA, List.length_take]; omega
  have lB : B.length = xs.length - (j + 1) := by rw [← hB, List.length_drop]
  have lC : C.length = 1 := by rw [← hC, List.length_take, List.length_drop]; omega
  have lE : E.length = xs.length - j := by rw [← hE, List.length_drop]
  have mA : ∀ x ∈ A, pln N x = true := fun x hx => px x (List.mem_of_mem_take (hA ▸ hx))
  have mB : ∀ x ∈ B, pln N x = true := fun x hx => px x (List.mem_of_mem_drop (hB ▸ hx))
  have mC : ∀ x ∈ C, pln N x = true := fun x hx => px x (List.mem_of_mem_drop (List.mem_of_mem_take (hC ▸ hx)))
  have mE : ∀ x ∈ E, pln N x = true := fun x hx => px x (List.mem_of_mem_drop (hE ▸ hx))
  have cA := cut_take xs j (by omega)
  have cB := cut_drop xs (j + 1) (by omega)
  have cC := cut_one xs j (by omega)
  have cE := cut_drop xs j (by omega)
  rw [Int.natCast_add, Int.natCast_one] at cB cC
  rw [hA] at cA
  rw [hB] at cB
  rw [hC] at cC
  rw [hE] at cE
  have f1 : addD (.tup A) (.tup B) = some (.tup (A ++ B)) := addT (by omega)
  have f2 : addD (.tup A) (.tup C) = some (.tup (A ++ C)) := addT (by omega)
  have f3 : addD (.tup (A ++ C)) (.tup E) = some (.tup (A ++ C ++ E)) := addT (by rw [List.length_append]; omega)
  have f4 : addD (.tup xs) (.tup [.int 0]) = some (.tup (xs ++ [.int 0])) := addT (by simp; omega)
  have pN : ∀ x, pln N x = true → pln (N + 1) x = true := fun x hx => pln_mono (by omega) hx
  have s0 : ex mM.sub (callF mM.sub mM.PF (m + 3)) (stFst i__law_bent.body) [some (.ref 0), some (.tup xs), none, none] h = .nx [some (.ref 0), some (.tup xs), none, none] h := by
    simp -implicitDefEqProofs [stFst, i__law_bent, ie, -List.isEmpty_iff, -List.isEmpty_eq_false_iff]
  have s1 : ex mM.sub (callF mM.sub mM.PF (m + 3)) (stFst (stSnd i__law_bent.body)) [some (.ref 0), some (.tup xs), none, none] h = .nx [some (.ref 0), some (.tup xs), some (.int (j : Int)), some (.int w)] h2 := by
    simp -implicitDefEqProofs [stFst, stSnd, i__law_bent, e1, e2]
  have fin : ∀ d' h', ex mM.sub (callF mM.sub mM.PF (m + 3)) (stSnd (stSnd i__law_bent.body)) [some (.ref 0), some (.tup xs), some (.int (j : Int)), some (.int w)] h2 = .rt d' h' → callF mM.sub mM.PF (m + 4) 28 [.ref 0, .tup xs] h = .ok d' h' := by
    intro d' h' e
    have Z : ex mM.sub (callF mM.sub mM.PF (m + 3)) i__law_bent.body [some (.ref 0), some (.tup xs), none, none] h = .rt d' h' := step s0 (step s1 e)
    rw [callS _ _ (m + 3) _ _ _ _ PF28]
    simp [callB_, show i__law_bent.np = 2 from rfl, show i__law_bent.nl = 4 from rfl, Z]
  by_cases z : w < 5
  · obtain ⟨y', h4, g4, py, e4⟩ := ih N g2 (List.all_eq_true.1 lf y my) (px y my) n9
    have f5 : addD (.tup A) (.tup [y']) = some (.tup (A ++ [y'])) := addT (by simp; omega)
    have f6 : addD (.tup (A ++ [y'])) (.tup B) = some (.tup (A ++ [y'] ++ B)) := addT (by simp; omega)
    refine ⟨.tup (A ++ [y'] ++ B), h4, g4, ?_, fin _ _ ?_⟩
    · rw [pln_tup]
      refine ⟨by simp; omega, fun x hx => ?_⟩
      rcases List.mem_append.1 hx with hx | hx
      · rcases List.mem_append.1 hx with hx | hx
        · exact pN x (mA x hx)
        · rw [List.mem_singleton.1 hx]; exact py
      · exact pN x (mB x hx)
    · generalize A ++ [y'] ++ B = W at f6 ⊢
      generalize A ++ [y'] = V at f5 f6
      simp -implicitDefEqProofs [stFst, stSnd, i__law_bent, slTup', Ci.E.isOmit, z, aj, e4, cA, cB, f5, f6]
  · have lst : ∃ W, pln (N + 1) (.tup W) = true ∧ ex mM.sub (callF mM.sub mM.PF (m + 3)) (stSnd (stSnd i__law_bent.body)) [some (.ref 0), some (.tup xs), some (.int (j : Int)), some (.int w)] h2 = .rt (.tup W) h2 := by
      obtain ⟨W1, h1⟩ : ∃ W, A ++ B = W := ⟨_, rfl⟩
      obtain ⟨V2, hv2⟩ : ∃ W, A ++ C = W := ⟨_, rfl⟩
      obtain ⟨W2, h2⟩ : ∃ W, V2 ++ E = W := ⟨_, rfl⟩
      obtain ⟨W3, h3⟩ : ∃ W, xs.reverse = W := ⟨_, rfl⟩
      obtain ⟨W4, h4⟩ : ∃ W, xs ++ [.int 0] = W := ⟨_, rfl⟩
      have p1 : pln (N + 1) (.tup W1) = true := by
        rw [pln_tup, ← h1]
        refine ⟨by simp; omega, fun x hx => ?_⟩
        rcases List.mem_append.1 hx with hx | hx
        · exact pN x (mA x hx)
        · exact pN x (mB x hx)
      have p2 : pln (N + 1) (.tup W2) = true := by
        rw [pln_tup, ← h2, ← hv2]
        refine ⟨by simp; omega, fun x hx => ?_⟩
        rcases List.mem_append.1 hx with hx | hx
        · rcases List.mem_append.1 hx with hx | hx
          · exact pN x (mA x hx)
          · exact pN x (mC x hx)
        · exact pN x (mE x hx)
      have p3 : pln (N + 1) (.tup W3) = true := by
        rw [pln_tup, ← h3]
        exact ⟨by simp; omega, fun x hx => pN x (px x (List.mem_reverse.1 hx))⟩
      have p4 : pln (N + 1) (.tup W4) = true := by
        rw [pln_tup, ← h4]
        refine ⟨by simp; omega, fun x hx => ?_⟩
        rcases List.mem_append.1 hx with hx | hx
        · exact pN x (px x hx)
        · rw [List.mem_singleton.1 hx]; rfl
      rw [h1] at f1
      rw [hv2] at f2 f3
      rw [h2] at f3
      rw [h4] at f4
      have k : w = 5 ∨ w = 6 ∨ w = 7 ∨ w = 8 := by omega
      rcases k with rfl | rfl | rfl | rfl
      · exact ⟨W1, p1, by simp -implicitDefEqProofs [stFst, stSnd, i__law_bent, slTup', Ci.E.isOmit, cA, cB, cC, cE, f1, f2, f3, f4, h3, at0]⟩
      · exact ⟨W2, p2, by simp -implicitDefEqProofs [stFst, stSnd, i__law_bent, slTup', Ci.E.isOmit, cA, cB, cC, cE, f1, f2, f3, f4, h3, at1]⟩
      · exact ⟨W3, p3, by simp -implicitDefEqProofs [stFst, stSnd, i__law_bent, slTup', Ci.E.isOmit, cA, cB, cC, cE, f1, f2, f3, f4, h3, at2]⟩
      · exact ⟨W4, p4, by simp -implicitDefEqProofs [stFst, stSnd, i__law_bent, slTup', Ci.E.isOmit, cA, cB, cC, cE, f1, f2, f3, f4, h3, at3]⟩
    obtain ⟨W, pW, e⟩ := lst
    exact ⟨.tup W, h2, g2, pW, fin _ _ e⟩
theorem bent_ok : ∀ (n m N : Nat) {r h : Hs} {d : D}, StR r h → lv n d = true → pln N d = true → N ≤ 90 → ∃ d' h', StR r h' ∧ pln (N + 1) d' = true ∧ callF mM.sub mM.PF (m + n + 3) 28 [.ref 0, d] h = .ok d' h'
  | 0, m, N, r, h, d, g, l, p, n9 => bent_leaf m N g (by
      cases d <;> first | rfl | (simpa [lv, leafD] using l)) p
  | n + 1, m, N, r, h, d, g, l, p, n9 => by
    by_cases lf : leafD d = true
    · exact bent_leaf (m + (n + 1)) N g lf p
    · cases d with
      | tup xs =>
        have ne : xs ≠ [] := fun e => by subst e; exact lf rfl
        exact bent_tup (m + n) n N (fun N r h d g l p n9 => bent_ok n m N g l p n9) g l p n9 ne
      | _ => exact absurd rfl lf
end Pl

set_option Elab.async false
set_option linter.all false
set_option maxRecDepth 100000
set_option maxHeartbeats 4000000
namespace Pl
open PySem Ci
theorem comp_pickD (c : D → Bool) (t : D → Hs → R (Option D)) (h : Hs) (xs : List D) (a : ∀ x ∈ xs, t x h = .ok (if c x then some x else none) h) : compF t xs h = .ok (xs.filter c) h := by
  have := comp_pick (fun x : D => x) c (fun x => x) t h xs a
  simpa using this
theorem filter_anyD (c : D → Bool) (xs : List D) : (xs.filter c).isEmpty = !xs.any c := by
  have := filter_any (fun x : D => x) c xs
  simpa using this
theorem not_all (c : D → Bool) (xs : List D) : (!xs.any fun x => !c x) = xs.all c := by
  induction xs with
  | nil => rfl
  | cons x xs ih => simp only [List.any_cons, List.all_cons, Bool.not_or, Bool.not_not, ih]
def gh : Nat → St
  | 0 => i__law_watches_hold.body
  | n + 1 => stSnd (gh n)
def twoB : D → Bool
  | .tup xs => decide (xs.length = 2)
  | _ => false
def shB : D → Bool
  | .tup xs => decide (xs.length ≤ 60) && xs.all twoB
  | _ => false
theorem spB_two {x : D} (h : spB x = true) : twoB x = true := by
  obtain ⟨p, rfl, _⟩ := spB_is h
  rfl
theorem gs_sh (s : D) : gsB s = true → shB s = true := by
  intro h
  unfold gsB at h
  split at h
  · rename_i xs
    simp only [Bool.and_eq_true, decide_eq_true_eq, List.all_eq_true] at h
    simp only [shB, Bool.and_eq_true, decide_eq_true_eq, List.all_eq_true]
    exact ⟨h.1, fun x hx => spB_two (h.2 x hx)⟩
  · cases h
theorem right1 (g o s : D) (ps : pln 100 s = true) (h : Hs) : ex mM.sub (callF mM.sub mM.PF 198) (stFst (gh 4)) [some (.ref 0), some (g), some (o), some (s), none, none, none, none, none, none, none, none, none, none, none, none, none, none] h = .nx [some (.ref 0), some (g), some (o), some (s), some (.bl (shB s)), none, none, none, none, none, none, none, none, none, none, none, none, none] h := by
  cases s with
  | tup xs =>
    obtain ⟨lx, px⟩ := pln_tup.1 ps
    have lx2 : xs.length ≤ 16777216 := by omega
    by_cases l : xs.length ≤ 60
    · have l' : (xs.length : Int) ≤ 60 := by omega
      have c := comp_pickD (fun x => !twoB x) (turnC mM.sub (callF mM.sub mM.PF 198) (.var 17) [17] (.nm 17) (.or_ (.not_ (.isI (.var 17) .tuple)) (.cmp .NotEq (.blt .len (.cons (.var 17) .nil)) (.lit (.int (2))))) [some (.ref 0), some (g), some (o), some (.tup xs), none, none, none, none, none, none, none, none, none, none, none, none, none, none]) h xs (fun x hx => by
        have p1 := px x hx
        cases x with
        | tup ys =>
          by_cases q : ys.length = 2
          · have q' : ((ys.length : Int) == 2) = true := by simp [q]
            simp -implicitDefEqProofs [turnC_, E.isOmit, twoB, q, q']
          · have q' : ((ys.length : Int) == 2) = false := by simp; omega
            simp -implicitDefEqProofs [turnC_, E.isOmit, twoB, q, q']
        | non => simp -implicitDefEqProofs [turnC_, E.isOmit, twoB]
        | bl b => simp -implicitDefEqProofs [turnC_, E.isOmit, twoB]
        | int b => simp -implicitDefEqProofs [turnC_, E.isOmit, twoB]
        | str b => simp -implicitDefEqProofs [turnC_, E.isOmit, twoB]
        | _ => simp [pln] at p1)
      have ne := filter_anyD (fun x => !twoB x) xs
      rw [not_all] at ne
      generalize xs.filter (fun x => !twoB x) = Z at c ne
      simp -implicitDefEqProofs [gh, stFst, stSnd, i__law_watches_hold, l, l', lx2, c, ne, shB, -List.isEmpty_iff, -List.isEmpty_eq_false_iff]
    · have l' : ¬ (xs.length : Int) ≤ 60 := by omega
      simp -implicitDefEqProofs [gh, stFst, stSnd, i__law_watches_hold, l, l', shB]
  | non => simp -implicitDefEqProofs [gh, stFst, stSnd, i__law_watches_hold, shB]
  | bl b => simp -implicitDefEqProofs [gh, stFst, stSnd, i__law_watches_hold, shB]
  | int b => simp -implicitDefEqProofs [gh, stFst, stSnd, i__law_watches_hold, shB]
  | str b => simp -implicitDefEqProofs [gh, stFst, stSnd, i__law_watches_hold, shB]
  | _ => simp [pln] at ps
theorem right2 (g o s : D) (ps : pln 100 s = true) (h : Hs) : ex mM.sub (callF mM.sub mM.PF 198) (stFst (gh 5)) [some (.ref 0), some (g), some (o), some (s), some (.bl (shB s)), none, none, none, none, none, none, none, none, none, none, none, none, none] h = .nx [some (.ref 0), some (g), some (o), some (s), some (.bl (gsB s)), none, none, none, none, none, none, none, none, none, none, none, none, none] h := by
  cases sh : shB s with
  | false =>
    have gs : gsB s = false := by
      cases e : gsB s with
      | false => rfl
      | true => rw [gs_sh s e] at sh; cases sh
    rw [gs]
    simp -implicitDefEqProofs [gh, stFst, stSnd, i__law_watches_hold]
  | true =>
    cases s with
    | tup xs =>
      simp only [shB, Bool.and_eq_true, decide_eq_true_eq, List.all_eq_true] at sh
      obtain ⟨l, two⟩ := sh
      obtain ⟨lx, px⟩ := pln_tup.1 ps
      have lx2 : xs.length ≤ 16777216 := by omega
      have gs : gsB (.tup xs) = xs.all spB := by simp only [gsB, l, decide_true, Bool.true_and]
      rw [gs]
      have c := comp_pickD (fun x => !spB x) (turnC mM.sub (callF mM.sub mM.PF 198) (.var 17) [17] (.nm 17) (.or_ (.not_ (.pcall 27 (.cons (.ix (.var 17) (.lit (.int (0)))) (.cons (.lit (.int (0))) (.cons (.lit (.int (1000))) .nil))))) (.not_ (.pcall 27 (.cons (.ix (.var 17) (.lit (.int (1)))) (.cons (.ix (.var 17) (.lit (.int (0)))) (.cons (.lit (.int (1000))) .nil)))))) [some (.ref 0), some (g), some (o), some (.tup xs), some (.bl true), none, none, none, none, none, none, none, none, none, none, none, none, none]) h xs (fun x hx => by
        have p1 := px x hx
        have t1 := two x hx
        cases x <;> first | (simp [twoB] at t1; done) | skip
        rename_i ys
        simp only [twoB, decide_eq_true_eq] at t1
        obtain ⟨a, b, rfl⟩ : ∃ a b, ys = [a, b] := by
          match ys, t1 with
          | [a, b], _ => exact ⟨a, b, rfl⟩
        obtain ⟨_, py⟩ := pln_tup.1 p1
        have ia := whole_any (N := 100) 197 h a 0 1000 (py a (by simp))
        simp only [Nat.reduceAdd] at ia
        cases z : whB 0 1000 a with
        | false =>
          have sp : spB (.tup [a, b]) = false := by
            cases e : spB (.tup [a, b]) with
            | false => rfl
            | true =>
              obtain ⟨p, hp, r1, r2, r3⟩ := spB_is e
              simp only [pD, D.tup.injEq, List.cons.injEq, and_true] at hp
              rw [hp.1] at z
              simp only [whB, Bool.and_eq_false_iff, decide_eq_false_iff_not] at z
              omega
          rw [z] at ia
          simp -implicitDefEqProofs [turnC_, E.isOmit, b0, b1, ia, sp]
        | true =>
          rw [z] at ia
          obtain ⟨i, rfl⟩ : ∃ i, a = .int i := by
            cases a <;> first | exact ⟨_, rfl⟩ | (simp [whB] at z)
          have ib := whole_any (N := 100) 197 h b i 1000 (py b (by simp))
          simp only [Nat.reduceAdd] at ib
          simp only [whB, Bool.and_eq_true, decide_eq_true_eq] at z
          have sp : spB (.tup [.int i, b]) = whB i 1000 b := by
            cases b <;> first | rfl | (simp [spB, whB, z.1])
          cases e : whB i 1000 b with
          | true => rw [e] at ib sp; simp -implicitDefEqProofs [turnC_, E.isOmit, b0, b1, ia, ib, sp]
          | false => rw [e] at ib sp; simp -implicitDefEqProofs [turnC_, E.isOmit, b0, b1, ia, ib, sp])
      have ne := filter_anyD (fun x => !spB x) xs
      rw [not_all] at ne
      generalize xs.filter (fun x => !spB x) = Z at c ne
      simp -implicitDefEqProofs [gh, stFst, stSnd, i__law_watches_hold, lx2, c, ne, -List.isEmpty_iff, -List.isEmpty_eq_false_iff]
    | _ => simp [shB] at sh
end Pl

set_option Elab.async false
set_option linter.all false
set_option maxRecDepth 100000
set_option maxHeartbeats 4000000
namespace Pl
open PySem Ci
def WL : List Str := [q "", q "storm spans", q "argument begin", q "argument end", q "argument rest", q "argument men", q "argument most", q "paper form"]
abbrev L2 (w : Str) : List D := [.str w, .str w]
theorem eq2 {w : Str} (h : w ∈ WL) : eqD (.lst (L2 w)) (.lst (L2 w)) = some true := by
  have : WL.all (fun w => decide (eqD (.lst (L2 w)) (.lst (L2 w)) = some true)) = true := by decide +kernel
  exact of_decide_eq_true (List.all_eq_true.1 this w h)
theorem m2w (w : Str) : binD .Mult (.lst [.str w]) (.int 2) = some (.lst (L2 w)) := by rfl
abbrev L3 (w : Str) : List D := [.str w, .str w, .str w]
theorem eq3 {w : Str} (h : w ∈ WL) : eqD (.lst (L3 w)) (.lst (L3 w)) = some true := by
  have : WL.all (fun w => decide (eqD (.lst (L3 w)) (.lst (L3 w)) = some true)) = true := by decide +kernel
  exact of_decide_eq_true (List.all_eq_true.1 this w h)
theorem m3w (w : Str) : binD .Mult (.lst [.str w]) (.int 3) = some (.lst (L3 w)) := by rfl
abbrev L9 (w : Str) : List D := [.str w, .str w, .str w, .str w, .str w, .str w, .str w, .str w, .str w]
theorem eq9 {w : Str} (h : w ∈ WL) : eqD (.lst (L9 w)) (.lst (L9 w)) = some true := by
  have : WL.all (fun w => decide (eqD (.lst (L9 w)) (.lst (L9 w)) = some true)) = true := by decide +kernel
  exact of_decide_eq_true (List.all_eq_true.1 this w h)
theorem m9w (w : Str) : binD .Mult (.lst [.str w]) (.int 9) = some (.lst (L9 w)) := by rfl
abbrev L13 (w : Str) : List D := [.str w, .str w, .str w, .str w, .str w, .str w, .str w, .str w, .str w, .str w, .str w, .str w, .str w]
theorem eq13 {w : Str} (h : w ∈ WL) : eqD (.lst (L13 w)) (.lst (L13 w)) = some true := by
  have : WL.all (fun w => decide (eqD (.lst (L13 w)) (.lst (L13 w)) = some true)) = true := by decide +kernel
  exact of_decide_eq_true (List.all_eq_true.1 this w h)
theorem m13w (w : Str) : binD .Mult (.lst [.str w]) (.int 13) = some (.lst (L13 w)) := by rfl
abbrev L14 (w : Str) : List D := [.str w, .str w, .str w, .str w, .str w, .str w, .str w, .str w, .str w, .str w, .str w, .str w, .str w, .str w]
theorem eq14 {w : Str} (h : w ∈ WL) : eqD (.lst (L14 w)) (.lst (L14 w)) = some true := by
  have : WL.all (fun w => decide (eqD (.lst (L14 w)) (.lst (L14 w)) = some true)) = true := by decide +kernel
  exact of_decide_eq_true (List.all_eq_true.1 this w h)
theorem m14w (w : Str) : binD .Mult (.lst [.str w]) (.int 14) = some (.lst (L14 w)) := by rfl
theorem eq1 {w : Str} (h : w ∈ WL) : eqD (.str w) (.str w) = some true := by
  have : WL.all (fun w => decide (eqD (.str w) (.str w) = some true)) = true := by decide +kernel
  exact of_decide_eq_true (List.all_eq_true.1 this w h)
theorem eqE {w : Str} (h : w ∈ WL) : eqD (.str w) (.str (Str.ofString "")) = some (!nz w) := by
  have : WL.all (fun w => decide (eqD (.str w) (.str (Str.ofString "")) = some (!nz w))) = true := by decide +kernel
  exact of_decide_eq_true (List.all_eq_true.1 this w h)
theorem nz_iff (w : Str) : nz w = false ↔ w = q "" := by
  unfold nz
  simp
def wH (s : D) : Str := if gsB s then q "" else q "storm spans"
def wB (b : D) : Str := if whB 0 1000 b then q "" else q "argument begin"
def wE (b e : D) : Str := if whB 0 1000 b && whE b e then q "" else q "argument end"
def wr (r : D) : Str := if whB 0 1000 r then q "" else q "argument rest"
theorem wH_mem (s : D) : wH s ∈ WL := by unfold wH; split <;> simp [WL]
theorem wB_mem (s : D) : wB s ∈ WL := by unfold wB; split <;> simp [WL]
theorem wE_mem (s e : D) : wE s e ∈ WL := by unfold wE; split <;> simp [WL]
theorem wr_mem (s : D) : wr s ∈ WL := by unfold wr; split <;> simp [WL]
theorem wW_mem (s b e : D) : wW s b e ∈ WL := by unfold wW; split <;> (try split) <;> (try split) <;> simp [WL]
theorem wR_mem (s r : D) : wR s r ∈ WL := by unfold wR; split <;> (try split) <;> simp [WL]
theorem nz0 : nz (q "") = false := by decide
theorem nz1 : nz (q "storm spans") = true := by decide
theorem nz2 : nz (q "argument begin") = true := by decide
theorem nz3 : nz (q "argument end") = true := by decide
theorem nz4 : nz (q "argument rest") = true := by decide
theorem nz5 : nz (q "argument men") = true := by decide
theorem nz6 : nz (q "argument most") = true := by decide
theorem wW_first (s b e : D) : firstS [wH s, wB b, wE b e] = wW s b e := by
  unfold firstS wH wB wE wW
  cases gsB s <;> cases whB 0 1000 b <;> cases whE b e <;> simp [List.filter_cons, nz0, nz1, nz2, nz3]
theorem wR_first (s r : D) : firstS [wH s, wr r] = wR s r := by
  unfold firstS wH wr wR
  cases gsB s <;> cases whB 0 1000 r <;> simp [List.filter_cons, nz0, nz1, nz4]
theorem wW_ok {s b e : D} (g : gsB s = true) (g2 : whB 0 1000 b = true) (g3 : whE b e = true) : wW s b e = q "" := by
  unfold wW; rw [g, g2, g3]; rfl
theorem wW_is {s b e : D} (h : wW s b e = q "") : gsB s = true ∧ whB 0 1000 b = true ∧ whE b e = true := by
  have n1 : ¬ q "storm spans" = q "" := by decide
  have n2 : ¬ q "argument begin" = q "" := by decide
  have n3 : ¬ q "argument end" = q "" := by decide
  unfold wW at h
  cases g : gsB s <;> cases g2 : whB 0 1000 b <;> cases g3 : whE b e <;> simp_all
/-! the last thing of a store -/
section
variable {H : Hs} {xs : List D} {y : D} {o : O}
theorem rdL : rd (H ++ [.lst xs]) (.ref H.length) = .lst xs := by simp [rd]
theorem ixL : ixH (H ++ [.lst xs]) (.ref H.length) y = ixD (.lst xs) y := by
  simp only [ixH, dct, rd]
  simp
theorem isL : isLst (H ++ [.lst xs]) (.ref H.length) = true := by simp [isLst, rd]
theorem appL (l : xs.length ≤ 1000) : methD .append (.ref H.length) [y] (H ++ [.lst xs]) = .ok .non (H ++ [.lst (xs ++ [y])]) := by
  have l2 : xs.length < sizeLine := by unfold sizeLine; omega
  simp [methD, l2, List.set_append_right]
theorem StR_app {r h : Hs} (g : StR r h) : StR (r ++ [o]) (h ++ [o]) := by
  obtain ⟨cs, a, b, s, rfl, x⟩ := g
  exact ⟨cs, a, b, s, rfl, x⟩
end
def mcA : St → E
  | .asg _ (.mcat a _) => a
  | _ => .nope
def mcB : St → E
  | .asg _ (.mcat _ b) => b
  | _ => .nope
theorem exMcat {sub : Nat → Nat → Bool} {call : Nat → List D → Hs → R D} {S : Sl} {h h1 h2 : Hs} {x y : D} {xs ys : List D} (i : Nat) (s : St) (es : s = .asg (.nm i) (.mcat (mcA s) (mcB s))) (ha : ev sub call (mcA s) S h = .ok x h1) (hb : ev sub call (mcB s) S h1 = .ok y h2) (hx : rd h2 x = .lst xs) (hy : rd h2 y = .lst ys) (l : xs.length + ys.length ≤ 100000) (hi : i < S.length) : ex sub call s S h = .nx (S.set i (some (.ref h2.length))) (h2 ++ [.lst (xs ++ ys)]) := by
  rw [es]
  have e : ev sub call (.mcat (mcA s) (mcB s)) S h = .ok (.ref h2.length) (h2 ++ [.lst (xs ++ ys)]) := by
    simp only [ev, ha, hb, R.bind, hx, hy, okLt l, if_true]
  rw [exAsg, e]
  simp [kAsg, put, hi]
abbrev gD (a b : Int) : D := .tup [.int a, .int b]
def rep (n : Nat) (x : D) : List D := List.replicate n x
theorem mulX (x : D) (k : Nat) (l : k ≤ 1000) : binD .Mult (.tup [x]) (.int (k : Int)) = some (.tup (rep k x)) := by
  have h1 : (0 : Int) ≤ (k : Int) := by omega
  have h2 : (k : Int) ≤ 2000 := by omega
  show (if decide ((0 : Int) ≤ (k : Int)) && decide ((k : Int) ≤ 2000) && decide (([x] : List D).length ≤ 2000) && !([x] : List D).isEmpty then some (D.tup (List.replicate ((k : Int)).toNat [x]).flatten) else none) = _
  rw [decide_eq_true h1, decide_eq_true h2]
  simp [rep]
theorem m60 : binD .Mult (.tup [gD 0 1000]) (.int 60) = some (.tup (rep 60 (gD 0 1000))) := by rfl
theorem m61 : binD .Mult (.tup [gD 0 1]) (.int 61) = some (.tup (rep 61 (gD 0 1))) := by rfl
theorem m59 : binD .Mult (.tup [gD 0 1]) (.int 59) = some (.tup (rep 59 (gD 0 1))) := by rfl
theorem a59 (x : D) : addD (.tup (rep 59 (gD 0 1))) (.tup [x]) = some (.tup (rep 59 (gD 0 1) ++ [x])) := addT (by simp [rep])
def goodL : List D := [.tup [gD 0 5, gD 4 9, gD 12 14], .tup (rep 60 (gD 0 1000)), .tup [], .tup [gD 1000 1000]]
def oddL : List D := [.tup (rep 61 (gD 0 1)), .tup [gD 5 4], .tup [gD (-1) 4], .tup [gD 0 1001], .tup [.tup [.bl true, .int 4]], .tup [.tup [.int 0, .bl true]], .tup [.tup [.int 0]], .tup [.tup [.int 0, .int 1, .int 2]], .tup [.int 5], .tup [.non], .non, .int 5, .str (Str.ofString "ab"), .tup (rep 59 (gD 0 1) ++ [.tup [.int 0, .non]]), .tup (rep 59 (gD 0 1) ++ [gD 1 0])]
theorem good_f {x : D} (h : x ∈ goodL) : lv 2 x = true ∧ pln 60 x = true := by
  have : goodL.all (fun x => lv 2 x && pln 60 x) = true := by decide +kernel
  simpa using List.all_eq_true.1 this x h
theorem odd_f {x : D} (h : x ∈ oddL) : pln 100 x = true := by
  have : oddL.all (pln 100) = true := by decide +kernel
  exact List.all_eq_true.1 this x h
def begL : List D := [.int 0, .int 5, .int 1000, .int 1001, .int (-1), .bl true, .non]
def endL : List D := [.int 0, .int 9, .int 1000, .int 1001, .int (-1), .bl false, .non]
def resL : List D := [.int 0, .int 2, .int 1000, .int 1001, .int (-1), .bl true, .non]
theorem beg_f {x : D} (h : x ∈ begL) : pln 100 x = true := List.all_eq_true.1 (by decide +kernel : begL.all (pln 100) = true) x h
theorem end_f {x : D} (h : x ∈ endL) : pln 100 x = true := List.all_eq_true.1 (by decide +kernel : endL.all (pln 100) = true) x h
theorem res_f {x : D} (h : x ∈ resL) : pln 100 x = true := List.all_eq_true.1 (by decide +kernel : resL.all (pln 100) = true) x h
theorem pln_rep (k : Nat) (x : D) (p : pln 100 x = true) (l : k ≤ 90) : pln 100 (.tup (rep k x)) = true := by
  rw [pln_tup]
  refine ⟨by simp [rep]; omega, fun y hy => ?_⟩
  rw [List.eq_of_mem_replicate hy]; exact p
theorem pln_rep1 (k : Nat) (x y : D) (p : pln 100 x = true) (p2 : pln 100 y = true) (l : k ≤ 90) : pln 100 (.tup (rep k x ++ [y])) = true := by
  rw [pln_tup]
  refine ⟨by simp [rep]; omega, fun z hz => ?_⟩
  rcases List.mem_append.1 hz with hz | hz
  · rw [List.eq_of_mem_replicate hz]; exact p
  · rw [List.mem_singleton.1 hz]; exact p2
end Pl

set_option Elab.async false
set_option linter.all false
set_option maxRecDepth 100000
set_option maxHeartbeats 4000000
namespace Pl
open PySem Ci
/-- spans are chosen -/
theorem wh_a {r h : Hs} (st : StR r h) : ∃ g s h', StR r h' ∧ pln 100 s = true ∧ ∀ R, ex mM.sub (callF mM.sub mM.PF 198) (gh 4) [some (.ref 0), some (g), some (.lst oddL), some (s), none, none, none, none, none, none, none, none, none, none, none, none, none, none] h' = R → ex mM.sub (callF mM.sub mM.PF 198) i__law_watches_hold.body [some (.ref 0), none, none, none, none, none, none, none, none, none, none, none, none, none, none, none, none, none] h = R := by
  obtain ⟨g, h1, g1, mg, e1⟩ := pick_ok 196 h goodL st (by simp [goodL]) (by simp [goodL])
  obtain ⟨lg, pg⟩ := good_f mg
  obtain ⟨bt, h2, g2, pb, e2⟩ := bent_ok 2 193 60 g1 lg pg (by omega)
  obtain ⟨od, h3, g3, mo, e3⟩ := pick_ok 196 h2 oddL g2 (by simp [oddL]) (by simp [oddL])
  obtain ⟨s, h4, g4, ms, e4⟩ := pick_ok 196 h3 [g, g, bt, od] g3 (by simp) (by simp)
  simp only [Nat.reduceAdd] at e1 e2 e3 e4
  refine ⟨g, s, h4, g4, ?_, fun R hR => ?_⟩
  · simp only [List.mem_cons, List.not_mem_nil, or_false] at ms
    rcases ms with rfl | rfl | rfl | rfl
    · exact pln_mono (by omega) pg
    · exact pln_mono (by omega) pg
    · exact pln_mono (by omega) pb
    · exact odd_f mo
  · simp only [goodL] at e1
    have o1 : ∀ h, ex mM.sub (callF mM.sub mM.PF 198) (stFst (gh 1)) [some (.ref 0), some (g), none, none, none, none, none, none, none, none, none, none, none, none, none, none, none, none] h = .nx [some (.ref 0), some (g), some (.lst (oddL.take 13)), none, none, none, none, none, none, none, none, none, none, none, none, none, none, none] h := by
      intro h
      simp -implicitDefEqProofs [gh, stFst, stSnd, i__law_watches_hold, m61, oddL]
    have o2 : ∀ h, ex mM.sub (callF mM.sub mM.PF 198) (stFst (gh 2)) [some (.ref 0), some (g), some (.lst (oddL.take 13)), none, none, none, none, none, none, none, none, none, none, none, none, none, none, none] h = .nx [some (.ref 0), some (g), some (.lst oddL), none, none, none, none, none, none, none, none, none, none, none, none, none, none, none] h := by
      intro h
      simp -implicitDefEqProofs [gh, stFst, stSnd, i__law_watches_hold, m59, a59, oddL, addLst]
    have o3 : ex mM.sub (callF mM.sub mM.PF 198) (stFst (gh 3)) [some (.ref 0), some (g), some (.lst oddL), none, none, none, none, none, none, none, none, none, none, none, none, none, none, none] h1 = .nx [some (.ref 0), some (g), some (.lst oddL), some (s), none, none, none, none, none, none, none, none, none, none, none, none, none, none] h4 := by
      simp -implicitDefEqProofs [gh, stFst, stSnd, i__law_watches_hold, e2, e3, e4]
    have o0 : ex mM.sub (callF mM.sub mM.PF 198) (stFst (gh 0)) [some (.ref 0), none, none, none, none, none, none, none, none, none, none, none, none, none, none, none, none, none] h = .nx [some (.ref 0), some (g), none, none, none, none, none, none, none, none, none, none, none, none, none, none, none, none] h1 := by
      simp -implicitDefEqProofs [gh, stFst, stSnd, i__law_watches_hold, m60, e1]
    exact step o0 (step (o1 h1) (step (o2 h1) (step o3 hR)))
/-- right, head, begin, end, rest -/
theorem wh_b {r h : Hs} (st : StR r h) (g s : D) (ps : pln 100 s = true) : ∃ b e re h', StR r h' ∧ pln 100 b = true ∧ pln 100 e = true ∧ pln 100 re = true ∧ ∀ R, ex mM.sub (callF mM.sub mM.PF 198) (gh 8) [some (.ref 0), some (g), some (.lst oddL), some (s), some (.bl (gsB s)), some (.str (wH s)), none, none, none, some (b), some (e), some (re), none, none, none, none, none, none] h' = R → ex mM.sub (callF mM.sub mM.PF 198) (gh 4) [some (.ref 0), some (g), some (.lst oddL), some (s), none, none, none, none, none, none, none, none, none, none, none, none, none, none] h = R := by
  obtain ⟨b, h1, g1, mb, e1⟩ := pick_ok 196 h begL st (by simp [begL]) (by simp [begL])
  obtain ⟨e, h2, g2, me, e2⟩ := pick_ok 196 h1 endL g1 (by simp [endL]) (by simp [endL])
  obtain ⟨re, h3, g3, mr, e3⟩ := pick_ok 196 h2 resL g2 (by simp [resL]) (by simp [resL])
  simp only [Nat.reduceAdd] at e1 e2 e3
  simp only [begL] at e1
  simp only [endL] at e2
  simp only [resL] at e3
  refine ⟨b, e, re, h3, g3, beg_f mb, end_f me, res_f mr, fun R hR => ?_⟩
  have r1 := right1 g (.lst oddL) s ps h
  have r2 := right2 g (.lst oddL) s ps h
  have r3 : ex mM.sub (callF mM.sub mM.PF 198) (stFst (gh 6)) [some (.ref 0), some (g), some (.lst oddL), some (s), some (.bl (gsB s)), none, none, none, none, none, none, none, none, none, none, none, none, none] h = .nx [some (.ref 0), some (g), some (.lst oddL), some (s), some (.bl (gsB s)), some (.str (wH s)), none, none, none, none, none, none, none, none, none, none, none, none] h := by
    unfold wH
    cases gsB s with
    | true => simp -implicitDefEqProofs [gh, stFst, stSnd, i__law_watches_hold, q]
    | false => simp -implicitDefEqProofs [gh, stFst, stSnd, i__law_watches_hold, q]
  have r4 : ex mM.sub (callF mM.sub mM.PF 198) (stFst (gh 7)) [some (.ref 0), some (g), some (.lst oddL), some (s), some (.bl (gsB s)), some (.str (wH s)), none, none, none, none, none, none, none, none, none, none, none, none] h = .nx [some (.ref 0), some (g), some (.lst oddL), some (s), some (.bl (gsB s)), some (.str (wH s)), none, none, none, some (b), some (e), some (re), none, none, none, none, none, none] h3 := by
    simp -implicitDefEqProofs [gh, stFst, stSnd, i__law_watches_hold, e1, e2, e3]
  exact step r1 (step r2 (step r3 (step r4 hR)))
/-- the first word that is due -/
theorem wh_c (H : Hs) (g s b e r : D) (ps : pln 100 s = true) (pb : pln 100 b = true) (pe : pln 100 e = true) (pr : pln 100 r = true) : ∃ (mn : Nat) (lo hi : D), mn ≤ 60 ∧ (gsB s = true → mn = lenD s) ∧ (wW s b e = q "" → b = lo ∧ e = hi) ∧ (∃ i j : Int, lo = .int i ∧ hi = .int j) ∧ ∀ R, ex mM.sub (callF mM.sub mM.PF 198) (gh 13) [some (.ref 0), some (g), some (.lst oddL), some (s), some (.bl (gsB s)), some (.str (wH s)), some (.ref H.length), some (.str (wW s b e)), none, some (b), some (e), some (r), some (.int (mn : Nat)), some (lo), some (hi), none, none, none] (H ++ [.lst [.str (wH s), .str (wB b), .str (wE b e)]]) = R → ex mM.sub (callF mM.sub mM.PF 198) (gh 8) [some (.ref 0), some (g), some (.lst oddL), some (s), some (.bl (gsB s)), some (.str (wH s)), none, none, none, some (b), some (e), some (r), none, none, none, none, none, none] H = R := by
  obtain ⟨W, hW⟩ : ∃ W, H ++ [.lst [.str (wH s), .str (wB b)]] = W := ⟨_, rfl⟩
  obtain ⟨V, hV⟩ : ∃ V, H ++ [.lst [.str (wH s), .str (wB b), .str (wE b e)]] = V := ⟨_, rfl⟩
  have s8 : ex mM.sub (callF mM.sub mM.PF 198) (stFst (gh 8)) [some (.ref 0), some (g), some (.lst oddL), some (s), some (.bl (gsB s)), some (.str (wH s)), none, none, none, some (b), some (e), some (r), none, none, none, none, none, none] H = .nx [some (.ref 0), some (g), some (.lst oddL), some (s), some (.bl (gsB s)), some (.str (wH s)), some (.ref H.length), none, none, some (b), some (e), some (r), none, none, none, none, none, none] W := by
    have w1 := whole_any (N := 100) 197 H b 0 1000 pb
    simp only [Nat.reduceAdd] at w1
    rw [← hW]
    unfold wB
    cases z : whB 0 1000 b with
    | true => rw [z] at w1; simp -implicitDefEqProofs [gh, stFst, stSnd, i__law_watches_hold, w1, q]
    | false => rw [z] at w1; simp -implicitDefEqProofs [gh, stFst, stSnd, i__law_watches_hold, w1, q]
  have s9 : ex mM.sub (callF mM.sub mM.PF 198) (stFst (gh 9)) [some (.ref 0), some (g), some (.lst oddL), some (s), some (.bl (gsB s)), some (.str (wH s)), some (.ref H.length), none, none, some (b), some (e), some (r), none, none, none, none, none, none] W = .nx [some (.ref 0), some (g), some (.lst oddL), some (s), some (.bl (gsB s)), some (.str (wH s)), some (.ref H.length), none, none, some (b), some (e), some (r), none, none, none, none, none, none] V := by
    have i1 : ixH W (.ref H.length) (.int 1) = some (.str (wB b)) := by rw [← hW, ixL]; rfl
    have il : isLst W (.ref H.length) = true := by rw [← hW]; exact isL
    have ap : methD .append (.ref H.length) [.str (wE b e)] W = .ok .non V := by rw [← hW, ← hV]; exact appL (by simp)
    have ee := eqE (wB_mem b)
    cases z : whB 0 1000 b with
    | false =>
      have n2 : nz (wB b) = true := by unfold wB; rw [z]; exact nz2
      have we : wE b e = q "argument end" := by unfold wE; rw [z]; rfl
      rw [n2] at ee
      rw [we] at ap
      simp only [q] at ap
      simp -implicitDefEqProofs [gh, stFst, stSnd, i__law_watches_hold, i1, il, ee, ap]
    | true =>
      have n2 : nz (wB b) = false := by unfold wB; rw [z]; exact nz0
      rw [n2] at ee
      obtain ⟨i, rfl⟩ : ∃ i, b = .int i := by
        cases b <;> first | exact ⟨_, rfl⟩ | (simp [whB] at z)
      have w2 := whole_any (N := 100) 197 W e i 1000 pe
      simp only [Nat.reduceAdd] at w2
      have we : wE (.int i) e = if whB i 1000 e then q "" else q "argument end" := by unfold wE; rw [z]; rfl
      rw [we] at ap
      cases z2 : whB i 1000 e with
      | true =>
        rw [z2] at w2 ap
        simp only [if_true, q] at ap
        simp -implicitDefEqProofs [gh, stFst, stSnd, i__law_watches_hold, i1, il, ee, ap, w2]
      | false =>
        rw [z2] at w2 ap
        simp only [Bool.false_eq_true, if_false, q] at ap
        simp -implicitDefEqProofs [gh, stFst, stSnd, i__law_watches_hold, i1, il, ee, ap, w2]
  have s10 : ex mM.sub (callF mM.sub mM.PF 198) (stFst (gh 10)) [some (.ref 0), some (g), some (.lst oddL), some (s), some (.bl (gsB s)), some (.str (wH s)), some (.ref H.length), none, none, some (b), some (e), some (r), none, none, none, none, none, none] V = .nx [some (.ref 0), some (g), some (.lst oddL), some (s), some (.bl (gsB s)), some (.str (wH s)), some (.ref H.length), some (.str (wW s b e)), none, some (b), some (e), some (r), none, none, none, none, none, none] V := by
    have fd := first_dyn 197 [wH s, wB b, wE b e] (by simp) (fun w hw => by
      simp only [List.mem_cons, List.not_mem_nil, or_false] at hw
      rcases hw with rfl | rfl | rfl
      · exact eqE (wH_mem s)
      · exact eqE (wB_mem b)
      · exact eqE (wE_mem b e)) H.length V (by rw [← hV]; simp)
    rw [wW_first] at fd
    simp only [Nat.reduceAdd] at fd
    simp -implicitDefEqProofs [gh, stFst, stSnd, i__law_watches_hold, fd]
  have s11 : ex mM.sub (callF mM.sub mM.PF 198) (stFst (gh 11)) [some (.ref 0), some (g), some (.lst oddL), some (s), some (.bl (gsB s)), some (.str (wH s)), some (.ref H.length), some (.str (wW s b e)), none, some (b), some (e), some (r), none, none, none, none, none, none] V = .nx [some (.ref 0), some (g), some (.lst oddL), some (s), some (.bl (gsB s)), some (.str (wH s)), some (.ref H.length), some (.str (wW s b e)), none, some (b), some (e), some (r), none, none, none, none, none, none] V := by
    have t4 := says4 ps pb pe
    have t6 := says6 ps pb pe
    have t7 := says7 ps pb pe
    have E3 := eq3 (wW_mem s b e)
    simp only [Says] at t4 t6 t7
    generalize wW s b e = due at t4 t6 t7 E3 ⊢
    simp -implicitDefEqProofs [gh, stFst, stSnd, i__law_watches_hold, turnC_, t4, t6, t7, m3w, E3]
  have ee := eqE (wW_mem s b e)
  cases z : nz (wW s b e) with
  | false =>
    have we := (nz_iff _).1 z
    obtain ⟨g1, g2, g3⟩ := wW_is we
    obtain ⟨i, j, rfl, rfl, k1, k2, k3⟩ := be_int g2 g3
    obtain ⟨zs, hzs, ok⟩ := gsB_is g1
    have ln : lenD s = zs.length := by rw [hzs]; exact ps_len zs
    rw [z] at ee
    refine ⟨zs.length, .int i, .int j, ok.1, fun _ => ln.symm, fun _ => ⟨rfl, rfl⟩, ⟨i, j, rfl, rfl⟩, fun R hR => ?_⟩
    have s12 : ex mM.sub (callF mM.sub mM.PF 198) (stFst (gh 12)) [some (.ref 0), some (g), some (.lst oddL), some (s), some (.bl (gsB s)), some (.str (wH s)), some (.ref H.length), some (.str (wW s (.int i) (.int j))), none, some (.int i), some (.int j), some (r), none, none, none, none, none, none] V = .nx [some (.ref 0), some (g), some (.lst oddL), some (s), some (.bl (gsB s)), some (.str (wH s)), some (.ref H.length), some (.str (wW s (.int i) (.int j))), none, some (.int i), some (.int j), some (r), some (.int (zs.length : Nat)), some (.int i), some (.int j), none, none, none] V := by
      generalize wW s (.int i) (.int j) = due at ee ⊢
      subst hzs
      rw [g1]
      simp -implicitDefEqProofs [gh, stFst, stSnd, i__law_watches_hold, ee, ps_len]
    rw [hV] at hR
    exact step s8 (step s9 (step s10 (step s11 (step s12 hR))))
  | true =>
    rw [z] at ee
    have ne : wW s b e ≠ q "" := fun h => by rw [(nz_iff _).2 h] at z; cases z
    rcases Bool.eq_false_or_eq_true (gsB s) with g1 | g1
    · obtain ⟨zs, hzs, ok⟩ := gsB_is g1
      have ln : lenD s = zs.length := by rw [hzs]; exact ps_len zs
      refine ⟨zs.length, .int 0, .int 5, ok.1, fun _ => ln.symm, fun h => absurd h ne, ⟨0, 5, rfl, rfl⟩, fun R hR => ?_⟩
      have s12 : ex mM.sub (callF mM.sub mM.PF 198) (stFst (gh 12)) [some (.ref 0), some (g), some (.lst oddL), some (s), some (.bl (gsB s)), some (.str (wH s)), some (.ref H.length), some (.str (wW s b e)), none, some (b), some (e), some (r), none, none, none, none, none, none] V = .nx [some (.ref 0), some (g), some (.lst oddL), some (s), some (.bl (gsB s)), some (.str (wH s)), some (.ref H.length), some (.str (wW s b e)), none, some (b), some (e), some (r), some (.int (zs.length : Nat)), some (.int 0), some (.int 5), none, none, none] V := by
        generalize wW s b e = due at ee ⊢
        generalize wH s = hd
        subst hzs
        rw [g1]
        simp -implicitDefEqProofs [gh, stFst, stSnd, i__law_watches_hold, ee, ps_len]
      rw [hV] at hR
      exact step s8 (step s9 (step s10 (step s11 (step s12 hR))))
    · refine ⟨3, .int 0, .int 5, by omega, fun h => absurd h (by rw [g1]; decide), fun h => absurd h ne, ⟨0, 5, rfl, rfl⟩, fun R hR => ?_⟩
      have s12 : ex mM.sub (callF mM.sub mM.PF 198) (stFst (gh 12)) [some (.ref 0), some (g), some (.lst oddL), some (s), some (.bl (gsB s)), some (.str (wH s)), some (.ref H.length), some (.str (wW s b e)), none, some (b), some (e), some (r), none, none, none, none, none, none] V = .nx [some (.ref 0), some (g), some (.lst oddL), some (s), some (.bl (gsB s)), some (.str (wH s)), some (.ref H.length), some (.str (wW s b e)), none, some (b), some (e), some (r), some (.int 3), some (.int 0), some (.int 5), none, none, none] V := by
        generalize wW s b e = due at ee ⊢
        generalize wH s = hd
        rw [g1]
        simp -implicitDefEqProofs [gh, stFst, stSnd, i__law_watches_hold, ee]
      rw [hV] at hR
      exact step s8 (step s9 (step s10 (step s11 (step s12 hR))))
end Pl

set_option Elab.async false
set_option linter.all false
set_option maxRecDepth 100000
set_option maxHeartbeats 4000000
namespace Pl
open PySem Ci
abbrev wf (g s b e r : D) (n : Nat) (du : Str) (o8 : Option D) (mn : Nat) (lo hi : Int) : Sl := [some (.ref 0), some g, some (.lst oddL), some s, some (.bl (gsB s)), some (.str (wH s)), some (.ref n), some (.str du), o8, some b, some e, some r, some (.int (mn : Nat)), some (.int lo), some (.int hi), none, none, none]
abbrev pfW (w : Str) : Str := if w = q "" then q "paper form" else w
theorem pf_mem {w : Str} (h : w ∈ WL) : pfW w ∈ WL := by
  unfold pfW; split
  · simp [WL]
  · exact h
theorem pf_ev {w : Str} (h : w ∈ WL) {sub : Nat → Nat → Bool} {call : Nat → List D → Hs → R D} {S : Sl} {H : Hs} {i : Nat} (e : S[i]? = some (some (.str w))) : ev sub call (.ife (.cmp .NotEq (.var i) (.lit (.str (Str.ofString "")))) (.var i) (.lit (.str (Str.ofString "paper form")))) S H = .ok (.str (pfW w)) H := by
  have ee := eqE h
  cases z : nz w with
  | true =>
    rw [z] at ee
    have : pfW w = w := if_neg (fun k => by rw [(nz_iff w).2 k] at z; cases z)
    rw [this]
    simp -implicitDefEqProofs [e, ee]
  | false =>
    rw [z] at ee
    have : pfW w = q "paper form" := if_pos ((nz_iff w).1 z)
    rw [this]
    simp -implicitDefEqProofs [e, ee, q]
section
variable {s b e r : D} (ps : pln 100 s = true) (pb : pln 100 b = true) (pe : pln 100 e = true) (pr : pln 100 r = true)
include ps pb pe in
theorem wh_d (V : Hs) (n : Nat) (g : D) (mn : Nat) (lo hi : Int) (m60 : mn ≤ 60) (hm : gsB s = true → mn = lenD s) (hb : wW s b e = q "" → b = .int lo ∧ e = .int hi) : ∃ o1 o2 : O, ∀ R, ex mM.sub (callF mM.sub mM.PF 198) (gh 17) (wf g s b e r n (wW s b e) (some (.ref (V ++ [o1]).length)) mn lo hi) (V ++ [o1] ++ [o2]) = R → ex mM.sub (callF mM.sub mM.PF 198) (gh 13) (wf g s b e r n (wW s b e) none mn lo hi) V = R := by
  have hbe : gsB s = true → whB 0 1000 b = true → whE b e = true → b = .int lo ∧ e = .int hi := fun a c d => hb (wW_ok a c d)
  have mem := wW_mem s b e
  have mem2 := pf_mem mem
  -- 8
  have a1 := says8 (p := .non) (m := .int 3) ps pb pe rfl rfl (fun g => rfl)
  have a2 := says8 (p := .tup [.int (mn : Nat)]) (m := .int 3) ps pb pe rfl rfl (fun g => by
    have := hm g
    simp [allX, ixB, this])
  have a3 := says8 (p := .tup [.int (-1)]) (m := .int 3) ps pb pe rfl rfl (fun g => rfl)
  have a4 := says8 (p := .tup [.bl true]) (m := .int 3) ps pb pe rfl rfl (fun g => rfl)
  have a5 := says8 (p := .tup [.non]) (m := .int 3) ps pb pe rfl rfl (fun g => rfl)
  have a6 := says8 (p := .tup []) (m := .non) ps pb pe rfl rfl (fun g => rfl)
  -- 9
  have c1 := says9 (p := .non) (m := .int 0) ps pb pe rfl rfl (fun h1 h2 h3 => by
    obtain ⟨rfl, rfl⟩ := hbe h1 h2 h3; rfl)
  have c2 := says9 (p := .tup [.int (hi + 1)]) (m := .int 0) ps pb pe rfl rfl (fun h1 h2 h3 => by
    obtain ⟨rfl, rfl⟩ := hbe h1 h2 h3
    have : decide (hi + 1 ≤ hi) = false := decide_eq_false (by omega)
    simp only [hrsB, List.all_cons, inR, this, Bool.and_false, Bool.false_and])
  have c3 := says9 (p := .tup [.int (lo - 1)]) (m := .int 0) ps pb pe rfl rfl (fun h1 h2 h3 => by
    obtain ⟨rfl, rfl⟩ := hbe h1 h2 h3
    have : decide (lo ≤ lo - 1) = false := decide_eq_false (by omega)
    simp only [hrsB, List.all_cons, inR, this, Bool.and_false, Bool.false_and])
  have c4 := says9 (p := .tup [.int lo, .int lo]) (m := .int 0) ps pb pe rfl rfl (fun h1 h2 h3 => by
    obtain ⟨rfl, rfl⟩ := hbe h1 h2 h3
    have z : nr (intsD [.int lo, .int lo]) = true := by
      simp only [intsD]
      have : List.range ([lo, lo].length - 1) = [0] := rfl
      simp [nr]
    simp only [hrsB, z]; simp)
  have c5 := says9 (p := .tup [.non]) (m := .int 0) ps pb pe rfl rfl (fun h1 h2 h3 => by
    obtain ⟨rfl, rfl⟩ := hbe h1 h2 h3; rfl)
  have c6 := says9 (p := .tup [.str (Str.ofString "0")]) (m := .int 0) ps pb pe rfl rfl (fun h1 h2 h3 => by
    obtain ⟨rfl, rfl⟩ := hbe h1 h2 h3; rfl)
  have c7 := says9 (p := .tup []) (m := .bl true) ps pb pe rfl rfl (fun h1 h2 h3 => by
    obtain ⟨rfl, rfl⟩ := hbe h1 h2 h3; simp [hrsB, isW])
  simp only [Says] at a1 a2 a3 a4 a5 a6 c1 c2 c3 c4 c5 c6 c7
  obtain ⟨P, hP⟩ : ∃ P, pfW (wW s b e) = P := ⟨_, rfl⟩
  rw [show (if wW s b e = q "" then q "paper form" else wW s b e) = P from hP] at a1 a2 a3 a4 a5 a6 c1 c2 c3 c4 c5 c6 c7
  have pE : ∀ (S : Sl) (H : Hs), S[7]? = some (some (.str (wW s b e))) → ev mM.sub (callF mM.sub mM.PF 198) (.ife (.cmp .NotEq (.var 7) (.lit (.str (Str.ofString "")))) (.var 7) (.lit (.str (Str.ofString "paper form")))) S H = .ok (.str P) H := fun S H h => by rw [pf_ev mem h, hP]
  rw [hP] at mem2
  obtain ⟨V1, hV1⟩ : ∃ V1, V ++ [.lst [.str P, .str P, .str P, .str P, .str P, .str P]] = V1 := ⟨_, rfl⟩
  obtain ⟨V2, hV2⟩ : ∃ V2, V1 ++ [.lst (L13 P)] = V2 := ⟨_, rfl⟩
  generalize wW s b e = du at *
  refine ⟨.lst [.str P, .str P, .str P, .str P, .str P, .str P], .lst (L13 P), fun R hR => ?_⟩
  rw [hV1, hV2] at hR
  have e13a : ev mM.sub (callF mM.sub mM.PF 198) (mcA (stFst (gh 13))) (wf g s b e r n du none mn lo hi) V = .ok (.lst [.str P, .str P, .str P, .str P, .str P]) V := by
    simp -implicitDefEqProofs [mcA, gh, stFst, stSnd, i__law_watches_hold, turnC_, E.isOmit, wf, a1, a2, a3, a4, a5]
  have e13b : ev mM.sub (callF mM.sub mM.PF 198) (mcB (stFst (gh 13))) (wf g s b e r n du none mn lo hi) V = .ok (.lst [.str P]) V := by
    simp -implicitDefEqProofs [mcB, gh, stFst, stSnd, i__law_watches_hold, wf, a6]
  have s13 := exMcat 8 (stFst (gh 13)) rfl e13a e13b rfl rfl (by simp) (by simp [wf])
  rw [show [D.str P, .str P, .str P, .str P, .str P] ++ [.str P] = [.str P, .str P, .str P, .str P, .str P, .str P] from rfl, hV1] at s13
  refine step s13 ?_
  have s13' : (wf g s b e r n du none mn lo hi).set 8 (some (.ref V.length)) = wf g s b e r n du (some (.ref V.length)) mn lo hi := rfl
  rw [s13']
  have e14a : ev mM.sub (callF mM.sub mM.PF 198) (mcA (stFst (gh 14))) (wf g s b e r n du (some (.ref V.length)) mn lo hi) V1 = .ok (.ref V.length) V1 := by
    simp -implicitDefEqProofs [mcA, gh, stFst, stSnd, i__law_watches_hold, wf]
  have e14b : ev mM.sub (callF mM.sub mM.PF 198) (mcB (stFst (gh 14))) (wf g s b e r n du (some (.ref V.length)) mn lo hi) V1 = .ok (.lst [.str P, .str P, .str P, .str P, .str P, .str P]) V1 := by
    simp -implicitDefEqProofs [mcB, gh, stFst, stSnd, i__law_watches_hold, turnC_, E.isOmit, wf, c1, c2, c3, c4, c5, c6]
  have r1 : rd V1 (.ref V.length) = .lst [.str P, .str P, .str P, .str P, .str P, .str P] := by rw [← hV1]; exact rdL
  have s14 := exMcat 8 (stFst (gh 14)) rfl e14a e14b r1 rfl (by simp) (by simp [wf])
  rw [show (wf g s b e r n du (some (.ref V.length)) mn lo hi).set 8 (some (.ref V1.length)) = wf g s b e r n du (some (.ref V1.length)) mn lo hi from rfl] at s14
  refine step s14 ?_
  have s15 : ex mM.sub (callF mM.sub mM.PF 198) (stFst (gh 15)) (wf g s b e r n du (some (.ref V1.length)) mn lo hi) (V1 ++ [.lst ([.str P, .str P, .str P, .str P, .str P, .str P] ++ [.str P, .str P, .str P, .str P, .str P, .str P])]) = .nx (wf g s b e r n du (some (.ref V1.length)) mn lo hi) V2 := by
    have il : isLst (V1 ++ [.lst ([.str P, .str P, .str P, .str P, .str P, .str P] ++ [.str P, .str P, .str P, .str P, .str P, .str P])]) (.ref V1.length) = true := isL
    have ap : methD .append (.ref V1.length) [.str P] (V1 ++ [.lst ([.str P, .str P, .str P, .str P, .str P, .str P] ++ [.str P, .str P, .str P, .str P, .str P, .str P])]) = .ok .non V2 := by rw [← hV2]; exact appL (by simp)
    generalize (V1 ++ [.lst ([.str P, .str P, .str P, .str P, .str P, .str P] ++ [.str P, .str P, .str P, .str P, .str P, .str P])] : Hs) = Z at il ap ⊢
    simp -implicitDefEqProofs [gh, stFst, stSnd, i__law_watches_hold, wf, il, ap, c7]
  refine step s15 ?_
  have s16 : ex mM.sub (callF mM.sub mM.PF 198) (stFst (gh 16)) (wf g s b e r n du (some (.ref V1.length)) mn lo hi) V2 = .nx (wf g s b e r n du (some (.ref V1.length)) mn lo hi) V2 := by
    have r2 : rd V2 (.ref V1.length) = .lst (L13 P) := by rw [← hV2]; exact rdL
    have pe1 := pE (wf g s b e r n du (some (.ref V1.length)) mn lo hi) V2 rfl
    have E13 := eq13 mem2
    have M13 := m13w P
    generalize L13 P = Q13 at *
    simp only [evIfe, evVar, evCmp, evLit] at pe1
    simp -implicitDefEqProofs [gh, stFst, stSnd, i__law_watches_hold, wf] at pe1 ⊢
    simp -implicitDefEqProofs [pe1, r2, E13, M13]
  exact step s16 hR
end
end Pl

set_option Elab.async false
set_option linter.all false
set_option maxRecDepth 100000
set_option maxHeartbeats 4000000
namespace Pl
open PySem Ci
theorem max1N (k : Nat) : bltD .max1 [.lst [.int 1, .int (k : Nat)]] = some (.int ((max 1 k : Nat) : Int)) := by
  have h1 : intsOf [.int 1, .int (k : Nat)] = some [1, (k : Int)] := rfl
  have h2 : maxI [1, (k : Int)] = ((max 1 k : Nat) : Int) := by
    show (if maxI [(k : Int)] ≤ 1 then (1 : Int) else maxI [(k : Int)]) = _
    show (if (k : Int) ≤ 1 then (1 : Int) else (k : Int)) = _
    split <;> omega
  simp only [bltD, h1, h2]
  rfl
theorem rep_all_false {p : D → Bool} {x : D} (k : Nat) (hk : 1 ≤ k) (h : p x = false) : (rep k x).all p = false := by
  obtain ⟨j, rfl⟩ : ∃ j, k = j + 1 := ⟨k - 1, by omega⟩
  simp [rep, List.replicate_succ, h]
theorem repA_all_false {p : D → Bool} {x y : D} (k : Nat) (h : p y = false) : (rep k x ++ [y]).all p = false := by
  simp [h]
section
variable {s r : D} (ps : pln 100 s = true) (pr : pln 100 r = true)
include ps pr in
theorem wh_e (V : Hs) (n : Nat) (g b e : D) (du : Str) (o8 : Option D) (mn : Nat) (lo hi : Int) (m60 : mn ≤ 60) (hm : gsB s = true → mn = lenD s) : ∃ o1 o2 : O, ex mM.sub (callF mM.sub mM.PF 198) (gh 17) (wf g s b e r n du o8 mn lo hi) V = .rt (.bl true) (V ++ [o1] ++ [o2]) := by
  have mem := wR_mem s r
  have mem2 := pf_mem mem
  obtain ⟨k, hk⟩ : ∃ k, max 1 mn = k := ⟨_, rfl⟩
  have k1 : 1 ≤ k := by omega
  have k2 : k ≤ 60 := by omega
  have mx := max1N mn
  rw [hk] at mx
  have m61' : binD .Mult (.tup [.int 0]) (.int 61) = some (.tup (rep 61 (.int 0))) := mulX _ 61 (by omega)
  have mk1 := mulX (.int (-1)) k (by omega)
  have mk2 := mulX (.bl true) k (by omega)
  have mk3 := mulX (.int 0) (k - 1) (by omega)
  rw [show ((k - 1 : Nat) : Int) = (k : Int) - 1 by omega] at mk3
  have ad3 : addD (.tup (rep (k - 1) (.int 0))) (.tup [.non]) = some (.tup (rep (k - 1) (.int 0) ++ [.non])) := addT (by simp [rep]; omega)
  have a1 := says12 (p := .non) (m := .int 3) ps pr rfl rfl (fun g => rfl)
  have a2 := says12 (p := .tup (rep 61 (.int 0))) (m := .int 3) ps pr (by decide +kernel) rfl (fun g => by
    have := hm g
    have l : lenD (.tup (rep 61 (.int 0))) = 61 := rfl
    rw [l, decide_eq_false (by omega), Bool.and_false])
  have a3 := says12 (p := .tup (rep k (.int (-1)))) (m := .int 3) ps pr (pln_rep k _ rfl (by omega)) rfl (fun g => by
    rw [show allN (.tup (rep k (.int (-1)))) = (rep k (.int (-1))).all nnB from rfl, rep_all_false k k1 rfl, Bool.false_and])
  have a4 := says12 (p := .tup (rep k (.bl true))) (m := .int 3) ps pr (pln_rep k _ rfl (by omega)) rfl (fun g => by
    rw [show allN (.tup (rep k (.bl true))) = (rep k (.bl true)).all nnB from rfl, rep_all_false k k1 rfl, Bool.false_and])
  have a5 := says12 (p := .tup (rep (k - 1) (.int 0) ++ [.non])) (m := .int 3) ps pr (pln_rep1 _ _ _ rfl rfl (by omega)) rfl (fun g => by
    rw [show allN (.tup (rep (k - 1) (.int 0) ++ [D.non])) = (rep (k - 1) (.int 0) ++ [D.non]).all nnB from rfl, repA_all_false _ rfl, Bool.false_and])
  have c1 := says13 (p := .non) (m := .int 0) ps pr rfl rfl rfl
  have c2 := says13 (p := .int 0) (m := .non) ps pr rfl rfl rfl
  have c3 := says13 (p := .bl true) (m := .int 0) ps pr rfl rfl rfl
  have c4 := says13 (p := .int 0) (m := .bl true) ps pr rfl rfl rfl
  have f1 := says11 ps pr
  have f2 := says14 ps pr
  have fo := first_ok 197 [wH s, wr r] (by simp) (fun w hw => by
    simp only [List.mem_cons, List.not_mem_nil, or_false] at hw
    rcases hw with rfl | rfl
    · exact eqE (wH_mem s)
    · exact eqE (wr_mem r)) V
  rw [wR_first] at fo
  have w1 := whole_any (N := 100) 197 V r 0 1000 pr
  simp only [Nat.reduceAdd] at w1 fo
  simp only [Says] at a1 a2 a3 a4 a5 c1 c2 c3 c4 f1 f2
  obtain ⟨P, hP⟩ : ∃ P, pfW (wR s r) = P := ⟨_, rfl⟩
  rw [show (if wR s r = q "" then q "paper form" else wR s r) = P from hP] at a1 a2 a3 a4 a5 c1 c2 c3 c4
  have pE : ∀ (S : Sl) (H : Hs), S[7]? = some (some (.str (wR s r))) → ev mM.sub (callF mM.sub mM.PF 198) (.ife (.cmp .NotEq (.var 7) (.lit (.str (Str.ofString "")))) (.var 7) (.lit (.str (Str.ofString "paper form")))) S H = .ok (.str P) H := fun S H h => by rw [pf_ev mem h, hP]
  rw [hP] at mem2
  have s17 : ex mM.sub (callF mM.sub mM.PF 198) (stFst (gh 17)) (wf g s b e r n du o8 mn lo hi) V = .nx (wf g s b e r n (wR s r) o8 mn lo hi) V := by
    have ww : wr r = if whB 0 1000 r then q "" else q "argument rest" := rfl
    generalize wR s r = due at fo ⊢
    cases z : whB 0 1000 r with
    | true => rw [z] at ww w1; simp only [if_true] at ww; rw [ww] at fo; simp -implicitDefEqProofs [gh, stFst, stSnd, i__law_watches_hold, wf, w1, q] at fo ⊢; simp -implicitDefEqProofs [fo]
    | false => rw [z] at ww w1; simp only [Bool.false_eq_true, if_false] at ww; rw [ww] at fo; simp -implicitDefEqProofs [gh, stFst, stSnd, i__law_watches_hold, wf, w1, q] at fo ⊢; simp -implicitDefEqProofs [fo]
  have E2 := eq2 mem
  have M2 := m2w (wR s r)
  generalize wR s r = due at *
  obtain ⟨V1, hV1⟩ : ∃ V1, V ++ [.lst [.str P, .str P, .str P, .str P, .str P]] = V1 := ⟨_, rfl⟩
  obtain ⟨V2, hV2⟩ : ∃ V2, V1 ++ [.lst (L9 P)] = V2 := ⟨_, rfl⟩
  refine ⟨.lst [.str P, .str P, .str P, .str P, .str P], .lst (L9 P), ?_⟩
  rw [hV1, hV2]
  refine step s17 ?_
  have s18 : ex mM.sub (callF mM.sub mM.PF 198) (stFst (gh 18)) (wf g s b e r n due o8 mn lo hi) V = .nx (wf g s b e r n due (some (.ref V.length)) mn lo hi) V1 := by
    rw [← hV1]
    simp -implicitDefEqProofs [gh, stFst, stSnd, i__law_watches_hold, turnC_, E.isOmit, wf, mx, m61', mk1, mk2, mk3, ad3, a1, a2, a3, a4, a5]
  refine step s18 ?_
  have e19a : ev mM.sub (callF mM.sub mM.PF 198) (mcA (stFst (gh 19))) (wf g s b e r n due (some (.ref V.length)) mn lo hi) V1 = .ok (.ref V.length) V1 := by
    simp -implicitDefEqProofs [mcA, gh, stFst, stSnd, i__law_watches_hold, wf]
  have e19b : ev mM.sub (callF mM.sub mM.PF 198) (mcB (stFst (gh 19))) (wf g s b e r n due (some (.ref V.length)) mn lo hi) V1 = .ok (.lst [.str P, .str P, .str P, .str P]) V1 := by
    simp -implicitDefEqProofs [mcB, gh, stFst, stSnd, i__law_watches_hold, turnC_, E.isOmit, wf, addLst, c1, c2, c3, c4]
  have r1 : rd V1 (.ref V.length) = .lst [.str P, .str P, .str P, .str P, .str P] := by rw [← hV1]; exact rdL
  have s19 := exMcat 8 (stFst (gh 19)) rfl e19a e19b r1 rfl (by simp) (by simp [wf])
  rw [show (wf g s b e r n due (some (.ref V.length)) mn lo hi).set 8 (some (.ref V1.length)) = wf g s b e r n due (some (.ref V1.length)) mn lo hi from rfl, show [D.str P, .str P, .str P, .str P, .str P] ++ [.str P, .str P, .str P, .str P] = L9 P from rfl, hV2] at s19
  refine step s19 ?_
  have r2 : rd V2 (.ref V1.length) = .lst (L9 P) := by rw [← hV2]; exact rdL
  have pe1 := pE (wf g s b e r n due (some (.ref V1.length)) mn lo hi) V2 rfl
  have E9 := eq9 mem2
  have M9 := m9w P
  generalize L9 P = Q9 at *
  generalize hL2 : L2 due = Q2 at *
  simp only [evIfe, evVar, evCmp, evLit] at pe1
  simp -implicitDefEqProofs [gh, stFst, stSnd, i__law_watches_hold, wf, turnC_, E.isOmit, f1, f2] at pe1 ⊢
  rw [show [D.str due, D.str due] = Q2 from hL2]
  simp -implicitDefEqProofs [pe1, r2, E9, M9, E2, M2]
end
/-- the watches hold -/
theorem watches_ok {r h : Hs} (st : StR r h) : ∃ r' h', StR r' h' ∧ callF mM.sub mM.PF 199 31 [.ref 0] h = .ok (.bl true) h' := by
  obtain ⟨g, s, h1, g1, ps, k1⟩ := wh_a st
  obtain ⟨b, e, re, h2, g2, pb, pe, pr, k2⟩ := wh_b g1 g s ps
  obtain ⟨mn, lo', hi', m60, hm, hb, ⟨lo, hi, rfl, rfl⟩, k3⟩ := wh_c h2 g s b e re ps pb pe pr
  obtain ⟨o1, o2, k4⟩ := wh_d (r := re) ps pb pe (h2 ++ [O.lst [.str (wH s), .str (wB b), .str (wE b e)]]) h2.length g mn lo hi m60 hm hb
  obtain ⟨o3, o4, k5⟩ := wh_e ps pr (h2 ++ [O.lst [.str (wH s), .str (wB b), .str (wE b e)]] ++ [o1] ++ [o2]) h2.length g b e (wW s b e) (some (.ref (h2 ++ [O.lst [.str (wH s), .str (wB b), .str (wE b e)]] ++ [o1]).length)) mn lo hi m60 hm
  have B := k1 _ (k2 _ (k3 _ (k4 _ k5)))
  have R := StR_app (o := o4) (StR_app (o := o3) (StR_app (o := o2) (StR_app (o := o1) (StR_app (o := O.lst [.str (wH s), .str (wB b), .str (wE b e)]) g2))))
  refine ⟨_, _, R, ?_⟩
  rw [callS _ _ 198 _ _ _ _ PF31]
  simp only [callB_, show i__law_watches_hold.np = 1 from rfl, show i__law_watches_hold.nl = 18 from rfl]
  simp [B]
end Pl

set_option Elab.async false
set_option linter.all false
set_option maxRecDepth 100000
set_option maxHeartbeats 4000000
namespace Pl
open PySem Ci
def gd : Nat → St
  | 0 => i__law_days_hold.body
  | n + 1 => stSnd (gd n)
def dB : D → Bool
  | .tup ys => ys.all (whB 0 23)
  | _ => false
def m1B : D → Bool
  | .tup xs => (decide (1 ≤ xs.length) && decide (xs.length ≤ 12)) && xs.all dB
  | _ => false
theorem wh23 (d : D) : whB 0 23 d = vd 24 d := by
  cases d with
  | int i =>
    simp only [whB, vd]
    congr 1
    exact decide_eq_decide.2 (by omega)
  | _ => rfl
theorem h_d {x : D} (h : hoursB x = true) : dB x = true := by
  cases x with
  | tup ys =>
    simp only [hoursB, Bool.and_eq_true] at h
    simp only [dB, List.all_eq_true]
    intro y hy
    rw [wh23]
    exact List.all_eq_true.1 h.1 y hy
  | _ => simp [hoursB] at h
theorem h_is {ys : List D} (h : dB (.tup ys) = true) : ys = (intsD ys).map .int ∧ hoursB (.tup ys) = !nr (intsD ys) := by
  simp only [dB] at h
  have h2 : ys.all (vd 24) = true := by
    rw [← h]
    congr 1
    funext y
    exact (wh23 y).symm
  exact ⟨(ints_vd h2).1, by simp only [hoursB, h2, Bool.true_and]⟩
theorem men_m1 (d : D) (h : menB d = true) : m1B d = true := by
  cases d with
  | tup xs =>
    simp only [menB, Bool.and_eq_true] at h
    simp only [m1B, Bool.and_eq_true]
    exact ⟨h.1, List.all_eq_true.2 fun x hx => h_d (List.all_eq_true.1 h.2 x hx)⟩
  | _ => simp [menB] at h
abbrev df (w g o d : D) (r : Option D) (m7 m6 m8 m9 : Option D) : Sl := [some (.ref 0), some w, some g, some o, some d, r, m6, m7, m8, m9, none, none, none]
theorem dright1 (w g o d : D) (pd : pln 100 d = true) (h : Hs) : ex mM.sub (callF mM.sub mM.PF 198) (stFst (gd 4)) (df w g o d none none none none none) h = .nx (df w g o d (some (.bl (m1B d))) none none none none) h := by
  cases d with
  | tup xs =>
    obtain ⟨lx, px⟩ := pln_tup.1 pd
    have lx2 : xs.length ≤ 16777216 := by omega
    by_cases l1 : 1 ≤ xs.length
    · have l1' : (1 : Int) ≤ xs.length := by omega
      by_cases l : xs.length ≤ 12
      · have l' : (xs.length : Int) ≤ 12 := by omega
        have c := comp_pickD (fun x => !dB x) (turnC mM.sub (callF mM.sub mM.PF 198) (.var 11) [11] (.nm 11) (.or_ (.not_ (.isI (.var 11) .tuple)) (.il (.comp (.var 10) [10] (.nm 10) (.val (.var 11)) (.not_ (.pcall 27 (.cons (.var 10) (.cons (.lit (.int (0))) (.cons (.lit (.int (23))) .nil)))))))) (df w g o (.tup xs) none none none none none)) h xs (fun x hx => by
          have p1 := px x hx
          cases x with
          | tup ys =>
            obtain ⟨ly, py⟩ := pln_tup.1 p1
            have ly2 : ys.length ≤ 16777216 := by omega
            have c2 := comp_pickD (fun y => !whB 0 23 y) (turnC mM.sub (callF mM.sub mM.PF 198) (.var 10) [10] (.nm 10) (.not_ (.pcall 27 (.cons (.var 10) (.cons (.lit (.int (0))) (.cons (.lit (.int (23))) .nil))))) [some (.ref 0), some w, some g, some o, some (.tup xs), none, none, none, none, none, none, some (.tup ys), none]) h ys (fun y hy => by
              have wy := whole_any (N := 100) 197 h y 0 23 (py y hy)
              simp only [Nat.reduceAdd] at wy
              cases z : whB 0 23 y with
              | true => rw [z] at wy; simp -implicitDefEqProofs [turnC_, E.isOmit, wy]
              | false => rw [z] at wy; simp -implicitDefEqProofs [turnC_, E.isOmit, wy])
            have ne := filter_anyD (fun y => !whB 0 23 y) ys
            rw [not_all] at ne
            have dd : dB (.tup ys) = ys.all (whB 0 23) := rfl
            rw [dd]
            generalize ys.filter (fun y => !whB 0 23 y) = Z at c2 ne
            cases z : ys.all (whB 0 23) with
            | true => rw [z] at ne; simp -implicitDefEqProofs [turnC_, E.isOmit, df, ly2, c2, ne, -List.isEmpty_iff, -List.isEmpty_eq_false_iff]
            | false => rw [z] at ne; simp -implicitDefEqProofs [turnC_, E.isOmit, df, ly2, c2, ne, -List.isEmpty_iff, -List.isEmpty_eq_false_iff]
          | non => simp -implicitDefEqProofs [turnC_, E.isOmit, df, dB]
          | bl b => simp -implicitDefEqProofs [turnC_, E.isOmit, df, dB]
          | int b => simp -implicitDefEqProofs [turnC_, E.isOmit, df, dB]
          | str b => simp -implicitDefEqProofs [turnC_, E.isOmit, df, dB]
          | _ => simp [pln] at p1)
        have ne := filter_anyD (fun x => !dB x) xs
        rw [not_all] at ne
        generalize xs.filter (fun x => !dB x) = Z at c ne
        simp only [df] at c
        simp -implicitDefEqProofs [gd, stFst, stSnd, i__law_days_hold, df, l1, l1', l, l', lx2, c, ne, m1B, -List.isEmpty_iff, -List.isEmpty_eq_false_iff]
      · have l' : ¬ (xs.length : Int) ≤ 12 := by omega
        simp -implicitDefEqProofs [gd, stFst, stSnd, i__law_days_hold, df, l1, l1', l, l', m1B]
    · have l1' : ¬ (1 : Int) ≤ xs.length := by omega
      simp -implicitDefEqProofs [gd, stFst, stSnd, i__law_days_hold, df, l1, l1', m1B]
  | non => simp -implicitDefEqProofs [gd, stFst, stSnd, i__law_days_hold, df, m1B]
  | bl b => simp -implicitDefEqProofs [gd, stFst, stSnd, i__law_days_hold, df, m1B]
  | int b => simp -implicitDefEqProofs [gd, stFst, stSnd, i__law_days_hold, df, m1B]
  | str b => simp -implicitDefEqProofs [gd, stFst, stSnd, i__law_days_hold, df, m1B]
  | _ => simp [pln] at pd
theorem dright2 (w g o d : D) (pd : pln 100 d = true) (h : Hs) : ex mM.sub (callF mM.sub mM.PF 198) (stFst (gd 5)) (df w g o d (some (.bl (m1B d))) none none none none) h = .nx (df w g o d (some (.bl (menB d))) none none none none) h := by
  cases m1 : m1B d with
  | false =>
    have gs : menB d = false := by
      cases e : menB d with
      | false => rfl
      | true => rw [men_m1 d e] at m1; cases m1
    rw [gs]
    simp -implicitDefEqProofs [gd, stFst, stSnd, i__law_days_hold, df]
  | true =>
    cases d with
    | tup xs =>
      simp only [m1B, Bool.and_eq_true, decide_eq_true_eq, List.all_eq_true] at m1
      obtain ⟨⟨l1, l12⟩, two⟩ := m1
      obtain ⟨lx, px⟩ := pln_tup.1 pd
      have lx2 : xs.length ≤ 16777216 := by omega
      have gs : menB (.tup xs) = xs.all hoursB := by simp only [menB, l1, l12, decide_true, Bool.true_and]
      rw [gs]
      have c := comp_pickD (fun x => !hoursB x) (turnC mM.sub (callF mM.sub mM.PF 198) (.var 11) [11] (.nm 11) (.il (.comp (.var 12) [12] (.nm 12) (.rng2 (.lit (.int (1))) (.blt .len (.cons (.var 11) .nil))) (.cmp .GtE (.ix (.var 11) (.bin .Sub (.var 12) (.lit (.int (1))))) (.ix (.var 11) (.var 12))))) (df w g o (.tup xs) (some (.bl true)) none none none none)) h xs (fun x hx => by
        have p1 := px x hx
        have t1 := two x hx
        cases x <;> first | (simp [dB] at t1; done) | skip
        rename_i ys
        obtain ⟨ly, py⟩ := pln_tup.1 p1
        obtain ⟨ex, hb⟩ := h_is t1
        rw [hb]
        obtain ⟨is, eis⟩ : ∃ is, intsD ys = is := ⟨_, rfl⟩
        rw [eis] at ex ⊢
        have li : is.length = ys.length := by rw [ex]; simp
        have rr := rr1 is (by omega)
        have c2 := comp_pick (fun j : Nat => D.int (1 + (j : Int))) (fun j : Nat => decide (is.getD (j + 1) 0 ≤ is.getD j 0)) (fun j : Nat => D.int (1 + (j : Int))) (turnC mM.sub (callF mM.sub mM.PF 198) (.var 12) [12] (.nm 12) (.cmp .GtE (.ix (.var 11) (.bin .Sub (.var 12) (.lit (.int (1))))) (.ix (.var 11) (.var 12))) [some (.ref 0), some w, some g, some o, some (.tup xs), some (.bl true), none, none, none, none, none, some (.tup ys), none]) h (List.range (is.length - 1)) (by
          intro j hj
          have hj := List.mem_range.1 hj
          have a1 := at_is (is := is) (k := j) (by omega)
          have a2 := at_is (is := is) (k := j + 1) (by omega)
          rw [show ((j + 1 : Nat) : Int) = 1 + (j : Int) by omega] at a2
          rw [← ex] at a1 a2
          have a3 : atD ys (1 + (j : Int) - 1) = some (.int (is.getD j 0)) := by rw [show 1 + (j : Int) - 1 = (j : Int) by omega]; exact a1
          by_cases q : is.getD (j + 1) 0 ≤ is.getD j 0
          · simp only [turnC_, put, wipe]
            simp [a1, a2, a3, q, E.isOmit, -List.getD_eq_getElem?_getD]
          · simp only [turnC_, put, wipe]
            simp [a1, a2, a3, q, E.isOmit, -List.getD_eq_getElem?_getD])
        have ne := filter_any (fun j : Nat => D.int (1 + (j : Int))) (fun j : Nat => decide (is.getD (j + 1) 0 ≤ is.getD j 0)) (List.range (is.length - 1))
        have en : nr is = (List.range (is.length - 1)).any fun j => decide (is.getD (j + 1) 0 ≤ is.getD j 0) := rfl
        rw [← en] at ne
        generalize ((List.range (is.length - 1)).filter _).map (fun j : Nat => D.int (1 + (j : Int))) = Z at c2 ne
        rw [li] at rr c2
        have lr : ys.length - 1 ≤ 16777216 := by omega
        have ly2 : ys.length ≤ 16777216 := by omega
        cases z : nr is with
        | true => rw [z] at ne; simp -implicitDefEqProofs [turnC_, E.isOmit, df, ly2, lr, rr, c2, ne, -List.isEmpty_iff, -List.isEmpty_eq_false_iff]
        | false => rw [z] at ne; simp -implicitDefEqProofs [turnC_, E.isOmit, df, ly2, lr, rr, c2, ne, -List.isEmpty_iff, -List.isEmpty_eq_false_iff])
      have ne := filter_anyD (fun x => !hoursB x) xs
      rw [not_all] at ne
      generalize xs.filter (fun x => !hoursB x) = Z at c ne
      simp only [df] at c
      simp -implicitDefEqProofs [gd, stFst, stSnd, i__law_days_hold, df, lx2, c, ne, -List.isEmpty_iff, -List.isEmpty_eq_false_iff]
    | _ => simp [m1B] at m1
end Pl

set_option Elab.async false
set_option linter.all false
set_option maxRecDepth 100000
set_option maxHeartbeats 4000000
namespace Pl
open PySem Ci
def wl : List D := (List.range 24).map fun k => .int (k : Nat)
def wD : D := .tup wl
theorem rl24 : rlistD false (.int 0) (.int 24) = some (.lst wl) := by rfl
theorem d12 : binD .Mult (.tup [wD]) (.int 12) = some (.tup (rep 12 wD)) := mulX _ 12 (by omega)
theorem d13 : binD .Mult (.tup [wD]) (.int 13) = some (.tup (rep 13 wD)) := mulX _ 13 (by omega)
theorem d11 : binD .Mult (.tup [wD]) (.int 11) = some (.tup (rep 11 wD)) := mulX _ 11 (by omega)
theorem z23 : binD .Mult (.tup [.int 0]) (.int 23) = some (.tup (rep 23 (.int 0))) := mulX _ 23 (by omega)
theorem z25 : binD .Mult (.tup [.int 0]) (.int 25) = some (.tup (rep 25 (.int 0))) := mulX _ 25 (by omega)
theorem addR (n : Nat) (x y : D) (l : n ≤ 100) : addD (.tup (rep n x)) (.tup [y]) = some (.tup (rep n x ++ [y])) := addT (by simp [rep]; omega)
def goodD : List D := [.tup [wD, gD 0 1], .tup [wD], .tup [.tup []], .tup (rep 12 wD)]
def oddD : List D := [.tup [], .tup (rep 13 wD), .tup [.tup [.int 24]], .tup [.tup [.int (-1)]], .tup [gD 0 0], .tup [gD 1 0], .tup [.tup [.bl true]], .tup [.int 5], .tup [.non], .non, .int 5, .tup (rep 11 wD ++ [.tup [.int 0, .non]]), .tup [wD, .str (Str.ofString "0")]]
def mostL : List D := [.int 0, .int 12, .int 24, .int 25, .int (-1), .bl true, .non]
theorem goodD_f {x : D} (h : x ∈ goodD) : lv 2 x = true ∧ pln 60 x = true := by
  have : goodD.all (fun x => lv 2 x && pln 60 x) = true := by decide +kernel
  simpa using List.all_eq_true.1 this x h
theorem oddD_f {x : D} (h : x ∈ oddD) : pln 100 x = true := by
  have : oddD.all (pln 100) = true := by decide +kernel
  exact List.all_eq_true.1 this x h
theorem most_f {x : D} (h : x ∈ mostL) : pln 100 x = true := by
  have : mostL.all (pln 100) = true := by decide +kernel
  exact List.all_eq_true.1 this x h
/-- men are chosen -/
theorem dh_a {r h : Hs} (st : StR r h) : ∃ g d m h', StR r h' ∧ pln 100 d = true ∧ pln 100 m = true ∧ ∀ R, ex mM.sub (callF mM.sub mM.PF 198) (gd 7) (df wD g (.lst oddD) d (some (.bl (menB d))) none (some m) none none) h' = R → ex mM.sub (callF mM.sub mM.PF 198) (gd 0) [some (.ref 0), none, none, none, none, none, none, none, none, none, none, none, none] h = R := by
  obtain ⟨g, h1, g1, mg, e1⟩ := pick_ok 196 h goodD st (by simp [goodD]) (by simp [goodD])
  obtain ⟨lg, pg⟩ := goodD_f mg
  obtain ⟨bt, h2, g2, pb, e2⟩ := bent_ok 2 193 60 g1 lg pg (by omega)
  obtain ⟨od, h3, g3, mo, e3⟩ := pick_ok 196 h2 oddD g2 (by simp [oddD]) (by simp [oddD])
  obtain ⟨s, h4, g4, ms, e4⟩ := pick_ok 196 h3 [g, g, bt, od] g3 (by simp) (by simp)
  obtain ⟨m, h5, g5, mm, e5⟩ := pick_ok 196 h4 mostL g4 (by simp [mostL]) (by simp [mostL])
  simp only [Nat.reduceAdd] at e1 e2 e3 e4 e5
  have ps : pln 100 s = true := by
    simp only [List.mem_cons, List.not_mem_nil, or_false] at ms
    rcases ms with rfl | rfl | rfl | rfl
    · exact pln_mono (by omega) pg
    · exact pln_mono (by omega) pg
    · exact pln_mono (by omega) pb
    · exact oddD_f mo
  refine ⟨g, s, m, h5, g5, ps, most_f mm, fun R hR => ?_⟩
  have o0 : ex mM.sub (callF mM.sub mM.PF 198) (stFst (gd 0)) [some (.ref 0), none, none, none, none, none, none, none, none, none, none, none, none] h = .nx [some (.ref 0), some wD, none, none, none, none, none, none, none, none, none, none, none] h := by
    simp -implicitDefEqProofs [gd, stFst, stSnd, i__law_days_hold, rl24, rlA, E.isOmit]
    rfl
  have o1 : ex mM.sub (callF mM.sub mM.PF 198) (stFst (gd 1)) [some (.ref 0), some wD, none, none, none, none, none, none, none, none, none, none, none] h = .nx [some (.ref 0), some wD, some g, none, none, none, none, none, none, none, none, none, none] h1 := by
    simp only [goodD] at e1
    have D12 := d12
    generalize wD = w at e1 D12 ⊢
    simp -implicitDefEqProofs [gd, stFst, stSnd, i__law_days_hold, D12, e1]
  have o2 : ex mM.sub (callF mM.sub mM.PF 198) (stFst (gd 2)) [some (.ref 0), some wD, some g, none, none, none, none, none, none, none, none, none, none] h1 = .nx [some (.ref 0), some wD, some g, some (.lst oddD), none, none, none, none, none, none, none, none, none] h1 := by
    have D13 := d13
    have D11 := d11
    have A11 := addR 11 wD (.tup [.int 0, .non]) (by omega)
    unfold oddD
    generalize wD = w at D13 D11 A11 ⊢
    simp -implicitDefEqProofs [gd, stFst, stSnd, i__law_days_hold, D13, D11, A11]
  have o3 : ex mM.sub (callF mM.sub mM.PF 198) (stFst (gd 3)) [some (.ref 0), some wD, some g, some (.lst oddD), none, none, none, none, none, none, none, none, none] h1 = .nx (df wD g (.lst oddD) s none none none none none) h4 := by
    simp -implicitDefEqProofs [gd, stFst, stSnd, i__law_days_hold, df, e2, e3, e4]
  have o4 := dright1 wD g (.lst oddD) s ps h4
  have o5 := dright2 wD g (.lst oddD) s ps h4
  have o6 : ex mM.sub (callF mM.sub mM.PF 198) (stFst (gd 6)) (df wD g (.lst oddD) s (some (.bl (menB s))) none none none none) h4 = .nx (df wD g (.lst oddD) s (some (.bl (menB s))) none (some m) none none) h5 := by
    simp only [mostL] at e5
    simp -implicitDefEqProofs [gd, stFst, stSnd, i__law_days_hold, df, e5]
  exact step o0 (step o1 (step o2 (step o3 (step o4 (step o5 (step o6 hR))))))
theorem wM_mem (s r : D) : wM s r ∈ WL := by unfold wM; split <;> (try split) <;> simp [WL]
def wd (d : D) : Str := if menB d then q "" else q "argument men"
def wm (m : D) : Str := if whB 0 24 m then q "" else q "argument most"
theorem wd_mem (s : D) : wd s ∈ WL := by unfold wd; split <;> simp [WL]
theorem wm_mem (s : D) : wm s ∈ WL := by unfold wm; split <;> simp [WL]
theorem wM_first (s r : D) : firstS [wd s, wm r] = wM s r := by
  unfold firstS wd wm wM
  cases menB s <;> cases whB 0 24 r <;> simp [List.filter_cons, nz0, nz5, nz6]
theorem dayB_l (n : Nat) (xs : List D) (h : xs.length ≠ 24) : dayB n (.tup xs) = false := by
  simp only [dayB, decide_eq_false h, Bool.false_and]
theorem dayB_x (n : Nat) (k : Nat) (x y : D) (h : ixB n y = false) : dayB n (.tup (rep k x ++ [y])) = false := by
  simp only [dayB, repA_all_false k h, Bool.and_false]
section
variable {d m : D} (pd : pln 100 d = true) (pm : pln 100 m = true)
include pd pm in
theorem dh_b (h : Hs) (g : D) : ex mM.sub (callF mM.sub mM.PF 198) (gd 7) (df wD g (.lst oddD) d (some (.bl (menB d))) none (some m) none none) h = .rt (.bl true) h := by
  have mem := wM_mem d m
  have mem2 := pf_mem mem
  obtain ⟨mn, hmn, hm⟩ : ∃ mn : Nat, mn ≤ 100 ∧ ((menB d = true ∧ mn = lenD d) ∨ (menB d = false ∧ mn = 2)) := by
    cases z : menB d with
    | true =>
      obtain ⟨mss, rfl, l1, l2⟩ := menB_is z
      exact ⟨mss.length, by omega, .inl ⟨rfl, by simp [lenD, msD]⟩⟩
    | false => exact ⟨2, by omega, .inr ⟨rfl, rfl⟩⟩
  have hm' : menB d = true → mn = lenD d := fun z => hm.elim (fun k => k.2) fun k => by rw [k.1] at z; cases z
  have a1 := says21 (p := .non) pd pm rfl (fun g => rfl)
  have a2 := says21 (p := .tup (rep 23 (.int 0))) pd pm (pln_rep _ _ rfl (by omega)) (fun g => dayB_l _ _ (by simp [rep]))
  have a3 := says21 (p := .tup (rep 25 (.int 0))) pd pm (pln_rep _ _ rfl (by omega)) (fun g => dayB_l _ _ (by simp [rep]))
  have a4 := says21 (p := .tup (rep 23 (.int 0) ++ [.int (mn : Nat)])) pd pm (pln_rep1 _ _ _ rfl rfl (by omega)) (fun g => dayB_x _ _ _ _ (by
    have := hm' g
    simp [ixB, this]))
  have a5 := says21 (p := .tup (rep 23 (.int 0) ++ [.int (-1)])) pd pm (pln_rep1 _ _ _ rfl rfl (by omega)) (fun g => dayB_x _ _ _ _ rfl)
  have a6 := says21 (p := .tup (rep 23 (.int 0) ++ [.bl false])) pd pm (pln_rep1 _ _ _ rfl rfl (by omega)) (fun g => dayB_x _ _ _ _ rfl)
  have a7 := says21 (p := .tup (rep 23 (.int 0) ++ [.non])) pd pm (pln_rep1 _ _ _ rfl rfl (by omega)) (fun g => dayB_x _ _ _ _ rfl)
  have c1 := says20 (p := .non) pd pm rfl rfl
  have c2 := says20 (p := .tup [.int 24]) pd pm rfl (by decide +kernel)
  have c3 := says20 (p := .tup [.int (-1)]) pd pm rfl (by decide +kernel)
  have c4 := says20 (p := .tup [.int 0, .int 0]) pd pm rfl (by decide +kernel)
  have c5 := says20 (p := .tup [.int 1, .int 0]) pd pm rfl (by decide +kernel)
  have c6 := says20 (p := .tup [.bl true]) pd pm rfl (by decide +kernel)
  have c7 := says20 (p := .tup [.non]) pd pm rfl (by decide +kernel)
  have f1 := says17 pd pm
  have fo := first_ok 197 [wd d, wm m] (by simp) (fun w hw => by
    simp only [List.mem_cons, List.not_mem_nil, or_false] at hw
    rcases hw with rfl | rfl
    · exact eqE (wd_mem d)
    · exact eqE (wm_mem m)) h
  rw [wM_first] at fo
  have w1 := whole_any (N := 100) 197 h m 0 24 pm
  simp only [Nat.reduceAdd] at w1 fo
  simp only [Says] at a1 a2 a3 a4 a5 a6 a7 c1 c2 c3 c4 c5 c6 c7 f1
  obtain ⟨P, hP⟩ : ∃ P, pfW (wM d m) = P := ⟨_, rfl⟩
  rw [show (if wM d m = q "" then q "paper form" else wM d m) = P from hP] at a1 a2 a3 a4 a5 a6 a7 c1 c2 c3 c4 c5 c6 c7
  have pE : ∀ (S : Sl) (H : Hs), S[7]? = some (some (.str (wM d m))) → ev mM.sub (callF mM.sub mM.PF 198) (.ife (.cmp .NotEq (.var 7) (.lit (.str (Str.ofString "")))) (.var 7) (.lit (.str (Str.ofString "paper form")))) S H = .ok (.str P) H := fun S H h => by rw [pf_ev mem h, hP]
  rw [hP] at mem2
  have E1 := eq1 mem
  generalize hW : wM d m = due at *
  have s7 : ex mM.sub (callF mM.sub mM.PF 198) (stFst (gd 7)) (df wD g (.lst oddD) d (some (.bl (menB d))) none (some m) none none) h = .nx (df wD g (.lst oddD) d (some (.bl (menB d))) (some (.str due)) (some m) none none) h := by
    have ww : wm m = if whB 0 24 m then q "" else q "argument most" := rfl
    have ww2 : wd d = if menB d then q "" else q "argument men" := rfl
    cases z : whB 0 24 m with
    | true =>
      rw [z] at ww w1; simp only [if_true] at ww
      cases z2 : menB d with
      | true => rw [z2] at ww2; simp only [if_true] at ww2; rw [ww, ww2] at fo; simp -implicitDefEqProofs [gd, stFst, stSnd, i__law_days_hold, df, w1, q] at fo ⊢; simp -implicitDefEqProofs [fo]
      | false => rw [z2] at ww2; simp only [Bool.false_eq_true, if_false] at ww2; rw [ww, ww2] at fo; simp -implicitDefEqProofs [gd, stFst, stSnd, i__law_days_hold, df, w1, q] at fo ⊢; simp -implicitDefEqProofs [fo]
    | false =>
      rw [z] at ww w1; simp only [Bool.false_eq_true, if_false] at ww
      cases z2 : menB d with
      | true => rw [z2] at ww2; simp only [if_true] at ww2; rw [ww, ww2] at fo; simp -implicitDefEqProofs [gd, stFst, stSnd, i__law_days_hold, df, w1, q] at fo ⊢; simp -implicitDefEqProofs [fo]
      | false => rw [z2] at ww2; simp only [Bool.false_eq_true, if_false] at ww2; rw [ww, ww2] at fo; simp -implicitDefEqProofs [gd, stFst, stSnd, i__law_days_hold, df, w1, q] at fo ⊢; simp -implicitDefEqProofs [fo]
  refine step s7 ?_
  have s8 : ex mM.sub (callF mM.sub mM.PF 198) (stFst (gd 8)) (df wD g (.lst oddD) d (some (.bl (menB d))) (some (.str due)) (some m) none none) h = .nx (df wD g (.lst oddD) d (some (.bl (menB d))) (some (.str due)) (some m) (some (.int (mn : Nat))) none) h := by
    rcases hm with ⟨z, e⟩ | ⟨z, e⟩
    · obtain ⟨mss, rfl, l1, l2⟩ := menB_is z
      rw [z, e]
      simp -implicitDefEqProofs [gd, stFst, stSnd, i__law_days_hold, df, lenD]
    · rw [z, e]
      simp -implicitDefEqProofs [gd, stFst, stSnd, i__law_days_hold, df]
  refine step s8 ?_
  have s9 : ex mM.sub (callF mM.sub mM.PF 198) (stFst (gd 9)) (df wD g (.lst oddD) d (some (.bl (menB d))) (some (.str due)) (some m) (some (.int (mn : Nat))) none) h = .nx (df wD g (.lst oddD) d (some (.bl (menB d))) (some (.str due)) (some m) (some (.int (mn : Nat))) (some (.lst [.str P, .str P, .str P, .str P, .str P, .str P, .str P]))) h := by
    have b1 := addR 23 (.int 0) (.int (mn : Nat)) (by omega)
    have b2 := addR 23 (.int 0) (.int (-1)) (by omega)
    have b3 := addR 23 (.int 0) (.bl false) (by omega)
    have b4 := addR 23 (.int 0) (.non) (by omega)
    simp -implicitDefEqProofs [gd, stFst, stSnd, i__law_days_hold, turnC_, E.isOmit, df, z23, z25, b1, b2, b3, b4, a1, a2, a3, a4, a5, a6, a7]
  refine step s9 ?_
  have s10 : ex mM.sub (callF mM.sub mM.PF 198) (stFst (gd 10)) (df wD g (.lst oddD) d (some (.bl (menB d))) (some (.str due)) (some m) (some (.int (mn : Nat))) (some (.lst [.str P, .str P, .str P, .str P, .str P, .str P, .str P]))) h = .nx (df wD g (.lst oddD) d (some (.bl (menB d))) (some (.str due)) (some m) (some (.int (mn : Nat))) (some (.lst (L14 P)))) h := by
    simp -implicitDefEqProofs [gd, stFst, stSnd, i__law_days_hold, turnC_, E.isOmit, df, addLst, c1, c2, c3, c4, c5, c6, c7]
  refine step s10 ?_
  have pe1 := pE (df wD g (.lst oddD) d (some (.bl (menB d))) (some (.str due)) (some m) (some (.int (mn : Nat))) (some (.lst (L14 P)))) h rfl
  have E14 := eq14 mem2
  have M14 := m14w P
  generalize L14 P = Q14 at *
  simp only [evIfe, evVar, evCmp, evLit] at pe1
  simp -implicitDefEqProofs [gd, stFst, stSnd, i__law_days_hold, df, f1] at pe1 ⊢
  simp -implicitDefEqProofs [pe1, E14, M14, E1]
end
/-- the days hold -/
theorem days_ok {r h : Hs} (st : StR r h) : ∃ h', StR r h' ∧ callF mM.sub mM.PF 199 32 [.ref 0] h = .ok (.bl true) h' := by
  obtain ⟨g, d, m, h', g1, pd, pm, k1⟩ := dh_a st
  have B := k1 _ (dh_b pd pm h' g)
  refine ⟨h', g1, ?_⟩
  rw [callS _ _ 198 _ _ _ _ PF32]
  simp only [gd] at B
  simp only [callB_, show i__law_days_hold.np = 1 from rfl, show i__law_days_hold.nl = 13 from rfl]
  simp [B]
end Pl

set_option Elab.async false
set_option linter.all false
set_option maxRecDepth 100000
set_option maxHeartbeats 4000000
namespace Pl
open PySem Ci
def lwB : St := stFor (stFst (stSnd i_law.body))
theorem plain39 (ns : List Int) : ∃ h', callF mM.sub mM.PF 200 mLaw [.scr (ns.map .int)] [] = .ok (.bl true) h' := by
  obtain ⟨h0, st0, e0⟩ := start_ok 198 ns
  have r7 : rangeD 0 7 = some ((List.range 7).map fun k => .int (k : Nat)) := by rfl
  obtain ⟨S', h1, ⟨g, v, rfl⟩, e⟩ := for_T (fun S h => (∃ r, StR r h) ∧ ∃ v, S = [some (.scr (ns.map .int)), some (.ref 0), v]) (turnF mM.sub (callF mM.sub mM.PF 199) (.nm 2) lwB) ((List.range 7).map fun k => .int (k : Nat)) [some (.scr (ns.map .int)), some (.ref 0), none] h0 (by
    rintro x _ S h ⟨⟨r, st⟩, v, rfl⟩
    obtain ⟨r1, h1, g1, e1⟩ := watches_ok st
    obtain ⟨h2, g2, e2⟩ := days_ok g1
    refine ⟨_, h2, ⟨⟨_, g2⟩, some x, rfl⟩, ?_⟩
    simp -implicitDefEqProofs [turnF_, lwB, stFor, stFst, stSnd, i_law, e1, e2]) ⟨⟨_, st0⟩, none, rfl⟩
  have f := for1 (sub := mM.sub) (call := callF mM.sub mM.PF 199) (t := .nm 2) (a := .lit (.int (7))) (b := lwB) (S := [some (.scr (ns.map .int)), some (.ref 0), none]) (h := h0) (j := 7) (by simp) r7
  rw [e] at f
  refine ⟨h1, ?_⟩
  show callF mM.sub mM.PF (199 + 1) 33 _ _ = _
  rw [callS _ _ 199 _ _ _ _ PF33]
  have Z : ex mM.sub (callF mM.sub mM.PF 199) i_law.body [some (.scr (ns.map .int)), none, none] [] = .rt (.bl true) h1 := by
    unfold i_law
    refine step (S' := [some (.scr (ns.map .int)), some (.ref 0), none]) (h' := h0) (by simp -implicitDefEqProofs [e0]) ?_
    refine step f ?_
    simp
  simp [callB_, show i_law.np = 1 from rfl, show i_law.nl = 3 from rfl, Z]
end Pl

set_option Elab.async false
open PySem PySem.W PyProof.Rows
theorem Ci.plain (ns : List Int) (h : ns.length ≤ 63) : ∃ h', Ci.callF Ci.mM.sub Ci.mM.PF 200 Ci.mLaw [.scr (ns.map .int)] [] = .ok (.bl true) h' := Pl.plain39 ns
set_option maxRecDepth 100000 in
set_option maxHeartbeats 0 in
theorem PySem.Challenge.cw_coneshoisted_k39_arguments_of_watches_holds : PySem.Challenge.rw_coneshoisted_k39_arguments_of_watches.Holds := by
  w_on; o_law; k_head; (case hw => w_witness2)
  k_fill
  exact Ci.law_end (l := PySem.Challenge.rw_coneshoisted_k39_arguments_of_watches) (n := 63) (k := 200) rfl (by decide) rfl ⟨rfl, by decide, by decide⟩ (fun w h Y => PySem.W.kIn_of Y) rfl (fun p => by kernel_rfl) (by decide +kernel) Ci.plain

