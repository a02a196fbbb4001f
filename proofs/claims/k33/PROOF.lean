import PyProof.Rows.All
import Wide.All
import OpenK.AllK
import Wide.FinOn
import PyProof.EqAt
import PyProof.EqKinds
import PyProof.TupleCall
import KE.DataEq
import KE.LtData
import HandS.ForMost
import HandS.Lambda
import HandS.ExcCtx
import HandS.IsInst
import HandS.TupAny
import HandS.Style
import HandS.Walk
import HandS.TupMul
import KE.DataFind
import HandS.Text
import HandS.RaiseMore
import HandS.SortInts
import HandS.Strs
import HandS.Zip
import KE.GoesMore
import PyProof.Rows.FactsN_isinstance
import HandS.StrMore
import HandS.SetFor
import HandS.Conv
import HandS.CallRecv
import HandS.HeadWalk
import HandS.Comp
import HandS.HeadHook2
import HandS.HeadEnd
import HandS.Defaults
import HandS.HeadHook4
import HandS.Head0
import HandS.Head1
import HandS.Head2
import HandS.HeadHook1
import PySem.Challenge.RW_tenturns_k33_whole_purses
section
set_option Elab.async false
set_option linter.all false
set_option maxRecDepth 100000
/-! PLA: a small language (values are PyData, objects stand in a store), its evaluator. -/
namespace PL
open PySem
abbrev D := PyData
/-- the value of an object's number -/
def rf (i : Nat) : D := .dict [(.none, .int (.ofNat i))]
def asRef : D → Option Nat
  | .dict [(.none, .int (.ofNat i))] => some i
  | _ => none
@[simp] theorem asRef_rf (i : Nat) : asRef (rf i) = some i := rfl
theorem asRef_some {x : D} {i : Nat} (h : asRef x = some i) : x = rf i := by
  unfold asRef at h
  split at h
  · cases h; rfl
  · cases h
/-- the script: a list that is read alone -/
def scr (ds : List D) : D := .dict [(.none, .list ds)]
def asScr : D → Option (List D)
  | .dict [(.none, .list ds)] => some ds
  | _ => none
@[simp] theorem asScr_scr (ds : List D) : asScr (scr ds) = some ds := rfl
theorem asScr_some {x : D} {ds : List D} (h : asScr x = some ds) : x = scr ds := by
  unfold asScr at h
  split at h
  · cases h; rfl
  · cases h
structure Xn where
  cls : Str
  at_ : Option Int := none
inductive O where
  | lst (xs : List D)
  | ins (c : Str) (fs : List (Str × D))
abbrev Sto := List O
inductive Out (α : Type) where
  | ok (a : α) (S : Sto)
  | exc (x : Xn) (S : Sto)
  | bad
def Out.bind {α β : Type} (r : Out α) (f : α → Sto → Out β) : Out β := match r with
  | .ok a S => f a S
  | .exc x S => .exc x S
  | .bad => .bad
@[simp] theorem Out.bind_ok {α β : Type} (a : α) (S : Sto) (f : α → Sto → Out β) : (Out.ok a S).bind f = f a S := rfl
@[simp] theorem Out.bind_exc {α β : Type} (x : Xn) (S : Sto) (f : α → Sto → Out β) : (Out.exc x S : Out α).bind f = .exc x S := rfl
@[simp] theorem Out.bind_bad {α β : Type} (f : α → Sto → Out β) : (Out.bad : Out α).bind f = .bad := rfl
def oret (o : Option D) (S : Sto) : Out D := match o with
  | some d => .ok d S
  | none => .bad
@[simp] theorem oret_some (d : D) (S : Sto) : oret (some d) S = .ok d S := rfl
@[simp] theorem oret_none (S : Sto) : oret none S = .bad := rfl

inductive Op where | add | sub | mul | fdiv | mod | pow
  deriving DecidableEq
inductive Cm where | eq | ne | lt | le | gt | in_ | nin
  deriving DecidableEq
inductive Ty where | int | bool | str | tuple | list | cls (c : Str)
  deriving DecidableEq
/-- built-ins by name; r: the new list is an object of the store -/
inductive Bi where
  | len | repr | str | int | list (r : Bool) | tuple | sorted (r : Bool) | sortedSet (r : Bool) | lenSet | sum | sumT | min1 | min2 | max2 | abs | divmod | all | any
  deriving DecidableEq
/-- built-in methods -/
inductive Bm where
  | append | extend | remove | pop | popAt | count | index | join | split
  deriving DecidableEq
inductive Tg where
  | name (i : Nat)
  | tup (ts : List Tg)
mutual
inductive E where
  | var (i : Nat)
  | int (i : Int) | bl (b : Bool) | non | str (x : Str)
  | gint (x : Str)
  | tup (es : List E)
  | lst (r : Bool) (es : List E)
  | dct (kvs : List (Int × Int))
  | op (o : Op) (a b : E)
  | neg (a : E)
  | cm (c : Cm) (a b : E)
  | ch (c d : Cm) (a b e : E)
  | isN (neg : Bool) (a : E)
  | isB (neg : Bool) (a b : E)
  | and (a b : E) | or (a b : E) | not (a : E)
  | ite (c a b : E)
  | ix (a b : E)
  | sl (a : E) (lo hi : Option E)
  | rev (a : E)
  | bi (f : Bi) (es : List E)
  | isi (a : E) (t : Ty)
  | call (f : Str) (es : List E)
  | new (c : Str) (es : List E)
  | meth (o : E) (c m : Str) (es : List E)
  | fld (o : E) (c f : Str)
  | bm (o : E) (m : Bm) (es : List E)
  | comp (r : Bool) (elt : E) (own : List Nat) (tg : Tg) (it : I) (cond : Option E)
  | fstr (es : List E)
  | frz (e : E)
  | said (e : E)
  | sset (r : Bool) (e : E)
  | tupR (e : E)
  | never
inductive I where
  | seq (e : E)
  | range (e : E)
  | enum (e : E)
  | zip (a b : E)
end
inductive T where
  | name (i : Nat)
  | tup (ts : List T)
  | sub (o i : E)
  | fld (o : E) (c f : Str)
inductive St where
  | asg (t : T) (e : E)
  | expr (e : E)
  | ret (e : E)
  | retN
  | ite (c : E) (a b : List St)
  | for_ (t : Tg) (it : I) (body : List St)
  | while_ (c : E) (body : List St)
  | raise (c : Str) (es : List E)
  | tryN (body : List St) (handler : List St)
  | pass
  | never

abbrev Env := List (Option D)
/-- the meaning of calls: a def's name (a method's: class.name), the arguments, the store -/
abbrev Calls := Str → List D → Sto → Out D

/-! ### data -/
def lim : Nat := 16777216
def objL (S : Sto) (i : Nat) : Option (List D) := match S[i]? with
  | some (.lst xs) => some xs
  | _ => none
theorem objL_some {S : Sto} {i : Nat} {xs : List D} (h : objL S i = some xs) : S[i]? = some (.lst xs) := by
  unfold objL at h
  split at h
  · rename_i e; cases h; exact e
  · cases h
theorem objL_of {S : Sto} {i : Nat} {xs : List D} (h : S[i]? = some (.lst xs)) : objL S i = some xs := by
  unfold objL; rw [h]
/-- lists: by value, by number -/
def lstD (S : Sto) (x : D) : Option (List D) := match x with
  | .list xs => some xs
  | y => (asRef y).bind (objL S)
/-- lists and tuples -/
def seqD (S : Sto) (x : D) : Option (List D) := match x with
  | .tuple xs => some xs
  | y => lstD S y
@[simp] theorem lstD_list (S : Sto) (xs : List D) : lstD S (.list xs) = some xs := rfl
@[simp] theorem lstD_rf (S : Sto) (i : Nat) : lstD S (rf i) = objL S i := rfl
@[simp] theorem lstD_tuple (S : Sto) (xs : List D) : lstD S (.tuple xs) = none := rfl
@[simp] theorem seqD_list (S : Sto) (xs : List D) : seqD S (.list xs) = some xs := rfl
@[simp] theorem seqD_tuple (S : Sto) (xs : List D) : seqD S (.tuple xs) = some xs := rfl
@[simp] theorem seqD_rf (S : Sto) (i : Nat) : seqD S (rf i) = objL S i := rfl
theorem lstD_some {S : Sto} {x : D} {xs : List D} (h : lstD S x = some xs) : x = .list xs ∨ ∃ i, x = rf i ∧ S[i]? = some (.lst xs) := by
  unfold lstD at h
  split at h
  · cases h; exact .inl rfl
  · cases e : asRef x with
    | none => rw [e] at h; cases h
    | some i => rw [e] at h; exact .inr ⟨i, asRef_some e, objL_some h⟩
theorem seqD_some {S : Sto} {x : D} {xs : List D} (h : seqD S x = some xs) : x = .tuple xs ∨ x = .list xs ∨ ∃ i, x = rf i ∧ S[i]? = some (.lst xs) := by
  unfold seqD at h
  split at h
  · cases h; exact .inl rfl
  · exact .inr (lstD_some h)
def bigD : Int := 18446744073709551616
def addD (S : Sto) (x y : D) : Option D := match x, y with
  | .int i, .int j => some (.int (i + j))
  | .str x, .str y => if x.length + y.length ≤ lim then some (.str (x ++ y)) else none
  | .tuple xs, .tuple ys => if xs.length + ys.length ≤ lim then some (.tuple (xs ++ ys)) else none
  | x, y => match lstD S x, lstD S y with
    | some xs, some ys => if xs.length + ys.length ≤ lim then some (.list (xs ++ ys)) else none
    | _, _ => none
def mulD (x y : D) : Option D := match x, y with
  | .int i, .int j => if -bigD < i ∧ i < bigD then some (.int (i * j)) else none
  | .tuple xs, .int k => if 1 ≤ k ∧ k ≤ 1000 ∧ xs.length ≤ 1000 ∧ xs ≠ [] then some (.tuple (List.replicate k.toNat xs).flatten) else none
  | _, _ => none
def int2 (f : Int → Int → Option D) (x y : D) : Option D := match x, y with
  | .int i, .int j => f i j
  | _, _ => none
def opD (S : Sto) (o : Op) (x y : D) : Option D := match o with
  | .add => addD S x y
  | .sub => int2 (fun i j => some (.int (i - j))) x y
  | .mul => mulD x y
  | .fdiv => int2 (fun i j => if 0 < j ∧ j < 1073741824 then some (.int (i / j)) else none) x y
  | .mod => int2 (fun i j => if 0 < j then some (.int (i % j)) else none) x y
  | .pow => int2 (fun i j => if 0 ≤ j ∧ j ≤ 1000 ∧ -bigD < i ∧ i < bigD then some (.int (i ^ j.toNat)) else none) x y
def depthMax : Nat := 40
def eqOk (d : D) : Bool := d.plain && decide (d.depth ≤ depthMax)
/-- a list object told as its list, for comparisons -/
def val (S : Sto) (d : D) : D := match lstD S d with
  | some xs => .list xs
  | none => d
def eqD (S : Sto) (x y : D) : Option Bool := if eqOk (val S x) && eqOk (val S y) then some (PyData.eqv (val S x) (val S y)) else none
mutual
/-- a < b; none where it is refused or not told -/
def ltD : D → D → Option Bool
  | .int i, .int j => some (decide (i < j))
  | .str x, .str y => some (decide (x.cps.toList < y.cps.toList))
  | .tuple xs, .tuple ys => ltDs xs ys
  | _, _ => none
def ltDs : List D → List D → Option Bool
  | [], [] => some false
  | [], _ :: _ => some true
  | _ :: _, [] => some false
  | x :: xs, y :: ys => if eqOk x && eqOk y then (if PyData.eqv x y then ltDs xs ys else ltD x y) else none
end
def inSq (S : Sto) (x y : D) : Option Bool := match seqD S y with
  | some ys => if eqOk x && ys.all eqOk then some (ys.any fun z => PyData.eqv z x) else none
  | none => none
def inD (S : Sto) (x y : D) : Option Bool := match y with
  | .str z => (match x with
    | .str a => (match a.cps.toList with
      | [c] => some (decide (c ∈ z.cps.toList))
      | _ => none)
    | _ => none)
  | y => inSq S x y
def cmI (f : Int → Int → Bool) (x y : D) : Option Bool := match x, y with
  | .int i, .int j => some (f i j)
  | _, _ => none
def cmD (S : Sto) (c : Cm) (x y : D) : Option Bool := match c with
  | .eq => eqD S x y
  | .ne => (eqD S x y).map (!·)
  | .lt => if eqOk x && eqOk y then ltD x y else none
  | .le => cmI (fun i j => decide (i ≤ j)) x y
  | .gt => cmI (fun i j => decide (j < i)) x y
  | .in_ => inD S x y
  | .nin => (inD S x y).map (!·)
def ixS (S : Sto) (x : D) (i : Int) : Option D := match x with
  | .str z => if z.length ≤ lim then (L2.atI z.cps.toList i).map fun c => .str ⟨#[c]⟩ else none
  | x => match asScr x with
    | some xs => L2.atI xs i
    | none => (seqD S x).bind fun xs => L2.atI xs i
def ixD (S : Sto) (x y : D) : Option D := match y with
  | .int i => ixS S x i
  | _ => none
def cutD (xs : List D) (lo hi : Option Int) : List D := (xs.drop (HT.sIx xs.length 0 lo)).take (HT.sIx xs.length xs.length hi - HT.sIx xs.length 0 lo)
def slD (S : Sto) (x : D) (lo hi : Option Int) : Option D := match x with
  | .tuple xs => some (.tuple (cutD xs lo hi))
  | y => (lstD S y).map fun xs => .list (cutD xs lo hi)
def revD (S : Sto) (x : D) : Option D := match x with
  | .tuple xs => some (.tuple xs.reverse)
  | y => (lstD S y).map fun xs => .list xs.reverse
/-- real dicts are shown, numbers of objects are not -/
def isRf : D → Bool
  | .dict [(.none, _)] => true
  | _ => false
mutual
def noRf : D → Bool
  | .list xs | .tuple xs => noRfs xs
  | .dict kvs => !isRf (.dict kvs)
  | _ => true
def noRfs : List D → Bool
  | [] => true
  | x :: r => noRf x && noRfs r
end
def showOk (d : D) : Bool := noRf d && d.showable && decide (d.depth ≤ depthMax) && decide (d.shown.length ≤ lim)
def intsOf : List D → Option (List Int)
  | [] => some []
  | .int i :: r => (intsOf r).map (i :: ·)
  | _ => none
def strsOf : List D → Option (List Str)
  | [] => some []
  | .str i :: r => (strsOf r).map (i :: ·)
  | _ => none
def boolsOf : List D → Option (List Bool)
  | [] => some []
  | .bool i :: r => (boolsOf r).map (i :: ·)
  | _ => none
def tupsOf : List D → Option (List (List D))
  | [] => some []
  | .tuple i :: r => (tupsOf r).map (i :: ·)
  | _ => none
/-- each pair is told -/
def cmpOk (xs : List D) : Bool := xs.all fun x => xs.all fun y => eqOk x && (ltD x y).isSome
def leD (x y : D) : Bool := !((ltD y x).getD true)
def sortD (xs : List D) : List D := xs.mergeSort leD
mutual
/-- what a set may hold: ints, texts, tuples of these -/
def hashOk : D → Bool
  | .int _ => true
  | .str _ => true
  | .tuple xs => hashOks xs
  | _ => false
def hashOks : List D → Bool
  | [] => true
  | x :: r => hashOk x && hashOks r
end
def dedD : List D → List D
  | [] => []
  | x :: r => x :: (dedD r).filter fun y => !PyData.eqv y x
def allocL (r : Bool) (xs : List D) (S : Sto) : Out D := if xs.length ≤ lim then (if r then .ok (rf S.length) (S ++ [.lst xs]) else .ok (.list xs) S) else .bad
def intD (x : Str) : Option Int := if x.length ≤ 640 then intText? x else none
def lenD (S : Sto) (x : D) : Option D := match x with
  | .str x => if x.length ≤ lim then some (.int x.length) else none
  | x => match asScr x with
    | some xs => some (.int xs.length)
    | none => (seqD S x).map fun xs => .int xs.length
def strD (x : D) : Option D := match x with
  | .int i => if i.natAbs.log2 < 1920 then some (.str (toString i)) else none
  | .str x => some (.str x)
  | _ => none
def intsD (x : D) : Option D := match x with
  | .bool b => some (.int (if b then 1 else 0))
  | .int i => some (.int i)
  | .str x => (intD x).map .int
  | _ => none
def tupD (S : Sto) (x : D) : Option D := match x with
  | .tuple xs => some (.tuple xs)
  | y => (lstD S y).map .tuple
/-- texts and shown numbers, one behind the other -/
def textsD : List D → Option Str
  | [] => some Str.empty
  | d :: r => match strD d, textsD r with
    | some (.str x), some y => if x.length + y.length ≤ lim then some (x ++ y) else none
    | _, _ => none
def oallo (r : Bool) (o : Option (List D)) (S : Sto) : Out D := match o with
  | some xs => allocL r xs S
  | none => .bad
@[simp] theorem oallo_some (r : Bool) (xs : List D) (S : Sto) : oallo r (some xs) S = allocL r xs S := rfl
@[simp] theorem oallo_none (r : Bool) (S : Sto) : oallo r none S = .bad := rfl
def isort (ns : List Int) : List Int := ns.mergeSort fun a b => decide (a ≤ b)
def sortedD (S : Sto) (x : D) : Option (List D) := (seqD S x).bind fun xs => (intsOf xs).map fun ns => (isort ns).map .int
def sortedSetD (S : Sto) (x : D) : Option (List D) := ((lstD S x).bind intsOf).bind fun ns => if ns.length < 64 then some ((isort ns.eraseDups).map .int) else none
def lenSetD (S : Sto) (x : D) : Option D := (seqD S x).bind fun xs => if xs.all hashOk && decide (xs.length < 4000) then some (.int (dedD xs).length) else none
def sumD (S : Sto) (x : D) : Option D := ((lstD S x).bind intsOf).map fun ns => .int ns.sum
def sumTD (S : Sto) (x y : D) : Option D := match y with
  | .tuple [] => ((lstD S x).bind tupsOf).bind fun ts => if ts.flatten.length ≤ lim then some (.tuple ts.flatten) else none
  | _ => none
def minD (S : Sto) (x : D) : Option D := ((seqD S x).bind intsOf).bind fun ns => match ns with
  | [] => none
  | n :: ns => some (.int (ns.foldl min n))
def absD (x : D) : Option D := match x with
  | .int i => some (.int (if i < 0 then -i else i))
  | _ => none
def allD (S : Sto) (x : D) : Option D := ((lstD S x).bind boolsOf).map fun bs => .bool (bs.all id)
def anyD (S : Sto) (x : D) : Option D := ((lstD S x).bind boolsOf).map fun bs => .bool (bs.any id)
def bi1 (f : D → Option D) (ws : List D) : Option D := match ws with
  | [x] => f x
  | _ => none
def bi2 (f : D → D → Option D) (ws : List D) : Option D := match ws with
  | [x, y] => f x y
  | _ => none
def biL (f : D → Option (List D)) (ws : List D) : Option (List D) := match ws with
  | [x] => f x
  | _ => none
def biD (f : Bi) (ws : List D) (S : Sto) : Out D := match f with
  | .len => oret (bi1 (lenD S) ws) S
  | .repr => oret (bi1 (fun x => if showOk x then some (.str x.shown) else none) ws) S
  | .str => oret (bi1 strD ws) S
  | .int => oret (bi1 intsD ws) S
  | .list r => oallo r (biL (seqD S) ws) S
  | .tuple => oret (bi1 (tupD S) ws) S
  | .sorted r => oallo r (biL (sortedD S) ws) S
  | .sortedSet r => oallo r (biL (sortedSetD S) ws) S
  | .lenSet => oret (bi1 (lenSetD S) ws) S
  | .sum => oret (bi1 (sumD S) ws) S
  | .sumT => oret (bi2 (sumTD S) ws) S
  | .min1 => oret (bi1 (minD S) ws) S
  | .min2 => oret (bi2 (int2 fun i j => some (.int (if j < i then j else i))) ws) S
  | .max2 => oret (bi2 (int2 fun i j => some (.int (if j > i then j else i))) ws) S
  | .abs => oret (bi1 absD ws) S
  | .divmod => oret (bi2 (int2 fun i j => if 0 < j ∧ j < 1073741824 then some (.tuple [.int (i / j), .int (i % j)]) else none) ws) S
  | .all => oret (bi1 (allD S) ws) S
  | .any => oret (bi1 (anyD S) ws) S
/-- the built-in type of a value, and what is asked -/
def isi0 (S : Sto) (x : D) (t : Ty) : Option Bool := match x with
  | .none => some false
  | .bool _ => some (decide (t = .bool ∨ t = .int))
  | .int _ => some (decide (t = .int))
  | .str _ => some (decide (t = .str))
  | .tuple _ => some (decide (t = .tuple))
  | .list _ => some (decide (t = .list))
  | .dict kvs => if isRf (.dict kvs) then (lstD S (.dict kvs)).map fun _ => decide (t = .list) else some false
def putF (f : Str) (d : D) : List (Str × D) → List (Str × D)
  | [] => [(f, d)]
  | (g, e) :: r => if g = f then (g, d) :: r else (g, e) :: putF f d r
def updL (S : Sto) (x : D) (f : List D → Option (D × List D)) : Out D := match asRef x with
  | some i => (match (objL S i).bind f with
    | some (d, ys) => .ok d (S.set i (.lst ys))
    | none => .bad)
  | none => .bad
def eqvR (w : D) : D → Bool := fun z => PyData.eqv z w
def findOk (w : D) (xs : List D) : Bool := eqOk w && xs.all eqOk
def bmD (m : Bm) (x : D) (ws : List D) (S : Sto) : Out D := match m with
  | .append => (match ws with
    | [w] => updL S x fun xs => if xs.length < lim then some (.none, xs ++ [w]) else none
    | _ => .bad)
  | .extend => (match ws with
    | [w] => (match lstD S w with
      | some ys => updL S x fun xs => if xs.length + ys.length ≤ lim then some (.none, xs ++ ys) else none
      | none => .bad)
    | _ => .bad)
  | .remove => (match ws with
    | [w] => updL S x fun xs => if findOk w xs && xs.any (eqvR w) then some (.none, xs.eraseP (eqvR w)) else none
    | _ => .bad)
  | .pop => (match ws with
    | [] => updL S x fun xs => xs.getLast?.map fun y => (y, xs.dropLast)
    | _ => .bad)
  | .popAt => (match ws with
    | [.int k] => updL S x fun xs => if 0 ≤ k ∧ k < 1000000 then xs[k.toNat]?.map fun y => (y, xs.eraseIdx k.toNat) else none
    | _ => .bad)
  | .count => oret (bi1 (fun w => (seqD S x).bind fun xs => if findOk w xs then some (.int (xs.countP (eqvR w))) else none) ws) S
  | .index => oret (bi1 (fun w => (seqD S x).bind fun xs => if findOk w xs && xs.any (eqvR w) then some (.int (xs.findIdx (eqvR w))) else none) ws) S
  | .join => (match x with
    | .str z => oret (bi1 (fun w => ((seqD S w).bind strsOf).bind fun ys => if (ys.map (·.length)).sum + ys.length * z.length ≤ lim then some (.str (Txt.join z ys)) else none) ws) S
    | _ => .bad)
  | .split => (match x, ws with
    | .str z, [.str b] => if b.length ≠ 0 ∧ z.length + 2 ≤ lim then .ok (.list ((Txt.split z b).map .str)) S else .bad
    | _, _ => .bad)
/-- the type of a method's receiver -/
inductive Kd where | list | tuple | str
  deriving DecidableEq
def kdX : D → Kd
  | .tuple _ => .tuple
  | .str _ => .str
  | _ => .list
def kdD (S : Sto) (m : Bm) (x : D) : Bool := match kdX x with
  | .tuple => decide (m = .count ∨ m = .index)
  | .str => decide (m = .join ∨ m = .split)
  | .list => decide (m ≠ .join ∧ m ≠ .split) && (lstD S x).isSome
def frzD (x : D) (S : Sto) : Out D := match (asRef x).bind (objL S) with
  | some xs => .ok (.list xs) S
  | none => .bad
def insD (S : Sto) (i : Nat) : Option (Str × List (Str × D)) := match S[i]? with
  | some (.ins c fs) => some (c, fs)
  | _ => none
theorem insD_some {S : Sto} {i : Nat} {c : Str} {fs : List (Str × D)} (h : insD S i = some (c, fs)) : S[i]? = some (.ins c fs) := by
  unfold insD at h
  split at h
  · rename_i e; cases h; exact e
  · cases h
def isiD (S : Sto) (x : D) (t : Ty) : Option Bool := match t with
  | .cls c => (match (asRef x).bind (insD S) with
    | some p => if p.1 = c then some true else none
    | none => (isi0 S x .str).map fun _ => false)
  | t => isi0 S x t
def fldD (S : Sto) (x : D) (c f : Str) : Option D := ((asRef x).bind (insD S)).bind fun p => if p.1 = c then p.2.lookup f else none
def wipe (ρ : Env) : List Nat → Env
  | [] => ρ
  | v :: vs => (wipe ρ vs).set v none
mutual
def putT : Tg → D → Env → Option Env
  | .name i, d, ρ => if i < ρ.length then some (ρ.set i (some d)) else none
  | .tup ts, .tuple ds, ρ => putTs ts ds ρ
  | .tup _, _, _ => none
def putTs : List Tg → List D → Env → Option Env
  | [], [], ρ => some ρ
  | t :: ts, d :: ds, ρ => match putT t d ρ with
    | some ρ' => putTs ts ds ρ'
    | none => none
  | _, _, _ => none
end
def enumL : Nat → List D → List D
  | _, [] => []
  | n, d :: ds => .tuple [.int n, d] :: enumL (n + 1) ds
def zipL : List D → List D → List D
  | x :: xs, y :: ys => .tuple [x, y] :: zipL xs ys
  | _, _ => []
def rangeL (i : Int) : List D := (List.range i.toNat).map fun k => .int (k : Nat)
def chrs (x : Str) : List D := x.cps.toList.map fun c => .str ⟨#[c]⟩
/-- what is walked: the items, and the objects that must stand as they did -/
structure Wk where
  items : List D
  held : List (Nat × List D)
  pr : Bool
def isNm : Tg → Bool
  | .name _ => true
  | .tup _ => false
def Wk.ok (w : Wk) (S : Sto) : Prop := ∀ p ∈ w.held, objL S p.1 = some p.2
noncomputable instance (w : Wk) (S : Sto) : Decidable (w.ok S) := Classical.propDecidable _
def heldD (x : D) (xs : List D) : List (Nat × List D) := match asRef x with
  | some i => [(i, xs)]
  | none => []
def itemsD (S : Sto) (x : D) : Option Wk := match x with
  | .str z => some ⟨chrs z, [], false⟩
  | y => (seqD S y).map fun xs => ⟨xs, heldD y xs, false⟩

/-- the turns of a comprehension over items -/
noncomputable def compL (ok : Sto → Prop) (put : D → Option Env) (cond : Env → Sto → Out D) (elt : Env → Sto → Out D) : List D → List D → Sto → Out (List D)
  | [], acc, S => open Classical in if ok S then .ok acc S else .bad
  | d :: ds, acc, S => open Classical in if ok S then (match put d with
    | none => .bad
    | some ρ => match cond ρ S with
      | .ok (.bool true) S1 => (match elt ρ S1 with
        | .ok w S2 => if acc.length < lim then compL ok put cond elt ds (acc ++ [w]) S2 else .bad
        | _ => .bad)
      | .ok (.bool false) S1 => compL ok put cond elt ds acc S1
      | _ => .bad) else .bad
/-! ### expressions -/
section
variable (G : Calls) (gi : Str → Option Int)
mutual
noncomputable def ev : E → Env → Sto → Out D
  | .var i, ρ, S => (match ρ[i]? with
    | some (some d) => .ok d S
    | _ => .bad)
  | .int i, _, S => .ok (.int i) S
  | .bl b, _, S => .ok (.bool b) S
  | .non, _, S => .ok .none S
  | .str x, _, S => .ok (.str x) S
  | .gint x, _, S => (match gi x with
    | some i => .ok (.int i) S
    | none => .bad)
  | .tup es, ρ, S => (evs es ρ S).bind fun ws S => if ws.length ≤ lim then .ok (.tuple ws) S else .bad
  | .lst r es, ρ, S => (evs es ρ S).bind fun ws S => allocL r ws S
  | .dct kvs, _, S => .ok (.dict (kvs.map fun p => (.int p.1, .int p.2))) S
  | .op o a b, ρ, S => (ev a ρ S).bind fun x S => (ev b ρ S).bind fun y S => oret (opD S o x y) S
  | .neg a, ρ, S => (ev a ρ S).bind fun x S => (match x with
    | .int i => .ok (.int (-i)) S
    | _ => .bad)
  | .cm c a b, ρ, S => (ev a ρ S).bind fun x S => (ev b ρ S).bind fun y S => oret ((cmD S c x y).map .bool) S
  | .ch c d a b e, ρ, S => (ev a ρ S).bind fun x S => (ev b ρ S).bind fun y S => (match cmD S c x y with
    | some true => (ev e ρ S).bind fun z S => oret ((cmD S d y z).map .bool) S
    | some false => .ok (.bool false) S
    | none => .bad)
  | .isN neg a, ρ, S => (ev a ρ S).bind fun x S => (match x with
    | .none => .ok (.bool (!neg)) S
    | _ => .ok (.bool neg) S)
  | .isB neg a b, ρ, S => (ev a ρ S).bind fun x S => (ev b ρ S).bind fun y S => (match x, y with
    | .bool p, .bool q => .ok (.bool (neg != (p == q))) S
    | _, _ => .bad)
  | .and a b, ρ, S => (ev a ρ S).bind fun x S => (match x with
    | .bool true => ev b ρ S
    | .bool false => .ok (.bool false) S
    | _ => .bad)
  | .or a b, ρ, S => (ev a ρ S).bind fun x S => (match x with
    | .bool true => .ok (.bool true) S
    | .bool false => ev b ρ S
    | _ => .bad)
  | .not a, ρ, S => (ev a ρ S).bind fun x S => (match x with
    | .bool b => .ok (.bool (!b)) S
    | _ => .bad)
  | .ite c a b, ρ, S => (ev c ρ S).bind fun x S => (match x with
    | .bool true => ev a ρ S
    | .bool false => ev b ρ S
    | _ => .bad)
  | .ix a b, ρ, S => (ev a ρ S).bind fun x S => (ev b ρ S).bind fun y S => oret (ixD S x y) S
  | .sl a lo hi, ρ, S => (ev a ρ S).bind fun x S => (evo lo ρ S).bind fun l S => (evo hi ρ S).bind fun h S => oret (slD S x l h) S
  | .rev a, ρ, S => (ev a ρ S).bind fun x S => oret (revD S x) S
  | .bi f es, ρ, S => (evs es ρ S).bind fun ws S => biD f ws S
  | .isi a t, ρ, S => (ev a ρ S).bind fun x S => oret ((isiD S x t).map .bool) S
  | .call f es, ρ, S => (evs es ρ S).bind fun ws S => G f ws S
  | .new c es, ρ, S => (evs es ρ S).bind fun ws S => (G (c ++ ".__init__") (rf S.length :: ws) (S ++ [.ins c []])).bind fun r S1 => (match r with
    | .none => .ok (rf S.length) S1
    | _ => .bad)
  | .meth o c m es, ρ, S => (ev o ρ S).bind fun x S => (match (asRef x).bind (insD S) with
    | some (c', fs) => if c' = c ∧ fs.lookup m = none then (evs es ρ S).bind fun ws S => G (c ++ "." ++ m) (x :: ws) S else .bad
    | none => .bad)
  | .fld o c f, ρ, S => (ev o ρ S).bind fun x S => oret (fldD S x c f) S
  | .bm o m es, ρ, S => (ev o ρ S).bind fun x S => if kdD S m x = true then (evs es ρ S).bind fun ws S => bmD m x ws S else .bad
  | .comp r elt own tg it cond, ρ, S => (evi it ρ S).bind fun w S => if (w.pr && isNm tg) = true then .bad else
      (compL w.ok (fun d => putT tg d (wipe ρ own)) (fun ρ S => evc cond ρ S) (fun ρ S => ev elt ρ S) w.items [] S).bind fun ws S1 => allocL r ws S1
  | .fstr es, ρ, S => (evs es ρ S).bind fun ws S => oret ((textsD ws).map .str) S
  | .frz e, ρ, S => (ev e ρ S).bind fun x S => frzD x S
  | .said e, ρ, S => (ev e ρ S).bind fun _ _ => .bad
  | .sset r e, ρ, S => (ev e ρ S).bind fun x S => oallo r (sortedSetD S x) S
  | .tupR e, ρ, S => (ev e ρ S).bind fun x S => (match x with
    | .int i => if 0 ≤ i ∧ i ≤ 16777216 then .ok (.tuple (rangeL i)) S else .bad
    | _ => .bad)
  | .never, _, _ => .bad
noncomputable def evs : List E → Env → Sto → Out (List D)
  | [], _, S => .ok [] S
  | e :: es, ρ, S => (ev e ρ S).bind fun w S => (evs es ρ S).bind fun ws S => .ok (w :: ws) S
noncomputable def evo : Option E → Env → Sto → Out (Option Int)
  | none, _, S => .ok none S
  | some e, ρ, S => (ev e ρ S).bind fun x S => (match x with
    | .int i => .ok (some i) S
    | _ => .bad)
noncomputable def evc : Option E → Env → Sto → Out D
  | none, _, S => .ok (.bool true) S
  | some e, ρ, S => ev e ρ S
noncomputable def evi : I → Env → Sto → Out Wk
  | .seq e, ρ, S => (ev e ρ S).bind fun x S => (match itemsD S x with
    | some w => .ok w S
    | none => .bad)
  | .range e, ρ, S => (ev e ρ S).bind fun x S => (match x with
    | .int i => if -bigD / 4 ≤ i ∧ i < bigD / 4 then .ok ⟨rangeL i, [], false⟩ S else .bad
    | _ => .bad)
  | .enum e, ρ, S => (ev e ρ S).bind fun x S => (match seqD S x with
    | some ds => .ok ⟨enumL 0 ds, heldD x ds, true⟩ S
    | none => .bad)
  | .zip a b, ρ, S => (ev a ρ S).bind fun x S => (ev b ρ S).bind fun y S => (match seqD S x, seqD S y with
    | some xs, some ys => if kdX x = kdX y then .ok ⟨zipL xs ys, heldD x xs ++ heldD y ys, true⟩ S else .bad
    | _, _ => .bad)
end
/-! ### statements -/
inductive SOut where
  | next (ρ : Env) (S : Sto)
  | ret (d : D) (S : Sto)
  | exc (x : Xn) (S : Sto)
  | bad
def SOut.seq (r : SOut) (f : Env → Sto → SOut) : SOut := match r with
  | .next ρ S => f ρ S
  | r => r
@[simp] theorem SOut.seq_next (ρ : Env) (S : Sto) (f : Env → Sto → SOut) : (SOut.next ρ S).seq f = f ρ S := rfl
@[simp] theorem SOut.seq_ret (d : D) (S : Sto) (f : Env → Sto → SOut) : (SOut.ret d S).seq f = .ret d S := rfl
@[simp] theorem SOut.seq_exc (x : Xn) (S : Sto) (f : Env → Sto → SOut) : (SOut.exc x S).seq f = .exc x S := rfl
@[simp] theorem SOut.seq_bad (f : Env → Sto → SOut) : SOut.bad.seq f = .bad := rfl
def Out.st {α : Type} (r : Out α) (f : α → Sto → SOut) : SOut := match r with
  | .ok a S => f a S
  | .exc x S => .exc x S
  | .bad => .bad
@[simp] theorem Out.st_ok {α : Type} (a : α) (S : Sto) (f : α → Sto → SOut) : (Out.ok a S).st f = f a S := rfl
@[simp] theorem Out.st_exc {α : Type} (x : Xn) (S : Sto) (f : α → Sto → SOut) : (Out.exc x S : Out α).st f = .exc x S := rfl
@[simp] theorem Out.st_bad {α : Type} (f : α → Sto → SOut) : (Out.bad : Out α).st f = .bad := rfl
def setD (S : Sto) (x y d : D) : Option Sto := match asRef x, y with
  | some i, .int k => (objL S i).bind fun xs => (L2.ixN xs.length k).map fun j => S.set i (.lst (xs.set j d))
  | _, _ => none
def setF (S : Sto) (x : D) (c f : Str) (d : D) : Option Sto := (asRef x).bind fun i => (insD S i).bind fun p => if p.1 = c ∧ p.2.length < 900 then some (S.set i (.ins p.1 (putF f d p.2))) else none
mutual
noncomputable def asg : T → D → Env → Sto → SOut
  | .name i, d, ρ, S => if i < ρ.length then .next (ρ.set i (some d)) S else .bad
  | .tup ts, .tuple ds, ρ, S => if ts.length = ds.length then asgs ts ds ρ S else .bad
  | .tup _, _, _, _ => .bad
  | .sub o i, d, ρ, S => (ev G gi o ρ S).st fun x S => (ev G gi i ρ S).st fun y S => (match setD S x y d with
    | some S => .next ρ S
    | none => .bad)
  | .fld o c f, d, ρ, S => (ev G gi o ρ S).st fun x S => (match setF S x c f d with
    | some S => .next ρ S
    | none => .bad)
noncomputable def asgs : List T → List D → Env → Sto → SOut
  | [], [], ρ, S => .next ρ S
  | t :: ts, d :: ds, ρ, S => (asg t d ρ S).seq fun ρ S => asgs ts ds ρ S
  | _, _, _, _ => .bad
end
/-- the turns of a for -/
noncomputable def forL (ok : Sto → Prop) (put : D → Env → Option Env) (body : Env → Sto → SOut) : List D → Env → Sto → SOut
  | [], ρ, S => open Classical in if ok S then .next ρ S else .bad
  | d :: ds, ρ, S => open Classical in if ok S then (match put d ρ with
    | none => .bad
    | some ρ => (body ρ S).seq fun ρ S => forL ok put body ds ρ S) else .bad
/-- a while, so many turns at most -/
def whileL (cond : Env → Sto → Out D) (body : Env → Sto → SOut) : Nat → Env → Sto → SOut
  | 0, _, _ => .bad
  | n + 1, ρ, S => (cond ρ S).st fun x S => match x with
    | .bool true => (body ρ S).seq fun ρ S => whileL cond body n ρ S
    | .bool false => .next ρ S
    | _ => .bad
def wfuel : Nat := 100000
mutual
noncomputable def ex : St → Env → Sto → SOut
  | .asg t e, ρ, S => (ev G gi e ρ S).st fun d S => asg G gi t d ρ S
  | .expr e, ρ, S => (ev G gi e ρ S).st fun _ S => .next ρ S
  | .ret e, ρ, S => (ev G gi e ρ S).st fun d S => .ret d S
  | .retN, _, S => .ret .none S
  | .ite c a b, ρ, S => (ev G gi c ρ S).st fun x S => (match x with
    | .bool true => exs a ρ S
    | .bool false => exs b ρ S
    | _ => .bad)
  | .for_ tg it body, ρ, S => (evi G gi it ρ S).st fun w S => if (w.pr && isNm tg) = true then .bad else forL w.ok (putT tg) (fun ρ S => exs body ρ S) w.items ρ S
  | .while_ c body, ρ, S => whileL (fun ρ S => ev G gi c ρ S) (fun ρ S => exs body ρ S) wfuel ρ S
  | .raise c es, ρ, S => (evs G gi es ρ S).st fun _ S => .exc ⟨c, none⟩ S
  | .tryN body handler, ρ, S => (match exs body ρ S with
    | .exc _ S => exs handler (ρ.map fun _ => none) S
    | r => r)
  | .pass, ρ, S => .next ρ S
  | .never, _, _ => .bad
noncomputable def exs : List St → Env → Sto → SOut
  | [], ρ, S => .next ρ S
  | s :: r, ρ, S => (ex s ρ S).seq fun ρ S => exs r ρ S
end
end
/-! ### defs -/
inductive Md where | keep | trunc | pure
  deriving DecidableEq
structure Fn where
  np : Nat
  nn : Nat
  md : Md := .pure
  body : List St
mutual
/-- the numbers of objects in d are below n -/
def refB (n : Nat) : D → Bool
  | .list xs | .tuple xs => refBs n xs
  | .dict [(.none, .int (.ofNat i))] => decide (i < n)
  | .dict [(.none, .list xs)] => refBs n xs
  | _ => true
def refBs (n : Nat) : List D → Bool
  | [] => true
  | x :: r => refB n x && refBs n r
end
def refO (n : Nat) : O → Bool
  | .lst xs => refBs n xs
  | .ins _ fs => fs.all fun p => refB n p.2
noncomputable def fin (m : Md) (S : Sto) (d : D) (S' : Sto) : Out D := open Classical in match m with
  | .keep => .ok d S'
  | .trunc => if S.length ≤ S'.length ∧ refB S.length d = true ∧ (S'.take S.length).all (refO S.length) = true then .ok d (S'.take S.length) else .bad
  | .pure => if S'.take S.length = S ∧ refB S.length d = true then .ok d S else .bad
noncomputable def runF (G : Calls) (gi : Str → Option Int) (F : Fn) (ws : List D) (S : Sto) : Out D :=
  if ws.length = F.np then (match exs G gi F.body (ws.map some ++ List.replicate (F.nn - F.np) none) S with
    | .next _ S' => fin F.md S .none S'
    | .ret d S' => fin F.md S d S'
    | .exc x S' => .exc x S'
    | .bad => .bad) else .bad
noncomputable def callS (gi : Str → Option Int) (fns : Str → Option Fn) : Nat → Calls
  | 0, _, _, _ => .bad
  | n + 1, f, ws, S => match fns f with
    | some F => runF (callS gi fns n) gi F ws S
    | none => .bad
end PL
end

section
set_option Elab.async false
set_option linter.all false
set_option maxRecDepth 100000
/-! PLB: data against the layer's values and heap. -/
namespace PL
open PySem L2
/-- the addresses of the objects, by number; others that no value tells -/
structure Ma where
  n : List Addr
  f : List Addr
  k : PySem.W.Frag
instance : Membership Addr Ma := ⟨fun M a => a ∈ M.n ∨ a ∈ M.f⟩
theorem Ma.mem_iff {M : Ma} {a : Addr} : a ∈ M ↔ a ∈ M.n ∨ a ∈ M.f := Iff.rfl
def Ma.push (M : Ma) (p : Addr) : Ma := ⟨M.n ++ [p], M.f, M.k⟩
def Ma.add (M : Ma) (p : Addr) : Ma := ⟨M.n, p :: M.f, M.k⟩
def Ma.cut (M : Ma) (k : Nat) : Ma := ⟨M.n.take k, M.f, M.k⟩
/-- a tuple whose object is known: no dict hangs on it -/
def TupF (H : Hp) (a : Addr) (vs : List V) : Prop := ∃ o, H a = some (.frz o (.tup vs)) ∧ o.dict = none
theorem TupF.sq {K : PySem.W.Frag} {H : Hp} {a : Addr} {vs : List V} (h : TupF H a vs) : SqT K H a vs := by
  obtain ⟨o, h, _⟩ := h
  exact .inl (.inr ⟨o, h⟩)
/-- the script's list: kept by itself, or one of the text's own -/
def ScrAt (M : Ma) (H : Hp) (a : Addr) (vs : List V) : Prop := (∃ o, H a = some (.frz o (.lst vs)) ∧ a ∉ M) ∨ ∀ H' : Hp, SqL M.k H' a vs
theorem ScrAt.sq {M : Ma} {H : Hp} {a : Addr} {vs : List V} (h : ScrAt M H a vs) : SqL M.k H a vs := by
  rcases h with ⟨o, h, _⟩ | h
  · exact .inl (.inr ⟨o, h⟩)
  · exact h H
mutual
inductive Rv (M : Ma) (H : Hp) : D → V → Prop
  | non : Rv M H .none .non
  | bl (b : Bool) : Rv M H (.bool b) (.bl b)
  | int (i : Int) : Rv M H (.int i) (.int i)
  | str (x : Str) : Rv M H (.str x) (.str x)
  | tup {a : Addr} {vs : List V} {ds : List D} : TupF H a vs → a ∉ M → Rvs M H ds vs → Rv M H (.tuple ds) (.ref a)
  | lst {a : Addr} {vs : List V} {ds : List D} : H a = some (.lst vs) → a ∉ M → Rvs M H ds vs → Rv M H (.list ds) (.ref a)
  | scr {a : Addr} {vs : List V} {ds : List D} : ScrAt M H a vs → Rvs M H ds vs → Rv M H (.dict [(.none, .list ds)]) (.ref a)
  | dct {a : Addr} {kvs : List (D × D)} {ks : List (Int × Int)} : kvs = ks.map (fun p => (.int p.1, .int p.2)) → H a = some (.dK (ks.map fun p => (.inl p.1, .int p.2))) → a ∉ M → Rv M H (.dict kvs) (.ref a)
  | ref {i : Nat} {a : Addr} : M.n[i]? = some a → Rv M H (.dict [(.none, .int (.ofNat i))]) (.ref a)
inductive Rvs (M : Ma) (H : Hp) : List D → List V → Prop
  | nil : Rvs M H [] []
  | cons {d : D} {ds : List D} {v : V} {vs : List V} : Rv M H d v → Rvs M H ds vs → Rvs M H (d :: ds) (v :: vs)
end
def Rfs (M : Ma) (H : Hp) : List (Str × D) → List (Str × V) → Prop := Paired fun p q => p.1 = q.1 ∧ Rv M H p.2 q.2
def Ro (CA : Str → Addr) (M : Ma) (H : Hp) (a : Addr) : O → Prop
  | .lst ds => ∃ vs, H a = some (.lst vs) ∧ Rvs M H ds vs
  | .ins c fs => ∃ dx vfs, H a = some (.ins (CA c) dx vfs) ∧ H dx = some (.own a) ∧ dx ∉ M ∧ Rfs M H fs vfs
structure Emb (T : List (Addr × Str)) (CA : Str → Addr) (KF : PySem.W.Frag) (M : Ma) (H : Hp) (S : Sto) : Prop where
  kf : M.k = KF
  len : M.n.length = S.length
  nd : M.n.Nodup
  df : ∀ a, a ∈ M.f → H a ≠ none ∧ a ∉ M.n
  ob : ∀ (i : Nat) (a : Addr) (o : O), M.n[i]? = some a → S[i]? = some o → Ro CA M H a o
  tb : LamX.Tabs T H
structure ExtW (M : Ma) (H : Hp) (M' : Ma) (H' : Hp) : Prop where
  pre : (∃ N, M'.n = M.n ++ N) ∧ M'.k = M.k
  sub : ∀ a, a ∈ M.f → a ∈ M'.f
  keep : ∀ a o, H a = some o → a ∉ M → (∀ ps, o ≠ .tbl ps) → H' a = some o
  dom : ∀ a, H a ≠ none → H' a ≠ none
  new : ∀ a, a ∈ M' → a ∉ M → H a = none
structure Ext (M : Ma) (H : Hp) (M' : Ma) (H' : Hp) : Prop extends ExtW M H M' H' where
  kf : ∀ a o, H a = some o → a ∈ M.f → H' a = some o
section
variable {T : List (Addr × Str)} {CA : Str → Addr} {KF : PySem.W.Frag} {M M' M'' : Ma} {H H' H'' : Hp} {S S' : Sto} {a p : Addr} {o : HO} {d : D} {v : V} {ds : List D} {vs : List V}
theorem Ext.refl : Ext M H M H := ⟨⟨⟨⟨[], by simp⟩, rfl⟩, fun _ h => h, fun _ _ h _ _ => h, fun _ h => h, fun _ h n => absurd h n⟩, fun _ _ h _ => h⟩
theorem Ext.mem (e : Ext M H M' H') (h : a ∈ M) : a ∈ M' := by
  obtain ⟨N, hN⟩ := e.pre.1
  rcases h with h | h
  · exact .inl (by rw [hN]; exact List.mem_append_left _ h)
  · exact .inr (e.sub a h)
theorem Ext.trans (e : Ext M H M' H') (e' : Ext M' H' M'' H'') : Ext M H M'' H'' := by
  obtain ⟨N, hN⟩ := e.pre.1
  obtain ⟨N', hN'⟩ := e'.pre.1
  refine ⟨⟨⟨⟨N ++ N', by rw [hN', hN, List.append_assoc]⟩, e'.pre.2.trans e.pre.2⟩, fun a h => e'.sub a (e.sub a h), fun a o h n t => ?_, fun a h => e'.dom a (e.dom a h), fun a h n => ?_⟩, fun a o h n => e'.kf a o (e.kf a o h n) (e.sub a n)⟩
  · refine e'.keep a o (e.keep a o h n t) (fun z => ?_) t
    rw [e.new a z n] at h; cases h
  · by_cases z : a ∈ M'
    · exact e.new a z n
    · have h1 := e'.new a h z
      cases q : H a with
      | none => rfl
      | some o => exact absurd h1 (e.dom a (by rw [q]; exact fun z => nomatch z))
theorem ExtW.at (e : ExtW M H M' H') {i : Nat} (h : M.n[i]? = some a) : M'.n[i]? = some a := by
  obtain ⟨N, hN⟩ := e.pre.1
  rw [hN, List.getElem?_append_left (by exact (List.getElem?_eq_some_iff.mp h).1)]
  exact h
theorem Ext.at (e : Ext M H M' H') {i : Nat} (h : M.n[i]? = some a) : M'.n[i]? = some a := e.toExtW.at h
theorem ExtW.out (e : ExtW M H M' H') (h : H a = some o) (n : a ∉ M) : a ∉ M' := fun z => by
  rw [e.new a z n] at h; cases h
theorem Ext.out (e : Ext M H M' H') (h : H a = some o) (n : a ∉ M) : a ∉ M' := e.toExtW.out h n
/-- a new object -/
theorem Ext.alloc (h : H p = none) : Ext M H M (upd H p o) := by
  refine ⟨⟨⟨⟨[], by simp⟩, rfl⟩, fun _ h => h, fun a u e _ _ => ?_, fun a e => ?_, fun _ h n => absurd h n⟩, fun a u e _ => ?_⟩
  · rw [upd_ne (ne_of_none e h)]; exact e
  · by_cases z : a = p
    · rw [z, upd_same]; exact fun q => nomatch q
    · rw [upd_ne z]; exact e
  · rw [upd_ne (ne_of_none e h)]; exact e
theorem Ext.allocM (h : H p = none) : Ext M H (M.push p) (upd H p o) := by
  refine ⟨⟨⟨⟨[p], rfl⟩, rfl⟩, fun _ h => h, (Ext.alloc (M := M) (o := o) h).keep, (Ext.alloc (M := M) (o := o) h).dom, fun a z n => ?_⟩, (Ext.alloc (M := M) (o := o) h).kf⟩
  rcases z with z | z
  · rcases List.mem_append.mp z with z | z
    · exact absurd (.inl z) n
    · rw [List.mem_singleton.mp z]; exact h
  · exact absurd (.inr z) n
theorem ExtW.mut (h : a ∈ M) : ExtW M H M (upd H a o) := by
  refine ⟨⟨⟨[], by simp⟩, rfl⟩, fun _ h => h, fun b u e n _ => ?_, fun b e => ?_, fun _ h n => absurd h n⟩
  · rw [upd_ne (fun z : b = a => n (by rw [z]; exact h))]; exact e
  · by_cases z : b = a
    · rw [z, upd_same]; exact fun q => nomatch q
    · rw [upd_ne z]; exact e
theorem Ext.mut (h : a ∈ M) (n : a ∉ M.f) : Ext M H M (upd H a o) :=
  ⟨ExtW.mut h, fun b u e hb => by rw [upd_ne (fun z : b = a => n (z ▸ hb))]; exact e⟩
/-- what was not there at the start may be changed -/
theorem Ext.updN (e : Ext M H M' H') (h : H p = none) : Ext M H M' (upd H' p o) := by
  refine ⟨⟨e.pre, e.sub, fun a u q n t => ?_, fun a q => ?_, e.new⟩, fun a u q n => ?_⟩
  · rw [upd_ne (ne_of_none q h)]; exact e.keep a u q n t
  · by_cases z : a = p
    · rw [z, upd_same]; exact fun q => nomatch q
    · rw [upd_ne z]; exact e.dom a q
  · rw [upd_ne (ne_of_none q h)]; exact e.kf a u q n
theorem Ma.add_no {M : Ma} {a q : Addr} (h : a ∉ M) (n : a ≠ q) : a ∉ M.add q := fun z => by
  rcases z with z | z
  · exact h (.inl z)
  · rcases List.mem_cons.mp z with z | z
    · exact n z
    · exact h (.inr z)
theorem ScrAt.mono (e : ExtW M H M' H') (h : ScrAt M H a vs) : ScrAt M' H' a vs := by
  rcases h with ⟨o, h, n⟩ | h
  · exact .inl ⟨o, e.keep _ _ h n (fun _ z => nomatch z), e.out h n⟩
  · exact .inr fun H' => by rw [e.pre.2]; exact h H'
theorem ScrAt.sub {M' : Ma} (h : ScrAt M H a vs) (k : M'.k = M.k) (n : a ∉ M → a ∉ M') : ScrAt M' H a vs := by
  rcases h with ⟨o, h, m⟩ | h
  · exact .inl ⟨o, h, n m⟩
  · exact .inr fun H' => by rw [k]; exact h H'
theorem TupF.mono (e : ExtW M H M' H') (h : TupF H a vs) (n : a ∉ M) : TupF H' a vs := by
  obtain ⟨o, h, q⟩ := h
  exact ⟨o, e.keep _ _ h n (fun _ z => nomatch z), q⟩
theorem TupF.out (e : ExtW M H M' H') (h : TupF H a vs) (n : a ∉ M) : a ∉ M' := by
  obtain ⟨o, h, q⟩ := h
  exact e.out h n
theorem TupF.new {H : Hp} {a : Addr} {vs : List V} {o : Obj} (h : o.dict = none) : TupF (upd H a (.frz o (.tup vs))) a vs := ⟨o, upd_same, h⟩
mutual
theorem Rv.monoW (e : ExtW M H M' H') : ∀ {d : D} {v : V}, Rv M H d v → Rv M' H' d v
  | _, _, .non => .non
  | _, _, .bl b => .bl b
  | _, _, .int i => .int i
  | _, _, .str x => .str x
  | _, _, .tup h n r => .tup (h.mono e n) (h.out e n) (Rvs.monoW e r)
  | _, _, .lst h n r => .lst (e.keep _ _ h n fun _ z => nomatch z) (e.out h n) (Rvs.monoW e r)
  | _, _, .scr h r => .scr (h.mono e) (Rvs.monoW e r)
  | _, _, .dct q h n => .dct q (e.keep _ _ h n fun _ z => nomatch z) (e.out h n)
  | _, _, .ref h => .ref (e.at h)
theorem Rvs.monoW (e : ExtW M H M' H') : ∀ {ds : List D} {vs : List V}, Rvs M H ds vs → Rvs M' H' ds vs
  | _, _, .nil => .nil
  | _, _, .cons r t => .cons (Rv.monoW e r) (Rvs.monoW e t)
end
theorem Rv.mono (e : Ext M H M' H') {d : D} {v : V} (h : Rv M H d v) : Rv M' H' d v := h.monoW e.toExtW
theorem Rvs.mono (e : Ext M H M' H') {ds : List D} {vs : List V} (h : Rvs M H ds vs) : Rvs M' H' ds vs := h.monoW e.toExtW
theorem Rvs.length : ∀ {ds : List D} {vs : List V}, Rvs M H ds vs → ds.length = vs.length
  | _, _, .nil => rfl
  | _, _, .cons _ t => by simp [Rvs.length t]
theorem Rvs.append : ∀ {ds es : List D} {vs ws : List V}, Rvs M H ds vs → Rvs M H es ws → Rvs M H (ds ++ es) (vs ++ ws)
  | _, _, _, _, .nil, s => s
  | _, _, _, _, .cons r t, s => .cons r (Rvs.append t s)
theorem Rvs.get : ∀ {ds : List D} {vs : List V} {i : Nat} {v : V}, Rvs M H ds vs → vs[i]? = some v → ∃ d, ds[i]? = some d ∧ Rv M H d v
  | _, _, _, _, .nil, h => by simp at h
  | _, _, 0, _, .cons r _, h => by simp at h; subst h; exact ⟨_, rfl, r⟩
  | _, _, i + 1, _, .cons _ t, h => by
    obtain ⟨d, h1, h2⟩ := Rvs.get (i := i) t (by simpa using h)
    exact ⟨d, by simpa using h1, h2⟩
theorem Rvs.get' : ∀ {ds : List D} {vs : List V} {i : Nat} {d : D}, Rvs M H ds vs → ds[i]? = some d → ∃ v, vs[i]? = some v ∧ Rv M H d v
  | _, _, _, _, .nil, h => by simp at h
  | _, _, 0, _, .cons r _, h => by simp at h; subst h; exact ⟨_, rfl, r⟩
  | _, _, i + 1, _, .cons _ t, h => by
    obtain ⟨d, h1, h2⟩ := Rvs.get' (i := i) t (by simpa using h)
    exact ⟨d, by simpa using h1, h2⟩
theorem Rvs.take : ∀ {ds : List D} {vs : List V} (n : Nat), Rvs M H ds vs → Rvs M H (ds.take n) (vs.take n)
  | _, _, 0, _ => .nil
  | _, _, _ + 1, .nil => .nil
  | _, _, n + 1, .cons r t => .cons r (Rvs.take n t)
theorem Rvs.drop : ∀ {ds : List D} {vs : List V} (n : Nat), Rvs M H ds vs → Rvs M H (ds.drop n) (vs.drop n)
  | _, _, 0, r => r
  | _, _, _ + 1, .nil => .nil
  | _, _, n + 1, .cons _ t => Rvs.drop n t
theorem Rvs.set : ∀ {ds : List D} {vs : List V} {d : D} {v : V} (n : Nat), Rvs M H ds vs → Rv M H d v → Rvs M H (ds.set n d) (vs.set n v)
  | _, _, _, _, _, .nil, _ => .nil
  | _, _, _, _, 0, .cons _ t, r => .cons r t
  | _, _, _, _, n + 1, .cons q t, r => .cons q (Rvs.set n t r)
theorem Rvs.reverse {ds : List D} {vs : List V} (h : Rvs M H ds vs) : Rvs M H ds.reverse vs.reverse := by
  induction ds generalizing vs with
  | nil => cases h; exact .nil
  | cons d ds ih => cases h with | cons r t => rw [List.reverse_cons, List.reverse_cons]; exact (ih t).append (.cons r .nil)
theorem Rvs.flatten_rep {ds : List D} {vs : List V} (h : Rvs M H ds vs) : ∀ n, Rvs M H (List.replicate n ds).flatten (List.replicate n vs).flatten
  | 0 => .nil
  | n + 1 => by rw [List.replicate_succ, List.replicate_succ, List.flatten_cons, List.flatten_cons]; exact h.append (Rvs.flatten_rep h n)
theorem Rfs.monoW (e : ExtW M H M' H') {fs : List (Str × D)} {vfs : List (Str × V)} (h : Rfs M H fs vfs) : Rfs M' H' fs vfs :=
  Paired.mapP h fun _ _ q => ⟨q.1, Rv.monoW e q.2⟩
theorem Rfs.mono (e : Ext M H M' H') {fs : List (Str × D)} {vfs : List (Str × V)} (h : Rfs M H fs vfs) : Rfs M' H' fs vfs := h.monoW e.toExtW
theorem Ro.monoW (e : ExtW M H M' H') (q : H' a = H a) {u : O} (h : Ro CA M H a u) : Ro CA M' H' a u := by
  cases u with
  | lst ds => obtain ⟨vs, h1, h2⟩ := h; exact ⟨vs, q.trans h1, h2.monoW e⟩
  | ins c fs =>
    obtain ⟨dx, vfs, h1, h2, h3, h4⟩ := h
    exact ⟨dx, vfs, q.trans h1, e.keep _ _ h2 h3 (fun _ z => nomatch z), e.out h2 h3, h4.monoW e⟩
theorem Ro.mono (e : Ext M H M' H') (q : H' a = H a) {u : O} (h : Ro CA M H a u) : Ro CA M' H' a u := h.monoW e.toExtW q
theorem Ro.some {u : O} (h : Ro CA M H a u) : ∃ o, H a = some o ∧ ∀ ps, o ≠ .tbl ps := by
  cases u with
  | lst ds => obtain ⟨vs, h1, _⟩ := h; exact ⟨_, h1, fun _ z => nomatch z⟩
  | ins c fs => obtain ⟨dx, vfs, h1, _⟩ := h; exact ⟨_, h1, fun _ z => nomatch z⟩
theorem Emb.has (e : Emb T CA KF M H S) (h : a ∈ M.n) : ∃ (i : Nat) (u : O), M.n[i]? = some a ∧ S[i]? = some u ∧ Ro CA M H a u := by
  obtain ⟨i, hi, q⟩ := List.mem_iff_getElem.mp h
  have h1 : M.n[i]? = some a := by rw [List.getElem?_eq_getElem hi, q]
  have hs : i < S.length := by rw [← e.len]; exact hi
  exact ⟨i, S[i], h1, List.getElem?_eq_getElem hs, e.ob i a _ h1 (List.getElem?_eq_getElem hs)⟩
theorem Emb.no (e : Emb T CA KF M H S) (h : H a = none) : a ∉ M := fun z => by
  rcases z with z | z
  · obtain ⟨_, _, _, _, r⟩ := e.has z
    obtain ⟨o, q, _⟩ := r.some
    rw [h] at q; cases q
  · exact (e.df a z).1 h
theorem Emb.alloc (e : Emb T CA KF M H S) (h : H p = none) : Emb T CA KF M (upd H p o) S := by
  have x : Ext M H M (upd H p o) := Ext.alloc h
  refine ⟨e.kf, e.len, e.nd, fun a ha => ⟨x.dom a (e.df a ha).1, (e.df a ha).2⟩, fun i a u h1 h2 => (e.ob i a u h1 h2).mono x ?_, e.tb.ext fun b u q => by rw [upd_ne (ne_of_none q h)]; exact q⟩
  obtain ⟨o', q, _⟩ := (e.ob i a u h1 h2).some
  rw [upd_ne (ne_of_none q h)]
theorem Emb.allocM {u : O} (e : Emb T CA KF M H S) (h : H p = none) (r : Ro CA (M.push p) (upd H p o) p u) : Emb T CA KF (M.push p) (upd H p o) (S ++ [u]) := by
  have x : Ext M H (M.push p) (upd H p o) := Ext.allocM h
  have ml : (M.push p).n = M.n ++ [p] := rfl
  refine ⟨e.kf, by simp [ml, e.len], by
    rw [ml]
    refine List.nodup_append.mpr ⟨e.nd, by simp, fun a ha b hb => ?_⟩
    rw [List.mem_singleton.mp hb]
    exact fun z => e.no h (.inl (z ▸ ha)), fun a ha => ⟨x.dom a (e.df a ha).1, fun z => ?_⟩, fun i a w h1 h2 => ?_, e.tb.ext fun b u q => by rw [upd_ne (ne_of_none q h)]; exact q⟩
  · rw [ml] at z
    rcases List.mem_append.mp z with z | z
    · exact (e.df a ha).2 z
    · exact (e.df a ha).1 (by rw [List.mem_singleton.mp z]; exact h)
  · rw [ml] at h1
    by_cases hi : i < M.n.length
    · rw [List.getElem?_append_left hi] at h1
      rw [List.getElem?_append_left (by rw [← e.len]; exact hi)] at h2
      refine (e.ob i a w h1 h2).mono x ?_
      obtain ⟨o', q, _⟩ := (e.ob i a w h1 h2).some
      rw [upd_ne (ne_of_none q h)]
    · have hl := (List.getElem?_eq_some_iff.mp h1).1
      simp at hl
      have hi' : i = M.n.length := by omega
      subst hi'
      simp at h1
      rw [e.len] at h2
      simp at h2
      subst h1 h2
      exact r
theorem Emb.mut {u : O} {i : Nat} (e : Emb T CA KF M H S) (h : M.n[i]? = some a) (hi : i < S.length) (r : Ro CA M (upd H a o) a u) (ht : ∀ ps, H a ≠ some (.tbl ps)) : Emb T CA KF M (upd H a o) (S.set i u) := by
  have hn : a ∈ M.n := List.mem_of_getElem? h
  have hm : a ∈ M := .inl hn
  have x : Ext M H M (upd H a o) := Ext.mut hm fun z => (e.df a z).2 hn
  refine ⟨e.kf, by simp [e.len], e.nd, fun a ha => ⟨x.dom a (e.df a ha).1, (e.df a ha).2⟩, fun j b w h1 h2 => ?_, fun p hp => ?_⟩
  · by_cases hj : j = i
    · subst hj
      rw [h] at h1; cases h1
      rw [List.getElem?_set_self hi] at h2; cases h2
      exact r
    · rw [List.getElem?_set_ne (Ne.symm hj)] at h2
      refine (e.ob j b w h1 h2).mono x ?_
      refine upd_ne fun z => hj ?_
      subst z
      have l1 := (List.getElem?_eq_some_iff.mp h1)
      have l2 := (List.getElem?_eq_some_iff.mp h)
      exact (List.getElem_inj e.nd).mp (l1.2.trans l2.2.symm)
  · obtain ⟨ps, h1, h2, h3⟩ := e.tb p hp
    refine ⟨ps, by rw [upd_ne (fun z : p.1 = a => ht ps (by rw [← z]; exact h1))]; exact h1, h2, fun pos cv hc => ?_⟩
    obtain ⟨c, e1, e2⟩ := h3 pos cv hc
    refine ⟨c, e1, ?_⟩
    rw [upd_ne ?_]
    · exact e2
    · rintro rfl
      obtain ⟨j, w, q1, q2, q3⟩ := e.has hn
      cases w with
      | lst ds => obtain ⟨vs, z, _⟩ := q3; rw [e2] at z; cases z
      | ins c fs => obtain ⟨dx, vfs, z, _⟩ := q3; rw [e2] at z; cases z
/-! ### the local names -/
structure Renv (M : Ma) (H : Hp) (ρ : Env) (σ : L2.St) : Prop where
  len : ρ.length = σ.length
  at_ : ∀ (i : Nat) (d : D), ρ[i]? = some (some d) → ∃ v, σ[i]? = some (some v) ∧ Rv M H d v
theorem Renv.mono {ρ : Env} {σ : L2.St} (r : Renv M H ρ σ) (e : Ext M H M' H') : Renv M' H' ρ σ :=
  ⟨r.len, fun i d h => let ⟨v, h1, h2⟩ := r.at_ i d h; ⟨v, h1, h2.mono e⟩⟩
theorem Renv.set {ρ : Env} {σ : L2.St} (r : Renv M H ρ σ) (i : Nat) (q : Rv M H d v) : Renv M H (ρ.set i (some d)) (σ.set i (some v)) := by
  refine ⟨by simp [r.len], fun j w h => ?_⟩
  by_cases hj : j = i
  · subst hj
    have hl : j < ρ.length := by
      have := (List.getElem?_eq_some_iff.mp h).1; simpa using this
    rw [List.getElem?_set_self hl] at h
    cases h
    exact ⟨v, List.getElem?_set_self (by rw [← r.len]; exact hl), q⟩
  · rw [List.getElem?_set_ne (Ne.symm hj)] at h
    obtain ⟨v', h1, h2⟩ := r.at_ j w h
    exact ⟨v', by rw [List.getElem?_set_ne (Ne.symm hj)]; exact h1, h2⟩
theorem Renv.setN {ρ : Env} {σ : L2.St} (r : Renv M H ρ σ) (i : Nat) (x : Option V) : Renv M H (ρ.set i none) (σ.set i x) := by
  refine ⟨by simp [r.len], fun j w h => ?_⟩
  by_cases hj : j = i
  · subst hj
    have hl : j < ρ.length := by
      have := (List.getElem?_eq_some_iff.mp h).1; simpa using this
    rw [List.getElem?_set_self hl] at h
    cases h
  · rw [List.getElem?_set_ne (Ne.symm hj)] at h
    obtain ⟨v', h1, h2⟩ := r.at_ j w h
    exact ⟨v', by rw [List.getElem?_set_ne (Ne.symm hj)]; exact h1, h2⟩
theorem Renv.wipe {ρ : Env} {σ : L2.St} (r : Renv M H ρ σ) : ∀ l : List Nat, Renv M H (PL.wipe ρ l) (L2.wipe σ l)
  | [] => r
  | v :: vs => (Renv.wipe r vs).setN v none
theorem Renv.unk {ρ : Env} {σ : L2.St} (h : ρ.length = σ.length) (hn : ∀ x ∈ ρ, x = Option.none) : Renv M H ρ σ :=
  ⟨h, fun i d q => by have := hn _ (List.mem_of_getElem? q); cases this⟩
/-! ### what is read -/
theorem Rvs.ints : ∀ {ds : List D} {vs : List V} {ns : List Int}, Rvs M H ds vs → intsOf ds = some ns → vs = ns.map V.int
  | _, _, _, .nil, h => by cases h; rfl
  | .int i :: _, _, ns, .cons r t, h => by
    cases r
    unfold intsOf at h
    cases q : intsOf _ with
    | none => rw [q] at h; cases h
    | some l => rw [q] at h; cases h; rw [List.map_cons, Rvs.ints t q]
  | .none :: _, _, _, .cons _ _, h => by cases h
  | .bool _ :: _, _, _, .cons _ _, h => by cases h
  | .str _ :: _, _, _, .cons _ _, h => by cases h
  | .list _ :: _, _, _, .cons _ _, h => by cases h
  | .tuple _ :: _, _, _, .cons _ _, h => by cases h
  | .dict _ :: _, _, _, .cons _ _, h => by cases h
theorem Rvs.bools : ∀ {ds : List D} {vs : List V} {ns : List Bool}, Rvs M H ds vs → boolsOf ds = some ns → vs = ns.map V.bl
  | _, _, _, .nil, h => by cases h; rfl
  | .bool i :: _, _, ns, .cons r t, h => by
    cases r
    unfold boolsOf at h
    cases q : boolsOf _ with
    | none => rw [q] at h; cases h
    | some l => rw [q] at h; cases h; rw [List.map_cons, Rvs.bools t q]
  | .none :: _, _, _, .cons _ _, h => by cases h
  | .int _ :: _, _, _, .cons _ _, h => by cases h
  | .str _ :: _, _, _, .cons _ _, h => by cases h
  | .list _ :: _, _, _, .cons _ _, h => by cases h
  | .tuple _ :: _, _, _, .cons _ _, h => by cases h
  | .dict _ :: _, _, _, .cons _ _, h => by cases h
theorem Rvs.strs : ∀ {ds : List D} {vs : List V} {ns : List Str}, Rvs M H ds vs → strsOf ds = some ns → vs = ns.map V.str
  | _, _, _, .nil, h => by cases h; rfl
  | .str i :: _, _, ns, .cons r t, h => by
    cases r
    unfold strsOf at h
    cases q : strsOf _ with
    | none => rw [q] at h; cases h
    | some l => rw [q] at h; cases h; rw [List.map_cons, Rvs.strs t q]
  | .none :: _, _, _, .cons _ _, h => by cases h
  | .int _ :: _, _, _, .cons _ _, h => by cases h
  | .bool _ :: _, _, _, .cons _ _, h => by cases h
  | .list _ :: _, _, _, .cons _ _, h => by cases h
  | .tuple _ :: _, _, _, .cons _ _, h => by cases h
  | .dict _ :: _, _, _, .cons _ _, h => by cases h
/-- a list's value -/
theorem Emb.lst (e : Emb T CA KF M H S) {xs : List D} (h : lstD S d = some xs) (r : Rv M H d v) : ∃ a vs, v = .ref a ∧ H a = some (.lst vs) ∧ Rvs M H xs vs := by
  rcases lstD_some h with rfl | ⟨i, rfl, hs⟩
  · cases r with
    | lst h1 n q => exact ⟨_, _, rfl, h1, q⟩
  · cases r with
    | ref hm => obtain ⟨vs, h1, h2⟩ := e.ob i _ _ hm hs; exact ⟨_, vs, rfl, h1, h2⟩
    | dct q _ _ =>
      rename_i ks _ _
      cases ks with
      | nil => cases q
      | cons k ks => simp at q
theorem Rv.tupI (r : Rv M H (.tuple ds) v) : ∃ a vs, v = .ref a ∧ TupF H a vs ∧ a ∉ M ∧ Rvs M H ds vs := by
  cases r with
  | tup h n q => exact ⟨_, _, rfl, h, n, q⟩
theorem Emb.seq (e : Emb T CA KF M H S) {xs : List D} (h : seqD S d = some xs) (r : Rv M H d v) : ∃ a vs, v = .ref a ∧ (H a = some (.lst vs) ∨ TupF H a vs) ∧ Rvs M H xs vs := by
  rcases seqD_some h with rfl | h1
  · obtain ⟨a, vs, rfl, h1, _, q⟩ := r.tupI
    exact ⟨a, vs, rfl, .inr h1, q⟩
  · have h2 : lstD S d = some xs := by
      rcases h1 with rfl | ⟨i, rfl, hs⟩
      · rfl
      · rw [lstD_rf]; exact objL_of hs
    obtain ⟨a, vs, rfl, h3, q⟩ := e.lst h2 r
    exact ⟨a, vs, rfl, .inl h3, q⟩
theorem Rv.scrI {ds : List D} (r : Rv M H (PL.scr ds) v) : ∃ a vs, v = .ref a ∧ SqL M.k H a vs ∧ Rvs M H ds vs := by
  unfold PL.scr at r
  cases r with
  | scr h q => exact ⟨_, _, rfl, h.sq, q⟩
  | dct q _ _ =>
    rename_i ks _ _
    cases ks with
    | nil => cases q
    | cons k ks => simp at q
theorem Rv.refI {i : Nat} (r : Rv M H (rf i) v) : ∃ a, v = .ref a ∧ M.n[i]? = some a := by
  unfold rf at r
  cases r with
  | ref h => exact ⟨_, rfl, h⟩
  | dct q _ _ =>
    rename_i ks _ _
    cases ks with
    | nil => cases q
    | cons k ks => simp at q
theorem Emb.ins (e : Emb T CA KF M H S) {i : Nat} {c : Str} {fs : List (Str × D)} (h : insD S i = some (c, fs)) (r : Rv M H (rf i) v) :
    ∃ a dx vfs, v = .ref a ∧ M.n[i]? = some a ∧ H a = some (.ins (CA c) dx vfs) ∧ H dx = some (.own a) ∧ dx ∉ M ∧ Rfs M H fs vfs := by
  obtain ⟨a, rfl, hm⟩ := r.refI
  obtain ⟨dx, vfs, h1, h2, h3, h4⟩ := e.ob i a _ hm (insD_some h)
  exact ⟨a, dx, vfs, rfl, hm, h1, h2, h3, h4⟩
theorem Rfs.lookup {fs : List (Str × D)} {vfs : List (Str × V)} {f : Str} (h : Rfs M H fs vfs) : (∀ d, fs.lookup f = some d → ∃ v, vfs.lookup f = some v ∧ Rv M H d v) ∧ (fs.lookup f = none → vfs.lookup f = none) := by
  induction fs generalizing vfs with
  | nil =>
    cases h
    exact ⟨(fun d z => nomatch z), (fun _ => rfl)⟩
  | cons p fs ih =>
    cases h with
    | cons q t =>
      obtain ⟨g, d⟩ := p
      rename_i w _
      obtain ⟨g', v⟩ := w
      obtain ⟨q1, q2⟩ := q
      have q1' : g = g' := q1
      subst q1'
      simp only [List.lookup_cons]
      split
      · exact ⟨(fun d' z => by cases z; exact ⟨v, rfl, q2⟩), (fun z => nomatch z)⟩
      · exact ih t
theorem Rfs.put {fs : List (Str × D)} {vfs : List (Str × V)} (h : Rfs M H fs vfs) {f : Str} (q : Rv M H d v) : Rfs M H (PL.putF f d fs) (L2.putF f v vfs) := by
  induction fs generalizing vfs with
  | nil => cases h; exact .cons ⟨rfl, q⟩ .nil
  | cons p fs ih =>
    cases h with
    | cons q' t =>
      obtain ⟨g, e⟩ := p
      rename_i w _
      obtain ⟨g', v'⟩ := w
      obtain ⟨q1, q2⟩ := q'
      have q1' : g = g' := q1
      subst q1'
      unfold PL.putF L2.putF
      split
      · exact .cons ⟨rfl, q⟩ t
      · exact .cons ⟨rfl, q2⟩ (ih t)
theorem Rfs.length {fs : List (Str × D)} {vfs : List (Str × V)} (h : Rfs M H fs vfs) : fs.length = vfs.length := Paired.length h
/-! ### data without objects' numbers, against the layer's own relation -/
mutual
theorem Rv.dp {K : PySem.W.Frag} : ∀ {d : D} {v : V}, Rv M H d v → d.plain = true → Dp K H v d
  | _, _, .non, _ => .non
  | _, _, .bl b, _ => .bl b
  | _, _, .int i, _ => .int i
  | _, _, .str x, _ => .str x
  | _, _, .tup h n r, p => .tup h.sq (Rvs.dp r (by simpa [PyData.plain] using p))
  | _, _, .lst h n r, p => .lst (SqL.of h) (Rvs.dp r (by simpa [PyData.plain] using p))
  | _, _, .scr h r, p => by simp [PyData.plain] at p
  | _, _, .dct q h n, p => by simp [PyData.plain] at p
  | _, _, .ref h, p => by simp [PyData.plain] at p
theorem Rvs.dp {K : PySem.W.Frag} : ∀ {ds : List D} {vs : List V}, Rvs M H ds vs → PyData.plainAll ds = true → DpAll K H vs ds
  | _, _, .nil, _ => .nil
  | _, _, .cons r t, p => by
    simp only [PyData.plainAll, Bool.and_eq_true] at p
    exact .cons (Rv.dp r p.1) (Rvs.dp t p.2)
end
/-- a list object told as its list -/
theorem Emb.val (e : Emb T CA KF M H S) {K : PySem.W.Frag} (r : Rv M H d v) (p : (PL.val S d).plain = true) : Dp K H v (PL.val S d) := by
  unfold PL.val at p ⊢
  cases q : lstD S d with
  | none => rw [q] at p; exact r.dp p
  | some xs =>
    rw [q] at p
    obtain ⟨a, vs, rfl, h1, h2⟩ := e.lst q r
    exact .lst (SqL.of h1) (h2.dp (by simpa [PyData.plain] using p))
/-! ### leaving out the objects from n on -/
theorem Ma.cut_mem {M : Ma} {n : Nat} {a : Addr} (h : a ∈ M.cut n) : a ∈ M := by
  rcases h with h | h
  · exact .inl (List.mem_of_mem_take h)
  · exact .inr h
mutual
theorem Rv.cut {n : Nat} : ∀ {d : D} {v : V}, Rv M H d v → refB n d = true → Rv (M.cut n) H d v
  | _, _, .non, _ => .non
  | _, _, .bl b, _ => .bl b
  | _, _, .int i, _ => .int i
  | _, _, .str x, _ => .str x
  | _, _, .tup h m r, p => .tup h (fun z => m (Ma.cut_mem z)) (Rvs.cut r (by simpa [refB] using p))
  | _, _, .lst h m r, p => .lst h (fun z => m (Ma.cut_mem z)) (Rvs.cut r (by simpa [refB] using p))
  | _, _, .scr h r, p => .scr (h.sub rfl fun m z => m (Ma.cut_mem z)) (Rvs.cut r (by unfold refB at p; exact p))
  | _, _, .dct q h m, p => .dct q h (fun z => m (Ma.cut_mem z))
  | _, _, @Rv.ref _ _ i a h, p => .ref (by
    have hi : i < n := by unfold refB at p; exact of_decide_eq_true p
    show (M.n.take n)[i]? = _
    rw [List.getElem?_take_of_lt hi]; exact h)
theorem Rvs.cut {n : Nat} : ∀ {ds : List D} {vs : List V}, Rvs M H ds vs → refBs n ds = true → Rvs (M.cut n) H ds vs
  | _, _, .nil, _ => .nil
  | _, _, .cons r t, p => by
    simp only [refBs, Bool.and_eq_true] at p
    exact .cons (Rv.cut r p.1) (Rvs.cut t p.2)
end
/-! ### an object that no value tells, for a while -/
def Ma.del (M : Ma) (q : Addr) : Ma := ⟨M.n, M.f.filter fun a => decide (a ≠ q), M.k⟩
theorem Ma.del_no {M : Ma} {a q : Addr} (h : a ∉ M) : a ∉ M.del q := fun z => h (z.elim .inl fun z => .inr (List.mem_filter.mp z).1)
theorem Ma.del_yes {M : Ma} {a q : Addr} (h : a ∈ M) (n : a ≠ q) : a ∈ M.del q := h.elim .inl fun z => .inr (List.mem_filter.mpr ⟨z, by simpa using n⟩)
theorem Ma.ne_of {M : Ma} {a q : Addr} (h : a ∉ M) (hq : q ∈ M.f) : a ≠ q := fun z => h (.inr (by rw [z]; exact hq))
theorem Ext.inn {q : Addr} {o : HO} (hq : H q = none) : Ext M H (M.add q) (upd H q o) := by
  refine ⟨⟨⟨⟨[], by simp [Ma.add]⟩, rfl⟩, fun a h => List.mem_cons_of_mem _ h, (Ext.alloc (M := M) (o := o) hq).keep, (Ext.alloc (M := M) (o := o) hq).dom, fun a h n => ?_⟩, (Ext.alloc (M := M) (o := o) hq).kf⟩
  rcases h with h | h
  · exact absurd (.inl h) n
  · rcases List.mem_cons.mp h with z | z
    · rw [z]; exact hq
    · exact absurd (.inr z) n
mutual
theorem Rv.less {q : Addr} : ∀ {d : D} {v : V}, Rv M H d v → Rv (M.del q) H d v
  | _, _, .non => .non
  | _, _, .bl b => .bl b
  | _, _, .int i => .int i
  | _, _, .str x => .str x
  | _, _, .tup h m r => .tup h (Ma.del_no m) (Rvs.less r)
  | _, _, .lst h m r => .lst h (Ma.del_no m) (Rvs.less r)
  | _, _, .scr h r => .scr (h.sub rfl Ma.del_no) (Rvs.less r)
  | _, _, .dct e h m => .dct e h (Ma.del_no m)
  | _, _, .ref h => .ref h
theorem Rvs.less {q : Addr} : ∀ {ds : List D} {vs : List V}, Rvs M H ds vs → Rvs (M.del q) H ds vs
  | _, _, .nil => .nil
  | _, _, .cons r t => .cons (Rv.less r) (Rvs.less t)
end
theorem Emb.inn {q : Addr} {o : HO} (e : Emb T CA KF M H S) (hq : H q = none) : Emb T CA KF (M.add q) (upd H q o) S := by
  have x : Ext M H (M.add q) (upd H q o) := Ext.inn hq
  refine ⟨e.kf, e.len, e.nd, fun a ha => ?_, fun i a u h1 h2 => ?_, e.tb.ext fun b u p => by rw [upd_ne (ne_of_none p hq)]; exact p⟩
  · rcases List.mem_cons.mp ha with z | z
    · subst z
      exact ⟨by rw [upd_same]; exact (fun z => nomatch z), fun z => e.no hq (.inl z)⟩
    · exact ⟨x.dom a (e.df a z).1, (e.df a z).2⟩
  · refine (e.ob i a u h1 h2).mono x ?_
    obtain ⟨o', p, _⟩ := (e.ob i a u h1 h2).some
    rw [upd_ne (ne_of_none p hq)]
/-- the list is changed, still not told -/
theorem Emb.step {q : Addr} {xs ys : List V} (e : Emb T CA KF M H S) (hf : q ∈ M.f) (hq : H q = some (.lst xs)) : Emb T CA KF M (upd H q (.lst ys)) S := by
  have nq : ∀ a, a ∈ M.n → a ≠ q := fun a ha z => (e.df q hf).2 (z ▸ ha)
  have x : ExtW M H M (upd H q (.lst ys)) := ExtW.mut (.inr hf)
  refine ⟨e.kf, e.len, e.nd, fun a ha => ⟨x.dom a (e.df a ha).1, (e.df a ha).2⟩, fun i a u h1 h2 => (e.ob i a u h1 h2).monoW x (upd_ne (nq a (List.mem_of_getElem? h1))), fun p hp => ?_⟩
  obtain ⟨ps, h1, h2, h3⟩ := e.tb p hp
  refine ⟨ps, by rw [upd_ne (fun z : p.1 = q => by rw [z, hq] at h1; cases h1)]; exact h1, h2, fun pos cv hcv => ?_⟩
  obtain ⟨c, e1, e2⟩ := h3 pos cv hcv
  exact ⟨c, e1, by rw [upd_ne (fun z : c = q => by rw [z, hq] at e2; cases e2)]; exact e2⟩
theorem Emb.outw {q : Addr} (e : Emb T CA KF M H S) (hf : q ∈ M.f) : Emb T CA KF (M.del q) H S := by
  refine ⟨e.kf, e.len, e.nd, fun a ha => e.df a (List.mem_filter.mp ha).1, fun i a u h1 h2 => ?_, e.tb⟩
  have r := e.ob i a u h1 h2
  cases u with
  | lst ds => obtain ⟨vs, g1, g2⟩ := r; exact ⟨vs, g1, g2.less⟩
  | ins c fs =>
    obtain ⟨dx, vfs, g1, g2, g3, g4⟩ := r
    exact ⟨dx, vfs, g1, g2, Ma.del_no g3, Paired.mapP g4 fun _ _ p => ⟨p.1, p.2.less⟩⟩
/-- what was done the while, told from outside -/
theorem Ext.outw {q : Addr} (em : Emb T CA KF M H S) (e : Ext M H M' H') (hq : H q = none) : Ext M H (M'.del q) H' := by
  refine ⟨⟨e.pre, fun a h => ?_, e.keep, e.dom, fun a h n => e.new a ?_ n⟩, e.kf⟩
  · refine List.mem_filter.mpr ⟨e.sub a h, ?_⟩
    have : a ≠ q := fun z => (em.df a h).1 (z ▸ hq)
    simpa using this
  · rcases h with h | h
    · exact .inl h
    · exact .inr (List.mem_filter.mp h).1
end
end PL
end

section
set_option Elab.async false
set_option linter.all false
set_option maxRecDepth 100000
set_option maxHeartbeats 1000000
/-! PLC: what is wanted of an evaluation; the rules of the layer met by the evaluator's steps. -/
namespace PL
open PySem L2
structure Pg where
  prog : Program
  w : World
  K : PySem.W.Frag
  mg : Str → Option Value
  base : Heap
  T : List (Addr × Str)
  CA : Str → Addr
  gi : Str → Option Int
  XA : Xn → Value → Option Addr → Hp → Prop
abbrev ZX := Xn → Sto → Ma → Hp → Prop
abbrev Pg.Emb (P : Pg) (M : Ma) (H : Hp) (S : Sto) : Prop := PL.Emb P.T P.CA P.K M H S
/-- what is known statically of a block: its names by slot, its scope, the names whose cells are its own -/
structure Ga where
  N : List Str
  sc : Scope
  fn : Str → Bool
structure Fit (P : Pg) (Γ : Ga) (X : Cx) : Prop where
  prog : X.prog = P.prog
  w : X.w = P.w
  K : X.K = P.K
  mg : X.mg = P.mg
  base : X.base = P.base
  N : X.N = Γ.N
  nd : Γ.N.Nodup
  sc : X.env.scope = Γ.sc
  kind : Γ.sc.kind = .function
  fn : X.fn = Γ.fn
  calm : X.calm = true
  guards : X.A.guards = some []
  hd : X.A.handled = none
  units : X.A.units + 150 < cLine
/-- what must hold of an outcome so that Q follows (Z: of an exception) -/
def Res {α β : Type} (P : Pg) (R : Ma → Hp → α → β → Prop) (M : Ma) (H : Hp) (r : Out α) (Q : β → Hp → Prop) (Z : ZX) : Prop := match r with
  | .ok d S' => ∀ M' H' v, Ext M H M' H' → P.Emb M' H' S' → R M' H' d v → Q v H'
  | .exc x S' => ∀ M' H', Ext M H M' H' → P.Emb M' H' S' → Z x S' M' H'
  | .bad => False
section
variable {P : Pg} {α β γ δ : Type} {R : Ma → Hp → α → β → Prop} {R' : Ma → Hp → γ → δ → Prop} {M : Ma} {H : Hp} {Z : ZX}
theorem Res.bind {r : Out α} {f : α → Sto → Out γ} {Q : δ → Hp → Prop} (h : Res P R' M H (r.bind f) Q Z) :
    Res P R M H r (fun v H' => ∃ M' S' d, Ext M H M' H' ∧ P.Emb M' H' S' ∧ R M' H' d v ∧ Res P R' M' H' (f d S') Q Z) Z := by
  cases r with
  | ok d S' =>
    intro M' H' v e em rv
    refine ⟨M', S', d, e, em, rv, ?_⟩
    have h : Res P R' M H (f d S') Q Z := h
    revert h
    cases f d S' with
    | ok d2 S2 => exact fun h M2 H2 v2 e2 em2 r2 => h M2 H2 v2 (e.trans e2) em2 r2
    | exc x S2 => exact fun h M2 H2 e2 em2 => h M2 H2 (e.trans e2) em2
    | bad => exact fun h => h
  | exc x S' => exact h
  | bad => exact h
theorem Res.mono {r : Out α} {Q Q' : β → Hp → Prop} (h : Res P R M H r Q Z) (q : ∀ v H', Q v H' → Q' v H') : Res P R M H r Q' Z := by
  cases r with
  | ok d S' => exact fun M' H' v e em rv => q _ _ (h M' H' v e em rv)
  | exc x S' => exact h
  | bad => exact h
theorem Res.ok {d : α} {S : Sto} {v : β} {Q : β → Hp → Prop} (h : Res P R M H (.ok d S) Q Z) (em : P.Emb M H S) (r : R M H d v) : Q v H := h M H v Ext.refl em r
theorem Res.ext {r : Out α} {M' : Ma} {H' : Hp} {Q : β → Hp → Prop} (h : Res P R M H r Q Z) (e : Ext M H M' H') : Res P R M' H' r Q Z := by
  cases r with
  | ok d S' => exact fun M2 H2 v e2 em rv => h M2 H2 v (e.trans e2) em rv
  | exc x S' => exact fun M2 H2 e2 em => h M2 H2 (e.trans e2) em
  | bad => exact h
theorem Res.okE {d : α} {S : Sto} {v : β} {M' : Ma} {H' : Hp} {Q : β → Hp → Prop} (h : Res P R M H (.ok d S) Q Z) (e : Ext M H M' H') (em : P.Emb M' H' S) (r : R M' H' d v) : Q v H' := h M' H' v e em r
end
/-- an optional whole number -/
def Ro? : Ma → Hp → Option Int → Option Int → Prop := fun _ _ d v => v = d
abbrev PE' := TE
section
variable (P : Pg) (G : Calls) (Z : ZX)
def tE (m : E) : TE := fun σ H Q => ∃ M S ρ, P.Emb M H S ∧ Renv M H ρ σ ∧ Res P Rv M H (ev G P.gi m ρ S) Q Z
def tEs (ms : List E) : TA := fun σ H Q => ∃ M S ρ, P.Emb M H S ∧ Renv M H ρ σ ∧ Res P Rvs M H (evs G P.gi ms ρ S) Q Z
def tEo (m : Option E) : TO := fun σ H Q => ∃ M S ρ, P.Emb M H S ∧ Renv M H ρ σ ∧ Res P Ro? M H (evo G P.gi m ρ S) Q Z
def tT (m : E) : TT := fun σ H Q => tE P G Z m σ H fun v H' => ∃ b, v = .bl b ∧ Q b H'
end
theorem PE.imp {X : Cx} {e : Expr} {t t' : TE} (h : PE X e t) (i : ∀ σ H Q, t' σ H Q → t σ H Q) : PE X e t' := ⟨fun pins s σ H Q I q => h.run pins s σ H Q I (i σ H Q q)⟩
theorem PT.imp {X : Cx} {e : Expr} {t t' : TT} (h : PT X e t) (i : ∀ σ H Q, t' σ H Q → t σ H Q) : PT X e t' := ⟨fun pins s σ H Q I q => h.run pins s σ H Q I (i σ H Q q)⟩
theorem PA.imp {X : Cx} {e : List Expr} {t t' : TA} (h : PA X e t) (i : ∀ σ H Q, t' σ H Q → t σ H Q) : PA X e t' := ⟨fun pos pins s σ H Q I q => h.run pos pins s σ H Q I (i σ H Q q)⟩
theorem PO.imp {X : Cx} {e : Option Expr} {t t' : TO} (h : PO X e t) (i : ∀ σ H Q, t' σ H Q → t σ H Q) : PO X e t' := ⟨fun pins s σ H Q I q => h.run pins s σ H Q I (i σ H Q q)⟩
theorem PS.imp {X : Cx} {e : Stmt} {t t' : TS} (h : PS X e t) (i : ∀ D σ H, t' D σ H → t D σ H) : PS X e t' := ⟨fun pins s σ H D I q => h.run pins s σ H D I (i D σ H q)⟩
theorem PSs.imp {X : Cx} {e : List Stmt} {t t' : TS} (h : PSs X e t) (i : ∀ D σ H, t' D σ H → t D σ H) : PSs X e t' := ⟨fun pins s σ H D I q => h.run pins s σ H D I (i D σ H q)⟩
/-! ### an operation by values: what it asks, as an outcome -/
/-- one value -/
def r1 (P : Pg) (Z : ZX) (f : D → Sto → Out D) : V → Hp → VK → Prop := fun x H Q => ∃ M S d, P.Emb M H S ∧ Rv M H d x ∧ Res P Rv M H (f d S) Q Z
def r2 (P : Pg) (Z : ZX) (f : D → D → Sto → Out D) : R2 := fun x y H Q => ∃ M S d e, P.Emb M H S ∧ Rv M H d x ∧ Rv M H e y ∧ Res P Rv M H (f d e S) Q Z
def rs (P : Pg) (Z : ZX) (f : List D → Sto → Out D) : List V → Hp → VK → Prop := fun xs H Q => ∃ M S ds, P.Emb M H S ∧ Rvs M H ds xs ∧ Res P Rv M H (f ds S) Q Z
/-- a value known to be of the data d: the continuation -/
theorem Res.oret {P : Pg} {M : Ma} {H : Hp} {Z : ZX} {o : Option D} {S : Sto} {Q : VK} (h : Res P Rv M H (PL.oret o S) Q Z) : ∃ d, o = some d ∧ Res P Rv M H (.ok d S) Q Z := by
  cases o with
  | none => exact h.elim
  | some d => exact ⟨d, rfl, h⟩
/-- a new list, by value or as an object -/
theorem Res.alloc {P : Pg} {M : Ma} {H : Hp} {Z : ZX} {r : Bool} {xs : List D} {S : Sto} {Q : VK} (h : Res P Rv M H (allocL r xs S) Q Z) :
    xs.length ≤ lim ∧ ∀ M' H' p vs, Ext M H M' H' → P.Emb M' H' S → Rvs M' H' xs vs → H' p = none → Q (.ref p) (upd H' p (.lst vs)) := by
  unfold allocL at h
  by_cases hl : xs.length ≤ lim
  · rw [if_pos hl] at h
    refine ⟨hl, fun M' H' p vs e em rv hp => ?_⟩
    cases r with
    | true =>
      rw [if_pos rfl] at h
      have e2 : Ext M' H' (M'.push p) (upd H' p (.lst vs)) := Ext.allocM hp
      refine h (M'.push p) _ _ (e.trans e2) (em.allocM hp ⟨vs, upd_same, rv.mono e2⟩) ?_
      refine .ref ?_
      rw [← em.len]
      show (M'.n ++ [p])[M'.n.length]? = some p
      simp
    | false =>
      rw [if_neg (by decide)] at h
      have e2 : Ext M' H' M' (upd H' p (.lst vs)) := Ext.alloc hp
      exact h M' _ _ (e.trans e2) (em.alloc hp) (.lst upd_same (em.no hp) (rv.mono e2))
  · rw [if_neg hl] at h
    exact h.elim
theorem lim_eq : lim = sizeLine := by decide
/-- a new tuple -/
theorem Res.tuple {P : Pg} {M : Ma} {H : Hp} {Z : ZX} {xs : List D} {S : Sto} {Q : VK} (h : Res P Rv M H (.ok (.tuple xs) S) Q Z) {M' : Ma} {H' : Hp} {p : Addr} {vs : List V} {o : Obj} (e : Ext M H M' H') (em : P.Emb M' H' S) (rv : Rvs M' H' xs vs) (hp : H' p = none) (ho : o.dict = none) :
    Q (.ref p) (upd H' p (.frz o (.tup vs))) := by
  have e2 : Ext M' H' M' (upd H' p (.frz o (.tup vs))) := Ext.alloc hp
  exact h M' _ _ (e.trans e2) (em.alloc hp) (.tup (TupF.new ho) (em.no hp) (rv.mono e2))
/-- the object of a new tuple -/
def tupO (its : List Value) : Obj := { cls := .type "tuple", data := .seq its.toArray }
theorem newTup {X : Cx} {pins : List (Addr × Obj)} {s : Shared} {σ : L2.St} {H : Hp} {vs : List V} {its : List Value} {t' : Nat} (I : L2.Inv X pins σ H s) (r : Vals vs its) (hz : vs.length ≤ sizeLine) :
    L2.Inv X pins σ (upd H s.heap.objs.size (.frz (tupO its) (.tup vs))) { s with heap := s.heap.push (tupO its), toks := t' } :=
  I.laid (fun _ _ e => Heap.get?_push_of_some _ e) (Nat.le_refl _) ⟨Heap.get?_push_size _ rfl, hz, its, r, ⟨_, Heap.get?_push_size _ rfl, rfl, _, rfl⟩⟩
end PL
end

section
set_option Elab.async false
set_option linter.all false
set_option maxRecDepth 100000
set_option maxHeartbeats 1000000
/-! PLD: operators, comparisons, subscripts by values. -/
namespace PL
open PySem PySem.Spec PyProof.Rows L2
theorem tuple_mulOne (l : Addr) (items : Array Value) (n : Nat) (dd : Option Addr) (sl : Array (Option Value)) (u : Tok) :
    Meets (Builtin.«tuple.__mul__» ⟨[.ref l, .int 1 u], []⟩) (fun _ R s => s.heap.get? l = some { cls := .type "tuple", dict := dd, data := .seq items n, slots := sl } ∧ R (.ok (.ret (Value.ref l))) s) :=
  .of_wp fun prog w A R s h => by
    obtain ⟨hp, g, d, tk, os⟩ := s
    obtain ⟨hl, h⟩ := h
    have f1 := AutoSeq1.idx_int
    have c0 : (decide ((1 : Int) < -(2 ^ 63)) || decide ((1 : Int) ≥ 2 ^ 63)) = false := by decide
    have c1 : (items.isEmpty || (1 : Int) == 1) = true := by simp
    wp_walk using wpAny_loadPart' hl
    repeat (first
      | (refine wpAny_ite_false (decide_eq_false (by rw [c0]; exact Bool.false_ne_true)) ?_; wp_walk using wpAny_loadPart' hl)
      | (refine wpAny_ite_true (decide_eq_true c1) ?_; wp_walk using wpAny_loadPart' hl))
    exact ⟨_, rfl, h⟩
theorem op_repOne {X : Cx} : OpR X (binaryOp .Mult) (fun x y H Q => ∃ l xs, x = .ref l ∧ y = .int 1 ∧ SqT X.K H l xs ∧ Q (.ref l) H) := by
  intro pins s σ H x y v u Q I rx ry h
  obtain ⟨l, xs, rfl, rfl, hT, q⟩ := h
  cases rx
  obtain ⟨t, rfl⟩ := ry
  obtain ⟨its, r, ⟨⟨cls, dd, data, sl⟩, ho, hc, n, hd⟩, hs⟩ := I.tuple hT
  simp only at hc hd
  subst hc hd
  refine wpAny_binaryOp_repeat_ref (T := "tuple") (U := "int") (by decide) ⟨_, ho, rfl⟩ (fun s' => typeIs_int s' 1 t) noFill_tuple_mul F.fills_int_mul F.slot_int_rmul repeat_tuple F.slot_int_index.lookup
    (call_meets F.slot_int_rmul (typeIs_int s 1 t) F.entry_int_rmul (F.args_int_rmul_2 _ _) (int_rmul_tuple 1 t l its.toArray n dd sl)
      ⟨ho, rfl, ⟨_, ho, rfl⟩, call_meets F.slot_tuple_mul ⟨_, ho, rfl⟩ F.entry_tuple_mul (F.args_tuple_mul_2 _ _) (tuple_mulOne l its.toArray n dd sl t) ⟨ho, ?_⟩⟩)
  exact ⟨.ref l, H, I, rfl, q⟩
/-! ### new tuples, their objects known -/
section
variable {X : Cx}
theorem op_catF : OpR X (binaryOp .Add) (fun x y H Q => ∃ a b xs ys, x = .ref a ∧ y = .ref b ∧ SqT X.K H a xs ∧ SqT X.K H b ys ∧ xs.length + ys.length ≤ sizeLine ∧
    (xs = [] → Q (.ref b) H) ∧ (xs ≠ [] → ys = [] → Q (.ref a) H) ∧ (xs ≠ [] → ys ≠ [] → ∀ p o, H p = none → o.dict = none → Q (.ref p) (upd H p (.frz o (.tup (xs ++ ys)))))) := by
  intro pins s σ H x y v u Q I rx ry h
  obtain ⟨a, b, xs, ys, rfl, rfl, ha, hb, hz, q0, q1, q2⟩ := h
  cases rx
  cases ry
  obtain ⟨its, r1, p1, _⟩ := I.tuple ha
  obtain ⟨its2, r2, p2, _⟩ := I.tuple hb
  by_cases hx : xs = []
  · subst hx
    cases r1
    exact cat_tup0 p1 p2 ⟨.ref b, H, I, rfl, q0 rfl⟩
  · refine HT.cat_tup p1 p2 (fun z => hx (r1.nil_iff.mp z)) (fun z => ⟨.ref a, H, I, rfl, q1 hx (r2.nil_iff.mp z)⟩) (fun z => ?_) (by rw [← r1.length, ← r2.length]; exact hz)
    exact ⟨.ref s.heap.objs.size, _, newTup (t' := s.toks) I (r1.append r2) (by rw [List.length_append]; exact hz), rfl, q2 hx (fun w => z (r2.nil_iff.mpr w)) _ _ (I.hok.fresh (Nat.le_refl _)) rfl⟩
theorem sl_tupF : SlR X (fun x lo hi H Q => ∃ a xs, x = .ref a ∧ SqT X.K H a xs ∧
    (HT.sIx xs.length 0 lo = 0 ∧ HT.sIx xs.length xs.length hi = xs.length → Q (.ref a) H) ∧ (∀ p o, H p = none → o.dict = none → Q (.ref p) (upd H p (.frz o (.tup (cutV xs lo hi)))))) := by
  intro pins s σ H x v vl vu lo hi sl Q I rx hs pl pu h
  obtain ⟨a, xs, rfl, hx, q1, q2⟩ := h
  cases rx
  obtain ⟨its, r, ht, hz⟩ := I.tuple hx
  have hlen : its.toArray.size = xs.length := by rw [List.size_toArray]; exact r.length.symm
  refine ⟨"tuple", _, PyProof.Rows.slot_tuple_getitem.lookup, ht.typeIs, ?_⟩
  by_cases hw : HT.sIx xs.length 0 lo = 0 ∧ HT.sIx xs.length xs.length hi = xs.length
  · exact getItem_tuple_whole ht hs pl pu (by rw [hlen]; exact hw) ⟨.ref a, H, I, rfl, q1 hw⟩
  · refine HT.getItem_tuple_cut ht hs pl pu (by rw [hlen]; exact hw) ?_ (by rw [hlen]; exact hz)
    rw [hlen]
    exact ⟨.ref s.heap.objs.size, _, newTup (t' := s.toks) I ((r.drop (HT.sIx xs.length 0 lo)).take (HT.sIx xs.length xs.length hi - HT.sIx xs.length 0 lo)) (Nat.le_trans (cutV_length xs lo hi) hz), rfl, q2 _ _ (I.hok.fresh (Nat.le_refl _)) rfl⟩
theorem tuple_ofF : CallR X (.type "tuple") (fun xs H Q => ∃ p ys, xs = [.ref p] ∧ ((SqL X.K H p ys ∧ ∀ l o, H l = none → o.dict = none → Q (.ref l) (upd H l (.frz o (.tup ys)))) ∨ (SqT X.K H p ys ∧ Q (.ref p) H))) := by
  intro pins s σ H xs us Q I r h
  obtain ⟨p, ys, rfl, h⟩ := h
  obtain ⟨u, rfl, rx⟩ := vals1 r
  cases rx
  rcases h with ⟨hq, q⟩ | ⟨hq, q⟩
  · obtain ⟨its, r', pl, hz⟩ := I.list hq
    have hlen := r'.length
    refine call_tuple_list pl.isList (fun h' kp => ?_) (by simp only [List.size_toArray] <;> omega)
    have I1 : L2.Inv X pins σ H { s with heap := h' } := I.kept (t' := s.toks) kp
    exact ⟨.ref h'.objs.size, _, newTup (t' := s.toks) I1 r' hz, rfl, q _ _ (I1.hok.fresh (Nat.le_refl _)) rfl⟩
  · obtain ⟨its, r', pl, hz⟩ := I.tuple hq
    exact call_tuple_same pl ⟨.ref p, H, I, rfl, q⟩
theorem divmodF : CallR X (.builtin "divmod") (fun xs H Q => ∃ i j, xs = [.int i, .int j] ∧ CDiv i j ∧ ∀ p o, H p = none → o.dict = none → Q (.ref p) (upd H p (.frz o (.tup [.int (i / j), .int (i % j)])))) := by
  intro pins s σ H xs us Q I r h
  obtain ⟨i, j, rfl, ⟨h1, h2⟩, q⟩ := h
  obtain ⟨u, w', rfl, ⟨t, rfl⟩, ⟨t', rfl⟩⟩ := vals2 r
  refine divmod_int (by omega) ?_ (.inl (PyProof.noPylong_small (by omega)))
  rw [Int.fdiv_eq_ediv_of_nonneg i (by omega), Int.fmod_eq_emod_of_nonneg i (by omega)]
  have hn : H s.heap.objs.size = none := I.hok.fresh (Nat.le_refl _)
  exact ⟨.ref s.heap.objs.size, _, newTup I (vs := [.int (i / j), .int (i % j)]) (its := [.int (i / j) s.toks, .int (i % j) (s.toks + 1)]) (.cons ⟨_, rfl⟩ (.cons ⟨_, rfl⟩ .nil)) (by simp only [List.length_cons, List.length_nil]; rw [sizeLine_eq]; decide), rfl, q _ _ hn rfl⟩
theorem op_repF : OpR X (binaryOp .Mult) (fun x y H Q => ∃ l k xs, x = .ref l ∧ y = .int k ∧ SqT X.K H l xs ∧ xs ≠ [] ∧ 2 ≤ k ∧ k ≤ 1000 ∧ xs.length ≤ 1000 ∧ ∀ p o, H p = none → o.dict = none → Q (.ref p) (upd H p (.frz o (.tup (List.replicate k.toNat xs).flatten)))) := by
  intro pins s σ H x y v u Q I rx ry h
  obtain ⟨l, k, xs, rfl, rfl, hT, hne, h1, h2, hz, q⟩ := h
  cases rx
  obtain ⟨t, rfl⟩ := ry
  obtain ⟨its, r, ⟨⟨cls, dd, data, sl⟩, ho, hc, n, hd⟩, hs⟩ := I.tuple hT
  simp only at hc hd
  subst hc hd
  have hle : its.length = xs.length := r.length.symm
  have hn : its ≠ [] := fun e => hne (by
    rw [e] at hle
    exact List.eq_nil_of_length_eq_zero hle.symm)
  have hi : its.toArray.isEmpty = false := by
    cases its with
    | nil => exact absurd rfl hn
    | cons a b => rfl
  have hsz0 : its.toArray.size = xs.length := by rw [List.size_toArray, hle]
  have hm : ((its.toArray.size : Nat) : Int) * k ≤ 1000000 := by
    rw [hsz0]
    have a1 : ((xs.length : Nat) : Int) * k ≤ 1000 * k := Int.mul_le_mul_of_nonneg_right (by omega) (by omega)
    omega
  have fl : k.toNat * xs.length ≤ 1000 * 1000 := Nat.mul_le_mul (by omega) hz
  have flen : (List.replicate k.toNat its).flatten.length ≤ sizeLine := by
    rw [PyProof.Rows.lm_len_rep_flat, hle, sizeLine_eq]
    omega
  have c0 : (decide (k < -(2 ^ 63)) || decide (k ≥ 2 ^ 63)) = false := by
    rw [decide_eq_false (by omega), decide_eq_false (by omega)] <;> rfl
  have c1 : (its.toArray.isEmpty || k == 1) = false := by
    rw [hi, Bool.false_or]
    exact beq_eq_false_iff_ne.mpr (by omega)
  have c2 : (decide (k ≤ 0) || its.toArray.isEmpty) = false := by
    rw [hi, Bool.or_false]
    exact decide_eq_false (by omega)
  have c4 : Builtin.Tuple.tupleTooMany (((its.toArray.size : Nat) : Int) * k) = false := by
    unfold Builtin.Tuple.tupleTooMany
    rw [sizeLine_eq]
    exact decide_eq_false (by omega)
  refine wpAny_binaryOp_repeat_ref (T := "tuple") (U := "int") (by decide) ⟨_, ho, rfl⟩ (fun s' => typeIs_int s' k t) noFill_tuple_mul F.fills_int_mul F.slot_int_rmul repeat_tuple F.slot_int_index.lookup
    (call_meets F.slot_int_rmul (typeIs_int s k t) F.entry_int_rmul (F.args_int_rmul_2 _ _) (int_rmul_tuple k t l its.toArray n dd sl)
      ⟨ho, rfl, ⟨_, ho, rfl⟩, call_meets F.slot_tuple_mul ⟨_, ho, rfl⟩ F.entry_tuple_mul (F.args_tuple_mul_2 _ _) (tuple_mulW l its.toArray n dd sl k t c0 c1 c2 (by omega) c4 (by rw [size_rep, List.size_toArray]; exact flen)) ⟨ho, ?_⟩⟩)
  rw [size_rep]
  exact ⟨.ref s.heap.objs.size, _, newTup (t' := s.toks) I (r.rep k.toNat) (by rw [PyProof.Rows.lm_len_rep_flat, sizeLine_eq]; omega), rfl, q _ _ (I.hok.fresh (Nat.le_refl _)) rfl⟩
end
/-! ### a < b where the first difference decides; the items behind it are not asked -/
open SeqAt in
theorem tuple_ltF (l b : Addr) (items items2 : Array Value) (n n2 : Nat) (dd dd2 : Option Addr) (sl sl2 : Array (Option Value)) (e r : Nat → Bool) :
    Meets (Builtin.«tuple.__lt__» ⟨[.ref l, .ref b], []⟩)
      (fun A R s => s.heap.get? l = some { cls := .type "tuple", dict := dd, data := .seq items n, slots := sl } ∧ s.heap.get? b = some { cls := .type "tuple", dict := dd2, data := .seq items2 n2, slots := sl2 } ∧
        (∀ (j : Nat) (h1 : j < items.size) (h2 : j < items2.size), (∀ i, i < j → e i = true) → EqAt A.in1 s items[j] items2[j] (e j)) ∧ (∀ (j : Nat) (h1 : j < items.size) (h2 : j < items2.size), (∀ i, i < j → e i = true) → e j = false → RcLt A.in1 s items[j] items2[j] (r j)) ∧
        R (.ok (.ret (.bool (firstLt e r (decide (items.size < items2.size)) (List.range (min items.size items2.size)))))) s) :=
  .of_wp fun prog w A R s h => by
    obtain ⟨hp0, g0, d0, tk0, os0⟩ := s; obtain ⟨hl, hb, hE, hR0, hfin⟩ := h
    have f2 := AutoSeq1.sub_tuple_tuple
    have hZ : (items.toList.zip items2.toList).length = min items.size items2.size := by simp
    wp_walk using wpAny_loadPart' hl, wpAny_loadPart' hb, wpAny_forIn_list _ (fun rest b s' => b.1 = none ∧ s' = ⟨hp0, g0, d0, tk0, os0⟩ ∧ ∃ i, rest = (items.toList.zip items2.toList).drop i ∧ (∀ m, m < i → e m = true) ∧
      R (.ok (.ret (.bool (firstLt e r (decide (items.size < items2.size)) ((List.range (min items.size items2.size)).drop i))))) ⟨hp0, g0, d0, tk0, os0⟩) _
    case turn =>
      rintro ⟨y, x⟩ rest b s' ⟨hb', rfl, i, hz, hbef, hR⟩
      have hlt : i < (items.toList.zip items2.toList).length := by
        rcases Nat.lt_or_ge i (items.toList.zip items2.toList).length with q | q
        · exact q
        · rw [List.drop_of_length_le q] at hz; cases hz
      have hm : i < min items.size items2.size := hZ ▸ hlt
      have h1 : i < items.size := Nat.lt_of_lt_of_le hm (Nat.min_le_left _ _)
      have h2 : i < items2.size := Nat.lt_of_lt_of_le hm (Nat.min_le_right _ _)
      rw [List.drop_eq_getElem_cons hlt] at hz
      injection hz with hyx hrest
      have hy : y = items[i] := by have := congrArg Prod.fst hyx; simpa using this
      have hx : x = items2[i] := by have := congrArg Prod.snd hyx; simpa using this
      subst hy hx
      have hd : (List.range (min items.size items2.size)).drop i = i :: (List.range (min items.size items2.size)).drop (i + 1) := by simp [List.drop_eq_getElem_cons, hm]
      rw [hd] at hR
      refine wpAny_bind (hE i h1 h2 hbef prog w _ _ ?_)
      cases hy : e i with
      | true =>
        rw [firstLt_yes hy] at hR
        wp_walk
        refine ⟨rfl, rfl, i + 1, hrest, fun m hm' => ?_, hR⟩
        rcases Nat.lt_succ_iff_lt_or_eq.mp hm' with q | q
        · exact hbef m q
        · rw [q]; exact hy
      | false =>
        rw [firstLt_no hy] at hR
        have hq : ∀ (E : Value → Shared → Prop) (Q : Value → Shared → Prop), Q (.bool (r i)) ⟨hp0, g0, d0, tk0, os0⟩ → wpAny (model prog w) A.in1 (PySem.richCompare .Lt items[i] items2[i]) Q E ⟨hp0, g0, d0, tk0, os0⟩ := fun E Q z => hR0 i h1 h2 hbef hy prog w E Q z
        clear hR0 hE
        generalize PySem.richCompare .Lt items[i] items2[i] = rc at hq ⊢
        wp_walk
        refine hq _ _ ?_
        wp_walk
        exact ⟨_, rfl, hR⟩
    case fin =>
      rintro ⟨b1, b2⟩ s' ⟨hb', rfl, i, hz, hbef, hR⟩
      simp only at hb'
      subst hb'
      have hge : min items.size items2.size ≤ i := by
        rcases Nat.lt_or_ge i (items.toList.zip items2.toList).length with q | q
        · rw [List.drop_eq_getElem_cons q] at hz; cases hz
        · exact hZ ▸ q
      rw [List.drop_of_length_le (by simpa using hge)] at hR
      wp_walk
      exact ⟨_, rfl, by simpa [Builtin.Tuple.tupleCompareSizes, firstLt] using hR⟩
    case h =>
      exact ⟨rfl, rfl, 0, rfl, (fun m z => absurd z (Nat.not_lt_zero _)), by simpa using hfin⟩
open SeqAt in
theorem rcLt_tupF {A : Around} {s : Shared} {l b : Addr} {items items2 : Array Value} {e r : Nat → Bool} (hl : s.heap.IsTuple l items) (hb : s.heap.IsTuple b items2) (hu : A.units < cLine)
    (he : ∀ (j : Nat) (h1 : j < items.size) (h2 : j < items2.size), (∀ i, i < j → e i = true) → EqAt A.in1 s items[j] items2[j] (e j)) (hr : ∀ (j : Nat) (h1 : j < items.size) (h2 : j < items2.size), (∀ i, i < j → e i = true) → e j = false → RcLt A.in1 s items[j] items2[j] (r j)) :
    RcLt A s (.ref l) (.ref b) (firstLt e r (decide (items.size < items2.size)) (List.range (min items.size items2.size))) := fun prog w E Q h => by
  obtain ⟨⟨c1, dd, data, sl⟩, ho, hc, n, hd⟩ := id hl
  obtain ⟨⟨c2, dd2, data2, sl2⟩, ho2, hc2, n2, hd2⟩ := id hb
  simp only at hc hd hc2 hd2
  subst hc hd hc2 hd2
  exact richCompare_meets_room (op := .Lt) ⟨_, ho, rfl⟩ ⟨_, ho2, rfl⟩ F.slot_tuple_lt F.entry_tuple_lt (F.args_tuple_lt_2 _ _) (tuple_ltF l b items items2 n n2 dd dd2 sl sl2 e r)
    ⟨ho, ho2, he, hr, (fun x => nomatch x), h⟩ hu
section
variable {P : Pg} {Γ : Ga} {X : Cx} {Z : ZX}
theorem ifn {α : Type} {c : Prop} [Decidable c] {x : Option α} {y : α} (h : (if c then x else none) = some y) : c ∧ x = some y := by
  split at h
  · exact ⟨‹_›, h⟩
  · cases h
theorem big_eq : bigD = 2 ^ 64 := by decide
theorem o_int2 {f : Value → Value → Sem Value} {g : Int → Int → Option D} {r : R2} (h : OpR X f r)
    (i : ∀ (i j : Int) (w : D) (M : Ma) (H : Hp) (Q : VK), g i j = some w → (∀ v, Rv M H w v → Q v H) → r (.int i) (.int j) H Q) :
    OpR X f (r2 P Z fun x y S => oret (int2 g x y) S) := by
  intro pins s σ H x y v u Q I rx ry ⟨M, S, d, e, em, rd, re, h'⟩
  obtain ⟨w, ho, hk⟩ := h'.oret
  unfold int2 at ho
  split at ho
  · cases rd
    cases re
    exact h pins s σ H _ _ v u Q I rx ry (i _ _ w M H Q ho fun v r => hk.ok em r)
  · cases ho
theorem o_add : OpR X (binaryOp .Add) (r2 P Z fun x y S => oret (opD S .add x y) S) := by
  intro pins s σ H x y v u Q I rx ry ⟨M, S, d, e, em, rd, re, h⟩
  obtain ⟨w, ho, hk⟩ := h.oret
  change addD S d e = some w at ho
  unfold addD at ho
  split at ho
  · cases ho
    cases rd
    cases re
    exact op_add pins s σ H _ _ v u Q I rx ry ⟨_, _, rfl, rfl, hk.ok em (.int _)⟩
  · obtain ⟨c, ho⟩ := ifn ho
    cases ho
    cases rd
    cases re
    exact op_add_str pins s σ H _ _ v u Q I rx ry ⟨_, _, rfl, rfl, c, hk.ok em (.str _)⟩
  · obtain ⟨c, ho⟩ := ifn ho
    cases ho
    obtain ⟨a, vs, rfl, h1, n1, q1⟩ := rd.tupI
    obtain ⟨b, ws, rfl, h2, n2, q2⟩ := re.tupI
    refine op_catF pins s σ H _ _ v u Q I rx ry ⟨a, b, vs, ws, rfl, rfl, h1.sq, h2.sq, by rw [← q1.length, ← q2.length]; exact c, fun z => ?_, fun z1 z2 => ?_, fun z1 z2 p o hp ho => ?_⟩
    · subst z
      have l := List.eq_nil_of_length_eq_zero (q1.length.trans rfl)
      subst l
      exact hk.ok em re
    · subst z2
      have l := List.eq_nil_of_length_eq_zero (q2.length.trans rfl)
      subst l
      rw [List.append_nil] at hk
      exact hk.ok em rd
    · exact hk.tuple Ext.refl em (q1.append q2) hp ho
  · split at ho
    · rename_i xs ys e1 e2
      obtain ⟨c, ho⟩ := ifn ho
      cases ho
      obtain ⟨a, vs, rfl, h1, q1⟩ := em.lst e1 rd
      obtain ⟨b, ws, rfl, h2, q2⟩ := em.lst e2 re
      refine op_cat pins s σ H _ _ v u Q I rx ry ⟨a, b, vs, ws, rfl, rfl, h1, h2, by rw [← q1.length, ← q2.length]; exact c, fun p hp => ?_⟩
      have x := Ext.alloc (M := M) (o := .lst (vs ++ ws)) hp
      exact hk.okE x (em.alloc hp) (.lst upd_same (em.no hp) ((q1.append q2).mono x))
    · cases ho
theorem o_sub : OpR X (binaryOp .Sub) (r2 P Z fun x y S => oret (opD S .sub x y) S) :=
  o_int2 op_sub fun i j w M H Q e k => by cases e; exact ⟨i, j, rfl, rfl, k _ (.int _)⟩
theorem o_fdiv : OpR X (binaryOp .FloorDiv) (r2 P Z fun x y S => oret (opD S .fdiv x y) S) :=
  o_int2 op_fdiv fun i j w M H Q e k => by
    obtain ⟨c, e⟩ := ifn e
    cases e
    exact ⟨i, j, rfl, rfl, c, k _ (.int _)⟩
theorem o_mod : OpR X (binaryOp .Mod) (r2 P Z fun x y S => oret (opD S .mod x y) S) :=
  o_int2 op_mod fun i j w M H Q e k => by
    obtain ⟨c, e⟩ := ifn e
    cases e
    exact ⟨i, j, rfl, rfl, c, k _ (.int _)⟩
theorem o_pow : OpR X (binaryOp .Pow) (r2 P Z fun x y S => oret (opD S .pow x y) S) :=
  o_int2 op_pow fun i j w M H Q e k => by
    obtain ⟨c, e⟩ := ifn e
    cases e
    refine ⟨i, j, rfl, rfl, ?_, k _ (.int _)⟩
    obtain ⟨c1, c2, c3, c4⟩ := c
    rw [big_eq] at c3 c4
    exact ⟨c1, by omega, by omega⟩
theorem o_mul : OpR X (binaryOp .Mult) (r2 P Z fun x y S => oret (opD S .mul x y) S) := by
  intro pins s σ H x y v u Q I rx ry ⟨M, S, d, e, em, rd, re, h⟩
  obtain ⟨w, ho, hk⟩ := h.oret
  change mulD d e = some w at ho
  unfold mulD at ho
  split at ho
  · obtain ⟨c, ho⟩ := ifn ho
    cases ho
    cases rd
    cases re
    rw [big_eq] at c
    exact op_mul pins s σ H _ _ v u Q I rx ry ⟨_, _, rfl, rfl, .inl c, hk.ok em (.int _)⟩
  · obtain ⟨⟨c1, c2, c3, c4⟩, ho⟩ := ifn ho
    cases ho
    obtain ⟨a, vs, rfl, h1, n1, q1⟩ := rd.tupI
    cases re
    rename_i xs k
    by_cases hk1 : k = 1
    · subst hk1
      refine op_repOne pins s σ H _ _ v u Q I rx ry ⟨a, vs, rfl, rfl, h1.sq, ?_⟩
      have e : (List.replicate (Int.toNat 1) xs).flatten = xs := by simp
      rw [e] at hk
      exact hk.ok em rd
    · refine op_repF pins s σ H _ _ v u Q I rx ry ⟨a, k, vs, rfl, rfl, h1.sq, fun z => c4 ?_, by omega, c2, by rw [← q1.length]; exact c3, fun p o hp ho => ?_⟩
      · subst z
        exact List.eq_nil_of_length_eq_zero (q1.length.trans rfl)
      · exact hk.tuple Ext.refl em (q1.flatten_rep _) hp ho
  · cases ho
def opOf : Op → Operator
  | .add => .Add
  | .sub => .Sub
  | .mul => .Mult
  | .fdiv => .FloorDiv
  | .mod => .Mod
  | .pow => .Pow
theorem o_op : ∀ o : Op, OpR X (binaryOp (opOf o)) (r2 P Z fun x y S => oret (opD S o x y) S)
  | .add => o_add
  | .sub => o_sub
  | .mul => o_mul
  | .fdiv => o_fdiv
  | .mod => o_mod
  | .pow => o_pow
/-! ### comparisons -/
theorem emb_reads {pins : List (Addr × Obj)} {s : Shared} {σ : L2.St} {H : Hp} {M : Ma} {S : Sto} {d : D} {x : V} {v : Value} (em : P.Emb M H S) (I : L2.Inv X pins σ H s) (rd : Rv M H d x) (rx : RelV x v) (p : eqOk (PL.val S d) = true) :
    ∃ as, Reads s.heap v (PL.val S d) as := Dp.reads I _ _ _ (PL.Emb.val em rd (by simp only [eqOk, Bool.and_eq_true] at p; exact p.1)) rx
theorem eqOk_dec {d : D} (h : eqOk d = true) : d.plain = true ∧ d.depth ≤ depthMax := by
  simp only [eqOk, Bool.and_eq_true, decide_eq_true_eq] at h
  exact h
theorem o_eq (F : Fit P Γ X) : OpR X (compareOp .Eq) (r2 P Z fun x y S => oret ((cmD S .eq x y).map .bool) S) := by
  intro pins s σ H x y v u Q I rx ry ⟨M, S, d, e, em, rd, re, h⟩
  obtain ⟨w, ho, hk⟩ := h.oret
  change (eqD S d e).map PyData.bool = some w at ho
  unfold eqD at ho
  split at ho
  · rename_i c
    cases ho
    rw [Bool.and_eq_true] at c
    obtain ⟨as, q1⟩ := emb_reads em I rd rx c.1
    obtain ⟨bs, q2⟩ := emb_reads em I re ry c.2
    have hu := F.units
    obtain ⟨p1, p2⟩ := eqOk_dec c.1
    exact SeqAt.eq_plain q1 q2 p1 (eqOk_dec c.2).1 (by unfold depthMax at p2; omega) ⟨.bl _, H, I, rfl, hk.ok em (.bl _)⟩
  · cases ho
theorem o_ne (F : Fit P Γ X) : OpR X (compareOp .NotEq) (r2 P Z fun x y S => oret ((cmD S .ne x y).map .bool) S) := by
  intro pins s σ H x y v u Q I rx ry ⟨M, S, d, e, em, rd, re, h⟩
  obtain ⟨w, ho, hk⟩ := h.oret
  change ((eqD S d e).map (!·)).map PyData.bool = some w at ho
  unfold eqD at ho
  split at ho
  · rename_i c
    cases ho
    rw [Bool.and_eq_true] at c
    obtain ⟨as, q1⟩ := emb_reads em I rd rx c.1
    obtain ⟨bs, q2⟩ := emb_reads em I re ry c.2
    have hu := F.units
    obtain ⟨p1, p2⟩ := eqOk_dec c.1
    exact SeqAt.ne_plain q1 q2 p1 (eqOk_dec c.2).1 (by unfold depthMax at p2; omega) ⟨.bl _, H, I, rfl, hk.ok em (.bl _)⟩
  · cases ho
/-! ### a < b -/
def eqP (xs ys : List D) (j : Nat) : Bool := PyData.eqv (xs.getD j .none) (ys.getD j .none)
def ltP (xs ys : List D) (j : Nat) : Bool := (ltD (xs.getD j .none) (ys.getD j .none)).getD false
theorem ltDs_cons {x y : D} {xs ys : List D} {k : Bool} (h : ltDs (x :: xs) (y :: ys) = some k) : eqOk x = true ∧ eqOk y = true ∧ ((PyData.eqv x y = true ∧ ltDs xs ys = some k) ∨ (PyData.eqv x y = false ∧ ltD x y = some k)) := by
  unfold ltDs at h
  split at h
  · rename_i c
    rw [Bool.and_eq_true] at c
    refine ⟨c.1, c.2, ?_⟩
    split at h
    · exact .inl ⟨‹_›, h⟩
    · rename_i e
      exact .inr ⟨by simpa using e, h⟩
  · cases h
theorem ltDs_first : ∀ (xs ys : List D) (i : Nat) (e r : Nat → Bool) (k : Bool), ltDs xs ys = some k → (∀ j, e (i + j) = eqP xs ys j) → (∀ j, r (i + j) = ltP xs ys j) →
    SeqAt.firstLt e r (decide (xs.length < ys.length)) (List.range' i (min xs.length ys.length)) = k
  | [], [], i, e, r, k, h, _, _ => by cases h; rfl
  | [], _ :: _, i, e, r, k, h, _, _ => by cases h; rfl
  | _ :: _, [], i, e, r, k, h, _, _ => by cases h; rfl
  | x :: xs, y :: ys, i, e, r, k, h, he, hr => by
    have hm : min (x :: xs).length (y :: ys).length = min xs.length ys.length + 1 := by simp only [List.length_cons]; omega
    rw [hm, List.range'_succ]
    have e0 : e i = PyData.eqv x y := he 0
    have r0 : r i = (ltD x y).getD false := hr 0
    obtain ⟨_, _, ⟨q, q2⟩ | ⟨q, q2⟩⟩ := ltDs_cons h
    · rw [SeqAt.firstLt_yes (e0.trans q)]
      have hd : decide ((x :: xs).length < (y :: ys).length) = decide (xs.length < ys.length) := by simp
      rw [hd]
      exact ltDs_first xs ys (i + 1) e r k q2 (fun j => by rw [show i + 1 + j = i + (j + 1) by omega]; exact he (j + 1)) (fun j => by rw [show i + 1 + j = i + (j + 1) by omega]; exact hr (j + 1))
    · rw [SeqAt.firstLt_no (e0.trans q), r0, q2]; rfl
theorem ltDs_at : ∀ (xs ys : List D) (k : Bool) (j : Nat), ltDs xs ys = some k → j < xs.length → j < ys.length → (∀ i, i < j → eqP xs ys i = true) → eqP xs ys j = false → ltD (xs.getD j .none) (ys.getD j .none) = some (ltP xs ys j)
  | [], _, _, j, _, h, _, _, _ => absurd h (Nat.not_lt_zero _)
  | _ :: _, [], _, j, _, _, h, _, _ => absurd h (Nat.not_lt_zero _)
  | x :: xs, y :: ys, k, 0, h, _, _, _, e => by
    obtain ⟨_, _, ⟨q, q2⟩ | ⟨q, q2⟩⟩ := ltDs_cons h
    · have e : PyData.eqv x y = false := e
      rw [q] at e; cases e
    · show ltD x y = some ((ltD x y).getD false)
      rw [q2]; rfl
  | x :: xs, y :: ys, k, j + 1, h, h1, h2, hb, e => by
    obtain ⟨_, _, ⟨q, q2⟩ | ⟨q, q2⟩⟩ := ltDs_cons h
    · exact ltDs_at xs ys k j q2 (by simpa using h1) (by simpa using h2) (fun i hi => hb (i + 1) (by omega)) e
    · have h0 : PyData.eqv x y = true := hb 0 (Nat.succ_pos _)
      rw [q] at h0; cases h0
theorem ltDs_ok : ∀ (xs ys : List D) (k : Bool) (j : Nat), ltDs xs ys = some k → j < xs.length → j < ys.length → (∀ i, i < j → eqP xs ys i = true) → eqOk (xs.getD j .none) = true ∧ eqOk (ys.getD j .none) = true
  | [], _, _, j, _, h, _, _ => absurd h (Nat.not_lt_zero _)
  | _ :: _, [], _, j, _, _, h, _ => absurd h (Nat.not_lt_zero _)
  | x :: xs, y :: ys, k, 0, h, _, _, _ => by
    obtain ⟨q1, q2, _⟩ := ltDs_cons h
    exact ⟨q1, q2⟩
  | x :: xs, y :: ys, k, j + 1, h, h1, h2, hb => by
    obtain ⟨_, _, ⟨q, q2⟩ | ⟨q, q2⟩⟩ := ltDs_cons h
    · exact ltDs_ok xs ys k j q2 (by simpa using h1) (by simpa using h2) (fun i hi => hb (i + 1) (by omega))
    · have h0 : PyData.eqv x y = true := hb 0 (Nat.succ_pos _)
      rw [q] at h0; cases h0
theorem reads_at {h : Heap} : ∀ {us : List Value} {ds : List D} {as : List Addr}, ReadsAll h us ds as → ∀ (j : Nat) (h1 : j < us.length), ∃ bs, Reads h us[j] (ds.getD j .none) bs
  | _, _, _, .nil, j, h1 => absurd h1 (Nat.not_lt_zero _)
  | _, _, _, .cons r t, 0, _ => ⟨_, r⟩
  | _, _, _, .cons r t, j + 1, h1 => by
    obtain ⟨bs, q⟩ := reads_at t j (by simpa using h1)
    exact ⟨bs, q⟩
theorem depth_at : ∀ (ds : List D) (j : Nat), j < ds.length → (ds.getD j .none).depth ≤ PyData.depthAll ds
  | [], j, h => absurd h (Nat.not_lt_zero _)
  | d :: ds, 0, _ => by simp only [PyData.depthAll, List.getD_cons_zero]; omega
  | d :: ds, j + 1, h => by
    have := depth_at ds j (by simpa using h)
    simp only [PyData.depthAll, List.getD_cons_succ]; omega
theorem rcLt_d : ∀ (da db : D) (A : Around) (s : Shared) (a b : Value) (as bs : List Addr) (k : Bool), Reads s.heap a da as → Reads s.heap b db bs → ltD da db = some k → A.units + min da.depth db.depth < cLine → SeqAt.RcLt A s a b k
  | .int x, .int y, A, s, a, b, as, bs, k, ra, rb, h, _ => by
    cases h
    cases ra
    cases rb
    intro prog w E Q hq
    exact PySem.P.lt_int hq
  | .str x, .str y, A, s, a, b, as, bs, k, ra, rb, h, _ => by
    cases h
    cases ra
    cases rb
    intro prog w E Q hq
    exact PySem.P.lt_str hq
  | .tuple xs, .tuple ys, A, s, a, b, as, bs, k, ra, rb, h, hu => by
    have h : ltDs xs ys = some k := h
    cases ra with
    | @tuple l o vs n _ as₁ h1 h2 h3 h4 =>
      cases rb with
      | @tuple l' o' vs' n' _ bs₁ k1 k2 k3 k4 =>
        have n1 : vs.size = xs.length := by simpa using SeqAt.len_at h4
        have n2 : vs'.size = ys.length := by simpa using SeqAt.len_at k4
        have e := ltDs_first xs ys 0 (eqP xs ys) (ltP xs ys) k h (fun j => by rw [Nat.zero_add]) (fun j => by rw [Nat.zero_add])
        rw [← List.range_eq_range', ← n1, ← n2] at e
        rw [← e]
        have hu1 : A.units + 1 + min (PyData.depthAll xs) (PyData.depthAll ys) < cLine := by
          simp only [PyData.depth] at hu
          omega
        refine rcLt_tupF ⟨_, h1, h2, _, h3⟩ ⟨_, k1, k2, _, k3⟩ (by omega) (fun j j1 j2 hb => ?_) (fun j j1 j2 hb he => ?_)
        · obtain ⟨cs, r1⟩ := reads_at h4 j (by simpa using j1)
          obtain ⟨cs', r2⟩ := reads_at k4 j (by simpa using j2)
          obtain ⟨p1, p2⟩ := ltDs_ok xs ys k j h (by omega) (by omega) hb
          have d1 := depth_at xs j (by omega)
          have d2 := depth_at ys j (by omega)
          have := SeqAt.eqAt_plain _ _ A.in1 s _ _ _ _ r1 r2 (eqOk_dec p1).1 (eqOk_dec p2).1 (by show A.units + 1 + _ < _; omega)
          simpa [eqP] using this
        · obtain ⟨cs, r1⟩ := reads_at h4 j (by simpa using j1)
          obtain ⟨cs', r2⟩ := reads_at k4 j (by simpa using j2)
          have d1 := depth_at xs j (by omega)
          have d2 := depth_at ys j (by omega)
          have hlt := ltDs_at xs ys k j h (by omega) (by omega) hb he
          have := rcLt_d (xs.getD j .none) (ys.getD j .none) A.in1 s _ _ _ _ _ r1 r2 hlt (by show A.units + 1 + _ < _; omega)
          simpa using this
  | .int _, .none, _, _, _, _, _, _, _, _, _, h, _ => by cases h
  | .int _, .bool _, _, _, _, _, _, _, _, _, _, h, _ => by cases h
  | .int _, .str _, _, _, _, _, _, _, _, _, _, h, _ => by cases h
  | .int _, .list _, _, _, _, _, _, _, _, _, _, h, _ => by cases h
  | .int _, .tuple _, _, _, _, _, _, _, _, _, _, h, _ => by cases h
  | .int _, .dict _, _, _, _, _, _, _, _, _, _, h, _ => by cases h
  | .str _, .none, _, _, _, _, _, _, _, _, _, h, _ => by cases h
  | .str _, .bool _, _, _, _, _, _, _, _, _, _, h, _ => by cases h
  | .str _, .int _, _, _, _, _, _, _, _, _, _, h, _ => by cases h
  | .str _, .list _, _, _, _, _, _, _, _, _, _, h, _ => by cases h
  | .str _, .tuple _, _, _, _, _, _, _, _, _, _, h, _ => by cases h
  | .str _, .dict _, _, _, _, _, _, _, _, _, _, h, _ => by cases h
  | .tuple _, .none, _, _, _, _, _, _, _, _, _, h, _ => by cases h
  | .tuple _, .bool _, _, _, _, _, _, _, _, _, _, h, _ => by cases h
  | .tuple _, .int _, _, _, _, _, _, _, _, _, _, h, _ => by cases h
  | .tuple _, .str _, _, _, _, _, _, _, _, _, _, h, _ => by cases h
  | .tuple _, .list _, _, _, _, _, _, _, _, _, _, h, _ => by cases h
  | .tuple _, .dict _, _, _, _, _, _, _, _, _, _, h, _ => by cases h
  | .none, _, _, _, _, _, _, _, _, _, _, h, _ => by cases h
  | .bool _, _, _, _, _, _, _, _, _, _, _, h, _ => by cases h
  | .list _, _, _, _, _, _, _, _, _, _, _, h, _ => by cases h
  | .dict _, _, _, _, _, _, _, _, _, _, _, h, _ => by cases h
termination_by da => da.depth
decreasing_by simp only [PyData.depth]; omega
theorem val_plain {S : Sto} {d : D} (h : d.plain = true) : PL.val S d = d := by
  unfold PL.val
  cases q : lstD S d with
  | none => rfl
  | some xs =>
    rcases lstD_some q with rfl | ⟨i, rfl, _⟩
    · rfl
    · simp [rf, PyData.plain] at h
theorem o_lt (F : Fit P Γ X) : OpR X (compareOp .Lt) (r2 P Z fun x y S => oret ((cmD S .lt x y).map .bool) S) := by
  intro pins s σ H x y v u Q I rx ry ⟨M, S, d, e, em, rd, re, h⟩
  obtain ⟨w, ho, hk⟩ := h.oret
  change (if (eqOk d && eqOk e) = true then ltD d e else none).map PyData.bool = some w at ho
  split at ho
  · rename_i c
    rw [Bool.and_eq_true] at c
    cases q : ltD d e with
    | none => rw [q] at ho; cases ho
    | some k =>
      rw [q] at ho
      cases ho
      obtain ⟨p1, p2⟩ := eqOk_dec c.1
      obtain ⟨as, q1⟩ := emb_reads em I rd rx (by rw [val_plain p1]; exact c.1)
      obtain ⟨bs, q2⟩ := emb_reads em I re ry (by rw [val_plain (eqOk_dec c.2).1]; exact c.2)
      rw [val_plain p1] at q1
      rw [val_plain (eqOk_dec c.2).1] at q2
      have hu := F.units
      exact rcLt_d d e X.A s v u _ _ k q1 q2 q (by unfold depthMax at p2; omega) _ _ _ _ ⟨.bl _, H, I, rfl, hk.ok em (.bl _)⟩
  · cases ho
theorem o_cmI {c : Cm} {f : Value → Value → Sem Value} {g : Int → Int → Bool} {r : R2} (hc : ∀ S x y, cmD S c x y = cmI g x y) (h : OpR X f r) (i : ∀ (i j : Int) (H : Hp) (Q : VK), Q (.bl (g i j)) H → r (.int i) (.int j) H Q) :
    OpR X f (r2 P Z fun x y S => oret ((cmD S c x y).map .bool) S) := by
  intro pins s σ H x y v u Q I rx ry ⟨M, S, d, e, em, rd, re, h'⟩
  obtain ⟨w, ho, hk⟩ := h'.oret
  rw [hc] at ho
  unfold cmI at ho
  split at ho
  · cases ho
    cases rd
    cases re
    exact h pins s σ H _ _ v u Q I rx ry (i _ _ H Q (hk.ok em (.bl _)))
  · cases ho
theorem o_le : OpR X (compareOp .LtE) (r2 P Z fun x y S => oret ((cmD S .le x y).map .bool) S) := o_cmI (fun _ _ _ => rfl) op_le fun i j H Q q => ⟨i, j, rfl, rfl, q⟩
theorem o_gt : OpR X (compareOp .Gt) (r2 P Z fun x y S => oret ((cmD S .gt x y).map .bool) S) := o_cmI (fun _ _ _ => rfl) op_gt fun i j H Q q => ⟨i, j, rfl, rfl, q⟩
theorem all_ok : ∀ {ds : List D}, ds.all eqOk = true → PyData.plainAll ds = true ∧ PyData.depthAll ds ≤ depthMax
  | [], _ => ⟨rfl, by simp [PyData.depthAll]⟩
  | d :: ds, h => by
    rw [List.all_cons, Bool.and_eq_true] at h
    obtain ⟨h1, h2⟩ := eqOk_dec h.1
    obtain ⟨h3, h4⟩ := all_ok h.2
    exact ⟨by simp [PyData.plainAll, h1, h3], by simp only [PyData.depthAll]; omega⟩
/-- what is walked by in, count, index: a list or a tuple, read -/
theorem seq_reads {pins : List (Addr × Obj)} {s : Shared} {σ : L2.St} {H : Hp} {M : Ma} {S : Sto} {e : D} {y : V} {u : Value} {ys : List D} (em : P.Emb M H S) (I : L2.Inv X pins σ H s) (re : Rv M H e y) (ry : RelV y u) (h : seqD S e = some ys) (p : ys.all eqOk = true) :
    ∃ as, Reads s.heap u (.list ys) as ∨ Reads s.heap u (.tuple ys) as := by
  obtain ⟨a, vs, rfl, h1, q⟩ := em.seq h re
  have dp : DpAll X.K H vs ys := q.dp (all_ok p).1
  rcases h1 with h1 | h1
  · obtain ⟨as, r⟩ := Dp.reads I (.list ys) (.ref a) u (.lst (SqL.of h1) dp) ry
    exact ⟨as, .inl r⟩
  · obtain ⟨as, r⟩ := Dp.reads I (.tuple ys) (.ref a) u (.tup h1.sq dp) ry
    exact ⟨as, .inr r⟩
theorem o_inG (F : Fit P Γ X) (neg : Bool) : OpR X (compareOp (if neg then .NotIn else .In)) (r2 P Z fun x y S => oret (((inD S x y).map fun b => neg != b).map .bool) S) := by
  intro pins s σ H x y v u Q I rx ry ⟨M, S, d, e, em, rd, re, h⟩
  obtain ⟨w, ho, hk⟩ := h.oret
  cases q : inD S d e with
  | none => rw [q] at ho; cases ho
  | some k =>
    rw [q] at ho
    cases ho
    unfold inD at q
    split at q
    · split at q
      · split at q
        · rename_i z _ a _ c hc
          cases q
          cases rd
          cases re
          have ha : a = ⟨#[c]⟩ := by
            obtain ⟨l⟩ := a
            obtain ⟨l⟩ := l
            have hc : l = [c] := hc
            rw [hc]
          rw [ha] at rx
          cases neg with
          | true => exact op_notIn_sign pins s σ H _ _ v u Q I rx ry ⟨c, z, rfl, rfl, hk.ok em (by simpa using Rv.bl _)⟩
          | false => exact op_in_sign pins s σ H _ _ v u Q I rx ry ⟨c, z, rfl, rfl, hk.ok em (by simpa using Rv.bl _)⟩
        · cases q
      · cases q
    · unfold inSq at q
      split at q
      · rename_i ys hs
        obtain ⟨c, q⟩ := ifn q
        cases q
        rw [Bool.and_eq_true] at c
        obtain ⟨p1, p2⟩ := eqOk_dec c.1
        obtain ⟨p3, p4⟩ := all_ok c.2
        obtain ⟨as, q1⟩ := emb_reads em I rd rx (by rw [val_plain p1]; exact c.1)
        rw [val_plain p1] at q1
        obtain ⟨bs, q2⟩ := seq_reads em I re ry hs c.2
        have hu := F.units
        have hu2 : X.A.units + 1 + min (PyData.depthAll ys) d.depth < cLine := by unfold depthMax at p2; omega
        cases neg with
        | true =>
          rcases q2 with q2 | q2
          · exact SeqAt.notIn_list_data q2 q1 p3 p1 hu2 ⟨.bl _, H, I, rfl, hk.ok em (by simpa using Rv.bl _)⟩
          · exact SeqAt.notIn_tuple_data q2 q1 p3 p1 hu2 ⟨.bl _, H, I, rfl, hk.ok em (by simpa using Rv.bl _)⟩
        | false =>
          rcases q2 with q2 | q2
          · exact SeqAt.in_list_data q2 q1 p3 p1 hu2 ⟨.bl _, H, I, rfl, hk.ok em (by simpa using Rv.bl _)⟩
          · exact SeqAt.in_tuple_data q2 q1 p3 p1 hu2 ⟨.bl _, H, I, rfl, hk.ok em (by simpa using Rv.bl _)⟩
      · cases q
theorem o_in (F : Fit P Γ X) : OpR X (compareOp .In) (r2 P Z fun x y S => oret ((cmD S .in_ x y).map .bool) S) := by
  intro pins s σ H x y v u Q I rx ry ⟨M, S, d, e, em, rd, re, h⟩
  refine o_inG (Z := Z) F false pins s σ H x y v u Q I rx ry ⟨M, S, d, e, em, rd, re, ?_⟩
  have e1 : ((inD S d e).map fun b => false != b) = inD S d e := by cases inD S d e <;> simp
  show Res P Rv M H (oret (((inD S d e).map fun b => false != b).map .bool) S) Q Z
  rw [e1]
  exact h
theorem o_nin (F : Fit P Γ X) : OpR X (compareOp .NotIn) (r2 P Z fun x y S => oret ((cmD S .nin x y).map .bool) S) := by
  intro pins s σ H x y v u Q I rx ry ⟨M, S, d, e, em, rd, re, h⟩
  refine o_inG (Z := Z) F true pins s σ H x y v u Q I rx ry ⟨M, S, d, e, em, rd, re, ?_⟩
  have e1 : ((inD S d e).map fun b => true != b) = (inD S d e).map (!·) := by cases inD S d e <;> simp
  show Res P Rv M H (oret (((inD S d e).map fun b => true != b).map .bool) S) Q Z
  rw [e1]
  exact h
def cmOf : Cm → CmpOp
  | .eq => .Eq
  | .ne => .NotEq
  | .lt => .Lt
  | .le => .LtE
  | .gt => .Gt
  | .in_ => .In
  | .nin => .NotIn
theorem o_cm (F : Fit P Γ X) : ∀ c : Cm, OpR X (compareOp (cmOf c)) (r2 P Z fun x y S => oret ((cmD S c x y).map .bool) S)
  | .eq => o_eq F
  | .ne => o_ne F
  | .lt => o_lt F
  | .le => o_le
  | .gt => o_gt
  | .in_ => o_in F
  | .nin => o_nin F
end
end PL
end

section
set_option Elab.async false
set_option linter.all false
set_option maxRecDepth 100000
set_option maxHeartbeats 1000000
/-! PLE: subscripts, slices, built-ins by values. -/
namespace PL
open PySem PySem.Spec PyProof.Rows L2
section
variable {M : Ma} {H : Hp} {ds : List D} {vs : List V} {d : D}
theorem Rvs.atI {i : Int} (h : Rvs M H ds vs) (q : L2.atI ds i = some d) : ∃ v, L2.atI vs i = some v ∧ Rv M H d v := by
  unfold L2.atI at q ⊢
  rw [← h.length]
  cases e : ixN ds.length i with
  | none => rw [e] at q; cases q
  | some j =>
    rw [e] at q
    exact h.get' q
end
section
variable {P : Pg} {Γ : Ga} {X : Cx} {Z : ZX}
theorem o_ix (F : Fit P Γ X) : IxR X (r2 P Z fun x y S => oret (ixD S x y) S) := by
  intro value slice pins s σ H x y v u Q I rx ry ⟨M, S, d, e, em, rd, re, h⟩ hs
  obtain ⟨w, ho, hk⟩ := h.oret
  unfold ixD at ho
  split at ho
  · cases re
    unfold ixS at ho
    split at ho
    · rename_i i _ z
      obtain ⟨c, ho⟩ := ifn ho
      cases rd
      cases e : L2.atI z.cps.toList i with
      | none => rw [e] at ho; cases ho
      | some k =>
        rw [e] at ho
        cases ho
        exact ix_str value slice pins s σ H _ _ v u Q I rx ry ⟨_, _, _, rfl, rfl, by rw [← lim_eq]; exact c, e, hk.ok em (.str _)⟩ hs
    · split at ho
      · rename_i xs hx
        rw [asScr_some hx] at rd
        obtain ⟨a, vs, rfl, h1, q1⟩ := rd.scrI
        rw [em.kf, ← F.K] at h1
        obtain ⟨z, h2, h3⟩ := q1.atI ho
        exact ix_list value slice pins s σ H _ _ v u Q I rx ry ⟨a, vs, _, z, rfl, rfl, h1, h2, hk.ok em h3⟩ hs
      · cases e : seqD S d with
        | none => rw [e] at ho; cases ho
        | some xs =>
          rw [e] at ho
          obtain ⟨a, vs, rfl, h1, q1⟩ := em.seq e rd
          obtain ⟨z, h2, h3⟩ := q1.atI ho
          rcases h1 with h1 | h1
          · exact ix_list value slice pins s σ H _ _ v u Q I rx ry ⟨a, vs, _, z, rfl, rfl, SqL.of h1, h2, hk.ok em h3⟩ hs
          · exact ix_tup value slice pins s σ H _ _ v u Q I rx ry ⟨a, vs, _, z, rfl, rfl, h1.sq, h2, hk.ok em h3⟩ hs
  · cases ho
theorem Rvs.cutV {M : Ma} {H : Hp} {ds : List D} {vs : List V} (h : Rvs M H ds vs) (lo hi : Option Int) : Rvs M H (cutD ds lo hi) (L2.cutV vs lo hi) := by
  unfold cutD L2.cutV
  rw [← h.length]
  exact (h.drop _).take _
theorem cut_whole {α : Type} {xs : List α} {a b : Nat} (h : a = 0 ∧ b = xs.length) : (xs.drop a).take (b - a) = xs := by
  rw [h.1, h.2]; simp
theorem o_sl : SlR X (fun x lo hi H Q => ∃ M S d, P.Emb M H S ∧ Rv M H d x ∧ Res P Rv M H (oret (slD S d lo hi) S) Q Z) := by
  intro pins s σ H x v vl vu lo hi sl Q I rx hs pl pu ⟨M, S, d, em, rd, h⟩
  obtain ⟨w, ho, hk⟩ := h.oret
  unfold slD at ho
  split at ho
  · cases ho
    obtain ⟨a, vs, rfl, h1, n1, q1⟩ := rd.tupI
    refine sl_tupF pins s σ H _ v vl vu lo hi sl Q I rx hs pl pu ⟨a, vs, rfl, h1.sq, fun z => ?_, fun p o hp ho => ?_⟩
    · rw [← q1.length] at z
      have e := cut_whole z
      unfold cutD at hk
      rw [e] at hk
      exact hk.ok em rd
    · exact hk.tuple Ext.refl em (q1.cutV lo hi) hp ho
  · cases e : lstD S d with
    | none => rw [e] at ho; cases ho
    | some xs =>
      rw [e] at ho
      cases ho
      obtain ⟨a, vs, rfl, h1, q1⟩ := em.lst e rd
      refine sl_list pins s σ H _ v vl vu lo hi sl Q I rx hs pl pu ⟨a, vs, rfl, SqL.of h1, fun p hp => ?_⟩
      have x := Ext.alloc (M := M) (o := .lst (L2.cutV vs lo hi)) hp
      exact hk.okE x (em.alloc hp) (.lst upd_same (em.no hp) ((q1.cutV lo hi).mono x))
/-! ### built-ins -/
theorem Rvs.one {M : Ma} {H : Hp} {ds : List D} {xs : List V} {f : D → Option D} {w : D} (h : Rvs M H ds xs) (q : bi1 f ds = some w) : ∃ d v, ds = [d] ∧ xs = [v] ∧ Rv M H d v ∧ f d = some w := by
  unfold bi1 at q
  split at q
  · cases h with
    | cons r t => cases t; exact ⟨_, _, rfl, rfl, r, q⟩
  · cases q
theorem Rvs.two {M : Ma} {H : Hp} {ds : List D} {xs : List V} {f : D → D → Option D} {w : D} (h : Rvs M H ds xs) (q : bi2 f ds = some w) : ∃ d e v u, ds = [d, e] ∧ xs = [v, u] ∧ Rv M H d v ∧ Rv M H e u ∧ f d e = some w := by
  unfold bi2 at q
  split at q
  · cases h with
    | cons r t => cases t with
      | cons r2 t => cases t; exact ⟨_, _, _, _, rfl, rfl, r, r2, q⟩
  · cases q
theorem Rvs.oneL {M : Ma} {H : Hp} {ds : List D} {xs : List V} {f : D → Option (List D)} {w : List D} (h : Rvs M H ds xs) (q : biL f ds = some w) : ∃ d v, ds = [d] ∧ xs = [v] ∧ Rv M H d v ∧ f d = some w := by
  unfold biL at q
  split at q
  · cases h with
    | cons r t => cases t; exact ⟨_, _, rfl, rfl, r, q⟩
  · cases q
theorem Res.allo {M : Ma} {H : Hp} {r : Bool} {o : Option (List D)} {S : Sto} {Q : VK} (h : Res P Rv M H (oallo r o S) Q Z) : ∃ xs, o = some xs ∧ Res P Rv M H (allocL r xs S) Q Z := by
  cases o with
  | none => exact h.elim
  | some xs => exact ⟨xs, rfl, h⟩
theorem b_len (F : Fit P Γ X) : CallR X (.builtin "len") (rs P Z (biD .len)) := by
  intro pins s σ H xs us Q I rx ⟨M, S, ds, em, rd, h⟩
  obtain ⟨w, ho, hk⟩ := Res.oret h
  obtain ⟨d, v, rfl, rfl, r, q⟩ := rd.one ho
  unfold lenD at q
  split at q
  · obtain ⟨c, q⟩ := ifn q
    cases q
    cases r
    exact call_len pins s σ H _ us Q I rx ⟨_, _, rfl, ⟨by rw [← lim_eq]; exact c, rfl⟩, hk.ok em (.int _)⟩
  · split at q
    · rename_i ys hx
      cases q
      rw [asScr_some hx] at r
      obtain ⟨a, vs, rfl, h1, q1⟩ := r.scrI
      rw [em.kf, ← F.K] at h1
      exact call_len pins s σ H _ us Q I rx ⟨_, _, rfl, .inl ⟨vs, h1, rfl⟩, by rw [← q1.length]; exact hk.ok em (.int _)⟩
    · cases e : seqD S d with
      | none => rw [e] at q; cases q
      | some ys =>
        rw [e] at q
        cases q
        obtain ⟨a, vs, rfl, h1, q1⟩ := em.seq e r
        rcases h1 with h1 | h1
        · exact call_len pins s σ H _ us Q I rx ⟨_, _, rfl, .inl ⟨vs, SqL.of h1, rfl⟩, by rw [← q1.length]; exact hk.ok em (.int _)⟩
        · exact call_len pins s σ H _ us Q I rx ⟨_, _, rfl, .inr ⟨vs, h1.sq, rfl⟩, by rw [← q1.length]; exact hk.ok em (.int _)⟩
theorem b_str : CallR X (.type "str") (rs P Z (biD .str)) := by
  intro pins s σ H xs us Q I rx ⟨M, S, ds, em, rd, h⟩
  obtain ⟨w, ho, hk⟩ := Res.oret h
  obtain ⟨d, v, rfl, rfl, r, q⟩ := rd.one ho
  unfold strD at q
  split at q
  · obtain ⟨c, q⟩ := ifn q
    cases q
    cases r
    exact call_str_int pins s σ H _ us Q I rx ⟨_, rfl, c, hk.ok em (.str _)⟩
  · cases q
    cases r
    exact SkE.call_str_str pins s σ H _ us Q I rx ⟨_, rfl, hk.ok em (.str _)⟩
  · cases q
theorem b_int : CallR X (.type "int") (rs P Z (biD .int)) := by
  intro pins s σ H xs us Q I rx ⟨M, S, ds, em, rd, h⟩
  obtain ⟨w, ho, hk⟩ := Res.oret h
  obtain ⟨d, v, rfl, rfl, r, q⟩ := rd.one ho
  unfold intsD at q
  split at q
  · cases q
    cases r
    exact call_int1 pins s σ H _ us Q I rx (.inr ⟨_, rfl, hk.ok em (.int _)⟩)
  · cases q
    cases r
    exact call_int1 pins s σ H _ us Q I rx (.inl ⟨_, rfl, hk.ok em (.int _)⟩)
  · unfold intD at q
    split at q
    · rename_i x c
      cases e : intText? x with
      | none => rw [e] at q; cases q
      | some n =>
        rw [e] at q
        cases q
        cases r
        exact call_int_str pins s σ H _ us Q I rx ⟨_, _, rfl, e, c, hk.ok em (.int _)⟩
    · cases q
  · cases q
theorem b_list (r : Bool) : CallR X (.type "list") (rs P Z (biD (.list r))) := by
  intro pins s σ H xs us Q I rx ⟨M, S, ds, em, rd, h⟩
  obtain ⟨ys, ho, hk⟩ := Res.allo h
  obtain ⟨d, v, rfl, rfl, r, q⟩ := rd.oneL ho
  obtain ⟨hl, hk⟩ := Res.alloc hk
  obtain ⟨a, vs, rfl, h1, q1⟩ := em.seq q r
  exact call_list_of pins s σ H _ us Q I rx ⟨a, vs, rfl, h1.imp SqL.of TupF.sq, fun l hp => hk M H l vs Ext.refl em q1 hp⟩
theorem b_tuple : CallR X (.type "tuple") (rs P Z (biD .tuple)) := by
  intro pins s σ H xs us Q I rx ⟨M, S, ds, em, rd, h⟩
  obtain ⟨w, ho, hk⟩ := Res.oret h
  obtain ⟨d, v, rfl, rfl, r, q⟩ := rd.one ho
  unfold tupD at q
  split at q
  · cases q
    obtain ⟨a, vs, rfl, h1, n1, q1⟩ := r.tupI
    exact tuple_ofF pins s σ H _ us Q I rx ⟨a, vs, rfl, .inr ⟨h1.sq, hk.ok em r⟩⟩
  · cases e : lstD S d with
    | none => rw [e] at q; cases q
    | some ys =>
      rw [e] at q
      cases q
      obtain ⟨a, vs, rfl, h1, q1⟩ := em.lst e r
      exact tuple_ofF pins s σ H _ us Q I rx ⟨a, vs, rfl, .inl ⟨SqL.of h1, fun l o hp ho => hk.tuple Ext.refl em q1 hp ho⟩⟩
theorem b_sum (hc : X.calm = true) : CallR X (.builtin "sum") (rs P Z fun ds S => oret (bi1 (fun x => ((lstD S x).bind intsOf).map fun ns => .int ns.sum) ds) S) := by
  intro pins s σ H xs us Q I rx ⟨M, S, ds, em, rd, h⟩
  obtain ⟨w, ho, hk⟩ := Res.oret h
  obtain ⟨d, v, rfl, rfl, r, q⟩ := rd.one ho
  cases e : lstD S d with
  | none => simp [e] at q
  | some ys =>
    cases e2 : intsOf ys with
    | none => simp [e, e2] at q
    | some ns =>
      simp [e, e2] at q
      subst q
      obtain ⟨a, vs, rfl, h1, q1⟩ := em.lst e r
      have := q1.ints e2
      subst this
      exact cr_sum hc pins s σ H _ us Q I rx ⟨a, ns, rfl, SqL.of h1, hk.ok em (.int _)⟩
theorem b_max2 (hc : X.calm = true) : CallR X (.builtin "max") (rs P Z (biD .max2)) := by
  intro pins s σ H xs us Q I rx ⟨M, S, ds, em, rd, h⟩
  obtain ⟨w, ho, hk⟩ := Res.oret h
  obtain ⟨d, e, v, u, rfl, rfl, r, r2, q⟩ := rd.two ho
  unfold int2 at q
  split at q
  · cases q; cases r; cases r2
    exact call_max2 hc pins s σ H _ us Q I rx ⟨_, _, rfl, hk.ok em (.int _)⟩
  · cases q
theorem b_min2 (hc : X.calm = true) : CallR X (.builtin "min") (rs P Z (biD .min2)) := by
  intro pins s σ H xs us Q I rx ⟨M, S, ds, em, rd, h⟩
  obtain ⟨w, ho, hk⟩ := Res.oret h
  obtain ⟨d, e, v, u, rfl, rfl, r, r2, q⟩ := rd.two ho
  unfold int2 at q
  split at q
  · cases q; cases r; cases r2
    exact call_min2 hc pins s σ H _ us Q I rx ⟨_, _, rfl, hk.ok em (.int _)⟩
  · cases q
theorem b_abs : CallR X (.builtin "abs") (rs P Z (biD .abs)) := by
  intro pins s σ H xs us Q I rx ⟨M, S, ds, em, rd, h⟩
  obtain ⟨w, ho, hk⟩ := Res.oret h
  obtain ⟨d, v, rfl, rfl, r, q⟩ := rd.one ho
  unfold absD at q
  split at q
  · cases q; cases r
    exact call_abs pins s σ H _ us Q I rx ⟨_, rfl, hk.ok em (.int _)⟩
  · cases q
theorem b_divmod : CallR X (.builtin "divmod") (rs P Z (biD .divmod)) := by
  intro pins s σ H xs us Q I rx ⟨M, S, ds, em, rd, h⟩
  obtain ⟨w, ho, hk⟩ := Res.oret h
  obtain ⟨d, e, v, u, rfl, rfl, r, r2, q⟩ := rd.two ho
  unfold int2 at q
  split at q
  · obtain ⟨c, q⟩ := ifn q
    cases q; cases r; cases r2
    exact divmodF pins s σ H _ us Q I rx ⟨_, _, rfl, c, fun p o hp ho => hk.tuple Ext.refl em (.cons (.int _) (.cons (.int _) .nil)) hp ho⟩
  · cases q
theorem b_all (hc : X.calm = true) : CallR X (.builtin "all") (rs P Z (biD .all)) := by
  intro pins s σ H xs us Q I rx ⟨M, S, ds, em, rd, h⟩
  obtain ⟨w, ho, hk⟩ := Res.oret h
  obtain ⟨d, v, rfl, rfl, r, q⟩ := rd.one ho
  unfold allD at q
  cases e : lstD S d with
  | none => simp [e] at q
  | some ys =>
    cases e2 : boolsOf ys with
    | none => simp [e, e2] at q
    | some ns =>
      rw [e] at q
      simp only [Option.bind_some, e2, Option.map_some, Option.some.injEq] at q
      subst q
      obtain ⟨a, vs, rfl, h1, q1⟩ := em.lst e r
      have := q1.bools e2
      subst this
      exact cr_all hc pins s σ H _ us Q I rx ⟨a, ns, rfl, SqL.of h1, hk.ok em (.bl _)⟩
theorem b_any (hc : X.calm = true) : CallR X (.builtin "any") (rs P Z (biD .any)) := by
  intro pins s σ H xs us Q I rx ⟨M, S, ds, em, rd, h⟩
  obtain ⟨w, ho, hk⟩ := Res.oret h
  obtain ⟨d, v, rfl, rfl, r, q⟩ := rd.one ho
  unfold anyD at q
  cases e : lstD S d with
  | none => simp [e] at q
  | some ys =>
    cases e2 : boolsOf ys with
    | none => simp [e, e2] at q
    | some ns =>
      rw [e] at q
      simp only [Option.bind_some, e2, Option.map_some, Option.some.injEq] at q
      subst q
      obtain ⟨a, vs, rfl, h1, q1⟩ := em.lst e r
      have := q1.bools e2
      subst this
      exact cr_any hc pins s σ H _ us Q I rx ⟨a, ns, rfl, SqL.of h1, hk.ok em (.bl _)⟩
end
end PL
end

section
set_option Elab.async false
set_option linter.all false
set_option maxRecDepth 100000
set_option maxHeartbeats 1000000
/-! PLE2: xs[::-1] of lists and tuples. -/
namespace PL
open PySem PySem.Spec PyProof.Rows L2
theorem rev_pick (xs : List Value) : ∀ n : Nat, n ≤ xs.length → ((List.range n).filterMap fun (m : Nat) => xs[((n : Int) - 1 + (m : Int) * (-1)).toNat]?) = (xs.take n).reverse
  | 0, _ => by simp
  | n + 1, h => by
    rw [List.range_succ_eq_map, List.filterMap_cons]
    have e0 : (((n + 1 : Nat) : Int) - 1 + ((0 : Nat) : Int) * (-1)).toNat = n := by omega
    rw [e0, List.getElem?_eq_getElem (by omega)]
    simp only
    rw [List.filterMap_map, List.take_succ_eq_append_getElem (by omega), List.reverse_append]
    have e1 : ((fun (m : Nat) => xs[(((n + 1 : Nat) : Int) - 1 + (m : Int) * (-1)).toNat]?) ∘ Nat.succ) = fun (m : Nat) => xs[((n : Int) - 1 + (m : Int) * (-1)).toNat]? := by
      funext m
      show xs[(((n + 1 : Nat) : Int) - 1 + ((m.succ : Nat) : Int) * (-1)).toNat]? = _
      have : ((((n + 1 : Nat) : Int) - 1 + ((m.succ : Nat) : Int) * (-1)).toNat) = ((n : Int) - 1 + (m : Int) * (-1)).toNat := by omega
      rw [this]
    rw [e1, rev_pick xs n (by omega)]
    rfl
section
variable {prog : Program} {w : World} {A : Around} {E : Value → Shared → Prop} {s : Shared}
theorem sliceApplied_rev {sl : Addr} {vl vu vs : Value} {n : Nat} {Q : Int × Int × Nat → Shared → Prop} (hs : s.heap.IsSliceOf sl vl vu vs) (pl : IsPart vl none) (pu : IsPart vu none) (ps : IsPart vs (some (-1)))
    (h : Q ((n : Int) - 1, -1, n) s) : wpAny (model prog w) A (Builtin.Slice.sliceApplied (.ref sl) (pure (n : Int))) Q E s := by
  obtain ⟨os, hos, hcs, hds⟩ := id hs
  unfold Builtin.Slice.sliceApplied Builtin.Slice.sliceFields
  refine wpAny_bind (wpAny_bind (wpAny_field hos hds (x := vl) rfl (wpAny_bind (wpAny_field hos hds (x := vu) rfl (wpAny_bind (wpAny_field hos hds (x := vs) rfl (wpAny_pure ?_)))))))
  refine wpAny_bind (HT.slicePart_ ps ?_)
  show wpAny _ _ (if ((-1 : Int) == 0) = true then _ else _) _ _ s
  rw [if_neg (by decide)]
  refine wpAny_bind (HT.slicePart_ pl (wpAny_bind (HT.slicePart_ pu (wpAny_bind (wpAny_pure ?_)))))
  show wpAny _ _ (pure ((n : Int) - 1, (-1 : Int), Builtin.Slice.slicePlaces ((n : Int) - 1) (-1) (-1))) _ _ s
  have e : Builtin.Slice.slicePlaces ((n : Int) - 1) (-1) (-1) = n := by
    unfold Builtin.Slice.slicePlaces
    have h1 : ¬ ((-1 : Int) > 0) := by omega
    simp only [h1, if_false]
    have h2 : (-(-1) : Int) = 1 := rfl
    rw [h2, Int.ediv_one]
    split <;> omega
  rw [e]
  exact wpAny_pure h
theorem getItem_tuple_rev {t sl : Addr} {items : Array Value} {vl vu vs : Value} {Q : Value → Shared → Prop} (ht : IsTup s.heap t items) (hs : s.heap.IsSliceOf sl vl vu vs) (pl : IsPart vl none) (pu : IsPart vu none) (ps : IsPart vs (some (-1)))
    (h : Q (.ref s.heap.objs.size) { s with heap := s.heap.push (tupO items.toList.reverse) })
    (hsz : items.size ≤ sizeLine) : wpAny (model prog w) A (getItem (.ref t) (.ref sl)) Q E s := by
  have htake : sizeOk (.seq (items.toList.reverse).toArray) := by
    show (items.toList.reverse).toArray.size ≤ sizeLine
    rw [List.size_toArray, List.length_reverse, Array.length_toList]
    exact hsz
  obtain ⟨os, hos, hcs, hds⟩ := id hs
  have hTs : s.TypeIs (.ref sl) "slice" := ⟨os, hos, hcs⟩
  unfold getItem
  try with_reducible refine wpAny_holding ?_
  first | refine wpAny_bind (wpAny_pure ?_) | skip
  refine wpAny_bind (wpAny_sequenceKey ht.typeIs (by decide) ?_)
  refine wpAny_bind (wpAny_callSpecial?_slot (name := Str.ofString "__getitem__") ht.typeIs PyProof.Rows.slot_tuple_getitem
    (wpAny_call_entry PyProof.Rows.slot_tuple_getitem ht.typeIs entry_tuple_getitem ?_ (args_tuple_getitem _ _)))
  show wpAny _ _ (Builtin.Tuple.tupleItemsOf (.ref t) >>= _) _ _ s
  refine wpAny_bind (tupleItemsOf_ ht ?_)
  refine wpAny_bind (wpAny_typeOf hTs ?_)
  rw [if_pos (by decide)]
  refine wpAny_bind (sliceApplied_rev (n := items.size) hs pl pu ps ?_)
  have hno : ¬ (((((items.size : Nat) : Int) - 1) == 0 && (-1 : Int) == 1 && items.size == items.size) = true) := by
    intro q
    rw [Bool.and_eq_true, Bool.and_eq_true] at q
    have := eq_of_beq q.1.2
    omega
  show wpAny _ _ (if ((((items.size : Nat) : Int) - 1) == 0 && (-1 : Int) == 1 && items.size == items.size) = true then _ else _) _ _ s
  rw [if_neg hno]
  have e : ((List.range items.size).filterMap fun (m : Nat) => items[(((items.size : Nat) : Int) - 1 + (m : Int) * (-1)).toNat]?).toArray = (items.toList.reverse).toArray := by
    have := rev_pick items.toList items.size (by simp)
    simp only [Array.getElem?_toList] at this
    rw [this, List.take_of_length_le (by simp)]
  rw [e]
  first
    | exact wpAny_bind (m := Builtin.Tuple.tupleExact _) (wpAny_newObj_type (wpAny_pure ⟨_, rfl, wpAny_pure h⟩) htake)
    | exact wpAny_bind (m := Builtin.Tuple.tupleExact _) (wpAny_newObj_type (wpAny_bind (wpAny_pure (wpAny_pure ⟨_, rfl, wpAny_pure h⟩))) htake)
    | exact wpAny_bind (wpAny_bind (m := Builtin.Tuple.tupleExact _) (wpAny_newObj_type (wpAny_pure (wpAny_pure ⟨_, rfl, wpAny_pure h⟩)) htake))
    | exact wpAny_bind (wpAny_bind (m := Builtin.Tuple.tupleExact _) (wpAny_newObj_type (wpAny_pure ⟨_, rfl, wpAny_pure h⟩) htake))
end
section
variable {X : Cx} {e : Expr} {te : TE} {k : Nat} {p1 p2 p3 pos : Pos}
/-- e[::-1], of a list or of a tuple -/
def tRev (K : PySem.W.Frag) (te : TE) : TE := fun σ H Q => te σ H fun x H1 => ∃ a xs, x = .ref a ∧ ((SqL K H1 a xs ∧ ∀ p, H1 p = none → Q (.ref p) (upd H1 p (.lst xs.reverse))) ∨
  (SqT K H1 a xs ∧ ∀ p o, H1 p = none → o.dict = none → Q (.ref p) (upd H1 p (.frz o (.tup xs.reverse)))))
theorem pe_rev (he : PE X e te) : PE X (.Subscript e (.Slice none none (some (.UnaryOp .USub (.Constant (.int 1) k p1) p2)) p3) pos) (tRev X.K te) := by
  refine ⟨fun pins s σ H Q I h => ?_⟩
  refine Subscript_ (thn (he.run pins s σ H _ I h) fun v s1 ⟨x, H1, I1, r1, q1⟩ => ?_)
  obtain ⟨a, xs, ex, q⟩ := q1
  subst ex
  cases r1
  have hst : PO X (some (.UnaryOp .USub (.Constant (.int 1) k p1) p2)) (tPart (tUn (rU fun i => .int (-i)) (tC (.int 1)))) := po_some (pe_un un_neg pe_int)
  refine wpAny_Slice (thn (po_none.run pins s1 σ H1 (fun o H2 => o = none ∧ H2 = H1) I1 ⟨rfl, rfl⟩) fun vl s2 ⟨l, H2, I2, pl, el, e2⟩ => ?_)
  subst el e2
  refine thn (po_none.run pins s2 σ H2 (fun o H3 => o = none ∧ H3 = H2) I2 ⟨rfl, rfl⟩) fun vu s3 ⟨u, H3, I3, pu, eu, e3⟩ => ?_
  subst eu e3
  refine thn (hst.run pins s3 σ H3 (fun o H4 => o = some (-1) ∧ H4 = H3) I3 ⟨1, rfl, -1, rfl, rfl, rfl⟩) fun vs s4 ⟨o, H4, I4, ps, eo, e4⟩ => ?_
  subst eo e4
  have I5 : Inv X pins σ H4 { s4 with heap := s4.heap.push { cls := .type "slice", data := .fields #[vl, vu, vs] } } := I4.kept (t' := s4.toks) fun b ob q => Heap.get?_push_of_some _ q
  show wpAny (model X.prog X.w) X.A (subscriptTail e (.Slice none none (some (.UnaryOp .USub (.Constant (.int 1) k p1) p2)) p3) (.ref a) (.ref s4.heap.objs.size)) (EP X pins σ Q) X.xe { s4 with heap := s4.heap.push { cls := .type "slice", data := .fields #[vl, vu, vs] } }
  rcases q with ⟨hx, q⟩ | ⟨hx, q⟩
  · obtain ⟨its, r, ht, hz⟩ := I5.list hx
    have hlen := r.length
    refine tail_any (ops := [.ref a, .ref s4.heap.objs.size]) ht.isList.typeIs (PySem.slot_list_getitem.lookup) ?_ (by with_unfolding_all rfl)
    refine wpAny_getItem_list_slice ht.isList (Heap.IsSliceOf.new _ vl vu vs) pl pu ps (by decide) ?_ (by rw [List.size_toArray]; omega)
    rw [PySem.W.krv_pick]
    refine ⟨.ref _, _, I5.laid (t' := s4.toks) (o := .lst xs.reverse) (fun b ob q => Heap.get?_push_of_some _ q) (Nat.le_refl _) ?_, rfl, q _ (I5.hok.fresh (Nat.le_refl _))⟩
    exact ⟨by rw [List.length_reverse]; exact hz, _, 0, r.reverse, Heap.get?_push_size _ rfl⟩
  · obtain ⟨its, r, ht, hz⟩ := I5.tuple hx
    have hlen := r.length
    refine tail_any (ops := [.ref a, .ref s4.heap.objs.size]) ht.typeIs (PyProof.Rows.slot_tuple_getitem.lookup) ?_ (by with_unfolding_all rfl)
    refine getItem_tuple_rev ht (Heap.IsSliceOf.new _ vl vu vs) pl pu ps ?_ (by rw [List.size_toArray]; omega)
    exact ⟨.ref _, _, newTup (t' := s4.toks) I5 (vs := xs.reverse) (its := its.reverse) r.reverse (by rw [List.length_reverse]; exact hz), rfl, q _ _ (I5.hok.fresh (Nat.le_refl _)) rfl⟩
end
end PL
end

section
set_option Elab.async false
set_option linter.all false
set_option maxRecDepth 100000
set_option maxHeartbeats 1000000
/-! PLF: sorted, methods, isinstance, repr by values. -/
namespace PL
open PySem PySem.Spec PyProof.Rows L2
theorem isort_perm (ns : List Int) : (isort ns).Perm ns := List.mergeSort_perm ..
theorem isort_sorted (ns : List Int) : (isort ns).Pairwise (· ≤ ·) := by
  have h := List.pairwise_mergeSort (le := fun a b : Int => decide (a ≤ b)) (fun a b c h1 h2 => by simp only [decide_eq_true_eq] at *; omega) (fun a b => by simp only [Bool.or_eq_true, decide_eq_true_eq]; omega) ns
  exact h.imp fun q => by simpa using q
theorem isort_of {ns ms : List Int} (p : ms.Perm ns) (s : ms.Pairwise (· ≤ ·)) : ms = isort ns := by
  refine List.Perm.eq_of_pairwise (le := fun a b : Int => a ≤ b) ?_ s (isort_sorted ns) (p.trans (isort_perm ns).symm)
  intro a b _ _ h1 h2
  omega
theorem Rvs.ofInts {M : Ma} {H : Hp} : ∀ ns : List Int, Rvs M H (ns.map PyData.int) (ns.map V.int)
  | [] => .nil
  | n :: ns => .cons (.int n) (Rvs.ofInts ns)
section
variable {prog : Program} {w : World} {A : Around} {E : Value → Shared → Prop} {s : Shared}
/-- sorted(x) of a list or a tuple of ints -/
theorem sorted_ints {l : Addr} {T : String} {o : Obj} {items : Array Value} {n : Nat} {ns : List Int} {Q : Value → Shared → Prop} (hT : T = "list" ∨ T = "tuple")
    (ho : s.heap.get? l = some o) (hc : o.cls = .type T) (hd : o.data = .seq items n) (hi : IntsAre items.toList ns) (hz : items.size ≤ sizeLine)
    (h : ∀ (h1 h2 : Heap) (out : List Value) (c : Nat), (∀ b o, s.heap.get? b = some o → h1.get? b = some o) → (∀ b o, h1.get? b = some o → h2.get? b = some o) → h2.get? h1.objs.size = some (seqObj "list" out.toArray c) → IntsAre out (isort ns) → Q (.ref h1.objs.size) { s with heap := h2 }) :
    wpAny (model prog w) A (call (.builtin "sorted") [.ref l]) Q E s := by
  refine Calls.call_function_entry kind_sorted plain_sorted entry_sorted (args_sorted1 _) ?_
  unfold Builtin.«sorted»
  refine wpAny_bind (m := checkCount "sorted" 1 1 _) (wpAny_pure ?_)
  refine wpAny_bind (wpAny_collect_seq l hT ho hc hd (fun h1 k1 => ?_) hz)
  refine wpAny_bind (wpAny_newList ?_ (by rw [Array.length_toList]; exact hz))
  have hoL : (h1.push (seqObj "list" items.toList.toArray 0)).get? h1.objs.size = some (seqObj "list" items.toList.toArray 0) := Heap.get?_push_size _ rfl
  refine wpAny_bind (wpAny_holding (wpAny_call_entry slot_list_sort ⟨_, hoL, rfl⟩ entry_list_sort
    (SrtO.list_sort_ord SrtO.swo_int hoL (by rw [Array.length_toList]; exact hz) (fun h2 => SrtO.ints_sortable hi h2) fun out hs hb => ⟨_, rfl, ?_⟩) (args_list_sort _)))
  obtain ⟨e1, e2, e3⟩ := SrtO.ints_out hi hs hb
  obtain ⟨c, hc'⟩ := sortedHeap_at (vs := items.toList) (out := out.toArray) hoL
  refine wpAny_pure ⟨_, rfl, h h1 _ out c k1 (fun b u e => ?_) hc' (by rw [← isort_of e2 e3]; exact e1)⟩
  have hlt := Heap.lt_size e
  show (sortedHeap (h1.push (seqObj "list" items.toList.toArray 0)) h1.objs.size items.toList out.toArray).get? b = some u
  rw [sortedHeap_old (Nat.ne_of_lt hlt) (by rw [size_push']; exact Nat.lt_succ_of_lt hlt)]
  exact Heap.get?_push_of_some _ e
end
section
variable {P : Pg} {Γ : Ga} {X : Cx} {Z : ZX}
theorem b_sorted (r : Bool) : CallR X (.builtin "sorted") (rs P Z (biD (.sorted r))) := by
  intro pins s σ H xs us Q I rx ⟨M, S, ds, em, rd, h⟩
  obtain ⟨ys, ho, hk⟩ := Res.allo h
  obtain ⟨d, v, rfl, rfl, r, q⟩ := rd.oneL ho
  obtain ⟨hl, hk⟩ := Res.alloc hk
  unfold sortedD at q
  cases e : seqD S d with
  | none => rw [e] at q; cases q
  | some zs =>
    cases e2 : intsOf zs with
    | none => simp [e, e2] at q
    | some ns =>
      simp only [e, e2, Option.bind_some, Option.map_some, Option.some.injEq] at q
      subst q
      obtain ⟨a, vs, rfl, h1, q1⟩ := em.seq e r
      have := q1.ints e2
      subst this
      rw [Vals.ref1 rx]
      have key : ∀ {T : String} {o : Obj} {its : List Value} {n : Nat}, (T = "list" ∨ T = "tuple") → s.heap.get? a = some o → o.cls = .type T → o.data = .seq its.toArray n → Vals (ns.map V.int) its → its.length ≤ sizeLine →
          wpAny (model X.prog X.w) X.A (call (.builtin "sorted") [.ref a]) (EP X pins σ Q) X.xe s := by
        intro T o its n hT ho hc hd rv hz
        refine sorted_ints (ns := ns) hT ho hc hd (by simpa using rv.ints) (by simpa using hz) fun h1 h2 out c k1 k2 g e3 => ?_
        have I1 : L2.Inv X pins σ H { s with heap := h1 } := I.kept (t' := s.toks) k1
        have hn : H h1.objs.size = none := I1.hok.fresh (Nat.le_refl _)
        refine ⟨.ref h1.objs.size, upd H h1.objs.size (.lst ((isort ns).map V.int)), I1.laid (t' := s.toks) k2 (Nat.le_refl _) ⟨?_, out, c, ?_, g⟩, rfl, ?_⟩
        · simp only [List.length_map] at hl ⊢
          rw [← lim_eq]; exact hl
        · exact vals_of_ints e3
        · exact hk M H _ _ Ext.refl em (Rvs.ofInts _) hn
      rcases h1 with h1 | h1
      · obtain ⟨hz, its, n, rv, hob⟩ := I.hok a _ h1
        exact key (.inl rfl) hob rfl rfl rv (by rw [← rv.length]; exact hz)
      · obtain ⟨its, rv, ⟨o, ho, hc, n, hd⟩, hz⟩ := I.tuple (h1.sq)
        exact key (.inr rfl) ho hc hd rv (by rw [← rv.length]; exact hz)
end
end PL
end

section
set_option Elab.async false
set_option linter.all false
set_option maxRecDepth 100000
set_option maxHeartbeats 1000000
/-! PLG: methods of built-in types, isinstance, repr by values. -/
namespace PL
open PySem PySem.Spec PyProof.Rows L2
section
variable {P : Pg} {Γ : Ga} {X : Cx} {Z : ZX}
/-- a method's call by values -/
def rm (P : Pg) (Z : ZX) (k : Kd) (m : Bm) : V → List V → Hp → VK → Prop := fun x xs H Q => ∃ M S d ds, kdX d = k ∧ P.Emb M H S ∧ Rv M H d x ∧ Rvs M H ds xs ∧ Res P Rv M H (bmD m d ds S) Q Z
theorem Rvs.o1 {M : Ma} {H : Hp} {d : D} {xs : List V} (h : Rvs M H [d] xs) : ∃ v, xs = [v] ∧ Rv M H d v := by
  cases h with
  | cons r t => cases t; exact ⟨_, rfl, r⟩
theorem Rvs.o0 {M : Ma} {H : Hp} {xs : List V} (h : Rvs M H [] xs) : xs = [] := by
  cases h; rfl
theorem Res.updL {M : Ma} {H : Hp} {S : Sto} {x : D} {v : V} {f : List D → Option (D × List D)} {Q : VK} (h : Res P Rv M H (PL.updL S x f) Q Z) (em : P.Emb M H S) (rd : Rv M H x v) :
    ∃ a xs vs d ys, v = .ref a ∧ H a = some (.lst vs) ∧ Rvs M H xs vs ∧ f xs = some (d, ys) ∧ ∀ ws w, Rvs M H ys ws → Rv M H d w → Q w (upd H a (.lst ws)) := by
  unfold PL.updL at h
  split at h
  · rename_i i hi
    have hx := asRef_some hi
    subst hx
    cases q : objL S i with
    | none => rw [q] at h; exact h.elim
    | some xs =>
      rw [q] at h
      cases q2 : f xs with
      | none => simp [q2] at h; exact h.elim
      | some p =>
        obtain ⟨d, ys⟩ := p
        simp [q2] at h
        obtain ⟨a, rfl, hm⟩ := rd.refI
        have hs := objL_some q
        obtain ⟨vs, h1, h2⟩ := em.ob i a _ hm hs
        refine ⟨a, xs, vs, d, ys, rfl, h1, h2, q2, fun ws w r1 r2 => ?_⟩
        have hmem : a ∈ M := .inl (List.mem_of_getElem? hm)
        have e : Ext M H M (upd H a (.lst ws)) := Ext.mut hmem fun z => (em.df a z).2 (List.mem_of_getElem? hm)
        exact h M _ w e (Emb.mut em hm (List.getElem?_eq_some_iff.mp hs).1 ⟨ws, upd_same, r1.mono e⟩ fun ps z => by rw [h1] at z; cases z) (r2.mono e)
  · exact h.elim
theorem m_append : MtR X "list.append" (rm P Z .list .append) := by
  intro pins s σ H x xs v us Q I rx rs ⟨M, S, d, ds, hk, em, rd, rds, h⟩
  simp only [bmD] at h
  split at h
  · obtain ⟨y, rfl, ry⟩ := rds.o1
    obtain ⟨a, zs, vs, e, ys, rfl, h1, q1, hf, hq⟩ := Res.updL h em rd
    obtain ⟨c, hf⟩ := ifn hf
    cases hf
    exact mt_append pins s σ H _ _ v us Q I rx rs ⟨a, vs, y, rfl, rfl, h1, by rw [← q1.length, ← lim_eq]; exact c, hq _ _ (q1.append (.cons ry .nil)) .non⟩
  · exact h.elim
theorem m_extend : MtR X "list.extend" (rm P Z .list .extend) := by
  intro pins s σ H x xs v us Q I rx rs ⟨M, S, d, ds, hk, em, rd, rds, h⟩
  simp only [bmD] at h
  split at h
  · obtain ⟨y, rfl, ry⟩ := rds.o1
    split at h
    · rename_i ys hy
      obtain ⟨a, zs, vs, e, us', rfl, h1, q1, hf, hq⟩ := Res.updL h em rd
      obtain ⟨c, hf⟩ := ifn hf
      cases hf
      obtain ⟨b, ws, rfl, h2, q2⟩ := em.lst hy ry
      exact mt_extend pins s σ H _ _ v us Q I rx rs ⟨a, b, vs, ws, rfl, rfl, h1, h2, by rw [← q1.length, ← q2.length, ← lim_eq]; exact c, hq _ _ (q1.append q2) .non⟩
    · exact h.elim
  · exact h.elim
theorem m_pop : MtR X "list.pop" (rm P Z .list .pop) := by
  intro pins s σ H x xs v us Q I rx rs ⟨M, S, d, ds, hk, em, rd, rds, h⟩
  simp only [bmD] at h
  split at h
  · have := rds.o0
    subst this
    obtain ⟨a, zs, vs, e, ys, rfl, h1, q1, hf, hq⟩ := Res.updL h em rd
    cases g : zs.getLast? with
    | none => rw [g] at hf; cases hf
    | some y =>
      rw [g] at hf
      cases hf
      rw [List.getLast?_eq_getElem?] at g
      obtain ⟨w, g2, r2⟩ := q1.get' g
      refine mt_pop pins s σ H _ _ v us Q I rx rs ⟨a, vs, w, rfl, rfl, h1, by rw [← q1.length]; exact g2, hq _ _ ?_ r2⟩
      rw [List.dropLast_eq_take, List.dropLast_eq_take, ← q1.length]
      exact q1.take _
  · exact h.elim
theorem Rvs.eraseIdx {M : Ma} {H : Hp} : ∀ {ds : List D} {vs : List V} (i : Nat), Rvs M H ds vs → Rvs M H (ds.eraseIdx i) (vs.eraseIdx i)
  | _, _, _, .nil => .nil
  | _, _, 0, .cons _ t => t
  | _, _, i + 1, .cons r t => .cons r (Rvs.eraseIdx i t)
theorem m_popAt : MtR X "list.pop" (rm P Z .list .popAt) := by
  intro pins s σ H x xs v us Q I rx rs ⟨M, S, d, ds, hk, em, rd, rds, h⟩
  simp only [bmD] at h
  split at h
  · rename_i k
    obtain ⟨y, rfl, ry⟩ := rds.o1
    cases ry
    obtain ⟨a, zs, vs, e, ys, rfl, h1, q1, hf, hq⟩ := Res.updL h em rd
    obtain ⟨c, hf⟩ := ifn hf
    cases g : zs[k.toNat]? with
    | none => rw [g] at hf; cases hf
    | some y =>
      rw [g] at hf
      cases hf
      obtain ⟨w, g2, r2⟩ := q1.get' g
      have hl := (List.getElem?_eq_some_iff.mp g2).1
      exact mt_popAt pins s σ H _ _ v us Q I rx rs ⟨a, vs, k, k.toNat, w, rfl, rfl, h1, by omega, by omega, PySem.seqIndex_of c.1 (by omega), g2, hq _ _ (q1.eraseIdx _) r2⟩
  · exact h.elim
/-- what a search asks -/
theorem find_reads {pins : List (Addr × Obj)} {s : Shared} {σ : L2.St} {H : Hp} {M : Ma} {S : Sto} {d w : D} {x y : V} {v u : Value} {xs : List D} (em : P.Emb M H S) (I : L2.Inv X pins σ H s) (rd : Rv M H d x) (rx : RelV x v) (rw' : Rv M H w y) (ry : RelV y u) (h : seqD S d = some xs) (p : findOk w xs = true) :
    PyData.plainAll xs = true ∧ w.plain = true ∧ w.depth ≤ depthMax ∧ (∃ bs, Reads s.heap u w bs) ∧ ∃ a vs its as, x = .ref a ∧ Rvs M H xs vs ∧ Vals vs its ∧ ReadsAll s.heap its.toArray.toList xs as ∧
      ((H a = some (.lst vs) ∧ s.heap.IsList a its.toArray ∧ vs.length ≤ sizeLine ∧ ∃ n, s.heap.get? a = some { cls := .type "list", data := .seq its.toArray n }) ∨ (TupF H a vs ∧ IsTup s.heap a its.toArray)) := by
  unfold findOk at p
  rw [Bool.and_eq_true] at p
  obtain ⟨p1, p2⟩ := eqOk_dec p.1
  obtain ⟨p3, p4⟩ := all_ok p.2
  refine ⟨p3, p1, p2, Dp.reads I w y u (rw'.dp p1) ry, ?_⟩
  obtain ⟨a, vs, rfl, h1, q⟩ := em.seq h rd
  have dp : DpAll X.K H vs xs := q.dp p3
  rcases h1 with h1 | h1
  · obtain ⟨hz, its, n, rv, hob⟩ := I.hok a _ h1
    obtain ⟨as, r⟩ := Dp.readsAll I xs vs its dp rv
    exact ⟨a, vs, its, as, rfl, q, rv, by simpa using r, .inl ⟨h1, ⟨_, hob, rfl, n, rfl⟩, hz, n, hob⟩⟩
  · obtain ⟨its, rv, pl, hz⟩ := I.tuple (xs := vs) h1.sq
    obtain ⟨as, r⟩ := Dp.readsAll I xs vs its dp rv
    exact ⟨a, vs, its, as, rfl, q, rv, by simpa using r, .inr ⟨h1, pl⟩⟩
theorem tup_list_form {S : Sto} {d : D} {xs : List D} (h : seqD S d = some xs) : (kdX d = .tuple ∧ d = .tuple xs) ∨ (kdX d = .list ∧ lstD S d = some xs) := by
  rcases seqD_some h with rfl | h1
  · exact .inl ⟨rfl, rfl⟩
  · rcases h1 with rfl | ⟨i, rfl, hs⟩
    · exact .inr ⟨rfl, rfl⟩
    · exact .inr ⟨rfl, by rw [lstD_rf]; exact objL_of hs⟩
/-- a tuple's object, or a list's -/
theorem tupNotLst {H : Hp} {a : Addr} {vs ws : List V} (h1 : H a = some (.lst vs)) (h2 : TupF H a ws) : False := by
  obtain ⟨o, h2, _⟩ := h2
  rw [h1] at h2
  cases h2
theorem m_count (F : Fit P Γ X) {k : Kd} (id : String) (hid : (k = .list ∧ id = "list.count") ∨ (k = .tuple ∧ id = "tuple.count")) : MtR X id (rm P Z k .count) := by
  intro pins s σ H x xs v us Q I rx rs ⟨M, S, d, ds, hk, em, rd, rds, h⟩
  simp only [bmD] at h
  obtain ⟨w, ho, hq⟩ := Res.oret h
  obtain ⟨c, y, rfl, rfl, ry, q⟩ := rds.one ho
  cases e : seqD S d with
  | none => rw [e] at q; cases q
  | some zs =>
    rw [e] at q
    obtain ⟨c1, q⟩ := ifn q
    cases q
    obtain ⟨u, rfl, ru⟩ := vals1 rs
    obtain ⟨p1, p2, p3, ⟨bs, rb⟩, a, vs, its, as, rfl, q1, rv, ra, hh⟩ := find_reads em I rd rx ry ru e c1
    cases rx
    have hu := F.units
    have hu2 : X.A.units + 1 + min (PyData.depthAll zs) c.depth < cLine := by unfold depthMax at p3; omega
    have fin : EP X pins σ Q (.int ((zs.countP fun y => PyData.eqv y c : Nat) : Int) s.toks) { s with toks := s.toks + 1 } := ⟨.int _, H, I.tok _, ⟨_, rfl⟩, hq.ok em (.int _)⟩
    rcases tup_list_form e with ⟨f1, f2⟩ | ⟨f1, f2⟩
    · subst f2
      obtain ⟨a', vs', e1, h1, _, _⟩ := rd.tupI
      cases e1
      rcases hh with ⟨h2, _⟩ | ⟨_, hT⟩
      · exact (tupNotLst h2 h1).elim
      · rcases hid with ⟨z, _⟩ | ⟨_, rfl⟩
        · rw [f1] at hk; rw [← hk] at z; cases z
        · exact SeqAt.count_tuple_data hT ra rb p1 p2 hu2 fin
    · obtain ⟨a', vs', e1, h1, _⟩ := em.lst f2 rd
      cases e1
      rcases hh with ⟨h2, hL, _⟩ | ⟨h2, _⟩
      · rcases hid with ⟨_, rfl⟩ | ⟨z, _⟩
        · exact SeqAt.count_list_data hL ra rb p1 p2 hu2 fin
        · rw [f1] at hk; rw [← hk] at z; cases z
      · exact (tupNotLst h1 h2).elim
theorem place_of {zs : List D} {c : D} (h : zs.any (eqvR c) = true) : SeqAt.dataPlace zs c = some (zs.findIdx (eqvR c)) ∧ zs.findIdx (eqvR c) < zs.length := by
  have hl : zs.findIdx (eqvR c) < zs.length := by
    rw [List.any_eq_true] at h
    exact List.findIdx_lt_length.mpr h
  refine ⟨?_, hl⟩
  show zs.findIdx? (eqvR c) = _
  rw [List.findIdx?_eq_some_iff_findIdx_eq]
  exact ⟨hl, rfl⟩
theorem m_index (F : Fit P Γ X) {k : Kd} (id : String) (hid : (k = .list ∧ id = "list.index") ∨ (k = .tuple ∧ id = "tuple.index")) : MtR X id (rm P Z k .index) := by
  intro pins s σ H x xs v us Q I rx rs ⟨M, S, d, ds, hk, em, rd, rds, h⟩
  simp only [bmD] at h
  obtain ⟨w, ho, hq⟩ := Res.oret h
  obtain ⟨c, y, rfl, rfl, ry, q⟩ := rds.one ho
  cases e : seqD S d with
  | none => rw [e] at q; cases q
  | some zs =>
    rw [e] at q
    obtain ⟨c1, q⟩ := ifn q
    cases q
    rw [Bool.and_eq_true] at c1
    obtain ⟨u, rfl, ru⟩ := vals1 rs
    obtain ⟨p1, p2, p3, ⟨bs, rb⟩, a, vs, its, as, rfl, q1, rv, ra, hh⟩ := find_reads em I rd rx ry ru e c1.1
    cases rx
    have hu := F.units
    have hu2 : X.A.units + 1 + min (PyData.depthAll zs) c.depth < cLine := by unfold depthMax at p3; omega
    obtain ⟨hp, hl⟩ := place_of c1.2
    obtain ⟨hj, hit, hno⟩ := SeqAt.hit_at ra p1 hp
    have fin : EP X pins σ Q (.int ((zs.findIdx (eqvR c) : Nat) : Int) s.toks) { s with toks := s.toks + 1 } := ⟨.int _, H, I.tok _, ⟨_, rfl⟩, hq.ok em (.int _)⟩
    rcases tup_list_form e with ⟨f1, f2⟩ | ⟨f1, f2⟩
    · subst f2
      obtain ⟨a', vs', e1, h1, _, _⟩ := rd.tupI
      cases e1
      rcases hh with ⟨h2, _⟩ | ⟨_, hT⟩
      · exact (tupNotLst h2 h1).elim
      · rcases hid with ⟨z, _⟩ | ⟨_, rfl⟩
        · rw [f1] at hk; rw [← hk] at z; cases z
        · obtain ⟨⟨cls, dd, data, sl⟩, ho, hc, n, hd'⟩ := id hT
          simp only at hc hd'
          subst hc hd'
          exact PySem.call_meets PySem.F.slot_tuple_index ⟨_, ho, rfl⟩ PySem.F.entry_tuple_index (PySem.F.args_tuple_index_2 _ _) (TI.tuple_indexAt a its.toArray n dd sl u _ _ hj hit hno) ⟨ho, SeqAt.items_plain ra rb p1 p2 hu2, fin⟩
    · obtain ⟨a', vs', e1, h1, _⟩ := em.lst f2 rd
      cases e1
      rcases hh with ⟨h2, hL, hz, n, hob⟩ | ⟨h2, _⟩
      · rcases hid with ⟨_, rfl⟩ | ⟨z, _⟩
        · refine PySem.call_meets PySem.F.slot_list_index ⟨_, hob, rfl⟩ PySem.F.entry_list_index (PySem.F.args_list_index_2 _ _) (SeqAt.list_indexAt a its.toArray n none #[] u _ _ hj ?_ hit hno) ⟨hob, SeqAt.items_plain ra rb p1 p2 hu2, fin⟩
          have hn := L2.line63
          have := q1.length
          omega
        · rw [f1] at hk; rw [← hk] at z; cases z
      · exact (tupNotLst h1 h2).elim
theorem eraseP_idx {zs : List D} {c : D} (h : zs.any (eqvR c) = true) : zs.eraseP (eqvR c) = zs.eraseIdx (zs.findIdx (eqvR c)) := by
  rw [List.eraseP_eq_eraseIdx]
  have e := (place_of h).1
  change zs.findIdx? (eqvR c) = _ at e
  rw [e]
theorem m_remove (F : Fit P Γ X) : MtR X "list.remove" (rm P Z .list .remove) := by
  intro pins s σ H x xs v us Q I rx rs ⟨M, S, d, ds, hk, em, rd, rds, h⟩
  simp only [bmD] at h
  split at h
  · rename_i c
    obtain ⟨y, rfl, ry⟩ := rds.o1
    obtain ⟨a, zs, vs, e, ys, rfl, h1, q1, hf, hq⟩ := Res.updL h em rd
    obtain ⟨c1, hf⟩ := ifn hf
    cases hf
    rw [Bool.and_eq_true] at c1
    obtain ⟨u, rfl, ru⟩ := vals1 rs
    obtain ⟨hz, its, n, rv, hob⟩ := I.hok a _ h1
    have c2 := c1.1
    unfold findOk at c2
    rw [Bool.and_eq_true] at c2
    obtain ⟨p1, p2⟩ := eqOk_dec c2.1
    obtain ⟨p3, p4⟩ := all_ok c2.2
    obtain ⟨bs, rb⟩ := Dp.reads I _ _ _ (ry.dp p1) ru
    obtain ⟨as, ra⟩ := Dp.readsAll I _ _ _ (q1.dp p3) rv
    cases rx
    have hu := F.units
    have hu2 : X.A.units + 1 + min (PyData.depthAll zs) c.depth < cLine := by unfold depthMax at p2; omega
    obtain ⟨hp, hl⟩ := place_of c1.2
    refine SeqAt.remove_list_data (vs := its.toArray) ⟨_, hob, rfl, n, rfl⟩ (by simpa using ra) rb p3 p1 hu2 hp (by rw [List.size_toArray, ← rv.length]; exact hz) ?_
    rw [eraseP_idx c1.2] at hq
    refine ⟨.non, upd H a (.lst (vs.eraseIdx (zs.findIdx (eqvR c)))), I.lset (t' := s.toks) (its' := its.eraseIdx (zs.findIdx (eqvR c))) h1 hob ?_ (rv.eraseIdx _) ?_, rfl, hq _ _ (q1.eraseIdx _) .non⟩
    · rw [List.eraseIdxIfInBounds_toArray]
    · have := len_erase vs (zs.findIdx (eqvR c))
      omega
  · exact h.elim
theorem m_join : MtR X "str.join" (rm P Z .str .join) := by
  intro pins s σ H x xs v us Q I rx rs ⟨M, S, d, ds, hk, em, rd, rds, h⟩
  simp only [bmD] at h
  split at h
  · rename_i z
    obtain ⟨w, ho, hq⟩ := Res.oret h
    obtain ⟨c, y, rfl, rfl, ry, q⟩ := rds.one ho
    cases e : seqD S c with
    | none => rw [e] at q; cases q
    | some zs =>
      cases e2 : strsOf zs with
      | none => simp [e, e2] at q
      | some ys =>
        rw [e] at q
        simp only [Option.bind_some, e2] at q
        obtain ⟨c1, q⟩ := ifn q
        cases q
        cases rd
        obtain ⟨a, vs, rfl, h1, q1⟩ := em.seq e ry
        have := q1.strs e2
        subst this
        exact mt_join pins s σ H _ _ v us Q I rx rs ⟨z, a, ys, rfl, rfl, h1.imp SqL.of TupF.sq, c1, hq.ok em (.str _)⟩
  · exact h.elim
theorem Rvs.ofStrs {M : Ma} {H : Hp} : ∀ ns : List Str, Rvs M H (ns.map PyData.str) (ns.map V.str)
  | [] => .nil
  | n :: ns => .cons (.str n) (Rvs.ofStrs ns)
theorem m_split : MtR X "str.split" (rm P Z .str .split) := by
  intro pins s σ H x xs v us Q I rx rs ⟨M, S, d, ds, hk, em, rd, rds, h⟩
  simp only [bmD] at h
  split at h
  · rename_i z b
    obtain ⟨y, rfl, ry⟩ := rds.o1
    cases ry
    cases rd
    split at h
    · rename_i c
      refine mt_split pins s σ H _ _ v us Q I rx rs ⟨z, b, rfl, rfl, by simpa using c.1, by rw [← lim_eq]; exact c.2, fun p hp => ?_⟩
      have e : Ext M H M (upd H p (.lst ((Txt.split z b).map V.str))) := Ext.alloc hp
      exact h M _ _ e (em.alloc hp) (.lst upd_same (em.no hp) (Rvs.ofStrs _))
    · exact h.elim
  · exact h.elim
/-! ### a method's call -/
def bmName : Bm → Str
  | .append => "append"
  | .extend => "extend"
  | .remove => "remove"
  | .pop => "pop"
  | .popAt => "pop"
  | .count => "count"
  | .index => "index"
  | .join => "join"
  | .split => "split"
def kdName : Kd → String
  | .list => "list"
  | .tuple => "tuple"
  | .str => "str"
/-- the receiver's type, its method's rule -/
theorem m_all (F : Fit P Γ X) (k : Kd) (m : Bm) (hk : match k with | .tuple => m = .count ∨ m = .index | .str => m = .join ∨ m = .split | .list => m ≠ .join ∧ m ≠ .split) :
    ∃ id, PlainAttrs (kdName k) ∧ Slot (kdName k) (bmName m) id ∧ typeOf (.builtin id) = pure (.type "method_descriptor") ∧ MtR X id (rm P Z k m) := by
  cases k with
  | tuple =>
    rcases hk with rfl | rfl
    · exact ⟨_, PySem.F.plainAttrs_tuple, PySem.F.slot_tuple_count, PySem.F.type_tuple_count, m_count F _ (.inr ⟨rfl, rfl⟩)⟩
    · exact ⟨_, PySem.F.plainAttrs_tuple, PySem.F.slot_tuple_index, PySem.F.type_tuple_index, m_index F _ (.inr ⟨rfl, rfl⟩)⟩
  | str =>
    rcases hk with rfl | rfl
    · exact ⟨_, PySem.F.plainAttrs_str, PySem.F.slot_str_join, PySem.F.type_str_join, m_join⟩
    · exact ⟨_, PySem.F.plainAttrs_str, PySem.F.slot_str_split, PySem.F.type_str_split, m_split⟩
  | list =>
    cases m with
    | append => exact ⟨_, PySem.F.plainAttrs_list, PySem.F.slot_list_append, PySem.F.type_list_append, m_append⟩
    | extend => exact ⟨_, PySem.F.plainAttrs_list, PySem.F.slot_list_extend, PySem.F.type_list_extend, m_extend⟩
    | remove => exact ⟨_, PySem.F.plainAttrs_list, PySem.F.slot_list_remove, PySem.F.type_list_remove, m_remove F⟩
    | pop => exact ⟨_, PySem.F.plainAttrs_list, PySem.F.slot_list_pop, PySem.F.type_list_pop, m_pop⟩
    | popAt => exact ⟨_, PySem.F.plainAttrs_list, PySem.F.slot_list_pop, PySem.F.type_list_pop, m_popAt⟩
    | count => exact ⟨_, PySem.F.plainAttrs_list, PySem.F.slot_list_count, PySem.F.type_list_count, m_count F _ (.inl ⟨rfl, rfl⟩)⟩
    | index => exact ⟨_, PySem.F.plainAttrs_list, PySem.F.slot_list_index, PySem.F.type_list_index, m_index F _ (.inl ⟨rfl, rfl⟩)⟩
    | join => exact absurd rfl hk.1
    | split => exact absurd rfl hk.2
theorem kd_on {pins : List (Addr × Obj)} {s : Shared} {σ : L2.St} {H : Hp} {M : Ma} {S : Sto} {d : D} {x : V} {v : Value} {m : Bm} (em : P.Emb M H S) (I : L2.Inv X pins σ H s) (rd : Rv M H d x) (rx : RelV x v) (h : kdD S m d = true) :
    (match kdX d with | .tuple => m = .count ∨ m = .index | .str => m = .join ∨ m = .split | .list => m ≠ .join ∧ m ≠ .split) ∧ s.TypeIs v (kdName (kdX d)) ∧ ∀ a, v = .ref a → ∃ ob, s.heap.get? a = some ob ∧ ob.dict = none := by
  unfold kdD at h
  cases e : kdX d with
  | tuple =>
    rw [e] at h
    cases d with
    | tuple xs =>
      obtain ⟨a, vs, rfl, ⟨o, h1, h2⟩, _⟩ := rd.tupI
      cases rx
      obtain ⟨h3, hz, its, rv, o', h4, h5, h6⟩ := I.hok a _ h1
      rw [h3] at h4
      cases h4
      exact ⟨by simpa using h, ⟨o, h3, h5⟩, fun b z => by cases z; exact ⟨o, h3, h2⟩⟩
    | _ => cases e
  | str =>
    rw [e] at h
    cases d with
    | str z =>
      cases rd
      obtain ⟨t, rfl⟩ := rx
      exact ⟨by simpa using h, typeIs_str s z t, fun _ z => nomatch z⟩
    | _ => cases e
  | list =>
    rw [e] at h
    simp only [Bool.and_eq_true, decide_eq_true_eq, Option.isSome_iff_exists] at h
    obtain ⟨h1, xs, h2⟩ := h
    obtain ⟨a, vs, rfl, h3, _⟩ := em.lst h2 rd
    cases rx
    obtain ⟨hz, its, n, rv, hob⟩ := I.hok a _ h3
    exact ⟨h1, ⟨_, hob, rfl⟩, fun b z => by cases z; exact ⟨_, hob, rfl⟩⟩
end
end PL
end

section
set_option Elab.async false
set_option linter.all false
set_option maxRecDepth 100000
set_option maxHeartbeats 1000000
/-! PLH: what is walked. -/
namespace PL
open PySem PySem.Spec PyProof.Rows L2 RZ
/-! ### enumerate of a tuple -/
set_option maxHeartbeats 2000000 in
theorem meets_enum1 {v : Value} {o : Obj} {W : Heap → Prop} (B : Begins v o W) :
    Meets (Builtin.«enumerate.__new__» ⟨[.type "enumerate", v], []⟩) (fun _ R s => W s.heap ∧
      R (.ok (.ret (.ref (s.heap.push o).objs.size))) { s with heap := (s.heap.push o).push { cls := .type "enumerate", data := .fields #[.none, .bool false, .ref s.heap.objs.size, rawInt 0, .none, .none] } }) :=
  .of_wp fun prog w A R s h => by
    obtain ⟨hp, g, d, tk, os⟩ := s
    obtain ⟨h1, h⟩ := h
    have hsub := sub_enumerate
    have q1 : ∀ {A' : Around} {E : Value → Shared → Prop} {Q : Value → Shared → Prop}, Q (.ref hp.objs.size) ⟨hp.push o, g, d, tk, os⟩ → wpAny (model prog w) A' (pyIter v) Q E ⟨hp, g, d, tk, os⟩ :=
      fun q => B.iter prog w _ _ ⟨hp, g, d, tk, os⟩ _ h1 q
    wp_walk using q1
    refine wpAny_stack_any fun st => wpAny_pure ?_
    split
    · rename_i c _ _ _ _ _
      cases (c == Value.type "enumerate") <;> (wp_walk using q1; exact ⟨_, rfl, h⟩)
    · wp_walk using q1
      exact ⟨_, rfl, h⟩
section
variable {prog : Program} {w : World} {A : Around} {E : Value → Shared → Prop} {s : Shared}
theorem call_enum1 {v : Value} {o : Obj} {W : Heap → Prop} {Q : Value → Shared → Prop} (B : Begins v o W) (h1 : W s.heap)
    (h : ∀ h', IsEnum h' (s.heap.objs.size + 1) s.heap.objs.size 0 .none → h'.get? s.heap.objs.size = some o → (∀ b o, s.heap.get? b = some o → h'.get? b = some o) → Q (.ref (s.heap.objs.size + 1)) { s with heap := h' }) :
    wpAny (model prog w) A (call (.type "enumerate") [v]) Q E s := by
  refine callType_new F.called_enumerate (by decide) (F.typeCall_enumerate_1 _) (F.newCall_enumerate_1 _) (fun obj => F.args_object_init_2 obj _) F.entry_enumerate_new (meets_enum1 B) ⟨h1, ?_⟩
  have hz : (s.heap.push o).objs.size = s.heap.objs.size + 1 := Heap.size_push ..
  show _ ∧ _
  rw [hz]
  have he : IsEnum ((s.heap.push o).push { cls := .type "enumerate", data := .fields #[.none, .bool false, .ref s.heap.objs.size, rawInt 0, .none, .none] }) (s.heap.objs.size + 1) s.heap.objs.size 0 .none := by
    have q := Heap.get?_push_size (s.heap.push o) (o := { cls := .type "enumerate", data := .fields #[.none, .bool false, .ref s.heap.objs.size, rawInt 0, .none, .none] }) rfl
    rw [hz] at q
    exact q
  exact ⟨⟨_, he, rfl⟩, h _ he (Heap.get?_push_of_some _ (Heap.get?_push_size _ B.free)) fun b o x => Heap.get?_push_of_some _ (Heap.get?_push_of_some _ x)⟩
end
/-- the tuple at a, each item in a new pair -/
def IteT (K : PySem.W.Frag) (a : Addr) : It :=
  ⟨fun i H => ∃ (xs : List V) (x : V), SqT K H a xs ∧ xs[i]? = some x, fun i H v H' => ∃ T x, v = .ref T ∧ H T = none ∧ H' = upd H T (.tup [.int (i : Nat), x]) ∧ ∀ xs, SqT K H a xs → xs[i]? = some x, fun i H => ∃ xs : List V, SqT K H a xs ∧ xs.length ≤ i⟩
theorem turn_enumT {P : Program} {w : World} {K : PySem.W.Frag} {elts : List Expr} {kk : Nat} {tpos : Pos} (a e it : Addr) (hai : a ≠ it) :
    Turn P w K (.Tuple elts kk tpos) (IteT K a) [e, it] e (fun i h => (∃ old, IsEnum h e it ((i : Nat) : Int) old) ∧ h.IsTupleIter it a i ∧ e ≠ it ∧ e ≠ a) where
  mem := by simp
  obj := fun i h st b hb => by
    obtain ⟨⟨old, he⟩, ⟨o, ho, hc, hd⟩, _⟩ := st
    have e' : b = e ∨ b = it := by simpa using hb
    rcases e' with z | z
    · rw [z]; exact ⟨_, he, fun v q => nomatch q⟩
    · rw [z]; exact ⟨o, ho, fun v q => by rw [hd] at q; cases q⟩
  keep := fun i h h' st k => let ⟨⟨old, he⟩, hi, hne⟩ := st; ⟨⟨old, k e (by simp) _ he⟩, hi.at fun o q => k it (by simp) o q, hne⟩
  item := by
    intro X hP hw hK hc i pins s σ H E I hf st hg
    subst hP hw hK
    obtain ⟨⟨old, he⟩, hit, hne, hea⟩ := st
    obtain ⟨xs, x, hq, hx⟩ := hg
    obtain ⟨its, rv, p, hz⟩ := I.tuple hq
    obtain ⟨u, hu, ru⟩ := rv.get hx
    have hel : e < s.heap.objs.size := Heap.lt_size he
    have hil : it < s.heap.objs.size := by obtain ⟨_, q, _⟩ := hit; exact Heap.lt_size q
    have hli : i < its.toArray.size := by rw [List.size_toArray]; exact (List.getElem?_eq_some_iff.mp hu).1
    have hef : e ∉ [it, a] := by simp [hne, hea]
    refine wpAny_pyNext_enum_itemD (Draws.tuple (A := X.A.in1) (prog := X.prog) (w := X.w) (I.ok.hd hc) it a hai its.toArray) he ⟨hit, p⟩ hli hne hef fun v h' tk hv ho hit' hT hsz hk => ?_
    have ev : v = u := by
      rw [← Array.getElem?_toList] at hv
      have hv : its[i]? = some v := hv
      rw [hu] at hv
      cases hv
      rfl
    subst ev
    refine ⟨_, rfl, wpAny_letOwnedTupleGo_enum (s := { s with heap := h', toks := tk + 1 }) ho fun h'' he' sb => ?_⟩
    have hT2 : h''.get? s.heap.objs.size = some { cls := .type "tuple", data := .seq #[.int i tk, v] } := (sb.2 _ (Nat.ne_of_gt hel)).trans hT
    have new : ObjOk X.prog X.w (upd H s.heap.objs.size (.tup [.int (i : Nat), x])) h'' s.heap.objs.size (.tup [.int (i : Nat), x]) :=
      ⟨by show 2 ≤ sizeLine; decide, [.int i tk, v], .cons ⟨_, rfl⟩ (.cons ru .nil), ⟨_, hT2, rfl, _, rfl⟩⟩
    have I1 : L2.Inv X pins σ (upd H s.heap.objs.size (.tup [.int (i : Nat), x])) { s with heap := h'', toks := tk + 1 } :=
      I.turnedNew (ch := [e, it]) (fun b ob hb q => (sb.2 b (fun z => hb (by simp [z]))).trans (hk b ob (fun z => hb (by simp [z])) (fun z => hb (by simp [z])) q)) hf (Nat.le_refl _) new
    refine ⟨.ref s.heap.objs.size, _, I1, rfl, ⟨_, x, rfl, I.hok.fresh (Nat.le_refl _), rfl, fun ys hy => by rw [I.tuple_inj hy hq]; exact hx⟩, ⟨⟨v, ?_⟩, hit'.1.at fun o q => (sb.2 it (Ne.symm hne)).trans q, hne, hea⟩, fun b hb => ?_⟩
    · have e1 : ((i + 1 : Nat) : Int) = (i : Int) + 1 := by omega
      rw [e1]; exact he'
    · have hb' : b < s.heap.objs.size := by
        have e' : b = e ∨ b = it := by simpa using hb
        rcases e' with z | z
        · rw [z]; exact hel
        · rw [z]; exact hil
      rw [upd_ne (Nat.ne_of_lt hb')]
      exact (hf b hb).1
  done := by
    intro X hP hw hK hc i pins s σ H E I hf st hg
    subst hP hw hK
    obtain ⟨⟨old, he⟩, hit, hne, hea⟩ := st
    obtain ⟨xs, hq, hx⟩ := hg
    obtain ⟨its, rv, p, hz⟩ := I.tuple hq
    obtain ⟨f0, f1, f2, f3, f4, f5⟩ := hf it (by simp)
    have hl := rv.length
    have hx' : its.toArray[i]? = none := by simp; omega
    have hT : s.TypeIs (.ref e) "enumerate" := ⟨_, he, rfl⟩
    unfold pyNext
    refine wpAny_bind (wpAny_attempt (wpAny_callSpecial?_slot (name := Str.ofString "__next__") hT F.slot_enumerate_next
      (wpAny_call_entry F.slot_enumerate_next hT F.entry_enumerate_next ?_ (F.args_enumerate_next_1 _))))
    show wpAny _ _ (field (.ref e) 2 >>= _) _ _ _
    refine wpAny_bind (wpAny_field he rfl (x := .ref it) rfl ?_)
    refine wpAny_bind (wpAny_nextOf_tuple_end (A := X.A.in1) (I.ok.hd hc) hit p hx' fun h' x he' hx'' => ?_)
    obtain ⟨o, ho, hc'⟩ := hx''
    refine wpAny_bind (wpAny_isInstance (T := "StopIteration") (b := true) ⟨o, ho, hc'⟩ isSubtype_stop ?_)
    exact wpAny_pure ⟨rfl, I.turned (t' := s.toks) (fun b o hb q => he' b o hb q) f0 f1 f3 f4 f5⟩
  self := fun A i s Q E st h => let ⟨⟨_, he⟩, _⟩ := st; wpAny_pyIter_enum he h
end PL
end

section
set_option Elab.async false
set_option linter.all false
set_option maxRecDepth 100000
set_option maxHeartbeats 1000000
/-! PLI: sources of loops and comprehensions, by the evaluator. -/
namespace PL
open PySem PySem.Spec PyProof.Rows L2 RZ
/-- a value, or a pair just made that is taken apart at once -/
def Rw (M : Ma) (H : Hp) (d : D) (x : V) : Prop := Rv M H d x ∨ ∃ T ds vs, d = .tuple ds ∧ x = .ref T ∧ H T = some (.tup vs) ∧ Rvs M H ds vs
/-- the iterator J goes over the items of w while what is held stands -/
def WOk (P : Pg) (M : Ma) (H : Hp) (w : Wk) (J : It) : Prop := ∃ W Y, Walk J w.items.length W Y ∧ (∀ M' H' S', Ext M H M' H' → P.Emb M' H' S' → w.ok S' → W H') ∧
  ∀ i M' H' S' x H'', Ext M H M' H' → P.Emb M' H' S' → w.ok S' → Y i H' x H'' → ∃ d, w.items[i]? = some d ∧ P.Emb M' H'' S' ∧ Ext M' H' M' H'' ∧ Rw M' H'' d x ∧ (w.pr = false → Rv M' H'' d x)
section
variable {K : PySem.W.Frag} {a b : Addr} {n m : Nat}
theorem walk_listG : Walk (Itl K a) n (fun H => ∃ vs, SqL K H a vs ∧ vs.length = n) (fun i H x H' => H' = H ∧ ∀ vs, SqL K H a vs → vs[i]? = some x) :=
  ⟨fun i _ hi ⟨vs, q, e⟩ => ⟨vs, vs[i], q, by simp [e, hi]⟩, fun _ ⟨vs, q, e⟩ => ⟨vs, q, Nat.le_of_eq e⟩, fun _ _ _ _ _ _ y => y⟩
theorem walk_tupG : Walk (Itt K a) n (fun H => ∃ vs, SqT K H a vs ∧ vs.length = n) (fun i H x H' => H' = H ∧ ∀ vs, SqT K H a vs → vs[i]? = some x) :=
  ⟨fun i _ hi ⟨vs, q, e⟩ => ⟨vs, vs[i], q, by simp [e, hi]⟩, fun _ ⟨vs, q, e⟩ => ⟨vs, q, Nat.le_of_eq e⟩, fun _ _ _ _ _ _ y => y⟩
theorem walk_enumG : Walk (Ite K a) n (fun H => ∃ vs, SqL K H a vs ∧ vs.length = n) (fun i H v H' => ∃ T x, v = .ref T ∧ H T = none ∧ H' = upd H T (.tup [.int (i : Nat), x]) ∧ ∀ xs, SqL K H a xs → xs[i]? = some x) :=
  ⟨fun i _ hi ⟨vs, q, e⟩ => ⟨vs, vs[i], q, by simp [e, hi]⟩, fun _ ⟨vs, q, e⟩ => ⟨vs, q, Nat.le_of_eq e⟩, fun _ _ _ _ _ _ y => y⟩
theorem walk_enumT : Walk (IteT K a) n (fun H => ∃ vs, SqT K H a vs ∧ vs.length = n) (fun i H v H' => ∃ T x, v = .ref T ∧ H T = none ∧ H' = upd H T (.tup [.int (i : Nat), x]) ∧ ∀ xs, SqT K H a xs → xs[i]? = some x) :=
  ⟨fun i _ hi ⟨vs, q, e⟩ => ⟨vs, vs[i], q, by simp [e, hi]⟩, fun _ ⟨vs, q, e⟩ => ⟨vs, q, Nat.le_of_eq e⟩, fun _ _ _ _ _ _ y => y⟩
theorem walk_zipG : Walk (Itz K a b) (min n m) (fun H => (∃ vs, SqL K H a vs ∧ vs.length = n) ∧ ∃ vs, SqL K H b vs ∧ vs.length = m)
    (fun i H v H' => ∃ T x y, v = .ref T ∧ H T = none ∧ H' = upd H T (.tup [x, y]) ∧ (∀ xs, SqL K H a xs → xs[i]? = some x) ∧ ∀ ys, SqL K H b ys → ys[i]? = some y) := by
  refine ⟨fun i _ hi ⟨⟨vs, q, e⟩, ⟨us, q2, e2⟩⟩ => ?_, fun _ ⟨⟨vs, q, e⟩, ⟨us, q2, e2⟩⟩ => ⟨vs, us, q, q2, by omega⟩, fun _ _ _ _ _ _ y => y⟩
  have h1 : i < vs.length := by omega
  have h2 : i < us.length := by omega
  exact ⟨vs, us, vs[i], us[i], q, q2, by simp [h1], by simp [h2]⟩
theorem walk_zipT : Walk (ItzT K a b) (min n m) (fun H => (∃ vs, SqT K H a vs ∧ vs.length = n) ∧ ∃ vs, SqT K H b vs ∧ vs.length = m)
    (fun i H v H' => ∃ T x y, v = .ref T ∧ H T = none ∧ H' = upd H T (.tup [x, y]) ∧ (∀ xs, SqT K H a xs → xs[i]? = some x) ∧ ∀ ys, SqT K H b ys → ys[i]? = some y) := by
  refine ⟨fun i _ hi ⟨⟨vs, q, e⟩, ⟨us, q2, e2⟩⟩ => ?_, fun _ ⟨⟨vs, q, e⟩, ⟨us, q2, e2⟩⟩ => ⟨vs, us, q, q2, by omega⟩, fun _ _ _ _ _ _ y => y⟩
  have h1 : i < vs.length := by omega
  have h2 : i < us.length := by omega
  exact ⟨vs, us, vs[i], us[i], q, q2, by simp [h1], by simp [h2]⟩
end
section
variable {P : Pg} {M : Ma} {H : Hp} {S : Sto} {d : D} {v : V} {ds : List D}
/-- what stands of a sequence while it is held: a list -/
theorem held_list (h : lstD S d = some ds) (em : P.Emb M H S) (r : Rv M H d v) : ∃ a, v = .ref a ∧ ∀ M' H' S', Ext M H M' H' → P.Emb M' H' S' → (∀ p ∈ heldD d ds, objL S' p.1 = some p.2) → ∃ vs, H' a = some (.lst vs) ∧ Rvs M' H' ds vs := by
  rcases lstD_some h with rfl | ⟨i, rfl, hs⟩
  · cases r with
    | lst h1 n q => exact ⟨_, rfl, fun M' H' S' e em' _ => ⟨_, e.keep _ _ h1 n (fun _ z => nomatch z), q.mono e⟩⟩
  · obtain ⟨a, rfl, hm⟩ := r.refI
    refine ⟨a, rfl, fun M' H' S' e em' hh => ?_⟩
    have h1 := hh (i, ds) (by simp [heldD])
    exact em'.ob i a _ (e.at hm) (objL_some h1)
theorem held_tup (r : Rv M H (.tuple ds) v) : ∃ a, v = .ref a ∧ ∀ M' H', Ext M H M' H' → ∃ vs, TupF H' a vs ∧ Rvs M' H' ds vs := by
  obtain ⟨a, vs, rfl, h1, n, q⟩ := r.tupI
  exact ⟨a, rfl, fun M' H' e => ⟨vs, h1.mono e.toExtW n, q.mono e⟩⟩
end
theorem enumL_len : ∀ (ds : List D) (k : Nat), (enumL k ds).length = ds.length
  | [], _ => rfl
  | _ :: ds, k => by simp [enumL, enumL_len ds]
theorem enumL_get : ∀ (ds : List D) (k i : Nat), (enumL k ds)[i]? = ds[i]?.map fun d => .tuple [.int ((k + i : Nat) : Int), d]
  | [], _, _ => by simp [enumL]
  | d :: ds, k, 0 => by simp [enumL]
  | d :: ds, k, i + 1 => by
    simp only [enumL, List.getElem?_cons_succ]
    rw [enumL_get ds (k + 1) i]
    have e : k + 1 + i = k + (i + 1) := by omega
    rw [e]
theorem zipL_len : ∀ (xs ys : List D), (zipL xs ys).length = min xs.length ys.length
  | [], _ => by simp [zipL]
  | _ :: _, [] => by simp [zipL]
  | _ :: xs, _ :: ys => by simp only [zipL, List.length_cons, zipL_len xs ys]; omega
theorem zipL_get : ∀ (xs ys : List D) (i : Nat) (x y : D), xs[i]? = some x → ys[i]? = some y → (zipL xs ys)[i]? = some (.tuple [x, y])
  | [], _, _, _, _, h, _ => by simp at h
  | _ :: _, [], _, _, _, _, h => by simp at h
  | _ :: _, _ :: _, 0, _, _, h1, h2 => by simp at h1 h2; subst h1 h2; rfl
  | _ :: xs, _ :: ys, i + 1, x, y, h1, h2 => by
    simp only [zipL, List.getElem?_cons_succ]
    exact zipL_get xs ys i x y (by simpa using h1) (by simpa using h2)
section
variable {P : Pg} {M : Ma} {H : Hp} {S : Sto} {d e : D} {v u : V} {ds es : List D}
/-- a pair just made -/
theorem pair_new {M : Ma} {H : Hp} {S : Sto} {T : Addr} {d e : D} {x y : V} (em : P.Emb M H S) (hT : H T = none) (r1 : Rv M H d x) (r2 : Rv M H e y) :
    P.Emb M (upd H T (.tup [x, y])) S ∧ Ext M H M (upd H T (.tup [x, y])) ∧ Rw M (upd H T (.tup [x, y])) (.tuple [d, e]) (.ref T) := by
  have q : Ext M H M (upd H T (.tup [x, y])) := Ext.alloc hT
  exact ⟨em.alloc hT, q, .inr ⟨T, [d, e], [x, y], rfl, rfl, upd_same, .cons (r1.mono q) (.cons (r2.mono q) .nil)⟩⟩
theorem wok_list (h : lstD S d = some ds) (em : P.Emb M H S) (r : Rv M H d v) : ∃ a, v = .ref a ∧ (∃ vs, H a = some (.lst vs)) ∧ WOk P M H ⟨ds, heldD d ds, false⟩ (Itl P.K a) := by
  obtain ⟨a, vs0, rfl, h0, q0⟩ := em.lst h r
  obtain ⟨a', e', hh⟩ := held_list h em r
  cases e'
  refine ⟨a, rfl, ⟨vs0, h0⟩, _, _, walk_listG, fun M' H' S' e em' ok => ?_, fun i M' H' S' x H'' e em' ok y => ?_⟩
  · obtain ⟨vs, h1, h2⟩ := hh M' H' S' e em' ok
    exact ⟨vs, SqL.of h1, h2.length.symm⟩
  · obtain ⟨vs, h1, h2⟩ := hh M' H' S' e em' ok
    obtain ⟨rfl, y⟩ := y
    obtain ⟨d', h3, h4⟩ := h2.get (y vs (SqL.of h1))
    exact ⟨d', h3, em', Ext.refl, .inl h4, fun _ => h4⟩
theorem wok_tup (r : Rv M H (.tuple ds) v) : ∃ a, v = .ref a ∧ (∃ vs, TupF H a vs) ∧ WOk P M H ⟨ds, heldD (.tuple ds) ds, false⟩ (Itt P.K a) := by
  obtain ⟨a, vs0, rfl, h0, n0, q0⟩ := r.tupI
  obtain ⟨a', e', hh⟩ := held_tup r
  cases e'
  refine ⟨a, rfl, ⟨vs0, h0⟩, _, _, walk_tupG, fun M' H' S' e em' ok => ?_, fun i M' H' S' x H'' e em' ok y => ?_⟩
  · obtain ⟨vs, h1, h2⟩ := hh M' H' e
    exact ⟨vs, h1.sq, h2.length.symm⟩
  · obtain ⟨vs, h1, h2⟩ := hh M' H' e
    obtain ⟨rfl, y⟩ := y
    obtain ⟨d', h3, h4⟩ := h2.get (y vs h1.sq)
    exact ⟨d', h3, em', Ext.refl, .inl h4, fun _ => h4⟩
theorem wok_str {z : Str} : WOk P M H ⟨chrs z, [], false⟩ (Its z) := by
  refine ⟨_, _, by
    have e : (chrs z).length = z.cps.size := by simp [chrs]
    show Walk (Its z) (chrs z).length _ _
    rw [e]
    exact walk_str, fun _ _ _ _ _ _ => trivial, fun i M' H' S' x H'' e em' ok y => ?_⟩
  obtain ⟨rfl, c, hc, rfl⟩ := y
  refine ⟨.str ⟨#[c]⟩, ?_, em', Ext.refl, .inl (.str _), fun _ => .str _⟩
  show (chrs z)[i]? = _
  unfold chrs
  rw [List.getElem?_map, Array.getElem?_toList, hc]
  rfl
theorem rangeL_get {i : Int} {j : Nat} (h : j < i.toNat) : (rangeL i)[j]? = some (.int (j : Nat)) := by
  unfold rangeL
  rw [List.getElem?_map, List.getElem?_range h]
  rfl
theorem wok_range {i : Int} : WOk P M H ⟨rangeL i, [], false⟩ (Itr 0 i.toNat) := by
  refine ⟨fun _ => True, fun j H x H' => H' = H ∧ x = .int (0 + j) ∧ j < i.toNat, ?_, fun _ _ _ _ _ _ => trivial, fun j M' H' S' x H'' e em' ok y => ?_⟩
  · have e : (rangeL i).length = i.toNat := by simp [rangeL]
    show Walk (Itr 0 i.toNat) (rangeL i).length _ _
    rw [e]
    exact ⟨fun _ _ hi _ => hi, fun _ _ => Nat.le_refl _, fun j _ _ _ hj _ y => ⟨y.1, y.2, hj⟩⟩
  · obtain ⟨rfl, rfl, hj⟩ := y
    have r : Rv M' H'' (.int ((j : Nat) : Int)) (.int (0 + (j : Nat))) := by rw [Int.zero_add]; exact .int _
    exact ⟨.int (j : Nat), rangeL_get hj, em', Ext.refl, .inl r, fun _ => r⟩
theorem wok_enumL (h : lstD S d = some ds) (em : P.Emb M H S) (r : Rv M H d v) : ∃ a, v = .ref a ∧ (∃ vs, H a = some (.lst vs)) ∧ WOk P M H ⟨enumL 0 ds, heldD d ds, true⟩ (Ite P.K a) := by
  obtain ⟨a, vs0, rfl, h0, q0⟩ := em.lst h r
  obtain ⟨a', e', hh⟩ := held_list h em r
  cases e'
  refine ⟨a, rfl, ⟨vs0, h0⟩, _, _, walk_enumG, fun M' H' S' e em' ok => ?_, fun i M' H' S' x H'' e em' ok y => ?_⟩
  · obtain ⟨vs, h1, h2⟩ := hh M' H' S' e em' ok
    exact ⟨vs, SqL.of h1, by rw [← h2.length]; exact (enumL_len ds 0).symm⟩
  · obtain ⟨vs, h1, h2⟩ := hh M' H' S' e em' ok
    obtain ⟨T, w, rfl, hT, rfl, y⟩ := y
    obtain ⟨d', h3, h4⟩ := h2.get (y vs (SqL.of h1))
    obtain ⟨p1, p2, p3⟩ := pair_new em' hT (.int (i : Nat)) h4
    refine ⟨_, ?_, p1, p2, p3, fun z => nomatch z⟩
    show (enumL 0 ds)[i]? = _
    rw [enumL_get, h3]
    simp
theorem wok_enumT (r : Rv M H (.tuple ds) v) : ∃ a, v = .ref a ∧ (∃ vs, TupF H a vs) ∧ WOk P M H ⟨enumL 0 ds, heldD (.tuple ds) ds, true⟩ (IteT P.K a) := by
  obtain ⟨a, vs0, rfl, h0, n0, q0⟩ := r.tupI
  obtain ⟨a', e', hh⟩ := held_tup r
  cases e'
  refine ⟨a, rfl, ⟨vs0, h0⟩, _, _, walk_enumT, fun M' H' S' e em' ok => ?_, fun i M' H' S' x H'' e em' ok y => ?_⟩
  · obtain ⟨vs, h1, h2⟩ := hh M' H' e
    exact ⟨vs, h1.sq, by rw [← h2.length]; exact (enumL_len ds 0).symm⟩
  · obtain ⟨vs, h1, h2⟩ := hh M' H' e
    obtain ⟨T, w, rfl, hT, rfl, y⟩ := y
    obtain ⟨d', h3, h4⟩ := h2.get (y vs h1.sq)
    obtain ⟨p1, p2, p3⟩ := pair_new em' hT (.int (i : Nat)) h4
    refine ⟨_, ?_, p1, p2, p3, fun z => nomatch z⟩
    show (enumL 0 ds)[i]? = _
    rw [enumL_get, h3]
    simp
theorem heldL {w : List (Nat × List D)} {S : Sto} (ok : ∀ p ∈ w, objL S p.1 = some p.2) : ∀ p ∈ w, objL S p.1 = some p.2 := ok
theorem wok_zipL (h1 : lstD S d = some ds) (h2 : lstD S e = some es) (em : P.Emb M H S) (r1 : Rv M H d v) (r2 : Rv M H e u) :
    ∃ a b, v = .ref a ∧ u = .ref b ∧ (∃ vs, H a = some (.lst vs)) ∧ (∃ vs, H b = some (.lst vs)) ∧ WOk P M H ⟨zipL ds es, heldD d ds ++ heldD e es, true⟩ (Itz P.K a b) := by
  obtain ⟨a, vs1, rfl, g1, _⟩ := em.lst h1 r1
  obtain ⟨b, vs2, rfl, g2, _⟩ := em.lst h2 r2
  obtain ⟨a', e1, hh1⟩ := held_list h1 em r1
  obtain ⟨b', e2, hh2⟩ := held_list h2 em r2
  cases e1
  cases e2
  have split : ∀ {S' : Sto}, (∀ p ∈ heldD d ds ++ heldD e es, objL S' p.1 = some p.2) → (∀ p ∈ heldD d ds, objL S' p.1 = some p.2) ∧ ∀ p ∈ heldD e es, objL S' p.1 = some p.2 :=
    fun ok => ⟨fun p hp => ok p (List.mem_append_left _ hp), fun p hp => ok p (List.mem_append_right _ hp)⟩
  refine ⟨a, b, rfl, rfl, ⟨_, g1⟩, ⟨_, g2⟩, _, _, by
    show Walk (Itz P.K a b) (zipL ds es).length _ _
    rw [zipL_len]
    exact walk_zipG, fun M' H' S' e em' ok => ?_, fun i M' H' S' x H'' e em' ok y => ?_⟩
  · obtain ⟨o1, o2⟩ := split ok
    obtain ⟨us, q1, q2⟩ := hh1 M' H' S' e em' o1
    obtain ⟨ws, q3, q4⟩ := hh2 M' H' S' e em' o2
    exact ⟨⟨us, SqL.of q1, q2.length.symm⟩, ⟨ws, SqL.of q3, q4.length.symm⟩⟩
  · obtain ⟨o1, o2⟩ := split ok
    obtain ⟨us, q1, q2⟩ := hh1 M' H' S' e em' o1
    obtain ⟨ws, q3, q4⟩ := hh2 M' H' S' e em' o2
    obtain ⟨T, x, y, rfl, hT, rfl, y1, y2⟩ := y
    obtain ⟨d1, p1, p2⟩ := q2.get (y1 us (SqL.of q1))
    obtain ⟨d2, p3, p4⟩ := q4.get (y2 ws (SqL.of q3))
    obtain ⟨n1, n2, n3⟩ := pair_new em' hT p2 p4
    exact ⟨_, zipL_get _ _ _ _ _ p1 p3, n1, n2, n3, fun z => nomatch z⟩
theorem wok_zipT (em : P.Emb M H S) (r1 : Rv M H (.tuple ds) v) (r2 : Rv M H (.tuple es) u) :
    ∃ a b, v = .ref a ∧ u = .ref b ∧ (∃ vs, TupF H a vs) ∧ (∃ vs, TupF H b vs) ∧ WOk P M H ⟨zipL ds es, heldD (.tuple ds) ds ++ heldD (.tuple es) es, true⟩ (ItzT P.K a b) := by
  obtain ⟨a, vs1, rfl, g1, _⟩ := r1.tupI
  obtain ⟨b, vs2, rfl, g2, _⟩ := r2.tupI
  obtain ⟨a', e1, hh1⟩ := held_tup r1
  obtain ⟨b', e2, hh2⟩ := held_tup r2
  cases e1
  cases e2
  refine ⟨a, b, rfl, rfl, ⟨_, g1⟩, ⟨_, g2⟩, _, _, by
    show Walk (ItzT P.K a b) (zipL ds es).length _ _
    rw [zipL_len]
    exact walk_zipT, fun M' H' S' e em' ok => ?_, fun i M' H' S' x H'' e em' ok y => ?_⟩
  · obtain ⟨us, q1, q2⟩ := hh1 M' H' e
    obtain ⟨ws, q3, q4⟩ := hh2 M' H' e
    exact ⟨⟨us, q1.sq, q2.length.symm⟩, ⟨ws, q3.sq, q4.length.symm⟩⟩
  · obtain ⟨us, q1, q2⟩ := hh1 M' H' e
    obtain ⟨ws, q3, q4⟩ := hh2 M' H' e
    obtain ⟨T, x, y, rfl, hT, rfl, y1, y2⟩ := y
    obtain ⟨d1, p1, p2⟩ := q2.get (y1 us q1.sq)
    obtain ⟨d2, p3, p4⟩ := q4.get (y2 ws q3.sq)
    obtain ⟨n1, n2, n3⟩ := pair_new em' hT p2 p4
    exact ⟨_, zipL_get _ _ _ _ _ p1 p3, n1, n2, n3, fun z => nomatch z⟩
end
/-! ### the sources' rules -/
def tI (P : Pg) (G : Calls) (Z : ZX) (m : I) : TI := fun σ H R => ∃ M S ρ, P.Emb M H S ∧ Renv M H ρ σ ∧ Res P (WOk P) M H (evi G P.gi m ρ S) R Z
section
variable {P : Pg} {Γ : Ga} {X : Cx} {G : Calls} {Z : ZX} {tg : Expr}
/-- iter(x) by values -/
theorem it_seq (hK : X.K = P.K) {pins : List (Addr × Obj)} {s : Shared} {σ : L2.St} {H : Hp} {M : Ma} {S : Sto} {d : D} {x : V} {v : Value} {w : Wk} {R : It → Hp → Prop} (I : L2.Inv X pins σ H s) (em : P.Emb M H S) (rd : Rv M H d x) (rx : RelV x v)
    (h : itemsD S d = some w) (q : ∀ J, WOk P M H w J → R J H) : wpAny (model X.prog X.w) X.A (pyIter v) (PIE X pins σ tg R) X.xe s := by
  have lst : ∀ ds, lstD S d = some ds → w = ⟨ds, heldD d ds, false⟩ → wpAny (model X.prog X.w) X.A (pyIter v) (PIE X pins σ tg R) X.xe s := fun ds h1 h2 => by
    subst h2
    obtain ⟨a, rfl, ⟨vs, h3⟩, ok⟩ := wok_list h1 em rd
    cases rx
    obtain ⟨its, rv, p, hz⟩ := I.list (SqL.of h3)
    have okX : WOk P M H ⟨ds, heldD d ds, false⟩ (Itl X.K a) := by rw [hK]; exact ok
    exact wpAny_pyIter_list p.isList (pi_one (tk := s.toks) I _ (turn_list a _) ⟨_, Heap.get?_push_size _ rfl, rfl, rfl⟩ (q _ okX))
  unfold itemsD at h
  split at h
  · cases h
    cases rd
    rename_i z
    obtain ⟨t, rfl⟩ := rx
    cases ha : z.cps.all (· < 128)
    · exact wpAny_pyIter_wide ha (pi_one (tk := s.toks) I _ (turn_str _ z t "str_iterator" (.inr rfl)) ⟨_, Heap.get?_push_size _ rfl, rfl, rfl⟩ (q _ wok_str))
    · exact wpAny_pyIter_ascii ha (pi_one (tk := s.toks) I _ (turn_str _ z t "str_ascii_iterator" (.inl rfl)) ⟨_, Heap.get?_push_size _ rfl, rfl, rfl⟩ (q _ wok_str))
  · cases e : seqD S d with
    | none => rw [e] at h; cases h
    | some ds =>
      rw [e] at h
      cases h
      rcases tup_list_form e with ⟨_, rfl⟩ | ⟨_, f⟩
      · obtain ⟨a, rfl, ⟨vs, h3⟩, ok⟩ := wok_tup (P := P) rd
        cases rx
        obtain ⟨its, rv, p, hz⟩ := I.tuple (xs := vs) h3.sq
        have okX : WOk P M H ⟨ds, heldD (.tuple ds) ds, false⟩ (Itt X.K a) := by rw [hK]; exact ok
        exact wpAny_pyIter_tuple (show s.heap.IsTuple a its.toArray from p) (pi_one (tk := s.toks) I _ (turn_tuple a _) ⟨_, Heap.get?_push_size _ rfl, rfl, rfl⟩ (q _ okX))
      · exact lst ds f rfl
theorem pi_seqM (F : Fit P Γ X) {e : Expr} {m : E} (he : PE X e (tE P G Z m)) : PI X tg e (tI P G Z (.seq m)) := by
  refine ⟨fun pins s σ H R I h => ?_⟩
  obtain ⟨M, S, ρ, em, rn, h⟩ := h
  simp only [evi] at h
  refine thn (he.run pins s σ H _ I ⟨M, S, ρ, em, rn, Res.bind h⟩) fun v s1 ⟨x, H1, I1, r1, M1, S1, d, e1, em1, rd, hk⟩ => ?_
  split at hk
  · rename_i w hw
    exact it_seq F.K I1 em1 rd r1 hw fun J ok => hk M1 H1 J Ext.refl em1 ok
  · exact hk.elim
theorem PI.imp {e : Expr} {t t' : TI} (h : PI X tg e t) (i : ∀ σ H R, t' σ H R → t σ H R) : PI X tg e t' := ⟨fun pins s σ H R I q => h.run pins s σ H R I (i σ H R q)⟩
theorem pi_rangeM (F : Fit P Γ X) {e : Expr} {m : E} {p pos : Pos} (hg : Gl X "range") (hm : X.mg "range" = none) (he : PA X [e] (tEs P G Z [m])) (hs : starEach [e] X.env = [(false, eval e X.env)]) : PI X tg (.Call (.Name "range" p) [e] [] pos) (tI P G Z (.range m)) := by
  refine PI.imp (pi_range1 hg hm he hs) fun σ H R ⟨M, S, ρ, em, rn, h⟩ => ?_
  simp only [evi] at h
  refine ⟨M, S, ρ, em, rn, ?_⟩
  simp only [evs]
  generalize ev G P.gi m ρ S = o at h
  cases o with
  | bad => exact h.elim
  | exc x S1 => exact h
  | ok d S1 =>
    intro M1 H1 vs e1 em1 rv
    simp only [Out.bind_ok] at h
    obtain ⟨v, rfl, r⟩ := rv.o1
    split at h
    · rename_i i
      split at h
      · rename_i c
        cases r
        have e4 : bigD / 4 = 2 ^ 62 := by decide
        have e5 : -bigD / 4 = -2 ^ 62 := by decide
        rw [e4, e5] at c
        exact ⟨i, rfl, c.1, c.2, h M1 H1 _ e1 em1 wok_range⟩
      · exact h.elim
    · exact h.elim
theorem pi_enumM (F : Fit P Γ X) {e : Expr} {m : E} {p pos tpos : Pos} {elts : List Expr} {kk : Nat} (hg : Gl X "enumerate") (hm : X.mg "enumerate" = none) (he : PA X [e] (tEs P G Z [m])) (hs : starEach [e] X.env = [(false, eval e X.env)]) :
    PI X (.Tuple elts kk tpos) (.Call (.Name "enumerate" p) [e] [] pos) (tI P G Z (.enum m)) := by
  refine ⟨fun pins s σ H R I ⟨M, S, ρ, em, rn, h⟩ => ?_⟩
  have hq : tEs P G Z [m] σ H fun vs H1 => ∃ M1 S1 d v, P.Emb M1 H1 S1 ∧ vs = [v] ∧ Rv M1 H1 d v ∧ ∃ ds, seqD S1 d = some ds ∧ ∀ J, WOk P M1 H1 ⟨enumL 0 ds, heldD d ds, true⟩ J → R J H1 := by
    refine ⟨M, S, ρ, em, rn, ?_⟩
    simp only [evi] at h
    simp only [evs]
    generalize ev G P.gi m ρ S = o at h
    cases o with
    | bad => exact h.elim
    | exc x S1 => exact h
    | ok d S1 =>
      intro M1 H1 vs e1 em1 rv
      simp only [Out.bind_ok] at h
      obtain ⟨v, rfl, r⟩ := rv.o1
      split at h
      · rename_i ds hd
        exact ⟨M1, S1, d, v, em1, rfl, r, ds, hd, fun J ok => h M1 H1 J e1 em1 ok⟩
      · exact h.elim
  refine Call_ (ld_blt I hg hm boot_enumerate (PyProof.Rows.callWith_type1 (thn (he.run pos pins s σ H _ I hq) fun us s1 ⟨vs, H1, I1, r1, M1, S1, d, v, em1, hv, rd, ds, hd, q⟩ => ?_) hs rfl))
  subst hv
  obtain ⟨u, rfl, ru⟩ := vals1 r1
  have fp : ∀ b, b ∈ [s1.heap.objs.size + 1, s1.heap.objs.size] → FpOk X pins H1 b := fun b hb => by
    have e' : b = s1.heap.objs.size + 1 ∨ b = s1.heap.objs.size := by simpa using hb
    have hle : s1.heap.objs.size ≤ b := by
      rcases e' with z | z
      · rw [z]; exact Nat.le_add_right _ _
      · rw [z]; exact Nat.le_refl _
    exact I1.fpOk hle (I1.hok.fresh hle)
  rcases tup_list_form hd with ⟨_, rfl⟩ | ⟨_, f⟩
  · obtain ⟨a, rfl, ⟨ws, h3⟩, ok⟩ := wok_enumT (P := P) rd
    cases ru
    obtain ⟨its, rv, p', hz⟩ := I1.tuple (xs := ws) h3.sq
    have okX : WOk P M1 H1 ⟨enumL 0 ds, heldD (.tuple ds) ds, true⟩ (IteT X.K a) := by rw [F.K]; exact ok
    have hT : s1.heap.IsTuple a its.toArray := p'
    have hlt : a < s1.heap.objs.size := by obtain ⟨_, q, _⟩ := p'; exact Heap.lt_size q
    refine call_enum1 (begins_tuple a its.toArray) hT fun h' he hit hk => wpAny_pyIter_enum he ?_
    have I2 : L2.Inv X pins σ H1 { s1 with heap := h' } := I1.kept (t' := s1.toks) hk
    exact ⟨s1.heap.objs.size + 1, [s1.heap.objs.size + 1, s1.heap.objs.size], _, _, H1, rfl, I2, turn_enumT a (s1.heap.objs.size + 1) s1.heap.objs.size (Nat.ne_of_lt hlt), ⟨⟨.none, he⟩, ⟨_, hit, rfl, rfl⟩, Nat.succ_ne_self _, Nat.ne_of_gt (Nat.lt_succ_of_lt hlt)⟩, fp, q _ okX⟩
  · obtain ⟨a, rfl, ⟨ws, h3⟩, ok⟩ := wok_enumL f em1 rd
    cases ru
    obtain ⟨its, rv, p', hz⟩ := I1.list (SqL.of h3)
    have okX : WOk P M1 H1 ⟨enumL 0 ds, heldD d ds, true⟩ (Ite X.K a) := by rw [F.K]; exact ok
    refine call_enumerate_list p'.isList fun h' he hit hsz hk => wpAny_pyIter_enum he ?_
    have I2 : L2.Inv X pins σ H1 { s1 with heap := h' } := I1.kept (t' := s1.toks) hk
    exact ⟨s1.heap.objs.size + 1, [s1.heap.objs.size + 1, s1.heap.objs.size], _, _, H1, rfl, I2, turn_enum a (s1.heap.objs.size + 1) s1.heap.objs.size, ⟨⟨.none, he⟩, hit, Nat.succ_ne_self _⟩, fp, q _ okX⟩
theorem pi_zipM (F : Fit P Γ X) {a b : Expr} {ma mb : E} {p pos tpos : Pos} {elts : List Expr} {kk : Nat} (hg : Gl X "zip") (hm : X.mg "zip" = none) (he : PA X [a, b] (tEs P G Z [ma, mb]))
    (hs : starEach [a, b] X.env = (false, eval a X.env) :: starEach [b] X.env) (hpl : (backTo pos (starEach [b] X.env)).any (·.1) = false) :
    PI X (.Tuple elts kk tpos) (.Call (.Name "zip" p) [a, b] [] pos) (tI P G Z (.zip ma mb)) := by
  refine PI.imp (pi_zipA hg hm he hs hpl) fun σ H R ⟨M, S, ρ, em, rn, h⟩ => ?_
  simp only [evi] at h
  refine ⟨M, S, ρ, em, rn, ?_⟩
  simp only [evs]
  generalize ev G P.gi ma ρ S = o at h
  cases o with
  | bad => exact h.elim
  | exc x S1 => exact h
  | ok d S1 =>
    simp only [Out.bind_ok] at h ⊢
    generalize ev G P.gi mb ρ S1 = o2 at h
    cases o2 with
    | bad => exact h.elim
    | exc x S1 => exact h
    | ok d2 S2 =>
      intro M1 H1 vs e1 em1 rv
      simp only [Out.bind_ok] at h
      obtain ⟨v, u, rfl, r1, r2⟩ : ∃ v u, vs = [v, u] ∧ Rv M1 H1 d v ∧ Rv M1 H1 d2 u := by
        cases rv with
        | cons r t => cases t with
          | cons r2 t => cases t; exact ⟨_, _, rfl, r, r2⟩
      split at h
      · rename_i xs ys h1 h2
        split at h
        · rename_i hk
          rcases tup_list_form h1 with ⟨f1, rfl⟩ | ⟨f1, f2⟩
          · rcases tup_list_form h2 with ⟨g1, rfl⟩ | ⟨g1, g2⟩
            · obtain ⟨a, b, rfl, rfl, ⟨va, t1⟩, ⟨vb, t2⟩, ok⟩ := wok_zipT (P := P) em1 r1 r2
              refine ⟨a, b, va, vb, rfl, .inr ⟨t1.sq, t2.sq, h M1 H1 _ e1 em1 ?_⟩⟩
              rw [F.K]; exact ok
            · rw [f1, g1] at hk; cases hk
          · rcases tup_list_form h2 with ⟨g1, rfl⟩ | ⟨g1, g2⟩
            · rw [f1, g1] at hk; cases hk
            · obtain ⟨a, b, rfl, rfl, ⟨va, t1⟩, ⟨vb, t2⟩, ok⟩ := wok_zipL f2 g2 em1 r1 r2
              refine ⟨a, b, va, vb, rfl, .inl ⟨SqL.of t1, SqL.of t2, h M1 H1 _ e1 em1 ?_⟩⟩
              rw [F.K]; exact ok
        · exact h.elim
      · exact h.elim
end
end PL
end

section
set_option Elab.async false
set_option linter.all false
set_option maxRecDepth 100000
set_option maxHeartbeats 1000000
/-! PLJ: isinstance; calls of defs, where no repr is under way. -/
namespace PL
open PySem PySem.Spec PyProof.Rows L2
def tyName : Ty → String
  | .int => "int"
  | .bool => "bool"
  | .str => "str"
  | .tuple => "tuple"
  | .list => "list"
  | .cls _ => ""
section
variable {P : Pg} {Γ : Ga} {X : Cx} {Z : ZX}
theorem kit_all {K : PySem.W.Frag} (t : Ty) (ht : ∀ c, t ≠ .cls c) :
    PySem.W.kitOne K (.type "NoneType") (.type (tyName t)) = some false ∧ PySem.W.kitOne K (.type "bool") (.type (tyName t)) = some (decide (t = .bool ∨ t = .int)) ∧
    PySem.W.kitOne K (.type "int") (.type (tyName t)) = some (decide (t = .int)) ∧ PySem.W.kitOne K (.type "str") (.type (tyName t)) = some (decide (t = .str)) ∧
    PySem.W.kitOne K (.type "tuple") (.type (tyName t)) = some (decide (t = .tuple)) ∧ PySem.W.kitOne K (.type "list") (.type (tyName t)) = some (decide (t = .list)) ∧
    PySem.W.kitOne K (.type "dict") (.type (tyName t)) = some false := by
  cases t with
  | cls c => exact absurd rfl (ht c)
  | _ => exact ⟨kit_ty (by decide +kernel), kit_ty (by decide +kernel), kit_ty (by decide +kernel), kit_ty (by decide +kernel), kit_ty (by decide +kernel), kit_ty (by decide +kernel), kit_ty (by decide +kernel)⟩
/-- isinstance by values -/
theorem isi_val {M : Ma} {H : Hp} {S : Sto} {d : D} {v : V} {t : Ty} {b : Bool} {K : PySem.W.Frag} (em : P.Emb M H S) (r : Rv M H d v) (ht : ∀ c, t ≠ .cls c) (h : isiD S d t = some b) :
    ∃ T, TyX K H v T ∧ PySem.W.kitOne K T (.type (tyName t)) = some b := by
  obtain ⟨k1, k2, k3, k4, k5, k6, k7⟩ := kit_all (K := K) t ht
  have h' : isi0 S d t = some b := by
    cases t with
    | cls c => exact absurd rfl (ht c)
    | _ => exact h
  cases d with
  | none => cases h'; cases r; exact ⟨_, .base .non, k1⟩
  | bool x => cases h'; cases r; exact ⟨_, .base (.bl x), k2⟩
  | int x => cases h'; cases r; exact ⟨_, .base (.int x), k3⟩
  | str x => cases h'; cases r; exact ⟨_, .base (.str x), k4⟩
  | tuple xs =>
    cases h'
    obtain ⟨a, vs, rfl, ⟨o, h1, h2⟩, _⟩ := r.tupI
    exact ⟨_, .fTuple h1, k5⟩
  | list xs =>
    cases h'
    obtain ⟨a, vs, rfl, h1, _⟩ := em.lst (xs := xs) rfl r
    exact ⟨_, .base (.lst h1), k6⟩
  | dict kvs =>
    unfold isi0 at h'
    simp only at h'
    split at h'
    · cases e : lstD S (.dict kvs) with
      | none => rw [e] at h'; cases h'
      | some xs =>
        rw [e] at h'
        cases h'
        obtain ⟨a, vs, rfl, h1, _⟩ := em.lst e r
        exact ⟨_, .base (.lst h1), k6⟩
    · rename_i c
      cases h'
      cases r with
      | scr _ _ => exact absurd rfl c
      | ref _ => exact absurd rfl c
      | dct q h1 _ => exact ⟨_, .base (.dK h1), k7⟩
end
/-! ### argument lists without stars -/
def isStar : Expr → Bool
  | .Starred _ _ => true
  | _ => false
theorem starEach_cons {e : Expr} {es : List Expr} {env : PySem.Env} (h : isStar e = false) : starEach (e :: es) env = (false, eval e env) :: starEach es env := by
  cases e <;> first | rfl | cases h
theorem star_none {env : PySem.Env} {pos : Pos} : ∀ {es : List Expr}, es.all (fun e => !isStar e) = true → (backTo pos (starEach es env)).any (·.1) = false
  | [], _ => rfl
  | e :: es, h => by
    rw [List.all_cons, Bool.and_eq_true] at h
    have h1 : isStar e = false := by simpa using h.1
    rw [starEach_cons h1]
    have ih := star_none (env := env) (pos := pos) h.2
    unfold backTo at ih ⊢
    rw [List.map_cons, List.any_cons, ih]
    rfl
theorem star_all {env : PySem.Env} {pos : Pos} : ∀ {es : List Expr}, es.all (fun e => !isStar e) = true → (backTo pos (starEach es env)).all (fun x => !x.1) = true
  | [], _ => rfl
  | e :: es, h => by
    rw [List.all_cons, Bool.and_eq_true] at h
    have h1 : isStar e = false := by simpa using h.1
    rw [starEach_cons h1]
    have ih := star_all (env := env) (pos := pos) h.2
    unfold backTo at ih ⊢
    rw [List.map_cons, List.all_cons, ih]
    rfl
/-! ### what a def promises, no repr under way -/
structure FnG (P : Program) (w : World) (K : PySem.W.Frag) (mg : Str → Option Value) (base : Heap) (k : Nat) (f : Addr) (fd : FuncData) (ps : List Str) (sp : Sp) : Prop where
  len : ∀ vs H Q E, sp vs H Q E → vs.length = ps.length
  run : ∀ (A : Around) (outer : List PySem.Env) (s : Shared) (H : Hp) (args : Args) (us : List Value) (vs : List V) (Q : VK) (E : XK), Room k A → A.guards = some [] → Env0 P w K mg base A outer s H → BindsTo s fd args (ps.zip us) → Vals vs us → sp vs H Q E →
    codeAny (model P w) A (.call (.ref f) args) (CR (L2N.CX P w) outer P w H s Q E) s
/-- what is wanted of an exception, told to the layer -/
def EZ (P : Pg) (Z : ZX) : XK := fun c d H => ∃ x S M, P.Emb M H S ∧ P.XA x c d H ∧ Z x S M H
def zOf (P : Pg) (E : XK) : ZX := fun x _ _ H => ∀ c d, P.XA x c d H → E c d H
/-- a def's promise by the evaluator -/
def spG (P : Pg) (g : List D → Sto → Out D) : Sp := fun vs H Q E => ∃ M S ds, P.Emb M H S ∧ Rvs M H ds vs ∧ Res P Rv M H (g ds S) Q (zOf P E)
theorem Res.zimp {P : Pg} {α β : Type} {R : Ma → Hp → α → β → Prop} {M : Ma} {H : Hp} {r : Out α} {Q : β → Hp → Prop} {Z Z' : ZX} (h : Res P R M H r Q Z) (z : ∀ x S M' H', P.Emb M' H' S → Z x S M' H' → Z' x S M' H') : Res P R M H r Q Z' := by
  cases r with
  | ok d S' => exact h
  | exc x S' => exact fun M' H' e em => z _ _ _ _ em (h M' H' e em)
  | bad => exact h
section
variable {X : Cx} {k : Nat} {f : Addr} {fd : FuncData} {ps : List Str} {sp : Sp} {E : XK} {x : Str} {p pos : Pos} {e : Expr} {es : List Expr} {t : TA}
theorem run_fnG {pins : List (Addr × Obj)} {σ : L2.St} {H : Hp} {s : Shared} {Q : VK} {us : List Value} {vs : List V} (F : FnG X.prog X.w X.K X.mg X.base k f fd ps sp) (hr : Room k X.A) (hg : X.A.guards = some []) (hb : Binds X.K fd ps []) (hx : Passes (L2N.CX X.prog X.w) X E)
    (I : L2.Inv X pins σ H s) (r : Vals vs us) (h : sp vs H Q E) : wpAny (model X.prog X.w) X.A (call (.ref f) us) (EP X pins σ Q) X.xe s := by
  have hl : us.length = ps.length := by rw [← r.length]; exact F.len _ _ _ _ h
  have hb' := hb s us I.kIn (by rw [List.append_nil]; exact hl)
  rw [List.append_nil] at hb'
  refine wpAny_call (codeAny_mono (F.run X.A X.stack s H ⟨us, []⟩ us vs Q E hr hg I.env0 hb' r h) fun r s' hq => ?_)
  cases r with
  | error e => exact hx pins σ H s e s' I hq
  | ok fl =>
    cases fl with
    | ret u => exact I.after hq
    | next => exact False.elim hq
    | brk => exact False.elim hq
    | cont => exact False.elim hq
theorem pe_callG (F : FnG X.prog X.w X.K X.mg X.base k f fd ps sp) (hr : Room k X.A) (hgd : X.A.guards = some []) (hg : Gl X x) (hm : X.mg x = some (.ref f)) (hk : PySem.W.keepIn X.K (.ref f) = true) (hb : Binds X.K fd ps []) (hx : Passes (L2N.CX X.prog X.w) X E)
    (ha : PA X es t) (hnil : es = [] → ∀ σ H (Q : List V → Hp → Prop), t σ H Q → Q [] H) (hs : es.all (fun e => !isStar e) = true) (hdb : (x == ("__debug__" : Str)) = false) : PE X (.Call (.Name x p) es [] pos) (fun σ H Q => t σ H fun vs H1 => sp vs H1 Q E) := by
  refine ⟨fun pins s σ H Q I h => ?_⟩
  refine wpAny_Call_Name_kw (ld_glob I hg hm ?_ hdb)
  cases es with
  | nil =>
    refine PySem.W.callWith_K0 I.kIn hk ?_
    exact run_fnG F hr hgd hb hx I .nil (hnil rfl σ H _ h)
  | cons e es =>
    rw [List.all_cons, Bool.and_eq_true] at hs
    refine PySem.W.callWith_K (h₀ := X.base) I.ok.mod.kin hk (thn (ha.run pos pins s σ H _ I h) fun us s1 ⟨vs, H1, I1, r, q⟩ => ⟨I1.kIn, ?_⟩) (starEach_cons (by simpa using hs.1)) (star_none hs.2)
    exact run_fnG F hr hgd hb hx I1 r q
end
end PL
end

section
set_option Elab.async false
set_option linter.all false
set_option maxRecDepth 100000
set_option maxHeartbeats 4000000
/-! PLJ2: sorted(set(ints)), tuple(range(n)), reversed slices, `is` of truth values. -/
namespace PL
open PySem PySem.Spec PyProof.Rows L2
def setO (w : World) : Obj := { cls := .type "set", dict := none, data := .set #[] 0 (.fresh 0 0 (!w.params.followText "set-order")) }
section
variable {P : Program} {w : World} {A : Around} {E : Value → Shared → Prop} {s : Shared}
set_option maxRecDepth 100000 in
theorem set_of_ints {l : Addr} {items : Array Value} (ns : List Int) {Q : Value → Shared → Prop} (hh : A.handled = none) (hl : s.heap.IsList l items) (hit : IntsAre items.toList ns) (hb : ns.length + 1 < scanBound)
    (h : ∀ (h' : Heap) (tk c : Nat), SetR w h' s.heap.objs.size (fun j => decide (j ∈ ns)) c → c ≤ ns.length → (∀ b o, s.heap.get? b = some o → h'.get? b = some o) → Q (.ref s.heap.objs.size) { s with heap := h', toks := tk }) :
    wpAny (model P w) A (call (.type "set") [.ref l]) Q E s := by
  have hisz : items.size = ns.length := by
    have q := IntsAre.length hit
    rw [Array.length_toList] at q
    exact q
  obtain ⟨c, tl, hmro⟩ := F.called_set.mro
  have hmade := F.called_set.made
  have hsub := F.called_set.sub
  refine wpAny_call (codeAny_of_tree ?_)
  show wpAny _ _ (callAny (.type "set") _) _ _ _
  refine wpAny_pure ⟨Code.quiet_builtin _ (by decide +kernel), codeAny_builtin F.entry_type_call ?_⟩
  rw [Around.under_plain (weight_type_call_type "set" [.ref l] []) rfl]
  have h1 := F.called_set.notType
  have h2 := F.called_set.canCreate
  have hct := F.typeCall_set_1 (.ref l)
  repeat (any_goals (first | assumption | wp_step))

  refine codeAny_mono (code_set_led1 (.ref l) (E := E) (Q₁ := fun obj s₁ => obj = .ref s.heap.objs.size ∧ s₁ = { s with heap := s.heap.push (setO w) }) ⟨rfl, rfl⟩) fun r s₁ hr => ?_
  cases r with
  | error e => exact hr
  | ok fl =>
    cases fl with
    | ret obj =>
      obtain ⟨rfl, rfl⟩ := hr
      have hS : (s.heap.push (setO w)).get? s.heap.objs.size = some (setO w) := Heap.get?_push_size _ rfl
      have hT : Shared.TypeIs { s with heap := s.heap.push (setO w) } (.ref s.heap.objs.size) "set" := ⟨_, hS, rfl⟩
      have hli := F.called_set.init.lookup
      have hbi := F.called_set.init.bind (.ref s.heap.objs.size)
      repeat (any_goals (first | assumption | wp_step))

      refine codeAny_mono (codeAny_call_builtin (R := wants (fun r s₂ => r = .none ∧ ∃ h' tk c, s₂ = { s with heap := h', toks := tk } ∧ SetR w h' s.heap.objs.size (fun j => decide (j ∈ ns)) c ∧ c ≤ ns.length ∧
          (∀ b o, s.heap.get? b = some o → h'.get? b = some o)) E) F.called_set.init.plain F.entry_set_init (check_set_init_1 hT ?_)) fun r₂ s₂ hr₂ => ?_
      · obtain ⟨ol, hol, hcl, nl, hdl⟩ := hl
        obtain ⟨ocls, odict, odata, oslots⟩ := ol
        simp only at hcl hdl
        subst hcl; subst hdl
        have hol' : (s.heap.push (setO w)).get? l = some { cls := .type "list", dict := odict, data := .seq items nl, slots := oslots } := Heap.get?_push_of_some _ hol
        have hsls := F.sub_list_set
        have hslf := F.sub_list_frozenset
        have hne : (Value.type "list" == Value.type "dict") = false := by decide
        have hl1 : (s.heap.push (setO w)).IsList l items := ⟨_, hol', rfl, nl, rfl⟩
        unfold Builtin.«set.__init__» noKeywords Builtin.Frozenset.updateFrom
        generalize hPI : pyIter = PI
        wp_walk
        subst hPI

        refine wpAny_pyIter_list hl1 ?_
        refine wpAny_bind (wpAny_runValue ?_)
        have hlS : l < s.heap.objs.size := Heap.lt_size hol
        have hh3 : A.in1.in1.in1.handled = none := by simp [hh]
        have hz1 : (s.heap.push (setO w)).objs.size = s.heap.objs.size + 1 := Heap.size_push ..
        have hneI : l ≠ (s.heap.push (setO w)).objs.size := by
          rw [Heap.size_push]; exact Nat.ne_of_lt (Nat.lt_succ_of_lt hlS)
        have hSf : s.heap.objs.size ∉ [(s.heap.push (setO w)).objs.size, l] := by
          rw [Heap.size_push]; simp only [List.mem_cons, List.mem_singleton, List.not_mem_nil, or_false, not_or]
          exact ⟨Nat.ne_of_lt (Nat.lt_succ_self _), Nat.ne_of_gt hlS⟩
        have hval : ∀ (i : Nat) (v : Value), items[i]? = some v → ∃ k t, ns[i]? = some k ∧ v = .int k t := fun i v hv => by
          have hi : i < ns.length := by rw [← hisz]; exact (Array.getElem?_eq_some_iff.mp hv).1
          obtain ⟨t, e⟩ := PyProof.Rows.IntsAre.int_at hit i v (by rw [Array.getElem?_toList]; exact hv)
          refine ⟨ns[i], t, List.getElem?_eq_getElem hi, ?_⟩
          rw [e, List.getD_eq_getElem?_getD, List.getElem?_eq_getElem hi] <;> rfl
        refine set_update_ints ((Walks.list hh3 _ l hneI items).toS) s.heap.objs.size
          hSf ns hisz hb hval (items.size - 0) 0 _ (by omega) (Nat.zero_le _)
          ⟨⟨_, Heap.get?_push_size _ rfl, rfl, rfl⟩, (hl1.push _)⟩ ?hS0 ?hR
        case hS0 =>
          have hget : ((s.heap.push (setO w)).push { cls := .type "list_iterator", data := .fields #[.ref l, .int 0 0] }).get? s.heap.objs.size = some (setO w) := Heap.get?_push_of_some _ hS
          exact ⟨0, Nat.le_refl 0, setR_new_at hget⟩
        case hR =>
          intro s' c' hm hc' hS'
          obtain ⟨h', g2, d', tk', os'⟩ := s'
          have eg : g2 = s.gens := hm.gens
          have ed : d' = s.drawn := hm.drawn
          have eo : os' = s.os := hm.os
          subst eg; subst ed; subst eo
          show wpAny _ _ _ _ _ _
          refine wpAny_pure ?_
          show wpAny _ _ (ret Value.none) _ _ _
          rw [hisz] at hc'
          refine wpAny_pure ⟨rfl, h', tk', c', rfl, hS', hc', fun b o e => ?_⟩
          have hb0 : b < s.heap.objs.size := Heap.lt_size e
          have hb1 : b ≠ s.heap.objs.size := Nat.ne_of_lt hb0
          have hb2 : b ≠ (s.heap.push (setO w)).objs.size := by
            rw [Heap.size_push]; exact Nat.ne_of_lt (Nat.lt_succ_of_lt hb0)
          exact hm.heap b o (by simp only [List.mem_cons, List.mem_singleton, List.not_mem_nil, or_false, not_or]; exact ⟨hb1, hb2⟩) (Heap.get?_push_of_some _ (Heap.get?_push_of_some _ e))

      · cases r₂ with
        | error e => exact hr₂
        | ok fl₂ =>
          cases fl₂ with
          | ret r =>
            obtain ⟨rfl, h', tk, c, rfl, hS', hc', hk'⟩ := hr₂
            repeat (any_goals (first | assumption | wp_step))
            exact h _ _ _ hS' hc' hk'
          | _ => exact hr₂.elim
    | _ => exact hr.elim
end
theorem nodup_dd : ∀ (n : Nat) (ms : List Int), ms.length ≤ n → ms.eraseDups.Nodup
  | _, [], _ => by rw [List.eraseDups_nil]; exact List.nodup_nil
  | 0, _ :: _, h => by simp at h
  | n + 1, a :: as, h => by
    rw [List.eraseDups_cons]
    refine List.nodup_cons.mpr ⟨fun q => ?_, nodup_dd n _ ?_⟩
    · rw [List.mem_eraseDups, List.mem_filter] at q
      simp at q
    · exact Nat.le_trans (List.length_filter_le _ _) (by simpa using h)
theorem strict_of {ns ms : List Int} (p : ns.Pairwise (· < ·)) (m : ∀ k : Int, k ∈ ns ↔ k ∈ ms) : ns = isort ms.eraseDups := by
  have nd1 : ns.Nodup := p.imp fun h => by omega
  have nd2 : ms.eraseDups.Nodup := nodup_dd _ _ (Nat.le_refl _)
  refine isort_of ((List.perm_ext_iff_of_nodup nd1 nd2).mpr fun k => ?_) (p.imp fun h => Int.le_of_lt h)
  rw [m, List.mem_eraseDups]
section
variable {P : Pg} {G : Calls} {Z : ZX} {α β : Type} {R : Ma → Hp → α → β → Prop} {M : Ma} {S : Sto} {ρ : Env} {σ : L2.St} {H : Hp}
theorem tE.step' {m : E} {f : D → Sto → Out α} {Q : β → Hp → Prop} {K : VK} (em : P.Emb M H S) (rn : Renv M H ρ σ) (h : Res P R M H ((ev G P.gi m ρ S).bind f) Q Z)
    (k : ∀ v H' M' S' d, Ext M H M' H' → P.Emb M' H' S' → Renv M' H' ρ σ → Rv M' H' d v → Res P R M' H' (f d S') Q Z → K v H') : tE P G Z m σ H K :=
  ⟨M, S, ρ, em, rn, (Res.bind h).mono fun v H' ⟨M', S', d, e, em', r, q⟩ => k v H' M' S' d e em' (rn.mono e) r q⟩
end
section
variable {P : Pg} {Γ : Ga} {X : Cx} {G : Calls} {Z : ZX} {n : Nat}
theorem pe_ssetM (F : Fit P Γ X) {m : E} {b : Bool} {e : Expr} {p p2 pos pos2 : Pos} (hg : Gl X "sorted") (hm : X.mg "sorted" = none) (hg2 : Gl X "set") (hm2 : X.mg "set" = none) (he : PE X e (tE P G Z m)) (hs : isStar e = false) :
    PE X (.Call (.Name "sorted" p) [.Call (.Name "set" p2) [e] [] pos2] [] pos) (tE P G Z (.sset b m)) := by
  refine ⟨fun pins s σ H Q I ⟨M, S, ρ, em, rn, q⟩ => ?_⟩
  simp only [ev] at q
  refine Call_ (ld_blt I hg hm boot_sorted ?_)
  refine PyProof.Rows.callWith_builtin1 (PyProof.Rows.args_cons ?_ rfl) rfl rfl
  refine Call_ (ld_blt I hg2 hm2 boot_set ?_)
  refine PyProof.Rows.callWith_type1 (PyProof.Rows.args_cons (thn (he.run pins s σ H _ I ⟨M, S, ρ, em, rn, Res.bind q⟩) fun v s1 ⟨x, H1, I1, r1, M1, S1, d, e1, em1, rd, k⟩ => PyProof.Rows.args_nil ?_) (starEach_cons hs)) (starEach_cons hs) rfl
  obtain ⟨ys, ho, hk⟩ := Res.allo k
  obtain ⟨hl, hk⟩ := Res.alloc hk
  unfold sortedSetD at ho
  cases e2 : lstD S1 d with
  | none => simp [e2] at ho
  | some zs =>
    cases e3 : intsOf zs with
    | none => simp [e2, e3] at ho
    | some ns =>
      simp only [e2, e3, Option.bind_some] at ho
      obtain ⟨c, ho⟩ := ifn ho
      cases ho
      obtain ⟨a, vs, rfl, h1, q1⟩ := em1.lst e2 rd
      have hvs := q1.ints e3
      subst hvs
      cases r1
      obtain ⟨its, r, pl, hz⟩ := I1.list (SqL.of h1)
      refine set_of_ints ns (I1.ok.hd F.calm) pl.isList (by simpa using r.ints) (by unfold scanBound; omega) fun h' tk cc R hcc hk2 => ?_
      refine PyProof.Rows.args_nil ?_
      have I2 : L2.Inv X pins σ H1 { s1 with heap := h', toks := tk } := I1.kept hk2
      refine sorted_set (s := { s1 with heap := h', toks := tk }) R (I2.ok.hd F.calm) (by omega) fun s' l out c' ms kp g o hp hg' hi hsr hm' hl' => ?_
      have hms : ms = isort ns.eraseDups := strict_of hsr fun k => by rw [hm' k]; simp
      have hlen : (ms.map V.int).length ≤ sizeLine := by rw [List.length_map, hl', sizeLine_eq]; omega
      have hn : H1 l = none := I2.hok.fresh hp
      have J : L2.Inv X pins σ (upd H1 l (.lst (ms.map V.int))) { ({ s1 with heap := h', toks := tk } : Shared) with heap := s'.heap, gens := s'.gens, drawn := s'.drawn, toks := s'.toks } :=
        I2.call (ch := []) (Un.laid kp hp hn) (I2.hok.laid kp hp ⟨hlen, out.toList, c', vals_of_ints hi, hg'⟩) (by rw [g]; exact I2.bare) (fun _ z => nomatch z)
      have es : s' = { ({ s1 with heap := h', toks := tk } : Shared) with heap := s'.heap, gens := s'.gens, drawn := s'.drawn, toks := s'.toks } := by
        cases s'
        cases s1
        cases o
        rfl
      rw [es]
      refine ⟨.ref l, _, J, rfl, ?_⟩
      rw [hms]
      exact hk M1 H1 l _ Ext.refl em1 (Rvs.ofInts _) (by exact hn)
theorem pe_tupRM (F : Fit P Γ X) {m : E} {e : Expr} {p p2 pos pos2 : Pos} (hg : Gl X "tuple") (hm : X.mg "tuple" = none) (hg2 : Gl X "range") (hm2 : X.mg "range" = none) (he : PE X e (tE P G Z m)) (hs : isStar e = false) :
    PE X (.Call (.Name "tuple" p) [.Call (.Name "range" p2) [e] [] pos2] [] pos) (tE P G Z (.tupR m)) := by
  refine ⟨fun pins s σ H Q I ⟨M, S, ρ, em, rn, q⟩ => ?_⟩
  simp only [ev] at q
  refine Call_ (ld_blt I hg hm boot_tuple (PyProof.Rows.callWith_type1 (args_cons (thn (prg_1 hg2 hm2 he (starEach_cons hs) pins s σ H (fun a b H1 => ∃ M1 S1 i, P.Emb M1 H1 S1 ∧ a = 0 ∧ b = i ∧ 0 ≤ i ∧ i ≤ 16777216 ∧ Res P Rv M1 H1 (.ok (.tuple (rangeL i)) S1) Q Z) I ?_) fun x s1 ⟨r, a, b, t, u, v, H1, ex, hr, I1, M1, S1, i, em1, ea, eb, c1, c2, hk⟩ => args_nil ?_) rfl) rfl))
  · refine tE.step' em rn q fun v H' M' S' d e em' rn' rv k => ?_
    split at k
    · rename_i i
      split at k
      · rename_i c
        cases rv
        exact ⟨i, rfl, M', S', i, em', rfl, rfl, c.1, c.2, k⟩
      · exact k.elim
    · exact k.elim
  · subst ex ea eb
    refine call_tuple_range (n := (b - 0).toNat) (I1.ok.hd F.calm) hr (small_one (by omega) (by omega) (by omega) (by omega)) (rangeSize_nat 0 b) (by omega) fun h' tk acc hk2 hi => ?_
    have I2 : L2.Inv X pins σ H1 { s1 with heap := h', toks := tk } := I1.kept hk2
    have J := newTup (t' := tk) I2 (vals_rg hi) (by rw [rgV_length, sizeLine_eq]; omega)
    have eo : tupO acc.toList = { cls := .type "tuple", data := .seq acc } := by unfold tupO; rw [Array.toArray_toList]
    rw [eo] at J
    refine ⟨.ref h'.objs.size, _, J, rfl, ?_⟩
    have er : rgV 0 b = (List.range b.toNat).map fun k => V.int (k : Nat) := by
      unfold rgV
      simp
    have rr : Rvs M1 H1 (rangeL b) (rgV 0 b) := by
      rw [er]
      unfold rangeL
      generalize List.range b.toNat = l
      induction l with
      | nil => exact .nil
      | cons k l ih => exact .cons (.int _) ih
    exact hk.tuple Ext.refl em1 rr (I2.hok.fresh (Nat.le_refl _)) rfl
end
end PL
end

section
set_option Elab.async false
set_option linter.all false
set_option maxRecDepth 100000
set_option maxHeartbeats 1000000
/-! PLX: own objects: methods, new ones, attributes as targets. -/
namespace PL
open PySem PySem.Spec PyProof.Rows L2
section
variable {X : Cx} {k : Nat} {f C : Addr} {fd : FuncData} {ps : List Str} {sp : Sp} {E : XK} {x m : Str} {p pos apos : Pos} {o e : Expr} {es : List Expr} {ta : TE} {t : TA} {ds : List Value} {dvs : List V}
theorem run_fnGD {pins : List (Addr × Obj)} {σ : L2.St} {H : Hp} {s : Shared} {Q : VK} {us : List Value} {vs : List V} (F : FnG X.prog X.w X.K X.mg X.base k f fd ps sp) (hr : Room k X.A) (hg : X.A.guards = some []) (hb : Binds X.K fd ps ds) (hd : Vals dvs ds) (hx : Passes (L2N.CX X.prog X.w) X E)
    (I : L2.Inv X pins σ H s) (r : Vals vs us) (h : sp (vs ++ dvs) H Q E) : wpAny (model X.prog X.w) X.A (call (.ref f) us) (EP X pins σ Q) X.xe s := by
  have r2 : Vals (vs ++ dvs) (us ++ ds) := r.append hd
  have hl : (us ++ ds).length = ps.length := by rw [← r2.length]; exact F.len _ _ _ _ h
  refine wpAny_call (codeAny_mono (F.run X.A X.stack s H ⟨us, []⟩ (us ++ ds) (vs ++ dvs) Q E hr hg I.env0 (hb s us I.kIn hl) r2 h) fun r s' hq => ?_)
  cases r with
  | error e => exact hx pins σ H s e s' I hq
  | ok fl =>
    cases fl with
    | ret u => exact I.after hq
    | next => exact False.elim hq
    | brk => exact False.elim hq
    | cont => exact False.elim hq
theorem meth_tree (hb : attributeBase o m X.env (eval o X.env) = eval o X.env) (hline : (apos.endLine == pos.line) = true) (hst : es.all (fun e => !isStar e) = true) (hl : es.length < 30) :
    eval (.Call (.Attribute o m apos) es [] pos) X.env = (do
      let ov ← eval o X.env
      standAt apos.atName
      let (f, first) ← holding [ov] (getMethod ov m (plainOf o X.env))
      callWith pos f first (backTo pos (starEach es X.env)) (backToKw pos (keywordEach [] X.env))) := by
  refine mcall_of hb fun ov => mcall_line ?_ hline
  show ((backTo pos (starEach es X.env)).all (fun x => !x.1) && (backToKw pos (keywordEach [] X.env)).all (fun x => x.1.isSome) && decide (es.length + ([] : List Keyword).length + (if ([] : List Keyword).isEmpty then 0 else 1) < 30)) = true
  rw [star_all hst]
  simp only [Bool.true_and, Bool.and_eq_true, decide_eq_true_eq]
  exact ⟨rfl, by simpa using hl⟩
theorem pe_methG (he : PE X o ta) (c : Cls X.K C) (hm : Meth X.K C m f) (F : FnG X.prog X.w X.K X.mg X.base k f fd ps sp) (hr : Room k X.A) (hg : X.A.guards = some []) (hb : Binds X.K fd ps ds) (hd : Vals dvs ds) (hx : Passes (L2N.CX X.prog X.w) X E)
    (ha : PA X es t) (hnil : es = [] → ∀ σ H (Q : List V → Hp → Prop), t σ H Q → Q [] H) (hs : es.all (fun e => !isStar e) = true) (hab : attributeBase o m X.env (eval o X.env) = eval o X.env) (hline : (apos.endLine == pos.line) = true) (hl : es.length < 30) :
    PE X (.Call (.Attribute o m apos) es [] pos) (tMeth C m sp dvs E ta t) := by
  refine ⟨fun pins s σ H Q I h => ?_⟩
  refine PySem.W.methodCall_KW (pl := plainOf o X.env) (thn (he.run pins s σ H _ I h) fun u s1 ⟨x, H1, I1, rx, a, dx, fs, ex, ea, l, q⟩ => ?_) (meth_tree hab hline hs hl)
  subst ex
  obtain rfl : u = Value.ref a := rx
  refine getmeth_ok I1 ea c hm l ?_
  cases es with
  | nil => exact PySem.W.callWith_K0 (first := [.ref a]) I1.kIn hm.kp (run_fnGD (us := [.ref a]) (vs := [.ref a]) F hr hg hb hd hx I1 (.cons rfl .nil) (hnil rfl σ H1 _ q))
  | cons e es =>
    rw [List.all_cons, Bool.and_eq_true] at hs
    refine PySem.W.callWith_K (first := [.ref a]) (h₀ := X.base) I.ok.mod.kin hm.kp (thn (ha.run pos pins s1 σ H1 _ I1 q) fun us s2 ⟨vs, H2, I2, r, q2⟩ => ⟨I2.kIn, ?_⟩) (starEach_cons (by simpa using hs.1)) (star_none hs.2)
    exact run_fnGD (us := .ref a :: us) (vs := .ref a :: vs) F hr hg hb hd hx I2 (.cons rfl r) q2
theorem make_guards {A : Around} {C : Addr} {us : List Value} (h : A.guards = some []) : (A.under (.builtin "type.__call__" ⟨.ref C :: us, []⟩)).guards = some [] := by
  first
    | exact h
    | (simp [Around.under, Code.weight, Code.isCreation, Code.isGuard, Code.isCaller, Code.frames, Code.isFrame, guardIds, h]; done)
theorem run_makeG {pins : List (Addr × Obj)} {σ : L2.St} {H : Hp} {s : Shared} {Q : VK} {us : List Value} {vs : List V} (M : Mk X.K C f) (F : FnG X.prog X.w X.K X.mg X.base k f fd ps sp) (hr : Room (k + 1) X.A) (hg : X.A.guards = some []) (hb : Binds X.K fd ps [])
    (hx : Passes (L2N.CX X.prog X.w) X E) (I : L2.Inv X pins σ H s) (r : Vals vs us)
    (h : ∀ x dx, H x = none → H dx = none → dx ≠ x → sp (.ref x :: vs) (upd (upd H dx (.own x)) x (.ins C dx [])) (fun v H2 => v = .non ∧ Q (.ref x) H2) E) :
    wpAny (model X.prog X.w) X.A (call (.ref C) us) (EP X pins σ Q) X.xe s := by
  have hq := h (s.heap.objs.size + 1) s.heap.objs.size (I.hok.fresh (Nat.le_succ _)) (I.hok.fresh (Nat.le_refl _)) (Nat.ne_of_lt (Nat.lt_succ_self _))
  have I2 := Inv.made (C := C) I
  have r2 : Vals (V.ref (s.heap.objs.size + 1) :: vs) (Value.ref (s.heap.objs.size + 1) :: us) := .cons rfl r
  have hl : (Value.ref (s.heap.objs.size + 1) :: us).length = ps.length := by
    have e := r2.length
    rw [F.len _ _ _ _ hq] at e
    exact e.symm
  have hb2 := hb { s with heap := (s.heap.push PySem.W.emptyDict).push (PySem.W.instObj C s.heap.objs.size) } (Value.ref (s.heap.objs.size + 1) :: us) I2.kIn (by rw [List.append_nil]; exact hl)
  rw [List.append_nil] at hb2
  refine wpAny_call (make_map (f := f) I.kIn M.makes M.init (beq_iff_eq.mp M.fn) (codeAny_mono (F.run _ X.stack _ _ ⟨Value.ref (s.heap.objs.size + 1) :: us, []⟩ (Value.ref (s.heap.objs.size + 1) :: us) _ _ E (hr.make C us [])
    (make_guards hg) (I2.env0.make C us []) hb2 r2 hq) fun r s' hq' => ?_))
  cases r with
  | error e => exact hx pins σ _ _ e s' I2 hq'
  | ok fl =>
    cases fl with
    | ret u =>
      obtain ⟨v, H', I3, rv, ev, q3⟩ := I2.after hq'
      subst ev
      exact ⟨rv, ⟨V.ref (s.heap.objs.size + 1), H', I3, rfl, q3⟩⟩
    | next => exact False.elim hq'
    | brk => exact False.elim hq'
    | cont => exact False.elim hq'
/-- C(..): a new instance and its dict, then __init__ -/
def tMakeG (C : Addr) (sp : Sp) (E : XK) (t : TA) : TE := fun σ H Q => t σ H fun vs H1 => ∀ x dx, H1 x = none → H1 dx = none → dx ≠ x →
  sp (.ref x :: vs) (upd (upd H1 dx (.own x)) x (.ins C dx [])) (fun v H2 => v = .non ∧ Q (.ref x) H2) E
theorem pe_makeG (M : Mk X.K C f) (F : FnG X.prog X.w X.K X.mg X.base k f fd ps sp) (hr : Room (k + 1) X.A) (hgd : X.A.guards = some []) (hg : Gl X x) (hm : X.mg x = some (.ref C)) (hb : Binds X.K fd ps []) (hx : Passes (L2N.CX X.prog X.w) X E)
    (ha : PA X es t) (hnil : es = [] → ∀ σ H (Q : List V → Hp → Prop), t σ H Q → Q [] H) (hs : es.all (fun e => !isStar e) = true) (hdb : (x == ("__debug__" : Str)) = false) : PE X (.Call (.Name x p) es [] pos) (tMakeG C sp E t) := by
  refine ⟨fun pins s σ H Q I h => ?_⟩
  refine wpAny_Call_Name_kw (ld_glob I hg hm ?_ hdb)
  cases es with
  | nil =>
    refine PySem.W.callWith_K0 I.kIn M.kp ?_
    exact run_makeG M F hr hgd hb hx I .nil (hnil rfl σ H _ h)
  | cons e es =>
    rw [List.all_cons, Bool.and_eq_true] at hs
    refine PySem.W.callWith_K (h₀ := X.base) I.ok.mod.kin M.kp (thn (ha.run pos pins s σ H _ I h) fun us s1 ⟨vs, H1, I1, r, q⟩ => ⟨I1.kIn, ?_⟩) (starEach_cons (by simpa using hs.1)) (star_none hs.2)
    exact run_makeG M F hr hgd hb hx I1 r q
/-- o.f = .. -/
def gFld (K : PySem.W.Frag) (to : TE) (f : Str) : TG := fun v σ H Q => to σ H fun x H1 => ∃ a C dx fs, x = .ref a ∧ H1 a = some (.ins C dx fs) ∧ Cls K C ∧ NoAttr K C f ∧ fs.length < 1000 ∧ Q σ (upd H1 a (.ins C dx (L2.putF f v fs)))
theorem pg_fld {f : Str} (ho : PE X o ta) : PG X (.Attribute o f pos) (gFld X.K ta f) := by
  refine ⟨fun pins s σ H v u Q I r h => ?_⟩
  show wpAny _ _ (do
    let ov ← holding [u] (eval o X.env)
    standAt pos.atName
    holding [u, ov] (setAttr ov f u)
    release [u, ov] []) _ _ _
  refine wpAny_bind (wpAny_holding (thn (ho.run pins s σ H _ I h) fun ov s1 ⟨x, H1, I1, r1, a, C, dx, fs, ex, ea, c, n, l, q⟩ => ?_))
  subst ex
  obtain rfl : ov = Value.ref a := r1
  refine wpAny_bind (wpAny_standAt (wpAny_bind (wpAny_holding (setattr_ok I1 ea c n l r fun s3 I3 => ?_))))
  exact wpAny_release ⟨σ, _, I3, q⟩
/-- x == y of two of a class with its own == -/
theorem op_ownEq (F : FnG X.prog X.w X.K X.mg X.base k f fd ps sp) (hr : Room k X.A) (hg : X.A.guards = some []) (hm : Meth X.K C "__eq__" f) (hb : Binds X.K fd ps []) (hx : Passes (L2N.CX X.prog X.w) X E) :
    OpR X (compareOp .Eq) (fun x y H Q => ∃ a b dx dy fs gs, x = .ref a ∧ y = .ref b ∧ H a = some (.ins C dx fs) ∧ H b = some (.ins C dy gs) ∧ sp [x, y] H (fun v H' => ∃ q, v = .bl q ∧ Q (.bl q) H') E) := by
  intro pins s σ H x y v u Q I rx ry d
  obtain ⟨a, b, dx, dy, fs, gs, rfl, rfl, ha, hb', hsp⟩ := d
  cases rx
  cases ry
  obtain ⟨mA, J, _⟩ := ins_get I.hok ha
  obtain ⟨mB, J', _⟩ := ins_get I.hok hb'
  obtain ⟨od, J, _⟩ := J.look
  obtain ⟨od', J', _⟩ := J'.look
  obtain ⟨m, hF⟩ := I.fr
  show wpAny (model X.prog X.w) X.A (richCompare .Eq (.ref a) (.ref b)) (EP X pins σ Q) X.xe s
  refine PySem.W.cmp_K (op := .Eq) (tb := .ref C) hr.units0 hF I.ok.mod.kin J J'.type (by simp [PySem.W.notFirst]) hm.at_ hm.fn ?_
  refine wpAny_mono (run_fnG F hr hg hb hx I (us := [.ref a, .ref b]) (vs := [.ref a, .ref b]) (.cons rfl (.cons rfl .nil)) hsp) (fun r s' hq => ?_) fun _ _ x => x
  obtain ⟨z, H', I', rz, q, ez, hQ⟩ := hq
  subst ez
  cases rz
  exact ⟨.bl q, H', I', rfl, hQ⟩
theorem isi_cls {P : Pg} {M : Ma} {H : Hp} {S : Sto} {d : D} {v : V} {c : Str} {b : Bool} {K : PySem.W.Frag} (em : P.Emb M H S) (r : Rv M H d v) (h : isiD S d (.cls c) = some b)
    (h0 : ∀ t ∈ (["NoneType", "bool", "int", "str", "tuple", "list", "dict"] : List String), PySem.W.kitOne K (.type t) (.ref (P.CA c)) = some false)
    (h1 : ∀ (l dx : Addr) (vfs : List (Str × V)), H l = some (.ins (P.CA c) dx vfs) → TyX K H (.ref l) (.ref (P.CA c))) (h2 : PySem.W.kitOne K (.ref (P.CA c)) (.ref (P.CA c)) = some true) :
    ∃ T, TyX K H v T ∧ PySem.W.kitOne K T (.ref (P.CA c)) = some b := by
  unfold isiD at h
  simp only at h
  split at h
  · rename_i p hp
    obtain ⟨c', fs⟩ := p
    split at h
    · rename_i hc
      have hc' : c' = c := hc
      subst hc'
      cases h
      cases ea : asRef d with
      | none => rw [ea] at hp; cases hp
      | some i =>
        rw [ea] at hp
        have ed := asRef_some ea
        subst ed
        obtain ⟨l, dx, vfs, rfl, _, g1, _⟩ := em.ins hp r
        exact ⟨_, h1 l dx vfs g1, h2⟩
    · cases h
  · cases e : isi0 S d .str with
    | none => rw [e] at h; cases h
    | some w =>
      rw [e] at h
      cases h
      cases d with
      | none => cases r; exact ⟨_, .base .non, h0 _ (by decide)⟩
      | bool x => cases r; exact ⟨_, .base (.bl x), h0 _ (by decide)⟩
      | int x => cases r; exact ⟨_, .base (.int x), h0 _ (by decide)⟩
      | str x => cases r; exact ⟨_, .base (.str x), h0 _ (by decide)⟩
      | tuple xs =>
        obtain ⟨a, vs, rfl, ⟨o, g1, g2⟩, _⟩ := r.tupI
        exact ⟨_, .fTuple g1, h0 _ (by decide)⟩
      | list xs =>
        obtain ⟨a, vs, rfl, g1, _⟩ := em.lst (xs := xs) rfl r
        exact ⟨_, .base (.lst g1), h0 _ (by decide)⟩
      | dict kvs =>
        unfold isi0 at e
        simp only at e
        split at e
        · cases e2 : lstD S (.dict kvs) with
          | none => rw [e2] at e; cases e
          | some xs =>
            obtain ⟨a, vs, rfl, g1, _⟩ := em.lst e2 r
            exact ⟨_, .base (.lst g1), h0 _ (by decide)⟩
        · rename_i cc
          cases r with
          | scr _ _ => exact absurd rfl cc
          | ref _ => exact absurd rfl cc
          | dct q g1 _ => exact ⟨_, .base (.dK g1), h0 _ (by decide)⟩
end
end PL
end

section
set_option Elab.async false
set_option linter.all false
set_option maxRecDepth 100000
set_option maxHeartbeats 1000000
/-! PLK: targets, comprehensions. -/
namespace PL
open PySem PySem.Spec PyProof.Rows L2
section
variable {P : Pg} {G : Calls} {Z : ZX} {α β : Type} {R : Ma → Hp → α → β → Prop} {M : Ma} {S : Sto} {ρ : Env} {σ : L2.St} {H : Hp}
/-- the evaluator's first step -/
theorem tE.step {m : E} {f : D → Sto → Out α} {Q : β → Hp → Prop} {K : VK} (em : P.Emb M H S) (rn : Renv M H ρ σ) (h : Res P R M H ((ev G P.gi m ρ S).bind f) Q Z)
    (k : ∀ v H' M' S' d, Ext M H M' H' → P.Emb M' H' S' → Renv M' H' ρ σ → Rv M' H' d v → Res P R M' H' (f d S') Q Z → K v H') : tE P G Z m σ H K :=
  ⟨M, S, ρ, em, rn, (Res.bind h).mono fun v H' ⟨M', S', d, e, em', r, q⟩ => k v H' M' S' d e em' (rn.mono e) r q⟩
theorem tEs.step {ms : List E} {f : List D → Sto → Out α} {Q : β → Hp → Prop} {K : List V → Hp → Prop} (em : P.Emb M H S) (rn : Renv M H ρ σ) (h : Res P R M H ((evs G P.gi ms ρ S).bind f) Q Z)
    (k : ∀ vs H' M' S' ds, Ext M H M' H' → P.Emb M' H' S' → Renv M' H' ρ σ → Rvs M' H' ds vs → Res P R M' H' (f ds S') Q Z → K vs H') : tEs P G Z ms σ H K :=
  ⟨M, S, ρ, em, rn, (Res.bind h).mono fun v H' ⟨M', S', d, e, em', r, q⟩ => k v H' M' S' d e em' (rn.mono e) r q⟩
theorem tEo.step {m : Option E} {f : Option Int → Sto → Out α} {Q : β → Hp → Prop} {K : Option Int → Hp → Prop} (em : P.Emb M H S) (rn : Renv M H ρ σ) (h : Res P R M H ((evo G P.gi m ρ S).bind f) Q Z)
    (k : ∀ v H' M' S', Ext M H M' H' → P.Emb M' H' S' → Renv M' H' ρ σ → Res P R M' H' (f v S') Q Z → K v H') : tEo P G Z m σ H K :=
  ⟨M, S, ρ, em, rn, (Res.bind h).mono fun v H' ⟨M', S', d, e, em', r, q⟩ => by cases r; exact k v H' M' S' e em' (rn.mono e) q⟩
end
/-! ### targets -/
mutual
def tgN : Tg → List Nat
  | .name i => [i]
  | .tup ts => tgNs ts
def tgNs : List Tg → List Nat
  | [] => []
  | t :: ts => tgN t ++ tgNs ts
end
theorem set_wipe {σ : L2.St} {i : Nat} {x : Option V} : ∀ {vs : List Nat}, i ∈ vs → L2.wipe (σ.set i x) vs = L2.wipe σ vs
  | [], h => by cases h
  | v :: vs, h => by
    unfold L2.wipe
    by_cases e : i ∈ vs
    · rw [set_wipe e]
    · have hv : i = v := by
        rcases List.mem_cons.mp h with z | z
        · exact z
        · exact absurd z e
      subst hv
      have q : ∀ (vs : List Nat), i ∉ vs → (L2.wipe (σ.set i x) vs) = (L2.wipe σ vs).set i x := by
        intro vs
        induction vs with
        | nil => intro _; rfl
        | cons w ws ih =>
          intro hn
          have h1 : i ≠ w := fun z => hn (by simp [z])
          have h2 : i ∉ ws := fun z => hn (by simp [z])
          unfold L2.wipe
          rw [ih h2, List.set_comm _ _ h1]
      rw [q vs e, List.set_set]
/-- what may be stored at a target -/
def Rg (M : Ma) (H : Hp) (t : Tg) (d : D) (v : V) : Prop := match t with
  | .name _ => Rv M H d v
  | .tup _ => Rw M H d v
def tG (t : Tg) : TG := fun v σ H Q => ∃ M d ρ ρ', Rg M H t d v ∧ Renv M H ρ σ ∧ putT t d ρ = some ρ' ∧ ∀ σ', Renv M H ρ' σ' → (∀ vs, (∀ i ∈ tgN t, i ∈ vs) → L2.wipe σ' vs = L2.wipe σ vs) → Q σ' H
def tGs (ts : List Tg) : TGs := fun xs σ H Q => ∃ M ds ρ ρ', Rvs M H ds xs ∧ Renv M H ρ σ ∧ putTs ts ds ρ = some ρ' ∧ ∀ σ', Renv M H ρ' σ' → (∀ vs, (∀ i ∈ tgNs ts, i ∈ vs) → L2.wipe σ' vs = L2.wipe σ vs) → Q σ' H
theorem PG.imp {X : Cx} {e : Expr} {t t' : TG} (h : PG X e t) (i : ∀ v σ H Q, t' v σ H Q → t v σ H Q) : PG X e t' := ⟨fun pins s σ H v u Q I r q => h.run pins s σ H v u Q I r (i v σ H Q q)⟩
theorem PGs.imp {X : Cx} {e : List Expr} {t t' : TGs} (h : PGs X e t) (i : ∀ v σ H Q, t' v σ H Q → t v σ H Q) : PGs X e t' := ⟨fun pins s σ H v u Q I r q => h.run pins s σ H v u Q I r (i v σ H Q q)⟩
def locB (sc : Scope) (fn : Str → Bool) (x : Str) : Bool := match sc.names.lookup x with
  | some .local => true
  | some .cell => fn x
  | _ => false
mutual
def chkT : Tg → Ga → Expr → Bool
  | .name i, Γ, e => match e with
    | .Name x _ => decide (Γ.N[i]? = some x) && locB Γ.sc Γ.fn x
    | _ => false
  | .tup ts, Γ, e => match e with
    | .Tuple es _ _ => es.all (fun e => !isStar e) && chkTs ts Γ es
    | _ => false
def chkTs : List Tg → Ga → List Expr → Bool
  | [], _, es => es.isEmpty
  | t :: ts, Γ, es => match es with
    | e :: es => chkT t Γ e && chkTs ts Γ es
    | [] => false
end
theorem locB_ok {sc : Scope} {fn : Str → Bool} {x : Str} (h : locB sc fn x = true) : L2.Loc sc x ∧ (fn x = true ∨ sc.names.lookup x = some .local) := by
  unfold locB at h
  split at h
  · rename_i e; exact ⟨.inl e, .inr e⟩
  · rename_i e; exact ⟨.inr e, .inl h⟩
  · cases h
theorem assignEach_cons {e : Expr} {es : List Expr} {env : PySem.Env} (h : isStar e = false) : assignEach (e :: es) env = (false, assign e env) :: assignEach es env := by
  cases e <;> first | rfl | cases h
theorem assignEach_none {env : PySem.Env} : ∀ {es : List Expr}, es.all (fun e => !isStar e) = true → (assignEach es env).findIdx? (·.1) = none ∧ (assignEach es env).length = es.length
  | [], _ => ⟨rfl, rfl⟩
  | e :: es, h => by
    rw [List.all_cons, Bool.and_eq_true] at h
    obtain ⟨h1, h2⟩ := assignEach_none (env := env) h.2
    rw [assignEach_cons (by simpa using h.1)]
    refine ⟨?_, by simp [h2]⟩
    rw [List.findIdx?_cons, h1]
    rfl
theorem putTs_len : ∀ (ts : List Tg) (ds : List D) (ρ ρ' : Env), putTs ts ds ρ = some ρ' → ts.length = ds.length
  | [], [], _, _, _ => rfl
  | [], _ :: _, _, _, h => by cases h
  | _ :: _, [], _, _, h => by cases h
  | t :: ts, d :: ds, ρ, ρ', h => by
    simp only [putTs] at h
    split at h
    · rename_i ρ1 h1
      simp [putTs_len ts ds ρ1 ρ' h]
    · cases h
theorem chkTs_len : ∀ (ts : List Tg) (Γ : Ga) (es : List Expr), chkTs ts Γ es = true → ts.length = es.length
  | [], _, es, h => by
    cases es with
    | nil => rfl
    | cons _ _ => cases h
  | t :: ts, Γ, es, h => by
    cases es with
    | nil => cases h
    | cons e es =>
      simp only [chkTs, Bool.and_eq_true] at h
      simp [chkTs_len ts Γ es h.2]
section
variable {P : Pg} {Γ : Ga} {X : Cx}
mutual
theorem pg_ok (F : Fit P Γ X) : ∀ (t : Tg) {e : Expr}, chkT t Γ e = true → PG X e (tG t)
  | .name i, e, h => by
    simp only [chkT] at h
    split at h
    · rename_i x p
      simp only [Bool.and_eq_true, decide_eq_true_eq] at h
      obtain ⟨l1, l2⟩ := locB_ok h.2
      refine PG.imp (pg_name (i := i) (by rw [F.N]; exact F.nd) (by rw [F.N]; exact h.1) (by rw [F.sc]; exact l1) (by rw [F.fn, F.sc]; exact l2)) fun v σ H Q ⟨M, d, ρ, ρ', r, rn, hp, k⟩ => ?_
      simp only [putT] at hp
      obtain ⟨c, hp⟩ := ifn hp
      cases hp
      exact k _ (rn.set i r) fun vs hv => set_wipe (hv i (by simp [tgN]))
    · cases h
  | .tup ts, e, h => by
    simp only [chkT] at h
    split at h
    · rename_i es k p
      simp only [Bool.and_eq_true] at h
      obtain ⟨a1, a2⟩ := assignEach_none (env := X.env) h.1
      refine PG.imp (pg_tup (n := es.length) F.calm (pgs_ok F ts h.1 h.2) a2 a1) fun v σ H Q ⟨M, d, ρ, ρ', r, rn, hp, k⟩ => ?_
      have hl := chkTs_len _ _ _ h.2
      have key : ∀ ds a vs, d = .tuple ds → v = .ref a → SqT X.K H a vs → Rvs M H ds vs → gTup X.K es.length (tGs ts) v σ H Q := by
        rintro ds a vs rfl rfl hq rv
        simp only [putT] at hp
        refine ⟨a, vs, rfl, hq, ?_, M, ds, ρ, ρ', rv, rn, hp, fun σ' r' w => k σ' r' fun us hu => w us (fun i hi => hu i (by simpa [tgN] using hi))⟩
        rw [← rv.length, ← putTs_len _ _ _ _ hp, hl]
      rcases r with r | ⟨T, ds, vs, rfl, rfl, hT, rv⟩
      · cases d with
        | tuple ds =>
          obtain ⟨a, vs, rfl, h1, n1, q1⟩ := r.tupI
          exact key ds a vs rfl rfl h1.sq q1
        | _ => simp only [putT] at hp; cases hp
      · exact key ds T vs rfl rfl (SqT.of hT) rv
    · cases h
theorem pgs_ok (F : Fit P Γ X) : ∀ (ts : List Tg) {es : List Expr}, es.all (fun e => !isStar e) = true → chkTs ts Γ es = true → PGs X es (tGs ts)
  | [], es, hs, h => by
    cases es with
    | nil =>
      refine PGs.imp pgs_nil fun xs σ H Q ⟨M, ds, ρ, ρ', r, rn, hp, k⟩ => ?_
      cases ds with
      | nil =>
        cases hp
        cases r
        exact ⟨rfl, k σ rn fun _ _ => rfl⟩
      | cons _ _ => cases hp
    | cons _ _ => cases h
  | t :: ts, es, hs, h => by
    cases es with
    | nil => cases h
    | cons e es =>
      simp only [chkTs, Bool.and_eq_true] at h
      rw [List.all_cons, Bool.and_eq_true] at hs
      refine PGs.imp (pgs_cons (pg_ok F t h.1) (pgs_ok F ts hs.2 h.2) (by rw [assignEach_cons (by simpa using hs.1)]; rfl)) fun xs σ H Q ⟨M, ds, ρ, ρ', r, rn, hp, k⟩ => ?_
      cases ds with
      | nil => cases hp
      | cons d ds =>
        cases r with
        | @cons _ _ v vs r1 r2 =>
          simp only [putTs] at hp
          split at hp
          · rename_i ρ1 h1
            refine ⟨v, vs, rfl, M, d, ρ, ρ1, ?_, rn, h1, fun σ' q' w1 => ⟨M, ds, ρ1, ρ', r2, q', hp, fun σ2 q2 w2 => k σ2 q2 fun us hu => ?_⟩⟩
            · cases t with
              | name i => exact r1
              | tup _ => exact .inl r1
            · rw [w2 us fun i hi => hu i (by simp [tgNs, hi]), w1 us fun i hi => hu i (by simp [tgNs, hi])]
          · cases hp
end
end
end PL
end

section
set_option Elab.async false
set_option linter.all false
set_option maxRecDepth 100000
set_option maxHeartbeats 1000000
/-! PLL: comprehensions by the evaluator. -/
namespace PL
open PySem PySem.Spec PyProof.Rows L2
def ZF : ZX := fun _ _ _ _ => False
section
variable {T : List (Addr × Str)} {CA : Str → Addr} {KF : PySem.W.Frag} {M : Ma} {H : Hp} {S : Sto} {q : Addr}
theorem Ma.tell_no {M : Ma} {a q : Addr} (h : a ∉ M) (hq : q ∈ M.f) : a ∉ (M.del q).push q := fun z => by
  rcases z with z | z
  · rcases List.mem_append.mp z with z | z
    · exact h (.inl z)
    · exact Ma.ne_of h hq (List.mem_singleton.mp z)
  · exact h (.inr (List.mem_filter.mp z).1)
mutual
theorem Rv.tell (hq : q ∈ M.f) : ∀ {d : D} {v : V}, Rv M H d v → Rv ((M.del q).push q) H d v
  | _, _, .non => .non
  | _, _, .bl b => .bl b
  | _, _, .int i => .int i
  | _, _, .str x => .str x
  | _, _, .tup h m r => .tup h (Ma.tell_no m hq) (Rvs.tell hq r)
  | _, _, .lst h m r => .lst h (Ma.tell_no m hq) (Rvs.tell hq r)
  | _, _, .scr h r => .scr (h.sub rfl fun m => Ma.tell_no m hq) (Rvs.tell hq r)
  | _, _, .dct e h m => .dct e h (Ma.tell_no m hq)
  | _, _, .ref h => .ref (by
    show (M.n ++ [q])[_]? = _
    rw [List.getElem?_append_left (List.getElem?_eq_some_iff.mp h).1]
    exact h)
theorem Rvs.tell (hq : q ∈ M.f) : ∀ {ds : List D} {vs : List V}, Rvs M H ds vs → Rvs ((M.del q).push q) H ds vs
  | _, _, .nil => .nil
  | _, _, .cons r t => .cons (Rv.tell hq r) (Rvs.tell hq t)
end
theorem Emb.tell {ds : List D} {vs : List V} (e : Emb T CA KF M H S) (hf : q ∈ M.f) (hq : H q = some (.lst vs)) (r : Rvs M H ds vs) : Emb T CA KF ((M.del q).push q) H (S ++ [.lst ds]) := by
  have hn := (e.df q hf).2
  refine ⟨e.kf, ?_, ?_, fun a ha => ?_, fun i a u h1 h2 => ?_, e.tb⟩
  · show (M.n ++ [q]).length = _
    simp [e.len]
  · show (M.n ++ [q]).Nodup
    refine List.nodup_append.mpr ⟨e.nd, by simp, fun a ha b hb => ?_⟩
    rw [List.mem_singleton.mp hb]
    exact fun z => hn (z ▸ ha)
  · have h1 := List.mem_filter.mp ha
    refine ⟨(e.df a h1.1).1, fun z => ?_⟩
    rcases List.mem_append.mp z with z | z
    · exact (e.df a h1.1).2 z
    · have : a ≠ q := by simpa using h1.2
      exact this (List.mem_singleton.mp z)
  · change (M.n ++ [q])[i]? = some a at h1
    by_cases hi : i < M.n.length
    · rw [List.getElem?_append_left hi] at h1
      rw [List.getElem?_append_left (by rw [← e.len]; exact hi)] at h2
      have w := e.ob i a u h1 h2
      cases u with
      | lst ds => obtain ⟨vs, g1, g2⟩ := w; exact ⟨vs, g1, g2.tell hf⟩
      | ins c fs =>
        obtain ⟨dx, vfs, g1, g2, g3, g4⟩ := w
        exact ⟨dx, vfs, g1, g2, Ma.tell_no g3 hf, Paired.mapP g4 fun _ _ p => ⟨p.1, p.2.tell hf⟩⟩
    · have hl := (List.getElem?_eq_some_iff.mp h1).1
      simp at hl
      have hi' : i = M.n.length := by omega
      subst hi'
      simp at h1
      rw [e.len] at h2
      simp at h2
      subst h1 h2
      exact ⟨vs, hq, r.tell hf⟩
theorem Ext.tell {M' : Ma} {H' : Hp} (em : Emb T CA KF M H S) (e : Ext M H M' H') (hq : H q = none) : Ext M H ((M'.del q).push q) H' := by
  obtain ⟨N, hN⟩ := e.pre.1
  have w := Ext.outw em e hq
  refine ⟨⟨⟨⟨N ++ [q], ?_⟩, e.pre.2⟩, w.sub, e.keep, e.dom, fun a h n => ?_⟩, e.kf⟩
  · show M'.n ++ [q] = _
    rw [hN, List.append_assoc]
  · rcases h with h | h
    · rcases List.mem_append.mp h with h | h
      · exact e.new a (.inl h) n
      · rw [List.mem_singleton.mp h]; exact hq
    · exact e.new a (.inr (List.mem_filter.mp h).1) n
end
theorem wipe_wipe {σ : L2.St} {vs : List Nat} : ∀ us : List Nat, (∀ i ∈ us, i ∈ vs) → L2.wipe (L2.wipe σ us) vs = L2.wipe σ vs
  | [], _ => rfl
  | u :: us, h => by
    show L2.wipe ((L2.wipe σ us).set u none) vs = _
    rw [set_wipe (h u List.mem_cons_self)]
    exact wipe_wipe us fun i hi => h i (List.mem_cons_of_mem _ hi)
/-- the tests of a comprehension -/
def tC' (P : Pg) (G : Calls) (m : Option E) : TT := fun σ H Q => ∃ M S ρ, P.Emb M H S ∧ Renv M H ρ σ ∧ Res P Rv M H (evc G P.gi m ρ S) (fun v H' => ∃ b, v = .bl b ∧ Q b H') ZF
theorem PTs.imp {X : Cx} {e : List Expr} {t t' : TT} (h : PTs X e t) (i : ∀ σ H Q, t' σ H Q → t σ H Q) : PTs X e t' := ⟨fun pins s σ H Q I q => h.run pins s σ H Q I (i σ H Q q)⟩
theorem pts_ok0 {P : Pg} {G : Calls} {X : Cx} : PTs X [] (tC' P G none) := PTs.imp pts_nil fun σ H Q ⟨M, S, ρ, em, rn, h⟩ => by
  obtain ⟨b, e, q⟩ := Res.ok h em (.bl true)
  cases e
  exact q
theorem pts_ok1 {P : Pg} {G : Calls} {X : Cx} {e : Expr} {m : E} (h : PT X e (tT P G ZF m)) : PTs X [e] (tC' P G (some m)) := PTs.imp (pts_one h) fun σ H Q ⟨M, S, ρ, em, rn, h⟩ => ⟨M, S, ρ, em, rn, h⟩
theorem drop_get {α : Type} {l : List α} {i : Nat} {d : α} (h : l[i]? = some d) : l.drop i = d :: l.drop (i + 1) := by
  obtain ⟨h1, h2⟩ := List.getElem?_eq_some_iff.mp h
  rw [List.drop_eq_getElem_cons h1, h2]
section
variable {P : Pg} {Γ : Ga} {X : Cx} {G : Calls} {Z : ZX}
theorem comp_ok (F : Fit P Γ X) {r : Bool} {elt : E} {own : List Nat} {tg : Tg} {it : I} {cond : Option E} {x t itx : Expr} {ifs : List Expr} {scope : Scope} {pos : Pos} {own' : List (Str × Nat)} (ho : own'.map (·.2) = own) (htg : ∀ i ∈ tgN tg, i ∈ own)
    (hi : PI X t itx (tI P G Z it)) (ok : BlkOk X.N X.env.scope scope own')
    (hg : ∀ (s : Shared) (H : Hp) (C : Addr) (cl : List (Str × Addr)) (fp : List Addr), PG (X.blk s H scope (compEnvC scope cl C X.env) fp) t (tG tg)) (ht : ∀ (s : Shared) (H : Hp) (C : Addr) (cl : List (Str × Addr)) (fp : List Addr), PTs (X.blk s H scope (compEnvC scope cl C X.env) fp) ifs (tC' P G cond))
    (he : ∀ (s : Shared) (H : Hp) (C : Addr) (cl : List (Str × Addr)) (fp : List Addr), PE (X.blk s H scope (compEnvC scope cl C X.env) fp) x (tE P G ZF elt)) (σ : L2.St) (H : Hp) (Q : VK) (h : tE P G Z (.comp r elt own tg it cond) σ H Q) :
    tLc (tI P G Z it) (tG tg) (tC' P G cond) (tE P G ZF elt) (own'.map (·.2)) σ H Q := by
  obtain ⟨M, S, ρ, em, rn, h⟩ := h
  simp only [ev] at h
  rw [ho]
  refine ⟨M, S, ρ, em, rn, (Res.bind h).mono fun J H1 ⟨M1, S1, w, e1, em1, ⟨W, Y, walk, stand, yield⟩, k⟩ Da hD => ?_⟩
  split at k
  · exact k.elim
  rename_i hnp
  have rn1 := rn.mono e1
  -- the rest of the turns, as the evaluator has it
  let cont := fun (i : Nat) (acc : List D) (S' : Sto) => (compL w.ok (fun d => putT tg d (wipe ρ own)) (fun ρ S => evc G P.gi cond ρ S) (fun ρ S => ev G P.gi elt ρ S) (w.items.drop i) acc S').bind fun ws S1 => allocL r ws S1
  have hlen : ∀ acc S' i, Res P Rv M1 H1 (cont i acc S') Q Z → w.ok S' := fun acc S' i hc => by
    have hc : Res P Rv M1 H1 ((compL w.ok (fun d => putT tg d (wipe ρ own)) (fun ρ S => evc G P.gi cond ρ S) (fun ρ S => ev G P.gi elt ρ S) (w.items.drop i) acc S').bind fun ws S1 => allocL r ws S1) Q Z := hc
    cases e : w.items.drop i with
    | nil =>
      rw [e] at hc
      simp only [compL] at hc
      split at hc
      · assumption
      · exact hc.elim
    | cons d ds =>
      rw [e] at hc
      simp only [compL] at hc
      split at hc
      · assumption
      · exact hc.elim
  refine lc_it walk (Pv := fun i H' => ∃ M' S' acc accV, Ext M1 H1 M' H' ∧ P.Emb M' H' S' ∧ Da ∈ M'.f ∧ H' Da = some (.lst accV) ∧ Rvs M' H' acc accV ∧ Res P Rv M1 H1 (cont i acc S') Q Z)
    ⟨M1.add Da, S1, [], [], Ext.inn hD, em1.inn hD, List.mem_cons_self, upd_same, .nil, k⟩ (fun i H' hi ⟨M', S', acc, accV, e2, em2, hf, hd, rv, hc⟩ => stand M' H' S' e2 em2 (hlen acc S' i hc)) ?_ ?_
  · rintro i xv H' H'' hi ⟨M', S', acc, accV, e2, em2, hf, hd, rv, hc⟩ hy
    have hok := hlen acc S' i hc
    obtain ⟨d, hget, em3, e3, rw3, rv3⟩ := yield i M' H' S' xv H'' e2 em2 hok hy
    have hc : Res P Rv M1 H1 ((compL w.ok (fun d => putT tg d (wipe ρ own)) (fun ρ S => evc G P.gi cond ρ S) (fun ρ S => ev G P.gi elt ρ S) (w.items.drop i) acc S').bind fun ws S1 => allocL r ws S1) Q Z := hc
    rw [drop_get hget] at hc
    simp only [compL] at hc
    rw [if_pos hok] at hc
    cases hput : putT tg d (wipe ρ own) with
    | none => rw [hput] at hc; exact hc.elim
    | some ρ2 =>
      rw [hput] at hc
      simp only at hc
      have rg : Rg M' H'' tg d xv := by
        cases tg with
        | name j => exact rv3 (by simpa [isNm] using hnp)
        | tup ts => exact rw3
      refine ⟨M', d, wipe ρ own, ρ2, rg, ((rn1.mono e2).mono e3).wipe own, hput, fun σ2 rn2 hw => ⟨?_, ?_⟩⟩
      · rw [hw own htg]
        exact wipe_wipe own fun i hi => hi
      · refine ⟨M', S', ρ2, em3, rn2, ?_⟩
        cases hcond : evc G P.gi cond ρ2 S' with
        | bad => rw [hcond] at hc; exact hc.elim
        | exc y S3 => rw [hcond] at hc; exact hc.elim
        | ok b S3 =>
          rw [hcond] at hc
          intro M3 H3 bv e4 em4 rb
          cases b with
          | bool b =>
            cases rb
            refine ⟨b, rfl, ?_⟩
            have hd4 : H3 Da = some (.lst accV) := e4.kf _ _ (e3.kf _ _ hd hf) hf
            have hf3 : Da ∈ M3.f := e4.sub _ hf
            have e24 : Ext M1 H1 M3 H3 := e2.trans (e3.trans e4)
            have rv3 := (rv.mono e3).mono e4
            cases b with
            | false =>
              exact ⟨M3, S3, acc, accV, e24, em4, hf3, hd4, rv3, hc⟩
            | true =>
              refine ⟨M3, S3, ρ2, em4, rn2.mono e4, ?_⟩
              simp only at hc
              cases hel : ev G P.gi elt ρ2 S3 with
              | bad => rw [hel] at hc; exact hc.elim
              | exc y S5 => rw [hel] at hc; exact hc.elim
              | ok wd S5 =>
                rw [hel] at hc
                simp only at hc
                intro M5 H5 y e5 em5 r5
                split at hc
                · rename_i hl
                  have hd5 := e5.kf _ _ hd4 hf3
                  have hf5 := e5.sub _ hf3
                  have rv5 := rv3.mono e5
                  have e25 := e24.trans e5
                  have xw : ExtW M5 H5 M5 (upd H5 Da (.lst (accV ++ [y]))) := ExtW.mut (.inr hf5)
                  refine ⟨accV, hd5, by rw [← lim_eq, ← rv5.length]; exact hl, M5, S5, acc ++ [wd], accV ++ [y], e25.updN hD, em5.step hf5 hd5, hf5, upd_same, (rv5.append (.cons r5 .nil)).monoW xw, hc⟩
                · exact hc.elim
          | _ => exact hc.elim
  · rintro H' ⟨M', S', acc, accV, e2, em2, hf, hd, rv, hc⟩
    have hc : Res P Rv M1 H1 ((compL w.ok (fun d => putT tg d (wipe ρ own)) (fun ρ S => evc G P.gi cond ρ S) (fun ρ S => ev G P.gi elt ρ S) (w.items.drop w.items.length) acc S').bind fun ws S1 => allocL r ws S1) Q Z := hc
    have hok := hlen acc S' _ hc
    rw [List.drop_length] at hc
    simp only [compL] at hc
    rw [if_pos hok] at hc
    simp only [Out.bind_ok] at hc
    unfold allocL at hc
    have hn := (em2.df Da hf).2
    split at hc
    · cases r with
      | true =>
        rw [if_pos rfl] at hc
        refine hc ((M'.del Da).push Da) H' (.ref Da) (Ext.tell em1 e2 hD) (Emb.tell em2 hf hd rv) (.ref ?_)
        rw [← em2.len]
        show (M'.n ++ [Da])[M'.n.length]? = some Da
        simp
      | false =>
        rw [if_neg (by decide)] at hc
        refine hc (M'.del Da) H' (.ref Da) (Ext.outw em1 e2 hD) (em2.outw hf) (.lst hd ?_ rv.less)
        rintro (z | z)
        · exact hn z
        · have := (List.mem_filter.mp z).2
          simp at this
    · exact hc.elim
end
end PL
end

section
set_option Elab.async false
set_option linter.all false
set_option maxRecDepth 100000
set_option maxHeartbeats 1000000
/-! PLM: a text's expression is the evaluator's. -/
namespace PL
open PySem PySem.Spec PyProof.Rows L2
/-- what a global name is -/
inductive Gk where
  | blt
  | int
  | fn
  | cls (fs : List Str) (ms : List (Str × List Int))
  deriving DecidableEq
abbrev Gt := List (Str × Gk)
/-- an own class: its fields, its methods with their defaults -/
structure ClsG (P : Pg) (n : Nat) (G : Calls) (c : Str) (fs : List Str) (ms : List (Str × List Int)) : Prop where
  mg : P.mg c = some (.ref (P.CA c))
  kp : PySem.W.keepIn P.K (.ref (P.CA c)) = true
  cl : Cls P.K (P.CA c)
  noat : ∀ f ∈ fs, NoAttr P.K (P.CA c) f
  new_ : ∃ f fd ps, Mk P.K (P.CA c) f ∧ Binds P.K fd ps [] ∧ FnG P.prog P.w P.K P.mg P.base (2 * n) f fd ps (spG P (G (c ++ ".__init__")))
  meth : ∀ m ds, ms.lookup m = some ds → ∃ f fd ps, Meth P.K (P.CA c) m f ∧ FnG P.prog P.w P.K P.mg P.base (2 * n) f fd ps (spG P (G (c ++ "." ++ m))) ∧ ∀ j, j ≤ ds.length → ∃ us, Vals ((ds.drop j).map V.int) us ∧ Binds P.K fd ps us
/-- isinstance of own classes -/
structure IsG (P : Pg) (gt : Gt) : Prop where
  ty : ∀ c fs ms, gt.lookup c = some (.cls fs ms) → ∀ t ∈ (["NoneType", "bool", "int", "str", "tuple", "list", "dict"] : List String), PySem.W.kitOne P.K (.type t) (.ref (P.CA c)) = some false
  own : ∀ c fs ms, gt.lookup c = some (.cls fs ms) → ∀ (H : Hp) (l dx : Addr) (vfs : List (Str × V)), H l = some (.ins (P.CA c) dx vfs) → TyX P.K H (.ref l) (.ref (P.CA c))
  two : ∀ c fs ms, gt.lookup c = some (.cls fs ms) → PySem.W.kitOne P.K (.ref (P.CA c)) (.ref (P.CA c)) = some true
/-- the globals, the defs at n calls -/
structure Cg (P : Pg) (n : Nat) (G : Calls) (gt : Gt) : Prop where
  blt : ∀ x, gt.lookup x = some .blt → P.mg x = none
  int : ∀ x, gt.lookup x = some .int → ∃ i t, P.mg x = some (.int i t) ∧ P.gi x = some i
  fn : ∀ x, gt.lookup x = some .fn → ∃ f fd ps, P.mg x = some (.ref f) ∧ PySem.W.keepIn P.K (.ref f) = true ∧ Binds P.K fd ps [] ∧ FnG P.prog P.w P.K P.mg P.base (2 * n) f fd ps (spG P (G x))
  cls : ∀ x fs ms, gt.lookup x = some (.cls fs ms) → ClsG P n G x fs ms
  isg : IsG P gt
def dbg (x : Str) : Bool := !(x == ("__debug__" : Str)) && !(x == ("__classdict__" : Str)) && !decide (x = "__name__")
def visB (sc : Scope) (x : Str) : Bool := match sc.names.lookup x with
  | some .local => true
  | some .cell => true
  | some .free => true
  | _ => false
def glB (gt : Gt) (sc : Scope) (x : Str) (k : Gk) : Bool := decide (sc.names.lookup x = some .globalImplicit) && decide (gt.lookup x = some k) && dbg x
def opIs : Op → Operator → Bool
  | .add, .Add => true
  | .sub, .Sub => true
  | .mul, .Mult => true
  | .fdiv, .FloorDiv => true
  | .mod, .Mod => true
  | .pow, .Pow => true
  | _, _ => false
theorem opIs_eq {o : Op} {q : Operator} (h : opIs o q = true) : q = opOf o := by
  cases o <;> cases q <;> first | rfl | cases h
def cmIs : Cm → CmpOp → Bool
  | .eq, .Eq => true
  | .ne, .NotEq => true
  | .lt, .Lt => true
  | .le, .LtE => true
  | .gt, .Gt => true
  | .in_, .In => true
  | .nin, .NotIn => true
  | _, _ => false
theorem cmIs_eq {o : Cm} {q : CmpOp} (h : cmIs o q = true) : q = cmOf o := by
  cases o <;> cases q <;> first | rfl | cases h
/-- built-ins that are served -/
def biName : Bi → Option (Str × Value)
  | .len => some ("len", .builtin "len")
  | .str => some ("str", .type "str")
  | .int => some ("int", .type "int")
  | .list _ => some ("list", .type "list")
  | .tuple => some ("tuple", .type "tuple")
  | .sorted _ => some ("sorted", .builtin "sorted")
  | .max2 => some ("max", .builtin "max")
  | .min2 => some ("min", .builtin "min")
  | .abs => some ("abs", .builtin "abs")
  | .divmod => some ("divmod", .builtin "divmod")
  | .all => some ("all", .builtin "all")
  | .any => some ("any", .builtin "any")
  | .sum => some ("sum", .builtin "sum")
  | _ => none
def biIs (f : Bi) (x : Str) : Bool := match biName f with
  | some p => decide (x = p.1)
  | none => false
def baseOk : Expr → Bool
  | .Call (.Name _ _) [] [] _ => false
  | _ => true
def isSlice : Expr → Bool
  | .Slice .. => true
  | _ => false
def isSet : Expr → Bool
  | .Set .. => true
  | _ => false
def Ga.blk (Γ : Ga) (scope : Scope) : Ga := ⟨Γ.N, relS scope Γ.sc, fun x => scope.names.lookup x == some .cell⟩
def ownOf (N : List Str) (own : List Nat) : List (Str × Nat) := own.map fun i => (N.getD i "", i)
/-- may stand as a test -/
def tst : E → Bool
  | .ite _ _ _ => false
  | .never => false
  | .and a b => tst a && tst b
  | .or a b => tst a && tst b
  | .not a => tst a
  | _ => true
def intLit : E → Option Int
  | .int i => some i
  | _ => none
def isDfl (ms : List E) (ds : List Int) : Bool := decide (ms.map intLit = (ds.drop (ds.length - ms.length)).map some)
def clsF (gt : Gt) (c f : Str) : Bool := match gt.lookup c with
  | some (.cls fs _) => decide (f ∈ fs)
  | _ => false
def clsM (gt : Gt) (c m : Str) : Option (List Int) := match gt.lookup c with
  | some (.cls _ ms) => ms.lookup m
  | _ => none
def isCls (gt : Gt) (c : Str) : Bool := match gt.lookup c with
  | some (.cls _ _) => true
  | _ => false
def chkV (i : Nat) (Γ : Ga) (e : Expr) : Bool := match e with
  | .Name x _ => decide (Γ.N[i]? = some x) && visB Γ.sc x && dbg x
  | _ => false
/-- x == y of two of a class with its own == -/
def ownB (gt : Gt) (n : Bool) (a b : E) (Γ : Ga) (x : Expr) (q : CmpOp) (y : Expr) : Bool := match n, a, b with
  | false, .ite (.isi (.var j) (.cls c)) (.meth (.var i) c' m [.var j']) .never, .bl true => decide (q = .Eq) && decide (m = "__eq__") && decide (c' = c) && decide (j' = j) && decide (clsM gt c m = some []) && !behindInMarks q y && chkV i Γ x && chkV j Γ y
  | _, _, _ => false
def glI (sc : Scope) (x : Str) : Bool := decide (sc.names.lookup x = some .globalImplicit) && dbg x
section
variable (gt : Gt)
mutual
def chk : E → Ga → Expr → Bool
  | .var i, Γ, e => chkV i Γ e
  | .int i, _, e => match e with
    | .Constant (.int j) _ _ => decide (i = j)
    | _ => false
  | .bl i, _, e => match e with
    | .Constant (.bool j) _ _ => decide (i = j)
    | _ => false
  | .non, _, e => match e with
    | .Constant .none _ _ => true
    | _ => false
  | .str i, _, e => match e with
    | .Constant (.str j) _ _ => decide (i = j)
    | _ => false
  | .gint i, Γ, e => match e with
    | .Name x _ => decide (i = x) && glB gt Γ.sc x .int
    | _ => false
  | .tup es, Γ, e => match e with
    | .Tuple xs _ _ => xs.all (fun e => !isStar e) && chks es Γ xs
    | _ => false
  | .lst _ es, Γ, e => match e with
    | .List xs _ => xs.all (fun e => !isStar e) && chks es Γ xs
    | _ => false
  | .op o a b, Γ, e => match e with
    | .BinOp x q y _ => opIs o q && chk a Γ x && chk b Γ y
    | _ => false
  | .neg a, Γ, e => match e with
    | .UnaryOp .USub x _ => chk a Γ x
    | _ => false
  | .cm c a b, Γ, e => match e with
    | .Compare x [q] [y] _ => cmIs c q && !behindInMarks q y && chk a Γ x && chk b Γ y
    | _ => false
  | .ch c d a b w, Γ, e => match e with
    | .Compare x [q, r] [y, z] _ => cmIs c q && cmIs d r && !lastMarks [q, r] [y, z] && chk a Γ x && chk b Γ y && chk w Γ z
    | _ => false
  | .isN n a, Γ, e => match e with
    | .Compare x [q] [.Constant .none _ _] _ => (if n then decide (q = .IsNot) else decide (q = .Is)) && chk a Γ x
    | _ => false
  | .isB n a b, Γ, e => match e with
    | .Compare x [q] [y] _ => ((if n then decide (q = .IsNot) else decide (q = .Is)) && !behindInMarks q y && chk a Γ x && chk b Γ y) || ownB gt n a b Γ x q y
    | _ => false
  | .and a b, Γ, e => match e with
    | .BoolOp .And (x :: y :: r) p => chk a Γ x && (match r with
      | [] => chk b Γ y
      | z :: r => chk b Γ (.BoolOp .And (y :: z :: r) p))
    | _ => false
  | .or a b, Γ, e => match e with
    | .BoolOp .Or (x :: y :: r) p => chk a Γ x && (match r with
      | [] => chk b Γ y
      | z :: r => chk b Γ (.BoolOp .Or (y :: z :: r) p))
    | _ => false
  | .not a, Γ, e => match e with
    | .UnaryOp .Not x _ => chk a Γ x
    | _ => false
  | .ite c a b, Γ, e => match e with
    | .IfExp x y z _ => tst c && chk c Γ x && chk a Γ y && chk b Γ z
    | _ => false
  | .ix a b, Γ, e => match e with
    | .Subscript x y _ => !isSlice y && chk a Γ x && chk b Γ y
    | _ => false
  | .sl a lo hi, Γ, e => match e with
    | .Subscript x (.Slice l h none _) _ => chk a Γ x && chko lo Γ l && chko hi Γ h
    | _ => false
  | .rev a, Γ, e => match e with
    | .Subscript x (.Slice none none (some (.UnaryOp .USub (.Constant (.int 1) _ _) _)) _) _ => chk a Γ x
    | _ => false
  | .bi f es, Γ, e => match e with
    | .Call (.Name x _) (y :: ys) [] _ => biIs f x && glB gt Γ.sc x .blt && (y :: ys).all (fun e => !isStar e) && chks es Γ (y :: ys)
    | _ => false
  | .isi a t, Γ, e => match e with
    | .Call (.Name x _) [y, .Name z _] [] _ => match t with
      | .cls c => decide (x = "isinstance") && glB gt Γ.sc x .blt && decide (z = c) && glI Γ.sc z && isCls gt c && !isStar y && chk a Γ y
      | t => decide (x = "isinstance") && glB gt Γ.sc x .blt && decide (z = Str.ofString (tyName t)) && glB gt Γ.sc z .blt && !isStar y && chk a Γ y && decide (tyName t ≠ "")
    | _ => false
  | .call f es, Γ, e => match e with
    | .Call (.Name x _) ys [] _ => decide (f = x) && glB gt Γ.sc x .fn && ys.all (fun e => !isStar e) && chks es Γ ys
    | _ => false
  | .fld o c f, Γ, e => match e with
    | .Attribute y n _ => decide (n = f) && baseOk y && clsF gt c f && chk o Γ y
    | _ => false
  | .meth o c m es, Γ, e => match e with
    | .Call (.Attribute y n apos) ys [] pos => decide (n = m) && baseOk y && (apos.endLine == pos.line) && ys.all (fun e => !isStar e) && decide (ys.length < 30) && chk o Γ y && (match clsM gt c m with
      | some ds => chksD es Γ ys ds
      | none => false)
    | _ => false
  | .new c es, Γ, e => match e with
    | .Call (.Name x _) ys [] _ => decide (c = x) && glI Γ.sc x && isCls gt c && ys.all (fun e => !isStar e) && chks es Γ ys
    | _ => false
  | .bm o m es, Γ, e => match e with
    | .Call (.Attribute y n apos) ys [] pos => decide (n = bmName m) && baseOk y && (apos.endLine == pos.line) && ys.all (fun e => !isStar e) && decide (ys.length < 30) && chk o Γ y && chks es Γ ys
    | _ => false
  | .comp _ elt own tg it cond, Γ, e => match e with
    | .ListComp x [⟨t, y, ifs, a⟩] scope _ => decide (a = 0) && blkC Γ.N Γ.sc scope (ownOf Γ.N own) && (tgN tg).all (fun i => decide (i ∈ own)) && !isSet y && chki it Γ t y && chkT tg (Γ.blk scope) t && chkc cond (Γ.blk scope) ifs && chk elt (Γ.blk scope) x
    | _ => false
  | .sset _ m, Γ, e => match e with
    | .Call (.Name x _) [.Call (.Name y _) [z] [] _] [] _ => decide (x = "sorted") && glB gt Γ.sc x .blt && decide (y = "set") && glB gt Γ.sc y .blt && !isStar z && chk m Γ z
    | _ => false
  | .tupR m, Γ, e => match e with
    | .Call (.Name x _) [.Call (.Name y _) [z] [] _] [] _ => decide (x = "tuple") && glB gt Γ.sc x .blt && decide (y = "range") && glB gt Γ.sc y .blt && !isStar z && chk m Γ z
    | _ => false
  | .never, _, _ => true
  | _, _, _ => false
def chks : List E → Ga → List Expr → Bool
  | [], _, es => es.isEmpty
  | m :: ms, Γ, es => match es with
    | e :: es => chk m Γ e && chks ms Γ es
    | [] => false
def chksD : List E → Ga → List Expr → List Int → Bool
  | [], _, es, _ => es.isEmpty
  | m :: ms, Γ, es, ds => match es with
    | e :: es => chk m Γ e && chksD ms Γ es ds
    | [] => isDfl (m :: ms) ds
def chko : Option E → Ga → Option Expr → Bool
  | none, _, e => e.isNone
  | some m, Γ, e => match e with
    | some e => chk m Γ e
    | none => false
def chkc : Option E → Ga → List Expr → Bool
  | none, _, e => e.isEmpty
  | some m, Γ, e => match e with
    | [e] => tst m && chk m Γ e
    | _ => false
def chki : I → Ga → Expr → Expr → Bool
  | .seq m, Γ, _, e => chk m Γ e
  | .range m, Γ, _, e => match e with
    | .Call (.Name x _) [y] [] _ => decide (x = "range") && glB gt Γ.sc x .blt && !isStar y && chk m Γ y
    | _ => false
  | .enum m, Γ, t, e => match t, e with
    | .Tuple _ _ _, .Call (.Name x _) [y] [] _ => decide (x = "enumerate") && glB gt Γ.sc x .blt && !isStar y && chk m Γ y
    | _, _ => false
  | .zip m k, Γ, t, e => match t, e with
    | .Tuple _ _ _, .Call (.Name x _) [y, z] [] _ => decide (x = "zip") && glB gt Γ.sc x .blt && !isStar y && !isStar z && chk m Γ y && chk k Γ z
    | _, _ => false
end
end
theorem dbg_ok {x : Str} (h : dbg x = true) : (x == ("__debug__" : Str)) = false ∧ (x == ("__classdict__" : Str)) = false ∧ x ≠ "__name__" := by
  unfold dbg at h
  simp only [Bool.and_eq_true, Bool.not_eq_true', decide_eq_false_iff_not] at h
  exact ⟨h.1.1, h.1.2, h.2⟩
theorem visB_ok {sc : Scope} {x : Str} (h : visB sc x = true) : Vis sc x := by
  unfold visB at h
  split at h
  · rename_i e; exact .inl e
  · rename_i e; exact .inr (.inl e)
  · rename_i e; exact .inr (.inr e)
  · cases h
theorem glB_ok {gt : Gt} {sc : Scope} {x : Str} {k : Gk} (h : glB gt sc x k = true) : sc.names.lookup x = some .globalImplicit ∧ gt.lookup x = some k ∧ dbg x = true := by
  unfold glB at h
  simp only [Bool.and_eq_true, decide_eq_true_eq] at h
  exact ⟨h.1.1, h.1.2, h.2⟩
theorem glI_ok {sc : Scope} {x : Str} (h : glI sc x = true) : sc.names.lookup x = some .globalImplicit ∧ dbg x = true := by
  unfold glI at h
  simp only [Bool.and_eq_true, decide_eq_true_eq] at h
  exact h
theorem isCls_ok {gt : Gt} {c : Str} (h : isCls gt c = true) : ∃ fs ms, gt.lookup c = some (.cls fs ms) := by
  unfold isCls at h
  split at h
  · rename_i e; exact ⟨_, _, e⟩
  · cases h
theorem clsF_ok {gt : Gt} {c f : Str} (h : clsF gt c f = true) : ∃ fs ms, gt.lookup c = some (.cls fs ms) ∧ f ∈ fs := by
  unfold clsF at h
  split at h
  · rename_i e; exact ⟨_, _, e, of_decide_eq_true h⟩
  · cases h
theorem clsM_ok {gt : Gt} {c m : Str} {ds : List Int} (h : clsM gt c m = some ds) : ∃ fs ms, gt.lookup c = some (.cls fs ms) ∧ ms.lookup m = some ds := by
  unfold clsM at h
  split at h
  · rename_i e; exact ⟨_, _, e, h⟩
  · cases h
/-- where an expression stands -/
structure At (P : Pg) (n : Nat) (Z : ZX) (Γ : Ga) (X : Cx) : Prop where
  F : Fit P Γ X
  room : Room (2 * n + 1) X.A
  tk : L2N.Takes X (fun c d _ H => EZ P Z c d H)
theorem At.gl {P : Pg} {n : Nat} {Z : ZX} {Γ : Ga} {X : Cx} (a : At P n Z Γ X) {x : Str} (h : Γ.sc.names.lookup x = some .globalImplicit) : Gl X x := by
  show X.env.scope.names.lookup x = _
  rw [a.F.sc]; exact h
theorem At.blk {P : Pg} {n : Nat} {Z : ZX} {Γ : Ga} {X : Cx} (a : At P n Z Γ X) {scope : Scope} (hk : scope.kind = .function) (s : Shared) (H : Hp) (C : Addr) (cl : List (Str × Addr)) (fp : List Addr) :
    At P n ZF (Γ.blk scope) (X.blk s H scope (compEnvC scope cl C X.env) fp) := by
  refine ⟨⟨a.F.prog, a.F.w, a.F.K, a.F.mg, a.F.base, a.F.N, a.F.nd, ?_, hk, rfl, a.F.calm, a.F.guards, a.F.hd, a.F.units⟩, a.room, ?_⟩
  · show relS scope X.env.scope = relS scope Γ.sc
    rw [a.F.sc]
  · rintro u s' ⟨_, _, _, _, _, _, _, _, _, _, _, _, _, _, _, _, w⟩
    obtain ⟨_, _, _, _, _, w⟩ := w
    exact w.elim
theorem At.passes {P : Pg} {n : Nat} {Z : ZX} {Γ : Ga} {X : Cx} (a : At P n Z Γ X) : Passes (L2N.CX X.prog X.w) X (EZ P Z) := L2N.passes_call a.tk fun _ _ _ _ h => h
end PL
end

section
set_option Elab.async false
set_option linter.all false
set_option maxRecDepth 100000
set_option maxHeartbeats 1000000
/-! PLN: the expressions' theorem. -/
namespace PL
open PySem PySem.Spec PyProof.Rows L2
theorem base_ok {o : Expr} {n : Str} {env : PySem.Env} {whole : Sem Value} (h : baseOk o = true) : attributeBase o n env whole = whole := by
  unfold attributeBase
  split
  · cases h
  · rfl
theorem plainIx_ok {b : Expr} (h : isSlice b = false) : PlainIx b := by
  intro o i
  cases b <;> first | rfl | cases h
theorem noSet {e : Expr} {env : PySem.Env} (h : isSet e = false) : ∀ x, foldedSetIterable e env x = pure x := by
  intro x
  cases e <;> first | rfl | cases h
theorem rv_non {M : Ma} {H : Hp} {d : D} {v : V} (r : Rv M H d v) : decide (v = .non) = (match d with | .none => true | _ => false) := by
  cases r <;> first | rfl | simp
section
variable {P : Pg} {Γ : Ga} {X : Cx} {G : Calls} {Z : ZX} {n : Nat}
theorem bi_rule (F : Fit P Γ X) (f : Bi) (x : Str) (h : biIs f x = true) : x ≠ "__name__" ∧
    ((∃ id, bootBuiltins x = some (.builtin id) ∧ CallR X (.builtin id) (rs P Z (biD f))) ∨ ∃ T, bootBuiltins x = some (.type T) ∧ CallR X (.type T) (rs P Z (biD f))) := by
  unfold biIs at h
  cases f with
  | len => cases of_decide_eq_true h; exact ⟨by decide, .inl ⟨_, boot_len, b_len F⟩⟩
  | str => cases of_decide_eq_true h; exact ⟨by decide, .inr ⟨_, by decide +kernel, b_str⟩⟩
  | int => cases of_decide_eq_true h; exact ⟨by decide, .inr ⟨_, by decide +kernel, b_int⟩⟩
  | list r => cases of_decide_eq_true h; exact ⟨by decide, .inr ⟨_, by decide +kernel, b_list r⟩⟩
  | tuple => cases of_decide_eq_true h; exact ⟨by decide, .inr ⟨_, by decide +kernel, b_tuple⟩⟩
  | sorted r => cases of_decide_eq_true h; exact ⟨by decide, .inl ⟨_, by decide +kernel, b_sorted r⟩⟩
  | max2 => cases of_decide_eq_true h; exact ⟨by decide, .inl ⟨_, by decide +kernel, b_max2 F.calm⟩⟩
  | min2 => cases of_decide_eq_true h; exact ⟨by decide, .inl ⟨_, by decide +kernel, b_min2 F.calm⟩⟩
  | abs => cases of_decide_eq_true h; exact ⟨by decide, .inl ⟨_, by decide +kernel, b_abs⟩⟩
  | divmod => cases of_decide_eq_true h; exact ⟨by decide, .inl ⟨_, by decide +kernel, b_divmod⟩⟩
  | all => cases of_decide_eq_true h; exact ⟨by decide, .inl ⟨_, by decide +kernel, b_all F.calm⟩⟩
  | any => cases of_decide_eq_true h; exact ⟨by decide, .inl ⟨_, by decide +kernel, b_any F.calm⟩⟩
  | sum => cases of_decide_eq_true h; exact ⟨by decide, .inl ⟨_, by decide +kernel, b_sum F.calm⟩⟩
  | _ => cases h
theorem ty_boot (t : Ty) (h : tyName t ≠ "") : bootBuiltins (Str.ofString (tyName t)) = some (.type (tyName t)) ∧ Str.ofString (tyName t) ≠ "__name__" := by
  cases t with
  | cls c => exact absurd rfl h
  | _ => exact ⟨by decide +kernel, by decide⟩
/-- a display of a tuple -/
theorem pe_tupM {es : List E} {xs : List Expr} {k : Nat} {pos : Pos} (h : PA X xs (tEs P G Z es)) : PE X (.Tuple xs k pos) (tE P G Z (.tup es)) := by
  refine ⟨fun pins s σ H Q I ⟨M, S, ρ, em, rn, q⟩ => ?_⟩
  simp only [ev] at q
  refine wpAny_Tuple_spliced (thn (h.run pos pins s σ H _ I ⟨M, S, ρ, em, rn, Res.bind q⟩) fun us s1 ⟨vs, H1, I1, r, M1, S1, ds, e1, em1, rv, k⟩ => ?_)
  split at k
  · rename_i hl
    have hz : vs.length ≤ sizeLine := by rw [← rv.length, ← lim_eq]; exact hl
    exact ⟨by rw [← r.length]; exact hz, .ref s1.heap.objs.size, _, newTup (t' := s1.toks) I1 r hz, rfl, k.tuple Ext.refl em1 rv (I1.hok.fresh (Nat.le_refl _)) rfl⟩
  · exact k.elim
theorem pe_lstM {es : List E} {xs : List Expr} {b : Bool} {pos : Pos} (h : PA X xs (tEs P G Z es)) : PE X (.List xs pos) (tE P G Z (.lst b es)) := by
  refine PE.imp (pe_lst h) fun σ H Q ⟨M, S, ρ, em, rn, q⟩ => ?_
  simp only [ev] at q
  refine tEs.step em rn q fun vs H' M' S' ds e em' rn' rv k => ?_
  obtain ⟨hl, k⟩ := Res.alloc k
  exact ⟨by rw [← rv.length, ← lim_eq]; exact hl, fun p hp => k M' H' p vs Ext.refl em' rv hp⟩
theorem pe_bmM (F : Fit P Γ X) {o : E} {m : Bm} {es : List E} {y : Expr} {ys : List Expr} {apos pos : Pos} (ho : PE X y (tE P G Z o)) (ha : PA X ys (tEs P G Z es)) (hes : ys = [] → es = []) (hb : baseOk y = true)
    (hline : (apos.endLine == pos.line) = true) (hst : ys.all (fun e => !isStar e) = true) (hl : ys.length < 30) : PE X (.Call (.Attribute y (bmName m) apos) ys [] pos) (tE P G Z (.bm o m es)) := by
  refine ⟨fun pins s σ H Q I ⟨M, S, ρ, em, rn, q⟩ => ?_⟩
  simp only [ev] at q
  cases ys with
  | nil =>
    refine wpAny_Call_method0_late (base_ok hb) hline (thn (ho.run pins s σ H _ I ⟨M, S, ρ, em, rn, Res.bind q⟩) fun v s1 ⟨x, H1, I1, r1, M1, S1, d, e1, em1, rd, k⟩ => ?_)
    split at k
    · rename_i c
      obtain ⟨hk, hT, hd⟩ := kd_on em1 I1 rd r1 c
      obtain ⟨id, pa, slot, ty, hm⟩ := m_all (Z := Z) F (kdX d) m hk
      rw [hes rfl] at k
      simp only [evs, Out.bind_ok] at k
      exact ⟨_, id, pa, slot, ty, hT, hd, Calls.callWith_builtin rfl (PySem.evalArgs_none (hm pins s1 σ H1 x [] v [] Q I1 r1 .nil ⟨M1, S1, d, [], rfl, em1, rd, .nil, k⟩))⟩
    · exact k.elim
  | cons z zs =>
    have hfew : ((backTo pos (starEach (z :: zs) X.env)).all (fun x => !x.1) && (backToKw pos (keywordEach [] X.env)).all (fun x => x.1.isSome)
        && decide ((z :: zs).length + ([] : List Keyword).length + (if ([] : List Keyword).isEmpty then 0 else 1) < 30)) = true := by
      rw [star_all hst]
      simp only [Bool.true_and, Bool.and_eq_true, decide_eq_true_eq]
      exact ⟨rfl, by simpa using hl⟩
    rw [List.all_cons, Bool.and_eq_true] at hst
    refine wpAny_Call_method_late (base_ok hb) hfew hline rfl (thn (ho.run pins s σ H _ I ⟨M, S, ρ, em, rn, Res.bind q⟩) fun v s1 ⟨x, H1, I1, r1, M1, S1, d, e1, em1, rd, k⟩ => ?_)
    split at k
    · rename_i c
      obtain ⟨hk, hT, hd⟩ := kd_on em1 I1 rd r1 c
      obtain ⟨id, pa, slot, ty, hm⟩ := m_all (Z := Z) F (kdX d) m hk
      refine ⟨_, id, pa, slot, ty, hT, hd, ?_⟩
      have hA := ha.run pos pins s1 σ H1 _ I1 ⟨M1, S1, ρ, em1, rn.mono e1, Res.bind k⟩
      have hs1 := starEach_cons (es := zs) (env := X.env) (show isStar z = false by simpa using hst.1)
      rw [hs1] at hA ⊢
      refine Calls.callWith_builtin (by show (false || (backTo pos (starEach zs X.env)).any (·.1)) = false; rw [star_none hst.2] <;> rfl) (Calls.evalArgs_plain ?_)
      exact thn hA fun us s2 ⟨vs, H2, I2, r2, M2, S2, ds, e2, em2, rv, k2⟩ => hm pins s2 σ H2 x vs v us Q I2 r1 r2 ⟨M2, S2, d, ds, rfl, em2, rd.mono e2, rv, k2⟩
    · exact k.elim
end
theorem pw_of {X : Cx} {op : BoolOp} {vs : List Expr} {p : Pos} {t : TT} (h : PT X (.BoolOp op vs p) t) : PW X (.BoolOp op vs p) t := ⟨fun _ pins s σ H Q I q => h.run pins s σ H Q I q⟩
end PL
end

section
set_option Elab.async false
set_option linter.all false
set_option maxRecDepth 100000
set_option maxHeartbeats 2000000
/-! PLO: the expressions' theorem, all in one. -/
namespace PL
open PySem PySem.Spec PyProof.Rows L2
section
variable {P : Pg} {G : Calls} {n : Nat} {gt : Gt}
theorem tT_of {Z : ZX} {m : E} {σ : L2.St} {H : Hp} {Q : Bool → Hp → Prop} (h : tT P G Z m σ H Q) : tE P G Z m σ H fun v H' => ∃ b, v = .bl b ∧ Q b H' := h
theorem isT {X : Cx} {m : E} {Z : ZX} {e : Expr} (h : PE X e (tE P G Z m)) (he : ∀ whole, isTrue e X.env whole = (do let v ← whole; standAt e.pos; holding [v] (truthy v))) : PT X e (tT P G Z m) :=
  PT.imp (pt_val h he) fun σ H Q q => q
theorem both {X : Cx} {m : E} {Z : ZX} {e : Expr} (h : PE X e (tE P G Z m)) (he : ∀ whole, isTrue e X.env whole = (do let v ← whole; standAt e.pos; holding [v] (truthy v))) : PE X e (tE P G Z m) ∧ (tst m = true → PT X e (tT P G Z m)) := ⟨h, fun _ => isT h he⟩
theorem Out.bind_assoc {α β γ : Type} (r : Out α) (f : α → Sto → Out β) (g : β → Sto → Out γ) : (r.bind f).bind g = r.bind fun a S => (f a S).bind g := by cases r <;> rfl
theorem tst_cmp {X : Cx} {m : E} {Z : ZX} {t : TE} {e : Expr} (h : PT X e (tTest t)) (i : ∀ σ H Q, tE P G Z m σ H Q → t σ H Q) : PT X e (tT P G Z m) := PT.imp h fun σ H Q q => i σ H _ q
theorem vals_n {M : Ma} {H : Hp} {d : D} {v : V} (r : Rv M H d v) {b : Bool} (h : d = .bool b) : v = .bl b := by
  subst h; cases r; rfl
theorem pa_one {X : Cx} {Z : ZX} {m : E} {e : Expr} (h : PE X e (tE P G Z m)) (hs : isStar e = false) : PA X [e] (tEs P G Z [m]) :=
  PA.imp (pa_cons h pa_nil (starEach_cons hs)) fun σ H Q ⟨M, S, ρ, em, rn, q⟩ => by
    simp only [evs] at q
    exact tE.step em rn q fun v H1 M1 S1 d e1 em1 rn1 r1 k => k.ok em1 (.cons r1 .nil)
theorem pa_two {X : Cx} {Z : ZX} {m k : E} {e f : Expr} (h : PE X e (tE P G Z m)) (h2 : PE X f (tE P G Z k)) (hs : isStar e = false) (hs2 : isStar f = false) : PA X [e, f] (tEs P G Z [m, k]) :=
  PA.imp (pa_cons h (pa_cons h2 pa_nil (starEach_cons hs2)) (starEach_cons hs)) fun σ H Q ⟨M, S, ρ, em, rn, q⟩ => by
    simp only [evs] at q
    refine tE.step em rn q fun v H1 M1 S1 d e1 em1 rn1 r1 k => ?_
    rw [Out.bind_assoc] at k
    exact tE.step em1 rn1 k fun u H2 M2 S2 w e2 em2 rn2 r2 k2 => k2.ok em2 (.cons (r1.mono e2) (.cons r2 .nil))
theorem meth_case {Z : ZX} {M : Ma} {H : Hp} {Q : VK} {c m : Str} {d : D} {S : Sto} {ρ : Env} {es : List E}
    (k : Res P Rv M H (match (asRef d).bind (insD S) with
      | some (c', fs) => if c' = c ∧ fs.lookup m = none then (evs G P.gi es ρ S).bind fun ws S => G (c ++ "." ++ m) (d :: ws) S else .bad
      | none => .bad) Q Z) : ∃ i fs, d = rf i ∧ insD S i = some (c, fs) ∧ fs.lookup m = none ∧ Res P Rv M H ((evs G P.gi es ρ S).bind fun ws S => G (c ++ "." ++ m) (d :: ws) S) Q Z := by
  split at k
  · rename_i c' fs hi
    split at k
    · rename_i hc
      obtain ⟨h1, h2⟩ := hc
      subst h1
      cases ea : asRef d with
      | none => rw [ea] at hi; cases hi
      | some i =>
        rw [ea] at hi
        exact ⟨i, fs, asRef_some ea, hi, h2, k⟩
    · exact k.elim
  · exact k.elim
theorem var_ok {i : Nat} {Γ : Ga} {X : Cx} {Z : ZX} {e : Expr} (h : chkV i Γ e = true) (a : At P n Z Γ X) : PE X e (tE P G Z (.var i)) ∧ (tst (.var i) = true → PT X e (tT P G Z (.var i))) := by
    unfold chkV at h
    split at h
    · rename_i x p
      simp only [Bool.and_eq_true, decide_eq_true_eq] at h
      obtain ⟨d1, d2, d3⟩ := dbg_ok h.2
      refine both ?_ (by intro _; rfl)
      exact PE.imp (pe_var (i := i) (by rw [a.F.N]; exact h.1.1) (by rw [a.F.sc]; exact visB_ok h.1.2) d1 d2) fun σ H Q ⟨M, S, ρ, em, rn, q⟩ => by
        simp only [ev] at q
        split at q
        · rename_i d hd
          obtain ⟨v, h1, h2⟩ := rn.at_ i d hd
          exact ⟨v, h1, q.ok em h2⟩
        · exact q.elim
    · cases h

theorem own_case {Z : ZX} {i j : Nat} {c : Str} {σ : L2.St} {H : Hp} {Q : VK} (h : tE P G Z (.isB false (.ite (.isi (.var j) (.cls c)) (.meth (.var i) c "__eq__" [.var j]) .never) (.bl true)) σ H Q) :
    tOp (fun x y H Q => ∃ a b dx dy fs gs, x = .ref a ∧ y = .ref b ∧ H a = some (.ins (P.CA c) dx fs) ∧ H b = some (.ins (P.CA c) dy gs) ∧ spG P (G (c ++ "." ++ "__eq__")) [x, y] H (fun v H' => ∃ q, v = .bl q ∧ Q (.bl q) H') (EZ P Z)) (tE P G Z (.var i)) (tE P G Z (.var j)) σ H Q := by
  obtain ⟨M, S, ρ, em, rn, q⟩ := h
  have hj : ∃ dj, ρ[j]? = some (some dj) := by
    cases e : ρ[j]? with
    | none => simp only [ev, e, Out.bind_bad] at q; exact q.elim
    | some o =>
      cases o with
      | none => simp only [ev, e, Out.bind_bad] at q; exact q.elim
      | some dj => exact ⟨dj, rfl⟩
  obtain ⟨dj, hj⟩ := hj
  simp only [ev, hj, Out.bind_ok] at q
  have hb : isiD S dj (.cls c) = some true := by
    cases e : isiD S dj (.cls c) with
    | none => rw [e] at q; exact q.elim
    | some b =>
      rw [e] at q
      cases b with
      | true => rfl
      | false => exact q.elim
  rw [hb] at q
  simp only [Option.map_some, oret_some, Out.bind_ok] at q
  have hi : ∃ di, ρ[i]? = some (some di) := by
    cases e : ρ[i]? with
    | none => simp only [e, Out.bind_bad] at q; exact q.elim
    | some o =>
      cases o with
      | none => simp only [e, Out.bind_bad] at q; exact q.elim
      | some dj => exact ⟨dj, rfl⟩
  obtain ⟨di, hi⟩ := hi
  simp only [hi, Out.bind_ok] at q
  have hins : ∃ k fs, di = rf k ∧ insD S k = some (c, fs) ∧ fs.lookup ("__eq__" : Str) = none := by
    cases ea : asRef di with
    | none => rw [ea] at q; exact q.elim
    | some k =>
      rw [ea] at q
      cases e2 : insD S k with
      | none => simp only [Option.bind_some, e2] at q; exact q.elim
      | some p =>
        obtain ⟨c', fs⟩ := p
        simp only [Option.bind_some, e2] at q
        split at q
        · rename_i hc
          obtain ⟨h1, h2⟩ := hc
          subst h1
          exact ⟨k, fs, asRef_some ea, e2, h2⟩
        · exact q.elim
  obtain ⟨k, fs, rfl, hk, hl⟩ := hins
  have hjn : ∃ k2 fs2, dj = rf k2 ∧ insD S k2 = some (c, fs2) := by
    unfold isiD at hb
    simp only at hb
    split at hb
    · rename_i p hp
      obtain ⟨c', fs2⟩ := p
      split at hb
      · rename_i hc
        have hc' : c' = c := hc
        subst hc'
        cases ea : asRef dj with
        | none => rw [ea] at hp; cases hp
        | some k2 =>
          rw [ea] at hp
          exact ⟨k2, fs2, asRef_some ea, hp⟩
      · cases hb
    · cases e : isi0 S dj .str with
      | none => rw [e] at hb; cases hb
      | some w => rw [e] at hb; cases hb
  obtain ⟨k2, fs2, rfl, hk2⟩ := hjn
  simp only [asRef_rf, Option.bind_some, hk, hl, and_self, if_true, evs, ev, hj, Out.bind_ok] at q
  refine ⟨M, S, ρ, em, rn, ?_⟩
  simp only [ev, hi]
  intro M1 H1 v e1 em1 r1
  refine ⟨M1, S, ρ, em1, rn.mono e1, ?_⟩
  simp only [ev, hj]
  intro M2 H2 u e2 em2 r2
  have r1' := r1.mono e2
  obtain ⟨a, dx, vfs, rfl, _, g1, _⟩ := em2.ins hk r1'
  obtain ⟨b, dy, wfs, rfl, _, g2, _⟩ := em2.ins hk2 r2
  refine ⟨a, b, dx, dy, vfs, wfs, rfl, rfl, g1, g2, M2, S, [rf k, rf k2], em2, .cons r1' (.cons r2 .nil), ?_⟩
  have q2 := (Res.bind (R := Rv) (Res.ext q (e1.trans e2)))
  refine Res.zimp (Res.mono q2 fun v H' ⟨M', S', d, e, em', rv, z⟩ => ?_) fun y S M' H' em' z c' d' hxa => ⟨y, S, M', em', hxa, z⟩
  split at z
  · rename_i p1 p2 heq
    cases heq
    cases rv
    refine ⟨_, rfl, ?_⟩
    have := z.ok em' (.bl _)
    simpa using this
  · exact z.elim
theorem new_case {Z : ZX} {M1 : Ma} {H1 : Hp} {S1 : Sto} {Q : VK} {c : Str} {ds : List D} {vs : List V} {x dx : Addr} (em1 : P.Emb M1 H1 S1) (r1 : Rvs M1 H1 ds vs)
    (k : Res P Rv M1 H1 ((G (c ++ ".__init__") (rf S1.length :: ds) (S1 ++ [.ins c []])).bind fun r S1' => (match r with
      | .none => .ok (rf S1.length) S1'
      | _ => .bad)) Q Z) (hx : H1 x = none) (hdx : H1 dx = none) (hne : dx ≠ x) :
    spG P (G (c ++ ".__init__")) (.ref x :: vs) (upd (upd H1 dx (.own x)) x (.ins (P.CA c) dx [])) (fun v H2 => v = .non ∧ Q (.ref x) H2) (EZ P Z) := by
  have x1 : Ext M1 H1 M1 (upd H1 dx (.own x)) := Ext.alloc hdx
  have hx2 : upd H1 dx (.own x) x = none := by rw [upd_ne (Ne.symm hne)]; exact hx
  have x2 : Ext M1 (upd H1 dx (.own x)) (M1.push x) (upd (upd H1 dx (.own x)) x (.ins (P.CA c) dx [])) := Ext.allocM hx2
  have em2 : P.Emb M1 (upd H1 dx (.own x)) S1 := em1.alloc hdx
  have hdM : dx ∉ M1 := em1.no hdx
  have hdM2 : dx ∉ M1.push x := fun z => by
    rcases z with z | z
    · rcases List.mem_append.mp z with z | z
      · exact hdM (.inl z)
      · exact hne (List.mem_singleton.mp z)
    · exact hdM (.inr z)
  have em3 : P.Emb (M1.push x) (upd (upd H1 dx (.own x)) x (.ins (P.CA c) dx [])) (S1 ++ [.ins c []]) := em2.allocM hx2 ⟨dx, [], upd_same, by rw [upd_ne hne, upd_same], hdM2, .nil⟩
  have rx : Rv (M1.push x) (upd (upd H1 dx (.own x)) x (.ins (P.CA c) dx [])) (rf S1.length) (.ref x) := by
    refine .ref ?_
    rw [← em1.len]
    show (M1.n ++ [x])[M1.n.length]? = some x
    simp
  refine ⟨M1.push x, S1 ++ [.ins c []], rf S1.length :: ds, em3, .cons rx ((r1.mono x1).mono x2), ?_⟩
  have k' := Res.bind (R := Rv) (Res.ext k (x1.trans x2))
  refine Res.zimp (Res.mono k' fun v H' ⟨M', S', d, e, em, rv, q⟩ => ?_) fun y S M' H' em' z c' d' hxa => ⟨y, S, M', em', hxa, z⟩
  split at q
  · cases rv
    exact ⟨rfl, q.ok em (rx.mono e)⟩
  · exact q.elim
def tEsD (P : Pg) (G : Calls) (Z : ZX) (es : List E) (js : List Int) : TA := fun σ H Q => tEs P G Z es σ H fun vs H' => ∀ ws, vs = ws ++ js.map V.int → Q ws H'
theorem evs_ints {ρ : Env} {S : Sto} {gi : Str → Option Int} : ∀ (ms : List E) (js : List Int), ms.map intLit = js.map some → evs G gi ms ρ S = .ok (js.map .int) S
  | [], [], _ => by simp only [evs, List.map_nil]
  | [], _ :: _, h => by simp at h
  | _ :: _, [], h => by simp at h
  | m :: ms, j :: js, h => by
    simp only [List.map_cons, List.cons.injEq] at h
    obtain ⟨h1, h2⟩ := h
    cases m with
    | int i =>
      cases h1
      simp only [evs, ev, Out.bind_ok, evs_ints ms js h2, List.map_cons]
    | _ => cases h1
theorem own_ok (C : Cg P n G gt) {g : Bool} {u w : E} {Γ : Ga} {X : Cx} {Z : ZX} {x y : Expr} {q : CmpOp} {pos : Pos} (h : ownB gt g u w Γ x q y = true) (a : At P n Z Γ X) :
    PE X (.Compare x [q] [y] pos) (tE P G Z (.isB g u w)) ∧ (tst (.isB g u w) = true → PT X (.Compare x [q] [y] pos) (tT P G Z (.isB g u w))) := by
  unfold ownB at h
  split at h
  · simp only [Bool.and_eq_true, decide_eq_true_eq, Bool.not_eq_true'] at h
    obtain ⟨⟨⟨⟨⟨⟨⟨h1, h2⟩, h2a⟩, h2b⟩, h3⟩, h4⟩, h5⟩, h6⟩ := h
    subst h1 h2 h2a h2b
    obtain ⟨fs, ms, hc, hms⟩ := clsM_ok h3
    have CC := C.cls _ _ _ hc
    obtain ⟨fa, fd, ps, m1, m2, m3⟩ := CC.meth _ _ hms
    obtain ⟨us, vus, bi⟩ := m3 0 (Nat.le_refl _)
    cases vus
    rw [← a.F.prog, ← a.F.w, ← a.F.K, ← a.F.mg, ← a.F.base] at m2
    have px := (var_ok (G := G) h5 a).1
    have py := (var_ok (G := G) h6 a).1
    have op := op_ownEq (E := EZ P Z) m2 (a.room.mono (by omega)) a.F.guards (by rw [a.F.K]; exact m1) (by rw [a.F.K]; exact bi) a.passes
    exact ⟨PE.imp (pe_cmpR op px py h4) fun σ H Q q => own_case q, fun _ => tst_cmp (pt_cmpR op px py h4) fun σ H Q q => own_case q⟩
  · cases h
theorem isi_blt (C : Cg P n G gt) {t : Ty} (ht : ∀ c, t ≠ .cls c) {Γ : Ga} {X : Cx} {Z : ZX} {m : E} {y : Expr} {px pz' pos : Pos} (a : At P n Z Γ X) (h2 : glB gt Γ.sc "isinstance" .blt = true) (h4 : glB gt Γ.sc (Str.ofString (tyName t)) .blt = true) (h5 : isStar y = false) (h7 : tyName t ≠ "") (h6 : PE X y (tE P G Z m)) :
    PE X (.Call (.Name "isinstance" px) [y, .Name (Str.ofString (tyName t)) pz'] [] pos) (tE P G Z (.isi m t)) ∧ (tst (.isi m t) = true → PT X (.Call (.Name "isinstance" px) [y, .Name (Str.ofString (tyName t)) pz'] [] pos) (tT P G Z (.isi m t))) := by
  obtain ⟨g1, g2, g3⟩ := glB_ok h2
  obtain ⟨k1, k2, k3⟩ := glB_ok h4
  obtain ⟨b1, b2⟩ := ty_boot t h7
  have pz : ∀ p, PE X (.Name (Str.ofString (tyName t)) p) (tC (.ty (tyName t))) := fun p => pe_bltn (a.gl k1) (by rw [a.F.mg]; exact C.blt _ k2) b1 rfl b2 (dbg_ok k3).1
  refine both ?_ (by intro _; rfl)
  exact PE.imp (pe_callB call_isi (a.gl g1) (by rw [a.F.mg]; exact C.blt _ g2) (by decide +kernel) (pa_cons h6 (pa_cons (pz _) pa_nil) (starEach_cons h5)) (by decide) (dbg_ok g3).1 (starEach_cons h5) rfl) fun σ H Q ⟨M, S, ρ, em, rn, q⟩ => by
    simp only [ev] at q
    refine tE.step em rn q fun v H1 M1 S1 d e1 em1 rn1 r1 k => ?_
    obtain ⟨w, hw, k⟩ := k.oret
    cases hb : isiD S1 d t with
    | none => rw [hb] at hw; cases hw
    | some b =>
      rw [hb] at hw
      cases hw
      obtain ⟨T, ty, kt⟩ := isi_val (K := X.K) em1 r1 ht hb
      exact ⟨v, .ty (tyName t), T, .type (tyName t), b, rfl, .ty _, ty, kt, k.ok em1 (.bl b)⟩
mutual
theorem pe_ok (C : Cg P n G gt) : ∀ (m : E) {Γ : Ga} {X : Cx} {Z : ZX} {e : Expr}, chk gt m Γ e = true → At P n Z Γ X → PE X e (tE P G Z m) ∧ (tst m = true → PT X e (tT P G Z m))
  | .var i, Γ, X, Z, e, h, a => by
    simp only [chk] at h
    exact var_ok h a
  | .int i, Γ, X, Z, e, h, a => by
    simp only [chk] at h
    split at h
    · cases of_decide_eq_true h
      refine both ?_ (by intro _; rfl)
      exact PE.imp pe_int fun σ H Q ⟨M, S, ρ, em, rn, q⟩ => by simp only [ev] at q; exact q.ok em (.int i)
    · cases h
  | .bl i, Γ, X, Z, e, h, a => by
    simp only [chk] at h
    split at h
    · cases of_decide_eq_true h
      refine both ?_ (by intro _; rfl)
      exact PE.imp pe_bl fun σ H Q ⟨M, S, ρ, em, rn, q⟩ => by simp only [ev] at q; exact q.ok em (.bl i)
    · cases h
  | .non, Γ, X, Z, e, h, a => by
    simp only [chk] at h
    split at h
    · refine both ?_ (by intro _; rfl)
      exact PE.imp pe_non fun σ H Q ⟨M, S, ρ, em, rn, q⟩ => by simp only [ev] at q; exact q.ok em .non
    · cases h
  | .str i, Γ, X, Z, e, h, a => by
    simp only [chk] at h
    split at h
    · cases of_decide_eq_true h
      refine both ?_ (by intro _; rfl)
      exact PE.imp pe_str fun σ H Q ⟨M, S, ρ, em, rn, q⟩ => by simp only [ev] at q; exact q.ok em (.str i)
    · cases h
  | .gint i, Γ, X, Z, e, h, a => by
    simp only [chk] at h
    split at h
    · rename_i x p
      simp only [Bool.and_eq_true, decide_eq_true_eq] at h
      obtain ⟨rfl, h⟩ := h
      obtain ⟨g1, g2, g3⟩ := glB_ok h
      obtain ⟨k, t, m1, m2⟩ := C.int i g2
      refine both ?_ (by intro _; rfl)
      exact PE.imp (pe_glob (a.gl g1) (v := .int k) (by rw [a.F.mg]; exact m1) ⟨t, rfl⟩ (dbg_ok g3).1) fun σ H Q ⟨M, S, ρ, em, rn, q⟩ => by
        simp only [ev, m2] at q; exact q.ok em (.int k)
    · cases h
  | .tup es, Γ, X, Z, e, h, a => by
    simp only [chk] at h
    split at h
    · simp only [Bool.and_eq_true] at h
      exact both (pe_tupM (pa_ok C es h.1 h.2 a)) (by intro _; rfl)
    · cases h
  | .lst b es, Γ, X, Z, e, h, a => by
    simp only [chk] at h
    split at h
    · simp only [Bool.and_eq_true] at h
      exact both (pe_lstM (b := b) (pa_ok C es h.1 h.2 a)) (by intro _; rfl)
    · cases h
  | .op o x y, Γ, X, Z, e, h, a => by
    simp only [chk] at h
    split at h
    · simp only [Bool.and_eq_true] at h
      obtain ⟨⟨h1, h2⟩, h3⟩ := h
      have e1 := opIs_eq h1
      subst e1
      refine both ?_ (by intro _; rfl)
      exact PE.imp (pe_op (o_op (P := P) (Z := Z) o) (pe_ok C x h2 a).1 (pe_ok C y h3 a).1) fun σ H Q ⟨M, S, ρ, em, rn, q⟩ => by
        simp only [ev] at q
        exact tE.step em rn q fun v H1 M1 S1 d e1 em1 rn1 r1 k => tE.step em1 rn1 k fun u H2 M2 S2 w e2 em2 rn2 r2 k2 => ⟨M2, S2, d, w, em2, r1.mono e2, r2, k2⟩
    · cases h
  | .neg x, Γ, X, Z, e, h, a => by
    simp only [chk] at h
    split at h
    · refine both ?_ (by intro _; rfl)
      exact PE.imp (pe_un un_neg (pe_ok C x h a).1) fun σ H Q ⟨M, S, ρ, em, rn, q⟩ => by
        simp only [ev] at q
        refine tE.step em rn q fun v H1 M1 S1 d e1 em1 rn1 r1 k => ?_
        split at k
        · cases r1
          exact ⟨_, rfl, k.ok em1 (.int _)⟩
        · exact k.elim
    · cases h
  | .cm c x y, Γ, X, Z, e, h, a => by
    simp only [chk] at h
    split at h
    · simp only [Bool.and_eq_true, Bool.not_eq_true'] at h
      obtain ⟨⟨⟨h1, h2⟩, h3⟩, h4⟩ := h
      have e1 := cmIs_eq h1
      subst e1
      have i : ∀ σ H Q, tE P G Z (.cm c x y) σ H Q → tOp (r2 P Z fun x y S => oret ((cmD S c x y).map .bool) S) (tE P G Z x) (tE P G Z y) σ H Q := fun σ H Q ⟨M, S, ρ, em, rn, q⟩ => by
        simp only [ev] at q
        exact tE.step em rn q fun v H1 M1 S1 d e1 em1 rn1 r1 k => tE.step em1 rn1 k fun u H2 M2 S2 w e2 em2 rn2 r2 k2 => ⟨M2, S2, d, w, em2, r1.mono e2, r2, k2⟩
      exact ⟨PE.imp (pe_cmpR (o_cm (Z := Z) a.F c) (pe_ok C x h3 a).1 (pe_ok C y h4 a).1 h2) i, fun _ => tst_cmp (pt_cmpR (o_cm (Z := Z) a.F c) (pe_ok C x h3 a).1 (pe_ok C y h4 a).1 h2) i⟩
    · cases h
  | .ch c c' x y z, Γ, X, Z, e, h, a => by
    simp only [chk] at h
    split at h
    · simp only [Bool.and_eq_true, Bool.not_eq_true'] at h
      obtain ⟨⟨⟨⟨⟨h1, h2⟩, h3⟩, h4⟩, h5⟩, h6⟩ := h
      have e1 := cmIs_eq h1
      have e2 := cmIs_eq h2
      subst e1 e2
      have i : ∀ σ H Q, tE P G Z (.ch c c' x y z) σ H Q → tChain (r2 P Z fun x y S => oret ((cmD S c x y).map .bool) S) (r2 P Z fun x y S => oret ((cmD S c' x y).map .bool) S) (tE P G Z x) (tE P G Z y) (tE P G Z z) σ H Q := fun σ H Q ⟨M, S, ρ, em, rn, q⟩ => by
        simp only [ev] at q
        refine tE.step em rn q fun v H1 M1 S1 d e1 em1 rn1 r1 k => tE.step em1 rn1 k fun u H2 M2 S2 w e2 em2 rn2 r2 k2 => ⟨M2, S2, d, w, em2, r1.mono e2, r2, ?_⟩
        show Res P Rv M2 H2 (oret ((cmD S2 c d w).map .bool) S2) _ Z
        split at k2
        · rename_i hc
          rw [hc]
          intro M3 H3 b e3 em3 rb
          cases rb
          refine ⟨true, rfl, ?_⟩
          rw [if_pos rfl]
          exact tE.step em3 (rn2.mono e3) (k2.ext e3) fun t H4 M4 S4 o e4 em4 rn4 r4 k4 => ⟨M4, S4, w, o, em4, (r2.mono e3).mono e4, r4, k4⟩
        · rename_i hc
          rw [hc]
          intro M3 H3 b e3 em3 rb
          cases rb
          refine ⟨false, rfl, ?_⟩
          rw [if_neg (by decide)]
          exact k2.okE e3 em3 (.bl false)
        · exact k2.elim
      exact ⟨PE.imp (pe_chain (o_cm (Z := Z) a.F c) (o_cm (Z := Z) a.F c') (pe_ok C x h4 a).1 (pe_ok C y h5 a).1 (pe_ok C z h6 a).1 h3) i,
        fun _ => tst_cmp (pt_chain (o_cm (Z := Z) a.F c) (o_cm (Z := Z) a.F c') (pe_ok C x h4 a).1 (pe_ok C y h5 a).1 (pe_ok C z h6 a).1 h3) i⟩
    · cases h
  | .isN g x, Γ, X, Z, e, h, a => by
    simp only [chk] at h
    split at h
    · simp only [Bool.and_eq_true] at h
      obtain ⟨h1, h2⟩ := h
      have px := (pe_ok C x h2 a).1
      cases g with
      | true =>
        have e1 := of_decide_eq_true h1
        subst e1
        have i : ∀ σ H Q, tE P G Z (.isN true x) σ H Q → tOp (fun x y H Q => y = .non ∧ Q (.bl (!decide (x = .non))) H) (tE P G Z x) (tC .non) σ H Q := fun σ H Q ⟨M, S, ρ, em, rn, q⟩ => by
          simp only [ev] at q
          refine tE.step em rn q fun v H1 M1 S1 d e1 em1 rn1 r1 k => ⟨rfl, ?_⟩
          rw [rv_non r1]
          cases d <;> exact k.ok em1 (.bl _)
        exact ⟨PE.imp (pe_cmpR op_notN px pe_non rfl) i, fun _ => tst_cmp (pt_cmpR op_notN px pe_non rfl) i⟩
      | false =>
        have e1 := of_decide_eq_true h1
        subst e1
        have i : ∀ σ H Q, tE P G Z (.isN false x) σ H Q → tOp (fun x y H Q => y = .non ∧ Q (.bl (decide (x = .non))) H) (tE P G Z x) (tC .non) σ H Q := fun σ H Q ⟨M, S, ρ, em, rn, q⟩ => by
          simp only [ev] at q
          refine tE.step em rn q fun v H1 M1 S1 d e1 em1 rn1 r1 k => ⟨rfl, ?_⟩
          rw [rv_non r1]
          cases d <;> exact k.ok em1 (.bl _)
        exact ⟨PE.imp (pe_cmpR op_isN px pe_non rfl) i, fun _ => tst_cmp (pt_cmpR op_isN px pe_non rfl) i⟩
    · cases h
  | .isB g x y, Γ, X, Z, e, h, a => by
    simp only [chk] at h
    split at h
    · rcases (Bool.or_eq_true _ _).mp h with h | h
      case inr => exact own_ok C h a
      simp only [Bool.and_eq_true, Bool.not_eq_true'] at h
      obtain ⟨⟨⟨h1, h2⟩, h3⟩, h4⟩ := h
      have px := (pe_ok C x h3 a).1
      have py := (pe_ok C y h4 a).1
      cases g with
      | true =>
        have e1 := of_decide_eq_true h1
        subst e1
        have i : ∀ σ H Q, tE P G Z (.isB true x y) σ H Q → tOp rNotB (tE P G Z x) (tE P G Z y) σ H Q := fun σ H Q ⟨M, S, ρ, em, rn, q⟩ => by
          simp only [ev] at q
          refine tE.step em rn q fun v H1 M1 S1 d e1 em1 rn1 r1 k => tE.step em1 rn1 k fun u H2 M2 S2 w e2 em2 rn2 r2 k2 => ?_
          split at k2
          · rename_i p q
            cases r1
            cases r2
            have eb : (true != (p == q)) = !decide (p = q) := by cases p <;> cases q <;> rfl
            rw [eb] at k2
            exact ⟨_, _, rfl, rfl, k2.ok em2 (.bl _)⟩
          · exact k2.elim
        exact ⟨PE.imp (pe_cmpR op_notBl px py h2) i, fun _ => tst_cmp (pt_cmpR op_notBl px py h2) i⟩
      | false =>
        have e1 := of_decide_eq_true h1
        subst e1
        have i : ∀ σ H Q, tE P G Z (.isB false x y) σ H Q → tOp rIsB (tE P G Z x) (tE P G Z y) σ H Q := fun σ H Q ⟨M, S, ρ, em, rn, q⟩ => by
          simp only [ev] at q
          refine tE.step em rn q fun v H1 M1 S1 d e1 em1 rn1 r1 k => tE.step em1 rn1 k fun u H2 M2 S2 w e2 em2 rn2 r2 k2 => ?_
          split at k2
          · rename_i p q
            cases r1
            cases r2
            have eb : (false != (p == q)) = decide (p = q) := by cases p <;> cases q <;> rfl
            rw [eb] at k2
            exact ⟨_, _, rfl, rfl, k2.ok em2 (.bl _)⟩
          · exact k2.elim
        exact ⟨PE.imp (pe_cmpR op_isBl px py h2) i, fun _ => tst_cmp (pt_cmpR op_isBl px py h2) i⟩
    · cases h
  | .and x y, Γ, X, Z, e, h, a => by
    simp only [chk] at h
    split at h
    · rename_i u v r p
      simp only [Bool.and_eq_true] at h
      obtain ⟨h1, h2⟩ := h
      have px := pe_ok C x h1 a
      have iv : ∀ σ H Q, tE P G Z (.and x y) σ H Q → tAndV (tE P G Z x) (tE P G Z y) σ H Q := fun σ H Q ⟨M, S, ρ, em, rn, q⟩ => by
        simp only [ev] at q
        refine tE.step em rn q fun v H1 M1 S1 d e1 em1 rn1 r1 k => ?_
        split at k
        · cases r1
          exact ⟨true, rfl, by (try dsimp only); rw [if_pos rfl]; exact ⟨M1, S1, ρ, em1, rn1, k⟩⟩
        · cases r1
          exact ⟨false, rfl, by (try dsimp only); rw [if_neg (by decide)]; exact k.ok em1 (.bl false)⟩
        · exact k.elim
      have it : ∀ σ H Q, tT P G Z (.and x y) σ H Q → tAnd (tT P G Z x) (tT P G Z y) σ H Q := fun σ H Q ⟨M, S, ρ, em, rn, q⟩ => by
        simp only [ev] at q
        refine tE.step em rn q fun v H1 M1 S1 d e1 em1 rn1 r1 k => ?_
        split at k
        · cases r1
          exact ⟨true, rfl, by (try dsimp only); rw [if_pos rfl]; exact ⟨M1, S1, ρ, em1, rn1, k⟩⟩
        · cases r1
          obtain ⟨b, eb, qb⟩ := k.ok em1 (.bl false)
          cases eb
          exact ⟨false, rfl, by (try dsimp only); rw [if_neg (by decide)]; exact qb⟩
        · exact k.elim
      cases r with
      | nil =>
        have py := pe_ok C y h2 a
        refine ⟨PE.imp (pe_and px.1 (pe_one py.1)) iv, fun ht => ?_⟩
        simp only [tst, Bool.and_eq_true] at ht
        exact PT.imp (pw_and (px.2 ht.1) (pw_and1 (py.2 ht.2))).pt it
      | cons z r =>
        have py := pe_ok C y h2 a
        refine ⟨PE.imp (pe_and px.1 py.1) iv, fun ht => ?_⟩
        simp only [tst, Bool.and_eq_true] at ht
        exact PT.imp (pw_and (px.2 ht.1) (pw_of (py.2 ht.2))).pt it
    · cases h
  | .or x y, Γ, X, Z, e, h, a => by
    simp only [chk] at h
    split at h
    · rename_i u v r p
      simp only [Bool.and_eq_true] at h
      obtain ⟨h1, h2⟩ := h
      have px := pe_ok C x h1 a
      have iv : ∀ σ H Q, tE P G Z (.or x y) σ H Q → tOrV (tE P G Z x) (tE P G Z y) σ H Q := fun σ H Q ⟨M, S, ρ, em, rn, q⟩ => by
        simp only [ev] at q
        refine tE.step em rn q fun v H1 M1 S1 d e1 em1 rn1 r1 k => ?_
        split at k
        · cases r1
          exact ⟨true, rfl, by (try dsimp only); rw [if_pos rfl]; exact k.ok em1 (.bl true)⟩
        · cases r1
          exact ⟨false, rfl, by (try dsimp only); rw [if_neg (by decide)]; exact ⟨M1, S1, ρ, em1, rn1, k⟩⟩
        · exact k.elim
      have it : ∀ σ H Q, tT P G Z (.or x y) σ H Q → tOr (tT P G Z x) (tT P G Z y) σ H Q := fun σ H Q ⟨M, S, ρ, em, rn, q⟩ => by
        simp only [ev] at q
        refine tE.step em rn q fun v H1 M1 S1 d e1 em1 rn1 r1 k => ?_
        split at k
        · cases r1
          obtain ⟨b, eb, qb⟩ := k.ok em1 (.bl true)
          cases eb
          exact ⟨true, rfl, by (try dsimp only); rw [if_pos rfl]; exact qb⟩
        · cases r1
          exact ⟨false, rfl, by (try dsimp only); rw [if_neg (by decide)]; exact ⟨M1, S1, ρ, em1, rn1, k⟩⟩
        · exact k.elim
      cases r with
      | nil =>
        have py := pe_ok C y h2 a
        refine ⟨PE.imp (pe_or px.1 (pe_one py.1)) iv, fun ht => ?_⟩
        simp only [tst, Bool.and_eq_true] at ht
        exact PT.imp (pw_or (px.2 ht.1) (pw_or1 (py.2 ht.2))).pt it
      | cons z r =>
        have py := pe_ok C y h2 a
        refine ⟨PE.imp (pe_or px.1 py.1) iv, fun ht => ?_⟩
        simp only [tst, Bool.and_eq_true] at ht
        exact PT.imp (pw_or (px.2 ht.1) (pw_of (py.2 ht.2))).pt it
    · cases h
  | .not x, Γ, X, Z, e, h, a => by
    simp only [chk] at h
    split at h
    · have px := pe_ok C x h a
      refine ⟨PE.imp (pe_not px.1) fun σ H Q ⟨M, S, ρ, em, rn, q⟩ => ?_, fun ht => PT.imp (pt_not (px.2 (by simpa [tst] using ht))) fun σ H Q ⟨M, S, ρ, em, rn, q⟩ => ?_⟩
      · simp only [ev] at q
        refine tE.step em rn q fun v H1 M1 S1 d e1 em1 rn1 r1 k => ?_
        split at k
        · cases r1
          exact ⟨_, rfl, k.ok em1 (.bl _)⟩
        · exact k.elim
      · simp only [ev] at q
        refine tE.step em rn q fun v H1 M1 S1 d e1 em1 rn1 r1 k => ?_
        split at k
        · cases r1
          obtain ⟨b, eb, qb⟩ := k.ok em1 (.bl _)
          cases eb
          exact ⟨_, rfl, qb⟩
        · exact k.elim
    · cases h
  | .ite c x y, Γ, X, Z, e, h, a => by
    simp only [chk] at h
    split at h
    · simp only [Bool.and_eq_true] at h
      obtain ⟨⟨⟨h1, h2⟩, h3⟩, h4⟩ := h
      refine ⟨PE.imp (pe_ifExp ((pe_ok C c h2 a).2 h1) (pe_ok C x h3 a).1 (pe_ok C y h4 a).1) fun σ H Q ⟨M, S, ρ, em, rn, q⟩ => ?_, fun ht => by simp [tst] at ht⟩
      simp only [ev] at q
      refine tE.step em rn q fun v H1 M1 S1 d e1 em1 rn1 r1 k => ?_
      split at k
      · cases r1
        exact ⟨true, rfl, by (try dsimp only); rw [if_pos rfl]; exact ⟨M1, S1, ρ, em1, rn1, k⟩⟩
      · cases r1
        exact ⟨false, rfl, by (try dsimp only); rw [if_neg (by decide)]; exact ⟨M1, S1, ρ, em1, rn1, k⟩⟩
      · exact k.elim
    · cases h
  | .ix x y, Γ, X, Z, e, h, a => by
    simp only [chk] at h
    split at h
    · simp only [Bool.and_eq_true, Bool.not_eq_true'] at h
      refine both ?_ (by intro _; rfl)
      exact PE.imp (pe_ix (o_ix (P := P) (Z := Z) a.F) (pe_ok C x h.1.2 a).1 (pe_ok C y h.2 a).1 (plainIx_ok h.1.1)) fun σ H Q ⟨M, S, ρ, em, rn, q⟩ => by
        simp only [ev] at q
        exact tE.step em rn q fun v H1 M1 S1 d e1 em1 rn1 r1 k => tE.step em1 rn1 k fun u H2 M2 S2 w e2 em2 rn2 r2 k2 => ⟨M2, S2, d, w, em2, r1.mono e2, r2, k2⟩
    · cases h
  | .sl x lo hi, Γ, X, Z, e, h, a => by
    simp only [chk] at h
    split at h
    · simp only [Bool.and_eq_true] at h
      refine both ?_ (by intro _; rfl)
      exact PE.imp (pe_slice (o_sl (P := P) (Z := Z)) (pe_ok C x h.1.1 a).1 (po_ok C lo h.1.2 a) (po_ok C hi h.2 a)) fun σ H Q ⟨M, S, ρ, em, rn, q⟩ => by
        simp only [ev] at q
        exact tE.step em rn q fun v H1 M1 S1 d e1 em1 rn1 r1 k => tEo.step em1 rn1 k fun u H2 M2 S2 e2 em2 rn2 k2 => tEo.step em2 rn2 k2 fun w H3 M3 S3 e3 em3 rn3 k3 => ⟨M3, S3, d, em3, (r1.mono e2).mono e3, k3⟩
    · cases h
  | .rev x, Γ, X, Z, e, h, a => by
    simp only [chk] at h
    split at h
    · refine both ?_ (by intro _; rfl)
      exact PE.imp (pe_rev (pe_ok C x h a).1) fun σ H Q ⟨M, S, ρ, em, rn, q⟩ => by
        simp only [ev] at q
        refine tE.step em rn q fun v H1 M1 S1 d e1 em1 rn1 r1 k => ?_
        obtain ⟨w, ho, hk⟩ := k.oret
        unfold revD at ho
        split at ho
        · cases ho
          obtain ⟨l, vs, rfl, h1, n1, q1⟩ := r1.tupI
          exact ⟨l, vs, rfl, .inr ⟨h1.sq, fun p o hp ho => hk.tuple Ext.refl em1 q1.reverse hp ho⟩⟩
        · cases e : lstD S1 d with
          | none => rw [e] at ho; cases ho
          | some xs =>
            rw [e] at ho
            cases ho
            obtain ⟨l, vs, rfl, h1, q1⟩ := em1.lst e r1
            refine ⟨l, vs, rfl, .inl ⟨SqL.of h1, fun p hp => ?_⟩⟩
            have x := Ext.alloc (M := M1) (o := .lst vs.reverse) hp
            exact hk.okE x (em1.alloc hp) (.lst upd_same (em1.no hp) (q1.reverse.mono x))
    · cases h
  | .bi f es, Γ, X, Z, e, h, a => by
    simp only [chk] at h
    split at h
    · rename_i x _ y ys _
      simp only [Bool.and_eq_true] at h
      obtain ⟨⟨⟨h1, h2⟩, h3⟩, h4⟩ := h
      obtain ⟨g1, g2, g3⟩ := glB_ok h2
      obtain ⟨hn, hr⟩ := bi_rule (P := P) (Z := Z) a.F f x h1
      have ha := pa_ok C es h3 h4 a
      have hs := h3
      rw [List.all_cons, Bool.and_eq_true] at hs
      have hmg : X.mg x = none := by rw [a.F.mg]; exact C.blt x g2
      have i : ∀ σ H Q, tE P G Z (.bi f es) σ H Q → tCB (rs P Z (biD f)) (tEs P G Z es) σ H Q := fun σ H Q ⟨M, S, ρ, em, rn, q⟩ => by
        simp only [ev] at q
        exact tEs.step em rn q fun vs H1 M1 S1 ds e1 em1 rn1 r1 k => ⟨M1, S1, ds, em1, r1, k⟩
      rcases hr with ⟨id, hb, hc⟩ | ⟨T, hb, hc⟩
      · refine both ?_ (by intro _; rfl)
        exact PE.imp (pe_callB hc (a.gl g1) hmg hb ha hn (dbg_ok g3).1 (starEach_cons (by simpa using hs.1)) (star_none hs.2)) i
      · refine both ?_ (by intro _; rfl)
        exact PE.imp (pe_callTy hc (a.gl g1) hmg hb ha hn (dbg_ok g3).1 (starEach_cons (by simpa using hs.1)) (star_none hs.2)) i
    · cases h
  | .isi m t, Γ, X, Z, e, h, a => by
    simp only [chk] at h
    split at h
    · rename_i x _ y z _ _
      cases t with
      | cls c =>
        simp only [Bool.and_eq_true, decide_eq_true_eq, Bool.not_eq_true'] at h
        obtain ⟨⟨⟨⟨⟨⟨h1, h2⟩, h3⟩, h4⟩, h5⟩, h6⟩, h7⟩ := h
        subst h1 h3
        obtain ⟨g1, g2, g3⟩ := glB_ok h2
        obtain ⟨k1, k3⟩ := glI_ok h4
        obtain ⟨fs, ms, hc⟩ := isCls_ok h5
        have CC := C.cls _ _ _ hc
        have pz : ∀ p, PE X (.Name z p) (tC (.ref (P.CA z))) := fun p => pe_glob (a.gl k1) (by rw [a.F.mg]; exact CC.mg) rfl (dbg_ok k3).1
        refine both ?_ (by intro _; rfl)
        exact PE.imp (pe_callB call_isi (a.gl g1) (by rw [a.F.mg]; exact C.blt _ g2) (by decide +kernel) (pa_cons (pe_ok C m h7 a).1 (pa_cons (pz _) pa_nil) (starEach_cons h6)) (by decide) (dbg_ok g3).1 (starEach_cons h6) rfl) fun σ H Q ⟨M, S, ρ, em, rn, q⟩ => by
          simp only [ev] at q
          refine tE.step em rn q fun v H1 M1 S1 d e1 em1 rn1 r1 k => ?_
          obtain ⟨w, hw, k⟩ := k.oret
          cases hb : isiD S1 d (.cls z) with
          | none => rw [hb] at hw; cases hw
          | some b =>
            rw [hb] at hw
            cases hw
            obtain ⟨T, ty, kt⟩ := isi_cls (K := X.K) em1 r1 hb (by rw [a.F.K]; exact C.isg.ty _ _ _ hc) (by rw [a.F.K]; exact fun l dx vfs => C.isg.own _ _ _ hc H1 l dx vfs) (by rw [a.F.K]; exact C.isg.two _ _ _ hc)
            exact ⟨v, .ref (P.CA z), T, .ref (P.CA z), b, rfl, .own _, ty, kt, k.ok em1 (.bl b)⟩
      | _ =>
        simp only [Bool.and_eq_true, decide_eq_true_eq, Bool.not_eq_true'] at h
        obtain ⟨⟨⟨⟨⟨⟨h1, h2⟩, h3⟩, h4⟩, h5⟩, h6⟩, h7⟩ := h
        subst h1 h3
        refine isi_blt C ?_ a h2 h4 h5 h7 (pe_ok C m h6 a).1
        exact fun c z => nomatch z
    · cases h
  | .fld o c f, Γ, X, Z, e, h, a => by
    simp only [chk] at h
    split at h
    · simp only [Bool.and_eq_true, decide_eq_true_eq] at h
      obtain ⟨⟨⟨h1, h2⟩, h3⟩, h4⟩ := h
      subst h1
      obtain ⟨fs, ms, hc, hf⟩ := clsF_ok h3
      have CC := C.cls _ _ _ hc
      refine both ?_ (by intro _; rfl)
      exact PE.imp (pe_fld (pe_ok C o h4 a).1 (base_ok h2)) fun σ H Q ⟨M, S, ρ, em, rn, q⟩ => by
        simp only [ev] at q
        refine tE.step em rn q fun v H1 M1 S1 d e1 em1 rn1 r1 k => ?_
        obtain ⟨w, hw, k2⟩ := k.oret
        unfold fldD at hw
        cases ea : asRef d with
        | none => rw [ea] at hw; cases hw
        | some i =>
          rw [ea] at hw
          have ed := asRef_some ea
          subst ed
          cases hi : insD S1 i with
          | none => simp [hi] at hw
          | some p =>
            obtain ⟨c', fs'⟩ := p
            simp only [Option.bind_some, hi] at hw
            split at hw
            · rename_i hcc
              have hcc' : c' = c := hcc
              subst hcc'
              obtain ⟨l, dx, vfs, rfl, g0, g1, g2, g3, g4⟩ := em1.ins hi r1
              obtain ⟨u, u1, u2⟩ := g4.lookup.1 w hw
              exact ⟨l, _, dx, vfs, u, rfl, g1, by rw [a.F.K]; exact CC.cl, by rw [a.F.K]; exact CC.noat _ hf, u1, k2.ok em1 u2⟩
            · cases hw
    · cases h
  | .meth o c m es, Γ, X, Z, e, h, a => by
    simp only [chk] at h
    split at h
    · rename_i y nm apos ys pos
      simp only [Bool.and_eq_true, decide_eq_true_eq] at h
      obtain ⟨⟨⟨⟨⟨⟨h1, h2⟩, h3⟩, h4⟩, h5⟩, h6⟩, h7⟩ := h
      subst h1
      split at h7
      · rename_i ds hm
        obtain ⟨fs, ms, hc, hms⟩ := clsM_ok hm
        have CC := C.cls _ _ _ hc
        obtain ⟨fa, fd, ps, m1, m2, m3⟩ := CC.meth _ _ hms
        obtain ⟨js, j, hj, ej, pa, hnil⟩ := pa_okD C es h4 h7 a
        subst ej
        obtain ⟨us, vus, bi⟩ := m3 j hj
        have FX : FnG X.prog X.w X.K X.mg X.base (2 * n) fa fd ps (spG P (G (c ++ "." ++ nm))) := by rw [a.F.prog, a.F.w, a.F.K, a.F.mg, a.F.base]; exact m2
        refine both ?_ (by intro _; rfl)
        exact PE.imp (pe_methG (pe_ok C o h6 a).1 (by rw [a.F.K]; exact CC.cl) (by rw [a.F.K]; exact m1) FX (a.room.mono (by omega)) a.F.guards (by rw [a.F.K]; exact bi) vus a.passes pa hnil h4 (base_ok h2) h3 h5) fun σ H Q ⟨M, S, ρ, em, rn, q⟩ => by
          simp only [ev] at q
          refine tE.step em rn q fun v H1 M1 S1 d e1 em1 rn1 r1 k => ?_
          obtain ⟨i, fs', ed, hi, hl, k⟩ := meth_case k
          subst ed
          obtain ⟨l, dx, vfs, rfl, g0, g1, g2, g3, g4⟩ := em1.ins hi r1
          refine ⟨l, dx, vfs, rfl, g1, g4.lookup.2 hl, ?_⟩
          exact tEs.step em1 rn1 k fun vs H2 M2 S2 ds2 e2 em2 rn2 rv k2 ws hw => by
            show spG P _ (V.ref l :: (ws ++ _)) H2 Q _
            rw [← hw]
            exact ⟨M2, S2, rf i :: ds2, em2, .cons (r1.mono e2) rv, k2.zimp fun x S M' H' em' z c d hx => ⟨x, S, M', em', hx, z⟩⟩
      · cases h7
    · cases h
  | .new c es, Γ, X, Z, e, h, a => by
    simp only [chk] at h
    split at h
    · rename_i x _ ys _
      simp only [Bool.and_eq_true, decide_eq_true_eq] at h
      obtain ⟨⟨⟨⟨h1, h2⟩, h3⟩, h4⟩, h5⟩ := h
      subst h1
      obtain ⟨g1, g3⟩ := glI_ok h2
      obtain ⟨fs, ms, hc⟩ := isCls_ok h3
      have CC := C.cls _ _ _ hc
      obtain ⟨fa, fd, ps, m1, m2, m3⟩ := CC.new_
      have FX : FnG X.prog X.w X.K X.mg X.base (2 * n) fa fd ps (spG P (G (c ++ ".__init__"))) := by rw [a.F.prog, a.F.w, a.F.K, a.F.mg, a.F.base]; exact m3
      have ha := pa_ok C es h4 h5 a
      refine both ?_ (by intro _; rfl)
      exact PE.imp (pe_makeG (by rw [a.F.K]; exact m1) FX a.room a.F.guards (a.gl g1) (by rw [a.F.mg]; exact CC.mg) (by rw [a.F.K]; exact m2) a.passes ha (fun hy σ H Q ⟨M, S, ρ, em, rn, q⟩ => by
          subst hy
          cases es with
          | nil => exact q.ok em .nil
          | cons _ _ => cases h5) h4 (dbg_ok g3).1) fun σ H Q ⟨M, S, ρ, em, rn, q⟩ => by
        simp only [ev] at q
        exact tEs.step em rn q fun vs H1 M1 S1 ds e1 em1 rn1 r1 k x dx hx hdx hne => new_case em1 r1 k hx hdx hne
    · cases h
  | .call f es, Γ, X, Z, e, h, a => by
    simp only [chk] at h
    split at h
    · rename_i x _ ys _
      simp only [Bool.and_eq_true, decide_eq_true_eq] at h
      obtain ⟨⟨⟨h1, h2⟩, h3⟩, h4⟩ := h
      subst h1
      obtain ⟨g1, g2, g3⟩ := glB_ok h2
      obtain ⟨fa, fd, ps, m1, m2, m3, m4⟩ := C.fn f g2
      have FX : FnG X.prog X.w X.K X.mg X.base (2 * n) fa fd ps (spG P (G f)) := by rw [a.F.prog, a.F.w, a.F.K, a.F.mg, a.F.base]; exact m4
      have ha := pa_ok C es h3 h4 a
      refine both ?_ (by intro _; rfl)
      exact PE.imp (pe_callG FX (a.room.mono (by omega)) a.F.guards (a.gl g1) (by rw [a.F.mg]; exact m1) (by rw [a.F.K]; exact m2) (by rw [a.F.K]; exact m3) a.passes ha (fun hy σ H Q ⟨M, S, ρ, em, rn, q⟩ => by
          subst hy
          cases es with
          | nil => exact q.ok em .nil
          | cons _ _ => cases h4) h3 (dbg_ok g3).1) fun σ H Q ⟨M, S, ρ, em, rn, q⟩ => by
        simp only [ev] at q
        refine tEs.step em rn q fun vs H1 M1 S1 ds e1 em1 rn1 r1 k => ⟨M1, S1, ds, em1, r1, k.zimp fun x S M' H' em' z c d hx => ⟨x, S, M', em', hx, z⟩⟩
    · cases h
  | .bm o m es, Γ, X, Z, e, h, a => by
    simp only [chk] at h
    split at h
    · rename_i y nm apos ys pos
      simp only [Bool.and_eq_true, decide_eq_true_eq] at h
      obtain ⟨⟨⟨⟨⟨⟨h1, h2⟩, h3⟩, h4⟩, h5⟩, h6⟩, h7⟩ := h
      subst h1
      refine both ?_ (by intro _; rfl)
      exact pe_bmM (P := P) (G := G) (Z := Z) a.F (m := m) (pe_ok C o h6 a).1 (pa_ok C es h4 h7 a) (fun hy => by
        subst hy
        cases es with
        | nil => rfl
        | cons _ _ => cases h7) h2 h3 h4 h5
    · cases h
  | .comp r elt own tg it cond, Γ, X, Z, e, h, a => by
    simp only [chk] at h
    split at h
    · rename_i x t y ifs za scope pos
      simp only [Bool.and_eq_true, decide_eq_true_eq, Bool.not_eq_true'] at h
      obtain ⟨⟨⟨⟨⟨⟨⟨h1, h2⟩, h3⟩, h4⟩, h5⟩, h6⟩, h7⟩, h8⟩ := h
      subst h1
      have ok : BlkOk X.N X.env.scope scope (ownOf Γ.N own) := by rw [a.F.N, a.F.sc]; exact blkOk_by h2
      have ho : (ownOf Γ.N own).map (·.2) = own := by
        unfold ownOf
        rw [List.map_map]
        exact List.map_id' own
      have hi := pi_ok C it h5 a
      have hg : ∀ (s : Shared) (H : Hp) (C' : Addr) (cl : List (Str × Addr)) (fp : List Addr), PG (X.blk s H scope (compEnvC scope cl C' X.env) fp) t (tG tg) := fun s H C' cl fp => pg_ok (a.blk ok.kind s H C' cl fp).F tg h6
      have ht : ∀ (s : Shared) (H : Hp) (C' : Addr) (cl : List (Str × Addr)) (fp : List Addr), PTs (X.blk s H scope (compEnvC scope cl C' X.env) fp) ifs (tC' P G cond) := fun s H C' cl fp => pc_ok C cond h7 (a.blk ok.kind s H C' cl fp)
      have he : ∀ (s : Shared) (H : Hp) (C' : Addr) (cl : List (Str × Addr)) (fp : List Addr), PE (X.blk s H scope (compEnvC scope cl C' X.env) fp) x (tE P G ZF elt) := fun s H C' cl fp => (pe_ok C elt h8 (a.blk ok.kind s H C' cl fp)).1
      refine both ?_ (by intro _; rfl)
      exact PE.imp (pe_lc (pos := pos) a.F.calm (by rw [a.F.N]; exact a.F.nd) hi ok hg ht he (noSet h4))
        (comp_ok (pos := pos) a.F ho (fun i hi => by
          rw [List.all_eq_true] at h3
          simpa using h3 i hi) hi ok hg ht he)
    · cases h
  | .dct _, _, _, _, _, h, _ => by cases h
  | .fstr _, _, _, _, _, h, _ => by cases h
  | .frz _, _, _, _, _, h, _ => by cases h
  | .said _, _, _, _, _, h, _ => by cases h
  | .sset b m, Γ, X, Z, e, h, a => by
    simp only [chk] at h
    split at h
    · simp only [Bool.and_eq_true, decide_eq_true_eq, Bool.not_eq_true'] at h
      obtain ⟨⟨⟨⟨⟨h1, h2⟩, h3⟩, h4⟩, h5⟩, h6⟩ := h
      subst h1 h3
      obtain ⟨g1, g2, g3⟩ := glB_ok h2
      obtain ⟨k1, k2, k3⟩ := glB_ok h4
      refine both ?_ (by intro _; rfl)
      exact pe_ssetM a.F (a.gl g1) (by rw [a.F.mg]; exact C.blt _ g2) (a.gl k1) (by rw [a.F.mg]; exact C.blt _ k2) (pe_ok C m h6 a).1 h5
    · cases h
  | .tupR m, Γ, X, Z, e, h, a => by
    simp only [chk] at h
    split at h
    · simp only [Bool.and_eq_true, decide_eq_true_eq, Bool.not_eq_true'] at h
      obtain ⟨⟨⟨⟨⟨h1, h2⟩, h3⟩, h4⟩, h5⟩, h6⟩ := h
      subst h1 h3
      obtain ⟨g1, g2, g3⟩ := glB_ok h2
      obtain ⟨k1, k2, k3⟩ := glB_ok h4
      refine both ?_ (by intro _; rfl)
      exact pe_tupRM a.F (a.gl g1) (by rw [a.F.mg]; exact C.blt _ g2) (a.gl k1) (by rw [a.F.mg]; exact C.blt _ k2) (pe_ok C m h6 a).1 h5
    · cases h
  | .never, Γ, X, Z, e, h, a => ⟨⟨fun pins s σ H Q I ⟨M, S, ρ, em, rn, q⟩ => by simp only [ev] at q; exact q.elim⟩, fun ht => by simp [tst] at ht⟩
theorem pa_ok (C : Cg P n G gt) : ∀ (ms : List E) {Γ : Ga} {X : Cx} {Z : ZX} {es : List Expr}, es.all (fun e => !isStar e) = true → chks gt ms Γ es = true → At P n Z Γ X → PA X es (tEs P G Z ms)
  | [], Γ, X, Z, es, hs, h, a => by
    cases es with
    | nil => exact PA.imp pa_nil fun σ H Q ⟨M, S, ρ, em, rn, q⟩ => by simp only [evs] at q; exact q.ok em .nil
    | cons _ _ => cases h
  | m :: ms, Γ, X, Z, es, hs, h, a => by
    cases es with
    | nil => cases h
    | cons e es =>
      simp only [chks, Bool.and_eq_true] at h
      rw [List.all_cons, Bool.and_eq_true] at hs
      refine PA.imp (pa_cons (pe_ok C m h.1 a).1 (pa_ok C ms hs.2 h.2 a) (starEach_cons (by simpa using hs.1))) fun σ H Q ⟨M, S, ρ, em, rn, q⟩ => ?_
      simp only [evs] at q
      exact tE.step em rn q fun v H1 M1 S1 d e1 em1 rn1 r1 k => tEs.step em1 rn1 k fun vs H2 M2 S2 ds e2 em2 rn2 r2 k2 => k2.ok em2 (.cons (r1.mono e2) r2)
theorem pa_okD (C : Cg P n G gt) : ∀ (ms : List E) {Γ : Ga} {X : Cx} {Z : ZX} {es : List Expr} {ds : List Int}, es.all (fun e => !isStar e) = true → chksD gt ms Γ es ds = true → At P n Z Γ X →
    ∃ js j, j ≤ ds.length ∧ js = ds.drop j ∧ PA X es (tEsD P G Z ms js) ∧ (es = [] → ∀ σ H (Q : List V → Hp → Prop), tEsD P G Z ms js σ H Q → Q [] H)
  | [], Γ, X, Z, es, ds, hs, h, a => by
    cases es with
    | nil =>
      have z : ∀ σ H (Q : List V → Hp → Prop), tEsD P G Z [] (ds.drop ds.length) σ H Q → Q [] H := fun σ H Q ⟨M, S, ρ, em, rn, q⟩ => by
        simp only [evs] at q
        exact q.ok em .nil [] (by simp)
      exact ⟨_, ds.length, Nat.le_refl _, rfl, PA.imp pa_nil z, fun _ => z⟩
    | cons _ _ => cases h
  | m :: ms, Γ, X, Z, es, ds, hs, h, a => by
    cases es with
    | nil =>
      simp only [chksD] at h
      have h' := of_decide_eq_true h
      have z : ∀ σ H (Q : List V → Hp → Prop), tEsD P G Z (m :: ms) (ds.drop (ds.length - (m :: ms).length)) σ H Q → Q [] H := fun σ H Q ⟨M, S, ρ, em, rn, q⟩ => by
        rw [evs_ints _ _ h'] at q
        exact q.ok em (Rvs.ofInts _) [] rfl
      exact ⟨_, ds.length - (m :: ms).length, Nat.sub_le _ _, rfl, PA.imp pa_nil z, fun _ => z⟩
    | cons e es =>
      simp only [chksD, Bool.and_eq_true] at h
      rw [List.all_cons, Bool.and_eq_true] at hs
      obtain ⟨js, j, hj, ej, pa, _⟩ := pa_okD C ms hs.2 h.2 a
      refine ⟨js, j, hj, ej, PA.imp (pa_cons (pe_ok C m h.1 a).1 pa (starEach_cons (by simpa using hs.1))) fun σ H Q ⟨M, S, ρ, em, rn, q⟩ => ?_, fun z => nomatch z⟩
      simp only [evs] at q
      exact tE.step em rn q fun v H1 M1 S1 d e1 em1 rn1 r1 k => tEs.step em1 rn1 k fun vs H2 M2 S2 ds2 e2 em2 rn2 rv k2 ws hw => k2.ok em2 (.cons (r1.mono e2) rv) (v :: ws) (by rw [hw]; rfl)
theorem po_ok (C : Cg P n G gt) : ∀ (m : Option E) {Γ : Ga} {X : Cx} {Z : ZX} {e : Option Expr}, chko gt m Γ e = true → At P n Z Γ X → PO X e (tEo P G Z m)
  | none, Γ, X, Z, e, h, a => by
    cases e with
    | none => exact PO.imp po_none fun σ H Q ⟨M, S, ρ, em, rn, q⟩ => by simp only [evo] at q; exact q.ok em rfl
    | some _ => cases h
  | some m, Γ, X, Z, e, h, a => by
    cases e with
    | none => cases h
    | some e =>
      simp only [chko] at h
      refine PO.imp (po_some (pe_ok C m h a).1) fun σ H Q ⟨M, S, ρ, em, rn, q⟩ => ?_
      simp only [evo] at q
      refine tE.step em rn q fun v H1 M1 S1 d e1 em1 rn1 r1 k => ?_
      split at k
      · cases r1
        exact ⟨_, rfl, k.ok em1 rfl⟩
      · exact k.elim
theorem pc_ok (C : Cg P n G gt) : ∀ (m : Option E) {Γ : Ga} {X : Cx} {es : List Expr}, chkc gt m Γ es = true → At P n ZF Γ X → PTs X es (tC' P G m)
  | none, Γ, X, es, h, a => by
    cases es with
    | nil => exact pts_ok0
    | cons _ _ => cases h
  | some m, Γ, X, es, h, a => by
    simp only [chkc] at h
    split at h
    · simp only [Bool.and_eq_true] at h
      exact pts_ok1 ((pe_ok C m h.2 a).2 h.1)
    · cases h
theorem pi_ok (C : Cg P n G gt) : ∀ (m : I) {Γ : Ga} {X : Cx} {Z : ZX} {t e : Expr}, chki gt m Γ t e = true → At P n Z Γ X → PI X t e (tI P G Z m)
  | .seq m, Γ, X, Z, t, e, h, a => by
    simp only [chki] at h
    exact pi_seqM a.F (pe_ok C m h a).1
  | .range m, Γ, X, Z, t, e, h, a => by
    simp only [chki] at h
    split at h
    · simp only [Bool.and_eq_true, decide_eq_true_eq, Bool.not_eq_true'] at h
      obtain ⟨⟨⟨h1, h2⟩, h3⟩, h4⟩ := h
      subst h1
      obtain ⟨g1, g2, g3⟩ := glB_ok h2
      exact pi_rangeM a.F (a.gl g1) (by rw [a.F.mg]; exact C.blt _ g2) (pa_one (pe_ok C m h4 a).1 h3) (starEach_cons h3)
    · cases h
  | .enum m, Γ, X, Z, t, e, h, a => by
    simp only [chki] at h
    split at h
    · simp only [Bool.and_eq_true, decide_eq_true_eq, Bool.not_eq_true'] at h
      obtain ⟨⟨⟨h1, h2⟩, h3⟩, h4⟩ := h
      subst h1
      obtain ⟨g1, g2, g3⟩ := glB_ok h2
      exact pi_enumM a.F (a.gl g1) (by rw [a.F.mg]; exact C.blt _ g2) (pa_one (pe_ok C m h4 a).1 h3) (starEach_cons h3)
    · cases h
  | .zip m k, Γ, X, Z, t, e, h, a => by
    simp only [chki] at h
    split at h
    · simp only [Bool.and_eq_true, decide_eq_true_eq, Bool.not_eq_true'] at h
      obtain ⟨⟨⟨⟨⟨h1, h2⟩, h3⟩, h3'⟩, h4⟩, h5⟩ := h
      subst h1
      obtain ⟨g1, g2, g3⟩ := glB_ok h2
      exact pi_zipM a.F (a.gl g1) (by rw [a.F.mg]; exact C.blt _ g2) (pa_two (pe_ok C m h4 a).1 (pe_ok C k h5 a).1 h3 h3') (starEach_cons h3) (by rw [starEach_cons h3']; rfl)
    · cases h
end
end
end PL
end

section
set_option Elab.async false
set_option linter.all false
set_option maxRecDepth 100000
set_option maxHeartbeats 2000000
/-! PLP: a text's statements are the evaluator's. -/
namespace PL
open PySem PySem.Spec PyProof.Rows L2
/-- what must hold of a statement's outcome -/
def SRes (P : Pg) (M : Ma) (H : Hp) (r : SOut) (D : Ends) (Z : ZX) : Prop := match r with
  | .next ρ S' => ∀ M' H' σ', Ext M H M' H' → P.Emb M' H' S' → Renv M' H' ρ σ' → D.nx σ' H'
  | .ret d S' => ∀ M' H' v, Ext M H M' H' → P.Emb M' H' S' → Rv M' H' d v → D.rt v H'
  | .exc x S' => ∀ M' H', Ext M H M' H' → P.Emb M' H' S' → Z x S' M' H'
  | .bad => False
section
variable {P : Pg} {M : Ma} {H : Hp} {Z : ZX} {α β : Type} {R : Ma → Hp → α → β → Prop} {D : Ends}
theorem SRes.ext {r : SOut} {M' : Ma} {H' : Hp} (h : SRes P M H r D Z) (e : Ext M H M' H') : SRes P M' H' r D Z := by
  cases r with
  | next ρ S' => exact fun M2 H2 σ2 e2 em rn => h M2 H2 σ2 (e.trans e2) em rn
  | ret d S' => exact fun M2 H2 v e2 em rv => h M2 H2 v (e.trans e2) em rv
  | exc x S' => exact fun M2 H2 e2 em => h M2 H2 (e.trans e2) em
  | bad => exact h
theorem SRes.st {r : Out α} {f : α → Sto → SOut} (h : SRes P M H (r.st f) D Z) : Res P R M H r (fun v H' => ∃ M' S' d, Ext M H M' H' ∧ P.Emb M' H' S' ∧ R M' H' d v ∧ SRes P M' H' (f d S') D Z) Z := by
  cases r with
  | ok d S' => exact fun M' H' v e em rv => ⟨M', S', d, e, em, rv, SRes.ext (r := f d S') h e⟩
  | exc x S' => exact h
  | bad => exact h
theorem SRes.seq {r : SOut} {f : Env → Sto → SOut} {N : L2.St → Hp → Prop} (h : SRes P M H (r.seq f) D Z) (k : ∀ M' H' σ' ρ S', Ext M H M' H' → P.Emb M' H' S' → Renv M' H' ρ σ' → SRes P M H (f ρ S') D Z → N σ' H') : SRes P M H r { D with nx := N } Z := by
  cases r with
  | next ρ S' => exact fun M' H' σ' e em rn => k M' H' σ' ρ S' e em rn h
  | ret d S' => exact h
  | exc x S' => exact h
  | bad => exact h
theorem SRes.next {ρ : Env} {S : Sto} {σ : L2.St} (h : SRes P M H (.next ρ S) D Z) (em : P.Emb M H S) (rn : Renv M H ρ σ) : D.nx σ H := h M H σ Ext.refl em rn
/-- the same ends, for breaks and continues too -/
theorem SRes.ends {r : SOut} {D' : Ends} (h : SRes P M H r D Z) (h1 : ∀ σ H, D.nx σ H → D'.nx σ H) (h2 : ∀ v H, D.rt v H → D'.rt v H) : SRes P M H r D' Z := by
  cases r with
  | next ρ S' => exact fun M' H' σ' e em rn => h1 _ _ (h M' H' σ' e em rn)
  | ret d S' => exact fun M' H' v e em rv => h2 _ _ (h M' H' v e em rv)
  | exc x S' => exact h
  | bad => exact h
end
theorem Out.st_bind {α β : Type} (r : Out α) (f : α → Sto → Out β) (g : β → Sto → SOut) : (r.bind f).st g = r.st fun a S => (f a S).st g := by cases r <;> rfl
section
variable {P : Pg} {G : Calls} {Z : ZX} {M : Ma} {S : Sto} {ρ : Env} {σ : L2.St} {H : Hp}
theorem tE.stS {m : E} {f : D → Sto → SOut} {D : Ends} {K : VK} (em : P.Emb M H S) (rn : Renv M H ρ σ) (h : SRes P M H ((ev G P.gi m ρ S).st f) D Z)
    (k : ∀ v H' M' S' d, Ext M H M' H' → P.Emb M' H' S' → Renv M' H' ρ σ → Rv M' H' d v → SRes P M' H' (f d S') D Z → K v H') : tE P G Z m σ H K :=
  ⟨M, S, ρ, em, rn, (SRes.st h).mono fun v H' ⟨M', S', d, e, em', r, q⟩ => k v H' M' S' d e em' (rn.mono e) r q⟩
theorem tEs.stS {ms : List E} {f : List D → Sto → SOut} {D : Ends} {K : List V → Hp → Prop} (em : P.Emb M H S) (rn : Renv M H ρ σ) (h : SRes P M H ((evs G P.gi ms ρ S).st f) D Z)
    (k : ∀ v H' M' S' d, Ext M H M' H' → P.Emb M' H' S' → Renv M' H' ρ σ → Rvs M' H' d v → SRes P M' H' (f d S') D Z → K v H') : tEs P G Z ms σ H K :=
  ⟨M, S, ρ, em, rn, (SRes.st h).mono fun v H' ⟨M', S', d, e, em', r, q⟩ => k v H' M' S' d e em' (rn.mono e) r q⟩
end
def tS (P : Pg) (G : Calls) (Z : ZX) (st : St) : TS := fun D σ H => ∃ M S ρ, P.Emb M H S ∧ Renv M H ρ σ ∧ SRes P M H (ex G P.gi st ρ S) D Z
def tSs (P : Pg) (G : Calls) (Z : ZX) (st : List St) : TS := fun D σ H => ∃ M S ρ, P.Emb M H S ∧ Renv M H ρ σ ∧ SRes P M H (exs G P.gi st ρ S) D Z
/-! ### targets of assignments -/
theorem sub_assign {X : Cx} {o i : Expr} {pos : Pos} (h : isSlice i = false) : ∀ v, assign (.Subscript o i pos) X.env v = (do
      let ov ← holding [v] (eval o X.env)
      let iv ← holding [v, ov] (eval i X.env)
      standAt pos
      holding [v, ov, iv] (setItem ov iv v)
      release [v, ov, iv] []) := by
  intro v
  cases i <;> first | rfl | cases h
def tA (P : Pg) (G : Calls) (Z : ZX) (t : T) : TG := fun v σ H Q => ∃ M S ρ d, P.Emb M H S ∧ Rv M H d v ∧ Renv M H ρ σ ∧ SRes P M H (asg G P.gi t d ρ S) { nx := Q, rt := fun _ _ => False } Z
def tAs (P : Pg) (G : Calls) (Z : ZX) (t : List T) : TGs := fun v σ H Q => ∃ M S ρ d, P.Emb M H S ∧ Rvs M H d v ∧ Renv M H ρ σ ∧ SRes P M H (asgs G P.gi t d ρ S) { nx := Q, rt := fun _ _ => False } Z
mutual
def chkA (gt : Gt) : T → Ga → Expr → Bool
  | .name i, Γ, e => match e with
    | .Name x _ => decide (Γ.N[i]? = some x) && locB Γ.sc Γ.fn x
    | _ => false
  | .tup ts, Γ, e => match e with
    | .Tuple es _ _ => es.all (fun e => !isStar e) && chkAs gt ts Γ es
    | _ => false
  | .sub o i, Γ, e => match e with
    | .Subscript x y _ => !isSlice y && chk gt o Γ x && chk gt i Γ y
    | _ => false
  | .fld o c f, Γ, e => match e with
    | .Attribute y n _ => decide (n = f) && clsF gt c f && chk gt o Γ y
    | _ => false
def chkAs (gt : Gt) : List T → Ga → List Expr → Bool
  | [], _, es => es.isEmpty
  | t :: ts, Γ, es => match es with
    | e :: es => chkA gt t Γ e && chkAs gt ts Γ es
    | [] => false
end
theorem chkAs_len {gt : Gt} : ∀ (ts : List T) (Γ : Ga) (es : List Expr), chkAs gt ts Γ es = true → ts.length = es.length
  | [], _, es, h => by
    cases es with
    | nil => rfl
    | cons _ _ => cases h
  | t :: ts, Γ, es, h => by
    cases es with
    | nil => cases h
    | cons e es =>
      simp only [chkAs, Bool.and_eq_true] at h
      simp [chkAs_len ts Γ es h.2]
section
variable {P : Pg} {G : Calls} {n : Nat} {gt : Gt}
mutual
theorem pa_asg (C : Cg P n G gt) : ∀ (t : T) {Γ : Ga} {X : Cx} {Z : ZX} {e : Expr}, chkA gt t Γ e = true → At P n Z Γ X → PG X e (tA P G Z t)
  | .name i, Γ, X, Z, e, h, a => by
    simp only [chkA] at h
    split at h
    · rename_i x p
      simp only [Bool.and_eq_true, decide_eq_true_eq] at h
      obtain ⟨l1, l2⟩ := locB_ok h.2
      refine PG.imp (pg_name (i := i) (by rw [a.F.N]; exact a.F.nd) (by rw [a.F.N]; exact h.1) (by rw [a.F.sc]; exact l1) (by rw [a.F.fn, a.F.sc]; exact l2)) fun v σ H Q ⟨M, S, ρ, d, em, r, rn, q⟩ => ?_
      simp only [asg] at q
      split at q
      · exact q.next em (rn.set i r)
      · exact q.elim
    · cases h
  | .tup ts, Γ, X, Z, e, h, a => by
    simp only [chkA] at h
    split at h
    · rename_i es k p
      simp only [Bool.and_eq_true] at h
      obtain ⟨a1, a2⟩ := assignEach_none (env := X.env) h.1
      refine PG.imp (pg_tup (n := es.length) a.F.calm (pa_asgs C ts h.1 h.2 a) a2 a1) fun v σ H Q ⟨M, S, ρ, d, em, r, rn, q⟩ => ?_
      cases d with
      | tuple ds =>
        simp only [asg] at q
        split at q
        · rename_i hl
          obtain ⟨b, vs, rfl, h1, n1, q1⟩ := r.tupI
          exact ⟨b, vs, rfl, h1.sq, by rw [← q1.length, ← hl, chkAs_len _ _ _ h.2], M, S, ρ, ds, em, q1, rn, q⟩
        · exact q.elim
      | _ => simp only [asg] at q; exact q.elim
    · cases h
  | .sub o i, Γ, X, Z, e, h, a => by
    simp only [chkA] at h
    split at h
    · simp only [Bool.and_eq_true, Bool.not_eq_true'] at h
      refine PG.imp (pg_sub (pe_ok C o h.1.2 a).1 (pe_ok C i h.2 a).1 set_list (sub_assign h.1.1)) fun v σ H Q ⟨M, S, ρ, d, em, r, rn, q⟩ => ?_
      simp only [asg] at q
      refine tE.stS em rn q fun x H1 M1 S1 dx e1 em1 rn1 r1 k => tE.stS em1 rn1 k fun y H2 M2 S2 dy e2 em2 rn2 r2 k2 => ?_
      split at k2
      · rename_i S3 hs
        unfold setD at hs
        split at hs
        · rename_i j kk hj
          have hx := asRef_some hj
          subst hx
          cases r2
          cases ho : objL S2 j with
          | none => rw [ho] at hs; cases hs
          | some xs =>
            rw [ho] at hs
            simp only [Option.bind_some] at hs
            cases hk : ixN xs.length kk with
            | none => rw [hk] at hs; cases hs
            | some jj =>
              rw [hk] at hs
              cases hs
              obtain ⟨b, rfl, hm⟩ := (r1.mono e2).refI
              have hso := objL_some ho
              obtain ⟨vs, g1, g2⟩ := em2.ob j b _ hm hso
              refine ⟨b, vs, kk, jj, rfl, rfl, g1, by rw [← g2.length]; exact hk, ?_⟩
              have hmn := List.mem_of_getElem? hm
              have x : Ext M2 H2 M2 (upd H2 b (.lst (vs.set jj v))) := Ext.mut (.inl hmn) fun z => (em2.df b z).2 hmn
              exact k2 M2 _ σ x (Emb.mut em2 hm (List.getElem?_eq_some_iff.mp hso).1 ⟨_, upd_same, (g2.set jj ((r.mono e1).mono e2)).mono x⟩ fun ps z => by rw [g1] at z; cases z) (rn2.mono x)
        · cases hs
      · exact k2.elim
    · cases h
  | .fld o c f, Γ, X, Z, e, h, a => by
    simp only [chkA] at h
    split at h
    · rename_i y nm pp
      simp only [Bool.and_eq_true, decide_eq_true_eq] at h
      obtain ⟨⟨h1, h2⟩, h3⟩ := h
      subst h1
      obtain ⟨fs, ms, hc, hf⟩ := clsF_ok h2
      have CC := C.cls _ _ _ hc
      refine PG.imp (pg_fld (pe_ok C o h3 a).1) fun v σ H Q ⟨M, S, ρ, d, em, r, rn, q⟩ => ?_
      simp only [asg] at q
      refine tE.stS em rn q fun x H1 M1 S1 dx e1 em1 rn1 r1 k => ?_
      split at k
      · rename_i S3 hs
        unfold setF at hs
        cases ea : asRef dx with
        | none => rw [ea] at hs; cases hs
        | some i =>
          rw [ea] at hs
          have ed := asRef_some ea
          subst ed
          cases hi : insD S1 i with
          | none => simp [hi] at hs
          | some p =>
            obtain ⟨c', fs'⟩ := p
            simp only [Option.bind_some, hi] at hs
            split at hs
            · rename_i hcc
              obtain ⟨hcc, hl⟩ := hcc
              have hcc' : c' = c := hcc
              subst hcc'
              cases hs
              obtain ⟨l, dx, vfs, rfl, g0, g1, g2, g3, g4⟩ := em1.ins hi r1
              have hl' : fs'.length < 900 := hl
              refine ⟨l, _, dx, vfs, rfl, g1, by rw [a.F.K]; exact CC.cl, by rw [a.F.K]; exact CC.noat _ hf, by rw [← g4.length]; omega, ?_⟩
              have hmn := List.mem_of_getElem? g0
              have x : Ext M1 H1 M1 (upd H1 l (.ins (P.CA c') dx (L2.putF nm v vfs))) := Ext.mut (.inl hmn) fun z => (em1.df l z).2 hmn
              have hne : dx ≠ l := fun z => g3 (.inl (z ▸ hmn))
              exact k M1 _ σ x (Emb.mut em1 g0 (List.getElem?_eq_some_iff.mp (insD_some hi)).1 ⟨dx, _, upd_same, by rw [upd_ne hne]; exact g2, g3, (g4.put (r.mono e1)).mono x⟩ fun ps z => by rw [g1] at z; cases z) (rn1.mono x)
            · cases hs
      · exact k.elim
    · cases h
theorem pa_asgs (C : Cg P n G gt) : ∀ (ts : List T) {Γ : Ga} {X : Cx} {Z : ZX} {es : List Expr}, es.all (fun e => !isStar e) = true → chkAs gt ts Γ es = true → At P n Z Γ X → PGs X es (tAs P G Z ts)
  | [], Γ, X, Z, es, hs, h, a => by
    cases es with
    | nil =>
      refine PGs.imp pgs_nil fun xs σ H Q ⟨M, S, ρ, d, em, r, rn, q⟩ => ?_
      cases d with
      | nil =>
        cases r
        simp only [asgs] at q
        exact ⟨rfl, q.next em rn⟩
      | cons _ _ => exact q.elim
    | cons _ _ => cases h
  | t :: ts, Γ, X, Z, es, hs, h, a => by
    cases es with
    | nil => cases h
    | cons e es =>
      simp only [chkAs, Bool.and_eq_true] at h
      rw [List.all_cons, Bool.and_eq_true] at hs
      refine PGs.imp (pgs_cons (pa_asg C t h.1 a) (pa_asgs C ts hs.2 h.2 a) (by rw [assignEach_cons (by simpa using hs.1)]; rfl)) fun xs σ H Q ⟨M, S, ρ, d, em, r, rn, q⟩ => ?_
      cases d with
      | nil => exact q.elim
      | cons d ds =>
        cases r with
        | @cons _ _ v vs r1 r2 =>
          simp only [asgs] at q
          refine ⟨v, vs, rfl, M, S, ρ, d, em, r1, rn, (SRes.seq q fun M' H' σ' ρ' S' e em' rn' k => ⟨M', S', ρ', ds, em', r2.mono e, rn', k.ext e⟩)⟩
end
end
end PL
end

section
set_option Elab.async false
set_option linter.all false
set_option maxRecDepth 100000
set_option maxHeartbeats 2000000
/-! PLQ: the statements' theorem. -/
namespace PL
open PySem PySem.Spec PyProof.Rows L2
def swNames (sc : Scope) (ts : List Expr) : List Str := ts.filterMap fun
    | .Name id pos => if sc.names.lookup id == some .local && pos.line == (ts.head?.map (·.pos.line)).getD 0 then some id else none
    | _ => none
/-- whether two or three names are stored from the right -/
def swF (sc : Scope) (ts vs : List Expr) : Option (Option (List Str)) :=
  if (!(ts.length == 2 || ts.length == 3) || vs.length != ts.length) = true then some none
  else if vs.any isStar = true then some none
  else if ((swNames sc ts).length != ts.length || (swNames sc ts).eraseDups.length != (swNames sc ts).length) = true then some none
  else if vs.all (foldedForSure 8) = true then some none
  else if vs.all (constantsAlone 8) = true then none
  else some (some (swNames sc ts))
theorem swF_ok {env : PySem.Env} (hk : env.scope.kind = .function) {ts vs : List Expr} {k k2 : Nat} {p p2 : Pos} {r : Option (List Str)} (h : swF env.scope ts vs = some r) : swappedStores [.Tuple ts k p] (.Tuple vs k2 p2) env = pure r := by
  have hb : env.blockKind = .function := by unfold Env.blockKind; rw [hk]; rfl
  unfold swF at h
  unfold swappedStores
  simp only [hb]
  split at h
  · rename_i c
    cases h
    rw [if_pos (by simpa using c)]
  · rename_i c
    rw [if_neg (by simpa using c)]
    split at h
    · rename_i c2
      cases h
      exact if_pos c2
    · rename_i c2
      refine (if_neg c2).trans ?_
      split at h
      · rename_i c3
        cases h
        exact if_pos c3
      · rename_i c3
        refine (if_neg c3).trans ?_
        split at h
        · rename_i c4
          cases h
          exact if_pos c4
        · rename_i c4
          rw [if_neg c4]
          split at h
          · cases h
          · rename_i c5
            cases h
            exact if_neg c5
def isComp : Expr → Bool
  | .ListComp .. => true
  | .SetComp .. => true
  | .DictComp .. => true
  | _ => false
def isTupE : Expr → Bool
  | .Tuple .. => true
  | _ => false
theorem sw_none {e : Expr} {t : Option Expr} {l : Nat} {env : PySem.Env} (h : isComp e = false) : swapsWith e t l env = pure false := by
  cases e <;> first | rfl | cases h
theorem st_none {t e : Expr} {env : PySem.Env} (h : isTupE e = false ∨ isTupE t = false) (hl : ∀ es p, t ≠ .List es p) : swappedStores [t] e env = pure none := by
  unfold swappedStores
  split
  · rename_i c
    split at c
    · rename_i h1
      obtain ⟨rfl⟩ : True := trivial
      rcases h with h | h
      · simp_all [isTupE]
      · simp_all [isTupE]
    · rename_i h1
      simp_all
    · cases c
  · rfl
theorem sw_cell {elt : Expr} {gs : List Comprehension} {scope : Scope} {pos py : Pos} {y : Str} {l : Nat} {env : PySem.Env} (hk : env.scope.kind = .function) (hy : env.scope.names.lookup y = some .cell) : swapsWith (.ListComp elt gs scope pos) (some (.Name y py)) l env = pure false := by
  have ky : env.kindOf y = some .cell := hy
  have hb : env.blockKind = .function := by unfold Env.blockKind; rw [hk]; rfl
  unfold swapsWith
  simp only [hb, ky]
  rfl
def isList' : Expr → Bool
  | .List .. => true
  | _ => false
section
variable (gt : Gt)
/-- a name gets a comprehension -/
def chkN (m : E) (i : Nat) (Γ : Ga) (x : Str) (px : Pos) (v : Expr) : Bool := match v with
  | .ListComp _ _ scope vp => match Γ.sc.names.lookup x with
    | some .cell => Γ.fn x
    | some .local => (match m with | .comp .. => true | _ => false) && (px.line == vp.line) && !(scope.names.any fun (n, k) => n == x && (k == .local || k == .cell))
    | _ => false
  | v => !isComp v && locB Γ.sc Γ.fn x
/-- stored from the right, or as a tuple -/
def chkW (Γ : Ga) (tg v : Expr) (t : T) (e : E) : Bool := match tg, v with
  | .Tuple ts _ _, .Tuple vs _ _ => (match swF Γ.sc ts vs with
    | some none => true
    | some (some [x, y]) => (match ts, vs, t, e with
      | [.Name x' _, .Name y' _], [_, _], .tup [.name i, .name j], .tup [_, _] => decide (x = x') && decide (y = y') && decide (Γ.N[i]? = some x) && decide (Γ.N[j]? = some y) && decide (i ≠ j) && decide (Γ.sc.names.lookup x = some .local) && decide (Γ.sc.names.lookup y = some .local)
      | _, _, _, _ => false)
    | _ => false)
  | tg, _ => !isList' tg
mutual
def chkS : St → Ga → Stmt → Bool
  | .asg t e, Γ, s => match s with
    | .Assign [tg] v _ => (match t, tg with
      | .name i, .Name x px => decide (Γ.N[i]? = some x) && chkN e i Γ x px v && chk gt e Γ v
      | t, tg => !isComp v && !isStar tg && chkW Γ tg v t e && chkA gt t Γ tg && chk gt e Γ v)
    | _ => false
  | .expr e, Γ, s => match s with
    | .Expr v _ => !isComp v && chk gt e Γ v
    | _ => false
  | .ret e, Γ, s => match s with
    | .Return (some v) _ => chk gt e Γ v
    | _ => false
  | .retN, _, s => match s with
    | .Return none _ => true
    | _ => false
  | .ite c a b, Γ, s => match s with
    | .If x y z _ => tst c && chk gt c Γ x && chkSs a Γ y && chkSs b Γ z
    | _ => false
  | .for_ t it body, Γ, s => match s with
    | .For tg x y [] _ => !isSet x && chki gt it Γ tg x && chkT t Γ tg && chkSs body Γ y
    | _ => false
  | .while_ c body, Γ, s => match s with
    | .While x y [] _ => tst c && chk gt c Γ x && chkSs body Γ y
    | _ => false
  | .pass, _, s => match s with
    | .Pass _ => true
    | _ => false
  | .never, _, _ => true
  | _, _, _ => false
def chkSs : List St → Ga → List Stmt → Bool
  | [], _, ss => ss.isEmpty
  | t :: ts, Γ, ss => match ss with
    | s :: ss => chkS t Γ s && chkSs ts Γ ss
    | [] => false
end
end
/-- where a statement stands -/
structure AtS (P : Pg) (n : Nat) (Z : ZX) (Γ : Ga) (X : Cx) : Prop extends At P n Z Γ X where
  own : PassesOwn (model X.prog X.w) X.A X.env X.xe
theorem pss_consM {X : Cx} {s : Stmt} {ss : List Stmt} {t u : TS} (h1 : PS X s t) (h2 : PSs X ss u) : PSs X (s :: ss) (tSeq t u) := pss_cons h1 h2
section
variable {P : Pg} {G : Calls} {n : Nat} {gt : Gt}
theorem for_ok {Z : ZX} {Γ : Ga} {X : Cx} (a : AtS P n Z Γ X) {t : Tg} {it : I} {body : List St} {tg x : Expr} {y : List Stmt} {pos : Pos} (hi : PI X tg x (tI P G Z it)) (hg : PG X tg (tG t)) (hb : PSs X y (tSs P G Z body)) (hs : isSet x = false) :
    PS X (.For tg x y [] pos) (tS P G Z (.for_ t it body)) := by
  refine PS.imp (ps_for a.own a.F.calm hi hg hb (noSet hs)) fun D σ H ⟨M, S, ρ, em, rn, q⟩ => ?_
  simp only [ex] at q
  refine ⟨M, S, ρ, em, rn, (SRes.st q).mono fun J H1 ⟨M1, S1, w, e1, em1, ⟨W, Y, walk, stand, yield⟩, k⟩ => ?_⟩
  split at k
  · exact k.elim
  rename_i hnp
  have hok : ∀ i ρ S', SRes P M1 H1 (forL w.ok (putT t) (fun ρ S => exs G P.gi body ρ S) (w.items.drop i) ρ S') D Z → w.ok S' := fun i ρ S' hc => by
    cases e : w.items.drop i with
    | nil =>
      rw [e] at hc
      simp only [forL] at hc
      split at hc
      · assumption
      · exact hc.elim
    | cons d ds =>
      rw [e] at hc
      simp only [forL] at hc
      split at hc
      · assumption
      · exact hc.elim
  refine for_it walk (fun i σ' H' => ∃ M' S' ρ', Ext M1 H1 M' H' ∧ P.Emb M' H' S' ∧ Renv M' H' ρ' σ' ∧ SRes P M1 H1 (forL w.ok (putT t) (fun ρ S => exs G P.gi body ρ S) (w.items.drop i) ρ' S') D Z)
    ⟨M1, S1, ρ, Ext.refl, em1, rn.mono e1, k⟩ (fun i σ' H' hi ⟨M', S', ρ', e2, em2, rn2, hc⟩ => stand M' H' S' e2 em2 (hok i ρ' S' hc)) ?_ ?_
  · rintro i xv σ' H' H'' hi ⟨M', S', ρ', e2, em2, rn2, hc⟩ hy
    have ho := hok i ρ' S' hc
    obtain ⟨d, hget, em3, e3, rw3, rv3⟩ := yield i M' H' S' xv H'' e2 em2 ho hy
    rw [drop_get hget] at hc
    simp only [forL] at hc
    rw [if_pos ho] at hc
    cases hput : putT t d ρ' with
    | none => rw [hput] at hc; exact hc.elim
    | some ρ2 =>
      rw [hput] at hc
      simp only at hc
      have rg : Rg M' H'' t d xv := by
        cases t with
        | name j => exact rv3 (by simpa [isNm] using hnp)
        | tup ts => exact rw3
      refine ⟨M', d, ρ', ρ2, rg, rn2.mono e3, hput, fun σ2 r2 _ => ⟨M', S', ρ2, em3, r2, ?_⟩⟩
      have e23 := e2.trans e3
      have q1 : SRes P M1 H1 (exs G P.gi body ρ2 S') { D with nx := fun σ' H' => ∃ M' S' ρ', Ext M1 H1 M' H' ∧ P.Emb M' H' S' ∧ Renv M' H' ρ' σ' ∧ SRes P M1 H1 (forL w.ok (putT t) (fun ρ S => exs G P.gi body ρ S) (w.items.drop (i + 1)) ρ' S') D Z } Z :=
        SRes.seq hc fun M' H' σ' ρ S' e em' rn' k => ⟨M', S', ρ, e, em', rn', k⟩
      exact (q1.ext e23).ends (fun _ _ q => q) (fun _ _ q => q)
  · rintro σ' H' ⟨M', S', ρ', e2, em2, rn2, hc⟩
    have ho := hok _ ρ' S' hc
    rw [List.drop_length] at hc
    simp only [forL] at hc
    rw [if_pos ho] at hc
    exact hc M' H' σ' e2 em2 rn2
theorem while_ok {Z : ZX} {Γ : Ga} {X : Cx} (a : AtS P n Z Γ X) {c : E} {body : List St} {x : Expr} {y : List Stmt} {pos : Pos} (hc : PT X x (tT P G Z c)) (hb : PSs X y (tSs P G Z body)) :
    PS X (.While x y [] pos) (tS P G Z (.while_ c body)) := by
  refine PS.imp (ps_while a.own hc hb) fun D σ H ⟨M, S, ρ, em, rn, q⟩ => ?_
  simp only [ex] at q
  refine ⟨fun m σ' H' => ∃ M' S' ρ', P.Emb M' H' S' ∧ Renv M' H' ρ' σ' ∧ SRes P M' H' (whileL (fun ρ S => ev G P.gi c ρ S) (fun ρ S => exs G P.gi body ρ S) m ρ' S') D Z, ⟨wfuel, M, S, ρ, em, rn, q⟩, ?_⟩
  rintro m σ' H' ⟨M', S', ρ', em', rn', q⟩
  cases m with
  | zero => exact q.elim
  | succ m =>
    simp only [whileL] at q
    refine tE.stS em' rn' q fun v H1 M1 S1 d e1 em1 rn1 r1 k => ?_
    split at k
    · cases r1
      refine ⟨true, rfl, ?_⟩
      try dsimp only
      rw [if_pos rfl]
      refine ⟨_, fun σ2 H2 w => ⟨m, Nat.lt_succ_self m, w⟩, M1, S1, ρ', em1, rn1, ?_⟩
      refine (SRes.seq k (N := fun σ2 H2 => ∃ M' S' ρ', P.Emb M' H2 S' ∧ Renv M' H2 ρ' σ2 ∧ SRes P M' H2 (whileL (fun ρ S => ev G P.gi c ρ S) (fun ρ S => exs G P.gi body ρ S) m ρ' S') D Z)
        fun M2 H2 σ2 ρ2 S2 e2 em2 rn2 k2 => ⟨M2, S2, ρ2, em2, rn2, k2.ext e2⟩).ends (fun _ _ q => q) (fun _ _ q => q)
    · cases r1
      refine ⟨false, rfl, ?_⟩
      try dsimp only
      rw [if_neg (by decide)]
      exact k.next em1 rn1
    · exact k.elim
end
end PL
end

section
set_option Elab.async false
set_option linter.all false
set_option maxRecDepth 100000
set_option maxHeartbeats 2000000
/-! PLR: the statements' theorem, all in one. -/
namespace PL
open PySem PySem.Spec PyProof.Rows L2
section
variable {P : Pg} {G : Calls} {n : Nat} {gt : Gt}
theorem set_any {Z : ZX} {Γ : Ga} {X : Cx} (a : At P n Z Γ X) {i : Nat} {e : E} {D : Ends} {σ : L2.St} {H : Hp} (h : tS P G Z (.asg (.name i) e) D σ H) : tE P G Z e σ H fun x H1 => gName i x σ H1 D.nx := by
  obtain ⟨M, S, ρ, em, rn, q⟩ := h
  simp only [ex] at q
  refine tE.stS em rn q fun v H1 M1 S1 d e1 em1 rn1 r1 k => ?_
  simp only [asg] at k
  split at k
  · exact k.next em1 (rn1.set i r1)
  · exact k.elim
theorem ps_name (C : Cg P n G gt) {Z : ZX} {Γ : Ga} {X : Cx} (a : At P n Z Γ X) {i : Nat} {x : Str} {px pos : Pos} {e : E} {v : Expr} (hi : Γ.N[i]? = some x) (hc : chkN e i Γ x px v = true) (he : chk gt e Γ v = true) :
    PS X (.Assign [.Name x px] v pos) (tS P G Z (.asg (.name i) e)) := by
  have hkind : X.env.scope.kind = .function := by rw [a.F.sc]; exact a.F.kind
  by_cases hv : isComp v = true
  · cases v with
    | ListComp elt gens scope vp =>
      simp only [chkN] at hc
      split at hc
      · rename_i hl
        have hl' : X.env.scope.names.lookup x = some .cell := by rw [a.F.sc]; exact hl
        exact PS.imp (ps_set (by rw [a.F.N]; exact a.F.nd) (by rw [a.F.N]; exact hi) (.inr hl') (pe_ok C e he a).1 (sw_cell hkind hl') (.inl (by rw [a.F.fn]; exact hc))) fun D σ H q => set_any a q
      · rename_i hl
        have hl' : X.env.scope.names.lookup x = some .local := by rw [a.F.sc]; exact hl
        simp only [Bool.and_eq_true, Bool.not_eq_true'] at hc
        obtain ⟨⟨c1, c2⟩, c3⟩ := hc
        cases e with
        | comp r el own tg it cond =>
          have he' := he
          simp only [chk] at he
          split at he
          · rename_i x2 t y ifs za scope2 pos2 heq
            cases heq
            simp only [Bool.and_eq_true, decide_eq_true_eq, Bool.not_eq_true'] at he
            obtain ⟨⟨⟨⟨⟨⟨⟨h1, h2⟩, h3⟩, h4⟩, h5⟩, h6⟩, h7⟩, h8⟩ := he
            subst h1
            have ok : BlkOk X.N X.env.scope scope (ownOf Γ.N own) := by rw [a.F.N, a.F.sc]; exact blkOk_by h2
            have ho : (ownOf Γ.N own).map (·.2) = own := by
              unfold ownOf
              rw [List.map_map]
              exact List.map_id' own
            have hit := pi_ok C it h5 a
            have hg : ∀ (s : Shared) (H : Hp) (C' : Addr) (cl : List (Str × Addr)) (fp : List Addr), PG (X.blk s H scope (compEnvC scope cl C' X.env) fp) t (tG tg) := fun s H C' cl fp => pg_ok (a.blk ok.kind s H C' cl fp).F tg h6
            have ht : ∀ (s : Shared) (H : Hp) (C' : Addr) (cl : List (Str × Addr)) (fp : List Addr), PTs (X.blk s H scope (compEnvC scope cl C' X.env) fp) ifs (tC' P G cond) := fun s H C' cl fp => pc_ok C cond h7 (a.blk ok.kind s H C' cl fp)
            have hel : ∀ (s : Shared) (H : Hp) (C' : Addr) (cl : List (Str × Addr)) (fp : List Addr), PE (X.blk s H scope (compEnvC scope cl C' X.env) fp) elt (tE P G ZF el) := fun s H C' cl fp => (pe_ok C el h8 (a.blk ok.kind s H C' cl fp)).1
            refine PS.imp (ps_setLc (i := i) a.F.calm (by rw [a.F.N]; exact a.F.nd) (by rw [a.F.N]; exact hi) hl' (sw_true hkind hl' c2 c3) hit ok hg ht hel (noSet h4)) fun D σ H q => ?_
            exact comp_ok (pos := vp) a.F ho (fun i hi => by
              rw [List.all_eq_true] at h3
              simpa using h3 i hi) hit ok hg ht hel σ H _ (set_any a q)
          · cases he
        | _ => cases c1
      · cases hc
    | SetComp _ _ _ _ => simp [chkN, isComp] at hc
    | DictComp _ _ _ _ _ => simp [chkN, isComp] at hc
    | _ => cases hv
  · have hv' : isComp v = false := by simpa using hv
    have hloc : locB Γ.sc Γ.fn x = true := by
      cases v with
      | ListComp _ _ _ _ => cases hv'
      | _ => simp only [chkN, Bool.and_eq_true] at hc; exact hc.2
    obtain ⟨l1, l2⟩ := locB_ok hloc
    exact PS.imp (ps_set (by rw [a.F.N]; exact a.F.nd) (by rw [a.F.N]; exact hi) (by rw [a.F.sc]; exact l1) (pe_ok C e he a).1 (sw_none hv') (by rw [a.F.fn, a.F.sc]; exact l2)) fun D σ H q => set_any a q
theorem asg_any {Z : ZX} {t : T} {e : E} {D : Ends} {σ : L2.St} {H : Hp} (h : tS P G Z (.asg t e) D σ H) (nr : ∀ d ρ S v S', asg G P.gi t d ρ S ≠ .ret v S') : tE P G Z e σ H fun x H1 => tA P G Z t x σ H1 D.nx := by
  obtain ⟨M, S, ρ, em, rn, q⟩ := h
  simp only [ex] at q
  refine tE.stS em rn q fun v H1 M1 S1 d e1 em1 rn1 r1 k => ⟨M1, S1, ρ, d, em1, r1, rn1, ?_⟩
  have w := nr d ρ S1
  revert k w
  cases asg G P.gi t d ρ S1 with
  | next _ _ => exact fun k _ => k
  | ret v S' => exact fun _ w => absurd rfl (w v S')
  | exc _ _ => exact fun k _ => k
  | bad => exact fun k _ => k
mutual
theorem asg_noret (G : Calls) (gi : Str → Option Int) : ∀ (t : T) (d : D) (ρ : Env) (S : Sto) (v : D) (S' : Sto), asg G gi t d ρ S ≠ .ret v S'
  | .name i, d, ρ, S, v, S', h => by
    simp only [asg] at h
    split at h <;> cases h
  | .tup ts, d, ρ, S, v, S', h => by
    cases d with
    | tuple ds =>
      simp only [asg] at h
      split at h
      · exact asgs_noret G gi ts ds ρ S v S' h
      · cases h
    | _ => simp only [asg] at h; cases h
  | .sub o i, d, ρ, S, v, S', h => by
    simp only [asg] at h
    cases e1 : ev G gi o ρ S with
    | ok x S1 =>
      rw [e1] at h
      simp only [Out.st_ok] at h
      cases e2 : ev G gi i ρ S1 with
      | ok y S2 =>
        rw [e2] at h
        simp only [Out.st_ok] at h
        split at h <;> cases h
      | exc _ _ => rw [e2] at h; cases h
      | bad => rw [e2] at h; cases h
    | exc _ _ => rw [e1] at h; cases h
    | bad => rw [e1] at h; cases h
  | .fld o c f, d, ρ, S, v, S', h => by
    simp only [asg] at h
    cases e1 : ev G gi o ρ S with
    | ok x S1 =>
      rw [e1] at h
      simp only [Out.st_ok] at h
      split at h <;> cases h
    | exc _ _ => rw [e1] at h; cases h
    | bad => rw [e1] at h; cases h
theorem asgs_noret (G : Calls) (gi : Str → Option Int) : ∀ (t : List T) (d : List D) (ρ : Env) (S : Sto) (v : D) (S' : Sto), asgs G gi t d ρ S ≠ .ret v S'
  | [], [], ρ, S, v, S', h => by simp only [asgs] at h; cases h
  | [], _ :: _, ρ, S, v, S', h => by simp only [asgs] at h; cases h
  | _ :: _, [], ρ, S, v, S', h => by simp only [asgs] at h; cases h
  | t :: ts, d :: ds, ρ, S, v, S', h => by
    simp only [asgs] at h
    cases e : asg G gi t d ρ S with
    | next ρ1 S1 => rw [e] at h; exact asgs_noret G gi ts ds ρ1 S1 v S' h
    | ret w S1 => exact asg_noret G gi t d ρ S w S1 e
    | exc _ _ => rw [e] at h; cases h
    | bad => rw [e] at h; cases h
end
theorem isList_ne {t : Expr} (h : isList' t = false) : ∀ es p, t ≠ .List es p := by
  rintro es p rfl
  cases h
theorem ps_gen (C : Cg P n G gt) {Z : ZX} {Γ : Ga} {X : Cx} (a : At P n Z Γ X) {t : T} {e : E} {tg v : Expr} {pos : Pos} (h1 : isComp v = false) (h2 : isStar tg = false) (h3 : chkW Γ tg v t e = true) (h4 : chkA gt t Γ tg = true) (h5 : chk gt e Γ v = true) :
    PS X (.Assign [tg] v pos) (tS P G Z (.asg t e)) := by
  have hkind : X.env.scope.kind = .function := by rw [a.F.sc]; exact a.F.kind
  have gen : swappedStores [tg] v X.env = pure none → PS X (.Assign [tg] v pos) (tS P G Z (.asg t e)) := fun hw =>
    PS.imp (ps_asg (pe_ok C e h5 a).1 (pa_asg C t h4 a) (sw_none h1) hw (by rw [assignEach_cons h2]; rfl)) fun D σ H q => asg_any q (asg_noret G P.gi t)
  unfold chkW at h3
  split at h3
  · rename_i ts _ _ vs _ _
    split at h3
    · rename_i hs
      exact gen (swF_ok hkind (by rw [a.F.sc]; exact hs))
    · rename_i x y hs
      split at h3
      · rename_i x' _ y' _ va vb i j ea eb
        simp only [Bool.and_eq_true, decide_eq_true_eq] at h3
        obtain ⟨⟨⟨⟨⟨⟨q1, q2⟩, q3⟩, q4⟩, q5⟩, q6⟩, q7⟩ := h3
        subst q1 q2
        simp only [chk, Bool.and_eq_true] at h5
        refine PS.imp (ps_par a.F.calm (by rw [a.F.N]; exact a.F.nd) (by rw [a.F.N]; exact q3) (by rw [a.F.N]; exact q4) q5 (by rw [a.F.sc]; exact q6) (by rw [a.F.sc]; exact q7) (pa_ok C [ea, eb] h5.1 h5.2 a) (swF_ok hkind (by rw [a.F.sc]; exact hs)) rfl) fun D σ H ⟨M, S, ρ, em, rn, q⟩ => ?_
        simp only [ex, ev] at q
        rw [Out.st_bind] at q
        refine tEs.stS em rn q fun vs H1 M1 S1 ds e1 em1 rn1 r1 k => ?_
        split at k
        · simp only [Out.st_ok, asg] at k
          split at k
          · rename_i hl
            cases r1 with
            | nil => cases hl
            | @cons d1 _ w1 _ r1 t1 =>
              cases t1 with
              | nil => cases hl
              | @cons d2 _ w2 _ r2 t2 =>
                cases t2 with
                | cons _ _ => cases hl
                | nil =>
                  simp only [asgs, asg] at k
                  split at k
                  · simp only [SOut.seq_next] at k
                    split at k
                    · exact ⟨w1, w2, rfl, k.next em1 ((rn1.set i r1).set j r2)⟩
                    · exact k.elim
                  · exact k.elim
          · exact k.elim
        · exact k.elim
      · cases h3
    · cases h3
  · rename_i hnt
    have hl : isList' tg = false := by simpa using h3
    refine gen (st_none ?_ (isList_ne hl))
    cases htg : isTupE tg with
    | false => exact .inr rfl
    | true =>
      cases hv : isTupE v with
      | false => exact .inl rfl
      | true =>
        cases tg <;> first | cases htg | skip
        cases v <;> first | cases hv | skip
        exact absurd rfl (hnt _ _ _ _ _ _ rfl)
mutual
theorem ps_ok (C : Cg P n G gt) : ∀ (m : St) {Γ : Ga} {X : Cx} {Z : ZX} {s : Stmt}, chkS gt m Γ s = true → AtS P n Z Γ X → PS X s (tS P G Z m)
  | .asg t e, Γ, X, Z, s, h, a => by
    simp only [chkS] at h
    split at h
    · rename_i tg v pos
      split at h
      · rename_i i x px
        simp only [Bool.and_eq_true, decide_eq_true_eq] at h
        exact ps_name C a.toAt h.1.1 h.1.2 h.2
      · simp only [Bool.and_eq_true, Bool.not_eq_true'] at h
        exact ps_gen C a.toAt h.1.1.1.1 h.1.1.1.2 h.1.1.2 h.1.2 h.2
    · cases h
  | .expr e, Γ, X, Z, s, h, a => by
    simp only [chkS] at h
    split at h
    · simp only [Bool.and_eq_true, Bool.not_eq_true'] at h
      refine PS.imp (ps_expr (pe_ok C e h.2 a.toAt).1 (sw_none h.1)) fun D σ H ⟨M, S, ρ, em, rn, q⟩ => ?_
      simp only [ex] at q
      exact tE.stS em rn q fun v H1 M1 S1 d e1 em1 rn1 r1 k => k.next em1 rn1
    · cases h
  | .ret e, Γ, X, Z, s, h, a => by
    simp only [chkS] at h
    split at h
    · refine PS.imp (ps_ret (pe_ok C e h a.toAt).1) fun D σ H ⟨M, S, ρ, em, rn, q⟩ => ?_
      simp only [ex] at q
      exact tE.stS em rn q fun v H1 M1 S1 d e1 em1 rn1 r1 k => k M1 H1 v Ext.refl em1 r1
    · cases h
  | .retN, Γ, X, Z, s, h, a => by
    simp only [chkS] at h
    split at h
    · refine PS.imp ps_retN fun D σ H ⟨M, S, ρ, em, rn, q⟩ => ?_
      simp only [ex] at q
      exact q M H .non Ext.refl em .non
    · cases h
  | .ite c x y, Γ, X, Z, s, h, a => by
    simp only [chkS] at h
    split at h
    · simp only [Bool.and_eq_true] at h
      obtain ⟨⟨⟨h1, h2⟩, h3⟩, h4⟩ := h
      refine PS.imp (ps_if ((pe_ok C c h2 a.toAt).2 h1) (pss_ok C x h3 a) (pss_ok C y h4 a)) fun D σ H ⟨M, S, ρ, em, rn, q⟩ => ?_
      simp only [ex] at q
      refine tE.stS em rn q fun v H1 M1 S1 d e1 em1 rn1 r1 k => ?_
      split at k
      · cases r1
        refine ⟨true, rfl, ?_⟩
        try dsimp only
        rw [if_pos rfl]
        exact ⟨M1, S1, ρ, em1, rn1, k⟩
      · cases r1
        refine ⟨false, rfl, ?_⟩
        try dsimp only
        rw [if_neg (by decide)]
        exact ⟨M1, S1, ρ, em1, rn1, k⟩
      · exact k.elim
    · cases h
  | .for_ t it body, Γ, X, Z, s, h, a => by
    simp only [chkS] at h
    split at h
    · simp only [Bool.and_eq_true, Bool.not_eq_true'] at h
      exact for_ok a (pi_ok C it h.1.1.2 a.toAt) (pg_ok a.F t h.1.2) (pss_ok C body h.2 a) h.1.1.1
    · cases h
  | .while_ c body, Γ, X, Z, s, h, a => by
    simp only [chkS] at h
    split at h
    · simp only [Bool.and_eq_true] at h
      exact while_ok a ((pe_ok C c h.1.2 a.toAt).2 h.1.1) (pss_ok C body h.2 a)
    · cases h
  | .pass, Γ, X, Z, s, h, a => by
    simp only [chkS] at h
    split at h
    · refine PS.imp ps_pass fun D σ H ⟨M, S, ρ, em, rn, q⟩ => ?_
      simp only [ex] at q
      exact q.next em rn
    · cases h
  | .never, Γ, X, Z, s, h, a => PS.imp ps_never fun D σ H ⟨M, S, ρ, em, rn, q⟩ => by simp only [ex] at q; exact q
  | .raise _ _, _, _, _, _, h, _ => by cases h
  | .tryN _ _, _, _, _, _, h, _ => by cases h
theorem pss_ok (C : Cg P n G gt) : ∀ (ms : List St) {Γ : Ga} {X : Cx} {Z : ZX} {ss : List Stmt}, chkSs gt ms Γ ss = true → AtS P n Z Γ X → PSs X ss (tSs P G Z ms)
  | [], Γ, X, Z, ss, h, a => by
    cases ss with
    | nil => exact PSs.imp pss_nil fun D σ H ⟨M, S, ρ, em, rn, q⟩ => by simp only [exs] at q; exact q.next em rn
    | cons _ _ => cases h
  | m :: ms, Γ, X, Z, ss, h, a => by
    cases ss with
    | nil => cases h
    | cons s ss =>
      simp only [chkSs, Bool.and_eq_true] at h
      refine PSs.imp (pss_cons (ps_ok C m h.1 a) (pss_ok C ms h.2 a)) fun D σ H ⟨M, S, ρ, em, rn, q⟩ => ?_
      simp only [exs] at q
      exact ⟨M, S, ρ, em, rn, SRes.seq q fun M' H' σ' ρ' S' e em' rn' k => ⟨M', S', ρ', em', rn', k.ext e⟩⟩
end
end
end PL
end

section
set_option Elab.async false
set_option linter.all false
set_option maxRecDepth 100000
set_option maxHeartbeats 2000000
/-! PLS: defs; the law's end. -/
namespace PL
open PySem PySem.Spec PyProof.Rows L2
/-! ### leaving a def: what is kept -/
section
variable {T : List (Addr × Str)} {CA : Str → Addr} {KF : PySem.W.Frag} {M M' : Ma} {H H' : Hp} {S S' : Sto}
mutual
theorem Rv.refB : ∀ {d : D} {v : V}, Rv M H d v → PL.refB M.n.length d = true
  | _, _, .non => rfl
  | _, _, .bl _ => rfl
  | _, _, .int _ => rfl
  | _, _, .str _ => rfl
  | _, _, .tup _ _ r => by simp only [PL.refB]; exact Rvs.refB r
  | _, _, .lst _ _ r => by simp only [PL.refB]; exact Rvs.refB r
  | _, _, .scr _ r => by unfold PL.refB; exact Rvs.refB r
  | _, _, @Rv.dct _ _ _ kvs ks q h n => by
    subst q
    cases ks with
    | nil => rfl
    | cons k ks => rfl
  | _, _, .ref h => by unfold PL.refB; exact decide_eq_true (List.getElem?_eq_some_iff.mp h).1
theorem Rvs.refB : ∀ {ds : List D} {vs : List V}, Rvs M H ds vs → PL.refBs M.n.length ds = true
  | _, _, .nil => rfl
  | _, _, .cons r t => by simp only [PL.refBs, Bool.and_eq_true]; exact ⟨Rv.refB r, Rvs.refB t⟩
end
theorem Rfs.refB {fs : List (Str × D)} {vfs : List (Str × V)} (h : Rfs M H fs vfs) : fs.all (fun p => PL.refB M.n.length p.2) = true := by
  unfold Rfs at h
  induction h with
  | nil => rfl
  | cons p t ih =>
    rw [List.all_cons, Bool.and_eq_true]
    exact ⟨p.2.refB, ih⟩
theorem Rfs.cut {k : Nat} {fs : List (Str × D)} {vfs : List (Str × V)} (h : Rfs M H fs vfs) (hr : fs.all (fun p => PL.refB k p.2) = true) : Rfs (M.cut k) H fs vfs := by
  unfold Rfs at h ⊢
  induction h with
  | nil => exact .nil
  | cons p t ih =>
    rw [List.all_cons, Bool.and_eq_true] at hr
    exact .cons ⟨p.1, p.2.cut hr.1⟩ (ih hr.2)
theorem Emb.refO (e : Emb T CA KF M H S) : S.all (PL.refO S.length) = true := by
  rw [List.all_eq_true]
  intro o ho
  obtain ⟨i, hi, q⟩ := List.mem_iff_getElem.mp ho
  have hm : i < M.n.length := by rw [e.len]; exact hi
  have r := e.ob i M.n[i] o (List.getElem?_eq_getElem hm) (by rw [List.getElem?_eq_getElem hi, q])
  rw [← e.len]
  cases o with
  | lst xs => obtain ⟨vs, _, h⟩ := r; exact h.refB
  | ins c fs =>
    obtain ⟨dx, vfs, _, _, _, h⟩ := r
    exact Rfs.refB h
theorem Emb.cutS {k : Nat} (e : Emb T CA KF M' H' S') (hk : k ≤ S'.length) (h : (S'.take k).all (PL.refO k) = true) : Emb T CA KF (M'.cut k) H' (S'.take k) := by
  have hm : k ≤ M'.n.length := by rw [e.len]; exact hk
  refine ⟨e.kf, ?_, ?_, fun a ha => ⟨(e.df a ha).1, fun z => (e.df a ha).2 (List.mem_of_mem_take z)⟩, fun i a o h1 h2 => ?_, e.tb⟩
  · show (M'.n.take k).length = (S'.take k).length
    rw [List.length_take, List.length_take, e.len]
  · exact e.nd.sublist (List.take_sublist _ _)
  · change (M'.n.take k)[i]? = some a at h1
    have hi : i < k := by
      have := (List.getElem?_eq_some_iff.mp h1).1
      rw [List.length_take] at this
      omega
    have hr : PL.refO k o = true := (List.all_eq_true.mp h) o (List.mem_of_getElem? h2)
    rw [List.getElem?_take_of_lt hi] at h1 h2
    have r := e.ob i a o h1 h2
    cases o with
    | lst xs => obtain ⟨vs, g1, g2⟩ := r; exact ⟨vs, g1, g2.cut hr⟩
    | ins c fs =>
      obtain ⟨dx, vfs, g1, g2, g3, g4⟩ := r
      exact ⟨dx, vfs, g1, g2, fun z => g3 (Ma.cut_mem z), Rfs.cut g4 hr⟩
theorem Ext.cut (e : Ext M H M' H') : Ext M H (M'.cut M.n.length) H' := by
  obtain ⟨N, hN⟩ := e.pre.1
  refine ⟨⟨⟨⟨[], ?_⟩, e.pre.2⟩, e.sub, e.keep, e.dom, fun a h n => e.new a (Ma.cut_mem h) n⟩, e.kf⟩
  show M'.n.take M.n.length = _
  rw [hN, List.take_left]
  simp
end
theorem fin_ok {P : Pg} {M M' : Ma} {H H' : Hp} {S S' : Sto} {d : D} {v : V} {m : Md} {Q : VK} {Z : ZX} (h : Res P Rv M H (fin m S d S') Q Z) (e : Ext M H M' H') (em0 : P.Emb M H S) (em : P.Emb M' H' S') (r : Rv M' H' d v) : Q v H' := by
  have hl : S.length = M.n.length := em0.len.symm
  cases m with
  | keep =>
    simp only [fin] at h
    exact h M' H' v e em r
  | trunc =>
    simp only [fin] at h
    split at h
    · rename_i c
      rw [hl] at c h
      exact h (M'.cut M.n.length) H' v e.cut (Emb.cutS em c.1 c.2.2) (r.cut c.2.1)
    · exact h.elim
  | pure =>
    simp only [fin] at h
    split at h
    · rename_i c
      have c1 := c.1
      have hle : S.length ≤ S'.length := by
        have := congrArg List.length c1
        rw [List.length_take] at this
        omega
      have em2 := Emb.cutS em hle (by rw [c1]; exact Emb.refO em0)
      rw [c1, hl] at em2
      have c2 := c.2
      rw [hl] at c2
      exact h (M'.cut M.n.length) H' v e.cut em2 (r.cut c2)
    · exact h.elim
/-! ### a def by its body -/
def Fn.ga (N : List Str) (sc : Scope) : Ga := ⟨N, sc, fun _ => true⟩
def fnScB (N ps : List Str) (sc : Scope) : Bool := decide (sc.kind = .function) && decide (sc.isCoroutine = false) && decide (sc.isGenerator = false) && decide N.Nodup && decide (N.take ps.length = ps) &&
  (ps.all fun x => decide (sc.names.lookup x = some .local ∨ sc.names.lookup x = some .cell)) && sc.names.all fun y => decide (y.2 ≠ .free)
theorem fnScB_ok {N ps : List Str} {sc : Scope} (h : fnScB N ps sc = true) : FnScope N ps sc := by
  unfold fnScB at h
  simp only [Bool.and_eq_true, decide_eq_true_eq, List.all_eq_true] at h
  obtain ⟨⟨⟨⟨⟨⟨h1, h2⟩, h3⟩, h4⟩, h5⟩, h6⟩, h7⟩ := h
  exact ⟨h1, h2, h3, h4, h5, h6, h7⟩
theorem renv_start {M : Ma} {H : Hp} {ds : List D} {vs : List V} {k : Nat} (r : Rvs M H ds vs) : Renv M H (ds.map some ++ List.replicate k none) (vs.map some ++ List.replicate k none) := by
  refine ⟨by simp [r.length], fun i d h => ?_⟩
  by_cases hi : i < ds.length
  · rw [List.getElem?_append_left (by simpa using hi), List.getElem?_map] at h
    cases e : ds[i]? with
    | none => rw [e] at h; cases h
    | some d' =>
      rw [e] at h
      cases h
      obtain ⟨v, h1, h2⟩ := r.get' e
      refine ⟨v, ?_, h2⟩
      rw [List.getElem?_append_left (by simp [← r.length]; exact hi), List.getElem?_map, h1]
      rfl
  · rw [List.getElem?_append_right (by simpa using hi), List.getElem?_replicate] at h
    split at h <;> cases h
theorem fn_ofG {P : Pg} {n : Nat} {G : Calls} {gt : Gt} (C : Cg P n G gt) {F : Fn} {x ql : Str} {fa : Addr} {fd : FuncData} {N ps : List Str} {params : Arguments} {body : List Stmt} {scope : Scope} {dvs : List V} (fu : FunD P.K x ql params body scope dvs [] fa fd) (sc : fnScB N ps scope = true)
    (hp : F.np = ps.length) (hn : F.nn = N.length) (hc : chkSs gt F.body (Fn.ga N scope) body = true) : FnG P.prog P.w P.K P.mg P.base (2 * (n + 1)) fa fd ps (spG P (runF G P.gi F)) := by
  have e2n : 2 * (n + 1) = (2 * n + 1) + 1 := by omega
  rw [e2n]
  have S := fnScB_ok sc
  have len : ∀ vs H Q E, spG P (runF G P.gi F) vs H Q E → vs.length = ps.length := fun vs H Q E ⟨M, St, ds, em, rv, h⟩ => by
    unfold runF at h
    split at h
    · rename_i c
      rw [← rv.length, c, hp]
    · exact h.elim
  obtain ⟨oc, od, dV, kV, doc, pm, an, cdv, ct, osl, rfl, lk, hcd, _, _⟩ := fu.ex
  refine ⟨len, fun A outer s H args us vs Q E hr hg e0 hb r hsp => ?_⟩
  have hl := len _ _ _ _ hsp
  have KX : P.K.In s.heap := e0.mod.kin.keeps fun b o e => (e0.bs b o e).1
  have nolim : s.heap.NoLimit := e0.mod.nolimit.keeps fun b o e => (e0.bs b o e).1
  have hkind : ∀ y ∈ ps.zip us, scope.names.lookup y.1 = some .local ∨ (scope.names.lookup y.1 = some .cell ∧ ((cellsFrom (s.heap.objs.size + 1) scope.names []).lookup y.1).isSome = true) := fun ⟨m, v⟩ hy => by
    rcases S.par m (List.of_mem_zip hy).1 with q | q
    · exact .inl q
    · exact .inr ⟨q, PySem.W.cellsFrom_some _ _ _ (.inl q)⟩
  refine codeAny_call_function hr.depth (KX _ _ lk) rfl S.co S.gen rfl (PySem.W.codeRec_of KX hcd) (hb _ _ _ _ ?_)
  refine wpAny_newFunctionEnv_cells S.kind hkind fun env he s1 xx => ?_
  subst he
  refine ⟨nolim.keeps xx.toInCall.keep, codeAny_func ?_⟩
  have rm := hr.deeper (envOfC ql scope s.heap.objs.size fa cdv)
  let X := cxOf (L2N.CX P.prog P.w) P.prog P.w P.K P.mg P.base N ql scope fa cdv A outer s H E
  have F0 : Fit P (Fn.ga N scope) X := ⟨rfl, rfl, rfl, rfl, rfl, rfl, S.nd, rfl, S.kind, rfl, rfl, hg, rm.hd, by have := rm.un; show (A.deeper (envOfC ql scope s.heap.objs.size fa cdv)).units + 150 < cLine; omega⟩
  have tk0 : L2N.Takes X (fun c d _ H => E c d H) := L2N.takes_of rfl rfl rfl rfl
  have a : AtS P n (zOf P E) (Fn.ga N scope) X := ⟨⟨F0, rm, tk0.imp fun c d σ H ⟨y, S', M', em, hx, z⟩ => z c d hx⟩, passes_of rfl⟩
  have I : L2.Inv X [] (L2.start N vs) H s1 := inv_start S hr.hd e0 hl r xx
  obtain ⟨M, St, ds, em, rv, h⟩ := hsp
  unfold runF at h
  split at h
  case isFalse => exact h.elim
  rename_i hds
  have hq : tSs P G (zOf P E) F.body { nx := fun _ H' => Q .non H', rt := Q } (L2.start N vs) H := by
    refine ⟨M, St, ds.map some ++ List.replicate (F.nn - F.np) none, em, ?_, ?_⟩
    · have q := renv_start (k := F.nn - F.np) rv
      have e : L2.start N vs = vs.map some ++ List.replicate (F.nn - F.np) none := by
        unfold L2.start
        rw [hn, ← hds, rv.length]
      rw [e]
      exact q
    · revert h
      cases exs G P.gi F.body (ds.map some ++ List.replicate (F.nn - F.np) none) St with
      | next ρ S' => exact fun h M' H' σ' e em' rn => fin_ok h e em em' .non
      | ret d S' => exact fun h M' H' v e em' rv' => fin_ok h e em em' rv'
      | exc y S' => exact fun h => h
      | bad => exact fun h => h
  have ht := pss_ok C F.body hc a
  refine wpAny_mono (ht.run [] s1 (L2.start N vs) H _ I hq) (fun fl s' hs => ?_) fun e s' hs => hs
  have fin' : ∀ {σ' : L2.St} {H' : Hp} {v : V} {u : Value}, L2.Inv X [] σ' H' s' → RelV v u → Q v H' → CE outer P.prog P.w H s Q u s' :=
    fun {σ' H' v u} J rv q => ⟨v, H', J.os, J.bare, J.base, J.hok, rv, q⟩
  cases fl with
  | ret u =>
    obtain ⟨v, σ', H', J, rv, q⟩ := hs
    exact fin' J rv q
  | next =>
    obtain ⟨σ', H', J, q⟩ := hs
    exact fin' (v := V.non) (u := Value.none) J rfl q
  | brk =>
    obtain ⟨_, _, _, q⟩ := hs
    exact False.elim q
  | cont =>
    obtain ⟨_, _, _, q⟩ := hs
    exact False.elim q
/-- what is known of a def: where it stands, its body; ds: its defaults -/
structure FnAt (P : Pg) (gt : Gt) (F : Fn) (fa : Addr) (ds : List Int) : Prop where
  ex : ∃ (x ql : Str) (fd : FuncData) (N ps : List Str) (params : Arguments) (body : List Stmt) (scope : Scope) (dvs : List V), FunD P.K x ql params body scope dvs [] fa fd ∧ fnScB N ps scope = true ∧
    (∀ j, j ≤ ds.length → ∃ us, Vals ((ds.drop j).map V.int) us ∧ Binds P.K fd ps us) ∧ F.np = ps.length ∧ F.nn = N.length ∧ chkSs gt F.body (Fn.ga N scope) body = true
/-- what is known of the text's defs -/
structure FnFact (P : Pg) (gt : Gt) (x : Str) (F : Fn) : Prop where
  ex : ∃ (fa : Addr) (fd : FuncData) (N ps : List Str) (params : Arguments) (body : List Stmt) (scope : Scope), P.mg x = some (.ref fa) ∧ FunD P.K x x params body scope [] [] fa fd ∧ fnScB N ps scope = true ∧ Binds P.K fd ps [] ∧ F.np = ps.length ∧ F.nn = N.length ∧ chkSs gt F.body (Fn.ga N scope) body = true
/-- what is known of an own class -/
structure ClsFact (P : Pg) (gt : Gt) (fns : Str → Option Fn) (c : Str) (fs : List Str) (ms : List (Str × List Int)) : Prop where
  mg : P.mg c = some (.ref (P.CA c))
  kp : PySem.W.keepIn P.K (.ref (P.CA c)) = true
  cl : Cls P.K (P.CA c)
  noat : ∀ f ∈ fs, NoAttr P.K (P.CA c) f
  new_ : ∃ f F, Mk P.K (P.CA c) f ∧ fns (c ++ ".__init__") = some F ∧ FnAt P gt F f []
  meth : ∀ m ds, ms.lookup m = some ds → ∃ f F, Meth P.K (P.CA c) m f ∧ fns (c ++ "." ++ m) = some F ∧ FnAt P gt F f ds
structure Tbl (P : Pg) (gt : Gt) (fns : Str → Option Fn) : Prop where
  blt : ∀ x, gt.lookup x = some .blt → P.mg x = none
  int : ∀ x, gt.lookup x = some .int → ∃ i t, P.mg x = some (.int i t) ∧ P.gi x = some i
  fn : ∀ x, gt.lookup x = some .fn → ∃ F, fns x = some F ∧ FnFact P gt x F
  cls : ∀ c fs ms, gt.lookup c = some (.cls fs ms) → ClsFact P gt fns c fs ms
  isg : IsG P gt
theorem callS_eq {gi : Str → Option Int} {fns : Str → Option Fn} {x : Str} {F : Fn} (hF : fns x = some F) (n : Nat) : callS gi fns (n + 1) x = runF (callS gi fns n) gi F := by
  funext ws S
  simp only [callS, hF]
theorem fnG0 {P : Pg} {k : Nat} {fa : Addr} {fd : FuncData} {ps : List Str} {fns : Str → Option Fn} {x : Str} : FnG P.prog P.w P.K P.mg P.base k fa fd ps (spG P (callS P.gi fns 0 x)) :=
  ⟨fun vs H Q E ⟨M, S, ds, em, rv, h⟩ => h.elim, fun A outer s H args us vs Q E hr hg e0 hb r ⟨M, S, ds, em, rv, h⟩ => h.elim⟩
theorem cg_of {P : Pg} {gt : Gt} {fns : Str → Option Fn} (T : Tbl P gt fns) : ∀ n, Cg P n (callS P.gi fns n) gt
  | 0 => ⟨T.blt, T.int, fun x hx => by
    obtain ⟨F, hF, ⟨fa, fd, N, ps, params, body, scope, m1, fu, sc, hb, hp, hn, hc⟩⟩ := T.fn x hx
    exact ⟨fa, fd, ps, m1, fu.kp, hb, fnG0⟩, fun c fs ms hc => by
    obtain ⟨k1, k2, k3, k4, ⟨f, F, q1, q2, ⟨x, ql, fd, N, ps, params, body, scope, dvs, fu, sc, hb, hp, hn, hb2⟩⟩, k6⟩ := T.cls c fs ms hc
    refine ⟨k1, k2, k3, k4, ⟨f, fd, ps, q1, ?_, fnG0⟩, fun m ds hm => ?_⟩
    · obtain ⟨us, v, b⟩ := hb 0 (Nat.le_refl _)
      cases v
      exact b
    · obtain ⟨f, F, q1, q2, ⟨x, ql, fd, N, ps, params, body, scope, dvs, fu, sc, hb, hp, hn, hb2⟩⟩ := k6 m ds hm
      exact ⟨f, fd, ps, q1, fnG0, hb⟩, T.isg⟩
  | n + 1 => ⟨T.blt, T.int, fun x hx => by
    obtain ⟨F, hF, ⟨fa, fd, N, ps, params, body, scope, m1, fu, sc, hb, hp, hn, hc⟩⟩ := T.fn x hx
    refine ⟨fa, fd, ps, m1, fu.kp, hb, ?_⟩
    rw [callS_eq hF]
    exact fn_ofG (cg_of T n) fu sc hp hn hc, fun c fs ms hc => by
    obtain ⟨k1, k2, k3, k4, ⟨f, F, q1, q2, ⟨x, ql, fd, N, ps, params, body, scope, dvs, fu, sc, hb, hp, hn, hb2⟩⟩, k6⟩ := T.cls c fs ms hc
    refine ⟨k1, k2, k3, k4, ⟨f, fd, ps, q1, ?_, ?_⟩, fun m ds hm => ?_⟩
    · obtain ⟨us, v, b⟩ := hb 0 (Nat.le_refl _)
      cases v
      exact b
    · rw [callS_eq q2]
      exact fn_ofG (cg_of T n) fu sc hp hn hb2
    · obtain ⟨f, F, q1, q2, ⟨x, ql, fd, N, ps, params, body, scope, dvs, fu, sc, hb, hp, hn, hb2⟩⟩ := k6 m ds hm
      refine ⟨f, fd, ps, q1, ?_, hb⟩
      rw [callS_eq q2]
      exact fn_ofG (cg_of T n) fu sc hp hn hb2, T.isg⟩
end PL
end

section
set_option Elab.async false
set_option linter.all false
set_option maxRecDepth 100000
set_option maxHeartbeats 2000000
/-! PLT: the law's end. -/
namespace PL
open PySem PySem.Spec PyProof.Rows L2
theorem cx_no {P : Program} {w : World} {H : Hp} {s s' : Shared} {e : Value} (h : L2N.CX P w [] H s (fun _ _ _ => False) e s') : False := by
  obtain ⟨_, _, _, _, _, _, _, _, _, _, _, _, z⟩ := h
  exact z
/-- the law called from outside, where no repr is under way -/
theorem law_callG {P : Program} {w : World} {K : PySem.W.Frag} {mg mb : Str → Option Value} {k : Nat} {fa a : Addr} {fd : FuncData} {x : Str} {sp : Heap → Sp} {s₁ : Shared} {vs : List Value} {ns : List Int}
    (KX : K.In s₁.heap) (gl : s₁.heap.Ns mainGlobals mg) (bl : s₁.heap.Ns builtinsNs mb) (blb : ∀ x : Str, x ≠ "__name__" → mb x = bootBuiltins x) (nolim : s₁.heap.NoLimit) (gens : s₁.gens = #[])
    (la : s₁.heap.get? a = some { cls := .type "list", data := .seq vs.toArray }) (hiv : IntsAre vs ns) (hfit : ns.length ≤ sizeLine) (room : Room k callerA)
    (F : ∀ base : Heap, K.In base → base.Ns mainGlobals mg → FnG P w K mg base k fa fd [x] (sp base)) (binds : ∀ (s : Shared) (u : Value), BindsTo s fd ⟨[u], []⟩ [(x, u)])
    (hsp : ∀ (base : Heap) (H : Hp), (∃ o, H a = some (.frz o (.lst (ns.map V.int)))) ∨ (∀ H' : Hp, SqL K H' a (ns.map V.int)) → sp base [.ref a] H (fun v _ => v = .bl true) fun _ _ _ => False) :
    codeAny (model P w) callerA (.call (.ref fa) ⟨[.ref a], []⟩) (fun r s' => r = .ok (.ret (.bool true)) ∧ OldK s₁.heap s'.heap ∧ s'.os = s₁.os ∧ AllBare s'.gens) s₁ := by
  have vi := vals_ints hiv
  have li := hiv.length
  have go : ∀ H : Hp, ((∃ o, H a = some (.frz o (.lst (ns.map V.int)))) ∨ ∀ H' : Hp, SqL K H' a (ns.map V.int)) → (∀ b, H b = none ∨ ∃ o xs, H b = some (.frz o (.lst xs))) → HOk P w H s₁.heap → (∀ b, H b ≠ none → b = a) → (H a ≠ none → K.lookup a = none) →
      codeAny (model P w) callerA (.call (.ref fa) ⟨[.ref a], []⟩) (fun r s' => r = .ok (.ret (.bool true)) ∧ OldK s₁.heap s'.heap ∧ s'.os = s₁.os ∧ AllBare s'.gens) s₁ := by
    intro H hS hO hok hA hK
    have hid : ∀ {b : Addr} {o : Obj}, s₁.heap.get? b = some o → H b = none → (hidT s₁.heap H).get? b = some o := fun e m => hidT_get e m
    have nod : ∀ {b : Addr} {o : Obj} {es : Array DictEntry} {ep : Nat}, s₁.heap.get? b = some o → o.data = .dict es ep → H b = none := fun {b o es ep} e d => by
      cases q : H b with
      | none => rfl
      | some u =>
        have z := hA b (by rw [q]; exact fun z => nomatch z)
        subst z
        rw [la] at e
        cases e
        cases (show Data.seq vs.toArray _ = Data.dict es ep from d)
    have nsk : ∀ {b : Addr} {m : Str → Option Value}, s₁.heap.Ns b m → (hidT s₁.heap H).Ns b m := fun {b m} ⟨o, es, ep, e, d, r⟩ => ⟨o, es, ep, hid e (nod e d), d, r⟩
    have kin : K.In (hidT s₁.heap H) := fun b o e => hid (KX b o e) (by
      cases q : H b with
      | none => rfl
      | some u =>
        have z := hA b (by rw [q]; exact fun z => nomatch z)
        subst z
        rw [hK (by rw [q]; exact fun z => nomatch z)] at e
        cases e)
    have md : Mod K mg (hidT s₁.heap H) := ⟨kin, nsk gl, ⟨mb, nsk bl, blb⟩, let ⟨mc, h1, h2⟩ := nolim; ⟨mc, nsk h1, h2⟩⟩
    have en : Env0 P w K mg (hidT s₁.heap H) callerA [] s₁ H := ⟨rfl, md, fun b o e => of_hidT e, Nat.le_of_eq (hidT_size _ _), trivial, fun b hb => (by cases hb), hok, .of_eq gens⟩
    refine codeAny_mono ((F _ kin (nsk gl)).run callerA [] s₁ H ⟨[.ref a], []⟩ [.ref a] [.ref a] _ _ room rfl en (binds s₁ (.ref a)) (.cons rfl .nil) (hsp _ H hS)) fun r s' h => ?_
    cases r with
    | error e =>
      exact (cx_no h).elim
    | ok fl =>
      cases fl with
      | next => exact h.elim
      | brk => exact h.elim
      | cont => exact h.elim
      | ret u =>
        obtain ⟨v, H', os, bare, un, hok', r', q⟩ := h
        cases (show v = .bl true from q)
        cases (show u = Value.bool true from r')
        refine ⟨rfl, OldK.of_keep fun b o e => ?_, os, bare⟩
        cases q : H b with
        | none => exact un.keep b o e q (fun z => by cases z) (fun z => by cases z)
        | some u =>
          rcases hO b with z | ⟨ob, xs, z⟩
          · rw [q] at z; cases z
          · obtain ⟨e1, _⟩ := hok b _ z
            obtain ⟨e2, _⟩ := hok' b _ (un.frzs b ob _ z)
            rw [e] at e1
            cases e1
            exact e2
  cases kl : K.lookup a with
  | some o =>
    have e := KX a o kl
    rw [la] at e
    cases e
    exact go (fun _ => none) (.inr fun H' => .inr ⟨_, vs.toArray, _, kl, rfl, rfl, rfl, by rw [List.size_toArray, li]; exact hfit, by simpa using vi⟩) (fun _ => .inl rfl) (fun b u z => by cases z) (fun b z => absurd rfl z) fun z => absurd rfl z
  | none =>
    have ea : ∀ b, (if b = a then some (HO.frz { cls := .type "list", data := .seq vs.toArray } (.lst (ns.map V.int))) else none) ≠ none → b = a := fun b z => by
      by_cases hb : b = a
      · exact hb
      · exact absurd (if_neg hb) z
    refine go (fun b => if b = a then some (.frz { cls := .type "list", data := .seq vs.toArray } (.lst (ns.map V.int))) else none) (.inl ⟨_, if_pos rfl⟩) (fun b => ?_) (fun b u z => ?_) ea fun _ => kl
    · by_cases hb : b = a
      · exact .inr ⟨_, _, if_pos hb⟩
      · exact .inl (if_neg hb)
    · by_cases hb : b = a
      · subst hb
        cases (if_pos rfl).symm.trans z
        exact ⟨la, by rw [List.length_map]; exact hfit, vs, _, vi, la⟩
      · cases (if_neg hb).symm.trans z
theorem walk_ofG {l : PySem.W.OpenLaw} {n k : Nat} {q : Program} {loose : List Str} {XP : (Str → Option Value) → Heap → Prop} {YP : World → Heap → Prop} {d : DefRec} {x : Str}
    (hn : l.most = some n) (hn2 : n ≤ sizeLine) (hdf : d.params.defaults = []) (hr : Room k callerA)
    (F : ∀ (w : World) (mg : Str → Option Value) (fa : Addr) (h : Heap), YP w h → h.Ns mainGlobals mg → mg d.name = some (.ref fa) →
      ∃ (K : PySem.W.Frag) (fd : FuncData) (sp : Heap → Sp), K.In h ∧ (∀ (s : Shared) (u : Value), BindsTo s fd ⟨[u], []⟩ [(x, u)]) ∧
        (∀ (base : Heap) (H : Hp) (a : Addr) (ns : List Int), ns.length ≤ n → (∃ o, H a = some (.frz o (.lst (ns.map V.int)))) ∨ (∀ H' : Hp, SqL K H' a (ns.map V.int)) → sp base [.ref a] H (fun v _ => v = .bl true) fun _ _ _ => False) ∧
        ∀ base : Heap, K.In base → base.Ns mainGlobals mg → FnG l.prog w K mg base k fa fd [x] (sp base)) :
    PySem.W.WalkO q loose XP YP l.row.toRowW d [] (fun f vs => PySem.call f vs) := by
  refine Att.attach_call hn hdf fun w s₀ s₁ mg mb fa o pm cd doc a vs ns G Y ho hd hcd hmg hobj hints hlen hg => ?_
  obtain ⟨K, fd, sp, KX, hb, hsp, hF⟩ := F w mg fa _ Y G.T.g hmg
  exact law_callG KX G.T.g G.T.b G.T.builtins G.T.nolimit hg hobj hints (Nat.le_trans hlen hn2) hr hF hb fun base H hS => hsp base H a ns hlen hS
/-- from the evaluator's answer -/
theorem law_spG {P : Pg} {g : List D → Sto → Out D} {H : Hp} {a : Addr} {ns : List Int} (hT : P.T = []) (hS : (∃ o, H a = some (.frz o (.lst (ns.map V.int)))) ∨ (∀ H' : Hp, SqL P.K H' a (ns.map V.int))) {S' : Sto} (h : g [scr (ns.map .int)] [] = .ok (.bool true) S') :
    spG P g [.ref a] H (fun v _ => v = .bl true) fun _ _ _ => False := by
  have s : ScrAt ⟨[], [], P.K⟩ H a (ns.map V.int) := by
    rcases hS with ⟨o, h⟩ | h
    · exact .inl ⟨o, h, fun z => by rcases z with z | z <;> cases z⟩
    · exact .inr h
  refine ⟨⟨[], [], P.K⟩, [], [scr (ns.map .int)], ⟨rfl, rfl, List.nodup_nil, fun a ha => (by cases ha), fun i a o h => by simp at h, by rw [hT]; exact fun p hp => by cases hp⟩, .cons (.scr s (Rvs.ofInts ns)) .nil, ?_⟩
  rw [h]
  intro M' H' v e em r
  cases r
  rfl
end PL
end

section
set_option Elab.async false
set_option linter.all false
set_option maxRecDepth 100000
set_option maxHeartbeats 2000000
/-! PLU: the law's table from the head's facts. -/
namespace PL
open PySem PySem.Spec PyProof.Rows L2
theorem look_mem {β : Type} {x : Str} {k : β} : ∀ {l : List (Str × β)}, l.lookup x = some k → (x, k) ∈ l
  | [], h => by cases h
  | (y, b) :: l, h => by
    rw [List.lookup_cons] at h
    split at h
    · rename_i e
      have e' : x = y := by simpa using e
      cases h
      rw [e']
      exact List.mem_cons_self
    · exact List.mem_cons_of_mem _ (look_mem h)
def isFree (x : Str) : He.Fa → Bool
  | .free y => decide (x = y)
  | _ => false
def isIntF (gi : Str → Option Int) (x : Str) : He.Fa → Bool
  | .int y i => decide (x = y) && decide (gi x = some i)
  | _ => false
def isGlo (x : Str) : He.Fa → Bool
  | .glo y => decide (x = y)
  | _ => false
def isClF (x : Str) : He.Fa → Bool
  | .cls y => decide (x = y)
  | _ => false
def isMkF (x : Str) : He.Fa → Bool
  | .mkr y => decide (x = y)
  | _ => false
def isNoF (x f : Str) : He.Fa → Bool
  | .noat y g => decide (x = y) && decide (f = g)
  | _ => false
def isMeF (x m : Str) : He.Fa → Bool
  | .meth y k => decide (x = y) && decide (m = k)
  | _ => false
def gtOk (gi : Str → Option Int) (gt : Gt) (fa : List He.Fa) : Bool := gt.all fun p => match p.2 with
  | .blt => fa.any (isFree p.1)
  | .int => fa.any (isIntF gi p.1)
  | .fn => true
  | .cls fs ms => fa.any (isGlo p.1) && fa.any (isClF p.1) && fa.any (isMkF p.1) && fs.all (fun f => fa.any (isNoF p.1 f)) && ms.all (fun m => fa.any (isMeF p.1 m.1))
def pg (P : Program) (w : World) (K : PySem.W.Frag) (mg : Str → Option Value) (base : Heap) (gi : Str → Option Int) : Pg := ⟨P, w, K, mg, base, [], fun c => He.ga K c, gi, fun _ _ _ _ => False⟩
def tyInsB (K : PySem.W.Frag) (C : Addr) : Bool := decide (PySem.W.findIn K (.ref C) "__class__" = some (some (.builtin "object.__class__"))) && decide (PySem.W.specialIn K (.builtin "object.__class__") "__get__" = some (some (.builtin "getset_descriptor.__get__"))) &&
  decide (PySem.W.takesIn K (.builtin "object.__class__") = some true) && decide (PySem.W.mroIn K C (.type "object") = some true)
/-- what more is looked at: the classes' isinstance -/
def exB (gt : Gt) (K : PySem.W.Frag) : Bool := gt.all fun p => match p.2 with
  | .cls _ _ => tyInsB K (He.ga K p.1) && (["NoneType", "bool", "int", "str", "tuple", "list", "dict"] : List String).all (fun t => decide (PySem.W.kitOne K (.type t) (.ref (He.ga K p.1)) = some false)) && decide (PySem.W.kitOne K (.ref (He.ga K p.1)) (.ref (He.ga K p.1)) = some true)
  | _ => true
section
variable {P : Program} {w : World} {K : PySem.W.Frag} {h base : Heap} {mg : Str → Option Value} {gi : Str → Option Int} {gt : Gt} {fns : Str → Option Fn} {fa : List He.Fa} {dl : List He.DefD}
theorem any_fa {f : He.Fa → Bool} (h : fa.any f = true) : ∃ x ∈ fa, f x = true := List.any_eq_true.mp h
theorem tbl_of (X : K.In h) (G : h.Ns mainGlobals mg) (c : He.SaysD fa dl K) (more : exB gt K = true) (ok : gtOk gi gt fa = true) (hf : ∀ p ∈ gt, p.2 = .fn → ∃ F, fns p.1 = some F ∧ FnFact (pg P w K mg base gi) gt p.1 F)
    (hc : ∀ p ∈ gt, ∀ fs ms, p.2 = .cls fs ms → (∃ F, fns (p.1 ++ ".__init__") = some F ∧ FnAt (pg P w K mg base gi) gt F (He.ma K (He.ga K p.1) "__init__") []) ∧
      ∀ q ∈ ms, ∃ F, fns (p.1 ++ "." ++ q.1) = some F ∧ FnAt (pg P w K mg base gi) gt F (He.ma K (He.ga K p.1) q.1) q.2) : Tbl (pg P w K mg base gi) gt fns := by
  refine ⟨fun x hx => ?_, fun x hx => ?_, fun x hx => hf (x, .fn) (look_mem hx) rfl, fun x fs ms hx => ?_, ⟨fun x fs ms hx t ht => ?_, fun x fs ms hx H l dx vfs hl => ?_, fun x fs ms hx => ?_⟩⟩
  · have q := List.all_eq_true.mp ok _ (look_mem hx)
    obtain ⟨f, hm, hf⟩ := List.any_eq_true.mp q
    cases f with
    | free y =>
      have e : x = y := by simpa [isFree] using hf
      subst e
      exact He.free_ok X G (c.facts hm)
    | _ => cases hf
  · have q := List.all_eq_true.mp ok _ (look_mem hx)
    obtain ⟨f, hm, hf⟩ := List.any_eq_true.mp q
    cases f with
    | int y i =>
      have e : x = y ∧ gi x = some i := by simpa [isIntF] using hf
      obtain ⟨rfl, e2⟩ := e
      obtain ⟨t, ht⟩ := He.int_ok X G (c.facts hm)
      exact ⟨i, t, ht, e2⟩
    | _ => cases hf
  · have q := List.all_eq_true.mp ok _ (look_mem hx)
    simp only [Bool.and_eq_true] at q
    obtain ⟨⟨⟨⟨q1, q2⟩, q3⟩, q4⟩, q5⟩ := q
    have g1 : (He.Fa.glo x).ok K = true := by
      obtain ⟨f, hm, hf⟩ := any_fa q1
      cases f with
      | glo y => have e : x = y := by simpa [isGlo] using hf
                 rw [e]; exact c.facts hm
      | _ => cases hf
    have g2 : (He.Fa.cls x).ok K = true := by
      obtain ⟨f, hm, hf⟩ := any_fa q2
      cases f with
      | cls y => have e : x = y := by simpa [isClF] using hf
                 rw [e]; exact c.facts hm
      | _ => cases hf
    have g3 : (He.Fa.mkr x).ok K = true := by
      obtain ⟨f, hm, hf⟩ := any_fa q3
      cases f with
      | mkr y => have e : x = y := by simpa [isMkF] using hf
                 rw [e]; exact c.facts hm
      | _ => cases hf
    obtain ⟨⟨F, f1, f2⟩, f3⟩ := hc _ (look_mem hx) fs ms rfl
    refine ⟨He.glo_ok X G g1, (He.mkr_ok g3).kp, He.cls_ok g2, fun f hf => ?_, ⟨_, F, He.mkr_ok g3, f1, f2⟩, fun m ds hm => ?_⟩
    · obtain ⟨g, hm, hg⟩ := any_fa (List.all_eq_true.mp q4 f hf)
      cases g with
      | noat y k =>
        have e : x = y ∧ f = k := by simpa [isNoF] using hg
        obtain ⟨rfl, rfl⟩ := e
        exact He.noat_ok (c.facts hm)
      | _ => cases hg
    · have hmm := look_mem hm
      obtain ⟨g, hm2, hg⟩ := any_fa (List.all_eq_true.mp q5 _ hmm)
      cases g with
      | meth y k =>
        have e : x = y ∧ m = k := by simpa [isMeF] using hg
        obtain ⟨rfl, rfl⟩ := e
        obtain ⟨F, f1, f2⟩ := f3 _ hmm
        exact ⟨_, F, He.meth_ok (c.facts hm2), f1, f2⟩
      | _ => cases hg
  · have q := List.all_eq_true.mp more _ (look_mem hx)
    simp only [Bool.and_eq_true] at q
    exact of_decide_eq_true (List.all_eq_true.mp q.1.2 t ht)
  · have q := List.all_eq_true.mp more _ (look_mem hx)
    simp only [Bool.and_eq_true] at q
    have q1 := q.1.1
    unfold tyInsB at q1
    simp only [Bool.and_eq_true, decide_eq_true_eq] at q1
    have k := List.all_eq_true.mp ok _ (look_mem hx)
    simp only [Bool.and_eq_true] at k
    have g2 : (He.Fa.cls x).ok K = true := by
      obtain ⟨f, hm, hf⟩ := any_fa k.1.1.1.2
      cases f with
      | cls y => have e : x = y := by simpa [isClF] using hf
                 rw [e]; exact c.facts hm
      | _ => cases hf
    exact .base (.ins hl (He.cls_ok g2) q1.1.1.1 q1.1.1.2 q1.1.2 q1.2)
  · have q := List.all_eq_true.mp more _ (look_mem hx)
    simp only [Bool.and_eq_true] at q
    exact of_decide_eq_true q.2
theorem law_fn {P : Pg} {gt : Gt} {fns : Str → Option Fn} (T : Tbl P gt fns) (n : Nat) {F : Fn} {x : Str} {fa : Addr} {fd : FuncData} {N ps : List Str} {params : Arguments} {body : List Stmt} {scope : Scope} (hF : fns x = some F) (fu : FunD P.K x x params body scope [] [] fa fd) (sc : fnScB N ps scope = true)
    (hp : F.np = ps.length) (hn : F.nn = N.length) (hc : chkSs gt F.body (Fn.ga N scope) body = true) : FnG P.prog P.w P.K P.mg P.base (2 * (n + 1)) fa fd ps (spG P (callS P.gi fns (n + 1) x)) := by
  have e : callS P.gi fns (n + 1) x = runF (callS P.gi fns n) P.gi F := by
    funext ws S
    simp only [callS, hF]
  rw [e]
  exact fn_ofG (cg_of T n) fu sc hp hn hc
end
end PL
end

section
set_option Elab.async false
set_option linter.all false
set_option maxRecDepth 100000
/-! PLV: lemmas to run the evaluator on symbolic data. -/
namespace PL
open PySem
section
variable {gi : Str → Option Int} {fns : Str → Option Fn}
theorem callS_fn {F : Fn} {f : Str} (h : fns f = some F) (n : Nat) (ws : List D) (S : Sto) : callS gi fns (n + 1) f ws S = runF (callS gi fns n) gi F ws S := by
  simp only [callS, h]
end
theorem compL_map {β : Type} {ok : Sto → Prop} {put : D → Option Env} {cond elt : Env → Sto → Out D} {S : Sto} (hok : ok S) (enc : β → D) (p : β → Bool) (f : β → D) : ∀ (xs : List β) (acc : List D),
    (∀ x ∈ xs, ∃ ρ, put (enc x) = some ρ ∧ cond ρ S = .ok (.bool (p x)) S ∧ (p x = true → elt ρ S = .ok (f x) S)) → acc.length + xs.length ≤ lim → compL ok put cond elt (xs.map enc) acc S = .ok (acc ++ (xs.filter p).map f) S
  | [], acc, _, _ => by simp [compL, hok]
  | x :: xs, acc, h, hl => by
    obtain ⟨ρ, e1, e2, e3⟩ := h x List.mem_cons_self
    have hl' : acc.length + (xs.length + 1) ≤ lim := by simpa using hl
    simp only [List.map_cons, compL, if_pos hok, e1, e2]
    by_cases q : p x = true
    · simp only [q]
      rw [e3 q]
      simp only
      rw [if_pos (by omega), compL_map hok enc p f xs _ (fun y hy => h y (List.mem_cons_of_mem _ hy)) (by simp; omega), List.filter_cons_of_pos q]
      simp
    · have q' : p x = false := by simpa using q
      simp only [q']
      rw [compL_map hok enc p f xs _ (fun y hy => h y (List.mem_cons_of_mem _ hy)) (by omega), List.filter_cons_of_neg q]
theorem forL_inv {ok : Sto → Prop} {put : D → Env → Option Env} {body : Env → Sto → SOut} (I : List D → Env → Sto → Prop) (Post : SOut → Prop) (h0 : ∀ ρ S, I [] ρ S → ok S ∧ Post (.next ρ S))
    (hs : ∀ d ds ρ S, I (d :: ds) ρ S → ok S ∧ ∃ ρ', put d ρ = some ρ' ∧ ((∃ ρ2 S2, body ρ' S = .next ρ2 S2 ∧ I ds ρ2 S2) ∨ ∃ x S2, body ρ' S = .ret x S2 ∧ Post (.ret x S2))) :
    ∀ ds ρ S, I ds ρ S → Post (forL ok put body ds ρ S)
  | [], ρ, S, h => by
    obtain ⟨h1, h2⟩ := h0 ρ S h
    simp only [forL, if_pos h1]
    exact h2
  | d :: ds, ρ, S, h => by
    obtain ⟨h1, ρ', e, k⟩ := hs d ds ρ S h
    simp only [forL, if_pos h1, e]
    rcases k with ⟨ρ2, S2, e2, k⟩ | ⟨x, S2, e2, k⟩
    · rw [e2]
      exact forL_inv I Post h0 hs ds ρ2 S2 k
    · rw [e2]
      exact k
theorem fin_pure {S S' : Sto} {d : D} (h : S'.take S.length = S) (hr : refB S.length d = true) : fin .pure S d S' = .ok d S := by
  simp only [fin]
  rw [if_pos ⟨h, hr⟩]
theorem fin_pure1 {S : Sto} {d : D} (hr : refB S.length d = true) : fin .pure S d S = .ok d S := fin_pure (List.take_length) hr
theorem fin_pureA {S T : Sto} {d : D} (hr : refB S.length d = true) : fin .pure S d (S ++ T) = .ok d S := fin_pure (by simp) hr
theorem fin_trunc {S S' : Sto} {d : D} (h1 : S.length ≤ S'.length) (h2 : refB S.length d = true) (h3 : (S'.take S.length).all (refO S.length) = true) : fin .trunc S d S' = .ok d (S'.take S.length) := by
  simp only [fin]
  rw [if_pos ⟨h1, h2, h3⟩]
theorem refBs_map {β : Type} {n : Nat} {f : β → D} (h : ∀ x, refB n (f x) = true) : ∀ xs : List β, refBs n (xs.map f) = true
  | [] => by simp [refBs]
  | x :: xs => by simp [refBs, h x, refBs_map h xs]
@[simp] theorem refB_int (n : Nat) (i : Int) : refB n (.int i) = true := by unfold refB; rfl
@[simp] theorem refB_bool (n : Nat) (i : Bool) : refB n (.bool i) = true := by unfold refB; rfl
@[simp] theorem refB_none (n : Nat) : refB n .none = true := by unfold refB; rfl
@[simp] theorem refB_tuple (n : Nat) (xs : List D) : refB n (.tuple xs) = refBs n xs := by simp [refB]
@[simp] theorem refB_list (n : Nat) (xs : List D) : refB n (.list xs) = refBs n xs := by simp [refB]
@[simp] theorem refBs_nil (n : Nat) : refBs n [] = true := by simp [refBs]
@[simp] theorem refBs_cons (n : Nat) (x : D) (xs : List D) : refBs n (x :: xs) = (refB n x && refBs n xs) := by simp [refBs]
@[simp] theorem refBs_ints (n : Nat) (ns : List Int) : refBs n (ns.map .int) = true := refBs_map (fun _ => refB_int ..) ns
@[simp] theorem refO_ints (n : Nat) (ns : List Int) : refO n (.lst (ns.map .int)) = true := by simp [refO]
/-- the store holds lists of ints alone -/
def SI (S : Sto) : Prop := ∀ o ∈ S, ∃ ns : List Int, o = .lst (ns.map .int)
theorem SI.all {S : Sto} (h : SI S) (n : Nat) : S.all (refO n) = true := List.all_eq_true.mpr fun o ho => by
  obtain ⟨ns, rfl⟩ := h o ho
  simp
theorem SI.set {S : Sto} (h : SI S) (i : Nat) (ns : List Int) : SI (S.set i (.lst (ns.map .int))) := fun o ho => by
  rcases List.mem_or_eq_of_mem_set ho with q | q
  · exact h o q
  · exact ⟨ns, q⟩
theorem SI.app {S : Sto} (h : SI S) (ns : List Int) : SI (S ++ [.lst (ns.map .int)]) := fun o ho => by
  rcases List.mem_append.mp ho with q | q
  · exact h o q
  · exact ⟨ns, by simpa using q⟩
@[simp] theorem intsOf_ints (ns : List Int) : intsOf (ns.map .int) = some ns := by
  induction ns with
  | nil => rfl
  | cons n ns ih => simp [intsOf, ih]
@[simp] theorem boolsOf_bools (ns : List Bool) : boolsOf (ns.map .bool) = some ns := by
  induction ns with
  | nil => rfl
  | cons n ns ih => simp [boolsOf, ih]
@[simp] theorem boolsOf_map {β : Type} (f : β → Bool) (xs : List β) : boolsOf (xs.map fun x => .bool (f x)) = some (xs.map f) := by
  induction xs with
  | nil => rfl
  | cons n ns ih => simp [boolsOf, ih]
@[simp] theorem intsOf_map {β : Type} (f : β → Int) (xs : List β) : intsOf (xs.map fun x => .int (f x)) = some (xs.map f) := by
  induction xs with
  | nil => rfl
  | cons n ns ih => simp [intsOf, ih]
@[simp] theorem asRef_tuple (xs : List D) : asRef (.tuple xs) = none := rfl
@[simp] theorem asRef_list (xs : List D) : asRef (.list xs) = none := rfl
@[simp] theorem asScr_tuple (xs : List D) : asScr (.tuple xs) = none := rfl
@[simp] theorem asScr_list (xs : List D) : asScr (.list xs) = none := rfl
@[simp] theorem asScr_rf (i : Nat) : asScr (rf i) = none := rfl
@[simp] theorem wk_ok_nil (xs : List D) (b : Bool) (S : Sto) : Wk.ok ⟨xs, [], b⟩ S := fun p hp => by cases hp
section
variable {G : Calls} {gi : Str → Option Int}
theorem e_var {i} {ρ : Env} {S : Sto} : ev G gi (.var i) ρ S = (match ρ[i]? with
    | some (some d) => .ok d S
    | _ => .bad) := by first | (rw [ev]; done) | (rw [ev]; rfl)
theorem e_int {i} {ρ : Env} {S : Sto} : ev G gi (.int i) ρ S = .ok (.int i) S := by first | (rw [ev]; done) | (rw [ev]; rfl)
theorem e_bl {b} {ρ : Env} {S : Sto} : ev G gi (.bl b) ρ S = .ok (.bool b) S := by first | (rw [ev]; done) | (rw [ev]; rfl)
theorem e_non {ρ : Env} {S : Sto} : ev G gi (.non) ρ S = .ok .none S := by first | (rw [ev]; done) | (rw [ev]; rfl)
theorem e_str {x} {ρ : Env} {S : Sto} : ev G gi (.str x) ρ S = .ok (.str x) S := by first | (rw [ev]; done) | (rw [ev]; rfl)
theorem e_gint {x} {ρ : Env} {S : Sto} : ev G gi (.gint x) ρ S = (match gi x with
    | some i => .ok (.int i) S
    | none => .bad) := by first | (rw [ev]; done) | (rw [ev]; rfl)
theorem e_tup {es} {ρ : Env} {S : Sto} : ev G gi (.tup es) ρ S = (evs G gi es ρ S).bind fun ws S => if ws.length ≤ lim then .ok (.tuple ws) S else .bad := by first | (rw [ev]; done) | (rw [ev]; rfl)
theorem e_lst {r es} {ρ : Env} {S : Sto} : ev G gi (.lst r es) ρ S = (evs G gi es ρ S).bind fun ws S => allocL r ws S := by first | (rw [ev]; done) | (rw [ev]; rfl)
theorem e_dct {kvs} {ρ : Env} {S : Sto} : ev G gi (.dct kvs) ρ S = .ok (.dict (kvs.map fun p => (.int p.1, .int p.2))) S := by first | (rw [ev]; done) | (rw [ev]; rfl)
theorem e_op {o a b} {ρ : Env} {S : Sto} : ev G gi (.op o a b) ρ S = (ev G gi a ρ S).bind fun x S => (ev G gi b ρ S).bind fun y S => oret (opD S o x y) S := by first | (rw [ev]; done) | (rw [ev]; rfl)
theorem e_neg {a} {ρ : Env} {S : Sto} : ev G gi (.neg a) ρ S = (ev G gi a ρ S).bind fun x S => (match x with
    | .int i => .ok (.int (-i)) S
    | _ => .bad) := by first | (rw [ev]; done) | (rw [ev]; rfl)
theorem e_cm {c a b} {ρ : Env} {S : Sto} : ev G gi (.cm c a b) ρ S = (ev G gi a ρ S).bind fun x S => (ev G gi b ρ S).bind fun y S => oret ((cmD S c x y).map .bool) S := by first | (rw [ev]; done) | (rw [ev]; rfl)
theorem e_ch {c d a b e} {ρ : Env} {S : Sto} : ev G gi (.ch c d a b e) ρ S = (ev G gi a ρ S).bind fun x S => (ev G gi b ρ S).bind fun y S => (match cmD S c x y with
    | some true => (ev G gi e ρ S).bind fun z S => oret ((cmD S d y z).map .bool) S
    | some false => .ok (.bool false) S
    | none => .bad) := by first | (rw [ev]; done) | (rw [ev]; rfl)
theorem e_isN {neg a} {ρ : Env} {S : Sto} : ev G gi (.isN neg a) ρ S = (ev G gi a ρ S).bind fun x S => (match x with
    | .none => .ok (.bool (!neg)) S
    | _ => .ok (.bool neg) S) := by first | (rw [ev]; done) | (rw [ev]; rfl)
theorem e_isB {neg a b} {ρ : Env} {S : Sto} : ev G gi (.isB neg a b) ρ S = (ev G gi a ρ S).bind fun x S => (ev G gi b ρ S).bind fun y S => (match x, y with
    | .bool p, .bool q => .ok (.bool (neg != (p == q))) S
    | _, _ => .bad) := by first | (rw [ev]; done) | (rw [ev]; rfl)
theorem e_and {a b} {ρ : Env} {S : Sto} : ev G gi (.and a b) ρ S = (ev G gi a ρ S).bind fun x S => (match x with
    | .bool true => ev G gi b ρ S
    | .bool false => .ok (.bool false) S
    | _ => .bad) := by first | (rw [ev]; done) | (rw [ev]; rfl)
theorem e_or {a b} {ρ : Env} {S : Sto} : ev G gi (.or a b) ρ S = (ev G gi a ρ S).bind fun x S => (match x with
    | .bool true => .ok (.bool true) S
    | .bool false => ev G gi b ρ S
    | _ => .bad) := by first | (rw [ev]; done) | (rw [ev]; rfl)
theorem e_not {a} {ρ : Env} {S : Sto} : ev G gi (.not a) ρ S = (ev G gi a ρ S).bind fun x S => (match x with
    | .bool b => .ok (.bool (!b)) S
    | _ => .bad) := by first | (rw [ev]; done) | (rw [ev]; rfl)
theorem e_ite {c a b} {ρ : Env} {S : Sto} : ev G gi (.ite c a b) ρ S = (ev G gi c ρ S).bind fun x S => (match x with
    | .bool true => ev G gi a ρ S
    | .bool false => ev G gi b ρ S
    | _ => .bad) := by first | (rw [ev]; done) | (rw [ev]; rfl)
theorem e_ix {a b} {ρ : Env} {S : Sto} : ev G gi (.ix a b) ρ S = (ev G gi a ρ S).bind fun x S => (ev G gi b ρ S).bind fun y S => oret (ixD S x y) S := by first | (rw [ev]; done) | (rw [ev]; rfl)
theorem e_sl {a lo hi} {ρ : Env} {S : Sto} : ev G gi (.sl a lo hi) ρ S = (ev G gi a ρ S).bind fun x S => (evo G gi lo ρ S).bind fun l S => (evo G gi hi ρ S).bind fun h S => oret (slD S x l h) S := by first | (rw [ev]; done) | (rw [ev]; rfl)
theorem e_rev {a} {ρ : Env} {S : Sto} : ev G gi (.rev a) ρ S = (ev G gi a ρ S).bind fun x S => oret (revD S x) S := by first | (rw [ev]; done) | (rw [ev]; rfl)
theorem e_bi {f es} {ρ : Env} {S : Sto} : ev G gi (.bi f es) ρ S = (evs G gi es ρ S).bind fun ws S => biD f ws S := by first | (rw [ev]; done) | (rw [ev]; rfl)
theorem e_isi {a t} {ρ : Env} {S : Sto} : ev G gi (.isi a t) ρ S = (ev G gi a ρ S).bind fun x S => oret ((isiD S x t).map .bool) S := by first | (rw [ev]; done) | (rw [ev]; rfl)
theorem e_call {f es} {ρ : Env} {S : Sto} : ev G gi (.call f es) ρ S = (evs G gi es ρ S).bind fun ws S => G f ws S := by first | (rw [ev]; done) | (rw [ev]; rfl)
theorem e_new {c es} {ρ : Env} {S : Sto} : ev G gi (.new c es) ρ S = (evs G gi es ρ S).bind fun ws S => (G (c ++ ".__init__") (rf S.length :: ws) (S ++ [.ins c []])).bind fun r S1 => (match r with
    | .none => .ok (rf S.length) S1
    | _ => .bad) := by first | (rw [ev]; done) | (rw [ev]; rfl)
theorem e_meth {o c m es} {ρ : Env} {S : Sto} : ev G gi (.meth o c m es) ρ S = (ev G gi o ρ S).bind fun x S => (match (asRef x).bind (insD S) with
    | some (c', fs) => if c' = c ∧ fs.lookup m = none then (evs G gi es ρ S).bind fun ws S => G (c ++ "." ++ m) (x :: ws) S else .bad
    | none => .bad) := by first | (rw [ev]; done) | (rw [ev]; rfl)
theorem e_fld {o c f} {ρ : Env} {S : Sto} : ev G gi (.fld o c f) ρ S = (ev G gi o ρ S).bind fun x S => oret (fldD S x c f) S := by first | (rw [ev]; done) | (rw [ev]; rfl)
theorem e_bm {o m es} {ρ : Env} {S : Sto} : ev G gi (.bm o m es) ρ S = (ev G gi o ρ S).bind fun x S => if kdD S m x = true then (evs G gi es ρ S).bind fun ws S => bmD m x ws S else .bad := by first | (rw [ev]; done) | (rw [ev]; rfl)
theorem e_fstr {es} {ρ : Env} {S : Sto} : ev G gi (.fstr es) ρ S = (evs G gi es ρ S).bind fun ws S => oret ((textsD ws).map .str) S := by first | (rw [ev]; done) | (rw [ev]; rfl)
theorem e_frz {e} {ρ : Env} {S : Sto} : ev G gi (.frz e) ρ S = (ev G gi e ρ S).bind fun x S => frzD x S := by first | (rw [ev]; done) | (rw [ev]; rfl)
theorem e_said {e} {ρ : Env} {S : Sto} : ev G gi (.said e) ρ S = (ev G gi e ρ S).bind fun _ _ => .bad := by first | (rw [ev]; done) | (rw [ev]; rfl)
theorem e_sset {r e} {ρ : Env} {S : Sto} : ev G gi (.sset r e) ρ S = (ev G gi e ρ S).bind fun x S => oallo r (sortedSetD S x) S := by first | (rw [ev]; done) | (rw [ev]; rfl)
theorem e_tupR {e} {ρ : Env} {S : Sto} : ev G gi (.tupR e) ρ S = (ev G gi e ρ S).bind fun x S => (match x with
    | .int i => if 0 ≤ i ∧ i ≤ 16777216 then .ok (.tuple (rangeL i)) S else .bad
    | _ => .bad) := by first | (rw [ev]; done) | (rw [ev]; rfl)
theorem e_never {ρ : Env} {S : Sto} : ev G gi (.never) ρ S = .bad := by first | (rw [ev]; done) | (rw [ev]; rfl)
theorem x_asg {t e} {ρ : Env} {S : Sto} : ex G gi (.asg t e) ρ S = (ev G gi e ρ S).st fun d S => asg G gi t d ρ S := by first | (rw [ex]; done) | (rw [ex]; rfl)
theorem x_expr {e} {ρ : Env} {S : Sto} : ex G gi (.expr e) ρ S = (ev G gi e ρ S).st fun _ S => .next ρ S := by first | (rw [ex]; done) | (rw [ex]; rfl)
theorem x_ret {e} {ρ : Env} {S : Sto} : ex G gi (.ret e) ρ S = (ev G gi e ρ S).st fun d S => .ret d S := by first | (rw [ex]; done) | (rw [ex]; rfl)
theorem x_retN {ρ : Env} {S : Sto} : ex G gi (.retN) ρ S = .ret .none S := by first | (rw [ex]; done) | (rw [ex]; rfl)
theorem x_ite {c a b} {ρ : Env} {S : Sto} : ex G gi (.ite c a b) ρ S = (ev G gi c ρ S).st fun x S => (match x with
    | .bool true => exs G gi a ρ S
    | .bool false => exs G gi b ρ S
    | _ => .bad) := by first | (rw [ex]; done) | (rw [ex]; rfl)
theorem x_raise {c es} {ρ : Env} {S : Sto} : ex G gi (.raise c es) ρ S = (evs G gi es ρ S).st fun _ S => .exc ⟨c, none⟩ S := by first | (rw [ex]; done) | (rw [ex]; rfl)
theorem x_tryN {body handler} {ρ : Env} {S : Sto} : ex G gi (.tryN body handler) ρ S = (match exs G gi body ρ S with
    | .exc _ S => exs G gi handler (ρ.map fun _ => none) S
    | r => r) := by first | (rw [ex]; done) | (rw [ex]; rfl)
theorem x_pass {ρ : Env} {S : Sto} : ex G gi (.pass) ρ S = .next ρ S := by first | (rw [ex]; done) | (rw [ex]; rfl)
theorem x_never {ρ : Env} {S : Sto} : ex G gi (.never) ρ S = .bad := by first | (rw [ex]; done) | (rw [ex]; rfl)
theorem x_nil {ρ : Env} {S : Sto} : exs G gi [] ρ S = .next ρ S := by first | (rw [exs]; done) | (rw [exs]; rfl)
theorem x_cons {s : St} {r : List St} {ρ : Env} {S : Sto} : exs G gi (s :: r) ρ S = (ex G gi s ρ S).seq fun ρ S => exs G gi r ρ S := by first | (rw [exs]; done) | (rw [exs]; rfl)
theorem es_nil {ρ : Env} {S : Sto} : evs G gi [] ρ S = .ok [] S := by first | (rw [evs]; done) | (rw [evs]; rfl)
theorem es_cons {e : E} {es : List E} {ρ : Env} {S : Sto} : evs G gi (e :: es) ρ S = (ev G gi e ρ S).bind fun w S => (evs G gi es ρ S).bind fun ws S => .ok (w :: ws) S := by first | (rw [evs]; done) | (rw [evs]; rfl)
theorem eo_none {ρ : Env} {S : Sto} : evo G gi none ρ S = .ok none S := by first | (rw [evo]; done) | (rw [evo]; rfl)
theorem eo_some {e : E} {ρ : Env} {S : Sto} : evo G gi (some e) ρ S = (ev G gi e ρ S).bind fun x S => (match x with
    | .int i => .ok (some i) S
    | _ => .bad) := by first | (rw [evo]; done) | (rw [evo]; rfl)
theorem ec_none {ρ : Env} {S : Sto} : evc G gi none ρ S = .ok (.bool true) S := by first | (rw [evc]; done) | (rw [evc]; rfl)
theorem ec_some {e : E} {ρ : Env} {S : Sto} : evc G gi (some e) ρ S = ev G gi e ρ S := by first | (rw [evc]; done) | (rw [evc]; rfl)
theorem a_name {i : Nat} {d : D} {ρ : Env} {S : Sto} : asg G gi (.name i) d ρ S = if i < ρ.length then .next (ρ.set i (some d)) S else .bad := by first | (rw [asg]; done) | (rw [asg]; rfl)
theorem a_tup {ts : List T} {ds : List D} {ρ : Env} {S : Sto} : asg G gi (.tup ts) (.tuple ds) ρ S = if ts.length = ds.length then asgs G gi ts ds ρ S else .bad := by first | (rw [asg]; done) | (rw [asg]; rfl)
theorem a_sub {o i : E} {d : D} {ρ : Env} {S : Sto} : asg G gi (.sub o i) d ρ S = (ev G gi o ρ S).st fun x S => (ev G gi i ρ S).st fun y S => (match setD S x y d with
    | some S => .next ρ S
    | none => .bad) := by first | (rw [asg]; done) | (rw [asg]; rfl)
theorem as_nil {ρ : Env} {S : Sto} : asgs G gi [] [] ρ S = .next ρ S := by first | (rw [asgs]; done) | (rw [asgs]; rfl)
theorem as_cons {t : T} {ts : List T} {d : D} {ds : List D} {ρ : Env} {S : Sto} : asgs G gi (t :: ts) (d :: ds) ρ S = (asg G gi t d ρ S).seq fun ρ S => asgs G gi ts ds ρ S := by first | (rw [asgs]; done) | (rw [asgs]; rfl)
theorem p_name {i : Nat} {d : D} {ρ : Env} : putT (.name i) d ρ = if i < ρ.length then some (ρ.set i (some d)) else none := by first | (rw [putT]; done) | (rw [putT]; rfl)
theorem p_tup {ts : List Tg} {ds : List D} {ρ : Env} : putT (.tup ts) (.tuple ds) ρ = putTs ts ds ρ := by first | (rw [putT]; done) | (rw [putT]; rfl)
theorem ps_nil {ρ : Env} : putTs [] [] ρ = some ρ := by first | (rw [putTs]; done) | (rw [putTs]; rfl)
theorem ps_cons {t : Tg} {ts : List Tg} {d : D} {ds : List D} {ρ : Env} : putTs (t :: ts) (d :: ds) ρ = (match putT t d ρ with
    | some ρ' => putTs ts ds ρ'
    | none => none) := by first | (rw [putTs]; done) | (rw [putTs]; rfl)
/-- a comprehension over items that stand still -/
theorem ev_comp {β : Type} {r : Bool} {elt : E} {own : List Nat} {tg : Tg} {it : I} {cond : Option E} {ρ : Env} {S : Sto} {w : Wk} (xs : List β) (enc : β → D) (p : β → Bool) (f : β → D) (en : β → Env) (hi : evi G gi it ρ S = .ok w S) (hw : w.items = xs.map enc) (hok : w.ok S) (hn : (w.pr && isNm tg) = false)
    (h : ∀ x ∈ xs, putT tg (enc x) (wipe ρ own) = some (en x) ∧ evc G gi cond (en x) S = .ok (.bool (p x)) S ∧ (p x = true → ev G gi elt (en x) S = .ok (f x) S)) (hl : xs.length ≤ lim) :
    ev G gi (.comp r elt own tg it cond) ρ S = allocL r ((xs.filter p).map f) S := by
  rw [ev, hi]
  simp only [Out.bind_ok, hn]
  rw [hw, compL_map hok enc p f xs [] (fun x hx => ⟨_, h x hx⟩) (by simpa using hl)]
  simp
theorem ev_compF {β : Type} {elt : E} {own : List Nat} {tg : Tg} {it : I} {cond : Option E} {ρ : Env} {S : Sto} {w : Wk} (xs : List β) (enc : β → D) (p : β → Bool) (f : β → D) (en : β → Env) (hi : evi G gi it ρ S = .ok w S) (hw : w.items = xs.map enc) (hok : w.ok S) (hn : (w.pr && isNm tg) = false)
    (h : ∀ x ∈ xs, putT tg (enc x) (wipe ρ own) = some (en x) ∧ evc G gi cond (en x) S = .ok (.bool (p x)) S ∧ (p x = true → ev G gi elt (en x) S = .ok (f x) S)) (hl : xs.length ≤ lim) :
    ev G gi (.comp false elt own tg it cond) ρ S = .ok (.list ((xs.filter p).map f)) S := by
  rw [ev_comp xs enc p f en hi hw hok hn h hl]
  unfold allocL
  rw [if_pos (by rw [List.length_map]; exact Nat.le_trans (List.length_filter_le _ _) hl)]
  simp
theorem ei_seqT {e : E} {ρ : Env} {S : Sto} {ds : List D} (h : ev G gi e ρ S = .ok (.tuple ds) S) : evi G gi (.seq e) ρ S = .ok ⟨ds, [], false⟩ S := by
  rw [evi, h]; rfl
theorem ei_seqL {e : E} {ρ : Env} {S : Sto} {ds : List D} (h : ev G gi e ρ S = .ok (.list ds) S) : evi G gi (.seq e) ρ S = .ok ⟨ds, [], false⟩ S := by
  rw [evi, h]; rfl
theorem ei_range {e : E} {ρ : Env} {S : Sto} {i : Int} (h : ev G gi e ρ S = .ok (.int i) S) (c : -bigD / 4 ≤ i ∧ i < bigD / 4) : evi G gi (.range e) ρ S = .ok ⟨rangeL i, [], false⟩ S := by
  rw [evi, h]
  simp only [Out.bind_ok]
  rw [if_pos c]
theorem ei_enumT {e : E} {ρ : Env} {S : Sto} {ds : List D} (h : ev G gi e ρ S = .ok (.tuple ds) S) : evi G gi (.enum e) ρ S = .ok ⟨enumL 0 ds, [], true⟩ S := by
  rw [evi, h]; rfl
theorem ei_zipT {a b : E} {ρ : Env} {S : Sto} {ds es : List D} (h : ev G gi a ρ S = .ok (.tuple ds) S) (h2 : ev G gi b ρ S = .ok (.tuple es) S) : evi G gi (.zip a b) ρ S = .ok ⟨zipL ds es, [], true⟩ S := by
  rw [evi, h, Out.bind_ok, h2]; rfl
theorem x_for {tg : Tg} {it : I} {body : List St} {ρ : Env} {S S' : Sto} {w : Wk} (hi : evi G gi it ρ S = .ok w S') (hn : (w.pr && isNm tg) = false) : ex G gi (.for_ tg it body) ρ S = forL w.ok (putT tg) (fun ρ S => exs G gi body ρ S) w.items ρ S' := by
  rw [ex, hi]
  show (if (w.pr && isNm tg) = true then _ else _) = _
  rw [if_neg (by rw [hn]; exact Bool.false_ne_true)]
end
@[simp] theorem filter_true {β : Type} (xs : List β) : xs.filter (fun _ => true) = xs := List.filter_eq_self.mpr fun _ _ => rfl
theorem atI_nat {β : Type} (xs : List β) (i : Nat) : L2.atI xs (i : Int) = xs[i]? := by
  unfold L2.atI L2.ixN
  by_cases h : i < xs.length
  · simp [h]
  · simp [h]
@[simp] theorem atI_0 {β : Type} (xs : List β) : L2.atI xs 0 = xs[0]? := atI_nat xs 0
@[simp] theorem atI_1 {β : Type} (xs : List β) : L2.atI xs 1 = xs[1]? := atI_nat xs 1
@[simp] theorem atI_2 {β : Type} (xs : List β) : L2.atI xs 2 = xs[2]? := atI_nat xs 2
@[simp] theorem ixS_rf (S : Sto) (j : Nat) (i : Int) : ixS S (rf j) i = (objL S j).bind fun xs => L2.atI xs i := rfl
@[simp] theorem ixS_tup (S : Sto) (xs : List D) (i : Int) : ixS S (.tuple xs) i = L2.atI xs i := rfl
@[simp] theorem ixS_list (S : Sto) (xs : List D) (i : Int) : ixS S (.list xs) i = L2.atI xs i := rfl
@[simp] theorem ixS_scr (S : Sto) (xs : List D) (i : Int) : ixS S (scr xs) i = L2.atI xs i := rfl
@[simp] theorem lenD_rf (S : Sto) (j : Nat) : lenD S (rf j) = (objL S j).map fun xs => .int xs.length := rfl
@[simp] theorem lenD_tup (S : Sto) (xs : List D) : lenD S (.tuple xs) = some (.int xs.length) := rfl
@[simp] theorem lenD_list (S : Sto) (xs : List D) : lenD S (.list xs) = some (.int xs.length) := rfl
@[simp] theorem lenD_scr (S : Sto) (xs : List D) : lenD S (scr xs) = some (.int xs.length) := rfl
@[simp] theorem objL_app0 (S : Sto) (xs : List D) (T : Sto) : objL (S ++ .lst xs :: T) S.length = some xs := objL_of (by simp)
@[simp] theorem objL_app1 (S : Sto) (xs : List D) (o : O) (T : Sto) : objL (S ++ o :: .lst xs :: T) (S.length + 1) = some xs := objL_of (by simp [List.getElem?_append_right])
@[simp] theorem set_app0 (S : Sto) (a b : O) (T : Sto) : (S ++ a :: T).set S.length b = S ++ b :: T := by simp [List.set_append]
@[simp] theorem set_app1 (S : Sto) (a b c : O) (T : Sto) : (S ++ a :: b :: T).set (S.length + 1) c = S ++ a :: c :: T := by simp [List.set_append]
theorem ixN_nat {n i : Nat} (h : i < n) : L2.ixN n (i : Int) = some i := by
  unfold L2.ixN
  simp [h]
@[simp] theorem kdX_tup (xs : List D) : kdX (.tuple xs) = .tuple := rfl
@[simp] theorem kdX_list (xs : List D) : kdX (.list xs) = .list := rfl
@[simp] theorem kdX_rf (i : Nat) : kdX (rf i) = .list := rfl
@[simp] theorem kdX_str (x : Str) : kdX (.str x) = .str := rfl
theorem forL_next {ok : Sto → Prop} {put : D → Env → Option Env} {body : Env → Sto → SOut} {d : D} {ds : List D} {ρ ρ' : Env} {S : Sto} (ρ2 : Env) (S2 : Sto) (h1 : ok S) (h2 : put d ρ = some ρ') (h3 : body ρ' S = .next ρ2 S2) :
    forL ok put body (d :: ds) ρ S = forL ok put body ds ρ2 S2 := by
  simp only [forL]
  rw [if_pos h1, h2]
  simp only [h3, SOut.seq_next]
theorem forL_ret {ok : Sto → Prop} {put : D → Env → Option Env} {body : Env → Sto → SOut} {d : D} {ds : List D} {ρ ρ' : Env} {S : Sto} (x : D) (S2 : Sto) (h1 : ok S) (h2 : put d ρ = some ρ') (h3 : body ρ' S = .ret x S2) :
    forL ok put body (d :: ds) ρ S = .ret x S2 := by
  simp only [forL]
  rw [if_pos h1, h2]
  simp only [h3, SOut.seq_ret]
theorem forL_nil {ok : Sto → Prop} {put : D → Env → Option Env} {body : Env → Sto → SOut} {ρ : Env} {S : Sto} (h1 : ok S) : forL ok put body [] ρ S = .next ρ S := by
  simp only [forL]
  rw [if_pos h1]
@[simp] theorem tupD_rf (S : Sto) (j : Nat) : tupD S (rf j) = (objL S j).map .tuple := rfl
@[simp] theorem tupD_tup (S : Sto) (xs : List D) : tupD S (.tuple xs) = some (.tuple xs) := rfl
@[simp] theorem tupD_list (S : Sto) (xs : List D) : tupD S (.list xs) = some (.tuple xs) := rfl
end PL
end

section
set_option Elab.async false
set_option linter.all false
set_option maxRecDepth 100000
set_option maxHeartbeats 0
namespace K33
open PySem PySem.W PySem.Spec PyProof.Rows L2 PL
def f_is_whole : Fn := { np := 1, nn := 1, md := .pure, body := [.ret (.and (.isi (.var 0) .int) (.not (.isi (.var 0) .bool)))] }
def f_is_from_to : Fn := { np := 3, nn := 3, md := .pure, body := [.ret (.and (.call "is_whole" [.var 0]) (.ch .le .le (.var 1) (.var 0) (.var 2)))] }
def f_is_day : Fn := { np := 1, nn := 1, md := .pure, body := [.ret (.call "is_from_to" [.var 0, .int 0, .op .sub (.gint "MOST_DAYS") (.int 1)])] }
def f_are_rising : Fn := { np := 1, nn := 3, md := .pure, body := [.ret (.bi .all [.comp false (.cm .lt (.var 1) (.var 2)) [1, 2] (.tup [.name 1, .name 2]) (.zip (.var 0) (.sl (.var 0) (some (.int 1)) none)) none])] }
def f_is_card : Fn := { np := 1, nn := 1, md := .pure, body := [.ite (.or (.not (.isi (.var 0) .tuple)) (.or (.cm .ne (.bi .len [.var 0]) (.int 3)) (.or (.not (.call "is_day" [.ix (.var 0) (.int 0)])) (.not (.call "is_day" [.ix (.var 0) (.int 1)]))))) [.ret (.bl false)] [],
  .ret (.and (.cm .le (.ix (.var 0) (.int 0)) (.ix (.var 0) (.int 1))) (.call "is_from_to" [.ix (.var 0) (.int 2), .int 1, .gint "MOST_TURNS"]))] }
def f_are_cards : Fn := { np := 1, nn := 2, md := .pure, body := [.ret (.and (.isi (.var 0) .tuple) (.and (.cm .le (.bi .len [.var 0]) (.gint "MOST_CARDS")) (.bi .all [.comp false (.call "is_card" [.var 1]) [1] (.name 1) (.seq (.var 0)) none])))] }
def f_are_comings : Fn := { np := 1, nn := 4, md := .pure, body := [.ite (.or (.not (.isi (.var 0) .tuple)) (.or (.cm .gt (.bi .len [.var 0]) (.gint "MOST_COMINGS")) (.not (.bi .all [.comp false (.call "is_day" [.var 3]) [3] (.name 3) (.seq (.var 0)) none])))) [.ret (.bl false)] [],
  .ret (.bi .all [.comp false (.cm .le (.var 1) (.var 2)) [1, 2] (.tup [.name 1, .name 2]) (.zip (.var 0) (.sl (.var 0) (some (.int 1)) none)) none])] }
def f_need_both : Fn := { np := 2, nn := 2, md := .pure, body := [.ite (.not (.call "are_cards" [.var 0])) [.never] [],
  .ite (.not (.call "are_comings" [.var 1])) [.never] []] }
def f_is_valid : Fn := { np := 2, nn := 2, md := .pure, body := [.ret (.ch .le .le (.ix (.var 0) (.int 0)) (.var 1) (.ix (.var 0) (.int 1)))] }
def f_is_taking : Fn := { np := 3, nn := 6, md := .pure, body := [.expr (.call "need_both" [.var 0, .var 1]),
  .ite (.or (.not (.isi (.var 2) .tuple)) (.cm .ne (.bi .len [.var 2]) (.bi .len [.var 1]))) [.ret (.bl false)] [],
  .for_ (.tup [.name 3, .name 4]) (.zip (.var 2) (.var 1)) [.ite (.isN true (.var 3)) [.ite (.or (.not (.call "is_from_to" [.var 3, .int 0, .op .sub (.bi .len [.var 0]) (.int 1)])) (.not (.call "is_valid" [.ix (.var 0) (.var 3), .var 4]))) [.ret (.bl false)] []] []],
  .ret (.bi .all [.comp false (.cm .le (.bm (.var 2) .count [.var 3]) (.ix (.var 5) (.int 2))) [3, 5] (.tup [.name 3, .name 5]) (.enum (.var 0)) none])] }
def f_best_card : Fn := { np := 3, nn := 6, md := .pure, body := [.asg (.name 3) (.non),
  .for_ (.tup [.name 4, .name 5]) (.enum (.var 0)) [.ite (.and (.cm .gt (.ix (.var 1) (.var 4)) (.int 0)) (.call "is_valid" [.var 5, .var 2])) [.ite (.or (.isN false (.var 3)) (.cm .lt (.ix (.var 5) (.int 1)) (.ix (.ix (.var 0) (.var 3)) (.int 1)))) [.asg (.name 3) (.var 4)] []] []],
  .ret (.var 3)] }
def f_taking_of : Fn := { np := 2, nn := 7, md := .pure, body := [.asg (.name 2) (.comp true (.ix (.var 6) (.int 2)) [6] (.name 6) (.seq (.var 0)) none),
  .asg (.name 3) (.lst true []),
  .for_ (.name 4) (.seq (.var 1)) [.asg (.name 5) (.call "best_card" [.var 0, .var 2, .var 4]),
  .ite (.isN true (.var 5)) [.asg (.sub (.var 2) (.var 5)) (.op .sub (.ix (.var 2) (.var 5)) (.int 1))] [],
  .expr (.bm (.var 3) .append [.var 5])],
  .ret (.bi .tuple [.var 3])] }
def f_lost_in : Fn := { np := 2, nn := 2, md := .pure, body := [.ret (.bm (.call "taking_of" [.var 0, .var 1]) .count [.non])] }
def f_lost : Fn := { np := 2, nn := 2, md := .pure, body := [.expr (.call "need_both" [.var 0, .var 1]),
  .ret (.call "lost_in" [.var 0, .var 1])] }
def f_worth_of : Fn := { np := 3, nn := 7, md := .pure, body := [.asg (.name 3) (.bi .len [.comp false (.var 6) [6] (.name 6) (.seq (.var 1)) (some (.cm .in_ (.var 6) (.var 2)))]),
  .asg (.name 4) (.comp false (.ix (.var 5) (.int 2)) [5] (.name 5) (.seq (.var 0)) (some (.bi .any [.comp false (.call "is_valid" [.var 5, .var 6]) [6] (.name 6) (.seq (.var 2)) none]))),
  .ret (.bi .max2 [.int 0, .op .sub (.var 3) (.bi .sum [.var 4])])] }
def f_is_paper : Fn := { np := 1, nn := 2, md := .pure, body := [.ret (.and (.isi (.var 0) .tuple) (.and (.bi .all [.comp false (.call "is_day" [.var 1]) [1] (.name 1) (.seq (.var 0)) none]) (.call "are_rising" [.var 0])))] }
def f_shown_by : Fn := { np := 3, nn := 3, md := .pure, body := [.expr (.call "need_both" [.var 0, .var 1]),
  .ret (.ite (.call "is_paper" [.var 2]) (.call "worth_of" [.var 0, .var 1, .var 2]) (.non))] }
def f_reached_from : Fn := { np := 3, nn := 11, md := .keep, body := [.asg (.name 3) (.sset true (.comp false (.var 5) [5, 6] (.tup [.name 5, .name 6]) (.zip (.var 1) (.var 2)) (some (.isN false (.var 6))))),
  .asg (.name 4) (.int 0),
  .while_ (.cm .lt (.var 4) (.bi .len [.var 3])) [.asg (.name 5) (.ix (.var 3) (.var 4)),
  .for_ (.tup [.name 6, .name 7]) (.enum (.var 0)) [.ite (.call "is_valid" [.var 7, .var 5]) [.asg (.name 8) (.comp false (.var 9) [9, 10] (.tup [.name 9, .name 10]) (.zip (.var 1) (.var 2)) (some (.cm .eq (.var 10) (.var 6)))),
  .expr (.bm (.var 3) .extend [.comp false (.var 9) [9] (.name 9) (.seq (.sset false (.var 8))) (some (.cm .nin (.var 9) (.var 3)))])] []],
  .asg (.name 4) (.op .add (.var 4) (.int 1))],
  .ret (.var 3)] }
def f_paper_in : Fn := { np := 2, nn := 2, md := .pure, body := [.ret (.bi .tuple [.bi (.sorted false) [.call "reached_from" [.var 0, .var 1, .call "taking_of" [.var 0, .var 1]]]])] }
def f_room_in : Fn := { np := 3, nn := 5, md := .pure, body := [.asg (.tup [.name 3, .name 4]) (.tup [.call "lost_in" [.var 0, .var 1], .int 0]),
  .while_ (.cm .eq (.call "lost_in" [.var 0, .bi .tuple [.bi (.sorted false) [.op .add (.var 1) (.op .mul (.tup [.var 2]) (.op .add (.var 4) (.int 1)))]]]) (.var 3)) [.asg (.name 4) (.op .add (.var 4) (.int 1))],
  .ret (.var 4)] }
def f_need_day : Fn := { np := 1, nn := 1, md := .pure, body := [.ite (.not (.call "is_day" [.var 0])) [.never] []] }
def f_Purse___init__ : Fn := { np := 1, nn := 1, md := .keep, body := [.asg (.fld (.var 0) "Purse" "own") (.tup []),
  .asg (.fld (.var 0) "Purse" "gone_to") (.tup []),
  .asg (.fld (.var 0) "Purse" "past") (.lst true [])] }
def f_Purse_turn : Fn := { np := 3, nn := 3, md := .trunc, body := [.expr (.bm (.fld (.var 0) "Purse" "past") .append [.tup [.fld (.var 0) "Purse" "own", .fld (.var 0) "Purse" "gone_to"]]),
  .asg (.fld (.var 0) "Purse" "own") (.var 1),
  .asg (.fld (.var 0) "Purse" "gone_to") (.var 2)] }
def f_Purse_buy : Fn := { np := 4, nn := 4, md := .trunc, body := [.ite (.not (.call "is_card" [.tup [.var 1, .var 2, .var 3]])) [.never] [],
  .ite (.cm .eq (.bi .len [.fld (.var 0) "Purse" "own"]) (.gint "MOST_CARDS")) [.never] [],
  .expr (.meth (.var 0) "Purse" "turn" [.op .add (.fld (.var 0) "Purse" "own") (.tup [.tup [.var 1, .var 2, .var 3]]), .fld (.var 0) "Purse" "gone_to"]),
  .ret (.op .sub (.bi .len [.fld (.var 0) "Purse" "own"]) (.int 1))] }
def f_Purse_come : Fn := { np := 3, nn := 3, md := .trunc, body := [.expr (.call "need_day" [.var 1]),
  .ite (.not (.call "is_from_to" [.var 2, .int 1, .gint "MOST_COMINGS"])) [.never] [],
  .ite (.cm .gt (.op .add (.bi .len [.fld (.var 0) "Purse" "gone_to"]) (.var 2)) (.gint "MOST_COMINGS")) [.never] [],
  .expr (.meth (.var 0) "Purse" "turn" [.fld (.var 0) "Purse" "own", .bi .tuple [.bi (.sorted false) [.op .add (.fld (.var 0) "Purse" "gone_to") (.op .mul (.tup [.var 1]) (.var 2))]]])] }
def f_Purse_miss : Fn := { np := 2, nn := 3, md := .trunc, body := [.expr (.call "need_day" [.var 1]),
  .ite (.cm .nin (.var 1) (.fld (.var 0) "Purse" "gone_to")) [.never] [],
  .asg (.name 2) (.bm (.fld (.var 0) "Purse" "gone_to") .index [.var 1]),
  .expr (.meth (.var 0) "Purse" "turn" [.fld (.var 0) "Purse" "own", .op .add (.sl (.fld (.var 0) "Purse" "gone_to") none (some (.var 2))) (.sl (.fld (.var 0) "Purse" "gone_to") (some (.op .add (.var 2) (.int 1))) none)])] }
def f_Purse_undo : Fn := { np := 1, nn := 1, md := .trunc, body := [.ite (.cm .eq (.fld (.var 0) "Purse" "past") (.lst false [])) [.never] [],
  .asg (.tup [.fld (.var 0) "Purse" "own", .fld (.var 0) "Purse" "gone_to"]) (.bm (.fld (.var 0) "Purse" "past") .pop [])] }
def f_Purse_days : Fn := { np := 1, nn := 1, md := .pure, body := [.ret (.fld (.var 0) "Purse" "gone_to")] }
def f_Purse_taken : Fn := { np := 1, nn := 1, md := .pure, body := [.ret (.call "taking_of" [.fld (.var 0) "Purse" "own", .fld (.var 0) "Purse" "gone_to"])] }
def f_Purse_lost : Fn := { np := 1, nn := 1, md := .pure, body := [.ret (.call "lost_in" [.fld (.var 0) "Purse" "own", .fld (.var 0) "Purse" "gone_to"])] }
def f_Purse_paper : Fn := { np := 1, nn := 1, md := .pure, body := [.ret (.call "paper_in" [.fld (.var 0) "Purse" "own", .fld (.var 0) "Purse" "gone_to"])] }
def f_Purse_room : Fn := { np := 2, nn := 2, md := .pure, body := [.expr (.call "need_day" [.var 1]),
  .ret (.call "room_in" [.fld (.var 0) "Purse" "own", .fld (.var 0) "Purse" "gone_to", .var 1])] }
def f_Purse_left : Fn := { np := 1, nn := 4, md := .pure, body := [.asg (.name 1) (.meth (.var 0) "Purse" "taken" []),
  .ret (.comp false (.op .sub (.ix (.var 3) (.int 2)) (.bm (.var 1) .count [.var 2])) [2, 3] (.tup [.name 2, .name 3]) (.enum (.fld (.var 0) "Purse" "own")) none)] }
def f_Purse___eq__ : Fn := { np := 2, nn := 2, md := .pure, body := [.ret (.and (.isi (.var 1) (.cls "Purse")) (.cm .eq (.tup [.fld (.var 0) "Purse" "own", .fld (.var 0) "Purse" "gone_to"]) (.tup [.fld (.var 1) "Purse" "own", .fld (.var 1) "Purse" "gone_to"])))] }
def f__law_box : Fn := { np := 2, nn := 3, md := .keep, body := [.asg (.name 2) (.op .add (.op .mul (.int 6151) (.var 1)) (.int 29)),
  .ite (.cm .lt (.var 1) (.bi .len [.var 0])) [.asg (.name 2) (.ix (.var 0) (.var 1))] [],
  .ite (.cm .eq (.op .mod (.var 2) (.int 2)) (.int 0)) [.ret (.lst true [.op .fdiv (.bi .abs [.var 2]) (.int 2), .op .add (.op .add (.op .mod (.var 2) (.int 1000003)) (.op .mul (.int 7919) (.var 1))) (.int 1)])] [],
  .ret (.lst true [.int 0, .op .add (.op .add (.op .mod (.var 2) (.int 2147483563)) (.op .mul (.int 7919) (.var 1))) (.int 1)])] }
def f__law_take : Fn := { np := 2, nn := 4, md := .trunc, body := [.ite (.cm .gt (.ix (.var 0) (.int 0)) (.int 0)) [.asg (.tup [.sub (.var 0) (.int 0), .name 3]) (.bi .divmod [.ix (.var 0) (.int 0), .var 1]),
  .ret (.var 3)] [],
  .asg (.sub (.var 0) (.int 1)) (.op .mod (.op .add (.op .mul (.ix (.var 0) (.int 1)) (.int 48271)) (.int 11)) (.int 2147483647)),
  .asg (.name 2) (.op .add (.op .fdiv (.ix (.var 0) (.int 1)) (.int 1009)) (.int 1)),
  .ret (.op .mod (.op .fdiv (.op .mod (.op .mul (.op .mul (.var 2) (.var 2)) (.var 2)) (.int 2147483629)) (.int 61)) (.var 1))] }
def f__law_cards : Fn := { np := 1, nn := 6, md := .trunc, body := [.asg (.tup [.name 2, .name 3]) (.tup [.lst true [], .ix (.lst false [.int 6, .int 60]) (.call "_law_take" [.var 0, .int 2])]),
  .for_ (.name 1) (.range (.ix (.lst false [.int 0, .int 1, .int 2, .int 4, .int 8]) (.call "_law_take" [.var 0, .int 5]))) [.asg (.name 4) (.call "_law_take" [.var 0, .var 3]),
  .asg (.name 5) (.op .add (.var 4) (.call "_law_take" [.var 0, .op .sub (.var 3) (.var 4)])),
  .expr (.bm (.var 2) .append [.tup [.var 4, .var 5, .ix (.lst false [.int 1, .int 10, .op .add (.int 1) (.call "_law_take" [.var 0, .int 3])]) (.call "_law_take" [.var 0, .int 3])]]),
  .ite (.cm .eq (.call "_law_take" [.var 0, .int 5]) (.int 0)) [.asg (.sub (.var 2) (.neg (.int 1))) (.ix (.var 2) (.int 0))] []],
  .ret (.bi .tuple [.var 2])] }
def f__law_comings : Fn := { np := 1, nn := 3, md := .trunc, body := [.asg (.name 1) (.ix (.lst false [.int 3, .int 8, .int 60]) (.call "_law_take" [.var 0, .int 3])),
  .ret (.bi .tuple [.bi (.sorted false) [.comp false (.call "_law_take" [.var 0, .var 1]) [2] (.name 2) (.range (.ix (.lst false [.int 0, .int 1, .int 6, .int 24]) (.call "_law_take" [.var 0, .int 4]))) none]])] }
def f__law_told : Fn := { np := 3, nn := 11, md := .keep, body := [.asg (.tup [.name 3, .name 4]) (.tup [.new "Purse" [], .bi (.list true) [.var 2]]),
  .for_ (.tup [.name 5, .name 6, .name 7]) (.seq (.var 1)) [.expr (.meth (.var 3) "Purse" "buy" [.var 5, .var 6, .var 7])],
  .while_ (.cm .ne (.var 4) (.lst false [])) [.asg (.name 8) (.ix (.var 4) (.call "_law_take" [.var 0, .bi .len [.var 4]])),
  .asg (.name 9) (.ite (.cm .eq (.call "_law_take" [.var 0, .int 2]) (.int 0)) (.bm (.var 4) .count [.var 8]) (.int 1)),
  .expr (.meth (.var 3) "Purse" "come" [.var 8, .var 9]),
  .for_ (.name 10) (.range (.var 9)) [.expr (.bm (.var 4) .remove [.var 8])],
  .ite (.and (.cm .eq (.op .mod (.bi .len [.var 4]) (.int 4)) (.int 0)) (.cm .eq (.call "_law_take" [.var 0, .int 2]) (.int 0))) [.expr (.meth (.var 3) "Purse" "miss" [.var 8]),
  .expr (.meth (.var 3) "Purse" "come" [.var 8, .int 1])] []],
  .ret (.var 3)] }
def f_law : Fn := { np := 1, nn := 12, md := .pure, body := [.for_ (.name 1) (.range (.bi .max2 [.int 1, .bi .min2 [.bi .len [.var 0], .int 2]])) [.asg (.name 2) (.call "_law_box" [.var 0, .var 1]),
  .for_ (.name 3) (.range (.int 2)) [.asg (.tup [.name 5, .name 6]) (.tup [.call "_law_cards" [.var 2], .call "_law_comings" [.var 2]]),
  .asg (.tup [.name 7, .name 8]) (.tup [.call "_law_told" [.var 2, .var 5, .var 6], .call "_law_told" [.var 2, .var 5, .var 6]]),
  .ite (.or (.not (.isB false (.ite (.isi (.var 8) (.cls "Purse")) (.meth (.var 7) "Purse" "__eq__" [.var 8]) .never) (.bl true))) (.or (.cm .ne (.meth (.var 7) "Purse" "taken" []) (.meth (.var 8) "Purse" "taken" [])) (.cm .ne (.meth (.var 7) "Purse" "days" []) (.var 6)))) [.ret (.bl false)] [],
  .ite (.cm .ne (.op .sub (.op .add (.bi .sum [.meth (.var 7) "Purse" "left" []]) (.bi .len [.var 6])) (.meth (.var 7) "Purse" "lost" [])) (.bi .sum [.comp false (.ix (.var 11) (.int 2)) [11] (.name 11) (.seq (.var 5)) none])) [.ret (.bl false)] [],
  .ite (.or (.cm .ne (.call "shown_by" [.var 5, .var 6, .meth (.var 7) "Purse" "paper" []]) (.meth (.var 7) "Purse" "lost" [])) (.cm .ne (.meth (.var 7) "Purse" "lost" []) (.call "lost" [.var 5, .var 6]))) [.ret (.bl false)] [],
  .ite (.isB true (.call "is_taking" [.var 5, .var 6, .meth (.var 7) "Purse" "taken" []]) (.bl true)) [.ret (.bl false)] [],
  .asg (.tup [.name 9, .name 10]) (.tup [.call "_law_take" [.var 2, .int 60], .meth (.var 7) "Purse" "lost" []]),
  .asg (.name 4) (.meth (.var 7) "Purse" "room" [.var 9]),
  .ite (.ch .lt .le (.int 0) (.var 4) (.op .sub (.int 24) (.bi .len [.var 6]))) [.expr (.meth (.var 7) "Purse" "come" [.var 9, .var 4]),
  .ite (.or (.cm .ne (.meth (.var 7) "Purse" "lost" []) (.var 10)) (.cm .ne (.meth (.var 7) "Purse" "room" [.var 9]) (.int 0))) [.ret (.bl false)] [],
  .expr (.meth (.var 7) "Purse" "undo" [])] [],
  .ite (.and (.cm .lt (.bi .len [.var 6]) (.int 24)) (.cm .eq (.var 4) (.int 0))) [.expr (.meth (.var 7) "Purse" "come" [.var 9, .int 1]),
  .ite (.cm .ne (.meth (.var 7) "Purse" "lost" []) (.op .add (.var 10) (.int 1))) [.ret (.bl false)] [],
  .expr (.meth (.var 7) "Purse" "undo" [])] [],
  .ite (.cm .lt (.bi .len [.var 5]) (.int 8)) [.expr (.meth (.var 7) "Purse" "buy" [.int 0, .int 59, .int 10]),
  .ite (.or (.cm .gt (.meth (.var 7) "Purse" "lost" []) (.var 10)) (.or (.and (.cm .gt (.var 10) (.int 10)) (.cm .ne (.meth (.var 7) "Purse" "lost" []) (.op .sub (.var 10) (.int 10)))) (.and (.cm .le (.var 10) (.int 10)) (.cm .ne (.meth (.var 7) "Purse" "lost" []) (.int 0))))) [.ret (.bl false)] [],
  .expr (.meth (.var 7) "Purse" "undo" [])] [],
  .ite (.not (.isB false (.ite (.isi (.var 8) (.cls "Purse")) (.meth (.var 7) "Purse" "__eq__" [.var 8]) .never) (.bl true))) [.ret (.bl false)] []]],
  .ret (.bl true)] }
def fns : Str → Option Fn := fun x =>
  if x = "is_whole" then some f_is_whole
  else if x = "is_from_to" then some f_is_from_to
  else if x = "is_day" then some f_is_day
  else if x = "are_rising" then some f_are_rising
  else if x = "is_card" then some f_is_card
  else if x = "are_cards" then some f_are_cards
  else if x = "are_comings" then some f_are_comings
  else if x = "need_both" then some f_need_both
  else if x = "is_valid" then some f_is_valid
  else if x = "is_taking" then some f_is_taking
  else if x = "best_card" then some f_best_card
  else if x = "taking_of" then some f_taking_of
  else if x = "lost_in" then some f_lost_in
  else if x = "lost" then some f_lost
  else if x = "worth_of" then some f_worth_of
  else if x = "is_paper" then some f_is_paper
  else if x = "shown_by" then some f_shown_by
  else if x = "reached_from" then some f_reached_from
  else if x = "paper_in" then some f_paper_in
  else if x = "room_in" then some f_room_in
  else if x = "need_day" then some f_need_day
  else if x = "Purse.__init__" then some f_Purse___init__
  else if x = "Purse.turn" then some f_Purse_turn
  else if x = "Purse.buy" then some f_Purse_buy
  else if x = "Purse.come" then some f_Purse_come
  else if x = "Purse.miss" then some f_Purse_miss
  else if x = "Purse.undo" then some f_Purse_undo
  else if x = "Purse.days" then some f_Purse_days
  else if x = "Purse.taken" then some f_Purse_taken
  else if x = "Purse.lost" then some f_Purse_lost
  else if x = "Purse.paper" then some f_Purse_paper
  else if x = "Purse.room" then some f_Purse_room
  else if x = "Purse.left" then some f_Purse_left
  else if x = "Purse.__eq__" then some f_Purse___eq__
  else if x = "_law_box" then some f__law_box
  else if x = "_law_take" then some f__law_take
  else if x = "_law_cards" then some f__law_cards
  else if x = "_law_comings" then some f__law_comings
  else if x = "_law_told" then some f__law_told
  else if x = "law" then some f_law
  else none
def gi : Str → Option Int := fun x =>
  if x = "MOST_CARDS" then some 8 else if x = "MOST_COMINGS" then some 24 else if x = "MOST_DAYS" then some 60 else if x = "MOST_TURNS" then some 10 else none
def gt : Gt := [(("abs" : Str), (.blt : Gk)), (("all" : Str), (.blt : Gk)), (("any" : Str), (.blt : Gk)), (("bool" : Str), (.blt : Gk)), (("divmod" : Str), (.blt : Gk)), (("enumerate" : Str), (.blt : Gk)), (("int" : Str), (.blt : Gk)), (("isinstance" : Str), (.blt : Gk)), (("len" : Str), (.blt : Gk)), (("list" : Str), (.blt : Gk)), (("max" : Str), (.blt : Gk)), (("min" : Str), (.blt : Gk)), (("range" : Str), (.blt : Gk)), (("set" : Str), (.blt : Gk)), (("sorted" : Str), (.blt : Gk)), (("sum" : Str), (.blt : Gk)), (("tuple" : Str), (.blt : Gk)), (("zip" : Str), (.blt : Gk)), (("MOST_CARDS" : Str), (.int : Gk)), (("MOST_COMINGS" : Str), (.int : Gk)), (("MOST_DAYS" : Str), (.int : Gk)), (("MOST_TURNS" : Str), (.int : Gk)), (("Purse" : Str), (.cls ["gone_to", "own", "past"] [("turn", []), ("buy", [10]), ("come", [1]), ("miss", []), ("undo", []), ("days", []), ("taken", []), ("lost", []), ("paper", []), ("room", []), ("left", []), ("__eq__", [])] : Gk)), (("is_whole" : Str), (.fn : Gk)), (("is_from_to" : Str), (.fn : Gk)), (("is_day" : Str), (.fn : Gk)), (("are_rising" : Str), (.fn : Gk)), (("is_card" : Str), (.fn : Gk)), (("are_cards" : Str), (.fn : Gk)), (("are_comings" : Str), (.fn : Gk)), (("need_both" : Str), (.fn : Gk)), (("is_valid" : Str), (.fn : Gk)), (("is_taking" : Str), (.fn : Gk)), (("best_card" : Str), (.fn : Gk)), (("taking_of" : Str), (.fn : Gk)), (("lost_in" : Str), (.fn : Gk)), (("lost" : Str), (.fn : Gk)), (("worth_of" : Str), (.fn : Gk)), (("is_paper" : Str), (.fn : Gk)), (("shown_by" : Str), (.fn : Gk)), (("reached_from" : Str), (.fn : Gk)), (("paper_in" : Str), (.fn : Gk)), (("room_in" : Str), (.fn : Gk)), (("need_day" : Str), (.fn : Gk)), (("_law_box" : Str), (.fn : Gk)), (("_law_take" : Str), (.fn : Gk)), (("_law_cards" : Str), (.fn : Gk)), (("_law_comings" : Str), (.fn : Gk)), (("_law_told" : Str), (.fn : Gk)), (("law" : Str), (.fn : Gk))]
def top (i : Nat) : Stmt := PySem.Challenge.pw_tenturns_k33_whole_purses.main.body.getD i (.Pass ⟨0, 0, 0, 0⟩)
def dd (x : Str) (i : Nat) : He.DefD := ⟨(x, none), x, x, defArgs (top i), defBody (top i), defScope (top i), [], []⟩
def clsB (s : Stmt) : List Stmt := match s with
  | .ClassDef _ _ _ b _ _ _ _ _ _ _ => b
  | _ => []
def mt (i j : Nat) : Stmt := (clsB (top i)).getD j (.Pass ⟨0, 0, 0, 0⟩)
def dm (c m ql : Str) (i j : Nat) (dv : List He.Dv) : He.DefD := ⟨(c, some m), m, ql, defArgs (mt i j), defBody (mt i j), defScope (mt i j), dv, []⟩
def dl : List He.DefD := [dd "is_whole" 12, dd "is_from_to" 13, dd "is_day" 14, dd "are_rising" 15, dd "is_card" 20, dd "are_cards" 21, dd "are_comings" 22, dd "need_both" 23, dd "is_valid" 24, dd "is_taking" 25, dd "best_card" 26, dd "taking_of" 27, dd "lost_in" 28, dd "lost" 29, dd "worth_of" 30, dd "is_paper" 31, dd "shown_by" 32, dd "reached_from" 33, dd "paper_in" 34, dd "room_in" 35, dd "need_day" 37, dm "Purse" "__init__" "Purse.__init__" 38 0 [], dm "Purse" "turn" "Purse.turn" 38 1 [], dm "Purse" "buy" "Purse.buy" 38 2 [.int 10], dm "Purse" "come" "Purse.come" 38 3 [.int 1], dm "Purse" "miss" "Purse.miss" 38 4 [], dm "Purse" "undo" "Purse.undo" 38 5 [], dm "Purse" "days" "Purse.days" 38 7 [], dm "Purse" "taken" "Purse.taken" 38 8 [], dm "Purse" "lost" "Purse.lost" 38 9 [], dm "Purse" "paper" "Purse.paper" 38 10 [], dm "Purse" "room" "Purse.room" 38 11 [], dm "Purse" "left" "Purse.left" 38 12 [], dm "Purse" "__eq__" "Purse.__eq__" 38 14 [], dd "_law_box" 40, dd "_law_take" 41, dd "_law_cards" 42, dd "_law_comings" 43, dd "_law_told" 44, dd "law" 45]
def fa : List He.Fa := [.glo "is_whole", .glo "is_from_to", .glo "is_day", .glo "are_rising", .glo "is_card", .glo "are_cards", .glo "are_comings", .glo "need_both", .glo "is_valid", .glo "is_taking", .glo "best_card", .glo "taking_of", .glo "lost_in", .glo "lost", .glo "worth_of", .glo "is_paper", .glo "shown_by", .glo "reached_from", .glo "paper_in", .glo "room_in", .glo "need_day", .glo "_law_box", .glo "_law_take", .glo "_law_cards", .glo "_law_comings", .glo "_law_told", .glo "law", .free "abs", .free "all", .free "any", .free "bool", .free "divmod", .free "enumerate", .free "int", .free "isinstance", .free "len", .free "list", .free "max", .free "min", .free "range", .free "set", .free "sorted", .free "sum", .free "tuple", .free "zip", .int "MOST_CARDS" 8, .int "MOST_COMINGS" 24, .int "MOST_DAYS" 60, .int "MOST_TURNS" 10, .glo "Purse", .cls "Purse", .mkr "Purse", .noat "Purse" "gone_to", .noat "Purse" "own", .noat "Purse" "past", .meth "Purse" "turn", .meth "Purse" "buy", .meth "Purse" "come", .meth "Purse" "miss", .meth "Purse" "undo", .meth "Purse" "days", .meth "Purse" "taken", .meth "Purse" "lost", .meth "Purse" "paper", .meth "Purse" "room", .meth "Purse" "left", .meth "Purse" "__eq__"]
def n_is_whole : List Str := ["thing"]
def p_is_whole : List Str := ["thing"]
theorem s_is_whole : fnScB n_is_whole p_is_whole (defScope (top 12)) = true := by decide +kernel
theorem c_is_whole : chkSs gt f_is_whole.body (Fn.ga n_is_whole (defScope (top 12))) (defBody (top 12)) = true := by decide +kernel
def n_is_from_to : List Str := ["thing", "least", "most"]
def p_is_from_to : List Str := ["thing", "least", "most"]
theorem s_is_from_to : fnScB n_is_from_to p_is_from_to (defScope (top 13)) = true := by decide +kernel
theorem c_is_from_to : chkSs gt f_is_from_to.body (Fn.ga n_is_from_to (defScope (top 13))) (defBody (top 13)) = true := by decide +kernel
def n_is_day : List Str := ["thing"]
def p_is_day : List Str := ["thing"]
theorem s_is_day : fnScB n_is_day p_is_day (defScope (top 14)) = true := by decide +kernel
theorem c_is_day : chkSs gt f_is_day.body (Fn.ga n_is_day (defScope (top 14))) (defBody (top 14)) = true := by decide +kernel
def n_are_rising : List Str := ["row", "one", "other"]
def p_are_rising : List Str := ["row"]
theorem s_are_rising : fnScB n_are_rising p_are_rising (defScope (top 15)) = true := by decide +kernel
theorem c_are_rising : chkSs gt f_are_rising.body (Fn.ga n_are_rising (defScope (top 15))) (defBody (top 15)) = true := by decide +kernel
def n_is_card : List Str := ["thing"]
def p_is_card : List Str := ["thing"]
theorem s_is_card : fnScB n_is_card p_is_card (defScope (top 20)) = true := by decide +kernel
theorem c_is_card : chkSs gt f_is_card.body (Fn.ga n_is_card (defScope (top 20))) (defBody (top 20)) = true := by decide +kernel
def n_are_cards : List Str := ["thing", "card"]
def p_are_cards : List Str := ["thing"]
theorem s_are_cards : fnScB n_are_cards p_are_cards (defScope (top 21)) = true := by decide +kernel
theorem c_are_cards : chkSs gt f_are_cards.body (Fn.ga n_are_cards (defScope (top 21))) (defBody (top 21)) = true := by decide +kernel
def n_are_comings : List Str := ["thing", "one", "other", "day"]
def p_are_comings : List Str := ["thing"]
theorem s_are_comings : fnScB n_are_comings p_are_comings (defScope (top 22)) = true := by decide +kernel
theorem c_are_comings : chkSs gt f_are_comings.body (Fn.ga n_are_comings (defScope (top 22))) (defBody (top 22)) = true := by decide +kernel
def n_need_both : List Str := ["cards", "comings"]
def p_need_both : List Str := ["cards", "comings"]
theorem s_need_both : fnScB n_need_both p_need_both (defScope (top 23)) = true := by decide +kernel
theorem c_need_both : chkSs gt f_need_both.body (Fn.ga n_need_both (defScope (top 23))) (defBody (top 23)) = true := by decide +kernel
def n_is_valid : List Str := ["card", "day"]
def p_is_valid : List Str := ["card", "day"]
theorem s_is_valid : fnScB n_is_valid p_is_valid (defScope (top 24)) = true := by decide +kernel
theorem c_is_valid : chkSs gt f_is_valid.body (Fn.ga n_is_valid (defScope (top 24))) (defBody (top 24)) = true := by decide +kernel
def n_is_taking : List Str := ["cards", "comings", "thing", "number", "day", "card"]
def p_is_taking : List Str := ["cards", "comings", "thing"]
theorem s_is_taking : fnScB n_is_taking p_is_taking (defScope (top 25)) = true := by decide +kernel
theorem c_is_taking : chkSs gt f_is_taking.body (Fn.ga n_is_taking (defScope (top 25))) (defBody (top 25)) = true := by decide +kernel
def n_best_card : List Str := ["cards", "left", "day", "found", "number", "card"]
def p_best_card : List Str := ["cards", "left", "day"]
theorem s_best_card : fnScB n_best_card p_best_card (defScope (top 26)) = true := by decide +kernel
theorem c_best_card : chkSs gt f_best_card.body (Fn.ga n_best_card (defScope (top 26))) (defBody (top 26)) = true := by decide +kernel
def n_taking_of : List Str := ["cards", "comings", "left", "found", "day", "number", "card"]
def p_taking_of : List Str := ["cards", "comings"]
theorem s_taking_of : fnScB n_taking_of p_taking_of (defScope (top 27)) = true := by decide +kernel
theorem c_taking_of : chkSs gt f_taking_of.body (Fn.ga n_taking_of (defScope (top 27))) (defBody (top 27)) = true := by decide +kernel
def n_lost_in : List Str := ["cards", "comings"]
def p_lost_in : List Str := ["cards", "comings"]
theorem s_lost_in : fnScB n_lost_in p_lost_in (defScope (top 28)) = true := by decide +kernel
theorem c_lost_in : chkSs gt f_lost_in.body (Fn.ga n_lost_in (defScope (top 28))) (defBody (top 28)) = true := by decide +kernel
def n_lost : List Str := ["cards", "comings"]
def p_lost : List Str := ["cards", "comings"]
theorem s_lost : fnScB n_lost p_lost (defScope (top 29)) = true := by decide +kernel
theorem c_lost : chkSs gt f_lost.body (Fn.ga n_lost (defScope (top 29))) (defBody (top 29)) = true := by decide +kernel
def n_worth_of : List Str := ["cards", "comings", "paper", "many", "turns", "card", "day"]
def p_worth_of : List Str := ["cards", "comings", "paper"]
theorem s_worth_of : fnScB n_worth_of p_worth_of (defScope (top 30)) = true := by decide +kernel
theorem c_worth_of : chkSs gt f_worth_of.body (Fn.ga n_worth_of (defScope (top 30))) (defBody (top 30)) = true := by decide +kernel
def n_is_paper : List Str := ["thing", "day"]
def p_is_paper : List Str := ["thing"]
theorem s_is_paper : fnScB n_is_paper p_is_paper (defScope (top 31)) = true := by decide +kernel
theorem c_is_paper : chkSs gt f_is_paper.body (Fn.ga n_is_paper (defScope (top 31))) (defBody (top 31)) = true := by decide +kernel
def n_shown_by : List Str := ["cards", "comings", "thing"]
def p_shown_by : List Str := ["cards", "comings", "thing"]
theorem s_shown_by : fnScB n_shown_by p_shown_by (defScope (top 32)) = true := by decide +kernel
theorem c_shown_by : chkSs gt f_shown_by.body (Fn.ga n_shown_by (defScope (top 32))) (defBody (top 32)) = true := by decide +kernel
def n_reached_from : List Str := ["cards", "comings", "taking", "days", "gone", "day", "number", "card", "more", "other", "own"]
def p_reached_from : List Str := ["cards", "comings", "taking"]
theorem s_reached_from : fnScB n_reached_from p_reached_from (defScope (top 33)) = true := by decide +kernel
theorem c_reached_from : chkSs gt f_reached_from.body (Fn.ga n_reached_from (defScope (top 33))) (defBody (top 33)) = true := by decide +kernel
def n_paper_in : List Str := ["cards", "comings"]
def p_paper_in : List Str := ["cards", "comings"]
theorem s_paper_in : fnScB n_paper_in p_paper_in (defScope (top 34)) = true := by decide +kernel
theorem c_paper_in : chkSs gt f_paper_in.body (Fn.ga n_paper_in (defScope (top 34))) (defBody (top 34)) = true := by decide +kernel
def n_room_in : List Str := ["cards", "comings", "day", "many", "found"]
def p_room_in : List Str := ["cards", "comings", "day"]
theorem s_room_in : fnScB n_room_in p_room_in (defScope (top 35)) = true := by decide +kernel
theorem c_room_in : chkSs gt f_room_in.body (Fn.ga n_room_in (defScope (top 35))) (defBody (top 35)) = true := by decide +kernel
def n_need_day : List Str := ["thing"]
def p_need_day : List Str := ["thing"]
theorem s_need_day : fnScB n_need_day p_need_day (defScope (top 37)) = true := by decide +kernel
theorem c_need_day : chkSs gt f_need_day.body (Fn.ga n_need_day (defScope (top 37))) (defBody (top 37)) = true := by decide +kernel
def n_Purse___init__ : List Str := ["self"]
def p_Purse___init__ : List Str := ["self"]
theorem s_Purse___init__ : fnScB n_Purse___init__ p_Purse___init__ (defScope (mt 38 0)) = true := by decide +kernel
theorem c_Purse___init__ : chkSs gt f_Purse___init__.body (Fn.ga n_Purse___init__ (defScope (mt 38 0))) (defBody (mt 38 0)) = true := by decide +kernel
def n_Purse_turn : List Str := ["self", "cards", "days"]
def p_Purse_turn : List Str := ["self", "cards", "days"]
theorem s_Purse_turn : fnScB n_Purse_turn p_Purse_turn (defScope (mt 38 1)) = true := by decide +kernel
theorem c_Purse_turn : chkSs gt f_Purse_turn.body (Fn.ga n_Purse_turn (defScope (mt 38 1))) (defBody (mt 38 1)) = true := by decide +kernel
def n_Purse_buy : List Str := ["self", "first", "last", "turns"]
def p_Purse_buy : List Str := ["self", "first", "last", "turns"]
theorem s_Purse_buy : fnScB n_Purse_buy p_Purse_buy (defScope (mt 38 2)) = true := by decide +kernel
theorem c_Purse_buy : chkSs gt f_Purse_buy.body (Fn.ga n_Purse_buy (defScope (mt 38 2))) (defBody (mt 38 2)) = true := by decide +kernel
def n_Purse_come : List Str := ["self", "day", "many"]
def p_Purse_come : List Str := ["self", "day", "many"]
theorem s_Purse_come : fnScB n_Purse_come p_Purse_come (defScope (mt 38 3)) = true := by decide +kernel
theorem c_Purse_come : chkSs gt f_Purse_come.body (Fn.ga n_Purse_come (defScope (mt 38 3))) (defBody (mt 38 3)) = true := by decide +kernel
def n_Purse_miss : List Str := ["self", "day", "place"]
def p_Purse_miss : List Str := ["self", "day"]
theorem s_Purse_miss : fnScB n_Purse_miss p_Purse_miss (defScope (mt 38 4)) = true := by decide +kernel
theorem c_Purse_miss : chkSs gt f_Purse_miss.body (Fn.ga n_Purse_miss (defScope (mt 38 4))) (defBody (mt 38 4)) = true := by decide +kernel
def n_Purse_undo : List Str := ["self"]
def p_Purse_undo : List Str := ["self"]
theorem s_Purse_undo : fnScB n_Purse_undo p_Purse_undo (defScope (mt 38 5)) = true := by decide +kernel
theorem c_Purse_undo : chkSs gt f_Purse_undo.body (Fn.ga n_Purse_undo (defScope (mt 38 5))) (defBody (mt 38 5)) = true := by decide +kernel
def n_Purse_days : List Str := ["self"]
def p_Purse_days : List Str := ["self"]
theorem s_Purse_days : fnScB n_Purse_days p_Purse_days (defScope (mt 38 7)) = true := by decide +kernel
theorem c_Purse_days : chkSs gt f_Purse_days.body (Fn.ga n_Purse_days (defScope (mt 38 7))) (defBody (mt 38 7)) = true := by decide +kernel
def n_Purse_taken : List Str := ["self"]
def p_Purse_taken : List Str := ["self"]
theorem s_Purse_taken : fnScB n_Purse_taken p_Purse_taken (defScope (mt 38 8)) = true := by decide +kernel
theorem c_Purse_taken : chkSs gt f_Purse_taken.body (Fn.ga n_Purse_taken (defScope (mt 38 8))) (defBody (mt 38 8)) = true := by decide +kernel
def n_Purse_lost : List Str := ["self"]
def p_Purse_lost : List Str := ["self"]
theorem s_Purse_lost : fnScB n_Purse_lost p_Purse_lost (defScope (mt 38 9)) = true := by decide +kernel
theorem c_Purse_lost : chkSs gt f_Purse_lost.body (Fn.ga n_Purse_lost (defScope (mt 38 9))) (defBody (mt 38 9)) = true := by decide +kernel
def n_Purse_paper : List Str := ["self"]
def p_Purse_paper : List Str := ["self"]
theorem s_Purse_paper : fnScB n_Purse_paper p_Purse_paper (defScope (mt 38 10)) = true := by decide +kernel
theorem c_Purse_paper : chkSs gt f_Purse_paper.body (Fn.ga n_Purse_paper (defScope (mt 38 10))) (defBody (mt 38 10)) = true := by decide +kernel
def n_Purse_room : List Str := ["self", "day"]
def p_Purse_room : List Str := ["self", "day"]
theorem s_Purse_room : fnScB n_Purse_room p_Purse_room (defScope (mt 38 11)) = true := by decide +kernel
theorem c_Purse_room : chkSs gt f_Purse_room.body (Fn.ga n_Purse_room (defScope (mt 38 11))) (defBody (mt 38 11)) = true := by decide +kernel
def n_Purse_left : List Str := ["self", "taking", "number", "card"]
def p_Purse_left : List Str := ["self"]
theorem s_Purse_left : fnScB n_Purse_left p_Purse_left (defScope (mt 38 12)) = true := by decide +kernel
theorem c_Purse_left : chkSs gt f_Purse_left.body (Fn.ga n_Purse_left (defScope (mt 38 12))) (defBody (mt 38 12)) = true := by decide +kernel
def n_Purse___eq__ : List Str := ["self", "other"]
def p_Purse___eq__ : List Str := ["self", "other"]
theorem s_Purse___eq__ : fnScB n_Purse___eq__ p_Purse___eq__ (defScope (mt 38 14)) = true := by decide +kernel
theorem c_Purse___eq__ : chkSs gt f_Purse___eq__.body (Fn.ga n_Purse___eq__ (defScope (mt 38 14))) (defBody (mt 38 14)) = true := by decide +kernel
def n__law_box : List Str := ["_law_script", "_law_k", "_law_cell"]
def p__law_box : List Str := ["_law_script", "_law_k"]
theorem s__law_box : fnScB n__law_box p__law_box (defScope (top 40)) = true := by decide +kernel
theorem c__law_box : chkSs gt f__law_box.body (Fn.ga n__law_box (defScope (top 40))) (defBody (top 40)) = true := by decide +kernel
def n__law_take : List Str := ["_law_box_here", "_law_many", "_law_high", "_law_digit"]
def p__law_take : List Str := ["_law_box_here", "_law_many"]
theorem s__law_take : fnScB n__law_take p__law_take (defScope (top 41)) = true := by decide +kernel
theorem c__law_take : chkSs gt f__law_take.body (Fn.ga n__law_take (defScope (top 41))) (defBody (top 41)) = true := by decide +kernel
def n__law_cards : List Str := ["_law_box_here", "_law_turn", "_law_found", "_law_most", "_law_first", "_law_last"]
def p__law_cards : List Str := ["_law_box_here"]
theorem s__law_cards : fnScB n__law_cards p__law_cards (defScope (top 42)) = true := by decide +kernel
theorem c__law_cards : chkSs gt f__law_cards.body (Fn.ga n__law_cards (defScope (top 42))) (defBody (top 42)) = true := by decide +kernel
def n__law_comings : List Str := ["_law_box_here", "_law_most", "_law_turn"]
def p__law_comings : List Str := ["_law_box_here"]
theorem s__law_comings : fnScB n__law_comings p__law_comings (defScope (top 43)) = true := by decide +kernel
theorem c__law_comings : chkSs gt f__law_comings.body (Fn.ga n__law_comings (defScope (top 43))) (defBody (top 43)) = true := by decide +kernel
def n__law_told : List Str := ["_law_box_here", "_law_cards_here", "_law_comings_here", "_law_purse", "_law_left", "_law_first", "_law_last", "_law_turns", "_law_day", "_law_many", "_law_turn"]
def p__law_told : List Str := ["_law_box_here", "_law_cards_here", "_law_comings_here"]
theorem s__law_told : fnScB n__law_told p__law_told (defScope (top 44)) = true := by decide +kernel
theorem c__law_told : chkSs gt f__law_told.body (Fn.ga n__law_told (defScope (top 44))) (defBody (top 44)) = true := by decide +kernel
def n_law : List Str := ["_law_script", "_law_k", "_law_box_here", "_law_turn", "_law_room", "_law_cards_here", "_law_comings_here", "_law_one", "_law_other", "_law_day", "_law_many", "_law_card"]
def p_law : List Str := ["_law_script"]
theorem s_law : fnScB n_law p_law (defScope (top 45)) = true := by decide +kernel
theorem c_law : chkSs gt f_law.body (Fn.ga n_law (defScope (top 45))) (defBody (top 45)) = true := by decide +kernel
def names : List Str := [("ClubError" : Str), ("NoDay" : Str), ("NoCard" : Str), ("NoCards" : Str), ("NoComings" : Str), ("NoNumber" : Str), ("Gone" : Str), ("TooMany" : Str), ("NoDeed" : Str), ("MOST_DAYS" : Str), ("is_whole" : Str), ("is_from_to" : Str), ("is_day" : Str), ("are_rising" : Str), ("MOST_TURNS" : Str), ("MOST_CARDS" : Str), ("MOST_COMINGS" : Str), ("is_card" : Str), ("are_cards" : Str), ("are_comings" : Str), ("need_both" : Str), ("is_valid" : Str), ("is_taking" : Str), ("best_card" : Str), ("taking_of" : Str), ("lost_in" : Str), ("lost" : Str), ("worth_of" : Str), ("is_paper" : Str), ("shown_by" : Str), ("reached_from" : Str), ("paper_in" : Str), ("room_in" : Str), ("need_day" : Str), ("Purse" : Str), ("_law_box" : Str), ("_law_take" : Str), ("_law_cards" : Str), ("_law_comings" : Str), ("_law_told" : Str)]
abbrev R : PySem.W.OpenRow := PySem.W.OpenLaw.row PySem.Challenge.rw_tenturns_k33_whole_purses
abbrev hk : PySem.W.Hook := He.hookX 5 fa dl [] [] (exB gt)
def ob (s : PySem.W.SharedT) : He.AlX := He.obsX 5 fa dl [] [] (exB gt) (HandSHeadRun.getT s)
theorem ob_eq (s : PySem.W.SharedT) : ob s = hk.obs s.abs := He.obsX_eq (HandSHeadRun.getT_eq s)
theorem run (w : World) : HandSHeadRun.RunEq R (PySem.W.view R.prog [45]) hk ob 6000 names w := by
  intro os
  kernel_rfl
section
variable {P : Program} {w : World} {K : PySem.W.Frag} {h base : Heap} {mg : Str → Option Value}
theorem f_ff_is_whole (X : K.In h) (G : h.Ns mainGlobals mg) (c : He.SaysD fa dl K) : FnFact (pg P w K mg base gi) gt "is_whole" f_is_whole := by
  obtain ⟨fd, F⟩ := c.def_ 0 (d := dd "is_whole" 12) rfl
  exact ⟨_, fd, n_is_whole, p_is_whole, _, _, _, He.glo_ok X G (c.fact 0 (f := .glo "is_whole") rfl), F, s_is_whole, FunD.bindsN F fun _ _ _ _ _ _ us hl => match us, hl with | [_], _ => rfl, rfl, rfl, c_is_whole⟩
theorem f_ff_is_from_to (X : K.In h) (G : h.Ns mainGlobals mg) (c : He.SaysD fa dl K) : FnFact (pg P w K mg base gi) gt "is_from_to" f_is_from_to := by
  obtain ⟨fd, F⟩ := c.def_ 1 (d := dd "is_from_to" 13) rfl
  exact ⟨_, fd, n_is_from_to, p_is_from_to, _, _, _, He.glo_ok X G (c.fact 1 (f := .glo "is_from_to") rfl), F, s_is_from_to, FunD.bindsN F fun _ _ _ _ _ _ us hl => match us, hl with | [_, _, _], _ => rfl, rfl, rfl, c_is_from_to⟩
theorem f_ff_is_day (X : K.In h) (G : h.Ns mainGlobals mg) (c : He.SaysD fa dl K) : FnFact (pg P w K mg base gi) gt "is_day" f_is_day := by
  obtain ⟨fd, F⟩ := c.def_ 2 (d := dd "is_day" 14) rfl
  exact ⟨_, fd, n_is_day, p_is_day, _, _, _, He.glo_ok X G (c.fact 2 (f := .glo "is_day") rfl), F, s_is_day, FunD.bindsN F fun _ _ _ _ _ _ us hl => match us, hl with | [_], _ => rfl, rfl, rfl, c_is_day⟩
theorem f_ff_are_rising (X : K.In h) (G : h.Ns mainGlobals mg) (c : He.SaysD fa dl K) : FnFact (pg P w K mg base gi) gt "are_rising" f_are_rising := by
  obtain ⟨fd, F⟩ := c.def_ 3 (d := dd "are_rising" 15) rfl
  exact ⟨_, fd, n_are_rising, p_are_rising, _, _, _, He.glo_ok X G (c.fact 3 (f := .glo "are_rising") rfl), F, s_are_rising, FunD.bindsN F fun _ _ _ _ _ _ us hl => match us, hl with | [_], _ => rfl, rfl, rfl, c_are_rising⟩
theorem f_ff_is_card (X : K.In h) (G : h.Ns mainGlobals mg) (c : He.SaysD fa dl K) : FnFact (pg P w K mg base gi) gt "is_card" f_is_card := by
  obtain ⟨fd, F⟩ := c.def_ 4 (d := dd "is_card" 20) rfl
  exact ⟨_, fd, n_is_card, p_is_card, _, _, _, He.glo_ok X G (c.fact 4 (f := .glo "is_card") rfl), F, s_is_card, FunD.bindsN F fun _ _ _ _ _ _ us hl => match us, hl with | [_], _ => rfl, rfl, rfl, c_is_card⟩
theorem f_ff_are_cards (X : K.In h) (G : h.Ns mainGlobals mg) (c : He.SaysD fa dl K) : FnFact (pg P w K mg base gi) gt "are_cards" f_are_cards := by
  obtain ⟨fd, F⟩ := c.def_ 5 (d := dd "are_cards" 21) rfl
  exact ⟨_, fd, n_are_cards, p_are_cards, _, _, _, He.glo_ok X G (c.fact 5 (f := .glo "are_cards") rfl), F, s_are_cards, FunD.bindsN F fun _ _ _ _ _ _ us hl => match us, hl with | [_], _ => rfl, rfl, rfl, c_are_cards⟩
theorem f_ff_are_comings (X : K.In h) (G : h.Ns mainGlobals mg) (c : He.SaysD fa dl K) : FnFact (pg P w K mg base gi) gt "are_comings" f_are_comings := by
  obtain ⟨fd, F⟩ := c.def_ 6 (d := dd "are_comings" 22) rfl
  exact ⟨_, fd, n_are_comings, p_are_comings, _, _, _, He.glo_ok X G (c.fact 6 (f := .glo "are_comings") rfl), F, s_are_comings, FunD.bindsN F fun _ _ _ _ _ _ us hl => match us, hl with | [_], _ => rfl, rfl, rfl, c_are_comings⟩
theorem f_ff_need_both (X : K.In h) (G : h.Ns mainGlobals mg) (c : He.SaysD fa dl K) : FnFact (pg P w K mg base gi) gt "need_both" f_need_both := by
  obtain ⟨fd, F⟩ := c.def_ 7 (d := dd "need_both" 23) rfl
  exact ⟨_, fd, n_need_both, p_need_both, _, _, _, He.glo_ok X G (c.fact 7 (f := .glo "need_both") rfl), F, s_need_both, FunD.bindsN F fun _ _ _ _ _ _ us hl => match us, hl with | [_, _], _ => rfl, rfl, rfl, c_need_both⟩
theorem f_ff_is_valid (X : K.In h) (G : h.Ns mainGlobals mg) (c : He.SaysD fa dl K) : FnFact (pg P w K mg base gi) gt "is_valid" f_is_valid := by
  obtain ⟨fd, F⟩ := c.def_ 8 (d := dd "is_valid" 24) rfl
  exact ⟨_, fd, n_is_valid, p_is_valid, _, _, _, He.glo_ok X G (c.fact 8 (f := .glo "is_valid") rfl), F, s_is_valid, FunD.bindsN F fun _ _ _ _ _ _ us hl => match us, hl with | [_, _], _ => rfl, rfl, rfl, c_is_valid⟩
theorem f_ff_is_taking (X : K.In h) (G : h.Ns mainGlobals mg) (c : He.SaysD fa dl K) : FnFact (pg P w K mg base gi) gt "is_taking" f_is_taking := by
  obtain ⟨fd, F⟩ := c.def_ 9 (d := dd "is_taking" 25) rfl
  exact ⟨_, fd, n_is_taking, p_is_taking, _, _, _, He.glo_ok X G (c.fact 9 (f := .glo "is_taking") rfl), F, s_is_taking, FunD.bindsN F fun _ _ _ _ _ _ us hl => match us, hl with | [_, _, _], _ => rfl, rfl, rfl, c_is_taking⟩
theorem f_ff_best_card (X : K.In h) (G : h.Ns mainGlobals mg) (c : He.SaysD fa dl K) : FnFact (pg P w K mg base gi) gt "best_card" f_best_card := by
  obtain ⟨fd, F⟩ := c.def_ 10 (d := dd "best_card" 26) rfl
  exact ⟨_, fd, n_best_card, p_best_card, _, _, _, He.glo_ok X G (c.fact 10 (f := .glo "best_card") rfl), F, s_best_card, FunD.bindsN F fun _ _ _ _ _ _ us hl => match us, hl with | [_, _, _], _ => rfl, rfl, rfl, c_best_card⟩
theorem f_ff_taking_of (X : K.In h) (G : h.Ns mainGlobals mg) (c : He.SaysD fa dl K) : FnFact (pg P w K mg base gi) gt "taking_of" f_taking_of := by
  obtain ⟨fd, F⟩ := c.def_ 11 (d := dd "taking_of" 27) rfl
  exact ⟨_, fd, n_taking_of, p_taking_of, _, _, _, He.glo_ok X G (c.fact 11 (f := .glo "taking_of") rfl), F, s_taking_of, FunD.bindsN F fun _ _ _ _ _ _ us hl => match us, hl with | [_, _], _ => rfl, rfl, rfl, c_taking_of⟩
theorem f_ff_lost_in (X : K.In h) (G : h.Ns mainGlobals mg) (c : He.SaysD fa dl K) : FnFact (pg P w K mg base gi) gt "lost_in" f_lost_in := by
  obtain ⟨fd, F⟩ := c.def_ 12 (d := dd "lost_in" 28) rfl
  exact ⟨_, fd, n_lost_in, p_lost_in, _, _, _, He.glo_ok X G (c.fact 12 (f := .glo "lost_in") rfl), F, s_lost_in, FunD.bindsN F fun _ _ _ _ _ _ us hl => match us, hl with | [_, _], _ => rfl, rfl, rfl, c_lost_in⟩
theorem f_ff_lost (X : K.In h) (G : h.Ns mainGlobals mg) (c : He.SaysD fa dl K) : FnFact (pg P w K mg base gi) gt "lost" f_lost := by
  obtain ⟨fd, F⟩ := c.def_ 13 (d := dd "lost" 29) rfl
  exact ⟨_, fd, n_lost, p_lost, _, _, _, He.glo_ok X G (c.fact 13 (f := .glo "lost") rfl), F, s_lost, FunD.bindsN F fun _ _ _ _ _ _ us hl => match us, hl with | [_, _], _ => rfl, rfl, rfl, c_lost⟩
theorem f_ff_worth_of (X : K.In h) (G : h.Ns mainGlobals mg) (c : He.SaysD fa dl K) : FnFact (pg P w K mg base gi) gt "worth_of" f_worth_of := by
  obtain ⟨fd, F⟩ := c.def_ 14 (d := dd "worth_of" 30) rfl
  exact ⟨_, fd, n_worth_of, p_worth_of, _, _, _, He.glo_ok X G (c.fact 14 (f := .glo "worth_of") rfl), F, s_worth_of, FunD.bindsN F fun _ _ _ _ _ _ us hl => match us, hl with | [_, _, _], _ => rfl, rfl, rfl, c_worth_of⟩
theorem f_ff_is_paper (X : K.In h) (G : h.Ns mainGlobals mg) (c : He.SaysD fa dl K) : FnFact (pg P w K mg base gi) gt "is_paper" f_is_paper := by
  obtain ⟨fd, F⟩ := c.def_ 15 (d := dd "is_paper" 31) rfl
  exact ⟨_, fd, n_is_paper, p_is_paper, _, _, _, He.glo_ok X G (c.fact 15 (f := .glo "is_paper") rfl), F, s_is_paper, FunD.bindsN F fun _ _ _ _ _ _ us hl => match us, hl with | [_], _ => rfl, rfl, rfl, c_is_paper⟩
theorem f_ff_shown_by (X : K.In h) (G : h.Ns mainGlobals mg) (c : He.SaysD fa dl K) : FnFact (pg P w K mg base gi) gt "shown_by" f_shown_by := by
  obtain ⟨fd, F⟩ := c.def_ 16 (d := dd "shown_by" 32) rfl
  exact ⟨_, fd, n_shown_by, p_shown_by, _, _, _, He.glo_ok X G (c.fact 16 (f := .glo "shown_by") rfl), F, s_shown_by, FunD.bindsN F fun _ _ _ _ _ _ us hl => match us, hl with | [_, _, _], _ => rfl, rfl, rfl, c_shown_by⟩
theorem f_ff_reached_from (X : K.In h) (G : h.Ns mainGlobals mg) (c : He.SaysD fa dl K) : FnFact (pg P w K mg base gi) gt "reached_from" f_reached_from := by
  obtain ⟨fd, F⟩ := c.def_ 17 (d := dd "reached_from" 33) rfl
  exact ⟨_, fd, n_reached_from, p_reached_from, _, _, _, He.glo_ok X G (c.fact 17 (f := .glo "reached_from") rfl), F, s_reached_from, FunD.bindsN F fun _ _ _ _ _ _ us hl => match us, hl with | [_, _, _], _ => rfl, rfl, rfl, c_reached_from⟩
theorem f_ff_paper_in (X : K.In h) (G : h.Ns mainGlobals mg) (c : He.SaysD fa dl K) : FnFact (pg P w K mg base gi) gt "paper_in" f_paper_in := by
  obtain ⟨fd, F⟩ := c.def_ 18 (d := dd "paper_in" 34) rfl
  exact ⟨_, fd, n_paper_in, p_paper_in, _, _, _, He.glo_ok X G (c.fact 18 (f := .glo "paper_in") rfl), F, s_paper_in, FunD.bindsN F fun _ _ _ _ _ _ us hl => match us, hl with | [_, _], _ => rfl, rfl, rfl, c_paper_in⟩
theorem f_ff_room_in (X : K.In h) (G : h.Ns mainGlobals mg) (c : He.SaysD fa dl K) : FnFact (pg P w K mg base gi) gt "room_in" f_room_in := by
  obtain ⟨fd, F⟩ := c.def_ 19 (d := dd "room_in" 35) rfl
  exact ⟨_, fd, n_room_in, p_room_in, _, _, _, He.glo_ok X G (c.fact 19 (f := .glo "room_in") rfl), F, s_room_in, FunD.bindsN F fun _ _ _ _ _ _ us hl => match us, hl with | [_, _, _], _ => rfl, rfl, rfl, c_room_in⟩
theorem f_ff_need_day (X : K.In h) (G : h.Ns mainGlobals mg) (c : He.SaysD fa dl K) : FnFact (pg P w K mg base gi) gt "need_day" f_need_day := by
  obtain ⟨fd, F⟩ := c.def_ 20 (d := dd "need_day" 37) rfl
  exact ⟨_, fd, n_need_day, p_need_day, _, _, _, He.glo_ok X G (c.fact 20 (f := .glo "need_day") rfl), F, s_need_day, FunD.bindsN F fun _ _ _ _ _ _ us hl => match us, hl with | [_], _ => rfl, rfl, rfl, c_need_day⟩
theorem f_ff_Purse___init__ (c : He.SaysD fa dl K) : FnAt (pg P w K mg base gi) gt f_Purse___init__ (He.ma K (He.ga K "Purse") "__init__") [] := by
  obtain ⟨fd, F⟩ := c.def_ 21 (d := dm "Purse" "__init__" "Purse.__init__" 38 0 []) rfl
  refine ⟨_, _, fd, n_Purse___init__, p_Purse___init__, _, _, _, _, F, s_Purse___init__, fun j hj => ?_, rfl, rfl, c_Purse___init__⟩
  have e : j = 0 := Nat.le_zero.mp hj
  subst e
  exact ⟨[], .nil, FunD.bindsN F fun _ _ _ _ _ _ us hl => match us, hl with | [_], _ => rfl⟩
theorem f_ff_Purse_turn (c : He.SaysD fa dl K) : FnAt (pg P w K mg base gi) gt f_Purse_turn (He.ma K (He.ga K "Purse") "turn") [] := by
  obtain ⟨fd, F⟩ := c.def_ 22 (d := dm "Purse" "turn" "Purse.turn" 38 1 []) rfl
  refine ⟨_, _, fd, n_Purse_turn, p_Purse_turn, _, _, _, _, F, s_Purse_turn, fun j hj => ?_, rfl, rfl, c_Purse_turn⟩
  have e : j = 0 := Nat.le_zero.mp hj
  subst e
  exact ⟨[], .nil, FunD.bindsN F fun _ _ _ _ _ _ us hl => match us, hl with | [_, _, _], _ => rfl⟩
theorem f_ff_Purse_buy (c : He.SaysD fa dl K) : FnAt (pg P w K mg base gi) gt f_Purse_buy (He.ma K (He.ga K "Purse") "buy") [10] := by
  obtain ⟨fd, F⟩ := c.def_ 23 (d := dm "Purse" "buy" "Purse.buy" 38 2 [.int 10]) rfl
  refine ⟨_, _, fd, n_Purse_buy, p_Purse_buy, _, _, _, _, F, s_Purse_buy, fun j hj => ?_, rfl, rfl, c_Purse_buy⟩
  have e : j = 0 ∨ j = 1 := by
    simp only [List.length_cons, List.length_nil] at hj
    omega
  rcases e with rfl | rfl
  · exact FunD.binds1 F 3 0 (by simp [dm, He.DefD.dvs]) rfl fun _ _ _ _ _ _ _ us its hu hi => match us, its, hu, hi with | [_, _, _], [_], _, _ => ⟨_, rfl, rfl⟩
  · exact FunD.binds1 F 4 1 (by simp [dm, He.DefD.dvs]) rfl fun _ _ _ _ _ _ _ us its hu hi => match us, its, hu, hi with | [_, _, _, _], [_], _, _ => ⟨_, rfl, rfl⟩
theorem f_ff_Purse_come (c : He.SaysD fa dl K) : FnAt (pg P w K mg base gi) gt f_Purse_come (He.ma K (He.ga K "Purse") "come") [1] := by
  obtain ⟨fd, F⟩ := c.def_ 24 (d := dm "Purse" "come" "Purse.come" 38 3 [.int 1]) rfl
  refine ⟨_, _, fd, n_Purse_come, p_Purse_come, _, _, _, _, F, s_Purse_come, fun j hj => ?_, rfl, rfl, c_Purse_come⟩
  have e : j = 0 ∨ j = 1 := by
    simp only [List.length_cons, List.length_nil] at hj
    omega
  rcases e with rfl | rfl
  · exact FunD.binds1 F 2 0 (by simp [dm, He.DefD.dvs]) rfl fun _ _ _ _ _ _ _ us its hu hi => match us, its, hu, hi with | [_, _], [_], _, _ => ⟨_, rfl, rfl⟩
  · exact FunD.binds1 F 3 1 (by simp [dm, He.DefD.dvs]) rfl fun _ _ _ _ _ _ _ us its hu hi => match us, its, hu, hi with | [_, _, _], [_], _, _ => ⟨_, rfl, rfl⟩
theorem f_ff_Purse_miss (c : He.SaysD fa dl K) : FnAt (pg P w K mg base gi) gt f_Purse_miss (He.ma K (He.ga K "Purse") "miss") [] := by
  obtain ⟨fd, F⟩ := c.def_ 25 (d := dm "Purse" "miss" "Purse.miss" 38 4 []) rfl
  refine ⟨_, _, fd, n_Purse_miss, p_Purse_miss, _, _, _, _, F, s_Purse_miss, fun j hj => ?_, rfl, rfl, c_Purse_miss⟩
  have e : j = 0 := Nat.le_zero.mp hj
  subst e
  exact ⟨[], .nil, FunD.bindsN F fun _ _ _ _ _ _ us hl => match us, hl with | [_, _], _ => rfl⟩
theorem f_ff_Purse_undo (c : He.SaysD fa dl K) : FnAt (pg P w K mg base gi) gt f_Purse_undo (He.ma K (He.ga K "Purse") "undo") [] := by
  obtain ⟨fd, F⟩ := c.def_ 26 (d := dm "Purse" "undo" "Purse.undo" 38 5 []) rfl
  refine ⟨_, _, fd, n_Purse_undo, p_Purse_undo, _, _, _, _, F, s_Purse_undo, fun j hj => ?_, rfl, rfl, c_Purse_undo⟩
  have e : j = 0 := Nat.le_zero.mp hj
  subst e
  exact ⟨[], .nil, FunD.bindsN F fun _ _ _ _ _ _ us hl => match us, hl with | [_], _ => rfl⟩
theorem f_ff_Purse_days (c : He.SaysD fa dl K) : FnAt (pg P w K mg base gi) gt f_Purse_days (He.ma K (He.ga K "Purse") "days") [] := by
  obtain ⟨fd, F⟩ := c.def_ 27 (d := dm "Purse" "days" "Purse.days" 38 7 []) rfl
  refine ⟨_, _, fd, n_Purse_days, p_Purse_days, _, _, _, _, F, s_Purse_days, fun j hj => ?_, rfl, rfl, c_Purse_days⟩
  have e : j = 0 := Nat.le_zero.mp hj
  subst e
  exact ⟨[], .nil, FunD.bindsN F fun _ _ _ _ _ _ us hl => match us, hl with | [_], _ => rfl⟩
theorem f_ff_Purse_taken (c : He.SaysD fa dl K) : FnAt (pg P w K mg base gi) gt f_Purse_taken (He.ma K (He.ga K "Purse") "taken") [] := by
  obtain ⟨fd, F⟩ := c.def_ 28 (d := dm "Purse" "taken" "Purse.taken" 38 8 []) rfl
  refine ⟨_, _, fd, n_Purse_taken, p_Purse_taken, _, _, _, _, F, s_Purse_taken, fun j hj => ?_, rfl, rfl, c_Purse_taken⟩
  have e : j = 0 := Nat.le_zero.mp hj
  subst e
  exact ⟨[], .nil, FunD.bindsN F fun _ _ _ _ _ _ us hl => match us, hl with | [_], _ => rfl⟩
theorem f_ff_Purse_lost (c : He.SaysD fa dl K) : FnAt (pg P w K mg base gi) gt f_Purse_lost (He.ma K (He.ga K "Purse") "lost") [] := by
  obtain ⟨fd, F⟩ := c.def_ 29 (d := dm "Purse" "lost" "Purse.lost" 38 9 []) rfl
  refine ⟨_, _, fd, n_Purse_lost, p_Purse_lost, _, _, _, _, F, s_Purse_lost, fun j hj => ?_, rfl, rfl, c_Purse_lost⟩
  have e : j = 0 := Nat.le_zero.mp hj
  subst e
  exact ⟨[], .nil, FunD.bindsN F fun _ _ _ _ _ _ us hl => match us, hl with | [_], _ => rfl⟩
theorem f_ff_Purse_paper (c : He.SaysD fa dl K) : FnAt (pg P w K mg base gi) gt f_Purse_paper (He.ma K (He.ga K "Purse") "paper") [] := by
  obtain ⟨fd, F⟩ := c.def_ 30 (d := dm "Purse" "paper" "Purse.paper" 38 10 []) rfl
  refine ⟨_, _, fd, n_Purse_paper, p_Purse_paper, _, _, _, _, F, s_Purse_paper, fun j hj => ?_, rfl, rfl, c_Purse_paper⟩
  have e : j = 0 := Nat.le_zero.mp hj
  subst e
  exact ⟨[], .nil, FunD.bindsN F fun _ _ _ _ _ _ us hl => match us, hl with | [_], _ => rfl⟩
theorem f_ff_Purse_room (c : He.SaysD fa dl K) : FnAt (pg P w K mg base gi) gt f_Purse_room (He.ma K (He.ga K "Purse") "room") [] := by
  obtain ⟨fd, F⟩ := c.def_ 31 (d := dm "Purse" "room" "Purse.room" 38 11 []) rfl
  refine ⟨_, _, fd, n_Purse_room, p_Purse_room, _, _, _, _, F, s_Purse_room, fun j hj => ?_, rfl, rfl, c_Purse_room⟩
  have e : j = 0 := Nat.le_zero.mp hj
  subst e
  exact ⟨[], .nil, FunD.bindsN F fun _ _ _ _ _ _ us hl => match us, hl with | [_, _], _ => rfl⟩
theorem f_ff_Purse_left (c : He.SaysD fa dl K) : FnAt (pg P w K mg base gi) gt f_Purse_left (He.ma K (He.ga K "Purse") "left") [] := by
  obtain ⟨fd, F⟩ := c.def_ 32 (d := dm "Purse" "left" "Purse.left" 38 12 []) rfl
  refine ⟨_, _, fd, n_Purse_left, p_Purse_left, _, _, _, _, F, s_Purse_left, fun j hj => ?_, rfl, rfl, c_Purse_left⟩
  have e : j = 0 := Nat.le_zero.mp hj
  subst e
  exact ⟨[], .nil, FunD.bindsN F fun _ _ _ _ _ _ us hl => match us, hl with | [_], _ => rfl⟩
theorem f_ff_Purse___eq__ (c : He.SaysD fa dl K) : FnAt (pg P w K mg base gi) gt f_Purse___eq__ (He.ma K (He.ga K "Purse") "__eq__") [] := by
  obtain ⟨fd, F⟩ := c.def_ 33 (d := dm "Purse" "__eq__" "Purse.__eq__" 38 14 []) rfl
  refine ⟨_, _, fd, n_Purse___eq__, p_Purse___eq__, _, _, _, _, F, s_Purse___eq__, fun j hj => ?_, rfl, rfl, c_Purse___eq__⟩
  have e : j = 0 := Nat.le_zero.mp hj
  subst e
  exact ⟨[], .nil, FunD.bindsN F fun _ _ _ _ _ _ us hl => match us, hl with | [_, _], _ => rfl⟩
theorem f_ff__law_box (X : K.In h) (G : h.Ns mainGlobals mg) (c : He.SaysD fa dl K) : FnFact (pg P w K mg base gi) gt "_law_box" f__law_box := by
  obtain ⟨fd, F⟩ := c.def_ 34 (d := dd "_law_box" 40) rfl
  exact ⟨_, fd, n__law_box, p__law_box, _, _, _, He.glo_ok X G (c.fact 21 (f := .glo "_law_box") rfl), F, s__law_box, FunD.bindsN F fun _ _ _ _ _ _ us hl => match us, hl with | [_, _], _ => rfl, rfl, rfl, c__law_box⟩
theorem f_ff__law_take (X : K.In h) (G : h.Ns mainGlobals mg) (c : He.SaysD fa dl K) : FnFact (pg P w K mg base gi) gt "_law_take" f__law_take := by
  obtain ⟨fd, F⟩ := c.def_ 35 (d := dd "_law_take" 41) rfl
  exact ⟨_, fd, n__law_take, p__law_take, _, _, _, He.glo_ok X G (c.fact 22 (f := .glo "_law_take") rfl), F, s__law_take, FunD.bindsN F fun _ _ _ _ _ _ us hl => match us, hl with | [_, _], _ => rfl, rfl, rfl, c__law_take⟩
theorem f_ff__law_cards (X : K.In h) (G : h.Ns mainGlobals mg) (c : He.SaysD fa dl K) : FnFact (pg P w K mg base gi) gt "_law_cards" f__law_cards := by
  obtain ⟨fd, F⟩ := c.def_ 36 (d := dd "_law_cards" 42) rfl
  exact ⟨_, fd, n__law_cards, p__law_cards, _, _, _, He.glo_ok X G (c.fact 23 (f := .glo "_law_cards") rfl), F, s__law_cards, FunD.bindsN F fun _ _ _ _ _ _ us hl => match us, hl with | [_], _ => rfl, rfl, rfl, c__law_cards⟩
theorem f_ff__law_comings (X : K.In h) (G : h.Ns mainGlobals mg) (c : He.SaysD fa dl K) : FnFact (pg P w K mg base gi) gt "_law_comings" f__law_comings := by
  obtain ⟨fd, F⟩ := c.def_ 37 (d := dd "_law_comings" 43) rfl
  exact ⟨_, fd, n__law_comings, p__law_comings, _, _, _, He.glo_ok X G (c.fact 24 (f := .glo "_law_comings") rfl), F, s__law_comings, FunD.bindsN F fun _ _ _ _ _ _ us hl => match us, hl with | [_], _ => rfl, rfl, rfl, c__law_comings⟩
theorem f_ff__law_told (X : K.In h) (G : h.Ns mainGlobals mg) (c : He.SaysD fa dl K) : FnFact (pg P w K mg base gi) gt "_law_told" f__law_told := by
  obtain ⟨fd, F⟩ := c.def_ 38 (d := dd "_law_told" 44) rfl
  exact ⟨_, fd, n__law_told, p__law_told, _, _, _, He.glo_ok X G (c.fact 25 (f := .glo "_law_told") rfl), F, s__law_told, FunD.bindsN F fun _ _ _ _ _ _ us hl => match us, hl with | [_, _, _], _ => rfl, rfl, rfl, c__law_told⟩
theorem f_ff_law (X : K.In h) (G : h.Ns mainGlobals mg) (c : He.SaysD fa dl K) : FnFact (pg P w K mg base gi) gt "law" f_law := by
  obtain ⟨fd, F⟩ := c.def_ 39 (d := dd "law" 45) rfl
  exact ⟨_, fd, n_law, p_law, _, _, _, He.glo_ok X G (c.fact 26 (f := .glo "law") rfl), F, s_law, FunD.bindsN F fun _ _ _ _ _ _ us hl => match us, hl with | [_], _ => rfl, rfl, rfl, c_law⟩
theorem tbl (X : K.In h) (G : h.Ns mainGlobals mg) (c : He.SaysD fa dl K) (more : exB gt K = true) : Tbl (pg P w K mg base gi) gt fns := by
  refine tbl_of X G c more (by decide +kernel) ?_ ?_
  · unfold gt
    refine List.forall_mem_cons.mpr ⟨(fun z => nomatch z), ?_⟩
    refine List.forall_mem_cons.mpr ⟨(fun z => nomatch z), ?_⟩
    refine List.forall_mem_cons.mpr ⟨(fun z => nomatch z), ?_⟩
    refine List.forall_mem_cons.mpr ⟨(fun z => nomatch z), ?_⟩
    refine List.forall_mem_cons.mpr ⟨(fun z => nomatch z), ?_⟩
    refine List.forall_mem_cons.mpr ⟨(fun z => nomatch z), ?_⟩
    refine List.forall_mem_cons.mpr ⟨(fun z => nomatch z), ?_⟩
    refine List.forall_mem_cons.mpr ⟨(fun z => nomatch z), ?_⟩
    refine List.forall_mem_cons.mpr ⟨(fun z => nomatch z), ?_⟩
    refine List.forall_mem_cons.mpr ⟨(fun z => nomatch z), ?_⟩
    refine List.forall_mem_cons.mpr ⟨(fun z => nomatch z), ?_⟩
    refine List.forall_mem_cons.mpr ⟨(fun z => nomatch z), ?_⟩
    refine List.forall_mem_cons.mpr ⟨(fun z => nomatch z), ?_⟩
    refine List.forall_mem_cons.mpr ⟨(fun z => nomatch z), ?_⟩
    refine List.forall_mem_cons.mpr ⟨(fun z => nomatch z), ?_⟩
    refine List.forall_mem_cons.mpr ⟨(fun z => nomatch z), ?_⟩
    refine List.forall_mem_cons.mpr ⟨(fun z => nomatch z), ?_⟩
    refine List.forall_mem_cons.mpr ⟨(fun z => nomatch z), ?_⟩
    refine List.forall_mem_cons.mpr ⟨(fun z => nomatch z), ?_⟩
    refine List.forall_mem_cons.mpr ⟨(fun z => nomatch z), ?_⟩
    refine List.forall_mem_cons.mpr ⟨(fun z => nomatch z), ?_⟩
    refine List.forall_mem_cons.mpr ⟨(fun z => nomatch z), ?_⟩
    refine List.forall_mem_cons.mpr ⟨(fun z => nomatch z), ?_⟩
    refine List.forall_mem_cons.mpr ⟨fun _ => ⟨f_is_whole, by kernel_rfl, f_ff_is_whole X G c⟩, ?_⟩
    refine List.forall_mem_cons.mpr ⟨fun _ => ⟨f_is_from_to, by kernel_rfl, f_ff_is_from_to X G c⟩, ?_⟩
    refine List.forall_mem_cons.mpr ⟨fun _ => ⟨f_is_day, by kernel_rfl, f_ff_is_day X G c⟩, ?_⟩
    refine List.forall_mem_cons.mpr ⟨fun _ => ⟨f_are_rising, by kernel_rfl, f_ff_are_rising X G c⟩, ?_⟩
    refine List.forall_mem_cons.mpr ⟨fun _ => ⟨f_is_card, by kernel_rfl, f_ff_is_card X G c⟩, ?_⟩
    refine List.forall_mem_cons.mpr ⟨fun _ => ⟨f_are_cards, by kernel_rfl, f_ff_are_cards X G c⟩, ?_⟩
    refine List.forall_mem_cons.mpr ⟨fun _ => ⟨f_are_comings, by kernel_rfl, f_ff_are_comings X G c⟩, ?_⟩
    refine List.forall_mem_cons.mpr ⟨fun _ => ⟨f_need_both, by kernel_rfl, f_ff_need_both X G c⟩, ?_⟩
    refine List.forall_mem_cons.mpr ⟨fun _ => ⟨f_is_valid, by kernel_rfl, f_ff_is_valid X G c⟩, ?_⟩
    refine List.forall_mem_cons.mpr ⟨fun _ => ⟨f_is_taking, by kernel_rfl, f_ff_is_taking X G c⟩, ?_⟩
    refine List.forall_mem_cons.mpr ⟨fun _ => ⟨f_best_card, by kernel_rfl, f_ff_best_card X G c⟩, ?_⟩
    refine List.forall_mem_cons.mpr ⟨fun _ => ⟨f_taking_of, by kernel_rfl, f_ff_taking_of X G c⟩, ?_⟩
    refine List.forall_mem_cons.mpr ⟨fun _ => ⟨f_lost_in, by kernel_rfl, f_ff_lost_in X G c⟩, ?_⟩
    refine List.forall_mem_cons.mpr ⟨fun _ => ⟨f_lost, by kernel_rfl, f_ff_lost X G c⟩, ?_⟩
    refine List.forall_mem_cons.mpr ⟨fun _ => ⟨f_worth_of, by kernel_rfl, f_ff_worth_of X G c⟩, ?_⟩
    refine List.forall_mem_cons.mpr ⟨fun _ => ⟨f_is_paper, by kernel_rfl, f_ff_is_paper X G c⟩, ?_⟩
    refine List.forall_mem_cons.mpr ⟨fun _ => ⟨f_shown_by, by kernel_rfl, f_ff_shown_by X G c⟩, ?_⟩
    refine List.forall_mem_cons.mpr ⟨fun _ => ⟨f_reached_from, by kernel_rfl, f_ff_reached_from X G c⟩, ?_⟩
    refine List.forall_mem_cons.mpr ⟨fun _ => ⟨f_paper_in, by kernel_rfl, f_ff_paper_in X G c⟩, ?_⟩
    refine List.forall_mem_cons.mpr ⟨fun _ => ⟨f_room_in, by kernel_rfl, f_ff_room_in X G c⟩, ?_⟩
    refine List.forall_mem_cons.mpr ⟨fun _ => ⟨f_need_day, by kernel_rfl, f_ff_need_day X G c⟩, ?_⟩
    refine List.forall_mem_cons.mpr ⟨fun _ => ⟨f__law_box, by kernel_rfl, f_ff__law_box X G c⟩, ?_⟩
    refine List.forall_mem_cons.mpr ⟨fun _ => ⟨f__law_take, by kernel_rfl, f_ff__law_take X G c⟩, ?_⟩
    refine List.forall_mem_cons.mpr ⟨fun _ => ⟨f__law_cards, by kernel_rfl, f_ff__law_cards X G c⟩, ?_⟩
    refine List.forall_mem_cons.mpr ⟨fun _ => ⟨f__law_comings, by kernel_rfl, f_ff__law_comings X G c⟩, ?_⟩
    refine List.forall_mem_cons.mpr ⟨fun _ => ⟨f__law_told, by kernel_rfl, f_ff__law_told X G c⟩, ?_⟩
    refine List.forall_mem_cons.mpr ⟨fun _ => ⟨f_law, by kernel_rfl, f_ff_law X G c⟩, ?_⟩
    exact fun _ z => nomatch z
  · unfold gt
    refine List.forall_mem_cons.mpr ⟨(fun _ _ z => nomatch z), ?_⟩
    refine List.forall_mem_cons.mpr ⟨(fun _ _ z => nomatch z), ?_⟩
    refine List.forall_mem_cons.mpr ⟨(fun _ _ z => nomatch z), ?_⟩
    refine List.forall_mem_cons.mpr ⟨(fun _ _ z => nomatch z), ?_⟩
    refine List.forall_mem_cons.mpr ⟨(fun _ _ z => nomatch z), ?_⟩
    refine List.forall_mem_cons.mpr ⟨(fun _ _ z => nomatch z), ?_⟩
    refine List.forall_mem_cons.mpr ⟨(fun _ _ z => nomatch z), ?_⟩
    refine List.forall_mem_cons.mpr ⟨(fun _ _ z => nomatch z), ?_⟩
    refine List.forall_mem_cons.mpr ⟨(fun _ _ z => nomatch z), ?_⟩
    refine List.forall_mem_cons.mpr ⟨(fun _ _ z => nomatch z), ?_⟩
    refine List.forall_mem_cons.mpr ⟨(fun _ _ z => nomatch z), ?_⟩
    refine List.forall_mem_cons.mpr ⟨(fun _ _ z => nomatch z), ?_⟩
    refine List.forall_mem_cons.mpr ⟨(fun _ _ z => nomatch z), ?_⟩
    refine List.forall_mem_cons.mpr ⟨(fun _ _ z => nomatch z), ?_⟩
    refine List.forall_mem_cons.mpr ⟨(fun _ _ z => nomatch z), ?_⟩
    refine List.forall_mem_cons.mpr ⟨(fun _ _ z => nomatch z), ?_⟩
    refine List.forall_mem_cons.mpr ⟨(fun _ _ z => nomatch z), ?_⟩
    refine List.forall_mem_cons.mpr ⟨(fun _ _ z => nomatch z), ?_⟩
    refine List.forall_mem_cons.mpr ⟨(fun _ _ z => nomatch z), ?_⟩
    refine List.forall_mem_cons.mpr ⟨(fun _ _ z => nomatch z), ?_⟩
    refine List.forall_mem_cons.mpr ⟨(fun _ _ z => nomatch z), ?_⟩
    refine List.forall_mem_cons.mpr ⟨(fun _ _ z => nomatch z), ?_⟩
    refine List.forall_mem_cons.mpr ⟨fun fs ms z => ?_, ?_⟩
    · cases z
      refine ⟨⟨f_Purse___init__, by kernel_rfl, f_ff_Purse___init__ c⟩, ?_⟩
      refine List.forall_mem_cons.mpr ⟨⟨f_Purse_turn, by kernel_rfl, f_ff_Purse_turn c⟩, ?_⟩
      refine List.forall_mem_cons.mpr ⟨⟨f_Purse_buy, by kernel_rfl, f_ff_Purse_buy c⟩, ?_⟩
      refine List.forall_mem_cons.mpr ⟨⟨f_Purse_come, by kernel_rfl, f_ff_Purse_come c⟩, ?_⟩
      refine List.forall_mem_cons.mpr ⟨⟨f_Purse_miss, by kernel_rfl, f_ff_Purse_miss c⟩, ?_⟩
      refine List.forall_mem_cons.mpr ⟨⟨f_Purse_undo, by kernel_rfl, f_ff_Purse_undo c⟩, ?_⟩
      refine List.forall_mem_cons.mpr ⟨⟨f_Purse_days, by kernel_rfl, f_ff_Purse_days c⟩, ?_⟩
      refine List.forall_mem_cons.mpr ⟨⟨f_Purse_taken, by kernel_rfl, f_ff_Purse_taken c⟩, ?_⟩
      refine List.forall_mem_cons.mpr ⟨⟨f_Purse_lost, by kernel_rfl, f_ff_Purse_lost c⟩, ?_⟩
      refine List.forall_mem_cons.mpr ⟨⟨f_Purse_paper, by kernel_rfl, f_ff_Purse_paper c⟩, ?_⟩
      refine List.forall_mem_cons.mpr ⟨⟨f_Purse_room, by kernel_rfl, f_ff_Purse_room c⟩, ?_⟩
      refine List.forall_mem_cons.mpr ⟨⟨f_Purse_left, by kernel_rfl, f_ff_Purse_left c⟩, ?_⟩
      refine List.forall_mem_cons.mpr ⟨⟨f_Purse___eq__, by kernel_rfl, f_ff_Purse___eq__ c⟩, ?_⟩
      exact fun _ z => nomatch z
    refine List.forall_mem_cons.mpr ⟨(fun _ _ z => nomatch z), ?_⟩
    refine List.forall_mem_cons.mpr ⟨(fun _ _ z => nomatch z), ?_⟩
    refine List.forall_mem_cons.mpr ⟨(fun _ _ z => nomatch z), ?_⟩
    refine List.forall_mem_cons.mpr ⟨(fun _ _ z => nomatch z), ?_⟩
    refine List.forall_mem_cons.mpr ⟨(fun _ _ z => nomatch z), ?_⟩
    refine List.forall_mem_cons.mpr ⟨(fun _ _ z => nomatch z), ?_⟩
    refine List.forall_mem_cons.mpr ⟨(fun _ _ z => nomatch z), ?_⟩
    refine List.forall_mem_cons.mpr ⟨(fun _ _ z => nomatch z), ?_⟩
    refine List.forall_mem_cons.mpr ⟨(fun _ _ z => nomatch z), ?_⟩
    refine List.forall_mem_cons.mpr ⟨(fun _ _ z => nomatch z), ?_⟩
    refine List.forall_mem_cons.mpr ⟨(fun _ _ z => nomatch z), ?_⟩
    refine List.forall_mem_cons.mpr ⟨(fun _ _ z => nomatch z), ?_⟩
    refine List.forall_mem_cons.mpr ⟨(fun _ _ z => nomatch z), ?_⟩
    refine List.forall_mem_cons.mpr ⟨(fun _ _ z => nomatch z), ?_⟩
    refine List.forall_mem_cons.mpr ⟨(fun _ _ z => nomatch z), ?_⟩
    refine List.forall_mem_cons.mpr ⟨(fun _ _ z => nomatch z), ?_⟩
    refine List.forall_mem_cons.mpr ⟨(fun _ _ z => nomatch z), ?_⟩
    refine List.forall_mem_cons.mpr ⟨(fun _ _ z => nomatch z), ?_⟩
    refine List.forall_mem_cons.mpr ⟨(fun _ _ z => nomatch z), ?_⟩
    refine List.forall_mem_cons.mpr ⟨(fun _ _ z => nomatch z), ?_⟩
    refine List.forall_mem_cons.mpr ⟨(fun _ _ z => nomatch z), ?_⟩
    refine List.forall_mem_cons.mpr ⟨(fun _ _ z => nomatch z), ?_⟩
    refine List.forall_mem_cons.mpr ⟨(fun _ _ z => nomatch z), ?_⟩
    refine List.forall_mem_cons.mpr ⟨(fun _ _ z => nomatch z), ?_⟩
    refine List.forall_mem_cons.mpr ⟨(fun _ _ z => nomatch z), ?_⟩
    refine List.forall_mem_cons.mpr ⟨(fun _ _ z => nomatch z), ?_⟩
    refine List.forall_mem_cons.mpr ⟨(fun _ _ z => nomatch z), ?_⟩
    exact fun _ z => nomatch z
end
theorem holds (T : ∀ ns : List Int, ns.length ≤ 63 → ∃ S' : Sto, callS gi fns 12 "law" [scr (ns.map .int)] [] = .ok (.bool true) S') : PySem.Challenge.rw_tenturns_k33_whole_purses.Holds := by
  w_on; o_law
  refine HandSHeadRun.head_any (r := OpenLaw.row PySem.Challenge.rw_tenturns_k33_whole_purses) (q := view (OpenLaw.row PySem.Challenge.rw_tenturns_k33_whole_purses).prog [45]) (H := hk) (ob := ob) (M := 6000) (loose := names) (d := HandSHeadRun.topDef (OpenLaw.row PySem.Challenge.rw_tenturns_k33_whole_purses).prog 45) (kwd := []) ob_eq
    (by kernel_rfl) (fun s => by kernel_rfl) run (by kernel_rfl) (by kernel_rfl) (by kernel_rfl) (by rfl) (by first | assumption | decide +kernel) (by decide +kernel) ⟨rfl, rfl, rfl, rfl, rfl, by decide +kernel⟩ ?hw ?hc
  case hw => w_witness2
  case hc =>
    refine walk_ofG (l := PySem.Challenge.rw_tenturns_k33_whole_purses) (n := 63) (k := 24) (x := "_law_script") rfl (by decide) (by kernel_rfl) ⟨rfl, by decide, by decide⟩ ?F
    intro w mg fa0 h Y G hmg0
    obtain ⟨K, KX, c0⟩ := Y
    have c := c0.t.d
    have hmg : mg ("law" : PySem.Str) = some (.ref fa0) := by
      have e : (HandSHeadRun.topDef (OpenLaw.row PySem.Challenge.rw_tenturns_k33_whole_purses).prog 45).name = ("law" : PySem.Str) := by kernel_rfl
      rw [← e]
      exact hmg0
    obtain ⟨fd, F⟩ := c.def_ 39 (d := dd "law" 45) rfl
    have e := hmg.symm.trans (He.glo_ok KX G (c.fact 26 (f := .glo "law") rfl))
    cases e
    have b := FunD.bindsA (ps := [("_law_script" : Str)]) F fun _ _ _ _ _ _ us hl => match us, hl with | [_], _ => rfl
    refine ⟨K, fd, fun base => spG (pg (PySem.Challenge.rw_tenturns_k33_whole_purses).prog w K mg base gi) (callS gi fns 12 "law"), KX, fun s v => b s [v] rfl, fun base H a ns hl hS => ?_, fun base hb hg => ?_⟩
    · obtain ⟨S', hh⟩ := T ns hl
      exact law_spG rfl hS hh
    · exact law_fn (P := pg (PySem.Challenge.rw_tenturns_k33_whole_purses).prog w K mg base gi) (tbl KX G c c0.more) 11 (by kernel_rfl) F s_law rfl rfl c_law

end K33
end

section
set_option Elab.async false
set_option linter.all false
/-! K26M: the plain maths of the greedy taking: lost = the best worth of a paper. -/
namespace TT
abbrev Card := Int × Int × Int
def vld (c : Card) (d : Int) : Bool := decide (c.1 ≤ d) && decide (d ≤ c.2.1)
theorem vld_iff {c : Card} {d : Int} : vld c d = true ↔ c.1 ≤ d ∧ d ≤ c.2.1 := by simp [vld]
/-- what the best card is -/
structure Best (cs : List Card) (left : List Int) (d : Int) (r : Option Nat) : Prop where
  got : ∀ i, r = Option.some i → i < cs.length ∧ ∃ c l, cs[i]? = Option.some c ∧ left[i]? = Option.some l ∧ 0 < l ∧ vld c d = true
  least : ∀ (j : Nat) (c : Card) (l : Int), cs[j]? = Option.some c → left[j]? = Option.some l → 0 < l → vld c d = true → ∃ i c', r = Option.some i ∧ cs[i]? = Option.some c' ∧ c'.2.1 ≤ c.2.1
/-- a taking made day by day with the best card -/
inductive Gr (cs : List Card) : List Int → List Int → List (Option Nat) → Prop
  | nil {left : List Int} : Gr cs left [] []
  | no {left : List Int} {d : Int} {ds : List Int} {ts : List (Option Nat)} : Best cs left d none → Gr cs left ds ts → Gr cs left (d :: ds) (none :: ts)
  | yes {left : List Int} {d : Int} {ds : List Int} {ts : List (Option Nat)} {i : Nat} {l : Int} : Best cs left d (some i) → left[i]? = some l → Gr cs (left.set i (l - 1)) ds ts → Gr cs left (d :: ds) (some i :: ts)
variable {cs : List Card} {left ds : List Int} {ts : List (Option Nat)}
theorem set_ge {left : List Int} (h : ∀ l ∈ left, 0 ≤ l) {i : Nat} {l : Int} (hl : 0 < l) : ∀ x ∈ left.set i (l - 1), 0 ≤ x := fun x hx => by
  rcases List.mem_or_eq_of_mem_set hx with q | q
  · exact h x q
  · omega
theorem get_set {left : List Int} {i : Nat} {l : Int} (e : left[i]? = some l) (x : Int) (j : Nat) : (left.set i x)[j]? = if i = j then some x else left[j]? := by
  have hi : i < left.length := (List.getElem?_eq_some_iff.mp e).1
  rw [List.getElem?_set]
  by_cases c : i = j
  · subst c; simp [hi]
  · simp [c]
theorem Best.pos {r : Option Nat} {d : Int} {i : Nat} {l : Int} (b : Best cs left d r) (hr : r = some i) (e : left[i]? = some l) : 0 < l := by
  obtain ⟨_, c, l', _, e', p, _⟩ := b.got i hr
  rw [e] at e'; cases e'; exact p
theorem Gr.valid (g : Gr cs left ds ts) : ∀ d i, (d, some i) ∈ ds.zip ts → ∃ c, cs[i]? = some c ∧ vld c d = true := by
  induction g with
  | nil => exact fun d i h => by simp at h
  | no b g ih =>
    intro d i h
    simp only [List.zip_cons_cons, List.mem_cons] at h
    rcases h with h | h
    · cases h
    · exact ih d i h
  | yes b e g ih =>
    intro d i h
    simp only [List.zip_cons_cons, List.mem_cons] at h
    rcases h with h | h
    · cases h
      obtain ⟨_, c, l', e1, _, _, v⟩ := b.got _ rfl
      exact ⟨c, e1, v⟩
    · exact ih d i h
theorem Gr.count (g : Gr cs left ds ts) : ∀ i l, (∀ x ∈ left, 0 ≤ x) → left[i]? = some l → (ts.count (some i) : Int) ≤ l := by
  induction g with
  | nil => exact fun i l h e => by simpa using h l (List.mem_of_getElem? e)
  | no b g ih =>
    intro i l h e
    rw [List.count_cons]
    simpa using ih i l h e
  | @yes left d ds ts j m b e g ih =>
    intro i l h e'
    rw [List.count_cons]
    have p := b.pos rfl e
    by_cases c : j = i
    · subst c
      rw [e] at e'; cases e'
      have := ih j (m - 1) (set_ge h p) (by rw [get_set e, if_pos rfl])
      simp
      omega
    · have := ih i l (set_ge h p) (by rw [get_set e, if_neg c]; exact e')
      have c2 : (some j == some i) = false := by simpa using c
      rw [c2]
      simpa using this
/-- while a card's turns last, the best card ends no later than it -/
theorem Gr.spare (g : Gr cs left ds ts) : ∀ (u : Nat) (c : Card) (l : Int), (∀ x ∈ left, 0 ≤ x) → cs[u]? = some c → left[u]? = some l → (ts.count (some u) : Int) < l →
    ∀ d o, (d, o) ∈ ds.zip ts → vld c d = true → ∃ i c', o = some i ∧ cs[i]? = some c' ∧ c'.2.1 ≤ c.2.1 := by
  induction g with
  | nil => exact fun u c l _ _ _ _ d o h => by simp at h
  | no b g ih =>
    intro u c l h0 e el k d o h v
    rw [List.count_cons] at k
    simp only [List.zip_cons_cons, List.mem_cons] at h
    rcases h with h | h
    · cases h
      exact b.least u c l e el (by omega) v
    · exact ih u c l h0 e el (by simpa using k) d o h v
  | @yes left d1 ds ts j m b e1 g ih =>
    intro u c l h0 e el k d o h v
    rw [List.count_cons] at k
    simp only [List.zip_cons_cons, List.mem_cons] at h
    have p := b.pos rfl e1
    rcases h with h | h
    · cases h
      exact b.least u c l e el (by omega) v
    · by_cases q : j = u
      · subst q
        rw [e1] at el; cases el
        exact ih j c (m - 1) (set_ge h0 p) e (by rw [get_set e1, if_pos rfl]) (by simp at k; omega) d o h v
      · have c2 : (some j == some u) = false := by simpa using q
        rw [c2] at k
        exact ih u c l (set_ge h0 p) e (by rw [get_set e1, if_neg q]; exact el) (by simpa using k) d o h v
theorem count_pos_of_zip {d : Int} {g : Nat} (h : (d, some g) ∈ ds.zip ts) : 0 < ts.count (some g) := List.count_pos_iff.mpr (List.of_mem_zip h).2
/-- before a card takes a later day, the best card ends no later than it -/
theorem Gr.later (g : Gr cs left ds ts) : ∀ (u : Nat) (c : Card) (y : Int), (∀ x ∈ left, 0 ≤ x) → left.length = cs.length → ds.Pairwise (· ≤ ·) → cs[u]? = some c → (y, some u) ∈ ds.zip ts →
    ∀ d o, d < y → (d, o) ∈ ds.zip ts → vld c d = true → ∃ i c', o = some i ∧ cs[i]? = some c' ∧ c'.2.1 ≤ c.2.1 := by
  induction g with
  | nil => exact fun u c y _ _ _ _ h => by simp at h
  | @no left d1 ds ts b g ih =>
    intro u c y h0 hl so e hy d o lt h v
    rw [List.pairwise_cons] at so
    simp only [List.zip_cons_cons, List.mem_cons] at h hy
    rcases hy with hy | hy
    · cases hy
    rcases h with h | h
    · cases h
      have hu : u < left.length := by rw [hl]; exact (List.getElem?_eq_some_iff.mp e).1
      have el : left[u]? = some left[u] := List.getElem?_eq_getElem hu
      have := g.count u _ h0 el
      have := count_pos_of_zip hy
      exact b.least u c _ e el (by omega) v
    · exact ih u c y h0 hl so.2 e hy d o lt h v
  | @yes left d1 ds ts j m b e1 g ih =>
    intro u c y h0 hl so e hy d o lt h v
    rw [List.pairwise_cons] at so
    simp only [List.zip_cons_cons, List.mem_cons] at h hy
    have p := b.pos rfl e1
    have hu : u < left.length := by rw [hl]; exact (List.getElem?_eq_some_iff.mp e).1
    have el : left[u]? = some left[u] := List.getElem?_eq_getElem hu
    rcases h with h | h
    · cases h
      rcases hy with hy | hy
      · cases hy; omega
      have k := count_pos_of_zip hy
      refine b.least u c _ e el ?_ v
      by_cases q : j = u
      · subst q
        rw [e1] at el
        have := Option.some.inj el
        omega
      · have := g.count u _ (set_ge h0 p) (by rw [get_set e1, if_neg q]; exact el)
        omega
    · rcases hy with hy | hy
      · cases hy
        have := so.1 d (List.of_mem_zip h).1
        omega
      · exact ih u c y (set_ge h0 p) (by rw [List.length_set]; exact hl) so.2 e hy d o lt h v
/-- from a day to the days that a card valid there takes -/
def Step (cs : List Card) (ds : List Int) (ts : List (Option Nat)) (d d' : Int) : Prop := ∃ i c, cs[i]? = some c ∧ vld c d = true ∧ (d', some i) ∈ ds.zip ts
inductive Rch (cs : List Card) (ds : List Int) (ts : List (Option Nat)) (u : Card) : Int → Prop
  | here {d : Int} : vld u d = true → Rch cs ds ts u d
  | step {d d' : Int} : Step cs ds ts d d' → Rch cs ds ts u d' → Rch cs ds ts u d
def Cov (cs : List Card) (ds : List Int) (ts : List (Option Nat)) (t x : Int) : Prop := ∃ (g : Nat) (c : Card) (y : Int), cs[g]? = some c ∧ vld c x = true ∧ c.2.1 ≤ t ∧ x < y ∧ (y, some g) ∈ ds.zip ts
theorem Gr.back (g : Gr cs left ds ts) (h0 : ∀ x ∈ left, 0 ≤ x) (hl : left.length = cs.length) (so : ds.Pairwise (· ≤ ·)) {u : Nat} {c : Card} {l : Int} (e : cs[u]? = some c) (el : left[u]? = some l) (k : (ts.count (some u) : Int) < l) :
    ∀ d, Rch cs ds ts c d → vld c d = true ∨ (d < c.1 ∧ ∀ x, d ≤ x → x < c.1 → Cov cs ds ts c.2.1 x) := by
  intro d r
  induction r with
  | here v => exact .inl v
  | @step d d' st r ih =>
    obtain ⟨i, ci, ei, vi, hz⟩ := st
    obtain ⟨ci', ei', vi'⟩ := g.valid _ _ hz
    rw [ei] at ei'; cases ei'
    rw [vld_iff] at vi vi'
    rcases ih with v | ⟨lt, cov⟩
    · obtain ⟨i2, c2, q1, q2, q3⟩ := g.spare u c l h0 e el k _ _ hz v
      cases q1
      rw [ei] at q2; cases q2
      rw [vld_iff] at v
      by_cases hs : c.1 ≤ d
      · exact .inl (vld_iff.mpr ⟨hs, by omega⟩)
      · exact .inr ⟨by omega, fun x h1 h2 => ⟨i, ci, d', ei, vld_iff.mpr ⟨by omega, by omega⟩, q3, by omega, hz⟩⟩
    · obtain ⟨g1, c1, y, e1, v1, t1, lt1, hz1⟩ := cov d' (Int.le_refl _) lt
      obtain ⟨i2, c2, q1, q2, q3⟩ := g.later g1 c1 y h0 hl so e1 hz1 d' _ lt1 hz v1
      cases q1
      rw [ei] at q2; cases q2
      by_cases hs : c.1 ≤ d
      · exact .inl (vld_iff.mpr ⟨hs, by omega⟩)
      · refine .inr ⟨by omega, fun x h1 h2 => ?_⟩
        by_cases hx : d' ≤ x
        · exact cov x hx h2
        · exact ⟨i, ci, d', ei, vld_iff.mpr ⟨by omega, by omega⟩, by omega, by omega, hz⟩
/-- a lost coming reaches no card that has turns left -/
theorem Gr.no_reach (g : Gr cs left ds ts) (h0 : ∀ x ∈ left, 0 ≤ x) (hl : left.length = cs.length) (so : ds.Pairwise (· ≤ ·)) {u : Nat} {c : Card} {l : Int} (e : cs[u]? = some c) (el : left[u]? = some l) (k : (ts.count (some u) : Int) < l) {d : Int}
    (hd : (d, none) ∈ ds.zip ts) : ¬ Rch cs ds ts c d := fun r => by
  rcases g.back h0 hl so e el k d r with v | ⟨lt, cov⟩
  · obtain ⟨_, _, q, _⟩ := g.spare u c l h0 e el k _ _ hd v
    cases q
  · obtain ⟨g1, c1, y, e1, v1, t1, lt1, hz1⟩ := cov d (Int.le_refl _) lt
    obtain ⟨_, _, q, _⟩ := g.later g1 c1 y h0 hl so e1 hz1 d _ lt1 hd v1
    cases q
/-- the turns in left of the cards that meet p -/
def wsum (p : Card → Bool) : List Card → List Int → Int
  | c :: cs, l :: ls => (if p c then l else 0) + wsum p cs ls
  | _, _ => 0
theorem wsum_set (p : Card → Bool) : ∀ (cs : List Card) (left : List Int) (i : Nat) (c : Card) (l x : Int), cs[i]? = some c → left[i]? = some l → wsum p cs (left.set i x) = wsum p cs left + if p c then x - l else 0
  | [], _, i, c, l, x, e, _ => by simp at e
  | _ :: _, [], i, c, l, x, _, e => by simp at e
  | c1 :: cs, l1 :: ls, 0, c, l, x, e, el => by
    simp at e el
    subst e; subst el
    simp only [List.set_cons_zero, wsum]
    split <;> omega
  | c1 :: cs, l1 :: ls, i + 1, c, l, x, e, el => by
    simp at e el
    simp only [List.set_cons_succ, wsum]
    have := wsum_set p cs ls i c l x e el
    omega
/-- p: the cards that touch the days Y -/
def Touch (p : Card → Bool) (Y : Int → Bool) : Prop := ∀ c d, Y d = true → vld c d = true → p c = true
theorem wsum_nonneg (p : Card → Bool) : ∀ (cs : List Card) (left : List Int), (∀ x ∈ left, 0 ≤ x) → 0 ≤ wsum p cs left
  | [], _, _ => by simp [wsum]
  | _ :: _, [], _ => by simp [wsum]
  | c :: cs, l :: ls, h => by
    simp only [wsum]
    have := wsum_nonneg p cs ls fun x hx => h x (List.mem_cons_of_mem _ hx)
    have := h l List.mem_cons_self
    split <;> omega
theorem Gr.weak (g : Gr cs left ds ts) {p : Card → Bool} {Y : Int → Bool} (hp : Touch p Y) (h0 : ∀ x ∈ left, 0 ≤ x) : (ds.countP Y : Int) ≤ (ts.count none : Int) + wsum p cs left := by
  induction g with
  | nil => simpa using wsum_nonneg p cs _ h0
  | @no left d ds ts b g ih =>
    have := ih h0
    rw [List.countP_cons, List.count_cons]
    simp
    split <;> omega
  | @yes left d ds ts i l b e g ih =>
    have := ih (set_ge h0 (b.pos rfl e))
    obtain ⟨_, c, l', e1, e2, pl, v⟩ := b.got i rfl
    rw [e] at e2; cases e2
    rw [wsum_set p cs left i c l (l - 1) e1 e] at this
    rw [List.countP_cons, List.count_cons]
    simp
    by_cases y : Y d = true
    · rw [hp c d y v] at this
      simp at this
      rw [if_pos y]
      omega
    · rw [if_neg y]
      split at this <;> omega
theorem wsum_zero (p : Card → Bool) : ∀ (cs : List Card) (left : List Int), (∀ (i : Nat) (c : Card) (l : Int), cs[i]? = some c → left[i]? = some l → p c = true → l = 0) → wsum p cs left = 0
  | [], _, _ => by simp [wsum]
  | _ :: _, [], _ => by simp [wsum]
  | c :: cs, l :: ls, h => by
    simp only [wsum]
    rw [wsum_zero p cs ls fun i c l e1 e2 => h (i + 1) c l (by simpa using e1) (by simpa using e2)]
    have := h 0 c l rfl rfl
    split
    · rename_i q; rw [this q]; rfl
    · rfl
theorem Gr.strong (g : Gr cs left ds ts) {p : Card → Bool} {Y : Int → Bool} (hl : ∀ d, (d, none) ∈ ds.zip ts → Y d = true) (ht : ∀ d i c, (d, some i) ∈ ds.zip ts → cs[i]? = some c → p c = true → Y d = true)
    (hx : ∀ (i : Nat) (c : Card) (l : Int), cs[i]? = some c → left[i]? = some l → p c = true → (ts.count (some i) : Int) = l) : (ts.count none : Int) + wsum p cs left ≤ (ds.countP Y : Int) := by
  induction g with
  | nil =>
    rw [wsum_zero p cs _ fun i c l e1 e2 q => by simpa using (hx i c l e1 e2 q).symm]
    simp
  | @no left d ds ts b g ih =>
    have := ih (fun d h => hl d (by simp [h])) (fun d i c h => ht d i c (by simp [h])) fun i c l e1 e2 q => by
      have := hx i c l e1 e2 q
      rw [List.count_cons] at this
      simpa using this
    have y := hl d (by simp)
    rw [List.countP_cons, List.count_cons, if_pos y]
    simp
    omega
  | @yes left d ds ts i l b e g ih =>
    obtain ⟨_, c, l', e1, e2, pl, v⟩ := b.got i rfl
    rw [e] at e2; cases e2
    have := ih (fun d h => hl d (by simp [h])) (fun d i c h => ht d i c (by simp [h])) fun j c' l2 q1 q2 q => by
      rw [get_set e] at q2
      by_cases ij : i = j
      · subst ij
        rw [if_pos rfl] at q2
        cases q2
        have := hx i c' l q1 e q
        rw [List.count_cons] at this
        simp at this
        omega
      · rw [if_neg ij] at q2
        have := hx j c' l2 q1 q2 q
        rw [List.count_cons] at this
        have c2 : (some i == some j) = false := by simpa using ij
        rw [c2] at this
        simpa using this
    rw [wsum_set p cs left i c l (l - 1) e1 e] at this
    rw [List.countP_cons, List.count_cons]
    simp
    by_cases q : p c = true
    · have y := ht d i c (by simp) e1 q
      rw [if_pos q] at this
      rw [if_pos y]
      omega
    · rw [if_neg q] at this
      split <;> omega
/-- the closure's paper: lost days, closed, and nothing but what is reached -/
structure Paper (cs : List Card) (ds : List Int) (ts : List (Option Nat)) (Y : Int → Bool) : Prop where
  lost : ∀ d, (d, none) ∈ ds.zip ts → Y d = true
  closed : ∀ d d', Y d = true → Step cs ds ts d d' → Y d' = true
  least : ∀ N : Int → Prop, (∀ d, (d, none) ∈ ds.zip ts → N d) → (∀ d d', N d → Step cs ds ts d d' → N d') → ∀ d, Y d = true → N d
def touch (Y : List Int) (c : Card) : Bool := Y.any (vld c)
theorem Gr.best (g : Gr cs left ds ts) (h0 : ∀ x ∈ left, 0 ≤ x) (hl : left.length = cs.length) (so : ds.Pairwise (· ≤ ·)) {Y : List Int} (P : Paper cs ds ts fun d => decide (d ∈ Y)) :
    (ts.count none : Int) + wsum (touch Y) cs left = (ds.countP fun d => decide (d ∈ Y) : Int) := by
  refine Int.le_antisymm (g.strong P.lost (fun d i c h e q => ?_) fun i c l e el q => ?_) (g.weak (fun c d y v => ?_) h0)
  · obtain ⟨d0, m, v⟩ := List.any_eq_true.mp q
    exact P.closed d0 d (by simpa using m) ⟨i, c, e, v, h⟩
  · refine Int.le_antisymm (g.count i l h0 el) (Int.not_lt.mp fun k => ?_)
    obtain ⟨d0, m, v⟩ := List.any_eq_true.mp q
    refine P.least (fun d => ¬ Rch cs ds ts c d) (fun d hd => g.no_reach h0 hl so e el k hd) (fun d d' n st r => n (.step st r)) d0 (by simpa using m) (.here v)
  · exact List.any_eq_true.mpr ⟨d, by simpa using y, v⟩
/-! ### the program's own taking -/
def bstep (all : List Card) (left : List Int) (d : Int) (i : Nat) (c : Card) (f : Option Nat) : Option Nat :=
  if (decide (0 < left.getD i 0) && vld c d) && (match f with | none => true | some j => decide (c.2.1 < (all.getD j (0, 0, 0)).2.1)) then some i else f
theorem bstep_or {all : List Card} {left : List Int} {d : Int} {i : Nat} {c : Card} {f : Option Nat} : bstep all left d i c f = some i ∨ bstep all left d i c f = f := by
  unfold bstep
  generalize ((decide (0 < left.getD i 0) && vld c d) && (match f with | none => true | some j => decide (c.2.1 < (all.getD j (0, 0, 0)).2.1))) = q
  cases q
  · exact .inr rfl
  · exact .inl rfl
def bestGo (all : List Card) (left : List Int) (d : Int) : Nat → List Card → Option Nat → Option Nat
  | _, [], f => f
  | i, c :: cs, f => bestGo all left d (i + 1) cs (bstep all left d i c f)
def bestF (cs : List Card) (left : List Int) (d : Int) : Option Nat := bestGo cs left d 0 cs none
structure BestTo (cs : List Card) (left : List Int) (d : Int) (n : Nat) (r : Option Nat) : Prop where
  got : ∀ i, r = some i → i < cs.length ∧ ∃ c l, cs[i]? = some c ∧ left[i]? = some l ∧ 0 < l ∧ vld c d = true
  least : ∀ (j : Nat) (c : Card) (l : Int), j < n → cs[j]? = some c → left[j]? = some l → 0 < l → vld c d = true → ∃ i c', r = some i ∧ cs[i]? = some c' ∧ c'.2.1 ≤ c.2.1
theorem getD_of {β : Type} {xs : List β} {i : Nat} {x z : β} (h : xs[i]? = some x) : xs.getD i z = x := by
  rw [List.getD_eq_getElem?_getD, h]; rfl
theorem bestGo_ok {cs : List Card} {left : List Int} {d : Int} (hl : left.length = cs.length) : ∀ (rest : List Card) (i : Nat) (f : Option Nat), cs.drop i = rest → BestTo cs left d i f → BestTo cs left d cs.length (bestGo cs left d i rest f)
  | [], i, f, e, b => ⟨b.got, fun j c l _ e1 => b.least j c l (by
      have := (List.getElem?_eq_some_iff.mp e1).1
      have := List.drop_eq_nil_iff.mp e
      omega) e1⟩
  | c :: rest, i, f, e, b => by
    unfold bestGo
    have hi : i < cs.length := by
      have := congrArg List.length e
      simp at this
      omega
    have ec : cs[i]? = some c := by
      have := congrArg (·[0]?) e
      simpa [List.getElem?_drop] using this
    have er : cs.drop (i + 1) = rest := by
      have := congrArg List.tail e
      simpa [List.tail_drop] using this
    have hil : i < left.length := by omega
    have el : left[i]? = some left[i] := List.getElem?_eq_getElem hil
    have eg : left.getD i 0 = left[i] := getD_of el
    refine bestGo_ok hl rest (i + 1) _ er ?_
    unfold bstep
    by_cases q : 0 < left[i] ∧ vld c d = true
    · obtain ⟨q1, q2⟩ := q
      rw [eg, q2, decide_eq_true q1]
      simp only [Bool.and_self, Bool.true_and]
      cases f with
      | none =>
        simp only [if_true]
        refine ⟨fun k hk => by cases hk; exact ⟨hi, c, _, ec, el, q1, q2⟩, fun j cj l lt e1 e2 p v => ?_⟩
        by_cases h : j = i
        · subst h
          rw [ec] at e1; cases e1
          exact ⟨_, _, rfl, ec, Int.le_refl _⟩
        · obtain ⟨_, _, z, _⟩ := b.least j cj l (by omega) e1 e2 p v
          cases z
      | some k =>
        obtain ⟨hk, ck, lk, ek, ekl, pk, vk⟩ := b.got k rfl
        simp only [getD_of ek]
        by_cases lt : c.2.1 < ck.2.1
        · rw [decide_eq_true lt, if_pos rfl]
          refine ⟨fun k hk => by cases hk; exact ⟨hi, c, _, ec, el, q1, q2⟩, fun j cj l ltj e1 e2 p v => ?_⟩
          by_cases h : j = i
          · subst h
            rw [ec] at e1; cases e1
            exact ⟨_, _, rfl, ec, Int.le_refl _⟩
          · obtain ⟨k', c', z1, z2, z3⟩ := b.least j cj l (by omega) e1 e2 p v
            cases z1
            rw [ek] at z2; cases z2
            exact ⟨_, _, rfl, ec, by omega⟩
        · rw [decide_eq_false lt]
          simp only [Bool.false_eq_true, if_false]
          refine ⟨b.got, fun j cj l ltj e1 e2 p v => ?_⟩
          by_cases h : j = i
          · subst h
            rw [ec] at e1; cases e1
            exact ⟨_, _, rfl, ek, by omega⟩
          · exact b.least j cj l (by omega) e1 e2 p v
    · have : (decide (0 < left.getD i 0) && vld c d) = false := by
        rw [eg]
        by_cases q1 : 0 < left[i]
        · have : vld c d = false := by simpa [q1] using q
          rw [this]; simp
        · rw [decide_eq_false q1]; rfl
      rw [this]
      simp only [Bool.false_and, Bool.false_eq_true, if_false]
      refine ⟨b.got, fun j cj l ltj e1 e2 p v => ?_⟩
      by_cases h : j = i
      · subst h
        rw [ec] at e1; cases e1
        rw [el] at e2; cases e2
        exact absurd ⟨p, v⟩ q
      · exact b.least j cj l (by omega) e1 e2 p v
theorem bestF_ok {cs : List Card} {left : List Int} (hl : left.length = cs.length) (d : Int) : Best cs left d (bestF cs left d) := by
  have b := bestGo_ok (d := d) hl cs 0 none rfl ⟨(fun i h => nomatch h), (fun j c l h => by omega)⟩
  exact ⟨b.got, fun j c l e1 => b.least j c l (List.getElem?_eq_some_iff.mp e1).1 e1⟩
def takeF (cs : List Card) : List Int → List Int → List (Option Nat)
  | _, [] => []
  | left, d :: ds => match bestF cs left d with
    | none => none :: takeF cs left ds
    | some i => some i :: takeF cs (left.set i (left.getD i 0 - 1)) ds
theorem gr_takeF {cs : List Card} : ∀ (ds left : List Int), left.length = cs.length → Gr cs left ds (takeF cs left ds)
  | [], left, _ => .nil
  | d :: ds, left, hl => by
    have b := bestF_ok hl d
    unfold takeF
    cases h : bestF cs left d with
    | none =>
      rw [h] at b
      exact .no b (gr_takeF ds left hl)
    | some i =>
      rw [h] at b
      obtain ⟨hi, c, l, e1, e2, _⟩ := b.got i rfl
      show Gr cs left (d :: ds) (some i :: takeF cs (left.set i (left.getD i 0 - 1)) ds)
      rw [getD_of e2]
      exact .yes b e2 (gr_takeF ds _ (by rw [List.length_set]; exact hl))
def trn (c : Card) : Int := c.2.2
def tk (cs : List Card) (ds : List Int) : List (Option Nat) := takeF cs (cs.map trn) ds
def lostF (cs : List Card) (ds : List Int) : Nat := (tk cs ds).count none
def wsumF (cs : List Card) (Y : List Int) : Int := ((cs.filter (touch Y)).map trn).sum
def worthF (cs : List Card) (ds : List Int) (Y : List Int) : Int := max 0 ((ds.countP fun d => decide (d ∈ Y) : Nat) - wsumF cs Y)
theorem wsum_map (p : Card → Bool) : ∀ cs : List Card, wsum p cs (cs.map trn) = ((cs.filter p).map trn).sum
  | [] => rfl
  | c :: cs => by
    simp only [List.map_cons, wsum, List.filter_cons, wsum_map p cs]
    split <;> simp
def Turns (cs : List Card) : Prop := ∀ c ∈ cs, 0 ≤ trn c
theorem turns_left {cs : List Card} (h : Turns cs) : ∀ x ∈ cs.map trn, 0 ≤ x := fun x hx => by
  obtain ⟨c, hc, rfl⟩ := List.mem_map.mp hx
  exact h c hc
theorem gr_tk (cs : List Card) (ds : List Int) : Gr cs (cs.map trn) ds (tk cs ds) := gr_takeF ds _ (by simp)
theorem touch_ok (Y : List Int) : Touch (touch Y) fun d => decide (d ∈ Y) := fun c d y v => List.any_eq_true.mpr ⟨d, by simpa using y, v⟩
theorem worth_le {cs : List Card} {ds : List Int} (h : Turns cs) (Y : List Int) : worthF cs ds Y ≤ lostF cs ds := by
  have := (gr_tk cs ds).weak (touch_ok Y) (turns_left h)
  rw [wsum_map] at this
  unfold worthF wsumF lostF
  omega
theorem worth_paper {cs : List Card} {ds : List Int} (h : Turns cs) (so : ds.Pairwise (· ≤ ·)) {Y : List Int} (P : Paper cs ds (tk cs ds) fun d => decide (d ∈ Y)) : worthF cs ds Y = lostF cs ds := by
  have := (gr_tk cs ds).best (turns_left h) (by simp) so P
  rw [wsum_map] at this
  unfold worthF wsumF lostF
  omega
inductive Cl (cs : List Card) (ds : List Int) (ts : List (Option Nat)) : Int → Prop
  | lost {d : Int} : (d, none) ∈ ds.zip ts → Cl cs ds ts d
  | step {d d' : Int} : Cl cs ds ts d → Step cs ds ts d d' → Cl cs ds ts d'
theorem Cl.mem {cs : List Card} {ds : List Int} {ts : List (Option Nat)} {d : Int} (h : Cl cs ds ts d) : d ∈ ds := by
  cases h with
  | lost h => exact (List.of_mem_zip h).1
  | step _ st =>
    obtain ⟨i, c, _, _, h⟩ := st
    exact (List.of_mem_zip h).1
open Classical in
theorem paper_is (cs : List Card) (ds : List Int) (ts : List (Option Nat)) : ∃ Y : List Int, Paper cs ds ts fun d => decide (d ∈ Y) := by
  refine ⟨ds.filter fun d => decide (Cl cs ds ts d), ?_, ?_, ?_⟩
  · intro d h
    have c : Cl cs ds ts d := .lost h
    simp [c, c.mem]
  · intro d d' h st
    have c : Cl cs ds ts d := by
      have := of_decide_eq_true h
      simpa using (List.mem_filter.mp this).2
    have c' := c.step st
    simp [c', c'.mem]
  · intro N h1 h2 d h
    have c : Cl cs ds ts d := by
      have := of_decide_eq_true h
      simpa using (List.mem_filter.mp this).2
    induction c with
    | lost hq => exact h1 _ hq
    | step c st ih => exact h2 _ _ (ih (by simp [c, c.mem])) st
theorem lost_le {A B : List Card} {ds es : List Int} {k : Int} (hA : Turns A) (hB : Turns B) (so : ds.Pairwise (· ≤ ·)) (h : ∀ Y, worthF A ds Y ≤ worthF B es Y + k) : (lostF A ds : Int) ≤ lostF B es + k := by
  obtain ⟨Y, P⟩ := paper_is A ds (tk A ds)
  rw [← worth_paper hA so P]
  have := worth_le (ds := es) hB Y
  have := h Y
  omega
/-! ### the law's comparisons -/
theorem wsumF_app (A B : List Card) (Y : List Int) : wsumF (A ++ B) Y = wsumF A Y + wsumF B Y := by simp [wsumF]
theorem wsumF_cons (c : Card) (B : List Card) (Y : List Int) : wsumF (c :: B) Y = (if touch Y c then trn c else 0) + wsumF B Y := by
  unfold wsumF
  rw [List.filter_cons]
  split <;> simp
theorem wsumF_nil (Y : List Int) : wsumF [] Y = 0 := rfl
theorem touch_turns (Y : List Int) (f l s t : Int) : touch Y (f, l, s) = touch Y (f, l, t) := rfl
section
variable {A B : List Card} {ds : List Int} {f l t : Int}
theorem T_app {A B : List Card} : Turns (A ++ B) ↔ Turns A ∧ Turns B := by simp [Turns, or_imp, forall_and]
theorem T_cons {c : Card} {B : List Card} : Turns (c :: B) ↔ 0 ≤ trn c ∧ Turns B := by simp [Turns]
theorem T_nil : Turns [] := fun c h => by simp at h
theorem law_more (hA : Turns A) (hB : Turns B) (ht : 0 ≤ t) (so : ds.Pairwise (· ≤ ·)) :
    lostF (A ++ ((f, l, t + 1) :: B)) ds ≤ lostF (A ++ ((f, l, t) :: B)) ds ∧ (lostF (A ++ ((f, l, t) :: B)) ds : Int) - 1 ≤ lostF (A ++ ((f, l, t + 1) :: B)) ds := by
  have t1 : Turns (A ++ ((f, l, t) :: B)) := T_app.mpr ⟨hA, T_cons.mpr ⟨ht, hB⟩⟩
  have t2 : Turns (A ++ ((f, l, t + 1) :: B)) := T_app.mpr ⟨hA, T_cons.mpr ⟨by show 0 ≤ t + 1; omega, hB⟩⟩
  have a := lost_le (k := 0) (es := ds) t2 t1 so fun Y => by
    unfold worthF
    rw [wsumF_app, wsumF_app, wsumF_cons, wsumF_cons, touch_turns Y f l (t + 1) t]
    simp only [trn]
    split <;> omega
  have b := lost_le (k := 1) (es := ds) t1 t2 so fun Y => by
    unfold worthF
    rw [wsumF_app, wsumF_app, wsumF_cons, wsumF_cons, touch_turns Y f l (t + 1) t]
    simp only [trn]
    split <;> omega
  omega
theorem law_wide (hA : Turns A) (hB : Turns B) (ht : 0 ≤ t) (so : ds.Pairwise (· ≤ ·)) {f' l' : Int} (h1 : f' ≤ f) (h2 : l ≤ l') : lostF (A ++ ((f', l', t) :: B)) ds ≤ lostF (A ++ ((f, l, t) :: B)) ds := by
  have t1 : Turns (A ++ ((f, l, t) :: B)) := T_app.mpr ⟨hA, T_cons.mpr ⟨ht, hB⟩⟩
  have t2 : Turns (A ++ ((f', l', t) :: B)) := T_app.mpr ⟨hA, T_cons.mpr ⟨ht, hB⟩⟩
  have a := lost_le (k := 0) (es := ds) t2 t1 so fun Y => by
    unfold worthF
    rw [wsumF_app, wsumF_app, wsumF_cons, wsumF_cons]
    have : touch Y (f, l, t) = true → touch Y (f', l', t) = true := fun q => by
      obtain ⟨d, m, v⟩ := List.any_eq_true.mp q
      rw [vld_iff] at v
      exact List.any_eq_true.mpr ⟨d, m, vld_iff.mpr ⟨by have := v.1; simp at this ⊢; omega, by have := v.2; simp at this ⊢; omega⟩⟩
    simp only [trn]
    by_cases q : touch Y (f, l, t) = true
    · rw [q, this q]; omega
    · rw [if_neg q]
      split <;> omega
  omega
theorem law_fewer (hA : Turns A) (hB : Turns B) (ht : 0 ≤ t) (so : ds.Pairwise (· ≤ ·)) :
    lostF (A ++ ((f, l, t) :: B)) ds ≤ lostF (A ++ B) ds ∧ (lostF (A ++ B) ds : Int) ≤ lostF (A ++ ((f, l, t) :: B)) ds + t := by
  have t1 : Turns (A ++ ((f, l, t) :: B)) := T_app.mpr ⟨hA, T_cons.mpr ⟨ht, hB⟩⟩
  have t2 : Turns (A ++ B) := T_app.mpr ⟨hA, hB⟩
  have a := lost_le (k := 0) (es := ds) t1 t2 so fun Y => by
    unfold worthF
    rw [wsumF_app, wsumF_app, wsumF_cons]
    simp only [trn]
    split <;> omega
  have b := lost_le (k := t) (es := ds) t2 t1 so fun Y => by
    unfold worthF
    rw [wsumF_app, wsumF_app, wsumF_cons]
    simp only [trn]
    split <;> omega
  omega
theorem law_split (hA : Turns A) (hB : Turns B) {p : Int} (hp : 0 ≤ p) (hq : p ≤ t) (so : ds.Pairwise (· ≤ ·)) :
    lostF (A ++ ((f, l, p) :: (f, l, t - p) :: B)) ds = lostF (A ++ ((f, l, t) :: B)) ds := by
  have t1 : Turns (A ++ ((f, l, t) :: B)) := T_app.mpr ⟨hA, T_cons.mpr ⟨by show 0 ≤ t; omega, hB⟩⟩
  have t2 : Turns (A ++ ((f, l, p) :: (f, l, t - p) :: B)) := T_app.mpr ⟨hA, T_cons.mpr ⟨hp, T_cons.mpr ⟨by show 0 ≤ t - p; omega, hB⟩⟩⟩
  have e : ∀ Y, worthF (A ++ ((f, l, t) :: B)) ds Y = worthF (A ++ ((f, l, p) :: (f, l, t - p) :: B)) ds Y := fun Y => by
    unfold worthF
    rw [wsumF_app, wsumF_app, wsumF_cons, wsumF_cons, wsumF_cons, touch_turns Y f l p t, touch_turns Y f l (t - p) t]
    simp only [trn]
    split <;> omega
  have a := lost_le (k := 0) (es := ds) t1 t2 so fun Y => by rw [e Y]; omega
  have b := lost_le (k := 0) (es := ds) t2 t1 so fun Y => by rw [e Y]; omega
  omega
theorem law_less {cs : List Card} (h : Turns cs) {d1 d2 : List Int} {d : Int} (so : (d1 ++ d :: d2).Pairwise (· ≤ ·)) :
    lostF cs (d1 ++ d2) ≤ lostF cs (d1 ++ d :: d2) ∧ (lostF cs (d1 ++ d :: d2) : Int) - 1 ≤ lostF cs (d1 ++ d2) := by
  have so2 : (d1 ++ d2).Pairwise (· ≤ ·) := so.sublist (List.Sublist.append_left (List.sublist_cons_self d d2) d1)
  have c : ∀ Y : List Int, ((d1 ++ d :: d2).countP fun d => decide (d ∈ Y)) = ((d1 ++ d2).countP fun d => decide (d ∈ Y)) + if d ∈ Y then 1 else 0 := fun Y => by
    rw [List.countP_append, List.countP_append, List.countP_cons]
    simp
    omega
  have a := lost_le (k := 0) (es := d1 ++ d :: d2) h h so2 fun Y => by
    unfold worthF
    rw [c Y]
    split <;> omega
  have b := lost_le (k := 1) (es := d1 ++ d2) h h so fun Y => by
    unfold worthF
    rw [c Y]
    split <;> omega
  omega
theorem lost_none (ds : List Int) : lostF [] ds = ds.length := by
  have : ∀ ds : List Int, takeF [] [] ds = ds.map fun _ => none := fun ds => by
    induction ds with
    | nil => rfl
    | cons d ds ih => simp [takeF, bestF, bestGo, ih]
  unfold lostF tk
  simp [this, List.map_const']
theorem lost_nil (cs : List Card) : lostF cs [] = 0 := rfl
theorem worth_all (ds Y : List Int) (h : ∀ d ∈ ds, d ∈ Y) : worthF [] ds Y = ds.length := by
  unfold worthF
  rw [wsumF_nil, List.countP_eq_length.mpr fun d hd => by simpa using h d hd]
  omega
end
end TT
end

section
set_option Elab.async false
set_option linter.all false
/-! K26N: the closure of lost days under the taking. -/
namespace TT
open PL
theorem isort_perm' (ns : List Int) : (isort ns).Perm ns := List.mergeSort_perm ..
theorem isort_sorted' (ns : List Int) : (isort ns).Pairwise (· ≤ ·) := by
  have h := List.pairwise_mergeSort (le := fun a b : Int => decide (a ≤ b)) (fun a b c h1 h2 => by simp only [decide_eq_true_eq] at *; omega) (fun a b => by simp only [Bool.or_eq_true, decide_eq_true_eq]; omega) ns
  exact h.imp fun q => by simpa using q
theorem nodup_ed : ∀ (n : Nat) (ms : List Int), ms.length ≤ n → ms.eraseDups.Nodup
  | _, [], _ => by rw [List.eraseDups_nil]; exact List.nodup_nil
  | 0, _ :: _, h => by simp at h
  | n + 1, a :: as, h => by
    rw [List.eraseDups_cons]
    refine List.nodup_cons.mpr ⟨fun q => ?_, nodup_ed n _ ?_⟩
    · rw [List.mem_eraseDups, List.mem_filter] at q
      simp at q
    · exact Nat.le_trans (List.length_filter_le _ _) (by simpa using h)
def srt (ns : List Int) : List Int := isort ns.eraseDups
theorem mem_srt {ns : List Int} {x : Int} : x ∈ srt ns ↔ x ∈ ns := by
  unfold srt
  rw [(isort_perm' _).mem_iff, List.mem_eraseDups]
theorem nodup_srt (ns : List Int) : (srt ns).Nodup := (isort_perm' _).nodup_iff.mpr (nodup_ed _ _ (Nat.le_refl _))
def lostL (ds : List Int) (ts : List (Option Nat)) : List Int := ((ds.zip ts).filter fun p => decide (p.2 = none)).map Prod.fst
def moreL (ds : List Int) (ts : List (Option Nat)) (i : Nat) : List Int := ((ds.zip ts).filter fun p => decide (p.2 = some i)).map Prod.fst
theorem mem_lostL {ds : List Int} {ts : List (Option Nat)} {d : Int} : d ∈ lostL ds ts ↔ (d, none) ∈ ds.zip ts := by
  unfold lostL
  rw [List.mem_map]
  constructor
  · rintro ⟨⟨a, o⟩, h, rfl⟩
    rw [List.mem_filter] at h
    have := of_decide_eq_true h.2
    simp only at this
    subst this
    exact h.1
  · exact fun h => ⟨(d, none), by rw [List.mem_filter]; exact ⟨h, by simp⟩, rfl⟩
theorem mem_moreL {ds : List Int} {ts : List (Option Nat)} {i : Nat} {d : Int} : d ∈ moreL ds ts i ↔ (d, some i) ∈ ds.zip ts := by
  unfold moreL
  rw [List.mem_map]
  constructor
  · rintro ⟨⟨a, o⟩, h, rfl⟩
    rw [List.mem_filter] at h
    have := of_decide_eq_true h.2
    simp only at this
    subst this
    exact h.1
  · exact fun h => ⟨(d, some i), by rw [List.mem_filter]; exact ⟨h, by simp⟩, rfl⟩
theorem len_lostL (ds : List Int) (ts : List (Option Nat)) : (lostL ds ts).length ≤ ds.length := by
  unfold lostL
  rw [List.length_map]
  refine Nat.le_trans (List.length_filter_le _ _) ?_
  rw [List.length_zip]
  omega
theorem len_moreL (ds : List Int) (ts : List (Option Nat)) (i : Nat) : (moreL ds ts i).length ≤ ds.length := by
  unfold moreL
  rw [List.length_map]
  refine Nat.le_trans (List.length_filter_le _ _) ?_
  rw [List.length_zip]
  omega
def extL (days more : List Int) : List Int := days ++ (srt more).filter fun x => !decide (x ∈ days)
def stepC (ds : List Int) (ts : List (Option Nat)) (d : Int) : Nat → List Card → List Int → List Int
  | _, [], days => days
  | i, c :: cs, days => stepC ds ts d (i + 1) cs (if vld c d then extL days (moreL ds ts i) else days)
theorem mem_extL {days more : List Int} {x : Int} : x ∈ extL days more ↔ x ∈ days ∨ x ∈ more := by
  unfold extL
  rw [List.mem_append, List.mem_filter, mem_srt]
  by_cases h : x ∈ days <;> simp [h]
theorem nodup_extL {days : List Int} (h : days.Nodup) (more : List Int) : (extL days more).Nodup := by
  unfold extL
  rw [List.nodup_append]
  refine ⟨h, (nodup_srt more).sublist List.filter_sublist, fun a ha b hb e => ?_⟩
  subst e
  rw [List.mem_filter] at hb
  simp [ha] at hb
section
variable {cs : List Card} {ds : List Int} {ts : List (Option Nat)}
structure Iv (cs : List Card) (ds : List Int) (ts : List (Option Nat)) (days : List Int) : Prop where
  nd : days.Nodup
  sub : ∀ x ∈ days, x ∈ ds
  lost : ∀ d, (d, none) ∈ ds.zip ts → d ∈ days
  least : ∀ N : Int → Prop, (∀ d, (d, none) ∈ ds.zip ts → N d) → (∀ d d', N d → Step cs ds ts d d' → N d') → ∀ d ∈ days, N d
theorem Iv.init : Iv cs ds ts (srt (lostL ds ts)) where
  nd := nodup_srt _
  sub x h := (List.of_mem_zip (mem_lostL.mp (mem_srt.mp h))).1
  lost d h := mem_srt.mpr (mem_lostL.mpr h)
  least N h1 _ d h := h1 d (mem_lostL.mp (mem_srt.mp h))
theorem Iv.ext {days : List Int} (v : Iv cs ds ts days) {d : Int} (hd : d ∈ days) {i : Nat} {c : Card} (e : cs[i]? = some c) (hv : vld c d = true) : Iv cs ds ts (extL days (moreL ds ts i)) where
  nd := nodup_extL v.nd _
  sub x h := by
    rcases mem_extL.mp h with q | q
    · exact v.sub x q
    · exact (List.of_mem_zip (mem_moreL.mp q)).1
  lost d h := mem_extL.mpr (.inl (v.lost d h))
  least N h1 h2 x h := by
    rcases mem_extL.mp h with q | q
    · exact v.least N h1 h2 x q
    · exact h2 d x (v.least N h1 h2 d hd) ⟨i, c, e, hv, mem_moreL.mp q⟩
theorem Iv.len {days : List Int} (v : Iv cs ds ts days) : days.length ≤ ds.length := v.nd.length_le_of_subset v.sub
theorem stepC_ok {d : Int} : ∀ (rest : List Card) (i : Nat) (days : List Int), cs.drop i = rest → Iv cs ds ts days → d ∈ days →
    Iv cs ds ts (stepC ds ts d i rest days) ∧ days <+: stepC ds ts d i rest days ∧ ∀ j c, i ≤ j → cs[j]? = some c → vld c d = true → ∀ y, (y, some j) ∈ ds.zip ts → y ∈ stepC ds ts d i rest days
  | [], i, days, e, v, _ => ⟨v, List.prefix_refl _, fun j c h1 h2 => by
      have := (List.getElem?_eq_some_iff.mp h2).1
      have := List.drop_eq_nil_iff.mp e
      omega⟩
  | c :: rest, i, days, e, v, hd => by
    have ec : cs[i]? = some c := by
      have := congrArg (·[0]?) e
      simpa [List.getElem?_drop] using this
    have er : cs.drop (i + 1) = rest := by
      have := congrArg List.tail e
      simpa [List.tail_drop] using this
    unfold stepC
    by_cases q : vld c d = true
    · rw [if_pos q]
      obtain ⟨a1, a2, a3⟩ := stepC_ok rest (i + 1) (extL days (moreL ds ts i)) er (v.ext hd ec q) (mem_extL.mpr (.inl hd))
      refine ⟨a1, List.IsPrefix.trans (List.prefix_append _ _) a2, fun j c' h1 h2 h3 y hy => ?_⟩
      by_cases ij : j = i
      · subst ij
        exact a2.subset (mem_extL.mpr (.inr (mem_moreL.mpr hy)))
      · exact a3 j c' (by omega) h2 h3 y hy
    · rw [if_neg q]
      obtain ⟨a1, a2, a3⟩ := stepC_ok rest (i + 1) days er v hd
      refine ⟨a1, a2, fun j c' h1 h2 h3 y hy => ?_⟩
      by_cases ij : j = i
      · subst ij
        rw [ec] at h2; cases h2
        exact absurd h3 q
      · exact a3 j c' (by omega) h2 h3 y hy
structure Wv (cs : List Card) (ds : List Int) (ts : List (Option Nat)) (gone : Nat) (days : List Int) : Prop extends Iv cs ds ts days where
  le : gone ≤ days.length
  done : ∀ k d, k < gone → days[k]? = some d → ∀ d', Step cs ds ts d d' → d' ∈ days
theorem Wv.init : Wv cs ds ts 0 (srt (lostL ds ts)) where
  toIv := Iv.init
  le := Nat.zero_le _
  done k d h := by omega
theorem Wv.next {gone : Nat} {days : List Int} (w : Wv cs ds ts gone days) {d : Int} (e : days[gone]? = some d) : Wv cs ds ts (gone + 1) (stepC ds ts d 0 cs days) := by
  have hd : d ∈ days := List.mem_of_getElem? e
  have hg : gone < days.length := (List.getElem?_eq_some_iff.mp e).1
  obtain ⟨a1, a2, a3⟩ := stepC_ok cs 0 days rfl w.toIv hd
  have hl := a2.length_le
  refine ⟨a1, by omega, fun k x hk ex d' st => ?_⟩
  have ek : days[k]? = some x := by
    obtain ⟨t, ht⟩ := a2
    rw [← ht, List.getElem?_append_left (by omega)] at ex
    exact ex
  by_cases kg : k = gone
  · subst kg
    rw [e] at ek; cases ek
    obtain ⟨i, c, e1, e2, e3⟩ := st
    exact a3 i c (Nat.zero_le _) e1 e2 d' e3
  · exact a2.subset (w.done k x (by omega) ek d' st)
theorem Wv.paper {days : List Int} (w : Wv cs ds ts days.length days) : Paper cs ds ts fun d => decide (d ∈ isort days) where
  lost d h := by
    have := w.lost d h
    simpa [(isort_perm' days).mem_iff] using this
  closed d d' h st := by
    have h : d ∈ days := by simpa [(isort_perm' days).mem_iff] using h
    obtain ⟨k, hk, rfl⟩ := List.getElem_of_mem h
    have := w.done k _ hk (List.getElem?_eq_getElem hk) d' st
    simpa [(isort_perm' days).mem_iff] using this
  least N h1 h2 d h := by
    have h : d ∈ days := by simpa [(isort_perm' days).mem_iff] using h
    exact w.least N h1 h2 d h
theorem rise_of {ns : List Int} (h : ns.Nodup) : (isort ns).Pairwise (· < ·) := by
  have a := isort_sorted' ns
  have b : (isort ns).Nodup := (isort_perm' ns).nodup_iff.mpr h
  exact (a.and b).imp fun ⟨h1, h2⟩ => by omega
end
end TT
end

section
set_option Elab.async false
set_option linter.all false
/-! K25M: drawn takings, cards in another order, comings more. -/
namespace TT
open PL
/-- a taking by valid cards that have turns -/
inductive Tk (cs : List Card) : List Int → List Int → List (Option Nat) → Prop
  | nil {left : List Int} : Tk cs left [] []
  | no {left : List Int} {d : Int} {ds : List Int} {ts : List (Option Nat)} : Tk cs left ds ts → Tk cs left (d :: ds) (none :: ts)
  | yes {left : List Int} {d : Int} {ds : List Int} {ts : List (Option Nat)} {i : Nat} {c : Card} {l : Int} : cs[i]? = some c → vld c d = true → left[i]? = some l → 0 < l → Tk cs (left.set i (l - 1)) ds ts → Tk cs left (d :: ds) (some i :: ts)
variable {cs : List Card} {left ds : List Int} {ts : List (Option Nat)}
theorem Gr.tk (g : Gr cs left ds ts) : Tk cs left ds ts := by
  induction g with
  | nil => exact .nil
  | no b g ih => exact .no ih
  | yes b e g ih =>
    obtain ⟨_, c, l', e1, e2, p, v⟩ := b.got _ rfl
    rw [e] at e2; cases e2
    exact .yes e1 v e p ih
theorem Tk.len (g : Tk cs left ds ts) : ts.length = ds.length := by
  induction g with
  | nil => rfl
  | no g ih => simp [ih]
  | yes _ _ _ _ g ih => simp [ih]
theorem Tk.valid (g : Tk cs left ds ts) : ∀ d i, (some i, d) ∈ ts.zip ds → ∃ c, cs[i]? = some c ∧ vld c d = true := by
  induction g with
  | nil => exact fun d i h => by simp at h
  | no g ih =>
    intro d i h
    simp only [List.zip_cons_cons, List.mem_cons] at h
    rcases h with h | h
    · cases h
    · exact ih d i h
  | yes e1 v e p g ih =>
    intro d i h
    simp only [List.zip_cons_cons, List.mem_cons] at h
    rcases h with h | h
    · cases h
      exact ⟨_, e1, v⟩
    · exact ih d i h
theorem Tk.count (g : Tk cs left ds ts) : ∀ i l, (∀ x ∈ left, 0 ≤ x) → left[i]? = some l → (ts.count (some i) : Int) ≤ l := by
  induction g with
  | nil => exact fun i l h e => by simpa using h l (List.mem_of_getElem? e)
  | no g ih =>
    intro i l h e
    rw [List.count_cons]
    simpa using ih i l h e
  | @yes left d ds ts j c m e1 v e p g ih =>
    intro i l h e'
    rw [List.count_cons]
    by_cases c : j = i
    · subst c
      rw [e] at e'; cases e'
      have := ih j (m - 1) (set_ge h p) (by rw [get_set e, if_pos rfl])
      simp
      omega
    · have := ih i l (set_ge h p) (by rw [get_set e, if_neg c]; exact e')
      have c2 : (some j == some i) = false := by simpa using c
      rw [c2]
      simpa using this
theorem Tk.weak (g : Tk cs left ds ts) {p : Card → Bool} {Y : Int → Bool} (hp : Touch p Y) (h0 : ∀ x ∈ left, 0 ≤ x) : (ds.countP Y : Int) ≤ (ts.count none : Int) + wsum p cs left := by
  induction g with
  | nil => simpa using wsum_nonneg p cs _ h0
  | @no left d ds ts g ih =>
    have := ih h0
    rw [List.countP_cons, List.count_cons]
    simp
    split <;> omega
  | @yes left d ds ts i c l e1 v e pl g ih =>
    have := ih (set_ge h0 pl)
    rw [wsum_set p cs left i c l (l - 1) e1 e] at this
    rw [List.countP_cons, List.count_cons]
    simp
    by_cases y : Y d = true
    · rw [hp c d y v] at this
      simp at this
      rw [if_pos y]
      omega
    · rw [if_neg y]
      split at this <;> omega
/-- no taking loses fewer -/
theorem Tk.lost (h : Turns cs) (so : ds.Pairwise (· ≤ ·)) (g : Tk cs (cs.map trn) ds ts) : lostF cs ds ≤ ts.count none := by
  obtain ⟨Y, P⟩ := paper_is cs ds (tk cs ds)
  have a := worth_paper h so P
  have b := g.weak (touch_ok Y) (turns_left h)
  rw [wsum_map] at b
  unfold worthF wsumF at a
  omega
theorem wsumF_rev (cs : List Card) (Y : List Int) : wsumF cs.reverse Y = wsumF cs Y := by
  unfold wsumF
  rw [List.filter_reverse, List.map_reverse, List.sum_reverse]
theorem turns_rev (h : Turns cs) : Turns cs.reverse := fun c hc => h c (List.mem_reverse.mp hc)
theorem lost_rev (h : Turns cs) (so : ds.Pairwise (· ≤ ·)) : lostF cs.reverse ds = lostF cs ds := by
  have a := lost_le (k := 0) (es := ds) (turns_rev h) h so fun Y => by unfold worthF; rw [wsumF_rev]; omega
  have b := lost_le (k := 0) (es := ds) h (turns_rev h) so fun Y => by unfold worthF; rw [wsumF_rev]; omega
  omega
theorem lost_zero : lostL ds (tk cs ds) = [] ↔ lostF cs ds = 0 := by
  have hl : (tk cs ds).length = ds.length := (gr_tk cs ds).tk.len
  unfold lostL lostF
  rw [List.map_eq_nil_iff]
  constructor
  · intro h
    rw [List.count_eq_zero]
    intro m
    obtain ⟨i, hi, e⟩ := List.getElem_of_mem m
    have hm : (ds[i]'(by omega), (tk cs ds)[i]) ∈ ds.zip (tk cs ds) := by
      have hz : i < (ds.zip (tk cs ds)).length := by rw [List.length_zip]; omega
      have : (ds.zip (tk cs ds))[i] = (ds[i]'(by omega), (tk cs ds)[i]) := List.getElem_zip ..
      rw [← this]
      exact List.getElem_mem hz
    have : (ds[i]'(by omega), (tk cs ds)[i]) ∈ (ds.zip (tk cs ds)).filter fun p => decide (p.2 = none) := List.mem_filter.mpr ⟨hm, by simpa using e⟩
    rw [h] at this
    simp at this
  · intro h
    rw [List.count_eq_zero] at h
    rw [List.filter_eq_nil_iff]
    rintro ⟨d, o⟩ hm q
    have := (List.of_mem_zip hm).2
    simp at q
    rw [q] at this
    exact h this
/-- comings more: by their number alone -/
theorem worth_app (cs : List Card) (ds es fs : List Int) (Y : List Int) (p : fs.Perm (ds ++ es)) : worthF cs ds Y ≤ worthF cs fs Y ∧ worthF cs fs Y ≤ worthF cs ds Y + es.length := by
  unfold worthF
  rw [p.countP_eq, List.countP_append]
  have := List.countP_le_length (p := fun d => decide (d ∈ Y)) (l := es)
  omega
theorem lost_app (h : Turns cs) (so : ds.Pairwise (· ≤ ·)) {es fs : List Int} (p : fs.Perm (ds ++ es)) (so2 : fs.Pairwise (· ≤ ·)) : lostF cs ds ≤ lostF cs fs ∧ lostF cs fs ≤ lostF cs ds + es.length := by
  have a := lost_le (k := 0) (es := fs) h h so fun Y => by have := worth_app cs ds es fs Y p; omega
  have b := lost_le (k := es.length) (es := ds) h h so2 fun Y => by have := worth_app cs ds es fs Y p; omega
  omega
theorem wsumF_le (n : Int) : ∀ cs : List Card, (∀ c ∈ cs, 0 ≤ trn c ∧ trn c ≤ n) → ∀ Y, 0 ≤ wsumF cs Y ∧ wsumF cs Y ≤ n * cs.length
  | [], _, Y => by simp [wsumF]
  | c :: cs, h, Y => by
    rw [wsumF_cons]
    have a := wsumF_le n cs (fun c hc => h c (List.mem_cons_of_mem _ hc)) Y
    have b := h c List.mem_cons_self
    have e : n * ((c :: cs).length : Int) = n * cs.length + n := by
      rw [List.length_cons, Int.natCast_add, Int.mul_add]
      omega
    rw [e]
    split <;> omega
theorem lost_many (h : ∀ c ∈ cs, 0 ≤ trn c ∧ trn c ≤ 10) (hl : cs.length ≤ 8) (Y : List Int) (hY : ∀ d ∈ ds, d ∈ Y) : (ds.length : Int) - 80 ≤ lostF cs ds := by
  have a := worth_le (ds := ds) (fun c hc => (h c hc).1) Y
  have b := (wsumF_le 10 cs h Y).2
  unfold worthF at a
  rw [List.countP_eq_length.mpr fun d hd => by simpa using hY d hd] at a
  omega
end TT
end

section
set_option Elab.async false
set_option linter.all false
/-! K33M: what is left and taken; a card valid always; comings put and missed. -/
namespace TT
open PL
theorem ind_sum (j : Nat) : ∀ n : Nat, ((List.range n).map fun i => if j = i then 1 else 0).sum = if j < n then 1 else 0
  | 0 => rfl
  | n + 1 => by
    rw [List.range_succ, List.map_append, List.sum_append, ind_sum j n]
    simp
    split <;> split <;> split <;> omega
theorem cnt_sum (n : Nat) : ∀ ts : List (Option Nat), (∀ i, some i ∈ ts → i < n) → ((List.range n).map fun i => ts.count (some i)).sum + ts.count none = ts.length
  | [], _ => by
    have : ((List.range n).map fun i => ([] : List (Option Nat)).count (some i)).sum = 0 := by
      induction n with
      | zero => rfl
      | succ n ih => rw [List.range_succ, List.map_append, List.sum_append, ih (fun i hi => by simp at hi)]; simp
    rw [this]
    rfl
  | t :: ts, h => by
    have ih := cnt_sum n ts fun i hi => h i (List.mem_cons_of_mem _ hi)
    have e : ((List.range n).map fun i => (t :: ts).count (some i)).sum = ((List.range n).map fun i => ts.count (some i)).sum + ((List.range n).map fun i => if t = some i then 1 else 0).sum := by
      clear ih h
      induction n with
      | zero => rfl
      | succ n ih =>
        rw [List.range_succ, List.map_append, List.map_append, List.map_append, List.sum_append, List.sum_append, List.sum_append, ih]
        simp only [List.map_cons, List.map_nil, List.sum_cons, List.sum_nil, List.count_cons, beq_iff_eq]
        omega
    rw [e, List.count_cons, List.length_cons]
    cases t with
    | none =>
      have : ((List.range n).map fun i => if (none : Option Nat) = some i then 1 else 0).sum = 0 := by
        clear ih h e
        induction n with
        | zero => rfl
        | succ n ih => rw [List.range_succ, List.map_append, List.sum_append, ih]; simp
      rw [this]
      simp
      omega
    | some j =>
      have : ((List.range n).map fun i => if (some j : Option Nat) = some i then 1 else 0).sum = 1 := by
        have := ind_sum j n
        rw [if_pos (h j List.mem_cons_self)] at this
        simpa using this
      rw [this]
      simp
      omega
theorem zip_sum (ts : List (Option Nat)) : ∀ (cs : List Card) (k : Nat), ((cs.zipIdx k).map fun p => trn p.1 - (ts.count (some p.2) : Nat)).sum = (cs.map trn).sum - (((List.range cs.length).map fun i => ts.count (some (k + i))).sum : Nat)
  | [], k => by simp
  | c :: cs, k => by
    have ih := zip_sum ts cs (k + 1)
    rw [List.zipIdx_cons, List.map_cons, List.sum_cons, ih, List.length_cons, List.range_succ_eq_map, List.map_cons, List.sum_cons, List.map_cons, List.sum_cons, List.map_map]
    have e : ((fun i => ts.count (some (k + i))) ∘ Nat.succ) = fun i => ts.count (some (k + 1 + i)) := by
      funext i
      show ts.count (some (k + (i + 1))) = _
      have : k + (i + 1) = k + 1 + i := by omega
      rw [this]
    rw [e]
    simp only [Nat.add_zero]
    omega
variable {cs : List Card} {ds : List Int}
theorem left_sum (cs : List Card) (ds : List Int) : (cs.zipIdx.map fun p => trn p.1 - ((tk cs ds).count (some p.2) : Nat)).sum + ds.length - lostF cs ds = (cs.map trn).sum := by
  have g := (gr_tk cs ds).tk
  have hm : ∀ i, some i ∈ tk cs ds → i < cs.length := fun i hi => by
    obtain ⟨j, hj, e⟩ := List.getElem_of_mem hi
    have hl := g.len
    have hz : j < ((tk cs ds).zip ds).length := by rw [List.length_zip]; omega
    have : ((tk cs ds).zip ds)[j] = ((tk cs ds)[j], ds[j]'(by omega)) := List.getElem_zip ..
    have hmem := List.getElem_mem hz
    rw [this, e] at hmem
    obtain ⟨c, ec, _⟩ := g.valid _ _ hmem
    exact (List.getElem?_eq_some_iff.mp ec).1
  have a := zip_sum (tk cs ds) cs 0
  have b := cnt_sum cs.length (tk cs ds) hm
  have hl := g.len
  simp only [Nat.zero_add] at a
  rw [a]
  unfold lostF
  omega
/-- a card valid always, of ten turns -/
theorem lost_ten (h : Turns cs) (so : ds.Pairwise (· ≤ ·)) (hd : ∀ d ∈ ds, 0 ≤ d ∧ d ≤ 59) : (lostF (cs ++ [(0, 59, 10)]) ds : Int) = max 0 ((lostF cs ds : Int) - 10) := by
  have h2 : Turns (cs ++ [(0, 59, 10)]) := T_app.mpr ⟨h, T_cons.mpr ⟨by decide, T_nil⟩⟩
  have a := (law_fewer (A := cs) (B := []) (f := 0) (l := 59) (t := 10) (ds := ds) h T_nil (by decide) so).2
  rw [List.append_nil] at a
  obtain ⟨Y, P⟩ := paper_is (cs ++ [(0, 59, 10)]) ds (tk (cs ++ [(0, 59, 10)]) ds)
  have b := worth_paper h2 so P
  have c := worth_le (ds := ds) h Y
  have e : wsumF (cs ++ [(0, 59, 10)]) Y = wsumF cs Y + if touch Y (0, 59, 10) then 10 else 0 := by
    rw [wsumF_app, wsumF_cons, wsumF_nil]
    simp [trn]
  unfold worthF at b c
  rw [e] at b
  by_cases q : touch Y (0, 59, 10) = true
  · rw [if_pos q] at b
    omega
  · have z : (ds.countP fun d => decide (d ∈ Y)) = 0 := by
      rw [List.countP_eq_zero]
      intro d hd'
      simp only [decide_eq_true_eq]
      intro hy
      exact q (List.any_eq_true.mpr ⟨d, hy, vld_iff.mpr ⟨(hd d hd').1, (hd d hd').2⟩⟩)
    have w : 0 ≤ wsumF cs Y := by
      unfold wsumF
      rw [← wsum_map]
      exact wsum_nonneg _ _ _ (turns_left h)
    rw [z, if_neg q] at b
    omega
/-- sorted anew -/
theorem isort_eq {xs ys : List Int} (p : xs.Perm ys) (s : xs.Pairwise (· ≤ ·)) : isort ys = xs := by
  refine (List.Perm.eq_of_pairwise (le := fun a b : Int => a ≤ b) ?_ s (isort_sorted' ys) (p.trans (isort_perm' ys).symm)).symm
  intro a b _ _ h1 h2
  omega
theorem isort_id {xs : List Int} (s : xs.Pairwise (· ≤ ·)) : isort xs = xs := isort_eq (List.Perm.refl _) s
theorem isort_perm2 {xs ys : List Int} (p : xs.Perm ys) : isort xs = isort ys := isort_eq ((isort_perm' ys).trans p.symm) (isort_sorted' ys)
end TT
end

section
set_option Elab.async false
set_option linter.all false
set_option maxRecDepth 100000
set_option maxHeartbeats 1000000
namespace K33
open PySem PL TT
theorem m_is_whole (n : Nat) (i : Int) (S : Sto) : callS gi fns (n + 1) "is_whole" [.int i] S = .ok (.bool true) S := by
  rw [callS_fn (F := f_is_whole) (by kernel_rfl)]
  simp [runF, e_var, e_int, e_bl, e_non, e_str, e_gint, e_tup, e_lst, e_dct, e_op, e_neg, e_cm, e_ch, e_isN, e_isB, e_and, e_or, e_not, e_ite, e_ix, e_sl, e_rev, e_bi, e_isi, e_call, e_new, e_meth, e_fld, e_bm, e_fstr, e_frz, e_said, e_sset, e_tupR, e_never, x_asg, x_expr, x_ret, x_retN, x_ite, x_raise, x_tryN, x_pass, x_never, x_nil, x_cons, es_nil, es_cons, eo_none, eo_some, ec_none, ec_some, a_name, a_tup, a_sub, as_nil, as_cons, p_name, p_tup, ps_nil, ps_cons, isiD, isi0, cmD, cmI, biD, bi1, bi2, biL, ixD, opD, addD, mulD, int2, wipe, fin_pure1, itemsD, heldD, isNm, kdD, bmD, allD, anyD, allocL, f_is_whole]
theorem m_is_from_to (n : Nat) (i a b : Int) (S : Sto) : callS gi fns (n + 2) "is_from_to" [.int i, .int a, .int b] S = .ok (.bool (decide (a ≤ i) && decide (i ≤ b))) S := by
  rw [callS_fn (F := f_is_from_to) (by kernel_rfl)]
  by_cases h : a ≤ i <;> simp [runF, e_var, e_int, e_bl, e_non, e_str, e_gint, e_tup, e_lst, e_dct, e_op, e_neg, e_cm, e_ch, e_isN, e_isB, e_and, e_or, e_not, e_ite, e_ix, e_sl, e_rev, e_bi, e_isi, e_call, e_new, e_meth, e_fld, e_bm, e_fstr, e_frz, e_said, e_sset, e_tupR, e_never, x_asg, x_expr, x_ret, x_retN, x_ite, x_raise, x_tryN, x_pass, x_never, x_nil, x_cons, es_nil, es_cons, eo_none, eo_some, ec_none, ec_some, a_name, a_tup, a_sub, as_nil, as_cons, p_name, p_tup, ps_nil, ps_cons, isiD, isi0, cmD, cmI, biD, bi1, bi2, biL, ixD, opD, addD, mulD, int2, wipe, fin_pure1, itemsD, heldD, isNm, kdD, bmD, allD, anyD, allocL, f_is_from_to, m_is_whole, h]
theorem gi_days : gi "MOST_DAYS" = some 60 := by kernel_rfl
theorem gi_turns : gi "MOST_TURNS" = some 10 := by kernel_rfl
theorem gi_cards : gi "MOST_CARDS" = some 8 := by kernel_rfl
theorem gi_comings : gi "MOST_COMINGS" = some 24 := by kernel_rfl
def dayB (d : Int) : Bool := decide (0 ≤ d) && decide (d ≤ 59)
theorem m_is_day (n : Nat) (i : Int) (S : Sto) : callS gi fns (n + 3) "is_day" [.int i] S = .ok (.bool (dayB i)) S := by
  rw [callS_fn (F := f_is_day) (by kernel_rfl)]
  simp [runF, e_var, e_int, e_bl, e_non, e_str, e_gint, e_tup, e_lst, e_dct, e_op, e_neg, e_cm, e_ch, e_isN, e_isB, e_and, e_or, e_not, e_ite, e_ix, e_sl, e_rev, e_bi, e_isi, e_call, e_new, e_meth, e_fld, e_bm, e_fstr, e_frz, e_said, e_sset, e_tupR, e_never, x_asg, x_expr, x_ret, x_retN, x_ite, x_raise, x_tryN, x_pass, x_never, x_nil, x_cons, es_nil, es_cons, eo_none, eo_some, ec_none, ec_some, a_name, a_tup, a_sub, as_nil, as_cons, p_name, p_tup, ps_nil, ps_cons, isiD, isi0, cmD, cmI, biD, bi1, bi2, biL, ixD, opD, addD, mulD, int2, wipe, fin_pure1, itemsD, heldD, isNm, kdD, bmD, allD, anyD, allocL, f_is_day, m_is_from_to, gi_days, dayB]
def cD (c : Card) : D := .tuple [.int c.1, .int c.2.1, .int c.2.2]
def cardB (c : Card) : Bool := dayB c.1 && (dayB c.2.1 && (decide (c.1 ≤ c.2.1) && (decide (1 ≤ c.2.2) && decide (c.2.2 ≤ 10))))
theorem eq33 (S : Sto) : eqD S (.int 3) (.int 3) = some true := by simp [eqD, PL.val, lstD, asRef, eqOk, PyData.plain, PyData.depth, PyData.eqv, depthMax]
theorem m_is_card (n : Nat) (c : Card) (S : Sto) : callS gi fns (n + 4) "is_card" [cD c] S = .ok (.bool (cardB c)) S := by
  obtain ⟨a, b, t⟩ := c
  rw [callS_fn (F := f_is_card) (by kernel_rfl)]
  cases h1 : dayB a <;> cases h2 : dayB b <;> by_cases h3 : a ≤ b <;> simp [runF, e_var, e_int, e_bl, e_non, e_str, e_gint, e_tup, e_lst, e_dct, e_op, e_neg, e_cm, e_ch, e_isN, e_isB, e_and, e_or, e_not, e_ite, e_ix, e_sl, e_rev, e_bi, e_isi, e_call, e_new, e_meth, e_fld, e_bm, e_fstr, e_frz, e_said, e_sset, e_tupR, e_never, x_asg, x_expr, x_ret, x_retN, x_ite, x_raise, x_tryN, x_pass, x_never, x_nil, x_cons, es_nil, es_cons, eo_none, eo_some, ec_none, ec_some, a_name, a_tup, a_sub, as_nil, as_cons, p_name, p_tup, ps_nil, ps_cons, isiD, isi0, cmD, cmI, biD, bi1, bi2, biL, ixD, opD, addD, mulD, int2, wipe, fin_pure1, itemsD, heldD, isNm, kdD, bmD, allD, anyD, allocL, f_is_card, cD, m_is_day, m_is_from_to, gi_turns, eq33, h1, h2, h3, cardB]
theorem m_is_valid (n : Nat) (c : Card) (d : Int) (S : Sto) : callS gi fns (n + 1) "is_valid" [cD c, .int d] S = .ok (.bool (vld c d)) S := by
  obtain ⟨a, b, t⟩ := c
  rw [callS_fn (F := f_is_valid) (by kernel_rfl)]
  by_cases h : a ≤ d <;> simp [runF, e_var, e_int, e_bl, e_non, e_str, e_gint, e_tup, e_lst, e_dct, e_op, e_neg, e_cm, e_ch, e_isN, e_isB, e_and, e_or, e_not, e_ite, e_ix, e_sl, e_rev, e_bi, e_isi, e_call, e_new, e_meth, e_fld, e_bm, e_fstr, e_frz, e_said, e_sset, e_tupR, e_never, x_asg, x_expr, x_ret, x_retN, x_ite, x_raise, x_tryN, x_pass, x_never, x_nil, x_cons, es_nil, es_cons, eo_none, eo_some, ec_none, ec_some, a_name, a_tup, a_sub, as_nil, as_cons, p_name, p_tup, ps_nil, ps_cons, isiD, isi0, cmD, cmI, biD, bi1, bi2, biL, ixD, opD, addD, mulD, int2, wipe, fin_pure1, itemsD, heldD, isNm, kdD, bmD, allD, anyD, allocL, f_is_valid, cD, vld, h]
theorem lim_eq : lim = 16777216 := rfl
theorem all_map {β : Type} (f : β → Bool) (xs : List β) : (xs.map f).all id = xs.all f := by simp [List.all_map]
theorem pw_zip : ∀ ds : List Int, ds.Pairwise (· ≤ ·) → ((ds.zip (ds.drop 1)).all fun p => decide (p.1 ≤ p.2)) = true
  | [], _ => rfl
  | [_], _ => rfl
  | a :: b :: ds, h => by
    rw [List.pairwise_cons] at h
    have h1 := pw_zip (b :: ds) h.2
    have h2 := h.1 b List.mem_cons_self
    simp only [List.drop_succ_cons, List.drop_zero, List.zip_cons_cons, List.all_cons, Bool.and_eq_true, decide_eq_true_eq]
    exact ⟨h2, by simpa using h1⟩
theorem zipL_map : ∀ xs ys : List Int, zipL (xs.map .int) (ys.map .int) = (xs.zip ys).map fun p => .tuple [.int p.1, .int p.2]
  | [], _ => by simp [zipL]
  | _ :: _, [] => by simp [zipL]
  | x :: xs, y :: ys => by simp [zipL, zipL_map xs ys]
theorem cut1 (xs : List D) : cutD xs (some 1) none = xs.drop 1 := by
  cases xs with
  | nil => rfl
  | cons x xs =>
    unfold cutD
    have e : HT.sIx (x :: xs).length 0 (some 1) = 1 := by simp [HT.sIx]
    have e2 : HT.sIx (x :: xs).length (x :: xs).length none = xs.length + 1 := by simp [HT.sIx]
    rw [e, e2]
    simp
theorem m_are_cards (n : Nat) (cs : List Card) (h : cs.length ≤ 8) (S : Sto) : callS gi fns (n + 5) "are_cards" [.tuple (cs.map cD)] S = .ok (.bool (cs.all cardB)) S := by
  rw [callS_fn (F := f_are_cards) (by kernel_rfl)]
  have h' : (cs.length : Int) ≤ 8 := by omega
  have hl : cs.length ≤ lim := by rw [lim_eq]; omega
  simp [runF, e_var, e_int, e_bl, e_non, e_str, e_gint, e_tup, e_lst, e_dct, e_op, e_neg, e_cm, e_ch, e_isN, e_isB, e_and, e_or, e_not, e_ite, e_ix, e_sl, e_rev, e_bi, e_isi, e_call, e_new, e_meth, e_fld, e_bm, e_fstr, e_frz, e_said, e_sset, e_tupR, e_never, x_asg, x_expr, x_ret, x_retN, x_ite, x_raise, x_tryN, x_pass, x_never, x_nil, x_cons, es_nil, es_cons, eo_none, eo_some, ec_none, ec_some, a_name, a_tup, a_sub, as_nil, as_cons, p_name, p_tup, ps_nil, ps_cons, isiD, isi0, cmD, cmI, biD, bi1, bi2, biL, ixD, opD, addD, mulD, int2, wipe, fin_pure1, itemsD, heldD, isNm, kdD, bmD, allD, anyD, allocL, f_are_cards, gi_cards, h']
  rw [ev_compF cs cD (fun _ => true) (fun c => .bool (cardB c)) (fun c => [some (.tuple (cs.map cD)), some (cD c)]) (ei_seqT (by simp [runF, e_var, e_int, e_bl, e_non, e_str, e_gint, e_tup, e_lst, e_dct, e_op, e_neg, e_cm, e_ch, e_isN, e_isB, e_and, e_or, e_not, e_ite, e_ix, e_sl, e_rev, e_bi, e_isi, e_call, e_new, e_meth, e_fld, e_bm, e_fstr, e_frz, e_said, e_sset, e_tupR, e_never, x_asg, x_expr, x_ret, x_retN, x_ite, x_raise, x_tryN, x_pass, x_never, x_nil, x_cons, es_nil, es_cons, eo_none, eo_some, ec_none, ec_some, a_name, a_tup, a_sub, as_nil, as_cons, p_name, p_tup, ps_nil, ps_cons, isiD, isi0, cmD, cmI, biD, bi1, bi2, biL, ixD, opD, addD, mulD, int2, wipe, fin_pure1, itemsD, heldD, isNm, kdD, bmD, allD, anyD, allocL])) rfl (by simp) rfl (fun c hc => ⟨by simp [runF, e_var, e_int, e_bl, e_non, e_str, e_gint, e_tup, e_lst, e_dct, e_op, e_neg, e_cm, e_ch, e_isN, e_isB, e_and, e_or, e_not, e_ite, e_ix, e_sl, e_rev, e_bi, e_isi, e_call, e_new, e_meth, e_fld, e_bm, e_fstr, e_frz, e_said, e_sset, e_tupR, e_never, x_asg, x_expr, x_ret, x_retN, x_ite, x_raise, x_tryN, x_pass, x_never, x_nil, x_cons, es_nil, es_cons, eo_none, eo_some, ec_none, ec_some, a_name, a_tup, a_sub, as_nil, as_cons, p_name, p_tup, ps_nil, ps_cons, isiD, isi0, cmD, cmI, biD, bi1, bi2, biL, ixD, opD, addD, mulD, int2, wipe, fin_pure1, itemsD, heldD, isNm, kdD, bmD, allD, anyD, allocL], by simp [runF, e_var, e_int, e_bl, e_non, e_str, e_gint, e_tup, e_lst, e_dct, e_op, e_neg, e_cm, e_ch, e_isN, e_isB, e_and, e_or, e_not, e_ite, e_ix, e_sl, e_rev, e_bi, e_isi, e_call, e_new, e_meth, e_fld, e_bm, e_fstr, e_frz, e_said, e_sset, e_tupR, e_never, x_asg, x_expr, x_ret, x_retN, x_ite, x_raise, x_tryN, x_pass, x_never, x_nil, x_cons, es_nil, es_cons, eo_none, eo_some, ec_none, ec_some, a_name, a_tup, a_sub, as_nil, as_cons, p_name, p_tup, ps_nil, ps_cons, isiD, isi0, cmD, cmI, biD, bi1, bi2, biL, ixD, opD, addD, mulD, int2, wipe, fin_pure1, itemsD, heldD, isNm, kdD, bmD, allD, anyD, allocL], fun _ => by simp [runF, e_var, e_int, e_bl, e_non, e_str, e_gint, e_tup, e_lst, e_dct, e_op, e_neg, e_cm, e_ch, e_isN, e_isB, e_and, e_or, e_not, e_ite, e_ix, e_sl, e_rev, e_bi, e_isi, e_call, e_new, e_meth, e_fld, e_bm, e_fstr, e_frz, e_said, e_sset, e_tupR, e_never, x_asg, x_expr, x_ret, x_retN, x_ite, x_raise, x_tryN, x_pass, x_never, x_nil, x_cons, es_nil, es_cons, eo_none, eo_some, ec_none, ec_some, a_name, a_tup, a_sub, as_nil, as_cons, p_name, p_tup, ps_nil, ps_cons, isiD, isi0, cmD, cmI, biD, bi1, bi2, biL, ixD, opD, addD, mulD, int2, wipe, fin_pure1, itemsD, heldD, isNm, kdD, bmD, allD, anyD, allocL, m_is_card]⟩) hl]
  simp [runF, e_var, e_int, e_bl, e_non, e_str, e_gint, e_tup, e_lst, e_dct, e_op, e_neg, e_cm, e_ch, e_isN, e_isB, e_and, e_or, e_not, e_ite, e_ix, e_sl, e_rev, e_bi, e_isi, e_call, e_new, e_meth, e_fld, e_bm, e_fstr, e_frz, e_said, e_sset, e_tupR, e_never, x_asg, x_expr, x_ret, x_retN, x_ite, x_raise, x_tryN, x_pass, x_never, x_nil, x_cons, es_nil, es_cons, eo_none, eo_some, ec_none, ec_some, a_name, a_tup, a_sub, as_nil, as_cons, p_name, p_tup, ps_nil, ps_cons, isiD, isi0, cmD, cmI, biD, bi1, bi2, biL, ixD, opD, addD, mulD, int2, wipe, fin_pure1, itemsD, heldD, isNm, kdD, bmD, allD, anyD, allocL, all_map, ← List.map_map, Function.comp_def]
theorem m_are_comings (n : Nat) (ds : List Int) (h : ds.length ≤ 24) (hd : ds.all dayB = true) (so : ds.Pairwise (· ≤ ·)) (S : Sto) : callS gi fns (n + 4) "are_comings" [.tuple (ds.map .int)] S = .ok (.bool true) S := by
  rw [callS_fn (F := f_are_comings) (by kernel_rfl)]
  have h' : (ds.length : Int) ≤ 24 := by omega
  have hl : ds.length ≤ lim := by rw [lim_eq]; omega
  simp [runF, e_var, e_int, e_bl, e_non, e_str, e_gint, e_tup, e_lst, e_dct, e_op, e_neg, e_cm, e_ch, e_isN, e_isB, e_and, e_or, e_not, e_ite, e_ix, e_sl, e_rev, e_bi, e_isi, e_call, e_new, e_meth, e_fld, e_bm, e_fstr, e_frz, e_said, e_sset, e_tupR, e_never, x_asg, x_expr, x_ret, x_retN, x_ite, x_raise, x_tryN, x_pass, x_never, x_nil, x_cons, es_nil, es_cons, eo_none, eo_some, ec_none, ec_some, a_name, a_tup, a_sub, as_nil, as_cons, p_name, p_tup, ps_nil, ps_cons, isiD, isi0, cmD, cmI, biD, bi1, bi2, biL, ixD, opD, addD, mulD, int2, wipe, fin_pure1, itemsD, heldD, isNm, kdD, bmD, allD, anyD, allocL, f_are_comings, gi_comings, h']
  rw [ev_compF ds PyData.int (fun _ => true) (fun c => .bool (dayB c)) (fun c => [some (.tuple (ds.map .int)), none, none, some (.int c)]) (ei_seqT (by simp [runF, e_var, e_int, e_bl, e_non, e_str, e_gint, e_tup, e_lst, e_dct, e_op, e_neg, e_cm, e_ch, e_isN, e_isB, e_and, e_or, e_not, e_ite, e_ix, e_sl, e_rev, e_bi, e_isi, e_call, e_new, e_meth, e_fld, e_bm, e_fstr, e_frz, e_said, e_sset, e_tupR, e_never, x_asg, x_expr, x_ret, x_retN, x_ite, x_raise, x_tryN, x_pass, x_never, x_nil, x_cons, es_nil, es_cons, eo_none, eo_some, ec_none, ec_some, a_name, a_tup, a_sub, as_nil, as_cons, p_name, p_tup, ps_nil, ps_cons, isiD, isi0, cmD, cmI, biD, bi1, bi2, biL, ixD, opD, addD, mulD, int2, wipe, fin_pure1, itemsD, heldD, isNm, kdD, bmD, allD, anyD, allocL])) rfl (by simp) rfl (fun c hc => ⟨by simp [runF, e_var, e_int, e_bl, e_non, e_str, e_gint, e_tup, e_lst, e_dct, e_op, e_neg, e_cm, e_ch, e_isN, e_isB, e_and, e_or, e_not, e_ite, e_ix, e_sl, e_rev, e_bi, e_isi, e_call, e_new, e_meth, e_fld, e_bm, e_fstr, e_frz, e_said, e_sset, e_tupR, e_never, x_asg, x_expr, x_ret, x_retN, x_ite, x_raise, x_tryN, x_pass, x_never, x_nil, x_cons, es_nil, es_cons, eo_none, eo_some, ec_none, ec_some, a_name, a_tup, a_sub, as_nil, as_cons, p_name, p_tup, ps_nil, ps_cons, isiD, isi0, cmD, cmI, biD, bi1, bi2, biL, ixD, opD, addD, mulD, int2, wipe, fin_pure1, itemsD, heldD, isNm, kdD, bmD, allD, anyD, allocL], by simp [runF, e_var, e_int, e_bl, e_non, e_str, e_gint, e_tup, e_lst, e_dct, e_op, e_neg, e_cm, e_ch, e_isN, e_isB, e_and, e_or, e_not, e_ite, e_ix, e_sl, e_rev, e_bi, e_isi, e_call, e_new, e_meth, e_fld, e_bm, e_fstr, e_frz, e_said, e_sset, e_tupR, e_never, x_asg, x_expr, x_ret, x_retN, x_ite, x_raise, x_tryN, x_pass, x_never, x_nil, x_cons, es_nil, es_cons, eo_none, eo_some, ec_none, ec_some, a_name, a_tup, a_sub, as_nil, as_cons, p_name, p_tup, ps_nil, ps_cons, isiD, isi0, cmD, cmI, biD, bi1, bi2, biL, ixD, opD, addD, mulD, int2, wipe, fin_pure1, itemsD, heldD, isNm, kdD, bmD, allD, anyD, allocL], fun _ => by simp [runF, e_var, e_int, e_bl, e_non, e_str, e_gint, e_tup, e_lst, e_dct, e_op, e_neg, e_cm, e_ch, e_isN, e_isB, e_and, e_or, e_not, e_ite, e_ix, e_sl, e_rev, e_bi, e_isi, e_call, e_new, e_meth, e_fld, e_bm, e_fstr, e_frz, e_said, e_sset, e_tupR, e_never, x_asg, x_expr, x_ret, x_retN, x_ite, x_raise, x_tryN, x_pass, x_never, x_nil, x_cons, es_nil, es_cons, eo_none, eo_some, ec_none, ec_some, a_name, a_tup, a_sub, as_nil, as_cons, p_name, p_tup, ps_nil, ps_cons, isiD, isi0, cmD, cmI, biD, bi1, bi2, biL, ixD, opD, addD, mulD, int2, wipe, fin_pure1, itemsD, heldD, isNm, kdD, bmD, allD, anyD, allocL, m_is_day]⟩) hl]
  have h2 : ¬ (24 : Int) < ds.length := by omega
  have hz : (ds.zip (ds.drop 1)).length ≤ lim := by rw [List.length_zip]; omega
  simp [runF, e_var, e_int, e_bl, e_non, e_str, e_gint, e_tup, e_lst, e_dct, e_op, e_neg, e_cm, e_ch, e_isN, e_isB, e_and, e_or, e_not, e_ite, e_ix, e_sl, e_rev, e_bi, e_isi, e_call, e_new, e_meth, e_fld, e_bm, e_fstr, e_frz, e_said, e_sset, e_tupR, e_never, x_asg, x_expr, x_ret, x_retN, x_ite, x_raise, x_tryN, x_pass, x_never, x_nil, x_cons, es_nil, es_cons, eo_none, eo_some, ec_none, ec_some, a_name, a_tup, a_sub, as_nil, as_cons, p_name, p_tup, ps_nil, ps_cons, isiD, isi0, cmD, cmI, biD, bi1, bi2, biL, ixD, opD, addD, mulD, int2, wipe, fin_pure1, itemsD, heldD, isNm, kdD, bmD, allD, anyD, allocL, h2, hd]
  rw [ev_compF (ds.zip (ds.drop 1)) (fun p => .tuple [.int p.1, .int p.2]) (fun _ => true) (fun p => .bool (decide (p.1 ≤ p.2))) (fun p => [some (.tuple (ds.map .int)), some (.int p.1), some (.int p.2), none]) (ei_zipT (ds := ds.map .int) (es := (ds.drop 1).map .int) (by simp [runF, e_var, e_int, e_bl, e_non, e_str, e_gint, e_tup, e_lst, e_dct, e_op, e_neg, e_cm, e_ch, e_isN, e_isB, e_and, e_or, e_not, e_ite, e_ix, e_sl, e_rev, e_bi, e_isi, e_call, e_new, e_meth, e_fld, e_bm, e_fstr, e_frz, e_said, e_sset, e_tupR, e_never, x_asg, x_expr, x_ret, x_retN, x_ite, x_raise, x_tryN, x_pass, x_never, x_nil, x_cons, es_nil, es_cons, eo_none, eo_some, ec_none, ec_some, a_name, a_tup, a_sub, as_nil, as_cons, p_name, p_tup, ps_nil, ps_cons, isiD, isi0, cmD, cmI, biD, bi1, bi2, biL, ixD, opD, addD, mulD, int2, wipe, fin_pure1, itemsD, heldD, isNm, kdD, bmD, allD, anyD, allocL]) (by simp [runF, e_var, e_int, e_bl, e_non, e_str, e_gint, e_tup, e_lst, e_dct, e_op, e_neg, e_cm, e_ch, e_isN, e_isB, e_and, e_or, e_not, e_ite, e_ix, e_sl, e_rev, e_bi, e_isi, e_call, e_new, e_meth, e_fld, e_bm, e_fstr, e_frz, e_said, e_sset, e_tupR, e_never, x_asg, x_expr, x_ret, x_retN, x_ite, x_raise, x_tryN, x_pass, x_never, x_nil, x_cons, es_nil, es_cons, eo_none, eo_some, ec_none, ec_some, a_name, a_tup, a_sub, as_nil, as_cons, p_name, p_tup, ps_nil, ps_cons, isiD, isi0, cmD, cmI, biD, bi1, bi2, biL, ixD, opD, addD, mulD, int2, wipe, fin_pure1, itemsD, heldD, isNm, kdD, bmD, allD, anyD, allocL, slD, cut1])) (zipL_map ..) (by simp) rfl (fun c hc => ⟨by simp [runF, e_var, e_int, e_bl, e_non, e_str, e_gint, e_tup, e_lst, e_dct, e_op, e_neg, e_cm, e_ch, e_isN, e_isB, e_and, e_or, e_not, e_ite, e_ix, e_sl, e_rev, e_bi, e_isi, e_call, e_new, e_meth, e_fld, e_bm, e_fstr, e_frz, e_said, e_sset, e_tupR, e_never, x_asg, x_expr, x_ret, x_retN, x_ite, x_raise, x_tryN, x_pass, x_never, x_nil, x_cons, es_nil, es_cons, eo_none, eo_some, ec_none, ec_some, a_name, a_tup, a_sub, as_nil, as_cons, p_name, p_tup, ps_nil, ps_cons, isiD, isi0, cmD, cmI, biD, bi1, bi2, biL, ixD, opD, addD, mulD, int2, wipe, fin_pure1, itemsD, heldD, isNm, kdD, bmD, allD, anyD, allocL], by simp [runF, e_var, e_int, e_bl, e_non, e_str, e_gint, e_tup, e_lst, e_dct, e_op, e_neg, e_cm, e_ch, e_isN, e_isB, e_and, e_or, e_not, e_ite, e_ix, e_sl, e_rev, e_bi, e_isi, e_call, e_new, e_meth, e_fld, e_bm, e_fstr, e_frz, e_said, e_sset, e_tupR, e_never, x_asg, x_expr, x_ret, x_retN, x_ite, x_raise, x_tryN, x_pass, x_never, x_nil, x_cons, es_nil, es_cons, eo_none, eo_some, ec_none, ec_some, a_name, a_tup, a_sub, as_nil, as_cons, p_name, p_tup, ps_nil, ps_cons, isiD, isi0, cmD, cmI, biD, bi1, bi2, biL, ixD, opD, addD, mulD, int2, wipe, fin_pure1, itemsD, heldD, isNm, kdD, bmD, allD, anyD, allocL], fun _ => by simp [runF, e_var, e_int, e_bl, e_non, e_str, e_gint, e_tup, e_lst, e_dct, e_op, e_neg, e_cm, e_ch, e_isN, e_isB, e_and, e_or, e_not, e_ite, e_ix, e_sl, e_rev, e_bi, e_isi, e_call, e_new, e_meth, e_fld, e_bm, e_fstr, e_frz, e_said, e_sset, e_tupR, e_never, x_asg, x_expr, x_ret, x_retN, x_ite, x_raise, x_tryN, x_pass, x_never, x_nil, x_cons, es_nil, es_cons, eo_none, eo_some, ec_none, ec_some, a_name, a_tup, a_sub, as_nil, as_cons, p_name, p_tup, ps_nil, ps_cons, isiD, isi0, cmD, cmI, biD, bi1, bi2, biL, ixD, opD, addD, mulD, int2, wipe, fin_pure1, itemsD, heldD, isNm, kdD, bmD, allD, anyD, allocL]⟩) hz]
  simp [runF, e_var, e_int, e_bl, e_non, e_str, e_gint, e_tup, e_lst, e_dct, e_op, e_neg, e_cm, e_ch, e_isN, e_isB, e_and, e_or, e_not, e_ite, e_ix, e_sl, e_rev, e_bi, e_isi, e_call, e_new, e_meth, e_fld, e_bm, e_fstr, e_frz, e_said, e_sset, e_tupR, e_never, x_asg, x_expr, x_ret, x_retN, x_ite, x_raise, x_tryN, x_pass, x_never, x_nil, x_cons, es_nil, es_cons, eo_none, eo_some, ec_none, ec_some, a_name, a_tup, a_sub, as_nil, as_cons, p_name, p_tup, ps_nil, ps_cons, isiD, isi0, cmD, cmI, biD, bi1, bi2, biL, ixD, opD, addD, mulD, int2, wipe, fin_pure1, itemsD, heldD, isNm, kdD, bmD, allD, anyD, allocL]
  exact fun a b hm => by simpa using List.all_eq_true.mp (pw_zip ds so) (a, b) (by simpa using hm)
def okIn (cs : List Card) (ds : List Int) : Prop := cs.length ≤ 8 ∧ cs.all cardB = true ∧ ds.length ≤ 24 ∧ ds.all dayB = true ∧ ds.Pairwise (· ≤ ·)
theorem m_need_both (n : Nat) (cs : List Card) (ds : List Int) (h : okIn cs ds) (S : Sto) : callS gi fns (n + 6) "need_both" [.tuple (cs.map cD), .tuple (ds.map .int)] S = .ok .none S := by
  rw [callS_fn (F := f_need_both) (by kernel_rfl)]
  obtain ⟨h1, h2, h3, h4, h5⟩ := h
  simp [runF, e_var, e_int, e_bl, e_non, e_str, e_gint, e_tup, e_lst, e_dct, e_op, e_neg, e_cm, e_ch, e_isN, e_isB, e_and, e_or, e_not, e_ite, e_ix, e_sl, e_rev, e_bi, e_isi, e_call, e_new, e_meth, e_fld, e_bm, e_fstr, e_frz, e_said, e_sset, e_tupR, e_never, x_asg, x_expr, x_ret, x_retN, x_ite, x_raise, x_tryN, x_pass, x_never, x_nil, x_cons, es_nil, es_cons, eo_none, eo_some, ec_none, ec_some, a_name, a_tup, a_sub, as_nil, as_cons, p_name, p_tup, ps_nil, ps_cons, isiD, isi0, cmD, cmI, biD, bi1, bi2, biL, ixD, opD, addD, mulD, int2, wipe, fin_pure1, itemsD, heldD, isNm, kdD, bmD, allD, anyD, allocL, f_need_both, m_are_cards _ cs h1, h2, m_are_comings _ ds h3 h4 h5]
def oD : Option Nat → D
  | none => .none
  | some i => .int i
def bcBody : List St := [.ite (.and (.cm .gt (.ix (.var 1) (.var 4)) (.int 0)) (.call "is_valid" [.var 5, .var 2])) [.ite (.or (.isN false (.var 3)) (.cm .lt (.ix (.var 5) (.int 1)) (.ix (.ix (.var 0) (.var 3)) (.int 1)))) [.asg (.name 3) (.var 4)] []] []]
theorem eqOk_int (i : Int) : eqOk (.int i) = true := by simp [eqOk, PyData.plain, PyData.depth, depthMax]
theorem bc_loop (n : Nat) (cs : List Card) (left : List Int) (d : Int) (hl : left.length = cs.length) (S : Sto) (j : Nat) (hS : objL S j = some (left.map .int)) : ∀ (rest : List Card) (i : Nat) (f : Option Nat) (x y : Option D), cs.drop i = rest → (∀ k, f = some k → k < cs.length) →
    ∃ x' y', forL (Wk.ok ⟨enumL 0 (cs.map cD), [], true⟩) (putT (.tup [.name 4, .name 5])) (fun ρ S => exs (callS gi fns (n + 1)) gi bcBody ρ S) (enumL i (rest.map cD)) [some (.tuple (cs.map cD)), some (rf j), some (.int d), some (oD f), x, y] S
      = .next [some (.tuple (cs.map cD)), some (rf j), some (.int d), some (oD (bestGo cs left d i rest f)), x', y'] S
  | [], i, f, x, y, _, _ => by
    refine ⟨x, y, ?_⟩
    simp [enumL, forL, bestGo]
  | c :: rest, i, f, x, y, e, hf => by
    have hi : i < cs.length := by
      have := congrArg List.length e
      simp at this
      omega
    have er : cs.drop (i + 1) = rest := by
      have := congrArg List.tail e
      simpa [List.tail_drop] using this
    have hil : i < left.length := by omega
    have el : left[i]? = some left[i] := List.getElem?_eq_getElem hil
    have eg : left.getD i 0 = left[i] := getD_of el
    have eg2 : left[i]?.getD 0 = left[i] := by rw [el]; rfl
    unfold bestGo
    obtain ⟨x', y', ih⟩ := bc_loop n cs left d hl S j hS rest (i + 1) (bstep cs left d i c f) (some (.int i)) (some (cD c)) er (fun k hk => by
      rcases bstep_or (all := cs) (left := left) (d := d) (i := i) (c := c) (f := f) with q | q
      · rw [q] at hk; cases hk; exact hi
      · exact hf k (q ▸ hk))
    refine ⟨x', y', ?_⟩
    rw [← ih]
    simp only [List.map_cons, enumL, forL]
    rw [if_pos (by simp)]
    unfold bstep
    simp [runF, e_var, e_int, e_bl, e_non, e_str, e_gint, e_tup, e_lst, e_dct, e_op, e_neg, e_cm, e_ch, e_isN, e_isB, e_and, e_or, e_not, e_ite, e_ix, e_sl, e_rev, e_bi, e_isi, e_call, e_new, e_meth, e_fld, e_bm, e_fstr, e_frz, e_said, e_sset, e_tupR, e_never, x_asg, x_expr, x_ret, x_retN, x_ite, x_raise, x_tryN, x_pass, x_never, x_nil, x_cons, es_nil, es_cons, eo_none, eo_some, ec_none, ec_some, a_name, a_tup, a_sub, as_nil, as_cons, p_name, p_tup, ps_nil, ps_cons, isiD, isi0, cmD, cmI, biD, bi1, bi2, biL, ixD, opD, addD, mulD, int2, wipe, fin_pure1, itemsD, heldD, isNm, kdD, bmD, allD, anyD, allocL, bcBody, atI_nat, hS, el, m_is_valid, eg]
    by_cases q1 : 0 < left[i]
    · cases q2 : vld c d
      · simp [runF, e_var, e_int, e_bl, e_non, e_str, e_gint, e_tup, e_lst, e_dct, e_op, e_neg, e_cm, e_ch, e_isN, e_isB, e_and, e_or, e_not, e_ite, e_ix, e_sl, e_rev, e_bi, e_isi, e_call, e_new, e_meth, e_fld, e_bm, e_fstr, e_frz, e_said, e_sset, e_tupR, e_never, x_asg, x_expr, x_ret, x_retN, x_ite, x_raise, x_tryN, x_pass, x_never, x_nil, x_cons, es_nil, es_cons, eo_none, eo_some, ec_none, ec_some, a_name, a_tup, a_sub, as_nil, as_cons, p_name, p_tup, ps_nil, ps_cons, isiD, isi0, cmD, cmI, biD, bi1, bi2, biL, ixD, opD, addD, mulD, int2, wipe, fin_pure1, itemsD, heldD, isNm, kdD, bmD, allD, anyD, allocL, q1, q2]
      · cases f with
        | none => simp [runF, e_var, e_int, e_bl, e_non, e_str, e_gint, e_tup, e_lst, e_dct, e_op, e_neg, e_cm, e_ch, e_isN, e_isB, e_and, e_or, e_not, e_ite, e_ix, e_sl, e_rev, e_bi, e_isi, e_call, e_new, e_meth, e_fld, e_bm, e_fstr, e_frz, e_said, e_sset, e_tupR, e_never, x_asg, x_expr, x_ret, x_retN, x_ite, x_raise, x_tryN, x_pass, x_never, x_nil, x_cons, es_nil, es_cons, eo_none, eo_some, ec_none, ec_some, a_name, a_tup, a_sub, as_nil, as_cons, p_name, p_tup, ps_nil, ps_cons, isiD, isi0, cmD, cmI, biD, bi1, bi2, biL, ixD, opD, addD, mulD, int2, wipe, fin_pure1, itemsD, heldD, isNm, kdD, bmD, allD, anyD, allocL, q1, q2, oD]
        | some k =>
          have hk := hf k rfl
          have ek : cs[k]? = some cs[k] := List.getElem?_eq_getElem (hf k rfl)
          by_cases q3 : c.2.1 < cs[k].2.1 <;> simp [runF, e_var, e_int, e_bl, e_non, e_str, e_gint, e_tup, e_lst, e_dct, e_op, e_neg, e_cm, e_ch, e_isN, e_isB, e_and, e_or, e_not, e_ite, e_ix, e_sl, e_rev, e_bi, e_isi, e_call, e_new, e_meth, e_fld, e_bm, e_fstr, e_frz, e_said, e_sset, e_tupR, e_never, x_asg, x_expr, x_ret, x_retN, x_ite, x_raise, x_tryN, x_pass, x_never, x_nil, x_cons, es_nil, es_cons, eo_none, eo_some, ec_none, ec_some, a_name, a_tup, a_sub, as_nil, as_cons, p_name, p_tup, ps_nil, ps_cons, isiD, isi0, cmD, cmI, biD, bi1, bi2, biL, ixD, opD, addD, mulD, int2, wipe, fin_pure1, itemsD, heldD, isNm, kdD, bmD, allD, anyD, allocL, q1, q2, oD, atI_nat, ek, cD, eqOk_int, ltD, q3]
    · simp [runF, e_var, e_int, e_bl, e_non, e_str, e_gint, e_tup, e_lst, e_dct, e_op, e_neg, e_cm, e_ch, e_isN, e_isB, e_and, e_or, e_not, e_ite, e_ix, e_sl, e_rev, e_bi, e_isi, e_call, e_new, e_meth, e_fld, e_bm, e_fstr, e_frz, e_said, e_sset, e_tupR, e_never, x_asg, x_expr, x_ret, x_retN, x_ite, x_raise, x_tryN, x_pass, x_never, x_nil, x_cons, es_nil, es_cons, eo_none, eo_some, ec_none, ec_some, a_name, a_tup, a_sub, as_nil, as_cons, p_name, p_tup, ps_nil, ps_cons, isiD, isi0, cmD, cmI, biD, bi1, bi2, biL, ixD, opD, addD, mulD, int2, wipe, fin_pure1, itemsD, heldD, isNm, kdD, bmD, allD, anyD, allocL, q1]
theorem refB_oD (n : Nat) (o : Option Nat) : refB n (oD o) = true := by cases o <;> simp [oD]
theorem m_best_card (n : Nat) (cs : List Card) (left : List Int) (d : Int) (hl : left.length = cs.length) (S : Sto) (j : Nat) (hS : objL S j = some (left.map .int)) :
    callS gi fns (n + 2) "best_card" [.tuple (cs.map cD), rf j, .int d] S = .ok (oD (bestF cs left d)) S := by
  rw [callS_fn (F := f_best_card) (by kernel_rfl)]
  obtain ⟨x', y', h⟩ := bc_loop n cs left d hl S j hS cs 0 none none none rfl (fun k hk => nomatch hk)
  have e : oD none = .none := rfl
  rw [e] at h
  unfold bcBody at h
  simp [runF, e_var, e_int, e_bl, e_non, e_str, e_gint, e_tup, e_lst, e_dct, e_op, e_neg, e_cm, e_ch, e_isN, e_isB, e_and, e_or, e_not, e_ite, e_ix, e_sl, e_rev, e_bi, e_isi, e_call, e_new, e_meth, e_fld, e_bm, e_fstr, e_frz, e_said, e_sset, e_tupR, e_never, x_asg, x_expr, x_ret, x_retN, x_ite, x_raise, x_tryN, x_pass, x_never, x_nil, x_cons, es_nil, es_cons, eo_none, eo_some, ec_none, ec_some, a_name, a_tup, a_sub, as_nil, as_cons, p_name, p_tup, ps_nil, ps_cons, isiD, isi0, cmD, cmI, biD, bi1, bi2, biL, ixD, opD, addD, mulD, int2, wipe, fin_pure1, itemsD, heldD, isNm, kdD, bmD, allD, anyD, allocL, f_best_card]
  rw [x_for (w := ⟨enumL 0 (cs.map cD), [], true⟩) (S' := S) (ei_enumT (by simp [runF, e_var, e_int, e_bl, e_non, e_str, e_gint, e_tup, e_lst, e_dct, e_op, e_neg, e_cm, e_ch, e_isN, e_isB, e_and, e_or, e_not, e_ite, e_ix, e_sl, e_rev, e_bi, e_isi, e_call, e_new, e_meth, e_fld, e_bm, e_fstr, e_frz, e_said, e_sset, e_tupR, e_never, x_asg, x_expr, x_ret, x_retN, x_ite, x_raise, x_tryN, x_pass, x_never, x_nil, x_cons, es_nil, es_cons, eo_none, eo_some, ec_none, ec_some, a_name, a_tup, a_sub, as_nil, as_cons, p_name, p_tup, ps_nil, ps_cons, isiD, isi0, cmD, cmI, biD, bi1, bi2, biL, ixD, opD, addD, mulD, int2, wipe, fin_pure1, itemsD, heldD, isNm, kdD, bmD, allD, anyD, allocL])) rfl]
  rw [h]
  simp [runF, e_var, e_int, e_bl, e_non, e_str, e_gint, e_tup, e_lst, e_dct, e_op, e_neg, e_cm, e_ch, e_isN, e_isB, e_and, e_or, e_not, e_ite, e_ix, e_sl, e_rev, e_bi, e_isi, e_call, e_new, e_meth, e_fld, e_bm, e_fstr, e_frz, e_said, e_sset, e_tupR, e_never, x_asg, x_expr, x_ret, x_retN, x_ite, x_raise, x_tryN, x_pass, x_never, x_nil, x_cons, es_nil, es_cons, eo_none, eo_some, ec_none, ec_some, a_name, a_tup, a_sub, as_nil, as_cons, p_name, p_tup, ps_nil, ps_cons, isiD, isi0, cmD, cmI, biD, bi1, bi2, biL, ixD, opD, addD, mulD, int2, wipe, fin_pure1, itemsD, heldD, isNm, kdD, bmD, allD, anyD, allocL, refB_oD, bestF]
def tkBody : List St := [.asg (.name 5) (.call "best_card" [.var 0, .var 2, .var 4]),
  .ite (.isN true (.var 5)) [.asg (.sub (.var 2) (.var 5)) (.op .sub (.ix (.var 2) (.var 5)) (.int 1))] [],
  .expr (.bm (.var 3) .append [.var 5])]
theorem tk_loop (n : Nat) (cs : List Card) (z : D) (w : Option D) (S : Sto) (ok : Sto → Prop) (hok : ∀ T, ok T) : ∀ (ds left : List Int) (acc : List (Option Nat)) (x y : Option D), left.length = cs.length → acc.length + ds.length ≤ lim →
    ∃ x' y' left', forL ok (putT (.name 4)) (fun ρ S => exs (callS gi fns (n + 2)) gi tkBody ρ S) (ds.map .int) [some (.tuple (cs.map cD)), some z, some (rf S.length), some (rf (S.length + 1)), x, y, w] (S ++ [.lst (left.map .int), .lst (acc.map oD)])
      = .next [some (.tuple (cs.map cD)), some z, some (rf S.length), some (rf (S.length + 1)), x', y', w] (S ++ [.lst left', .lst ((acc ++ takeF cs left ds).map oD)])
  | [], left, acc, x, y, _, _ => ⟨x, y, left.map .int, by simp [forL, hok, takeF]⟩
  | d :: ds, left, acc, x, y, hl, ha => by
    have ha' : acc.length + (ds.length + 1) ≤ lim := by simpa using ha
    have b := bestF_ok hl d
    unfold takeF
    cases e : bestF cs left d with
    | none =>
      obtain ⟨x', y', l', ih⟩ := tk_loop n cs z w S ok hok ds left (acc ++ [none]) (some (.int d)) (some .none) hl (by simp; omega)
      refine ⟨x', y', l', ?_⟩
      have hlt : acc.length < lim := by omega
      rw [List.map_cons, forL_next _ (S ++ [.lst (left.map .int), .lst ((acc ++ [none]).map oD)]) (hok _) p_name (by simp [runF, e_var, e_int, e_bl, e_non, e_str, e_gint, e_tup, e_lst, e_dct, e_op, e_neg, e_cm, e_ch, e_isN, e_isB, e_and, e_or, e_not, e_ite, e_ix, e_sl, e_rev, e_bi, e_isi, e_call, e_new, e_meth, e_fld, e_bm, e_fstr, e_frz, e_said, e_sset, e_tupR, e_never, x_asg, x_expr, x_ret, x_retN, x_ite, x_raise, x_tryN, x_pass, x_never, x_nil, x_cons, es_nil, es_cons, eo_none, eo_some, ec_none, ec_some, a_name, a_tup, a_sub, as_nil, as_cons, p_name, p_tup, ps_nil, ps_cons, isiD, isi0, cmD, cmI, biD, bi1, bi2, biL, ixD, opD, addD, mulD, int2, wipe, fin_pure1, itemsD, heldD, isNm, kdD, bmD, allD, anyD, allocL, tkBody, m_best_card n cs left d hl, e, oD, updL, lstD_rf, hlt]; rfl)]
      simpa [oD] using ih
    | some i =>
      rw [e] at b
      obtain ⟨hi, c, l, e1, e2, _⟩ := b.got i rfl
      have hil : i < left.length := by omega
      obtain ⟨x', y', l', ih⟩ := tk_loop n cs z w S ok hok ds (left.set i (left.getD i 0 - 1)) (acc ++ [some i]) (some (.int d)) (some (.int i)) (by simpa using hl) (by simp; omega)
      refine ⟨x', y', l', ?_⟩
      have hlt : acc.length < lim := by omega
      have eg : left.getD i 0 = l := getD_of e2
      rw [List.map_cons, forL_next _ (S ++ [.lst ((left.set i (left.getD i 0 - 1)).map .int), .lst ((acc ++ [some i]).map oD)]) (hok _) p_name (by simp [runF, e_var, e_int, e_bl, e_non, e_str, e_gint, e_tup, e_lst, e_dct, e_op, e_neg, e_cm, e_ch, e_isN, e_isB, e_and, e_or, e_not, e_ite, e_ix, e_sl, e_rev, e_bi, e_isi, e_call, e_new, e_meth, e_fld, e_bm, e_fstr, e_frz, e_said, e_sset, e_tupR, e_never, x_asg, x_expr, x_ret, x_retN, x_ite, x_raise, x_tryN, x_pass, x_never, x_nil, x_cons, es_nil, es_cons, eo_none, eo_some, ec_none, ec_some, a_name, a_tup, a_sub, as_nil, as_cons, p_name, p_tup, ps_nil, ps_cons, isiD, isi0, cmD, cmI, biD, bi1, bi2, biL, ixD, opD, addD, mulD, int2, wipe, fin_pure1, itemsD, heldD, isNm, kdD, bmD, allD, anyD, allocL, tkBody, m_best_card n cs left d hl, e, oD, updL, lstD_rf, hlt, atI_nat, e2, setD, ixN_nat hil, List.map_set]; rfl)]
      simpa [oD] using ih
theorem refBs_oD (n : Nat) (xs : List (Option Nat)) : refBs n (xs.map oD) = true := refBs_map (refB_oD n) xs
theorem m_taking_of (n : Nat) (cs : List Card) (ds : List Int) (hc : cs.length ≤ 1000) (hd : ds.length ≤ 1000) (S : Sto) :
    callS gi fns (n + 3) "taking_of" [.tuple (cs.map cD), .tuple (ds.map .int)] S = .ok (.tuple ((tk cs ds).map oD)) S := by
  rw [callS_fn (F := f_taking_of) (by kernel_rfl)]
  have hl : cs.length ≤ lim := by rw [lim_eq]; omega
  simp [runF, e_var, e_int, e_bl, e_non, e_str, e_gint, e_tup, e_lst, e_dct, e_op, e_neg, e_cm, e_ch, e_isN, e_isB, e_and, e_or, e_not, e_ite, e_ix, e_sl, e_rev, e_bi, e_isi, e_call, e_new, e_meth, e_fld, e_bm, e_fstr, e_frz, e_said, e_sset, e_tupR, e_never, x_asg, x_expr, x_ret, x_retN, x_ite, x_raise, x_tryN, x_pass, x_never, x_nil, x_cons, es_nil, es_cons, eo_none, eo_some, ec_none, ec_some, a_name, a_tup, a_sub, as_nil, as_cons, p_name, p_tup, ps_nil, ps_cons, isiD, isi0, cmD, cmI, biD, bi1, bi2, biL, ixD, opD, addD, mulD, int2, wipe, fin_pure1, itemsD, heldD, isNm, kdD, bmD, allD, anyD, allocL, f_taking_of]
  rw [ev_comp cs cD (fun _ => true) (fun c => .int (trn c)) (fun c => [some (.tuple (cs.map cD)), some (.tuple (ds.map .int)), none, none, none, none, some (cD c)]) (ei_seqT (by simp [runF, e_var, e_int, e_bl, e_non, e_str, e_gint, e_tup, e_lst, e_dct, e_op, e_neg, e_cm, e_ch, e_isN, e_isB, e_and, e_or, e_not, e_ite, e_ix, e_sl, e_rev, e_bi, e_isi, e_call, e_new, e_meth, e_fld, e_bm, e_fstr, e_frz, e_said, e_sset, e_tupR, e_never, x_asg, x_expr, x_ret, x_retN, x_ite, x_raise, x_tryN, x_pass, x_never, x_nil, x_cons, es_nil, es_cons, eo_none, eo_some, ec_none, ec_some, a_name, a_tup, a_sub, as_nil, as_cons, p_name, p_tup, ps_nil, ps_cons, isiD, isi0, cmD, cmI, biD, bi1, bi2, biL, ixD, opD, addD, mulD, int2, wipe, fin_pure1, itemsD, heldD, isNm, kdD, bmD, allD, anyD, allocL])) rfl (by simp) rfl (fun c hc => ⟨by simp [runF, e_var, e_int, e_bl, e_non, e_str, e_gint, e_tup, e_lst, e_dct, e_op, e_neg, e_cm, e_ch, e_isN, e_isB, e_and, e_or, e_not, e_ite, e_ix, e_sl, e_rev, e_bi, e_isi, e_call, e_new, e_meth, e_fld, e_bm, e_fstr, e_frz, e_said, e_sset, e_tupR, e_never, x_asg, x_expr, x_ret, x_retN, x_ite, x_raise, x_tryN, x_pass, x_never, x_nil, x_cons, es_nil, es_cons, eo_none, eo_some, ec_none, ec_some, a_name, a_tup, a_sub, as_nil, as_cons, p_name, p_tup, ps_nil, ps_cons, isiD, isi0, cmD, cmI, biD, bi1, bi2, biL, ixD, opD, addD, mulD, int2, wipe, fin_pure1, itemsD, heldD, isNm, kdD, bmD, allD, anyD, allocL], by simp [runF, e_var, e_int, e_bl, e_non, e_str, e_gint, e_tup, e_lst, e_dct, e_op, e_neg, e_cm, e_ch, e_isN, e_isB, e_and, e_or, e_not, e_ite, e_ix, e_sl, e_rev, e_bi, e_isi, e_call, e_new, e_meth, e_fld, e_bm, e_fstr, e_frz, e_said, e_sset, e_tupR, e_never, x_asg, x_expr, x_ret, x_retN, x_ite, x_raise, x_tryN, x_pass, x_never, x_nil, x_cons, es_nil, es_cons, eo_none, eo_some, ec_none, ec_some, a_name, a_tup, a_sub, as_nil, as_cons, p_name, p_tup, ps_nil, ps_cons, isiD, isi0, cmD, cmI, biD, bi1, bi2, biL, ixD, opD, addD, mulD, int2, wipe, fin_pure1, itemsD, heldD, isNm, kdD, bmD, allD, anyD, allocL], fun _ => by simp [runF, e_var, e_int, e_bl, e_non, e_str, e_gint, e_tup, e_lst, e_dct, e_op, e_neg, e_cm, e_ch, e_isN, e_isB, e_and, e_or, e_not, e_ite, e_ix, e_sl, e_rev, e_bi, e_isi, e_call, e_new, e_meth, e_fld, e_bm, e_fstr, e_frz, e_said, e_sset, e_tupR, e_never, x_asg, x_expr, x_ret, x_retN, x_ite, x_raise, x_tryN, x_pass, x_never, x_nil, x_cons, es_nil, es_cons, eo_none, eo_some, ec_none, ec_some, a_name, a_tup, a_sub, as_nil, as_cons, p_name, p_tup, ps_nil, ps_cons, isiD, isi0, cmD, cmI, biD, bi1, bi2, biL, ixD, opD, addD, mulD, int2, wipe, fin_pure1, itemsD, heldD, isNm, kdD, bmD, allD, anyD, allocL, cD, trn]⟩) hl]
  have e1 : cs.map (fun c => PyData.int (trn c)) = (cs.map trn).map .int := by simp [Function.comp_def]
  obtain ⟨x', y', l', h⟩ := tk_loop n cs (.tuple (ds.map .int)) none S (Wk.ok ⟨ds.map .int, [], false⟩) (fun T => by simp) ds (cs.map trn) [] none none (by simp) (by rw [lim_eq]; simp; omega)
  unfold tkBody at h
  simp [runF, e_var, e_int, e_bl, e_non, e_str, e_gint, e_tup, e_lst, e_dct, e_op, e_neg, e_cm, e_ch, e_isN, e_isB, e_and, e_or, e_not, e_ite, e_ix, e_sl, e_rev, e_bi, e_isi, e_call, e_new, e_meth, e_fld, e_bm, e_fstr, e_frz, e_said, e_sset, e_tupR, e_never, x_asg, x_expr, x_ret, x_retN, x_ite, x_raise, x_tryN, x_pass, x_never, x_nil, x_cons, es_nil, es_cons, eo_none, eo_some, ec_none, ec_some, a_name, a_tup, a_sub, as_nil, as_cons, p_name, p_tup, ps_nil, ps_cons, isiD, isi0, cmD, cmI, biD, bi1, bi2, biL, ixD, opD, addD, mulD, int2, wipe, fin_pure1, itemsD, heldD, isNm, kdD, bmD, allD, anyD, allocL, hl, e1]
  rw [x_for (w := ⟨ds.map .int, [], false⟩) (ei_seqT (by simp [runF, e_var, e_int, e_bl, e_non, e_str, e_gint, e_tup, e_lst, e_dct, e_op, e_neg, e_cm, e_ch, e_isN, e_isB, e_and, e_or, e_not, e_ite, e_ix, e_sl, e_rev, e_bi, e_isi, e_call, e_new, e_meth, e_fld, e_bm, e_fstr, e_frz, e_said, e_sset, e_tupR, e_never, x_asg, x_expr, x_ret, x_retN, x_ite, x_raise, x_tryN, x_pass, x_never, x_nil, x_cons, es_nil, es_cons, eo_none, eo_some, ec_none, ec_some, a_name, a_tup, a_sub, as_nil, as_cons, p_name, p_tup, ps_nil, ps_cons, isiD, isi0, cmD, cmI, biD, bi1, bi2, biL, ixD, opD, addD, mulD, int2, wipe, fin_pure1, itemsD, heldD, isNm, kdD, bmD, allD, anyD, allocL])) rfl]
  have e2 : ([] : List (Option Nat)).map oD = [] := rfl
  rw [e2, List.map_map] at h
  rw [h]
  simp [runF, e_var, e_int, e_bl, e_non, e_str, e_gint, e_tup, e_lst, e_dct, e_op, e_neg, e_cm, e_ch, e_isN, e_isB, e_and, e_or, e_not, e_ite, e_ix, e_sl, e_rev, e_bi, e_isi, e_call, e_new, e_meth, e_fld, e_bm, e_fstr, e_frz, e_said, e_sset, e_tupR, e_never, x_asg, x_expr, x_ret, x_retN, x_ite, x_raise, x_tryN, x_pass, x_never, x_nil, x_cons, es_nil, es_cons, eo_none, eo_some, ec_none, ec_some, a_name, a_tup, a_sub, as_nil, as_cons, p_name, p_tup, ps_nil, ps_cons, isiD, isi0, cmD, cmI, biD, bi1, bi2, biL, ixD, opD, addD, mulD, int2, wipe, fin_pure1, itemsD, heldD, isNm, kdD, bmD, allD, anyD, allocL, tk, fin_pureA, refBs_oD]
theorem eqv_oD (o : Option Nat) : PyData.eqv (oD o) .none = decide (o = none) := by
  cases o <;> simp [oD, PyData.eqv]
theorem eqOk_oD (o : Option Nat) : eqOk (oD o) = true := by
  cases o <;> simp [oD, eqOk, PyData.plain, PyData.depth, depthMax]
theorem m_lost_in (n : Nat) (cs : List Card) (ds : List Int) (hc : cs.length ≤ 1000) (hd : ds.length ≤ 1000) (S : Sto) :
    callS gi fns (n + 4) "lost_in" [.tuple (cs.map cD), .tuple (ds.map .int)] S = .ok (.int (lostF cs ds)) S := by
  rw [callS_fn (F := f_lost_in) (by kernel_rfl)]
  have e1 : eqOk .none = true := by simp [eqOk, PyData.plain, PyData.depth, depthMax]
  have e2 : ((tk cs ds).map oD).countP (eqvR .none) = (tk cs ds).count none := by
    rw [List.countP_map, List.count]
    refine List.countP_congr fun o _ => ?_
    simp [eqvR, eqv_oD]
  have e3 : findOk .none ((tk cs ds).map oD) = true := by
    unfold findOk
    rw [e1, List.all_map]
    exact List.all_eq_true.mpr fun o _ => eqOk_oD o
  simp [runF, e_var, e_int, e_bl, e_non, e_str, e_gint, e_tup, e_lst, e_dct, e_op, e_neg, e_cm, e_ch, e_isN, e_isB, e_and, e_or, e_not, e_ite, e_ix, e_sl, e_rev, e_bi, e_isi, e_call, e_new, e_meth, e_fld, e_bm, e_fstr, e_frz, e_said, e_sset, e_tupR, e_never, x_asg, x_expr, x_ret, x_retN, x_ite, x_raise, x_tryN, x_pass, x_never, x_nil, x_cons, es_nil, es_cons, eo_none, eo_some, ec_none, ec_some, a_name, a_tup, a_sub, as_nil, as_cons, p_name, p_tup, ps_nil, ps_cons, isiD, isi0, cmD, cmI, biD, bi1, bi2, biL, ixD, opD, addD, mulD, int2, wipe, fin_pure1, itemsD, heldD, isNm, kdD, bmD, allD, anyD, allocL, f_lost_in, m_taking_of _ cs ds hc hd, e2, e3, lostF]
theorem m_lost (n : Nat) (cs : List Card) (ds : List Int) (h : okIn cs ds) (S : Sto) : callS gi fns (n + 7) "lost" [.tuple (cs.map cD), .tuple (ds.map .int)] S = .ok (.int (lostF cs ds)) S := by
  rw [callS_fn (F := f_lost) (by kernel_rfl)]
  have h1 := h.1
  have h2 := h.2.2.1
  simp [runF, e_var, e_int, e_bl, e_non, e_str, e_gint, e_tup, e_lst, e_dct, e_op, e_neg, e_cm, e_ch, e_isN, e_isB, e_and, e_or, e_not, e_ite, e_ix, e_sl, e_rev, e_bi, e_isi, e_call, e_new, e_meth, e_fld, e_bm, e_fstr, e_frz, e_said, e_sset, e_tupR, e_never, x_asg, x_expr, x_ret, x_retN, x_ite, x_raise, x_tryN, x_pass, x_never, x_nil, x_cons, es_nil, es_cons, eo_none, eo_some, ec_none, ec_some, a_name, a_tup, a_sub, as_nil, as_cons, p_name, p_tup, ps_nil, ps_cons, isiD, isi0, cmD, cmI, biD, bi1, bi2, biL, ixD, opD, addD, mulD, int2, wipe, fin_pure1, itemsD, heldD, isNm, kdD, bmD, allD, anyD, allocL, f_lost, m_need_both _ cs ds h, m_lost_in _ cs ds (by omega) (by omega)]
theorem eqv_int (i j : Int) : PyData.eqv (.int i) (.int j) = decide (i = j) := by rw [Bool.eq_iff_iff]; simp [PyData.eqv]
theorem all_eqOk (Y : List Int) : (Y.map PyData.int).all eqOk = true := by
  rw [List.all_map]
  exact List.all_eq_true.mpr fun o _ => eqOk_int o
theorem in_ints (S : Sto) (d : Int) (Y : List Int) : inD S (.int d) (.tuple (Y.map .int)) = some (decide (d ∈ Y)) := by
  unfold inD inSq
  simp only [seqD_tuple, eqOk_int, all_eqOk, Bool.and_self, if_true]
  congr 1
  rw [List.any_map, Bool.eq_iff_iff]
  simp [eqv_int]
theorem m_worth_of (n : Nat) (cs : List Card) (ds Y : List Int) (hc : cs.length ≤ 1000) (hd : ds.length ≤ 1000) (hY : Y.length ≤ 1000) (S : Sto) :
    callS gi fns (n + 2) "worth_of" [.tuple (cs.map cD), .tuple (ds.map .int), .tuple (Y.map .int)] S = .ok (.int (worthF cs ds Y)) S := by
  rw [callS_fn (F := f_worth_of) (by kernel_rfl)]
  have hl : cs.length ≤ lim := by rw [lim_eq]; omega
  have hl2 : ds.length ≤ lim := by rw [lim_eq]; omega
  have hl3 : Y.length ≤ lim := by rw [lim_eq]; omega
  simp [runF, e_var, e_int, e_bl, e_non, e_str, e_gint, e_tup, e_lst, e_dct, e_op, e_neg, e_cm, e_ch, e_isN, e_isB, e_and, e_or, e_not, e_ite, e_ix, e_sl, e_rev, e_bi, e_isi, e_call, e_new, e_meth, e_fld, e_bm, e_fstr, e_frz, e_said, e_sset, e_tupR, e_never, x_asg, x_expr, x_ret, x_retN, x_ite, x_raise, x_tryN, x_pass, x_never, x_nil, x_cons, es_nil, es_cons, eo_none, eo_some, ec_none, ec_some, a_name, a_tup, a_sub, as_nil, as_cons, p_name, p_tup, ps_nil, ps_cons, isiD, isi0, cmD, cmI, biD, bi1, bi2, biL, ixD, opD, addD, mulD, int2, wipe, fin_pure1, itemsD, heldD, isNm, kdD, bmD, allD, anyD, allocL, f_worth_of]
  rw [ev_compF ds PyData.int (fun d => decide (d ∈ Y)) (fun d => .int d) (fun d => [some (.tuple (cs.map cD)), some (.tuple (ds.map .int)), some (.tuple (Y.map .int)), none, none, none, some (.int d)]) (ei_seqT (by simp [runF, e_var, e_int, e_bl, e_non, e_str, e_gint, e_tup, e_lst, e_dct, e_op, e_neg, e_cm, e_ch, e_isN, e_isB, e_and, e_or, e_not, e_ite, e_ix, e_sl, e_rev, e_bi, e_isi, e_call, e_new, e_meth, e_fld, e_bm, e_fstr, e_frz, e_said, e_sset, e_tupR, e_never, x_asg, x_expr, x_ret, x_retN, x_ite, x_raise, x_tryN, x_pass, x_never, x_nil, x_cons, es_nil, es_cons, eo_none, eo_some, ec_none, ec_some, a_name, a_tup, a_sub, as_nil, as_cons, p_name, p_tup, ps_nil, ps_cons, isiD, isi0, cmD, cmI, biD, bi1, bi2, biL, ixD, opD, addD, mulD, int2, wipe, fin_pure1, itemsD, heldD, isNm, kdD, bmD, allD, anyD, allocL])) rfl (by simp) rfl (fun c hc => ⟨by simp [runF, e_var, e_int, e_bl, e_non, e_str, e_gint, e_tup, e_lst, e_dct, e_op, e_neg, e_cm, e_ch, e_isN, e_isB, e_and, e_or, e_not, e_ite, e_ix, e_sl, e_rev, e_bi, e_isi, e_call, e_new, e_meth, e_fld, e_bm, e_fstr, e_frz, e_said, e_sset, e_tupR, e_never, x_asg, x_expr, x_ret, x_retN, x_ite, x_raise, x_tryN, x_pass, x_never, x_nil, x_cons, es_nil, es_cons, eo_none, eo_some, ec_none, ec_some, a_name, a_tup, a_sub, as_nil, as_cons, p_name, p_tup, ps_nil, ps_cons, isiD, isi0, cmD, cmI, biD, bi1, bi2, biL, ixD, opD, addD, mulD, int2, wipe, fin_pure1, itemsD, heldD, isNm, kdD, bmD, allD, anyD, allocL], by simp [runF, e_var, e_int, e_bl, e_non, e_str, e_gint, e_tup, e_lst, e_dct, e_op, e_neg, e_cm, e_ch, e_isN, e_isB, e_and, e_or, e_not, e_ite, e_ix, e_sl, e_rev, e_bi, e_isi, e_call, e_new, e_meth, e_fld, e_bm, e_fstr, e_frz, e_said, e_sset, e_tupR, e_never, x_asg, x_expr, x_ret, x_retN, x_ite, x_raise, x_tryN, x_pass, x_never, x_nil, x_cons, es_nil, es_cons, eo_none, eo_some, ec_none, ec_some, a_name, a_tup, a_sub, as_nil, as_cons, p_name, p_tup, ps_nil, ps_cons, isiD, isi0, cmD, cmI, biD, bi1, bi2, biL, ixD, opD, addD, mulD, int2, wipe, fin_pure1, itemsD, heldD, isNm, kdD, bmD, allD, anyD, allocL, in_ints], fun _ => by simp [runF, e_var, e_int, e_bl, e_non, e_str, e_gint, e_tup, e_lst, e_dct, e_op, e_neg, e_cm, e_ch, e_isN, e_isB, e_and, e_or, e_not, e_ite, e_ix, e_sl, e_rev, e_bi, e_isi, e_call, e_new, e_meth, e_fld, e_bm, e_fstr, e_frz, e_said, e_sset, e_tupR, e_never, x_asg, x_expr, x_ret, x_retN, x_ite, x_raise, x_tryN, x_pass, x_never, x_nil, x_cons, es_nil, es_cons, eo_none, eo_some, ec_none, ec_some, a_name, a_tup, a_sub, as_nil, as_cons, p_name, p_tup, ps_nil, ps_cons, isiD, isi0, cmD, cmI, biD, bi1, bi2, biL, ixD, opD, addD, mulD, int2, wipe, fin_pure1, itemsD, heldD, isNm, kdD, bmD, allD, anyD, allocL]⟩) hl2]
  simp [runF, e_var, e_int, e_bl, e_non, e_str, e_gint, e_tup, e_lst, e_dct, e_op, e_neg, e_cm, e_ch, e_isN, e_isB, e_and, e_or, e_not, e_ite, e_ix, e_sl, e_rev, e_bi, e_isi, e_call, e_new, e_meth, e_fld, e_bm, e_fstr, e_frz, e_said, e_sset, e_tupR, e_never, x_asg, x_expr, x_ret, x_retN, x_ite, x_raise, x_tryN, x_pass, x_never, x_nil, x_cons, es_nil, es_cons, eo_none, eo_some, ec_none, ec_some, a_name, a_tup, a_sub, as_nil, as_cons, p_name, p_tup, ps_nil, ps_cons, isiD, isi0, cmD, cmI, biD, bi1, bi2, biL, ixD, opD, addD, mulD, int2, wipe, fin_pure1, itemsD, heldD, isNm, kdD, bmD, allD, anyD, allocL]
  rw [ev_compF cs cD (touch Y) (fun c => .int (trn c)) (fun c => [some (.tuple (cs.map cD)), some (.tuple (ds.map .int)), some (.tuple (Y.map .int)), some (.int (ds.filter fun d => decide (d ∈ Y)).length), none, some (cD c), none]) (ei_seqT (by simp [runF, e_var, e_int, e_bl, e_non, e_str, e_gint, e_tup, e_lst, e_dct, e_op, e_neg, e_cm, e_ch, e_isN, e_isB, e_and, e_or, e_not, e_ite, e_ix, e_sl, e_rev, e_bi, e_isi, e_call, e_new, e_meth, e_fld, e_bm, e_fstr, e_frz, e_said, e_sset, e_tupR, e_never, x_asg, x_expr, x_ret, x_retN, x_ite, x_raise, x_tryN, x_pass, x_never, x_nil, x_cons, es_nil, es_cons, eo_none, eo_some, ec_none, ec_some, a_name, a_tup, a_sub, as_nil, as_cons, p_name, p_tup, ps_nil, ps_cons, isiD, isi0, cmD, cmI, biD, bi1, bi2, biL, ixD, opD, addD, mulD, int2, wipe, fin_pure1, itemsD, heldD, isNm, kdD, bmD, allD, anyD, allocL])) rfl (by simp) rfl (fun c hc => ⟨by simp [runF, e_var, e_int, e_bl, e_non, e_str, e_gint, e_tup, e_lst, e_dct, e_op, e_neg, e_cm, e_ch, e_isN, e_isB, e_and, e_or, e_not, e_ite, e_ix, e_sl, e_rev, e_bi, e_isi, e_call, e_new, e_meth, e_fld, e_bm, e_fstr, e_frz, e_said, e_sset, e_tupR, e_never, x_asg, x_expr, x_ret, x_retN, x_ite, x_raise, x_tryN, x_pass, x_never, x_nil, x_cons, es_nil, es_cons, eo_none, eo_some, ec_none, ec_some, a_name, a_tup, a_sub, as_nil, as_cons, p_name, p_tup, ps_nil, ps_cons, isiD, isi0, cmD, cmI, biD, bi1, bi2, biL, ixD, opD, addD, mulD, int2, wipe, fin_pure1, itemsD, heldD, isNm, kdD, bmD, allD, anyD, allocL], by
    simp [runF, e_var, e_int, e_bl, e_non, e_str, e_gint, e_tup, e_lst, e_dct, e_op, e_neg, e_cm, e_ch, e_isN, e_isB, e_and, e_or, e_not, e_ite, e_ix, e_sl, e_rev, e_bi, e_isi, e_call, e_new, e_meth, e_fld, e_bm, e_fstr, e_frz, e_said, e_sset, e_tupR, e_never, x_asg, x_expr, x_ret, x_retN, x_ite, x_raise, x_tryN, x_pass, x_never, x_nil, x_cons, es_nil, es_cons, eo_none, eo_some, ec_none, ec_some, a_name, a_tup, a_sub, as_nil, as_cons, p_name, p_tup, ps_nil, ps_cons, isiD, isi0, cmD, cmI, biD, bi1, bi2, biL, ixD, opD, addD, mulD, int2, wipe, fin_pure1, itemsD, heldD, isNm, kdD, bmD, allD, anyD, allocL]
    rw [ev_compF Y PyData.int (fun _ => true) (fun d => .bool (vld c d)) (fun d => [some (.tuple (cs.map cD)), some (.tuple (ds.map .int)), some (.tuple (Y.map .int)), some (.int (ds.filter fun d => decide (d ∈ Y)).length), none, some (cD c), some (.int d)]) (ei_seqT (by simp [runF, e_var, e_int, e_bl, e_non, e_str, e_gint, e_tup, e_lst, e_dct, e_op, e_neg, e_cm, e_ch, e_isN, e_isB, e_and, e_or, e_not, e_ite, e_ix, e_sl, e_rev, e_bi, e_isi, e_call, e_new, e_meth, e_fld, e_bm, e_fstr, e_frz, e_said, e_sset, e_tupR, e_never, x_asg, x_expr, x_ret, x_retN, x_ite, x_raise, x_tryN, x_pass, x_never, x_nil, x_cons, es_nil, es_cons, eo_none, eo_some, ec_none, ec_some, a_name, a_tup, a_sub, as_nil, as_cons, p_name, p_tup, ps_nil, ps_cons, isiD, isi0, cmD, cmI, biD, bi1, bi2, biL, ixD, opD, addD, mulD, int2, wipe, fin_pure1, itemsD, heldD, isNm, kdD, bmD, allD, anyD, allocL])) rfl (by simp) rfl (fun d hd => ⟨by simp [runF, e_var, e_int, e_bl, e_non, e_str, e_gint, e_tup, e_lst, e_dct, e_op, e_neg, e_cm, e_ch, e_isN, e_isB, e_and, e_or, e_not, e_ite, e_ix, e_sl, e_rev, e_bi, e_isi, e_call, e_new, e_meth, e_fld, e_bm, e_fstr, e_frz, e_said, e_sset, e_tupR, e_never, x_asg, x_expr, x_ret, x_retN, x_ite, x_raise, x_tryN, x_pass, x_never, x_nil, x_cons, es_nil, es_cons, eo_none, eo_some, ec_none, ec_some, a_name, a_tup, a_sub, as_nil, as_cons, p_name, p_tup, ps_nil, ps_cons, isiD, isi0, cmD, cmI, biD, bi1, bi2, biL, ixD, opD, addD, mulD, int2, wipe, fin_pure1, itemsD, heldD, isNm, kdD, bmD, allD, anyD, allocL], by simp [runF, e_var, e_int, e_bl, e_non, e_str, e_gint, e_tup, e_lst, e_dct, e_op, e_neg, e_cm, e_ch, e_isN, e_isB, e_and, e_or, e_not, e_ite, e_ix, e_sl, e_rev, e_bi, e_isi, e_call, e_new, e_meth, e_fld, e_bm, e_fstr, e_frz, e_said, e_sset, e_tupR, e_never, x_asg, x_expr, x_ret, x_retN, x_ite, x_raise, x_tryN, x_pass, x_never, x_nil, x_cons, es_nil, es_cons, eo_none, eo_some, ec_none, ec_some, a_name, a_tup, a_sub, as_nil, as_cons, p_name, p_tup, ps_nil, ps_cons, isiD, isi0, cmD, cmI, biD, bi1, bi2, biL, ixD, opD, addD, mulD, int2, wipe, fin_pure1, itemsD, heldD, isNm, kdD, bmD, allD, anyD, allocL], fun _ => by simp [runF, e_var, e_int, e_bl, e_non, e_str, e_gint, e_tup, e_lst, e_dct, e_op, e_neg, e_cm, e_ch, e_isN, e_isB, e_and, e_or, e_not, e_ite, e_ix, e_sl, e_rev, e_bi, e_isi, e_call, e_new, e_meth, e_fld, e_bm, e_fstr, e_frz, e_said, e_sset, e_tupR, e_never, x_asg, x_expr, x_ret, x_retN, x_ite, x_raise, x_tryN, x_pass, x_never, x_nil, x_cons, es_nil, es_cons, eo_none, eo_some, ec_none, ec_some, a_name, a_tup, a_sub, as_nil, as_cons, p_name, p_tup, ps_nil, ps_cons, isiD, isi0, cmD, cmI, biD, bi1, bi2, biL, ixD, opD, addD, mulD, int2, wipe, fin_pure1, itemsD, heldD, isNm, kdD, bmD, allD, anyD, allocL, m_is_valid]⟩) hl3]
    simp [runF, e_var, e_int, e_bl, e_non, e_str, e_gint, e_tup, e_lst, e_dct, e_op, e_neg, e_cm, e_ch, e_isN, e_isB, e_and, e_or, e_not, e_ite, e_ix, e_sl, e_rev, e_bi, e_isi, e_call, e_new, e_meth, e_fld, e_bm, e_fstr, e_frz, e_said, e_sset, e_tupR, e_never, x_asg, x_expr, x_ret, x_retN, x_ite, x_raise, x_tryN, x_pass, x_never, x_nil, x_cons, es_nil, es_cons, eo_none, eo_some, ec_none, ec_some, a_name, a_tup, a_sub, as_nil, as_cons, p_name, p_tup, ps_nil, ps_cons, isiD, isi0, cmD, cmI, biD, bi1, bi2, biL, ixD, opD, addD, mulD, int2, wipe, fin_pure1, itemsD, heldD, isNm, kdD, bmD, allD, anyD, allocL, touch, Function.comp_def], fun _ => by simp [runF, e_var, e_int, e_bl, e_non, e_str, e_gint, e_tup, e_lst, e_dct, e_op, e_neg, e_cm, e_ch, e_isN, e_isB, e_and, e_or, e_not, e_ite, e_ix, e_sl, e_rev, e_bi, e_isi, e_call, e_new, e_meth, e_fld, e_bm, e_fstr, e_frz, e_said, e_sset, e_tupR, e_never, x_asg, x_expr, x_ret, x_retN, x_ite, x_raise, x_tryN, x_pass, x_never, x_nil, x_cons, es_nil, es_cons, eo_none, eo_some, ec_none, ec_some, a_name, a_tup, a_sub, as_nil, as_cons, p_name, p_tup, ps_nil, ps_cons, isiD, isi0, cmD, cmI, biD, bi1, bi2, biL, ixD, opD, addD, mulD, int2, wipe, fin_pure1, itemsD, heldD, isNm, kdD, bmD, allD, anyD, allocL, cD, trn]⟩) hl]
  simp [runF, e_var, e_int, e_bl, e_non, e_str, e_gint, e_tup, e_lst, e_dct, e_op, e_neg, e_cm, e_ch, e_isN, e_isB, e_and, e_or, e_not, e_ite, e_ix, e_sl, e_rev, e_bi, e_isi, e_call, e_new, e_meth, e_fld, e_bm, e_fstr, e_frz, e_said, e_sset, e_tupR, e_never, x_asg, x_expr, x_ret, x_retN, x_ite, x_raise, x_tryN, x_pass, x_never, x_nil, x_cons, es_nil, es_cons, eo_none, eo_some, ec_none, ec_some, a_name, a_tup, a_sub, as_nil, as_cons, p_name, p_tup, ps_nil, ps_cons, isiD, isi0, cmD, cmI, biD, bi1, bi2, biL, ixD, opD, addD, mulD, int2, wipe, fin_pure1, itemsD, heldD, isNm, kdD, bmD, allD, anyD, allocL, sumD, worthF, wsumF, List.countP_eq_length_filter]
  split <;> first | omega | (split <;> omega)
end K33
end

section
set_option Elab.async false
set_option linter.all false
set_option maxRecDepth 100000
set_option maxHeartbeats 1000000
namespace K33
open PySem PL TT
theorem ltD_int (i j : Int) : ltD (.int i) (.int j) = some (decide (i < j)) := by rw [ltD]
theorem x_while {G : Calls} {gi : Str → Option Int} {c : E} {body : List St} {ρ : PL.Env} {S : Sto} : ex G gi (.while_ c body) ρ S = whileL (fun ρ S => ev G gi c ρ S) (fun ρ S => exs G gi body ρ S) wfuel ρ S := by first | (rw [ex]; done) | (rw [ex]; rfl)
theorem pw_zipS : ∀ ds : List Int, ds.Pairwise (· < ·) → ((ds.zip (ds.drop 1)).all fun p => decide (p.1 < p.2)) = true
  | [], _ => rfl
  | [_], _ => rfl
  | a :: b :: ds, h => by
    rw [List.pairwise_cons] at h
    have h1 := pw_zipS (b :: ds) h.2
    have h2 := h.1 b List.mem_cons_self
    simp only [List.drop_succ_cons, List.drop_zero, List.zip_cons_cons, List.all_cons, Bool.and_eq_true, decide_eq_true_eq]
    exact ⟨h2, by simpa using h1⟩
theorem m_are_rising (n : Nat) (ds : List Int) (hl : ds.length ≤ 1000) (so : ds.Pairwise (· < ·)) (S : Sto) : callS gi fns (n + 1) "are_rising" [.tuple (ds.map .int)] S = .ok (.bool true) S := by
  rw [callS_fn (F := f_are_rising) (by kernel_rfl)]
  have hz : (ds.zip (ds.drop 1)).length ≤ lim := by rw [List.length_zip, lim_eq]; omega
  simp [runF, e_var, e_int, e_bl, e_non, e_str, e_gint, e_tup, e_lst, e_dct, e_op, e_neg, e_cm, e_ch, e_isN, e_isB, e_and, e_or, e_not, e_ite, e_ix, e_sl, e_rev, e_bi, e_isi, e_call, e_new, e_meth, e_fld, e_bm, e_fstr, e_frz, e_said, e_sset, e_tupR, e_never, x_asg, x_expr, x_ret, x_retN, x_ite, x_raise, x_tryN, x_pass, x_never, x_nil, x_cons, es_nil, es_cons, eo_none, eo_some, ec_none, ec_some, a_name, a_tup, a_sub, as_nil, as_cons, p_name, p_tup, ps_nil, ps_cons, isiD, isi0, cmD, cmI, biD, bi1, bi2, biL, ixD, opD, addD, mulD, int2, wipe, fin_pure1, itemsD, heldD, isNm, kdD, bmD, allD, anyD, allocL, f_are_rising]
  rw [ev_compF (ds.zip (ds.drop 1)) (fun p => .tuple [.int p.1, .int p.2]) (fun _ => true) (fun p => .bool (decide (p.1 < p.2))) (fun p => [some (.tuple (ds.map .int)), some (.int p.1), some (.int p.2)]) (ei_zipT (ds := ds.map .int) (es := (ds.drop 1).map .int) (by simp [runF, e_var, e_int, e_bl, e_non, e_str, e_gint, e_tup, e_lst, e_dct, e_op, e_neg, e_cm, e_ch, e_isN, e_isB, e_and, e_or, e_not, e_ite, e_ix, e_sl, e_rev, e_bi, e_isi, e_call, e_new, e_meth, e_fld, e_bm, e_fstr, e_frz, e_said, e_sset, e_tupR, e_never, x_asg, x_expr, x_ret, x_retN, x_ite, x_raise, x_tryN, x_pass, x_never, x_nil, x_cons, es_nil, es_cons, eo_none, eo_some, ec_none, ec_some, a_name, a_tup, a_sub, as_nil, as_cons, p_name, p_tup, ps_nil, ps_cons, isiD, isi0, cmD, cmI, biD, bi1, bi2, biL, ixD, opD, addD, mulD, int2, wipe, fin_pure1, itemsD, heldD, isNm, kdD, bmD, allD, anyD, allocL]) (by simp [runF, e_var, e_int, e_bl, e_non, e_str, e_gint, e_tup, e_lst, e_dct, e_op, e_neg, e_cm, e_ch, e_isN, e_isB, e_and, e_or, e_not, e_ite, e_ix, e_sl, e_rev, e_bi, e_isi, e_call, e_new, e_meth, e_fld, e_bm, e_fstr, e_frz, e_said, e_sset, e_tupR, e_never, x_asg, x_expr, x_ret, x_retN, x_ite, x_raise, x_tryN, x_pass, x_never, x_nil, x_cons, es_nil, es_cons, eo_none, eo_some, ec_none, ec_some, a_name, a_tup, a_sub, as_nil, as_cons, p_name, p_tup, ps_nil, ps_cons, isiD, isi0, cmD, cmI, biD, bi1, bi2, biL, ixD, opD, addD, mulD, int2, wipe, fin_pure1, itemsD, heldD, isNm, kdD, bmD, allD, anyD, allocL, slD, cut1])) (zipL_map ..) (by simp) rfl (fun c hc => ⟨by simp [runF, e_var, e_int, e_bl, e_non, e_str, e_gint, e_tup, e_lst, e_dct, e_op, e_neg, e_cm, e_ch, e_isN, e_isB, e_and, e_or, e_not, e_ite, e_ix, e_sl, e_rev, e_bi, e_isi, e_call, e_new, e_meth, e_fld, e_bm, e_fstr, e_frz, e_said, e_sset, e_tupR, e_never, x_asg, x_expr, x_ret, x_retN, x_ite, x_raise, x_tryN, x_pass, x_never, x_nil, x_cons, es_nil, es_cons, eo_none, eo_some, ec_none, ec_some, a_name, a_tup, a_sub, as_nil, as_cons, p_name, p_tup, ps_nil, ps_cons, isiD, isi0, cmD, cmI, biD, bi1, bi2, biL, ixD, opD, addD, mulD, int2, wipe, fin_pure1, itemsD, heldD, isNm, kdD, bmD, allD, anyD, allocL], by simp [runF, e_var, e_int, e_bl, e_non, e_str, e_gint, e_tup, e_lst, e_dct, e_op, e_neg, e_cm, e_ch, e_isN, e_isB, e_and, e_or, e_not, e_ite, e_ix, e_sl, e_rev, e_bi, e_isi, e_call, e_new, e_meth, e_fld, e_bm, e_fstr, e_frz, e_said, e_sset, e_tupR, e_never, x_asg, x_expr, x_ret, x_retN, x_ite, x_raise, x_tryN, x_pass, x_never, x_nil, x_cons, es_nil, es_cons, eo_none, eo_some, ec_none, ec_some, a_name, a_tup, a_sub, as_nil, as_cons, p_name, p_tup, ps_nil, ps_cons, isiD, isi0, cmD, cmI, biD, bi1, bi2, biL, ixD, opD, addD, mulD, int2, wipe, fin_pure1, itemsD, heldD, isNm, kdD, bmD, allD, anyD, allocL], fun _ => by simp [runF, e_var, e_int, e_bl, e_non, e_str, e_gint, e_tup, e_lst, e_dct, e_op, e_neg, e_cm, e_ch, e_isN, e_isB, e_and, e_or, e_not, e_ite, e_ix, e_sl, e_rev, e_bi, e_isi, e_call, e_new, e_meth, e_fld, e_bm, e_fstr, e_frz, e_said, e_sset, e_tupR, e_never, x_asg, x_expr, x_ret, x_retN, x_ite, x_raise, x_tryN, x_pass, x_never, x_nil, x_cons, es_nil, es_cons, eo_none, eo_some, ec_none, ec_some, a_name, a_tup, a_sub, as_nil, as_cons, p_name, p_tup, ps_nil, ps_cons, isiD, isi0, cmD, cmI, biD, bi1, bi2, biL, ixD, opD, addD, mulD, int2, wipe, fin_pure1, itemsD, heldD, isNm, kdD, bmD, allD, anyD, allocL, eqOk_int, ltD_int]⟩) hz]
  simp [runF, e_var, e_int, e_bl, e_non, e_str, e_gint, e_tup, e_lst, e_dct, e_op, e_neg, e_cm, e_ch, e_isN, e_isB, e_and, e_or, e_not, e_ite, e_ix, e_sl, e_rev, e_bi, e_isi, e_call, e_new, e_meth, e_fld, e_bm, e_fstr, e_frz, e_said, e_sset, e_tupR, e_never, x_asg, x_expr, x_ret, x_retN, x_ite, x_raise, x_tryN, x_pass, x_never, x_nil, x_cons, es_nil, es_cons, eo_none, eo_some, ec_none, ec_some, a_name, a_tup, a_sub, as_nil, as_cons, p_name, p_tup, ps_nil, ps_cons, isiD, isi0, cmD, cmI, biD, bi1, bi2, biL, ixD, opD, addD, mulD, int2, wipe, fin_pure1, itemsD, heldD, isNm, kdD, bmD, allD, anyD, allocL]
  exact fun a b hm => by simpa using List.all_eq_true.mp (pw_zipS ds so) (a, b) (by simpa using hm)
theorem m_is_paper (n : Nat) (ds : List Int) (hl : ds.length ≤ 1000) (hd : ds.all dayB = true) (so : ds.Pairwise (· < ·)) (S : Sto) : callS gi fns (n + 4) "is_paper" [.tuple (ds.map .int)] S = .ok (.bool true) S := by
  rw [callS_fn (F := f_is_paper) (by kernel_rfl)]
  have hl2 : ds.length ≤ lim := by rw [lim_eq]; omega
  simp [runF, e_var, e_int, e_bl, e_non, e_str, e_gint, e_tup, e_lst, e_dct, e_op, e_neg, e_cm, e_ch, e_isN, e_isB, e_and, e_or, e_not, e_ite, e_ix, e_sl, e_rev, e_bi, e_isi, e_call, e_new, e_meth, e_fld, e_bm, e_fstr, e_frz, e_said, e_sset, e_tupR, e_never, x_asg, x_expr, x_ret, x_retN, x_ite, x_raise, x_tryN, x_pass, x_never, x_nil, x_cons, es_nil, es_cons, eo_none, eo_some, ec_none, ec_some, a_name, a_tup, a_sub, as_nil, as_cons, p_name, p_tup, ps_nil, ps_cons, isiD, isi0, cmD, cmI, biD, bi1, bi2, biL, ixD, opD, addD, mulD, int2, wipe, fin_pure1, itemsD, heldD, isNm, kdD, bmD, allD, anyD, allocL, f_is_paper]
  rw [ev_compF ds PyData.int (fun _ => true) (fun c => .bool (dayB c)) (fun c => [some (.tuple (ds.map .int)), some (.int c)]) (ei_seqT (by simp [runF, e_var, e_int, e_bl, e_non, e_str, e_gint, e_tup, e_lst, e_dct, e_op, e_neg, e_cm, e_ch, e_isN, e_isB, e_and, e_or, e_not, e_ite, e_ix, e_sl, e_rev, e_bi, e_isi, e_call, e_new, e_meth, e_fld, e_bm, e_fstr, e_frz, e_said, e_sset, e_tupR, e_never, x_asg, x_expr, x_ret, x_retN, x_ite, x_raise, x_tryN, x_pass, x_never, x_nil, x_cons, es_nil, es_cons, eo_none, eo_some, ec_none, ec_some, a_name, a_tup, a_sub, as_nil, as_cons, p_name, p_tup, ps_nil, ps_cons, isiD, isi0, cmD, cmI, biD, bi1, bi2, biL, ixD, opD, addD, mulD, int2, wipe, fin_pure1, itemsD, heldD, isNm, kdD, bmD, allD, anyD, allocL])) rfl (by simp) rfl (fun c hc => ⟨by simp [runF, e_var, e_int, e_bl, e_non, e_str, e_gint, e_tup, e_lst, e_dct, e_op, e_neg, e_cm, e_ch, e_isN, e_isB, e_and, e_or, e_not, e_ite, e_ix, e_sl, e_rev, e_bi, e_isi, e_call, e_new, e_meth, e_fld, e_bm, e_fstr, e_frz, e_said, e_sset, e_tupR, e_never, x_asg, x_expr, x_ret, x_retN, x_ite, x_raise, x_tryN, x_pass, x_never, x_nil, x_cons, es_nil, es_cons, eo_none, eo_some, ec_none, ec_some, a_name, a_tup, a_sub, as_nil, as_cons, p_name, p_tup, ps_nil, ps_cons, isiD, isi0, cmD, cmI, biD, bi1, bi2, biL, ixD, opD, addD, mulD, int2, wipe, fin_pure1, itemsD, heldD, isNm, kdD, bmD, allD, anyD, allocL], by simp [runF, e_var, e_int, e_bl, e_non, e_str, e_gint, e_tup, e_lst, e_dct, e_op, e_neg, e_cm, e_ch, e_isN, e_isB, e_and, e_or, e_not, e_ite, e_ix, e_sl, e_rev, e_bi, e_isi, e_call, e_new, e_meth, e_fld, e_bm, e_fstr, e_frz, e_said, e_sset, e_tupR, e_never, x_asg, x_expr, x_ret, x_retN, x_ite, x_raise, x_tryN, x_pass, x_never, x_nil, x_cons, es_nil, es_cons, eo_none, eo_some, ec_none, ec_some, a_name, a_tup, a_sub, as_nil, as_cons, p_name, p_tup, ps_nil, ps_cons, isiD, isi0, cmD, cmI, biD, bi1, bi2, biL, ixD, opD, addD, mulD, int2, wipe, fin_pure1, itemsD, heldD, isNm, kdD, bmD, allD, anyD, allocL], fun _ => by simp [runF, e_var, e_int, e_bl, e_non, e_str, e_gint, e_tup, e_lst, e_dct, e_op, e_neg, e_cm, e_ch, e_isN, e_isB, e_and, e_or, e_not, e_ite, e_ix, e_sl, e_rev, e_bi, e_isi, e_call, e_new, e_meth, e_fld, e_bm, e_fstr, e_frz, e_said, e_sset, e_tupR, e_never, x_asg, x_expr, x_ret, x_retN, x_ite, x_raise, x_tryN, x_pass, x_never, x_nil, x_cons, es_nil, es_cons, eo_none, eo_some, ec_none, ec_some, a_name, a_tup, a_sub, as_nil, as_cons, p_name, p_tup, ps_nil, ps_cons, isiD, isi0, cmD, cmI, biD, bi1, bi2, biL, ixD, opD, addD, mulD, int2, wipe, fin_pure1, itemsD, heldD, isNm, kdD, bmD, allD, anyD, allocL, m_is_day]⟩) hl2]
  simp [runF, e_var, e_int, e_bl, e_non, e_str, e_gint, e_tup, e_lst, e_dct, e_op, e_neg, e_cm, e_ch, e_isN, e_isB, e_and, e_or, e_not, e_ite, e_ix, e_sl, e_rev, e_bi, e_isi, e_call, e_new, e_meth, e_fld, e_bm, e_fstr, e_frz, e_said, e_sset, e_tupR, e_never, x_asg, x_expr, x_ret, x_retN, x_ite, x_raise, x_tryN, x_pass, x_never, x_nil, x_cons, es_nil, es_cons, eo_none, eo_some, ec_none, ec_some, a_name, a_tup, a_sub, as_nil, as_cons, p_name, p_tup, ps_nil, ps_cons, isiD, isi0, cmD, cmI, biD, bi1, bi2, biL, ixD, opD, addD, mulD, int2, wipe, fin_pure1, itemsD, heldD, isNm, kdD, bmD, allD, anyD, allocL, hd, m_are_rising _ ds hl so]
theorem m_shown_by (n : Nat) (cs : List Card) (ds Y : List Int) (h : okIn cs ds) (hl : Y.length ≤ 1000) (hd : Y.all dayB = true) (so : Y.Pairwise (· < ·)) (S : Sto) :
    callS gi fns (n + 7) "shown_by" [.tuple (cs.map cD), .tuple (ds.map .int), .tuple (Y.map .int)] S = .ok (.int (worthF cs ds Y)) S := by
  rw [callS_fn (F := f_shown_by) (by kernel_rfl)]
  have h1 := h.1
  have h2 := h.2.2.1
  simp [runF, e_var, e_int, e_bl, e_non, e_str, e_gint, e_tup, e_lst, e_dct, e_op, e_neg, e_cm, e_ch, e_isN, e_isB, e_and, e_or, e_not, e_ite, e_ix, e_sl, e_rev, e_bi, e_isi, e_call, e_new, e_meth, e_fld, e_bm, e_fstr, e_frz, e_said, e_sset, e_tupR, e_never, x_asg, x_expr, x_ret, x_retN, x_ite, x_raise, x_tryN, x_pass, x_never, x_nil, x_cons, es_nil, es_cons, eo_none, eo_some, ec_none, ec_some, a_name, a_tup, a_sub, as_nil, as_cons, p_name, p_tup, ps_nil, ps_cons, isiD, isi0, cmD, cmI, biD, bi1, bi2, biL, ixD, opD, addD, mulD, int2, wipe, fin_pure1, itemsD, heldD, isNm, kdD, bmD, allD, anyD, allocL, f_shown_by, m_need_both _ cs ds h, m_is_paper _ Y hl hd so, m_worth_of _ cs ds Y (by omega) (by omega) hl]
theorem eqv_oDi (o : Option Nat) (i : Nat) : PyData.eqv (oD o) (.int i) = decide (o = some i) := by
  rw [Bool.eq_iff_iff]
  cases o <;> simp [oD, PyData.eqv]
  omega
theorem zipL_oD : ∀ (xs : List Int) (ys : List (Option Nat)), zipL (xs.map .int) (ys.map oD) = (xs.zip ys).map fun p => .tuple [.int p.1, oD p.2]
  | [], _ => by simp [zipL]
  | _ :: _, [] => by simp [zipL]
  | x :: xs, y :: ys => by simp [zipL, zipL_oD xs ys]
theorem in_intsR (S : Sto) (d : Int) (j : Nat) (Y : List Int) (h : objL S j = some (Y.map .int)) : inD S (.int d) (rf j) = some (decide (d ∈ Y)) := by
  have e : inD S (.int d) (rf j) = inSq S (.int d) (rf j) := rfl
  rw [e]
  unfold inSq
  simp only [seqD_rf, h, eqOk_int, all_eqOk, Bool.and_self, if_true]
  congr 1
  rw [List.any_map, Bool.eq_iff_iff]
  simp [eqv_int]
theorem val_oD (S : Sto) (o : Option Nat) : val S (oD o) = oD o := by cases o <;> rfl
theorem eq_oD (S : Sto) (o : Option Nat) (i : Nat) : eqD S (oD o) (.int i) = some (decide (o = some i)) := by
  have e : val S (.int (i : Int)) = .int i := rfl
  unfold eqD
  rw [val_oD, e, eqOk_oD, eqOk_int, eqv_oDi]
  rfl
def rcIn : List St := [.ite (.call "is_valid" [.var 7, .var 5]) [.asg (.name 8) (.comp false (.var 9) [9, 10] (.tup [.name 9, .name 10]) (.zip (.var 1) (.var 2)) (some (.cm .eq (.var 10) (.var 6)))),
  .expr (.bm (.var 3) .extend [.comp false (.var 9) [9] (.name 9) (.seq (.sset false (.var 8))) (some (.cm .nin (.var 9) (.var 3)))])] []]
def rcOut : List St := [.asg (.name 5) (.ix (.var 3) (.var 4)),
  .for_ (.tup [.name 6, .name 7]) (.enum (.var 0)) rcIn,
  .asg (.name 4) (.op .add (.var 4) (.int 1))]
theorem lst_more (ds : List Int) (ts : List (Option Nat)) (i : Nat) : ((ds.zip ts).filter fun p => decide (p.2 = some i)).map (fun p => PyData.int p.1) = (moreL ds ts i).map .int := by
  unfold moreL
  rw [List.map_map]
  rfl
theorem lst_lost (ds : List Int) (ts : List (Option Nat)) : ((ds.zip ts).filter fun p => decide (p.2 = none)).map (fun p => PyData.int p.1) = (lostL ds ts).map .int := by
  unfold lostL
  rw [List.map_map]
  rfl
theorem rc_in (n : Nat) (cs : List Card) (ds : List Int) (ts : List (Option Nat)) (hd : ds.length ≤ 24) (g d : Int) (ok : Sto → Prop) (hok : ∀ T, ok T) (S : Sto) : ∀ (rest : List Card) (i : Nat) (days : List Int) (x6 x7 x8 : Option D), cs.drop i = rest → Iv cs ds ts days → d ∈ days →
    ∃ y6 y7 y8, forL ok (putT (.tup [.name 6, .name 7])) (fun ρ S => exs (callS gi fns (n + 1)) gi rcIn ρ S) (enumL i (rest.map cD)) [some (.tuple (cs.map cD)), some (.tuple (ds.map .int)), some (.tuple (ts.map oD)), some (rf S.length), some (.int g), some (.int d), x6, x7, x8, none, none] (S ++ [.lst (days.map .int)])
      = .next [some (.tuple (cs.map cD)), some (.tuple (ds.map .int)), some (.tuple (ts.map oD)), some (rf S.length), some (.int g), some (.int d), y6, y7, y8, none, none] (S ++ [.lst ((stepC ds ts d i rest days).map .int)])
  | [], i, days, x6, x7, x8, _, _, _ => ⟨x6, x7, x8, by simp [enumL, forL, hok, stepC]⟩
  | c :: rest, i, days, x6, x7, x8, e, v, hdm => by
    have ec : cs[i]? = some c := by
      have := congrArg (·[0]?) e
      simpa [List.getElem?_drop] using this
    have er : cs.drop (i + 1) = rest := by
      have := congrArg List.tail e
      simpa [List.tail_drop] using this
    unfold stepC
    cases q : vld c d with
    | false =>
      obtain ⟨y6, y7, y8, ih⟩ := rc_in n cs ds ts hd g d ok hok S rest (i + 1) days (some (.int i)) (some (cD c)) x8 er v hdm
      refine ⟨y6, y7, y8, ?_⟩
      rw [List.map_cons]
      unfold enumL
      rw [forL_next (ρ' := [some (.tuple (cs.map cD)), some (.tuple (ds.map .int)), some (.tuple (ts.map oD)), some (rf S.length), some (.int g), some (.int d), some (.int i), some (cD c), x8, none, none]) _ (S ++ [.lst (days.map .int)]) (hok _) (by simp [runF, e_var, e_int, e_bl, e_non, e_str, e_gint, e_tup, e_lst, e_dct, e_op, e_neg, e_cm, e_ch, e_isN, e_isB, e_and, e_or, e_not, e_ite, e_ix, e_sl, e_rev, e_bi, e_isi, e_call, e_new, e_meth, e_fld, e_bm, e_fstr, e_frz, e_said, e_sset, e_tupR, e_never, x_asg, x_expr, x_ret, x_retN, x_ite, x_raise, x_tryN, x_pass, x_never, x_nil, x_cons, es_nil, es_cons, eo_none, eo_some, ec_none, ec_some, a_name, a_tup, a_sub, as_nil, as_cons, p_name, p_tup, ps_nil, ps_cons, isiD, isi0, cmD, cmI, biD, bi1, bi2, biL, ixD, opD, addD, mulD, int2, wipe, fin_pure1, itemsD, heldD, isNm, kdD, bmD, allD, anyD, allocL]) (by simp [runF, e_var, e_int, e_bl, e_non, e_str, e_gint, e_tup, e_lst, e_dct, e_op, e_neg, e_cm, e_ch, e_isN, e_isB, e_and, e_or, e_not, e_ite, e_ix, e_sl, e_rev, e_bi, e_isi, e_call, e_new, e_meth, e_fld, e_bm, e_fstr, e_frz, e_said, e_sset, e_tupR, e_never, x_asg, x_expr, x_ret, x_retN, x_ite, x_raise, x_tryN, x_pass, x_never, x_nil, x_cons, es_nil, es_cons, eo_none, eo_some, ec_none, ec_some, a_name, a_tup, a_sub, as_nil, as_cons, p_name, p_tup, ps_nil, ps_cons, isiD, isi0, cmD, cmI, biD, bi1, bi2, biL, ixD, opD, addD, mulD, int2, wipe, fin_pure1, itemsD, heldD, isNm, kdD, bmD, allD, anyD, allocL, rcIn, m_is_valid, q]; rfl)]
      exact ih
    | true =>
      have v2 := v.ext hdm ec q
      obtain ⟨y6, y7, y8, ih⟩ := rc_in n cs ds ts hd g d ok hok S rest (i + 1) (extL days (moreL ds ts i)) (some (.int i)) (some (cD c)) (some (.list ((moreL ds ts i).map .int))) er v2 (mem_extL.mpr (.inl hdm))
      refine ⟨y6, y7, y8, ?_⟩
      rw [List.map_cons]
      unfold enumL
      have hz : (ds.zip ts).length ≤ lim := by rw [List.length_zip, lim_eq]; omega
      have hm := len_moreL ds ts i
      have hv2 := v2.len
      have hm64 : (moreL ds ts i).length < 64 := by omega
      have hsl : (srt (moreL ds ts i)).length ≤ lim := by
        have a : (srt (moreL ds ts i)).length ≤ (moreL ds ts i).length := (nodup_srt _).length_le_of_subset fun x hx => mem_srt.mp hx
        rw [lim_eq]; omega
      have hx : days.length + ((srt (moreL ds ts i)).filter fun x => !decide (x ∈ days)).length ≤ lim := by
        have : (extL days (moreL ds ts i)).length = days.length + ((srt (moreL ds ts i)).filter fun x => !decide (x ∈ days)).length := by unfold extL; rw [List.length_append]
        rw [lim_eq]; omega
      rw [forL_next (ρ' := [some (.tuple (cs.map cD)), some (.tuple (ds.map .int)), some (.tuple (ts.map oD)), some (rf S.length), some (.int g), some (.int d), some (.int i), some (cD c), x8, none, none])
        [some (.tuple (cs.map cD)), some (.tuple (ds.map .int)), some (.tuple (ts.map oD)), some (rf S.length), some (.int g), some (.int d), some (.int i), some (cD c), some (.list ((moreL ds ts i).map .int)), none, none] (S ++ [.lst ((extL days (moreL ds ts i)).map .int)]) (hok _) (by simp [runF, e_var, e_int, e_bl, e_non, e_str, e_gint, e_tup, e_lst, e_dct, e_op, e_neg, e_cm, e_ch, e_isN, e_isB, e_and, e_or, e_not, e_ite, e_ix, e_sl, e_rev, e_bi, e_isi, e_call, e_new, e_meth, e_fld, e_bm, e_fstr, e_frz, e_said, e_sset, e_tupR, e_never, x_asg, x_expr, x_ret, x_retN, x_ite, x_raise, x_tryN, x_pass, x_never, x_nil, x_cons, es_nil, es_cons, eo_none, eo_some, ec_none, ec_some, a_name, a_tup, a_sub, as_nil, as_cons, p_name, p_tup, ps_nil, ps_cons, isiD, isi0, cmD, cmI, biD, bi1, bi2, biL, ixD, opD, addD, mulD, int2, wipe, fin_pure1, itemsD, heldD, isNm, kdD, bmD, allD, anyD, allocL]) ?_]
      · exact ih
      simp [runF, e_var, e_int, e_bl, e_non, e_str, e_gint, e_tup, e_lst, e_dct, e_op, e_neg, e_cm, e_ch, e_isN, e_isB, e_and, e_or, e_not, e_ite, e_ix, e_sl, e_rev, e_bi, e_isi, e_call, e_new, e_meth, e_fld, e_bm, e_fstr, e_frz, e_said, e_sset, e_tupR, e_never, x_asg, x_expr, x_ret, x_retN, x_ite, x_raise, x_tryN, x_pass, x_never, x_nil, x_cons, es_nil, es_cons, eo_none, eo_some, ec_none, ec_some, a_name, a_tup, a_sub, as_nil, as_cons, p_name, p_tup, ps_nil, ps_cons, isiD, isi0, cmD, cmI, biD, bi1, bi2, biL, ixD, opD, addD, mulD, int2, wipe, fin_pure1, itemsD, heldD, isNm, kdD, bmD, allD, anyD, allocL, rcIn, m_is_valid, q]
      rw [ev_compF (ds.zip ts) (fun p => .tuple [.int p.1, oD p.2]) (fun p => decide (p.2 = some i)) (fun p => .int p.1) (fun p => [some (.tuple (cs.map cD)), some (.tuple (ds.map .int)), some (.tuple (ts.map oD)), some (rf S.length), some (.int g), some (.int d), some (.int i), some (cD c), x8, some (.int p.1), some (oD p.2)]) (ei_zipT (ds := ds.map .int) (es := ts.map oD) (by simp [runF, e_var, e_int, e_bl, e_non, e_str, e_gint, e_tup, e_lst, e_dct, e_op, e_neg, e_cm, e_ch, e_isN, e_isB, e_and, e_or, e_not, e_ite, e_ix, e_sl, e_rev, e_bi, e_isi, e_call, e_new, e_meth, e_fld, e_bm, e_fstr, e_frz, e_said, e_sset, e_tupR, e_never, x_asg, x_expr, x_ret, x_retN, x_ite, x_raise, x_tryN, x_pass, x_never, x_nil, x_cons, es_nil, es_cons, eo_none, eo_some, ec_none, ec_some, a_name, a_tup, a_sub, as_nil, as_cons, p_name, p_tup, ps_nil, ps_cons, isiD, isi0, cmD, cmI, biD, bi1, bi2, biL, ixD, opD, addD, mulD, int2, wipe, fin_pure1, itemsD, heldD, isNm, kdD, bmD, allD, anyD, allocL]) (by simp [runF, e_var, e_int, e_bl, e_non, e_str, e_gint, e_tup, e_lst, e_dct, e_op, e_neg, e_cm, e_ch, e_isN, e_isB, e_and, e_or, e_not, e_ite, e_ix, e_sl, e_rev, e_bi, e_isi, e_call, e_new, e_meth, e_fld, e_bm, e_fstr, e_frz, e_said, e_sset, e_tupR, e_never, x_asg, x_expr, x_ret, x_retN, x_ite, x_raise, x_tryN, x_pass, x_never, x_nil, x_cons, es_nil, es_cons, eo_none, eo_some, ec_none, ec_some, a_name, a_tup, a_sub, as_nil, as_cons, p_name, p_tup, ps_nil, ps_cons, isiD, isi0, cmD, cmI, biD, bi1, bi2, biL, ixD, opD, addD, mulD, int2, wipe, fin_pure1, itemsD, heldD, isNm, kdD, bmD, allD, anyD, allocL])) (zipL_oD ..) (by simp) rfl (fun c hc => ⟨by simp [runF, e_var, e_int, e_bl, e_non, e_str, e_gint, e_tup, e_lst, e_dct, e_op, e_neg, e_cm, e_ch, e_isN, e_isB, e_and, e_or, e_not, e_ite, e_ix, e_sl, e_rev, e_bi, e_isi, e_call, e_new, e_meth, e_fld, e_bm, e_fstr, e_frz, e_said, e_sset, e_tupR, e_never, x_asg, x_expr, x_ret, x_retN, x_ite, x_raise, x_tryN, x_pass, x_never, x_nil, x_cons, es_nil, es_cons, eo_none, eo_some, ec_none, ec_some, a_name, a_tup, a_sub, as_nil, as_cons, p_name, p_tup, ps_nil, ps_cons, isiD, isi0, cmD, cmI, biD, bi1, bi2, biL, ixD, opD, addD, mulD, int2, wipe, fin_pure1, itemsD, heldD, isNm, kdD, bmD, allD, anyD, allocL], by simp [runF, e_var, e_int, e_bl, e_non, e_str, e_gint, e_tup, e_lst, e_dct, e_op, e_neg, e_cm, e_ch, e_isN, e_isB, e_and, e_or, e_not, e_ite, e_ix, e_sl, e_rev, e_bi, e_isi, e_call, e_new, e_meth, e_fld, e_bm, e_fstr, e_frz, e_said, e_sset, e_tupR, e_never, x_asg, x_expr, x_ret, x_retN, x_ite, x_raise, x_tryN, x_pass, x_never, x_nil, x_cons, es_nil, es_cons, eo_none, eo_some, ec_none, ec_some, a_name, a_tup, a_sub, as_nil, as_cons, p_name, p_tup, ps_nil, ps_cons, isiD, isi0, cmD, cmI, biD, bi1, bi2, biL, ixD, opD, addD, mulD, int2, wipe, fin_pure1, itemsD, heldD, isNm, kdD, bmD, allD, anyD, allocL, eq_oD], fun _ => by simp [runF, e_var, e_int, e_bl, e_non, e_str, e_gint, e_tup, e_lst, e_dct, e_op, e_neg, e_cm, e_ch, e_isN, e_isB, e_and, e_or, e_not, e_ite, e_ix, e_sl, e_rev, e_bi, e_isi, e_call, e_new, e_meth, e_fld, e_bm, e_fstr, e_frz, e_said, e_sset, e_tupR, e_never, x_asg, x_expr, x_ret, x_retN, x_ite, x_raise, x_tryN, x_pass, x_never, x_nil, x_cons, es_nil, es_cons, eo_none, eo_some, ec_none, ec_some, a_name, a_tup, a_sub, as_nil, as_cons, p_name, p_tup, ps_nil, ps_cons, isiD, isi0, cmD, cmI, biD, bi1, bi2, biL, ixD, opD, addD, mulD, int2, wipe, fin_pure1, itemsD, heldD, isNm, kdD, bmD, allD, anyD, allocL]⟩) hz]
      rw [lst_more]
      simp [runF, e_var, e_int, e_bl, e_non, e_str, e_gint, e_tup, e_lst, e_dct, e_op, e_neg, e_cm, e_ch, e_isN, e_isB, e_and, e_or, e_not, e_ite, e_ix, e_sl, e_rev, e_bi, e_isi, e_call, e_new, e_meth, e_fld, e_bm, e_fstr, e_frz, e_said, e_sset, e_tupR, e_never, x_asg, x_expr, x_ret, x_retN, x_ite, x_raise, x_tryN, x_pass, x_never, x_nil, x_cons, es_nil, es_cons, eo_none, eo_some, ec_none, ec_some, a_name, a_tup, a_sub, as_nil, as_cons, p_name, p_tup, ps_nil, ps_cons, isiD, isi0, cmD, cmI, biD, bi1, bi2, biL, ixD, opD, addD, mulD, int2, wipe, fin_pure1, itemsD, heldD, isNm, kdD, bmD, allD, anyD, allocL]
      rw [ev_compF (srt (moreL ds ts i)) PyData.int (fun x => !decide (x ∈ days)) (fun x => .int x) (fun x => [some (.tuple (cs.map cD)), some (.tuple (ds.map .int)), some (.tuple (ts.map oD)), some (rf S.length), some (.int g), some (.int d), some (.int i), some (cD c), some (.list ((moreL ds ts i).map .int)), some (.int x), none]) (ei_seqL (ds := (srt (moreL ds ts i)).map .int) (by simp [runF, e_var, e_int, e_bl, e_non, e_str, e_gint, e_tup, e_lst, e_dct, e_op, e_neg, e_cm, e_ch, e_isN, e_isB, e_and, e_or, e_not, e_ite, e_ix, e_sl, e_rev, e_bi, e_isi, e_call, e_new, e_meth, e_fld, e_bm, e_fstr, e_frz, e_said, e_sset, e_tupR, e_never, x_asg, x_expr, x_ret, x_retN, x_ite, x_raise, x_tryN, x_pass, x_never, x_nil, x_cons, es_nil, es_cons, eo_none, eo_some, ec_none, ec_some, a_name, a_tup, a_sub, as_nil, as_cons, p_name, p_tup, ps_nil, ps_cons, isiD, isi0, cmD, cmI, biD, bi1, bi2, biL, ixD, opD, addD, mulD, int2, wipe, fin_pure1, itemsD, heldD, isNm, kdD, bmD, allD, anyD, allocL, sortedSetD, hm64]; rw [← srt]; simp [hsl])) rfl (by simp) rfl (fun c hc => ⟨by simp [runF, e_var, e_int, e_bl, e_non, e_str, e_gint, e_tup, e_lst, e_dct, e_op, e_neg, e_cm, e_ch, e_isN, e_isB, e_and, e_or, e_not, e_ite, e_ix, e_sl, e_rev, e_bi, e_isi, e_call, e_new, e_meth, e_fld, e_bm, e_fstr, e_frz, e_said, e_sset, e_tupR, e_never, x_asg, x_expr, x_ret, x_retN, x_ite, x_raise, x_tryN, x_pass, x_never, x_nil, x_cons, es_nil, es_cons, eo_none, eo_some, ec_none, ec_some, a_name, a_tup, a_sub, as_nil, as_cons, p_name, p_tup, ps_nil, ps_cons, isiD, isi0, cmD, cmI, biD, bi1, bi2, biL, ixD, opD, addD, mulD, int2, wipe, fin_pure1, itemsD, heldD, isNm, kdD, bmD, allD, anyD, allocL], by simp [runF, e_var, e_int, e_bl, e_non, e_str, e_gint, e_tup, e_lst, e_dct, e_op, e_neg, e_cm, e_ch, e_isN, e_isB, e_and, e_or, e_not, e_ite, e_ix, e_sl, e_rev, e_bi, e_isi, e_call, e_new, e_meth, e_fld, e_bm, e_fstr, e_frz, e_said, e_sset, e_tupR, e_never, x_asg, x_expr, x_ret, x_retN, x_ite, x_raise, x_tryN, x_pass, x_never, x_nil, x_cons, es_nil, es_cons, eo_none, eo_some, ec_none, ec_some, a_name, a_tup, a_sub, as_nil, as_cons, p_name, p_tup, ps_nil, ps_cons, isiD, isi0, cmD, cmI, biD, bi1, bi2, biL, ixD, opD, addD, mulD, int2, wipe, fin_pure1, itemsD, heldD, isNm, kdD, bmD, allD, anyD, allocL, in_intsR _ _ _ days], fun _ => by simp [runF, e_var, e_int, e_bl, e_non, e_str, e_gint, e_tup, e_lst, e_dct, e_op, e_neg, e_cm, e_ch, e_isN, e_isB, e_and, e_or, e_not, e_ite, e_ix, e_sl, e_rev, e_bi, e_isi, e_call, e_new, e_meth, e_fld, e_bm, e_fstr, e_frz, e_said, e_sset, e_tupR, e_never, x_asg, x_expr, x_ret, x_retN, x_ite, x_raise, x_tryN, x_pass, x_never, x_nil, x_cons, es_nil, es_cons, eo_none, eo_some, ec_none, ec_some, a_name, a_tup, a_sub, as_nil, as_cons, p_name, p_tup, ps_nil, ps_cons, isiD, isi0, cmD, cmI, biD, bi1, bi2, biL, ixD, opD, addD, mulD, int2, wipe, fin_pure1, itemsD, heldD, isNm, kdD, bmD, allD, anyD, allocL]⟩) hsl]
      simp [runF, e_var, e_int, e_bl, e_non, e_str, e_gint, e_tup, e_lst, e_dct, e_op, e_neg, e_cm, e_ch, e_isN, e_isB, e_and, e_or, e_not, e_ite, e_ix, e_sl, e_rev, e_bi, e_isi, e_call, e_new, e_meth, e_fld, e_bm, e_fstr, e_frz, e_said, e_sset, e_tupR, e_never, x_asg, x_expr, x_ret, x_retN, x_ite, x_raise, x_tryN, x_pass, x_never, x_nil, x_cons, es_nil, es_cons, eo_none, eo_some, ec_none, ec_some, a_name, a_tup, a_sub, as_nil, as_cons, p_name, p_tup, ps_nil, ps_cons, isiD, isi0, cmD, cmI, biD, bi1, bi2, biL, ixD, opD, addD, mulD, int2, wipe, fin_pure1, itemsD, heldD, isNm, kdD, bmD, allD, anyD, allocL, updL, hx]
      simp [extL]
theorem rc_out (n : Nat) (cs : List Card) (ds : List Int) (ts : List (Option Nat)) (hd : ds.length ≤ 24) (S : Sto) : ∀ (k f g : Nat) (days : List Int) (x5 x6 x7 x8 : Option D), k ≤ f → ds.length < g + k → Wv cs ds ts g days →
    ∃ y4 y5 y6 y7 y8 days', whileL (fun ρ S => ev (callS gi fns (n + 1)) gi (.cm .lt (.var 4) (.bi .len [.var 3])) ρ S) (fun ρ S => exs (callS gi fns (n + 1)) gi rcOut ρ S) f [some (.tuple (cs.map cD)), some (.tuple (ds.map .int)), some (.tuple (ts.map oD)), some (rf S.length), some (.int g), x5, x6, x7, x8, none, none] (S ++ [.lst (days.map .int)])
      = .next [some (.tuple (cs.map cD)), some (.tuple (ds.map .int)), some (.tuple (ts.map oD)), some (rf S.length), y4, y5, y6, y7, y8, none, none] (S ++ [.lst (days'.map .int)]) ∧ Wv cs ds ts days'.length days'
  | 0, f, g, days, x5, x6, x7, x8, _, h, w => by
    have := w.le
    have := w.len
    omega
  | k + 1, 0, _, _, _, _, _, _, h, _, _ => by omega
  | k + 1, f + 1, g, days, x5, x6, x7, x8, hf, h, w => by
    have hl := w.len
    have hle := w.le
    unfold whileL
    by_cases q : g < days.length
    · have e : days[g]? = some days[g] := List.getElem?_eq_getElem q
      obtain ⟨z6, z7, z8, hi⟩ := rc_in n cs ds ts hd g days[g] (Wk.ok ⟨enumL 0 (cs.map cD), [], true⟩) (fun T => by simp) S cs 0 days x6 x7 x8 rfl w.toIv (List.getElem_mem q)
      obtain ⟨y4, y5, y6, y7, y8, days', ih, w'⟩ := rc_out n cs ds ts hd S k f (g + 1) (stepC ds ts days[g] 0 cs days) (some (.int days[g])) z6 z7 z8 (by omega) (by omega) (w.next e)
      refine ⟨y4, y5, y6, y7, y8, days', ?_, w'⟩
      rw [← ih]
      simp [runF, e_var, e_int, e_bl, e_non, e_str, e_gint, e_tup, e_lst, e_dct, e_op, e_neg, e_cm, e_ch, e_isN, e_isB, e_and, e_or, e_not, e_ite, e_ix, e_sl, e_rev, e_bi, e_isi, e_call, e_new, e_meth, e_fld, e_bm, e_fstr, e_frz, e_said, e_sset, e_tupR, e_never, x_asg, x_expr, x_ret, x_retN, x_ite, x_raise, x_tryN, x_pass, x_never, x_nil, x_cons, es_nil, es_cons, eo_none, eo_some, ec_none, ec_some, a_name, a_tup, a_sub, as_nil, as_cons, p_name, p_tup, ps_nil, ps_cons, isiD, isi0, cmD, cmI, biD, bi1, bi2, biL, ixD, opD, addD, mulD, int2, wipe, fin_pure1, itemsD, heldD, isNm, kdD, bmD, allD, anyD, allocL, eqOk_int, ltD_int, q, rcOut, atI_nat, e]
      rw [x_for (w := ⟨enumL 0 (cs.map cD), [], true⟩) (ei_enumT (by simp [runF, e_var, e_int, e_bl, e_non, e_str, e_gint, e_tup, e_lst, e_dct, e_op, e_neg, e_cm, e_ch, e_isN, e_isB, e_and, e_or, e_not, e_ite, e_ix, e_sl, e_rev, e_bi, e_isi, e_call, e_new, e_meth, e_fld, e_bm, e_fstr, e_frz, e_said, e_sset, e_tupR, e_never, x_asg, x_expr, x_ret, x_retN, x_ite, x_raise, x_tryN, x_pass, x_never, x_nil, x_cons, es_nil, es_cons, eo_none, eo_some, ec_none, ec_some, a_name, a_tup, a_sub, as_nil, as_cons, p_name, p_tup, ps_nil, ps_cons, isiD, isi0, cmD, cmI, biD, bi1, bi2, biL, ixD, opD, addD, mulD, int2, wipe, fin_pure1, itemsD, heldD, isNm, kdD, bmD, allD, anyD, allocL])) rfl, hi]
      simp [runF, e_var, e_int, e_bl, e_non, e_str, e_gint, e_tup, e_lst, e_dct, e_op, e_neg, e_cm, e_ch, e_isN, e_isB, e_and, e_or, e_not, e_ite, e_ix, e_sl, e_rev, e_bi, e_isi, e_call, e_new, e_meth, e_fld, e_bm, e_fstr, e_frz, e_said, e_sset, e_tupR, e_never, x_asg, x_expr, x_ret, x_retN, x_ite, x_raise, x_tryN, x_pass, x_never, x_nil, x_cons, es_nil, es_cons, eo_none, eo_some, ec_none, ec_some, a_name, a_tup, a_sub, as_nil, as_cons, p_name, p_tup, ps_nil, ps_cons, isiD, isi0, cmD, cmI, biD, bi1, bi2, biL, ixD, opD, addD, mulD, int2, wipe, fin_pure1, itemsD, heldD, isNm, kdD, bmD, allD, anyD, allocL]
    · have e : g = days.length := by omega
      subst e
      refine ⟨some (.int days.length), x5, x6, x7, x8, days, ?_, w⟩
      simp [runF, e_var, e_int, e_bl, e_non, e_str, e_gint, e_tup, e_lst, e_dct, e_op, e_neg, e_cm, e_ch, e_isN, e_isB, e_and, e_or, e_not, e_ite, e_ix, e_sl, e_rev, e_bi, e_isi, e_call, e_new, e_meth, e_fld, e_bm, e_fstr, e_frz, e_said, e_sset, e_tupR, e_never, x_asg, x_expr, x_ret, x_retN, x_ite, x_raise, x_tryN, x_pass, x_never, x_nil, x_cons, es_nil, es_cons, eo_none, eo_some, ec_none, ec_some, a_name, a_tup, a_sub, as_nil, as_cons, p_name, p_tup, ps_nil, ps_cons, isiD, isi0, cmD, cmI, biD, bi1, bi2, biL, ixD, opD, addD, mulD, int2, wipe, fin_pure1, itemsD, heldD, isNm, kdD, bmD, allD, anyD, allocL, eqOk_int, ltD_int]
termination_by k => k
theorem m_reached_from (n : Nat) (cs : List Card) (ds : List Int) (ts : List (Option Nat)) (hd : ds.length ≤ 24) (S : Sto) :
    ∃ days, callS gi fns (n + 2) "reached_from" [.tuple (cs.map cD), .tuple (ds.map .int), .tuple (ts.map oD)] S = .ok (rf S.length) (S ++ [.lst (days.map .int)]) ∧ Wv cs ds ts days.length days := by
  have hz : (ds.zip ts).length ≤ lim := by rw [List.length_zip, lim_eq]; omega
  have hm := len_lostL ds ts
  have hm64 : (lostL ds ts).length < 64 := by omega
  have hsl : (srt (lostL ds ts)).length ≤ lim := by
    have a : (srt (lostL ds ts)).length ≤ (lostL ds ts).length := (nodup_srt _).length_le_of_subset fun x hx => mem_srt.mp hx
    rw [lim_eq]; omega
  obtain ⟨y4, y5, y6, y7, y8, days, h, w⟩ := rc_out n cs ds ts hd S 30 wfuel 0 (srt (lostL ds ts)) none none none none (by decide) (by omega) Wv.init
  refine ⟨days, ?_, w⟩
  unfold rcOut rcIn at h
  rw [callS_fn (F := f_reached_from) (by kernel_rfl)]
  simp [runF, e_var, e_int, e_bl, e_non, e_str, e_gint, e_tup, e_lst, e_dct, e_op, e_neg, e_cm, e_ch, e_isN, e_isB, e_and, e_or, e_not, e_ite, e_ix, e_sl, e_rev, e_bi, e_isi, e_call, e_new, e_meth, e_fld, e_bm, e_fstr, e_frz, e_said, e_sset, e_tupR, e_never, x_asg, x_expr, x_ret, x_retN, x_ite, x_raise, x_tryN, x_pass, x_never, x_nil, x_cons, es_nil, es_cons, eo_none, eo_some, ec_none, ec_some, a_name, a_tup, a_sub, as_nil, as_cons, p_name, p_tup, ps_nil, ps_cons, isiD, isi0, cmD, cmI, biD, bi1, bi2, biL, ixD, opD, addD, mulD, int2, wipe, fin_pure1, itemsD, heldD, isNm, kdD, bmD, allD, anyD, allocL, f_reached_from]
  rw [ev_compF (ds.zip ts) (fun p => .tuple [.int p.1, oD p.2]) (fun p => decide (p.2 = none)) (fun p => .int p.1) (fun p => [some (.tuple (cs.map cD)), some (.tuple (ds.map .int)), some (.tuple (ts.map oD)), none, none, some (.int p.1), some (oD p.2), none, none, none, none]) (ei_zipT (ds := ds.map .int) (es := ts.map oD) (by simp [runF, e_var, e_int, e_bl, e_non, e_str, e_gint, e_tup, e_lst, e_dct, e_op, e_neg, e_cm, e_ch, e_isN, e_isB, e_and, e_or, e_not, e_ite, e_ix, e_sl, e_rev, e_bi, e_isi, e_call, e_new, e_meth, e_fld, e_bm, e_fstr, e_frz, e_said, e_sset, e_tupR, e_never, x_asg, x_expr, x_ret, x_retN, x_ite, x_raise, x_tryN, x_pass, x_never, x_nil, x_cons, es_nil, es_cons, eo_none, eo_some, ec_none, ec_some, a_name, a_tup, a_sub, as_nil, as_cons, p_name, p_tup, ps_nil, ps_cons, isiD, isi0, cmD, cmI, biD, bi1, bi2, biL, ixD, opD, addD, mulD, int2, wipe, fin_pure1, itemsD, heldD, isNm, kdD, bmD, allD, anyD, allocL]) (by simp [runF, e_var, e_int, e_bl, e_non, e_str, e_gint, e_tup, e_lst, e_dct, e_op, e_neg, e_cm, e_ch, e_isN, e_isB, e_and, e_or, e_not, e_ite, e_ix, e_sl, e_rev, e_bi, e_isi, e_call, e_new, e_meth, e_fld, e_bm, e_fstr, e_frz, e_said, e_sset, e_tupR, e_never, x_asg, x_expr, x_ret, x_retN, x_ite, x_raise, x_tryN, x_pass, x_never, x_nil, x_cons, es_nil, es_cons, eo_none, eo_some, ec_none, ec_some, a_name, a_tup, a_sub, as_nil, as_cons, p_name, p_tup, ps_nil, ps_cons, isiD, isi0, cmD, cmI, biD, bi1, bi2, biL, ixD, opD, addD, mulD, int2, wipe, fin_pure1, itemsD, heldD, isNm, kdD, bmD, allD, anyD, allocL])) (zipL_oD ..) (by simp) rfl (fun c hc => ⟨by simp [runF, e_var, e_int, e_bl, e_non, e_str, e_gint, e_tup, e_lst, e_dct, e_op, e_neg, e_cm, e_ch, e_isN, e_isB, e_and, e_or, e_not, e_ite, e_ix, e_sl, e_rev, e_bi, e_isi, e_call, e_new, e_meth, e_fld, e_bm, e_fstr, e_frz, e_said, e_sset, e_tupR, e_never, x_asg, x_expr, x_ret, x_retN, x_ite, x_raise, x_tryN, x_pass, x_never, x_nil, x_cons, es_nil, es_cons, eo_none, eo_some, ec_none, ec_some, a_name, a_tup, a_sub, as_nil, as_cons, p_name, p_tup, ps_nil, ps_cons, isiD, isi0, cmD, cmI, biD, bi1, bi2, biL, ixD, opD, addD, mulD, int2, wipe, fin_pure1, itemsD, heldD, isNm, kdD, bmD, allD, anyD, allocL], by obtain ⟨a, o⟩ := c; cases o <;> simp [runF, e_var, e_int, e_bl, e_non, e_str, e_gint, e_tup, e_lst, e_dct, e_op, e_neg, e_cm, e_ch, e_isN, e_isB, e_and, e_or, e_not, e_ite, e_ix, e_sl, e_rev, e_bi, e_isi, e_call, e_new, e_meth, e_fld, e_bm, e_fstr, e_frz, e_said, e_sset, e_tupR, e_never, x_asg, x_expr, x_ret, x_retN, x_ite, x_raise, x_tryN, x_pass, x_never, x_nil, x_cons, es_nil, es_cons, eo_none, eo_some, ec_none, ec_some, a_name, a_tup, a_sub, as_nil, as_cons, p_name, p_tup, ps_nil, ps_cons, isiD, isi0, cmD, cmI, biD, bi1, bi2, biL, ixD, opD, addD, mulD, int2, wipe, fin_pure1, itemsD, heldD, isNm, kdD, bmD, allD, anyD, allocL, oD], fun _ => by simp [runF, e_var, e_int, e_bl, e_non, e_str, e_gint, e_tup, e_lst, e_dct, e_op, e_neg, e_cm, e_ch, e_isN, e_isB, e_and, e_or, e_not, e_ite, e_ix, e_sl, e_rev, e_bi, e_isi, e_call, e_new, e_meth, e_fld, e_bm, e_fstr, e_frz, e_said, e_sset, e_tupR, e_never, x_asg, x_expr, x_ret, x_retN, x_ite, x_raise, x_tryN, x_pass, x_never, x_nil, x_cons, es_nil, es_cons, eo_none, eo_some, ec_none, ec_some, a_name, a_tup, a_sub, as_nil, as_cons, p_name, p_tup, ps_nil, ps_cons, isiD, isi0, cmD, cmI, biD, bi1, bi2, biL, ixD, opD, addD, mulD, int2, wipe, fin_pure1, itemsD, heldD, isNm, kdD, bmD, allD, anyD, allocL]⟩) hz]
  rw [lst_lost]
  simp [runF, e_var, e_int, e_bl, e_non, e_str, e_gint, e_tup, e_lst, e_dct, e_op, e_neg, e_cm, e_ch, e_isN, e_isB, e_and, e_or, e_not, e_ite, e_ix, e_sl, e_rev, e_bi, e_isi, e_call, e_new, e_meth, e_fld, e_bm, e_fstr, e_frz, e_said, e_sset, e_tupR, e_never, x_asg, x_expr, x_ret, x_retN, x_ite, x_raise, x_tryN, x_pass, x_never, x_nil, x_cons, es_nil, es_cons, eo_none, eo_some, ec_none, ec_some, a_name, a_tup, a_sub, as_nil, as_cons, p_name, p_tup, ps_nil, ps_cons, isiD, isi0, cmD, cmI, biD, bi1, bi2, biL, ixD, opD, addD, mulD, int2, wipe, fin_pure1, itemsD, heldD, isNm, kdD, bmD, allD, anyD, allocL, sortedSetD, hm64]
  rw [← srt]
  simp only [hsl, if_true]
  simp [runF, e_var, e_int, e_bl, e_non, e_str, e_gint, e_tup, e_lst, e_dct, e_op, e_neg, e_cm, e_ch, e_isN, e_isB, e_and, e_or, e_not, e_ite, e_ix, e_sl, e_rev, e_bi, e_isi, e_call, e_new, e_meth, e_fld, e_bm, e_fstr, e_frz, e_said, e_sset, e_tupR, e_never, x_asg, x_expr, x_ret, x_retN, x_ite, x_raise, x_tryN, x_pass, x_never, x_nil, x_cons, es_nil, es_cons, eo_none, eo_some, ec_none, ec_some, a_name, a_tup, a_sub, as_nil, as_cons, p_name, p_tup, ps_nil, ps_cons, isiD, isi0, cmD, cmI, biD, bi1, bi2, biL, ixD, opD, addD, mulD, int2, wipe, fin_pure1, itemsD, heldD, isNm, kdD, bmD, allD, anyD, allocL]
  rw [x_while]
  have e0 : ((0 : Nat) : Int) = 0 := rfl
  rw [e0] at h
  rw [h]
  simp [runF, e_var, e_int, e_bl, e_non, e_str, e_gint, e_tup, e_lst, e_dct, e_op, e_neg, e_cm, e_ch, e_isN, e_isB, e_and, e_or, e_not, e_ite, e_ix, e_sl, e_rev, e_bi, e_isi, e_call, e_new, e_meth, e_fld, e_bm, e_fstr, e_frz, e_said, e_sset, e_tupR, e_never, x_asg, x_expr, x_ret, x_retN, x_ite, x_raise, x_tryN, x_pass, x_never, x_nil, x_cons, es_nil, es_cons, eo_none, eo_some, ec_none, ec_some, a_name, a_tup, a_sub, as_nil, as_cons, p_name, p_tup, ps_nil, ps_cons, isiD, isi0, cmD, cmI, biD, bi1, bi2, biL, ixD, opD, addD, mulD, int2, wipe, fin_pure1, itemsD, heldD, isNm, kdD, bmD, allD, anyD, allocL, fin]
theorem m_paper_in (n : Nat) (cs : List Card) (ds : List Int) (hi : okIn cs ds) (S : Sto) :
    ∃ Y : List Int, callS gi fns (n + 4) "paper_in" [.tuple (cs.map cD), .tuple (ds.map .int)] S = .ok (.tuple (Y.map .int)) S ∧ Y.Pairwise (· < ·) ∧ Y.all dayB = true ∧ Y.length ≤ 24 ∧ Paper cs ds (tk cs ds) fun d => decide (d ∈ Y) := by
  obtain ⟨h1, h2, h3, h4, h5⟩ := hi
  obtain ⟨days, e, w⟩ := m_reached_from (n + 1) cs ds (tk cs ds) h3 S
  have hl := w.len
  have hp := isort_perm' days
  refine ⟨isort days, ?_, rise_of w.nd, List.all_eq_true.mpr fun x hx => List.all_eq_true.mp h4 x (w.sub x (hp.mem_iff.mp hx)), by rw [hp.length_eq]; omega, w.paper⟩
  rw [callS_fn (F := f_paper_in) (by kernel_rfl)]
  have hl2 : (isort days).length ≤ lim := by rw [hp.length_eq, lim_eq]; omega
  simp [runF, e_var, e_int, e_bl, e_non, e_str, e_gint, e_tup, e_lst, e_dct, e_op, e_neg, e_cm, e_ch, e_isN, e_isB, e_and, e_or, e_not, e_ite, e_ix, e_sl, e_rev, e_bi, e_isi, e_call, e_new, e_meth, e_fld, e_bm, e_fstr, e_frz, e_said, e_sset, e_tupR, e_never, x_asg, x_expr, x_ret, x_retN, x_ite, x_raise, x_tryN, x_pass, x_never, x_nil, x_cons, es_nil, es_cons, eo_none, eo_some, ec_none, ec_some, a_name, a_tup, a_sub, as_nil, as_cons, p_name, p_tup, ps_nil, ps_cons, isiD, isi0, cmD, cmI, biD, bi1, bi2, biL, ixD, opD, addD, mulD, int2, wipe, fin_pure1, itemsD, heldD, isNm, kdD, bmD, allD, anyD, allocL, f_paper_in, m_taking_of _ cs ds (by omega) (by omega), e, sortedD, hl2, fin_pureA]
end K33
end

section
set_option Elab.async false
set_option linter.all false
set_option maxRecDepth 100000
set_option maxHeartbeats 1000000
namespace K33
open PySem PL TT
/-! ### the box -/
def SN (S : Sto) : Prop := ∀ n, S.length ≤ n → S.all (refO n) = true
def B (S : Sto) (j : Nat) (a b : Int) : Sto := S.set j (.lst [.int a, .int b])
section
variable {S : Sto} {j k : Nat} {a b c d : Int}
theorem B_len : (B S j a b).length = S.length := by simp [B]
theorem B_objL (hj : j < S.length) : objL (B S j a b) j = some [.int a, .int b] := objL_of (by unfold B; rw [List.getElem?_set_self hj])
theorem B_app (hj : j < S.length) (T : Sto) : B S j a b ++ T = B (S ++ T) j a b := by unfold B; rw [List.set_append_left _ _ hj]
theorem B_set : (B S j a b).set j (.lst [.int c, .int d]) = B S j c d := by unfold B; rw [List.set_set]
theorem B_ne (h : k ≠ j) : objL (B S j a b) k = objL S k := by
  unfold objL B
  rw [List.getElem?_set_ne (Ne.symm h)]
theorem B_setne (h : k ≠ j) (o : O) : (B S j a b).set k o = B (S.set k o) j a b := by
  unfold B
  rw [List.set_comm _ _ (Ne.symm h)]
theorem B_takeA (hj : j < S.length) (T : Sto) : (B (S ++ T) j a b).take S.length = B S j a b := by
  rw [← B_app hj]
  have : S.length = (B S j a b).length := B_len.symm
  rw [this, List.take_left]
theorem B_take1 : (B S j a b).take S.length = B S j a b := by
  have : S.length = (B S j a b).length := B_len.symm
  rw [this, List.take_length]
theorem SN.B (h : SN S) : (B S j a b).all (refO S.length) = true := by
  refine List.all_eq_true.mpr fun o ho => ?_
  rcases List.mem_or_eq_of_mem_set ho with q | q
  · exact List.all_eq_true.mp (h _ (Nat.le_refl _)) o q
  · subst q; simp [refO]
theorem SN.app (h : SN S) {o : O} (ho : ∀ n, refO n o = true) : SN (S ++ [o]) := fun n hn => by
  rw [List.length_append] at hn
  rw [List.all_append, h n (by omega)]
  simp [ho]
theorem SN.setB (h : SN S) : SN (K33.B S j a b) := fun n hn => by
  rw [B_len] at hn
  refine List.all_eq_true.mpr fun o ho => ?_
  rcases List.mem_or_eq_of_mem_set ho with q | q
  · exact List.all_eq_true.mp (h n hn) o q
  · subst q; simp [refO]
end
theorem refB_cD (n : Nat) (c : Card) : refB n (cD c) = true := by simp [cD]
theorem refBs_cD (n : Nat) (cs : List Card) : refBs n (cs.map cD) = true := refBs_map (refB_cD n) cs
theorem SN.cards {S : Sto} (h : SN S) (cs : List Card) : SN (S ++ [.lst (cs.map cD)]) := h.app fun n => by simp [refO, refBs_cD]
def okB (a b : Int) : Prop := 0 ≤ a ∧ 0 ≤ b ∧ b < 1099511627776
theorem m_take (n : Nat) (S : Sto) (j : Nat) (hj : j < S.length) (sn : SN S) (a b m : Int) (h : okB a b) (m1 : 1 ≤ m) (m2 : m < 1073741824) :
    ∃ d a' b', okB a' b' ∧ 0 ≤ d ∧ d < m ∧ callS gi fns (n + 1) "_law_take" [rf j, .int m] (B S j a b) = .ok (.int d) (B S j a' b') := by
  obtain ⟨h1, h2, h3⟩ := h
  have m0 : 0 < m := by omega
  rw [callS_fn (F := f__law_take) (by kernel_rfl)]
  have ft : ∀ (a' b' d : Int), fin .trunc (B S j a b) (.int d) (B S j a' b') = .ok (.int d) (B S j a' b') := fun a' b' d => by
    rw [fin_trunc (by rw [B_len, B_len]; exact Nat.le_refl _) (by simp) (by rw [B_len, B_take1]; exact sn.B), B_len, B_take1]
  have i0 : L2.ixN 2 0 = some 0 := ixN_nat (n := 2) (i := 0) (by omega)
  have i1 : L2.ixN 2 1 = some 1 := ixN_nat (n := 2) (i := 1) (by omega)
  by_cases q : 0 < a
  · refine ⟨a % m, a / m, b, ⟨Int.ediv_nonneg h1 (by omega), h2, h3⟩, Int.emod_nonneg _ (by omega), Int.emod_lt_of_pos _ m0, ?_⟩
    simp [runF, e_var, e_int, e_bl, e_non, e_str, e_gint, e_tup, e_lst, e_dct, e_op, e_neg, e_cm, e_ch, e_isN, e_isB, e_and, e_or, e_not, e_ite, e_ix, e_sl, e_rev, e_bi, e_isi, e_call, e_new, e_meth, e_fld, e_bm, e_fstr, e_frz, e_said, e_sset, e_tupR, e_never, x_asg, x_expr, x_ret, x_retN, x_ite, x_raise, x_tryN, x_pass, x_never, x_nil, x_cons, es_nil, es_cons, eo_none, eo_some, ec_none, ec_some, a_name, a_tup, a_sub, as_nil, as_cons, p_name, p_tup, ps_nil, ps_cons, isiD, isi0, cmD, cmI, biD, bi1, bi2, biL, ixD, opD, addD, mulD, int2, wipe, fin_pure1, itemsD, heldD, isNm, kdD, bmD, allD, anyD, allocL, f__law_take, B_objL hj, q, m0, m2, setD, i0, B_set, ft]
  · have q1 := Int.emod_nonneg (b * 48271 + 11) (b := 2147483647) (by omega)
    have q2 := Int.emod_lt_of_pos (b * 48271 + 11) (b := 2147483647) (by omega)
    generalize hx : (b * 48271 + 11) % 2147483647 = x at q1 q2
    have q3 : 0 ≤ x / 1009 + 1 := by omega
    have q4 : x / 1009 + 1 < 4294967296 := by omega
    generalize hy : x / 1009 + 1 = y at q3 q4
    have q5 : 0 ≤ y * y := Int.mul_nonneg q3 q3
    have q6 : y * y < 18446744073709551616 := by
      have h1 : y ≤ 4294967295 := by omega
      have h2 := Int.mul_le_mul h1 h1 q3 (by omega)
      omega
    refine ⟨y * y * y % 2147483629 / 61 % m, a, x, ⟨h1, q1, by omega⟩, Int.emod_nonneg _ (by omega), Int.emod_lt_of_pos _ m0, ?_⟩
    have b1 : -bigD < b ∧ b < bigD := by unfold bigD; omega
    have b2 : -bigD < y ∧ y < bigD := by unfold bigD; omega
    have b3 : -bigD < y * y ∧ y * y < bigD := by unfold bigD; omega
    simp [runF, e_var, e_int, e_bl, e_non, e_str, e_gint, e_tup, e_lst, e_dct, e_op, e_neg, e_cm, e_ch, e_isN, e_isB, e_and, e_or, e_not, e_ite, e_ix, e_sl, e_rev, e_bi, e_isi, e_call, e_new, e_meth, e_fld, e_bm, e_fstr, e_frz, e_said, e_sset, e_tupR, e_never, x_asg, x_expr, x_ret, x_retN, x_ite, x_raise, x_tryN, x_pass, x_never, x_nil, x_cons, es_nil, es_cons, eo_none, eo_some, ec_none, ec_some, a_name, a_tup, a_sub, as_nil, as_cons, p_name, p_tup, ps_nil, ps_cons, isiD, isi0, cmD, cmI, biD, bi1, bi2, biL, ixD, opD, addD, mulD, int2, wipe, fin_pure1, itemsD, heldD, isNm, kdD, bmD, allD, anyD, allocL, f__law_take, B_objL hj, q, m0, b1, hx, hy, b2, b3, setD, i1, B_set, ft]
theorem lm1 : 1 ≤ lim := by rw [lim_eq]; omega
theorem lm2 : 2 ≤ lim := by rw [lim_eq]; omega
theorem lm3 : 3 ≤ lim := by rw [lim_eq]; omega
theorem lm4 : 4 ≤ lim := by rw [lim_eq]; omega
theorem lm5 : 5 ≤ lim := by rw [lim_eq]; omega
/-! ### cards -/
theorem at2 (x y : D) (k : Int) (h : 0 ≤ k) (h2 : k < 2) : L2.atI [x, y] k = some x ∨ L2.atI [x, y] k = some y := by
  rcases (by omega : k = 0 ∨ k = 1) with rfl | rfl
  · exact .inl rfl
  · exact .inr rfl
theorem at3 (x y z : D) (k : Int) (h : 0 ≤ k) (h2 : k < 3) : L2.atI [x, y, z] k = some x ∨ L2.atI [x, y, z] k = some y ∨ L2.atI [x, y, z] k = some z := by
  rcases (by omega : k = 0 ∨ k = 1 ∨ k = 2) with rfl | rfl | rfl
  · exact .inl rfl
  · exact .inr (.inl rfl)
  · exact .inr (.inr rfl)
theorem at4 (x y z u : D) (k : Int) (h : 0 ≤ k) (h2 : k < 4) : L2.atI [x, y, z, u] k = some x ∨ L2.atI [x, y, z, u] k = some y ∨ L2.atI [x, y, z, u] k = some z ∨ L2.atI [x, y, z, u] k = some u := by
  rcases (by omega : k = 0 ∨ k = 1 ∨ k = 2 ∨ k = 3) with rfl | rfl | rfl | rfl
  · exact .inl rfl
  · exact .inr (.inl rfl)
  · exact .inr (.inr (.inl rfl))
  · exact .inr (.inr (.inr rfl))
theorem at5 (x y z u v : D) (k : Int) (h : 0 ≤ k) (h2 : k < 5) : L2.atI [x, y, z, u, v] k = some x ∨ L2.atI [x, y, z, u, v] k = some y ∨ L2.atI [x, y, z, u, v] k = some z ∨ L2.atI [x, y, z, u, v] k = some u ∨ L2.atI [x, y, z, u, v] k = some v := by
  rcases (by omega : k = 0 ∨ k = 1 ∨ k = 2 ∨ k = 3 ∨ k = 4) with rfl | rfl | rfl | rfl | rfl
  · exact .inl rfl
  · exact .inr (.inl rfl)
  · exact .inr (.inr (.inl rfl))
  · exact .inr (.inr (.inr (.inl rfl)))
  · exact .inr (.inr (.inr (.inr rfl)))
theorem card_ok {f l t : Int} (h1 : 0 ≤ f) (h2 : f ≤ l) (h3 : l ≤ 59) (h4 : 1 ≤ t) (h5 : t ≤ 10) : cardB (f, l, t) = true := by
  simp [cardB, dayB]
  omega
theorem of_card {c : Card} (h : cardB c = true) : 0 ≤ c.1 ∧ c.1 ≤ c.2.1 ∧ c.2.1 ≤ 59 ∧ 1 ≤ c.2.2 ∧ c.2.2 ≤ 10 := by
  simp [cardB, dayB] at h
  omega
def cdBody : List St := [.asg (.name 4) (.call "_law_take" [.var 0, .var 3]),
  .asg (.name 5) (.op .add (.var 4) (.call "_law_take" [.var 0, .op .sub (.var 3) (.var 4)])),
  .expr (.bm (.var 2) .append [.tup [.var 4, .var 5, .ix (.lst false [.int 1, .int 10, .op .add (.int 1) (.call "_law_take" [.var 0, .int 3])]) (.call "_law_take" [.var 0, .int 3])]]),
  .ite (.cm .eq (.call "_law_take" [.var 0, .int 5]) (.int 0)) [.asg (.sub (.var 2) (.neg (.int 1))) (.ix (.var 2) (.int 0))] []]
theorem eqD_int (S : Sto) (i j : Int) : eqD S (.int i) (.int j) = some (decide (i = j)) := by
  have e : ∀ i : Int, val S (.int i) = .int i := fun _ => rfl
  unfold eqD
  rw [e, e, eqOk_int, eqOk_int, eqv_int]
  rfl
theorem ixN_last (n : Nat) : L2.ixN (n + 1) (-1) = some n := by
  unfold L2.ixN
  simp
  omega
theorem cd_loop (n : Nat) (S : Sto) (j : Nat) (hj : j < S.length) (sn : SN S) (m : Int) (m1 : 1 ≤ m) (m2 : m ≤ 60) (ok : Sto → Prop) (hok : ∀ T, ok T) : ∀ (its : List D) (found : List Card) (a b : Int) (x1 x4 x5 : Option D), okB a b → its.length + found.length ≤ 8 → found.all cardB = true →
    ∃ (found' : List Card) (a' b' : Int) (y1 y4 y5 : Option D), okB a' b' ∧ found'.length ≤ 8 ∧ found'.all cardB = true ∧ forL ok (putT (.name 1)) (fun ρ S => exs (callS gi fns (n + 1)) gi cdBody ρ S) its [some (rf j), x1, some (rf S.length), some (.int m), x4, x5] (B (S ++ [.lst (found.map cD)]) j a b)
      = .next [some (rf j), y1, some (rf S.length), some (.int m), y4, y5] (B (S ++ [.lst (found'.map cD)]) j a' b')
  | [], found, a, b, x1, x4, x5, h, hl, hf => ⟨found, a, b, x1, x4, x5, h, by simpa using hl, hf, by simp [forL, hok]⟩
  | it :: its, found, a, b, x1, x4, x5, h, hl, hf => by
    have hne : S.length ≠ j := by omega
    have hj2 : ∀ T : Sto, j < (S ++ T).length := fun T => by rw [List.length_append]; omega
    have sn2 := fun cs => sn.cards cs
    have hl' : its.length + 1 + found.length ≤ 8 := by simpa using hl
    obtain ⟨d1, a1, b1, k1, u1, v1, e1⟩ := m_take n _ j (hj2 [.lst (found.map cD)]) (sn2 found) a b m h m1 (by omega)
    obtain ⟨d2, a2, b2, k2, u2, v2, e2⟩ := m_take n _ j (hj2 [.lst (found.map cD)]) (sn2 found) a1 b1 (m - d1) k1 (by omega) (by omega)
    obtain ⟨d3, a3, b3, k3, u3, v3, e3⟩ := m_take n _ j (hj2 [.lst (found.map cD)]) (sn2 found) a2 b2 3 k2 (by omega) (by omega)
    obtain ⟨d4, a4, b4, k4, u4, v4, e4⟩ := m_take n _ j (hj2 [.lst (found.map cD)]) (sn2 found) a3 b3 3 k3 (by omega) (by omega)
    obtain ⟨t, ht, t1, t2⟩ : ∃ t : Int, L2.atI [PyData.int 1, .int 10, .int (1 + d3)] d4 = some (.int t) ∧ 1 ≤ t ∧ t ≤ 10 := by
      rcases at3 (.int 1) (.int 10) (.int (1 + d3)) d4 u4 v4 with q | q | q
      · exact ⟨1, q, by omega, by omega⟩
      · exact ⟨10, q, by omega, by omega⟩
      · exact ⟨1 + d3, q, by omega, by omega⟩
    have hc : cardB (d1, d1 + d2, t) = true := card_ok u1 (by omega) (by omega) t1 t2
    have hf2 : (found ++ [(d1, d1 + d2, t)]).all cardB = true := by rw [List.all_append, hf]; simp [hc]
    obtain ⟨d5, a5, b5, k5, u5, v5, e5⟩ := m_take n _ j (hj2 [.lst ((found ++ [(d1, d1 + d2, t)]).map cD)]) (sn2 _) a4 b4 5 k4 (by omega) (by omega)
    have hlim : found.length < lim := by rw [lim_eq]; omega
    have e5' := e5
    rw [List.map_append] at e5'
    simp only [List.map_cons, List.map_nil, cD] at e5'
    by_cases q : d5 = 0
    · have hne2 : found ++ [(d1, d1 + d2, t)] ≠ [] := by simp
      obtain ⟨c0, hc0⟩ : ∃ c0, (found ++ [(d1, d1 + d2, t)])[0]? = some c0 := ⟨_, List.getElem?_eq_getElem (by simp)⟩
      have hm0 : c0 ∈ found ++ [(d1, d1 + d2, t)] := List.mem_of_getElem? hc0
      have hc0' := List.all_eq_true.mp hf2 c0 hm0
      obtain ⟨f', a', b', y1, y4, y5, z1, z2, z3, ih⟩ := cd_loop n S j hj sn m m1 m2 ok hok its (found ++ [c0]) a5 b5 (some it) (some (.int d1)) (some (.int (d1 + d2))) k5 (by simp; omega) (by rw [List.all_append, hf]; simp [hc0'])
      refine ⟨f', a', b', y1, y4, y5, z1, z2, z3, ?_⟩
      rw [forL_next _ (B (S ++ [.lst ((found ++ [c0]).map cD)]) j a5 b5) (hok _) p_name ?_]
      · exact ih
      have hg : ((found ++ [(d1, d1 + d2, t)]).map cD)[0]? = some (cD c0) := by rw [List.getElem?_map, hc0]; rfl
      rw [List.map_append] at hg
      simp only [List.map_cons, List.map_nil, cD] at hg
      have hgg := hg
      rw [List.getElem?_eq_getElem (by simp)] at hgg
      have hg2 := Option.some.inj hgg
      simp [runF, e_var, e_int, e_bl, e_non, e_str, e_gint, e_tup, e_lst, e_dct, e_op, e_neg, e_cm, e_ch, e_isN, e_isB, e_and, e_or, e_not, e_ite, e_ix, e_sl, e_rev, e_bi, e_isi, e_call, e_new, e_meth, e_fld, e_bm, e_fstr, e_frz, e_said, e_sset, e_tupR, e_never, x_asg, x_expr, x_ret, x_retN, x_ite, x_raise, x_tryN, x_pass, x_never, x_nil, x_cons, es_nil, es_cons, eo_none, eo_some, ec_none, ec_some, a_name, a_tup, a_sub, as_nil, as_cons, p_name, p_tup, ps_nil, ps_cons, isiD, isi0, cmD, cmI, biD, bi1, bi2, biL, ixD, opD, addD, mulD, int2, wipe, fin_pure1, itemsD, heldD, isNm, kdD, bmD, allD, anyD, allocL, lm2, lm3, lm5, cdBody, e1, e2, e3, e4, ht, updL, B_ne hne, B_setne hne, hlim, e5', eqD_int, q, hg, hg2, setD, ixN_last, cD]
    · obtain ⟨f', a', b', y1, y4, y5, z1, z2, z3, ih⟩ := cd_loop n S j hj sn m m1 m2 ok hok its (found ++ [(d1, d1 + d2, t)]) a5 b5 (some it) (some (.int d1)) (some (.int (d1 + d2))) k5 (by simp; omega) hf2
      refine ⟨f', a', b', y1, y4, y5, z1, z2, z3, ?_⟩
      rw [forL_next _ (B (S ++ [.lst ((found ++ [(d1, d1 + d2, t)]).map cD)]) j a5 b5) (hok _) p_name ?_]
      · exact ih
      simp [runF, e_var, e_int, e_bl, e_non, e_str, e_gint, e_tup, e_lst, e_dct, e_op, e_neg, e_cm, e_ch, e_isN, e_isB, e_and, e_or, e_not, e_ite, e_ix, e_sl, e_rev, e_bi, e_isi, e_call, e_new, e_meth, e_fld, e_bm, e_fstr, e_frz, e_said, e_sset, e_tupR, e_never, x_asg, x_expr, x_ret, x_retN, x_ite, x_raise, x_tryN, x_pass, x_never, x_nil, x_cons, es_nil, es_cons, eo_none, eo_some, ec_none, ec_some, a_name, a_tup, a_sub, as_nil, as_cons, p_name, p_tup, ps_nil, ps_cons, isiD, isi0, cmD, cmI, biD, bi1, bi2, biL, ixD, opD, addD, mulD, int2, wipe, fin_pure1, itemsD, heldD, isNm, kdD, bmD, allD, anyD, allocL, lm2, lm3, lm5, cdBody, e1, e2, e3, e4, ht, updL, B_ne hne, B_setne hne, hlim, e5', eqD_int, q, cD]
theorem fin_B {S : Sto} {j : Nat} {a b a' b' : Int} {d : D} (hj : j < S.length) (sn : SN S) (T : Sto) (hd : refB S.length d = true) : fin .trunc (B S j a b) d (B (S ++ T) j a' b') = .ok d (B S j a' b') := by
  rw [fin_trunc (by rw [B_len, B_len, List.length_append]; omega) (by rw [B_len]; exact hd) (by rw [B_len, B_takeA hj]; exact sn.B), B_len, B_takeA hj]
theorem m_cards (n : Nat) (S : Sto) (j : Nat) (hj : j < S.length) (sn : SN S) (a b : Int) (h : okB a b) :
    ∃ (cs : List Card) (a' b' : Int), okB a' b' ∧ cs.length ≤ 8 ∧ cs.all cardB = true ∧ callS gi fns (n + 2) "_law_cards" [rf j] (B S j a b) = .ok (.tuple (cs.map cD)) (B S j a' b') := by
  have hj2 : ∀ T : Sto, j < (S ++ T).length := fun T => by rw [List.length_append]; omega
  have hne : S.length ≠ j := by omega
  have sn1 : SN (S ++ [.lst []]) := sn.cards []
  obtain ⟨d1, a1, b1, k1, u1, v1, e1⟩ := m_take n _ j (hj2 [.lst []]) sn1 a b 2 h (by omega) (by omega)
  obtain ⟨m, hm, m1, m2⟩ : ∃ t : Int, L2.atI [PyData.int 6, .int 60] d1 = some (.int t) ∧ 1 ≤ t ∧ t ≤ 60 := by
    rcases at2 (.int 6) (.int 60) d1 u1 v1 with q | q
    · exact ⟨6, q, by omega, by omega⟩
    · exact ⟨60, q, by omega, by omega⟩
  obtain ⟨d2, a2, b2, k2, u2, v2, e2⟩ := m_take n _ j (hj2 [.lst []]) sn1 a1 b1 5 k1 (by omega) (by omega)
  obtain ⟨r, hr, r1, r2⟩ : ∃ t : Int, L2.atI [PyData.int 0, .int 1, .int 2, .int 4, .int 8] d2 = some (.int t) ∧ 0 ≤ t ∧ t ≤ 8 := by
    rcases at5 (.int 0) (.int 1) (.int 2) (.int 4) (.int 8) d2 u2 v2 with q | q | q | q | q
    · exact ⟨0, q, by omega, by omega⟩
    · exact ⟨1, q, by omega, by omega⟩
    · exact ⟨2, q, by omega, by omega⟩
    · exact ⟨4, q, by omega, by omega⟩
    · exact ⟨8, q, by omega, by omega⟩
  obtain ⟨cs, a', b', y1, y4, y5, z1, z2, z3, hh⟩ := cd_loop n S j hj sn m m1 m2 (Wk.ok ⟨rangeL r, [], false⟩) (fun T => by simp) (rangeL r) [] a2 b2 none none none k2 (by simp [rangeL]; omega) rfl
  refine ⟨cs, a', b', z1, z2, z3, ?_⟩
  unfold cdBody at hh
  simp only [List.map_nil] at hh
  rw [callS_fn (F := f__law_cards) (by kernel_rfl)]
  have hb1 : -4611686018427387904 ≤ r := by omega
  have hb2 : r < 4611686018427387904 := by omega
  have hlm : (0 : Nat) ≤ lim := Nat.zero_le _
  have hl2 : cs.length ≤ lim := by rw [lim_eq]; omega
  simp [runF, e_var, e_int, e_bl, e_non, e_str, e_gint, e_tup, e_lst, e_dct, e_op, e_neg, e_cm, e_ch, e_isN, e_isB, e_and, e_or, e_not, e_ite, e_ix, e_sl, e_rev, e_bi, e_isi, e_call, e_new, e_meth, e_fld, e_bm, e_fstr, e_frz, e_said, e_sset, e_tupR, e_never, x_asg, x_expr, x_ret, x_retN, x_ite, x_raise, x_tryN, x_pass, x_never, x_nil, x_cons, es_nil, es_cons, eo_none, eo_some, ec_none, ec_some, a_name, a_tup, a_sub, as_nil, as_cons, p_name, p_tup, ps_nil, ps_cons, isiD, isi0, cmD, cmI, biD, bi1, bi2, biL, ixD, opD, addD, mulD, int2, wipe, fin_pure1, itemsD, heldD, isNm, kdD, bmD, allD, anyD, allocL, lm2, lm5, f__law_cards, B_app hj, B_len, e1, hm]
  rw [x_for (w := ⟨rangeL r, [], false⟩) (S' := B (S ++ [.lst []]) j a2 b2) (by rw [evi]; simp [runF, e_var, e_int, e_bl, e_non, e_str, e_gint, e_tup, e_lst, e_dct, e_op, e_neg, e_cm, e_ch, e_isN, e_isB, e_and, e_or, e_not, e_ite, e_ix, e_sl, e_rev, e_bi, e_isi, e_call, e_new, e_meth, e_fld, e_bm, e_fstr, e_frz, e_said, e_sset, e_tupR, e_never, x_asg, x_expr, x_ret, x_retN, x_ite, x_raise, x_tryN, x_pass, x_never, x_nil, x_cons, es_nil, es_cons, eo_none, eo_some, ec_none, ec_some, a_name, a_tup, a_sub, as_nil, as_cons, p_name, p_tup, ps_nil, ps_cons, isiD, isi0, cmD, cmI, biD, bi1, bi2, biL, ixD, opD, addD, mulD, int2, wipe, fin_pure1, itemsD, heldD, isNm, kdD, bmD, allD, anyD, allocL, lm5, e2, hr, bigD, hb1, hb2]) rfl, hh]
  simp [runF, e_var, e_int, e_bl, e_non, e_str, e_gint, e_tup, e_lst, e_dct, e_op, e_neg, e_cm, e_ch, e_isN, e_isB, e_and, e_or, e_not, e_ite, e_ix, e_sl, e_rev, e_bi, e_isi, e_call, e_new, e_meth, e_fld, e_bm, e_fstr, e_frz, e_said, e_sset, e_tupR, e_never, x_asg, x_expr, x_ret, x_retN, x_ite, x_raise, x_tryN, x_pass, x_never, x_nil, x_cons, es_nil, es_cons, eo_none, eo_some, ec_none, ec_some, a_name, a_tup, a_sub, as_nil, as_cons, p_name, p_tup, ps_nil, ps_cons, isiD, isi0, cmD, cmI, biD, bi1, bi2, biL, ixD, opD, addD, mulD, int2, wipe, fin_pure1, itemsD, heldD, isNm, kdD, bmD, allD, anyD, allocL, B_ne hne, fin_B hj sn, refBs_cD]
end K33
end

section
set_option Elab.async false
set_option linter.all false
set_option maxRecDepth 100000
set_option maxHeartbeats 1000000
namespace K33
open PySem PL TT
/-! ### comings -/
theorem tk_comp (n : Nat) (S : Sto) (j : Nat) (hj : j < S.length) (sn : SN S) (m : Int) (m1 : 1 ≤ m) (m2 : m ≤ 60) (ok : Sto → Prop) (hok : ∀ T, ok T) : ∀ (its : List D) (acc : List Int) (a b : Int), okB a b → acc.length + its.length ≤ lim →
    ∃ (xs : List Int) (a' b' : Int), okB a' b' ∧ xs.length = its.length ∧ (∀ x ∈ xs, 0 ≤ x ∧ x < m) ∧ compL ok (fun d => putT (.name 2) d (wipe [some (rf j), some (.int m), none] [2])) (fun ρ S => evc (callS gi fns (n + 1)) gi none ρ S) (fun ρ S => ev (callS gi fns (n + 1)) gi (.call "_law_take" [.var 0, .var 1]) ρ S) its (acc.map .int) (B S j a b)
      = .ok ((acc ++ xs).map .int) (B S j a' b')
  | [], acc, a, b, h, _ => ⟨[], a, b, h, rfl, fun x hx => by simp at hx, by simp [compL, hok]⟩
  | it :: its, acc, a, b, h, hl => by
    have hl' : acc.length + (its.length + 1) ≤ lim := by simpa using hl
    obtain ⟨d, a1, b1, k1, u1, v1, e1⟩ := m_take n S j hj sn a b m h m1 (by omega)
    obtain ⟨xs, a', b', z1, z2, z3, ih⟩ := tk_comp n S j hj sn m m1 m2 ok hok its (acc ++ [d]) a1 b1 k1 (by simp; omega)
    refine ⟨d :: xs, a', b', z1, by simp [z2], fun x hx => ?_, ?_⟩
    · rcases List.mem_cons.mp hx with q | q
      · subst q; exact ⟨u1, v1⟩
      · exact z3 x q
    have hlt : acc.length < lim := by omega
    simp only [compL, hok, if_true]
    simp [runF, e_var, e_int, e_bl, e_non, e_str, e_gint, e_tup, e_lst, e_dct, e_op, e_neg, e_cm, e_ch, e_isN, e_isB, e_and, e_or, e_not, e_ite, e_ix, e_sl, e_rev, e_bi, e_isi, e_call, e_new, e_meth, e_fld, e_bm, e_fstr, e_frz, e_said, e_sset, e_tupR, e_never, x_asg, x_expr, x_ret, x_retN, x_ite, x_raise, x_tryN, x_pass, x_never, x_nil, x_cons, es_nil, es_cons, eo_none, eo_some, ec_none, ec_some, a_name, a_tup, a_sub, as_nil, as_cons, p_name, p_tup, ps_nil, ps_cons, isiD, isi0, cmD, cmI, biD, bi1, bi2, biL, ixD, opD, addD, mulD, int2, wipe, fin_pure1, itemsD, heldD, isNm, kdD, bmD, allD, anyD, allocL, e1, hlt]
    have e2 := ih
    simp [runF, e_var, e_int, e_bl, e_non, e_str, e_gint, e_tup, e_lst, e_dct, e_op, e_neg, e_cm, e_ch, e_isN, e_isB, e_and, e_or, e_not, e_ite, e_ix, e_sl, e_rev, e_bi, e_isi, e_call, e_new, e_meth, e_fld, e_bm, e_fstr, e_frz, e_said, e_sset, e_tupR, e_never, x_asg, x_expr, x_ret, x_retN, x_ite, x_raise, x_tryN, x_pass, x_never, x_nil, x_cons, es_nil, es_cons, eo_none, eo_some, ec_none, ec_some, a_name, a_tup, a_sub, as_nil, as_cons, p_name, p_tup, ps_nil, ps_cons, isiD, isi0, cmD, cmI, biD, bi1, bi2, biL, ixD, opD, addD, mulD, int2, wipe, fin_pure1, itemsD, heldD, isNm, kdD, bmD, allD, anyD, allocL] at e2
    rw [e2]
theorem m_comings (n : Nat) (S : Sto) (j : Nat) (hj : j < S.length) (sn : SN S) (a b : Int) (h : okB a b) :
    ∃ (ds : List Int) (a' b' : Int), okB a' b' ∧ ds.length ≤ 24 ∧ ds.all dayB = true ∧ ds.Pairwise (· ≤ ·) ∧ callS gi fns (n + 2) "_law_comings" [rf j] (B S j a b) = .ok (.tuple (ds.map .int)) (B S j a' b') := by
  obtain ⟨d1, a1, b1, k1, u1, v1, e1⟩ := m_take n S j hj sn a b 3 h (by omega) (by omega)
  obtain ⟨m, hm, m1, m2⟩ : ∃ t : Int, L2.atI [PyData.int 3, .int 8, .int 60] d1 = some (.int t) ∧ 1 ≤ t ∧ t ≤ 60 := by
    rcases at3 (.int 3) (.int 8) (.int 60) d1 u1 v1 with q | q | q
    · exact ⟨3, q, by omega, by omega⟩
    · exact ⟨8, q, by omega, by omega⟩
    · exact ⟨60, q, by omega, by omega⟩
  obtain ⟨d2, a2, b2, k2, u2, v2, e2⟩ := m_take n S j hj sn a1 b1 4 k1 (by omega) (by omega)
  obtain ⟨r, hr, r1, r2⟩ : ∃ t : Int, L2.atI [PyData.int 0, .int 1, .int 6, .int 24] d2 = some (.int t) ∧ 0 ≤ t ∧ t ≤ 24 := by
    rcases at4 (.int 0) (.int 1) (.int 6) (.int 24) d2 u2 v2 with q | q | q | q
    · exact ⟨0, q, by omega, by omega⟩
    · exact ⟨1, q, by omega, by omega⟩
    · exact ⟨6, q, by omega, by omega⟩
    · exact ⟨24, q, by omega, by omega⟩
  have hrl : (rangeL r).length ≤ 24 := by simp [rangeL]; omega
  obtain ⟨xs, a', b', z1, z2, z3, hh⟩ := tk_comp n S j hj sn m m1 m2 (Wk.ok ⟨rangeL r, [], false⟩) (fun T => by simp) (rangeL r) [] a2 b2 k2 (by rw [lim_eq]; simp; omega)
  have hp := isort_perm' xs
  have hxl : xs.length ≤ 24 := by omega
  refine ⟨isort xs, a', b', z1, by rw [hp.length_eq]; exact hxl, List.all_eq_true.mpr fun x hx => ?_, isort_sorted' xs, ?_⟩
  · have := z3 x (hp.mem_iff.mp hx)
    simp [dayB]
    omega
  have hxl2 : xs.length ≤ lim := by rw [lim_eq]; omega
  have hxl3 : (isort xs).length ≤ lim := by rw [hp.length_eq]; exact hxl2
  have ei : evi (callS gi fns (n + 1)) gi (.range (.ix (.lst false [.int 0, .int 1, .int 6, .int 24]) (.call "_law_take" [.var 0, .int 4]))) [some (rf j), some (.int m), none] (B S j a1 b1) = .ok ⟨rangeL r, [], false⟩ (B S j a2 b2) := by
    rw [evi]
    have hb1 : -4611686018427387904 ≤ r := by omega
    have hb2 : r < 4611686018427387904 := by omega
    simp [runF, e_var, e_int, e_bl, e_non, e_str, e_gint, e_tup, e_lst, e_dct, e_op, e_neg, e_cm, e_ch, e_isN, e_isB, e_and, e_or, e_not, e_ite, e_ix, e_sl, e_rev, e_bi, e_isi, e_call, e_new, e_meth, e_fld, e_bm, e_fstr, e_frz, e_said, e_sset, e_tupR, e_never, x_asg, x_expr, x_ret, x_retN, x_ite, x_raise, x_tryN, x_pass, x_never, x_nil, x_cons, es_nil, es_cons, eo_none, eo_some, ec_none, ec_some, a_name, a_tup, a_sub, as_nil, as_cons, p_name, p_tup, ps_nil, ps_cons, isiD, isi0, cmD, cmI, biD, bi1, bi2, biL, ixD, opD, addD, mulD, int2, wipe, fin_pure1, itemsD, heldD, isNm, kdD, bmD, allD, anyD, allocL, lm4, e2, hr, bigD, hb1, hb2]
  have ec : ev (callS gi fns (n + 1)) gi (.comp false (.call "_law_take" [.var 0, .var 1]) [2] (.name 2) (.range (.ix (.lst false [.int 0, .int 1, .int 6, .int 24]) (.call "_law_take" [.var 0, .int 4]))) none) [some (rf j), some (.int m), none] (B S j a1 b1) = .ok (.list (xs.map .int)) (B S j a' b') := by
    rw [ev, ei]
    simp only [Out.bind_ok]
    have e3 : ([] : List Int).map PyData.int = [] := rfl
    rw [e3] at hh
    rw [if_neg (by simp), hh]
    simp [allocL, hxl2]
  have ft : fin .trunc (B S j a b) (.tuple ((isort xs).map .int)) (B S j a' b') = .ok (.tuple ((isort xs).map .int)) (B S j a' b') := by
    rw [fin_trunc (by rw [B_len, B_len]; exact Nat.le_refl _) (by simp) (by rw [B_len, B_take1]; exact sn.B), B_len, B_take1]
  rw [callS_fn (F := f__law_comings) (by kernel_rfl)]
  simp [runF, e_var, e_int, e_bl, e_non, e_str, e_gint, e_tup, e_lst, e_dct, e_op, e_neg, e_cm, e_ch, e_isN, e_isB, e_and, e_or, e_not, e_ite, e_ix, e_sl, e_rev, e_bi, e_isi, e_call, e_new, e_meth, e_fld, e_bm, e_fstr, e_frz, e_said, e_sset, e_tupR, e_never, x_asg, x_expr, x_ret, x_retN, x_ite, x_raise, x_tryN, x_pass, x_never, x_nil, x_cons, es_nil, es_cons, eo_none, eo_some, ec_none, ec_some, a_name, a_tup, a_sub, as_nil, as_cons, p_name, p_tup, ps_nil, ps_cons, isiD, isi0, cmD, cmI, biD, bi1, bi2, biL, ixD, opD, addD, mulD, int2, wipe, fin_pure1, itemsD, heldD, isNm, kdD, bmD, allD, anyD, allocL, lm3, f__law_comings, e1, hm, ec, sortedD, hxl3, ft]
/-! ### one card otherwise -/
theorem sIx_n (n i x : Nat) (h : i ≤ n) : HT.sIx n x (some (i : Int)) = i := by
  have : ¬ (i : Int) < 0 := by omega
  simp [HT.sIx, this]
  omega
theorem cut_lo (xs ys : List D) : cutD (xs ++ ys) none (some (xs.length : Int)) = xs := by
  unfold cutD
  have e1 : HT.sIx (xs ++ ys).length (xs ++ ys).length (some (xs.length : Int)) = xs.length := sIx_n _ _ _ (by simp)
  have e2 : HT.sIx (xs ++ ys).length 0 none = 0 := by simp [HT.sIx]
  rw [e1, e2]
  simp
theorem cut_hi (xs ys : List D) (y : D) : cutD (xs ++ y :: ys) (some ((xs.length : Int) + 1)) none = ys := by
  unfold cutD
  have e0 : ((xs.length : Int) + 1) = ((xs.length + 1 : Nat) : Int) := by simp
  have e1 : HT.sIx (xs ++ y :: ys).length 0 (some ((xs.length + 1 : Nat) : Int)) = xs.length + 1 := sIx_n _ _ _ (by simp)
  have e2 : HT.sIx (xs ++ y :: ys).length (xs ++ y :: ys).length none = xs.length + (ys.length + 1) := by simp [HT.sIx]
  rw [e0, e1, e2]
  have e3 : (xs ++ y :: ys).drop (xs.length + 1) = ys := by
    rw [← List.drop_drop, List.drop_left]
    rfl
  rw [e3]
  exact List.take_of_length_le (by omega)
theorem split_at {β : Type} (xs : List β) (i : Nat) (h : i < xs.length) : ∃ A y C, xs = A ++ y :: C ∧ A.length = i :=
  ⟨xs.take i, xs[i], xs.drop (i + 1), by rw [← List.drop_eq_getElem_cons h, List.take_append_drop], by rw [List.length_take]; omega⟩
theorem atI_mid {β : Type} (A C : List β) (y : β) : L2.atI (A ++ y :: C) (A.length : Int) = some y := by
  rw [atI_nat]
  simp
end K33
end

section
set_option Elab.async false
set_option linter.all false
set_option maxRecDepth 100000
set_option maxHeartbeats 1000000
namespace K33
open PySem PL TT
def dr0 : St := .asg (.name 6) (.comp false (.var 7) [7, 8] (.tup [.name 7, .name 8]) (.enum (.var 1)) (some (.and (.ch .le .le (.ix (.var 8) (.int 0)) (.var 3) (.ix (.var 8) (.int 1))) (.cm .gt (.ix (.var 4) (.var 7)) (.int 0)))))
def dr1 : St := .asg (.name 7) (.ix (.op .add (.var 6) (.lst false [.non])) (.call "_law_take" [.var 0, .op .add (.bi .len [.var 6]) (.int 1)]))
def dr2 : St := .ite (.isN true (.var 7)) [.asg (.sub (.var 4) (.var 7)) (.op .sub (.ix (.var 4) (.var 7)) (.int 1))] []
def dr3 : St := .expr (.bm (.var 5) .append [.var 7])
def dr : List St := [dr0, dr1, dr2, dr3]
def it0 : St := .ite (.isN true (.var 3)) [.ite (.or (.not (.call "is_from_to" [.var 3, .int 0, .op .sub (.bi .len [.var 0]) (.int 1)])) (.not (.call "is_valid" [.ix (.var 0) (.var 3), .var 4]))) [.ret (.bl false)] []] []
def it : List St := [it0]
theorem exs_app {G : Calls} {gi : Str → Option Int} : ∀ (l1 l2 : List St) (ρ : PL.Env) (S : Sto), exs G gi (l1 ++ l2) ρ S = (exs G gi l1 ρ S).seq fun ρ S => exs G gi l2 ρ S
  | [], l2, ρ, S => by rw [x_nil]; rfl
  | s :: r, l2, ρ, S => by
    rw [List.cons_append, x_cons, x_cons]
    cases ex G gi s ρ S with
    | next ρ' S' => exact exs_app r l2 ρ' S'
    | _ => rfl
theorem plainAll_of : ∀ xs : List D, (∀ x ∈ xs, x.plain = true) → PyData.plainAll xs = true
  | [], _ => by simp [PyData.plainAll]
  | x :: xs, h => by simp [PyData.plainAll, h x List.mem_cons_self, plainAll_of xs fun y hy => h y (List.mem_cons_of_mem _ hy)]
theorem depthAll_of (k : Nat) : ∀ xs : List D, (∀ x ∈ xs, x.depth ≤ k) → PyData.depthAll xs ≤ k
  | [], _ => by simp [PyData.depthAll]
  | x :: xs, h => by
    have := h x List.mem_cons_self
    have := depthAll_of k xs fun y hy => h y (List.mem_cons_of_mem _ hy)
    simp only [PyData.depthAll]
    omega
theorem eqOk_tup {xs : List D} (h : ∀ x ∈ xs, x.plain = true ∧ x.depth ≤ 39) : eqOk (.tuple xs) = true := by
  have a := plainAll_of xs fun x hx => (h x hx).1
  have b := depthAll_of 39 xs fun x hx => (h x hx).2
  simp [eqOk, PyData.plain, PyData.depth, depthMax, a]
  omega
theorem eqv_tup0 (xs : List D) : PyData.eqv (.tuple xs) (.tuple []) = decide (xs = []) := by
  cases xs <;> simp [PyData.eqv, PyData.eqvAll]
theorem eqD_tup0 (S : Sto) (xs : List D) (h : ∀ x ∈ xs, x.plain = true ∧ x.depth ≤ 39) : eqD S (.tuple xs) (.tuple []) = some (decide (xs = [])) := by
  have e : ∀ xs : List D, val S (.tuple xs) = .tuple xs := fun _ => rfl
  unfold eqD
  rw [e, e, eqOk_tup h, eqOk_tup (fun x hx => by simp at hx), eqv_tup0]
  rfl
theorem cD_fine (cs : List Card) : ∀ x ∈ cs.map cD, x.plain = true ∧ x.depth ≤ 39 := fun x hx => by
  obtain ⟨c, _, rfl⟩ := List.mem_map.mp hx
  simp [cD, PyData.plain, PyData.plainAll, PyData.depth, PyData.depthAll]
theorem int_fine (ds : List Int) : ∀ x ∈ ds.map PyData.int, x.plain = true ∧ x.depth ≤ 39 := fun x hx => by
  obtain ⟨c, _, rfl⟩ := List.mem_map.mp hx
  simp [PyData.plain, PyData.depth]
theorem turns_ok {cs : List Card} (h : cs.all cardB = true) : Turns cs := fun c hc => by
  have := of_card (List.all_eq_true.mp h c hc)
  unfold trn
  omega
theorem enumL_zip : ∀ (cs : List Card) (n : Nat), enumL n (cs.map cD) = (cs.zipIdx n).map fun p => .tuple [.int p.2, cD p.1]
  | [], _ => rfl
  | c :: cs, n => by simp [enumL, enumL_zip cs (n + 1)]
theorem mem_zipI {cs : List Card} {p : Card × Nat} (h : p ∈ cs.zipIdx) : cs[p.2]? = some p.1 := List.mem_zipIdx_iff_getElem?.mp h
/-! ### is_taking -/
theorem it_loop (n : Nat) (cs : List Card) (hc : cs.length ≤ 8) (a b : D) (S : Sto) (ok : Sto → Prop) (hok : ∀ T, ok T) : ∀ (ps : List (Option Nat × Int)) (x3 x4 x5 : Option D), (∀ d i, (some i, d) ∈ ps → ∃ c, cs[i]? = some c ∧ vld c d = true) →
    ∃ y3 y4, forL ok (putT (.tup [.name 3, .name 4])) (fun ρ S => exs (callS gi fns (n + 2)) gi it ρ S) (ps.map fun p => .tuple [oD p.1, .int p.2]) [some (.tuple (cs.map cD)), some a, some b, x3, x4, x5] S
      = .next [some (.tuple (cs.map cD)), some a, some b, y3, y4, x5] S
  | [], x3, x4, x5, _ => ⟨x3, x4, by simp [forL, hok]⟩
  | (o, d) :: ps, x3, x4, x5, h => by
    obtain ⟨y3, y4, ih⟩ := it_loop n cs hc a b S ok hok ps (some (oD o)) (some (.int d)) x5 fun d i m => h d i (List.mem_cons_of_mem _ m)
    refine ⟨y3, y4, ?_⟩
    rw [List.map_cons, ← ih]
    refine forL_next (ρ' := [some (.tuple (cs.map cD)), some a, some b, some (oD o), some (.int d), x5]) _ _ (hok _) (by simp [runF, e_var, e_int, e_bl, e_non, e_str, e_gint, e_tup, e_lst, e_dct, e_op, e_neg, e_cm, e_ch, e_isN, e_isB, e_and, e_or, e_not, e_ite, e_ix, e_sl, e_rev, e_bi, e_isi, e_call, e_new, e_meth, e_fld, e_bm, e_fstr, e_frz, e_said, e_sset, e_tupR, e_never, x_asg, x_expr, x_ret, x_retN, x_ite, x_raise, x_tryN, x_pass, x_never, x_nil, x_cons, es_nil, es_cons, eo_none, eo_some, ec_none, ec_some, a_name, a_tup, a_sub, as_nil, as_cons, p_name, p_tup, ps_nil, ps_cons, isiD, isi0, cmD, cmI, biD, bi1, bi2, biL, ixD, opD, addD, mulD, int2, wipe, fin_pure1, itemsD, heldD, isNm, kdD, bmD, allD, anyD, allocL]) ?_
    cases o with
    | none => simp [runF, e_var, e_int, e_bl, e_non, e_str, e_gint, e_tup, e_lst, e_dct, e_op, e_neg, e_cm, e_ch, e_isN, e_isB, e_and, e_or, e_not, e_ite, e_ix, e_sl, e_rev, e_bi, e_isi, e_call, e_new, e_meth, e_fld, e_bm, e_fstr, e_frz, e_said, e_sset, e_tupR, e_never, x_asg, x_expr, x_ret, x_retN, x_ite, x_raise, x_tryN, x_pass, x_never, x_nil, x_cons, es_nil, es_cons, eo_none, eo_some, ec_none, ec_some, a_name, a_tup, a_sub, as_nil, as_cons, p_name, p_tup, ps_nil, ps_cons, isiD, isi0, cmD, cmI, biD, bi1, bi2, biL, ixD, opD, addD, mulD, int2, wipe, fin_pure1, itemsD, heldD, isNm, kdD, bmD, allD, anyD, allocL, it, it0, oD]
    | some i =>
      obtain ⟨c, e, v⟩ := h d i List.mem_cons_self
      have hi : i < cs.length := (List.getElem?_eq_some_iff.mp e).1
      have h1 : (i : Int) ≤ (cs.length : Int) - 1 := by omega
      simp [runF, e_var, e_int, e_bl, e_non, e_str, e_gint, e_tup, e_lst, e_dct, e_op, e_neg, e_cm, e_ch, e_isN, e_isB, e_and, e_or, e_not, e_ite, e_ix, e_sl, e_rev, e_bi, e_isi, e_call, e_new, e_meth, e_fld, e_bm, e_fstr, e_frz, e_said, e_sset, e_tupR, e_never, x_asg, x_expr, x_ret, x_retN, x_ite, x_raise, x_tryN, x_pass, x_never, x_nil, x_cons, es_nil, es_cons, eo_none, eo_some, ec_none, ec_some, a_name, a_tup, a_sub, as_nil, as_cons, p_name, p_tup, ps_nil, ps_cons, isiD, isi0, cmD, cmI, biD, bi1, bi2, biL, ixD, opD, addD, mulD, int2, wipe, fin_pure1, itemsD, heldD, isNm, kdD, bmD, allD, anyD, allocL, it, it0, oD, m_is_from_to, h1, atI_nat, e, m_is_valid, v]
theorem eqv_oDi2 (o : Option Nat) (i : Nat) : eqvR (.int i) (oD o) = decide (o = some i) := eqv_oDi o i
theorem count_oD (ts : List (Option Nat)) (i : Nat) : (ts.map oD).countP (eqvR (.int i)) = ts.count (some i) := by
  rw [List.countP_map, List.count]
  refine List.countP_congr fun o _ => ?_
  simp [eqv_oDi2]
theorem count_oD0 (ts : List (Option Nat)) : (ts.map oD).countP (eqvR .none) = ts.count none := by
  rw [List.countP_map, List.count]
  refine List.countP_congr fun o _ => ?_
  simp [eqvR, eqv_oD]
theorem count_oD' (ts : List (Option Nat)) (i : Nat) : ts.countP (eqvR (.int i) ∘ oD) = ts.count (some i) := by rw [← List.countP_map, count_oD]
theorem count_oD0' (ts : List (Option Nat)) : ts.countP (eqvR .none ∘ oD) = ts.count none := by rw [← List.countP_map, count_oD0]
theorem find_oD {w : D} (hw : eqOk w = true) (ts : List (Option Nat)) : findOk w (ts.map oD) = true := by
  unfold findOk
  rw [hw, List.all_map]
  exact List.all_eq_true.mpr fun o _ => eqOk_oD o
theorem m_is_taking (n : Nat) (cs : List Card) (ds : List Int) (ts : List (Option Nat)) (h : okIn cs ds) (g : Tk cs (cs.map trn) ds ts) (S : Sto) :
    callS gi fns (n + 7) "is_taking" [.tuple (cs.map cD), .tuple (ds.map .int), .tuple (ts.map oD)] S = .ok (.bool true) S := by
  have hl := g.len
  have hc := h.1
  have hlim : cs.length ≤ lim := by rw [lim_eq]; omega
  have hz : (cs.zipIdx).length ≤ lim := by rw [List.length_zipIdx]; exact hlim
  obtain ⟨y3, y4, hh⟩ := it_loop (n + 4) cs hc (.tuple (ds.map .int)) (.tuple (ts.map oD)) S (Wk.ok ⟨zipL (ts.map oD) (ds.map .int), [], true⟩) (fun T => by simp) (ts.zip ds) none none none g.valid
  have zl : zipL (ts.map oD) (ds.map .int) = (ts.zip ds).map fun p => .tuple [oD p.1, .int p.2] := by
    clear hh
    clear g h
    induction ts generalizing ds with
    | nil => simp [zipL]
    | cons t ts ih =>
      cases ds with
      | nil => simp [zipL]
      | cons d ds => simp [zipL, ih ds (by simpa using hl)]
  rw [callS_fn (F := f_is_taking) (by kernel_rfl)]
  unfold it it0 at hh
  have hl2 : (ts.length : Int) = ds.length := by omega
  simp [runF, e_var, e_int, e_bl, e_non, e_str, e_gint, e_tup, e_lst, e_dct, e_op, e_neg, e_cm, e_ch, e_isN, e_isB, e_and, e_or, e_not, e_ite, e_ix, e_sl, e_rev, e_bi, e_isi, e_call, e_new, e_meth, e_fld, e_bm, e_fstr, e_frz, e_said, e_sset, e_tupR, e_never, x_asg, x_expr, x_ret, x_retN, x_ite, x_raise, x_tryN, x_pass, x_never, x_nil, x_cons, es_nil, es_cons, eo_none, eo_some, ec_none, ec_some, a_name, a_tup, a_sub, as_nil, as_cons, p_name, p_tup, ps_nil, ps_cons, isiD, isi0, cmD, cmI, biD, bi1, bi2, biL, ixD, opD, addD, mulD, int2, wipe, fin_pure1, itemsD, heldD, isNm, kdD, bmD, allD, anyD, allocL, f_is_taking, m_need_both _ cs ds h, eqD_int, hl2]
  rw [x_for (w := ⟨zipL (ts.map oD) (ds.map .int), [], true⟩) (S' := S) (ei_zipT (ds := ts.map oD) (es := ds.map .int) (by simp [runF, e_var, e_int, e_bl, e_non, e_str, e_gint, e_tup, e_lst, e_dct, e_op, e_neg, e_cm, e_ch, e_isN, e_isB, e_and, e_or, e_not, e_ite, e_ix, e_sl, e_rev, e_bi, e_isi, e_call, e_new, e_meth, e_fld, e_bm, e_fstr, e_frz, e_said, e_sset, e_tupR, e_never, x_asg, x_expr, x_ret, x_retN, x_ite, x_raise, x_tryN, x_pass, x_never, x_nil, x_cons, es_nil, es_cons, eo_none, eo_some, ec_none, ec_some, a_name, a_tup, a_sub, as_nil, as_cons, p_name, p_tup, ps_nil, ps_cons, isiD, isi0, cmD, cmI, biD, bi1, bi2, biL, ixD, opD, addD, mulD, int2, wipe, fin_pure1, itemsD, heldD, isNm, kdD, bmD, allD, anyD, allocL]) (by simp [runF, e_var, e_int, e_bl, e_non, e_str, e_gint, e_tup, e_lst, e_dct, e_op, e_neg, e_cm, e_ch, e_isN, e_isB, e_and, e_or, e_not, e_ite, e_ix, e_sl, e_rev, e_bi, e_isi, e_call, e_new, e_meth, e_fld, e_bm, e_fstr, e_frz, e_said, e_sset, e_tupR, e_never, x_asg, x_expr, x_ret, x_retN, x_ite, x_raise, x_tryN, x_pass, x_never, x_nil, x_cons, es_nil, es_cons, eo_none, eo_some, ec_none, ec_some, a_name, a_tup, a_sub, as_nil, as_cons, p_name, p_tup, ps_nil, ps_cons, isiD, isi0, cmD, cmI, biD, bi1, bi2, biL, ixD, opD, addD, mulD, int2, wipe, fin_pure1, itemsD, heldD, isNm, kdD, bmD, allD, anyD, allocL])) rfl]
  simp only
  rw [zl] at hh ⊢
  rw [hh]
  simp [runF, e_var, e_int, e_bl, e_non, e_str, e_gint, e_tup, e_lst, e_dct, e_op, e_neg, e_cm, e_ch, e_isN, e_isB, e_and, e_or, e_not, e_ite, e_ix, e_sl, e_rev, e_bi, e_isi, e_call, e_new, e_meth, e_fld, e_bm, e_fstr, e_frz, e_said, e_sset, e_tupR, e_never, x_asg, x_expr, x_ret, x_retN, x_ite, x_raise, x_tryN, x_pass, x_never, x_nil, x_cons, es_nil, es_cons, eo_none, eo_some, ec_none, ec_some, a_name, a_tup, a_sub, as_nil, as_cons, p_name, p_tup, ps_nil, ps_cons, isiD, isi0, cmD, cmI, biD, bi1, bi2, biL, ixD, opD, addD, mulD, int2, wipe, fin_pure1, itemsD, heldD, isNm, kdD, bmD, allD, anyD, allocL]
  rw [ev_compF cs.zipIdx (fun p => .tuple [.int p.2, cD p.1]) (fun _ => true) (fun p => .bool (decide (ts.count (some p.2) ≤ trn p.1))) (fun p => [some (.tuple (cs.map cD)), some (.tuple (ds.map .int)), some (.tuple (ts.map oD)), some (.int p.2), y4, some (cD p.1)]) (ei_enumT (ds := cs.map cD) (by simp [runF, e_var, e_int, e_bl, e_non, e_str, e_gint, e_tup, e_lst, e_dct, e_op, e_neg, e_cm, e_ch, e_isN, e_isB, e_and, e_or, e_not, e_ite, e_ix, e_sl, e_rev, e_bi, e_isi, e_call, e_new, e_meth, e_fld, e_bm, e_fstr, e_frz, e_said, e_sset, e_tupR, e_never, x_asg, x_expr, x_ret, x_retN, x_ite, x_raise, x_tryN, x_pass, x_never, x_nil, x_cons, es_nil, es_cons, eo_none, eo_some, ec_none, ec_some, a_name, a_tup, a_sub, as_nil, as_cons, p_name, p_tup, ps_nil, ps_cons, isiD, isi0, cmD, cmI, biD, bi1, bi2, biL, ixD, opD, addD, mulD, int2, wipe, fin_pure1, itemsD, heldD, isNm, kdD, bmD, allD, anyD, allocL])) (enumL_zip cs 0) (by simp) rfl (fun p hp => ⟨by simp [runF, e_var, e_int, e_bl, e_non, e_str, e_gint, e_tup, e_lst, e_dct, e_op, e_neg, e_cm, e_ch, e_isN, e_isB, e_and, e_or, e_not, e_ite, e_ix, e_sl, e_rev, e_bi, e_isi, e_call, e_new, e_meth, e_fld, e_bm, e_fstr, e_frz, e_said, e_sset, e_tupR, e_never, x_asg, x_expr, x_ret, x_retN, x_ite, x_raise, x_tryN, x_pass, x_never, x_nil, x_cons, es_nil, es_cons, eo_none, eo_some, ec_none, ec_some, a_name, a_tup, a_sub, as_nil, as_cons, p_name, p_tup, ps_nil, ps_cons, isiD, isi0, cmD, cmI, biD, bi1, bi2, biL, ixD, opD, addD, mulD, int2, wipe, fin_pure1, itemsD, heldD, isNm, kdD, bmD, allD, anyD, allocL], by simp [runF, e_var, e_int, e_bl, e_non, e_str, e_gint, e_tup, e_lst, e_dct, e_op, e_neg, e_cm, e_ch, e_isN, e_isB, e_and, e_or, e_not, e_ite, e_ix, e_sl, e_rev, e_bi, e_isi, e_call, e_new, e_meth, e_fld, e_bm, e_fstr, e_frz, e_said, e_sset, e_tupR, e_never, x_asg, x_expr, x_ret, x_retN, x_ite, x_raise, x_tryN, x_pass, x_never, x_nil, x_cons, es_nil, es_cons, eo_none, eo_some, ec_none, ec_some, a_name, a_tup, a_sub, as_nil, as_cons, p_name, p_tup, ps_nil, ps_cons, isiD, isi0, cmD, cmI, biD, bi1, bi2, biL, ixD, opD, addD, mulD, int2, wipe, fin_pure1, itemsD, heldD, isNm, kdD, bmD, allD, anyD, allocL], fun _ => by simp [runF, e_var, e_int, e_bl, e_non, e_str, e_gint, e_tup, e_lst, e_dct, e_op, e_neg, e_cm, e_ch, e_isN, e_isB, e_and, e_or, e_not, e_ite, e_ix, e_sl, e_rev, e_bi, e_isi, e_call, e_new, e_meth, e_fld, e_bm, e_fstr, e_frz, e_said, e_sset, e_tupR, e_never, x_asg, x_expr, x_ret, x_retN, x_ite, x_raise, x_tryN, x_pass, x_never, x_nil, x_cons, es_nil, es_cons, eo_none, eo_some, ec_none, ec_some, a_name, a_tup, a_sub, as_nil, as_cons, p_name, p_tup, ps_nil, ps_cons, isiD, isi0, cmD, cmI, biD, bi1, bi2, biL, ixD, opD, addD, mulD, int2, wipe, fin_pure1, itemsD, heldD, isNm, kdD, bmD, allD, anyD, allocL, find_oD (eqOk_int _), count_oD, count_oD', cD, trn]; exact decide_eq_decide.mpr Iff.rfl⟩) hz]
  simp [runF, e_var, e_int, e_bl, e_non, e_str, e_gint, e_tup, e_lst, e_dct, e_op, e_neg, e_cm, e_ch, e_isN, e_isB, e_and, e_or, e_not, e_ite, e_ix, e_sl, e_rev, e_bi, e_isi, e_call, e_new, e_meth, e_fld, e_bm, e_fstr, e_frz, e_said, e_sset, e_tupR, e_never, x_asg, x_expr, x_ret, x_retN, x_ite, x_raise, x_tryN, x_pass, x_never, x_nil, x_cons, es_nil, es_cons, eo_none, eo_some, ec_none, ec_some, a_name, a_tup, a_sub, as_nil, as_cons, p_name, p_tup, ps_nil, ps_cons, isiD, isi0, cmD, cmI, biD, bi1, bi2, biL, ixD, opD, addD, mulD, int2, wipe, fin_pure1, itemsD, heldD, isNm, kdD, bmD, allD, anyD, allocL]
  intro f l t i hm
  have e := mem_zipI hm
  have := g.count i (trn (f, l, t)) (turns_left (turns_ok h.2.1)) (by rw [List.getElem?_map, e]; rfl)
  exact this
/-! ### first_short -/
theorem eqOk_lst {xs : List D} (h : ∀ x ∈ xs, x.plain = true ∧ x.depth ≤ 39) : eqOk (.list xs) = true := by
  have a := plainAll_of xs fun x hx => (h x hx).1
  have b := depthAll_of 39 xs fun x hx => (h x hx).2
  simp [eqOk, PyData.plain, PyData.depth, depthMax, a]
  omega
theorem eqD_lst0 (S : Sto) (xs : List D) (h : ∀ x ∈ xs, x.plain = true ∧ x.depth ≤ 39) : eqD S (.list xs) (.list []) = some (decide (xs = [])) := by
  have e : ∀ xs : List D, val S (.list xs) = .list xs := fun _ => rfl
  unfold eqD
  rw [e, e, eqOk_lst h, eqOk_lst (fun x hx => by simp at hx)]
  cases xs <;> simp [PyData.eqv, PyData.eqvAll]
/-! ### room -/
theorem rep_int (k : Nat) (d : Int) : (List.replicate k [PyData.int d]).flatten = (List.replicate k d).map .int := by
  induction k with
  | zero => rfl
  | succ k ih => simp [List.replicate_succ, ih]
def rmC : E := .cm .eq (.call "lost_in" [.var 0, .bi .tuple [.bi (.sorted false) [.op .add (.var 1) (.op .mul (.tup [.var 2]) (.op .add (.var 4) (.int 1)))]]]) (.var 3)
theorem rm_cond (n : Nat) (cs : List Card) (ds : List Int) (day : Int) (h : okIn cs ds) (m : Int) (r : Nat) (hr : r ≤ 200) (S : Sto) :
    ev (callS gi fns (n + 4)) gi rmC [some (.tuple (cs.map cD)), some (.tuple (ds.map .int)), some (.int day), some (.int m), some (.int r)] S = .ok (.bool (decide ((lostF cs (isort (ds ++ List.replicate (r + 1) day)) : Int) = m))) S := by
  have h1 := h.1
  have h2 := h.2.2.1
  have hp := isort_perm' (ds ++ List.replicate (r + 1) day)
  have hl : (isort (ds ++ List.replicate (r + 1) day)).length ≤ 1000 := by
    rw [hp.length_eq, List.length_append, List.length_replicate]
    omega
  have hl2 : (isort (ds ++ List.replicate (r + 1) day)).length ≤ lim := by rw [lim_eq]; omega
  have e1 : mulD (.tuple [.int day]) (.int ((r : Int) + 1)) = some (.tuple ((List.replicate (r + 1) day).map .int)) := by
    have e : ((r : Int) + 1).toNat = r + 1 := by omega
    have c : (1 : Int) ≤ (r : Int) + 1 ∧ (r : Int) + 1 ≤ 1000 := by omega
    simp only [mulD, e, rep_int]
    rw [if_pos ⟨c.1, c.2, by simp, by simp⟩]
  have e2 : ∀ S : Sto, sortedD S (.tuple (ds.map .int ++ (List.replicate (r + 1) day).map .int)) = some ((isort (ds ++ List.replicate (r + 1) day)).map .int) := fun S => by
    rw [← List.map_append]
    unfold sortedD
    rw [seqD_tuple, Option.bind_some, intsOf_ints]
    rfl
  have e3 : ds.length + (r + 1) ≤ lim := by rw [lim_eq]; omega
  have e4 := m_lost_in n cs (isort (ds ++ List.replicate (r + 1) day)) (by omega) hl S
  have i1 : ev (callS gi fns (n + 4)) gi (.op .add (.var 1) (.op .mul (.tup [.var 2]) (.op .add (.var 4) (.int 1)))) [some (.tuple (cs.map cD)), some (.tuple (ds.map .int)), some (.int day), some (.int m), some (.int r)] S = .ok (.tuple (ds.map .int ++ (List.replicate (r + 1) day).map .int)) S := by
    simp only [e_op, e_tup, e_var, e_int, es_cons, es_nil, Out.bind_ok, List.getElem?_cons_zero, List.getElem?_cons_succ, List.length_cons, List.length_nil, Nat.zero_add, lm1, if_true, opD, addD, oret_some, e1, List.length_map, List.length_replicate, e3]
  unfold rmC
  simp only [e_cm, e_call, e_bi, e_var, List.getElem?_cons_zero, List.getElem?_cons_succ, es_cons, es_nil, i1, Out.bind_ok, biD, biL, bi1, e2, oallo_some]
  unfold allocL
  simp only [List.length_map, hl2, if_true, Out.bind_ok, tupD_list, oret_some, e_var, List.getElem?_cons_zero, List.getElem?_cons_succ, cmD, Bool.false_eq_true, if_false]
  rw [e4, Out.bind_ok, eqD_int]
  rfl
theorem lost_len (cs : List Card) (ds : List Int) : lostF cs ds ≤ ds.length := by
  have := (gr_tk cs ds).tk.len
  unfold lostF
  exact Nat.le_trans List.count_le_length (by omega)
def Zs : List Int := (List.range 60).map fun k : Nat => (k : Int)
theorem mem_Zs {d : Int} (h : dayB d = true) : d ∈ Zs := by
  unfold dayB at h
  simp only [Bool.and_eq_true, decide_eq_true_eq] at h
  exact List.mem_map.mpr ⟨d.toNat, by rw [List.mem_range]; omega, by omega⟩
theorem rm_loop (n : Nat) (cs : List Card) (ds : List Int) (day : Int) (h : okIn cs ds) (hd : dayB day = true) (S : Sto) : ∀ (k f r : Nat), k ≤ f → 85 ≤ r + k → r ≤ 80 →
    ∃ r' : Nat, r ≤ r' ∧ whileL (fun ρ S => ev (callS gi fns (n + 4)) gi rmC ρ S) (fun ρ S => exs (callS gi fns (n + 4)) gi [.asg (.name 4) (.op .add (.var 4) (.int 1))] ρ S) f [some (.tuple (cs.map cD)), some (.tuple (ds.map .int)), some (.int day), some (.int (lostF cs ds)), some (.int r)] S
      = .next [some (.tuple (cs.map cD)), some (.tuple (ds.map .int)), some (.int day), some (.int (lostF cs ds)), some (.int r')] S ∧ (r < r' → lostF cs (isort (ds ++ List.replicate r' day)) = lostF cs ds) ∧ lostF cs (isort (ds ++ List.replicate (r' + 1) day)) ≠ lostF cs ds
  | 0, f, r, _, h1, h2 => by omega
  | k + 1, 0, r, h0, _, _ => by omega
  | k + 1, f + 1, r, h0, h1, h2 => by
    have c := rm_cond n cs ds day h (lostF cs ds) r (by omega) S
    unfold whileL
    rw [c]
    by_cases q : lostF cs (isort (ds ++ List.replicate (r + 1) day)) = lostF cs ds
    · have hp := isort_perm' (ds ++ List.replicate (r + 1) day)
      have hm : ((isort (ds ++ List.replicate (r + 1) day)).length : Int) - 80 ≤ lostF cs (isort (ds ++ List.replicate (r + 1) day)) := lost_many (Y := Zs) (fun c hc => by
        have := of_card (List.all_eq_true.mp h.2.1 c hc)
        unfold trn
        omega) h.1 fun d hd' => by
        rcases List.mem_append.mp (hp.mem_iff.mp hd') with m | m
        · exact mem_Zs (List.all_eq_true.mp h.2.2.2.1 d m)
        · rw [(List.mem_replicate.mp m).2]; exact mem_Zs hd
      rw [hp.length_eq, List.length_append, List.length_replicate] at hm
      have hn := lost_len cs ds
      obtain ⟨r', g1, g2, g3, g4⟩ := rm_loop n cs ds day h hd S k f (r + 1) (by omega) (by omega) (by omega)
      refine ⟨r', by omega, ?_, ?_, g4⟩
      · rw [← g2, q]
        simp [runF, e_var, e_int, e_bl, e_non, e_str, e_gint, e_tup, e_lst, e_dct, e_op, e_neg, e_cm, e_ch, e_isN, e_isB, e_and, e_or, e_not, e_ite, e_ix, e_sl, e_rev, e_bi, e_isi, e_call, e_new, e_meth, e_fld, e_bm, e_fstr, e_frz, e_said, e_sset, e_tupR, e_never, x_asg, x_expr, x_ret, x_retN, x_ite, x_raise, x_tryN, x_pass, x_never, x_nil, x_cons, es_nil, es_cons, eo_none, eo_some, ec_none, ec_some, a_name, a_tup, a_sub, as_nil, as_cons, p_name, p_tup, ps_nil, ps_cons, isiD, isi0, cmD, cmI, biD, bi1, bi2, biL, ixD, opD, addD, mulD, int2, wipe, fin_pure1, itemsD, heldD, isNm, kdD, bmD, allD, anyD, allocL]
      · intro _
        by_cases z : r + 1 < r'
        · exact g3 z
        · have : r' = r + 1 := by omega
          rw [this]; exact q
    · refine ⟨r, Nat.le_refl _, ?_, (fun z => by omega), q⟩
      have q2 : ¬ ((lostF cs (isort (ds ++ List.replicate (r + 1) day)) : Int) = lostF cs ds) := by omega
      simp [q2]
theorem m_room_in (n : Nat) (cs : List Card) (ds : List Int) (day : Int) (h : okIn cs ds) (hd : dayB day = true) (S : Sto) :
    ∃ r : Nat, callS gi fns (n + 5) "room_in" [.tuple (cs.map cD), .tuple (ds.map .int), .int day] S = .ok (.int r) S ∧ (0 < r → lostF cs (isort (ds ++ List.replicate r day)) = lostF cs ds) ∧ lostF cs (isort (ds ++ List.replicate (r + 1) day)) ≠ lostF cs ds := by
  obtain ⟨r, _, e, z1, z2⟩ := rm_loop n cs ds day h hd S 90 wfuel 0 (by decide) (by omega) (by omega)
  refine ⟨r, ?_, z1, z2⟩
  have h1 := h.1
  have h2 := h.2.2.1
  unfold rmC at e
  have e0 : ((0 : Nat) : Int) = 0 := rfl
  rw [e0] at e
  rw [callS_fn (F := f_room_in) (by kernel_rfl)]
  simp [runF, e_var, e_int, e_bl, e_non, e_str, e_gint, e_tup, e_lst, e_dct, e_op, e_neg, e_cm, e_ch, e_isN, e_isB, e_and, e_or, e_not, e_ite, e_ix, e_sl, e_rev, e_bi, e_isi, e_call, e_new, e_meth, e_fld, e_bm, e_fstr, e_frz, e_said, e_sset, e_tupR, e_never, x_asg, x_expr, x_ret, x_retN, x_ite, x_raise, x_tryN, x_pass, x_never, x_nil, x_cons, es_nil, es_cons, eo_none, eo_some, ec_none, ec_some, a_name, a_tup, a_sub, as_nil, as_cons, p_name, p_tup, ps_nil, ps_cons, isiD, isi0, cmD, cmI, biD, bi1, bi2, biL, ixD, opD, addD, mulD, int2, wipe, fin_pure1, itemsD, heldD, isNm, kdD, bmD, allD, anyD, allocL, f_room_in, m_lost_in _ cs ds (by omega) (by omega), lm2]
  rw [x_while, e]
  simp [runF, e_var, e_int, e_bl, e_non, e_str, e_gint, e_tup, e_lst, e_dct, e_op, e_neg, e_cm, e_ch, e_isN, e_isB, e_and, e_or, e_not, e_ite, e_ix, e_sl, e_rev, e_bi, e_isi, e_call, e_new, e_meth, e_fld, e_bm, e_fstr, e_frz, e_said, e_sset, e_tupR, e_never, x_asg, x_expr, x_ret, x_retN, x_ite, x_raise, x_tryN, x_pass, x_never, x_nil, x_cons, es_nil, es_cons, eo_none, eo_some, ec_none, ec_some, a_name, a_tup, a_sub, as_nil, as_cons, p_name, p_tup, ps_nil, ps_cons, isiD, isi0, cmD, cmI, biD, bi1, bi2, biL, ixD, opD, addD, mulD, int2, wipe, fin_pure1, itemsD, heldD, isNm, kdD, bmD, allD, anyD, allocL]
end K33
end

section
set_option Elab.async false
set_option linter.all false
set_option maxRecDepth 100000
set_option maxHeartbeats 1000000
namespace K33
open PySem PL TT
theorem a_fld {G : Calls} {gi : Str → Option Int} {o : E} {c f : Str} {d : D} {ρ : PL.Env} {S : Sto} : asg G gi (.fld o c f) d ρ S = (ev G gi o ρ S).st fun x S => (match setF S x c f d with
    | some S => .next ρ S
    | none => .bad) := by first | (rw [asg]; done) | (rw [asg]; rfl)
/-! ### a purse in the store -/
def pD (x : List Card × List Int) : D := .tuple [.tuple (x.1.map cD), .tuple (x.2.map .int)]
def puF (p : Nat) (cs : List Card) (ds : List Int) : List (Str × D) := [(("own" : Str), .tuple (cs.map cD)), (("gone_to" : Str), .tuple (ds.map .int)), (("past" : Str), rf (p + 1))]
def pu (p : Nat) (cs : List Card) (ds : List Int) : O := .ins "Purse" (puF p cs ds)
def pa (past : List (List Card × List Int)) : O := .lst (past.map pD)
structure HasP (T : Sto) (p : Nat) (cs : List Card) (ds : List Int) (past : List (List Card × List Int)) : Prop where
  a : T[p]? = some (pu p cs ds)
  b : T[p + 1]? = some (pa past)
def upP (T : Sto) (p : Nat) (cs : List Card) (ds : List Int) (past : List (List Card × List Int)) : Sto := (T.set (p + 1) (pa past)).set p (pu p cs ds)
section
variable {T S0 : Sto} {p k : Nat} {cs cs' : List Card} {ds ds' : List Int} {past past' : List (List Card × List Int)}
theorem HasP.lt (h : HasP T p cs ds past) : p + 1 < T.length := (List.getElem?_eq_some_iff.mp h.b).1
theorem upP_len : (upP T p cs ds past).length = T.length := by simp [upP]
theorem upP_ne (h1 : k ≠ p) (h2 : k ≠ p + 1) : (upP T p cs ds past)[k]? = T[k]? := by
  unfold upP
  rw [List.getElem?_set_ne (Ne.symm h1), List.getElem?_set_ne (Ne.symm h2)]
theorem HasP.mk' (h : p + 1 < T.length) : HasP (upP T p cs ds past) p cs ds past := by
  refine ⟨?_, ?_⟩
  · unfold upP
    rw [List.getElem?_set_self (by simp; omega)]
  · unfold upP
    rw [List.getElem?_set_ne (by omega), List.getElem?_set_self h]
theorem HasP.up (h : HasP T p cs ds past) : HasP (upP T p cs' ds' past') p cs' ds' past' := HasP.mk' h.lt
theorem HasP.self (h : HasP T p cs ds past) : upP T p cs ds past = T := by
  have h1 := List.getElem?_eq_some_iff.mp h.a
  have h2 := List.getElem?_eq_some_iff.mp h.b
  unfold upP
  obtain ⟨q1, e1⟩ := h1
  obtain ⟨q2, e2⟩ := h2
  rw [← e2, List.set_getElem_self, ← e1, List.set_getElem_self]
theorem upP_up : upP (upP T p cs ds past) p cs' ds' past' = upP T p cs' ds' past' := by
  unfold upP
  rw [List.set_comm (i := p) (j := p + 1) _ _ (by omega), List.set_set, List.set_set]
theorem refO_pu (n : Nat) (h : p + 1 < n) : refO n (pu p cs ds) = true := by
  unfold pu puF
  simp only [refO, List.all_cons, List.all_nil, refB_tuple, refBs_cD, refBs_ints, Bool.and_true, Bool.true_and]
  unfold rf refB
  exact decide_eq_true h
theorem refB_pD (n : Nat) (x : List Card × List Int) : refB n (pD x) = true := by
  simp [pD, refBs_cD]
theorem refO_pa (n : Nat) : refO n (pa past) = true := refBs_map (refB_pD n) past
theorem SN.set {o : O} (h : SN T) (ho : ∀ n, T.length ≤ n → refO n o = true) : SN (T.set k o) := fun n hn => by
  rw [List.length_set] at hn
  refine List.all_eq_true.mpr fun x hx => ?_
  rcases List.mem_or_eq_of_mem_set hx with q | q
  · exact List.all_eq_true.mp (h n hn) x q
  · subst q; exact ho n hn
theorem SN.up (h : SN T) (hl : p + 1 < T.length) : SN (upP T p cs ds past) := by
  unfold upP
  exact SN.set (SN.set h fun n _ => refO_pa _) fun n hn => refO_pu _ (by rw [List.length_set] at hn; omega)
theorem fin_SN {T' : Sto} {d : D} (hl : T'.length = T.length) (sn : SN T') (hd : refB T.length d = true) : fin .trunc T d T' = .ok d T' := by
  have e : T'.take T.length = T' := by rw [← hl, List.take_length]
  rw [fin_trunc (by omega) hd (by rw [e]; exact sn _ (by omega)), e]
theorem HasP.ins (h : HasP T p cs ds past) : insD T p = some (("Purse" : Str), puF p cs ds) := by
  unfold insD
  rw [h.a]
  rfl
theorem HasP.own (h : HasP T p cs ds past) : fldD T (rf p) "Purse" "own" = some (.tuple (cs.map cD)) := by
  unfold fldD
  rw [asRef_rf, Option.bind_some, h.ins]
  rfl
theorem HasP.gone (h : HasP T p cs ds past) : fldD T (rf p) "Purse" "gone_to" = some (.tuple (ds.map .int)) := by
  unfold fldD
  rw [asRef_rf, Option.bind_some, h.ins]
  rfl
theorem HasP.past_ (h : HasP T p cs ds past) : fldD T (rf p) "Purse" "past" = some (rf (p + 1)) := by
  unfold fldD
  rw [asRef_rf, Option.bind_some, h.ins]
  rfl
theorem HasP.obj (h : HasP T p cs ds past) : objL T (p + 1) = some (past.map pD) := objL_of h.b
theorem setF_own (h : T[p]? = some (pu p cs ds)) (cs' : List Card) : setF T (rf p) "Purse" "own" (.tuple (cs'.map cD)) = some (T.set p (pu p cs' ds)) := by
  have e : insD T p = some (("Purse" : Str), puF p cs ds) := by unfold insD; rw [h]; rfl
  unfold setF
  rw [asRef_rf, Option.bind_some, e]
  rfl
theorem setF_gone (h : T[p]? = some (pu p cs ds)) (ds' : List Int) : setF T (rf p) "Purse" "gone_to" (.tuple (ds'.map .int)) = some (T.set p (pu p cs ds')) := by
  have e : insD T p = some (("Purse" : Str), puF p cs ds) := by unfold insD; rw [h]; rfl
  unfold setF
  rw [asRef_rf, Option.bind_some, e]
  rfl
theorem ev_meth {G : Calls} {gi : Str → Option Int} {o : E} {m nm : Str} {es : List E} {ρ : PL.Env} (h : HasP T p cs ds past) (hx : ev G gi o ρ S0 = .ok (rf p) T) (lk : (puF p cs ds).lookup m = none) (hn : ("Purse" ++ "." ++ m : Str) = nm) :
    ev G gi (.meth o "Purse" m es) ρ S0 = (evs G gi es ρ T).bind fun ws S => G nm (rf p :: ws) S := by
  rw [e_meth, hx, Out.bind_ok, asRef_rf, Option.bind_some, h.ins]
  simp only [lk, and_self, if_true, hn]
end
theorem ev_turn {T S0 : Sto} {p : Nat} {cs : List Card} {ds : List Int} {past : List (List Card × List Int)} {G : Calls} {gi : Str → Option Int} {o : E} {es : List E} {ρ : PL.Env} (h : HasP T p cs ds past) (hx : ev G gi o ρ S0 = .ok (rf p) T) :
    ev G gi (.meth o "Purse" "turn" es) ρ S0 = (evs G gi es ρ T).bind fun ws S => G "Purse.turn" (rf p :: ws) S := ev_meth h hx rfl (by kernel_rfl)
theorem ev_buy {T S0 : Sto} {p : Nat} {cs : List Card} {ds : List Int} {past : List (List Card × List Int)} {G : Calls} {gi : Str → Option Int} {o : E} {es : List E} {ρ : PL.Env} (h : HasP T p cs ds past) (hx : ev G gi o ρ S0 = .ok (rf p) T) :
    ev G gi (.meth o "Purse" "buy" es) ρ S0 = (evs G gi es ρ T).bind fun ws S => G "Purse.buy" (rf p :: ws) S := ev_meth h hx rfl (by kernel_rfl)
theorem ev_come {T S0 : Sto} {p : Nat} {cs : List Card} {ds : List Int} {past : List (List Card × List Int)} {G : Calls} {gi : Str → Option Int} {o : E} {es : List E} {ρ : PL.Env} (h : HasP T p cs ds past) (hx : ev G gi o ρ S0 = .ok (rf p) T) :
    ev G gi (.meth o "Purse" "come" es) ρ S0 = (evs G gi es ρ T).bind fun ws S => G "Purse.come" (rf p :: ws) S := ev_meth h hx rfl (by kernel_rfl)
theorem ev_miss {T S0 : Sto} {p : Nat} {cs : List Card} {ds : List Int} {past : List (List Card × List Int)} {G : Calls} {gi : Str → Option Int} {o : E} {es : List E} {ρ : PL.Env} (h : HasP T p cs ds past) (hx : ev G gi o ρ S0 = .ok (rf p) T) :
    ev G gi (.meth o "Purse" "miss" es) ρ S0 = (evs G gi es ρ T).bind fun ws S => G "Purse.miss" (rf p :: ws) S := ev_meth h hx rfl (by kernel_rfl)
theorem ev_undo {T S0 : Sto} {p : Nat} {cs : List Card} {ds : List Int} {past : List (List Card × List Int)} {G : Calls} {gi : Str → Option Int} {o : E} {es : List E} {ρ : PL.Env} (h : HasP T p cs ds past) (hx : ev G gi o ρ S0 = .ok (rf p) T) :
    ev G gi (.meth o "Purse" "undo" es) ρ S0 = (evs G gi es ρ T).bind fun ws S => G "Purse.undo" (rf p :: ws) S := ev_meth h hx rfl (by kernel_rfl)
theorem ev_days {T S0 : Sto} {p : Nat} {cs : List Card} {ds : List Int} {past : List (List Card × List Int)} {G : Calls} {gi : Str → Option Int} {o : E} {es : List E} {ρ : PL.Env} (h : HasP T p cs ds past) (hx : ev G gi o ρ S0 = .ok (rf p) T) :
    ev G gi (.meth o "Purse" "days" es) ρ S0 = (evs G gi es ρ T).bind fun ws S => G "Purse.days" (rf p :: ws) S := ev_meth h hx rfl (by kernel_rfl)
theorem ev_taken {T S0 : Sto} {p : Nat} {cs : List Card} {ds : List Int} {past : List (List Card × List Int)} {G : Calls} {gi : Str → Option Int} {o : E} {es : List E} {ρ : PL.Env} (h : HasP T p cs ds past) (hx : ev G gi o ρ S0 = .ok (rf p) T) :
    ev G gi (.meth o "Purse" "taken" es) ρ S0 = (evs G gi es ρ T).bind fun ws S => G "Purse.taken" (rf p :: ws) S := ev_meth h hx rfl (by kernel_rfl)
theorem ev_lost {T S0 : Sto} {p : Nat} {cs : List Card} {ds : List Int} {past : List (List Card × List Int)} {G : Calls} {gi : Str → Option Int} {o : E} {es : List E} {ρ : PL.Env} (h : HasP T p cs ds past) (hx : ev G gi o ρ S0 = .ok (rf p) T) :
    ev G gi (.meth o "Purse" "lost" es) ρ S0 = (evs G gi es ρ T).bind fun ws S => G "Purse.lost" (rf p :: ws) S := ev_meth h hx rfl (by kernel_rfl)
theorem ev_paper {T S0 : Sto} {p : Nat} {cs : List Card} {ds : List Int} {past : List (List Card × List Int)} {G : Calls} {gi : Str → Option Int} {o : E} {es : List E} {ρ : PL.Env} (h : HasP T p cs ds past) (hx : ev G gi o ρ S0 = .ok (rf p) T) :
    ev G gi (.meth o "Purse" "paper" es) ρ S0 = (evs G gi es ρ T).bind fun ws S => G "Purse.paper" (rf p :: ws) S := ev_meth h hx rfl (by kernel_rfl)
theorem ev_room {T S0 : Sto} {p : Nat} {cs : List Card} {ds : List Int} {past : List (List Card × List Int)} {G : Calls} {gi : Str → Option Int} {o : E} {es : List E} {ρ : PL.Env} (h : HasP T p cs ds past) (hx : ev G gi o ρ S0 = .ok (rf p) T) :
    ev G gi (.meth o "Purse" "room" es) ρ S0 = (evs G gi es ρ T).bind fun ws S => G "Purse.room" (rf p :: ws) S := ev_meth h hx rfl (by kernel_rfl)
theorem ev_left {T S0 : Sto} {p : Nat} {cs : List Card} {ds : List Int} {past : List (List Card × List Int)} {G : Calls} {gi : Str → Option Int} {o : E} {es : List E} {ρ : PL.Env} (h : HasP T p cs ds past) (hx : ev G gi o ρ S0 = .ok (rf p) T) :
    ev G gi (.meth o "Purse" "left" es) ρ S0 = (evs G gi es ρ T).bind fun ws S => G "Purse.left" (rf p :: ws) S := ev_meth h hx rfl (by kernel_rfl)
theorem ev_eq {T S0 : Sto} {p : Nat} {cs : List Card} {ds : List Int} {past : List (List Card × List Int)} {G : Calls} {gi : Str → Option Int} {o : E} {es : List E} {ρ : PL.Env} (h : HasP T p cs ds past) (hx : ev G gi o ρ S0 = .ok (rf p) T) :
    ev G gi (.meth o "Purse" "__eq__" es) ρ S0 = (evs G gi es ρ T).bind fun ws S => G "Purse.__eq__" (rf p :: ws) S := ev_meth h hx rfl (by kernel_rfl)
section
variable {T : Sto} {p : Nat} {cs : List Card} {ds : List Int} {past : List (List Card × List Int)}
theorem m_turn (n : Nat) (h : HasP T p cs ds past) (sn : SN T) (hp : past.length ≤ 1000) (cs' : List Card) (ds' : List Int) :
    callS gi fns (n + 1) "Purse.turn" [rf p, .tuple (cs'.map cD), .tuple (ds'.map .int)] T = .ok .none (upP T p cs' ds' (past ++ [(cs, ds)])) := by
  have hl : past.length < lim := by rw [lim_eq]; omega
  have h1 := h.lt
  have e1 : (T.set (p + 1) (pa (past ++ [(cs, ds)])))[p]? = some (pu p cs ds) := by rw [List.getElem?_set_ne (by omega)]; exact h.a
  have e2 : ((T.set (p + 1) (pa (past ++ [(cs, ds)]))).set p (pu p cs' ds))[p]? = some (pu p cs' ds) := by rw [List.getElem?_set_self (by simp; omega)]
  have e3 : O.lst (past.map pD ++ [.tuple [.tuple (cs.map cD), .tuple (ds.map .int)]]) = pa (past ++ [(cs, ds)]) := by
    unfold pa
    rw [List.map_append]
    rfl
  have e4 : ((T.set (p + 1) (pa (past ++ [(cs, ds)]))).set p (pu p cs' ds)).set p (pu p cs' ds') = upP T p cs' ds' (past ++ [(cs, ds)]) := by
    unfold upP
    rw [List.set_set]
  have ft : fin .trunc T .none (upP T p cs' ds' (past ++ [(cs, ds)])) = .ok .none (upP T p cs' ds' (past ++ [(cs, ds)])) := fin_SN upP_len (sn.up h1) (by simp)
  rw [callS_fn (F := f_Purse_turn) (by kernel_rfl)]
  simp [runF, e_var, e_int, e_bl, e_non, e_str, e_gint, e_tup, e_lst, e_dct, e_op, e_neg, e_cm, e_ch, e_isN, e_isB, e_and, e_or, e_not, e_ite, e_ix, e_sl, e_rev, e_bi, e_isi, e_call, e_new, e_meth, e_fld, e_bm, e_fstr, e_frz, e_said, e_sset, e_tupR, e_never, x_asg, x_expr, x_ret, x_retN, x_ite, x_raise, x_tryN, x_pass, x_never, x_nil, x_cons, es_nil, es_cons, eo_none, eo_some, ec_none, ec_some, a_name, a_tup, a_sub, as_nil, as_cons, p_name, p_tup, ps_nil, ps_cons, isiD, isi0, cmD, cmI, biD, bi1, bi2, biL, ixD, opD, addD, mulD, int2, wipe, fin_pure1, itemsD, heldD, isNm, kdD, bmD, allD, anyD, allocL, f_Purse_turn, h.own, h.gone, h.past_, h.obj, lm2, updL, hl, e3, a_fld, setF_own e1, setF_gone e2, e4, ft]
end
end K33
end

section
set_option Elab.async false
set_option linter.all false
set_option maxRecDepth 100000
set_option maxHeartbeats 1000000
namespace K33
open PySem PL TT
section
variable {T : Sto} {p : Nat} {cs : List Card} {ds : List Int} {past : List (List Card × List Int)}
theorem lk_turn : (puF p cs ds).lookup ("turn" : Str) = none := rfl
theorem lk_buy : (puF p cs ds).lookup ("buy" : Str) = none := rfl
theorem lk_come : (puF p cs ds).lookup ("come" : Str) = none := rfl
theorem lk_miss : (puF p cs ds).lookup ("miss" : Str) = none := rfl
theorem lk_undo : (puF p cs ds).lookup ("undo" : Str) = none := rfl
theorem lk_days : (puF p cs ds).lookup ("days" : Str) = none := rfl
theorem lk_taken : (puF p cs ds).lookup ("taken" : Str) = none := rfl
theorem lk_lost : (puF p cs ds).lookup ("lost" : Str) = none := rfl
theorem lk_paper : (puF p cs ds).lookup ("paper" : Str) = none := rfl
theorem lk_room : (puF p cs ds).lookup ("room" : Str) = none := rfl
theorem lk_left : (puF p cs ds).lookup ("left" : Str) = none := rfl
theorem lk_eq : (puF p cs ds).lookup ("__eq__" : Str) = none := rfl
theorem nm_turn : ("Purse" ++ "." ++ "turn" : Str) = "Purse.turn" := by kernel_rfl
theorem nm_buy : ("Purse" ++ "." ++ "buy" : Str) = "Purse.buy" := by kernel_rfl
theorem nm_come : ("Purse" ++ "." ++ "come" : Str) = "Purse.come" := by kernel_rfl
theorem nm_miss : ("Purse" ++ "." ++ "miss" : Str) = "Purse.miss" := by kernel_rfl
theorem nm_undo : ("Purse" ++ "." ++ "undo" : Str) = "Purse.undo" := by kernel_rfl
theorem nm_days : ("Purse" ++ "." ++ "days" : Str) = "Purse.days" := by kernel_rfl
theorem nm_taken : ("Purse" ++ "." ++ "taken" : Str) = "Purse.taken" := by kernel_rfl
theorem nm_lost : ("Purse" ++ "." ++ "lost" : Str) = "Purse.lost" := by kernel_rfl
theorem nm_paper : ("Purse" ++ "." ++ "paper" : Str) = "Purse.paper" := by kernel_rfl
theorem nm_room : ("Purse" ++ "." ++ "room" : Str) = "Purse.room" := by kernel_rfl
theorem nm_left : ("Purse" ++ "." ++ "left" : Str) = "Purse.left" := by kernel_rfl
theorem nm_eq : ("Purse" ++ "." ++ "__eq__" : Str) = "Purse.__eq__" := by kernel_rfl
theorem nm_init : ("Purse" ++ ".__init__" : Str) = "Purse.__init__" := by kernel_rfl
theorem m_buy (n : Nat) (h : HasP T p cs ds past) (sn : SN T) (hp : past.length ≤ 1000) (hc : cs.length < 8) (f l t : Int) (hb : cardB (f, l, t) = true) :
    callS gi fns (n + 5) "Purse.buy" [rf p, .int f, .int l, .int t] T = .ok (.int cs.length) (upP T p (cs ++ [(f, l, t)]) ds (past ++ [(cs, ds)])) := by
  have e1 := m_is_card n (f, l, t) T
  rw [hb] at e1
  simp only [cD] at e1
  have e2 := m_turn (n + 3) h sn hp (cs ++ [(f, l, t)]) ds
  have e3 : (cs ++ [(f, l, t)]).map cD = cs.map cD ++ [.tuple [.int f, .int l, .int t]] := by rw [List.map_append]; rfl
  rw [e3] at e2
  have hu := h.up (cs' := cs ++ [(f, l, t)]) (ds' := ds) (past' := past ++ [(cs, ds)])
  have hl : cs.length + 1 ≤ lim := by rw [lim_eq]; omega
  have q : ¬ ((cs.length : Int) = 8) := by omega
  have ft : fin .trunc T (.int cs.length) (upP T p (cs ++ [(f, l, t)]) ds (past ++ [(cs, ds)])) = .ok (.int cs.length) (upP T p (cs ++ [(f, l, t)]) ds (past ++ [(cs, ds)])) := fin_SN upP_len (sn.up h.lt) (by simp)
  rw [callS_fn (F := f_Purse_buy) (by kernel_rfl)]
  simp [runF, e_var, e_int, e_bl, e_non, e_str, e_gint, e_tup, e_lst, e_dct, e_op, e_neg, e_cm, e_ch, e_isN, e_isB, e_and, e_or, e_not, e_ite, e_ix, e_sl, e_rev, e_bi, e_isi, e_call, e_new, e_meth, e_fld, e_bm, e_fstr, e_frz, e_said, e_sset, e_tupR, e_never, x_asg, x_expr, x_ret, x_retN, x_ite, x_raise, x_tryN, x_pass, x_never, x_nil, x_cons, es_nil, es_cons, eo_none, eo_some, ec_none, ec_some, a_name, a_tup, a_sub, as_nil, as_cons, p_name, p_tup, ps_nil, ps_cons, isiD, isi0, cmD, cmI, biD, bi1, bi2, biL, ixD, opD, addD, mulD, int2, wipe, fin_pure1, itemsD, heldD, isNm, kdD, bmD, allD, anyD, allocL, f_Purse_buy, e1, h.own, h.gone, gi_cards, eqD_int, q, h.ins, lk_turn, nm_turn, lm1, lm3, hl, e2, hu.own, ft]
theorem m_need_day (n : Nat) (d : Int) (hd : dayB d = true) (T : Sto) : callS gi fns (n + 4) "need_day" [.int d] T = .ok .none T := by
  rw [callS_fn (F := f_need_day) (by kernel_rfl)]
  simp [runF, e_var, e_int, e_bl, e_non, e_str, e_gint, e_tup, e_lst, e_dct, e_op, e_neg, e_cm, e_ch, e_isN, e_isB, e_and, e_or, e_not, e_ite, e_ix, e_sl, e_rev, e_bi, e_isi, e_call, e_new, e_meth, e_fld, e_bm, e_fstr, e_frz, e_said, e_sset, e_tupR, e_never, x_asg, x_expr, x_ret, x_retN, x_ite, x_raise, x_tryN, x_pass, x_never, x_nil, x_cons, es_nil, es_cons, eo_none, eo_some, ec_none, ec_some, a_name, a_tup, a_sub, as_nil, as_cons, p_name, p_tup, ps_nil, ps_cons, isiD, isi0, cmD, cmI, biD, bi1, bi2, biL, ixD, opD, addD, mulD, int2, wipe, fin_pure1, itemsD, heldD, isNm, kdD, bmD, allD, anyD, allocL, f_need_day, m_is_day, hd]
theorem mul_day (d : Int) (k : Nat) (h1 : 1 ≤ k) (h2 : k ≤ 1000) : mulD (.tuple [.int d]) (.int k) = some (.tuple ((List.replicate k d).map .int)) := by
  have e : ((k : Int)).toNat = k := by omega
  simp only [mulD, e, rep_int]
  rw [if_pos ⟨by omega, by omega, by simp, by simp⟩]
theorem m_come (n : Nat) (h : HasP T p cs ds past) (sn : SN T) (hp : past.length ≤ 1000) (d : Int) (k : Nat) (hd : dayB d = true) (k1 : 1 ≤ k) (k2 : ds.length + k ≤ 24) :
    callS gi fns (n + 5) "Purse.come" [rf p, .int d, .int k] T = .ok .none (upP T p cs (isort (ds ++ List.replicate k d)) (past ++ [(cs, ds)])) := by
  have e2 := m_turn (n + 3) h sn hp cs (isort (ds ++ List.replicate k d))
  have hp2 := isort_perm' (ds ++ List.replicate k d)
  have hl : ds.length + k ≤ lim := by rw [lim_eq]; omega
  have hl2 : (isort (ds ++ List.replicate k d)).length ≤ lim := by rw [hp2.length_eq, List.length_append, List.length_replicate]; exact hl
  have e4 : ∀ S : Sto, sortedD S (.tuple (ds.map .int ++ (List.replicate k d).map .int)) = some ((isort (ds ++ List.replicate k d)).map .int) := fun S => by
    rw [← List.map_append]
    unfold sortedD
    rw [seqD_tuple, Option.bind_some, intsOf_ints]
    rfl
  have q1 : (1 : Int) ≤ k := by omega
  have q2 : (k : Int) ≤ 24 := by omega
  have q3 : ¬ ((24 : Int) < (ds.length : Int) + k) := by omega
  have ft : fin .trunc T .none (upP T p cs (isort (ds ++ List.replicate k d)) (past ++ [(cs, ds)])) = .ok .none (upP T p cs (isort (ds ++ List.replicate k d)) (past ++ [(cs, ds)])) := fin_SN upP_len (sn.up h.lt) (by simp)
  have i1 : ev (callS gi fns (n + 4)) gi (.bi .tuple [.bi (.sorted false) [.op .add (.fld (.var 0) "Purse" "gone_to") (.op .mul (.tup [.var 1]) (.var 2))]]) [some (rf p), some (.int d), some (.int k)] T = .ok (.tuple ((isort (ds ++ List.replicate k d)).map .int)) T := by
    simp only [e_bi, e_op, e_fld, e_tup, e_var, es_cons, es_nil, Out.bind_ok, List.getElem?_cons_zero, List.getElem?_cons_succ, List.length_cons, List.length_nil, Nat.zero_add, lm1, if_true, opD, addD, oret_some, mul_day d k k1 (by omega), h.gone, List.length_map, List.length_replicate, hl, biD, biL, bi1, e4, oallo_some]
    unfold allocL
    simp only [List.length_map, hl2, if_true, Bool.false_eq_true, if_false, Out.bind_ok, tupD_list, oret_some]
  rw [callS_fn (F := f_Purse_come) (by kernel_rfl)]
  unfold runF
  have el : [rf p, PyData.int d, .int k].map some ++ List.replicate (f_Purse_come.nn - f_Purse_come.np) none = [some (rf p), some (.int d), some (.int k)] := rfl
  rw [el]
  refine (if_pos rfl).trans ?_
  have s1 : exs (callS gi fns (n + 4)) gi f_Purse_come.body [some (rf p), some (.int d), some (.int k)] T = .next [some (rf p), some (.int d), some (.int k)] (upP T p cs (isort (ds ++ List.replicate k d)) (past ++ [(cs, ds)])) := by
    have s0 : exs (callS gi fns (n + 4)) gi [.expr (.call "need_day" [.var 1]), .ite (.not (.call "is_from_to" [.var 2, .int 1, .gint "MOST_COMINGS"])) [.never] [], .ite (.cm .gt (.op .add (.bi .len [.fld (.var 0) "Purse" "gone_to"]) (.var 2)) (.gint "MOST_COMINGS")) [.never] []] [some (rf p), some (.int d), some (.int k)] T = .next [some (rf p), some (.int d), some (.int k)] T := by
      simp [runF, e_var, e_int, e_bl, e_non, e_str, e_gint, e_tup, e_lst, e_dct, e_op, e_neg, e_cm, e_ch, e_isN, e_isB, e_and, e_or, e_not, e_ite, e_ix, e_sl, e_rev, e_bi, e_isi, e_call, e_new, e_meth, e_fld, e_bm, e_fstr, e_frz, e_said, e_sset, e_tupR, e_never, x_asg, x_expr, x_ret, x_retN, x_ite, x_raise, x_tryN, x_pass, x_never, x_nil, x_cons, es_nil, es_cons, eo_none, eo_some, ec_none, ec_some, a_name, a_tup, a_sub, as_nil, as_cons, p_name, p_tup, ps_nil, ps_cons, isiD, isi0, cmD, cmI, biD, bi1, bi2, biL, ixD, opD, addD, mulD, int2, wipe, fin_pure1, itemsD, heldD, isNm, kdD, bmD, allD, anyD, allocL, m_need_day n d hd, gi_comings, m_is_from_to, q1, q2, q3, h.gone]
    have s2 : exs (callS gi fns (n + 4)) gi [.expr (.meth (.var 0) "Purse" "turn" [.fld (.var 0) "Purse" "own", .bi .tuple [.bi (.sorted false) [.op .add (.fld (.var 0) "Purse" "gone_to") (.op .mul (.tup [.var 1]) (.var 2))]]])] [some (rf p), some (.int d), some (.int k)] T = .next [some (rf p), some (.int d), some (.int k)] (upP T p cs (isort (ds ++ List.replicate k d)) (past ++ [(cs, ds)])) := by
      rw [x_cons, x_expr, ev_turn h (by simp [e_var])]
      simp only [es_cons, e_fld, e_var, List.getElem?_cons_zero, Out.bind_ok, h.own, oret_some, es_nil, i1]
      rw [e2]
      simp [x_nil]
    show exs _ _ ([_, _, _] ++ [_]) _ _ = _
    rw [exs_app, s0, SOut.seq_next, s2]
  rw [s1]
  exact ft
theorem find_int (ds : List Int) (d : Int) : (ds.map PyData.int).findIdx (eqvR (.int d)) = ds.findIdx fun x => decide (x = d) := by
  rw [List.findIdx_map]
  have : (eqvR (.int d) ∘ PyData.int) = fun x => decide (x = d) := by
    funext x
    simp [eqvR, eqv_int]
  rw [this]
theorem find_split (ds : List Int) (d : Int) (h : d ∈ ds) : ∃ A C, ds = A ++ d :: C ∧ (ds.findIdx fun x => decide (x = d)) = A.length := by
  have hi : (ds.findIdx fun x => decide (x = d)) < ds.length := List.findIdx_lt_length_of_exists ⟨d, h, by simp⟩
  obtain ⟨A, y, C, e, hl⟩ := split_at ds _ hi
  have hy := List.findIdx_getElem (w := hi)
  have : ds[ds.findIdx fun x => decide (x = d)]? = some y := by
    rw [← hl]
    conv => lhs; rw [e]
    simp
  rw [List.getElem?_eq_getElem hi] at this
  rw [Option.some.inj this] at hy
  have hyd : y = d := by simpa using hy
  subst hyd
  exact ⟨A, C, e, hl.symm⟩
theorem m_miss (n : Nat) (h : HasP T p cs ds past) (sn : SN T) (hp : past.length ≤ 1000) (d : Int) (hd : dayB d = true) (hm : d ∈ ds) (hl : ds.length ≤ 24) :
    ∃ A C, ds = A ++ d :: C ∧ callS gi fns (n + 5) "Purse.miss" [rf p, .int d] T = .ok .none (upP T p cs (A ++ C) (past ++ [(cs, ds)])) := by
  obtain ⟨A, C, e, hf⟩ := find_split ds d hm
  refine ⟨A, C, e, ?_⟩
  have e2 := m_turn (n + 3) h sn hp cs (A ++ C)
  have e1 := in_ints T d ds
  have q : (ds.map PyData.int).any (eqvR (.int d)) = true := List.any_eq_true.mpr ⟨.int d, List.mem_map.mpr ⟨d, hm, rfl⟩, by simp [eqvR, eqv_int]⟩
  have fo : findOk (.int d) (ds.map .int) = true := by
    unfold findOk
    rw [eqOk_int, all_eqOk]
    rfl
  have ft : fin .trunc T .none (upP T p cs (A ++ C) (past ++ [(cs, ds)])) = .ok .none (upP T p cs (A ++ C) (past ++ [(cs, ds)])) := fin_SN upP_len (sn.up h.lt) (by simp)
  have fi : (ds.map PyData.int).findIdx (eqvR (.int d)) = A.length := by rw [find_int, hf]
  have c1 := cut_lo (A.map PyData.int) (.int d :: C.map .int)
  have c2 := cut_hi (A.map PyData.int) (C.map .int) (.int d)
  rw [List.length_map] at c1 c2
  have em : ds.map PyData.int = A.map .int ++ .int d :: C.map .int := by rw [e]; simp
  have hl2 : A.length + C.length ≤ lim := by
    rw [e] at hl
    simp at hl
    rw [lim_eq]; omega
  have e3 : (A ++ C).map PyData.int = A.map .int ++ C.map .int := List.map_append
  rw [e3] at e2
  rw [callS_fn (F := f_Purse_miss) (by kernel_rfl)]
  have hg : fldD T (rf p) "Purse" "gone_to" = some (.tuple (A.map .int ++ .int d :: C.map .int)) := by rw [h.gone, em]
  rw [em] at e1 q fo fi
  have i1 : ev (callS gi fns (n + 4)) gi (.bm (.fld (.var 0) "Purse" "gone_to") .index [.var 1]) [some (rf p), some (.int d), none] T = .ok (.int A.length) T := by
    rw [e_bm, e_fld]
    simp only [e_var, List.getElem?_cons_zero, List.getElem?_cons_succ, Out.bind_ok, hg, oret_some, es_cons, es_nil]
    rw [if_pos (by simp [kdD])]
    simp only [bmD, bi1, seqD_tuple, Option.bind_some, fo, q, Bool.and_self, if_true, fi, oret_some]
  have s1 : ex (callS gi fns (n + 4)) gi (.asg (.name 2) (.bm (.fld (.var 0) "Purse" "gone_to") .index [.var 1])) [some (rf p), some (.int d), none] T = .next [some (rf p), some (.int d), some (.int A.length)] T := by
    rw [x_asg, i1]
    simp [a_name]
  have s0 : exs (callS gi fns (n + 4)) gi [.expr (.call "need_day" [.var 1]), .ite (.cm .nin (.var 1) (.fld (.var 0) "Purse" "gone_to")) [.never] []] [some (rf p), some (.int d), none] T = .next [some (rf p), some (.int d), none] T := by
    simp [runF, e_var, e_int, e_bl, e_non, e_str, e_gint, e_tup, e_lst, e_dct, e_op, e_neg, e_cm, e_ch, e_isN, e_isB, e_and, e_or, e_not, e_ite, e_ix, e_sl, e_rev, e_bi, e_isi, e_call, e_new, e_meth, e_fld, e_bm, e_fstr, e_frz, e_said, e_sset, e_tupR, e_never, x_asg, x_expr, x_ret, x_retN, x_ite, x_raise, x_tryN, x_pass, x_never, x_nil, x_cons, es_nil, es_cons, eo_none, eo_some, ec_none, ec_some, a_name, a_tup, a_sub, as_nil, as_cons, p_name, p_tup, ps_nil, ps_cons, isiD, isi0, cmD, cmI, biD, bi1, bi2, biL, ixD, opD, addD, mulD, int2, wipe, fin_pure1, itemsD, heldD, isNm, kdD, bmD, allD, anyD, allocL, m_need_day n d hd, hg, e1, hm]
  have s2 : exs (callS gi fns (n + 4)) gi [.expr (.meth (.var 0) "Purse" "turn" [.fld (.var 0) "Purse" "own", .op .add (.sl (.fld (.var 0) "Purse" "gone_to") none (some (.var 2))) (.sl (.fld (.var 0) "Purse" "gone_to") (some (.op .add (.var 2) (.int 1))) none)])] [some (rf p), some (.int d), some (.int A.length)] T = .next [some (rf p), some (.int d), some (.int A.length)] (upP T p cs (A ++ C) (past ++ [(cs, ds)])) := by
    simp [runF, e_var, e_int, e_bl, e_non, e_str, e_gint, e_tup, e_lst, e_dct, e_op, e_neg, e_cm, e_ch, e_isN, e_isB, e_and, e_or, e_not, e_ite, e_ix, e_sl, e_rev, e_bi, e_isi, e_call, e_new, e_meth, e_fld, e_bm, e_fstr, e_frz, e_said, e_sset, e_tupR, e_never, x_asg, x_expr, x_ret, x_retN, x_ite, x_raise, x_tryN, x_pass, x_never, x_nil, x_cons, es_nil, es_cons, eo_none, eo_some, ec_none, ec_some, a_name, a_tup, a_sub, as_nil, as_cons, p_name, p_tup, ps_nil, ps_cons, isiD, isi0, cmD, cmI, biD, bi1, bi2, biL, ixD, opD, addD, mulD, int2, wipe, fin_pure1, itemsD, heldD, isNm, kdD, bmD, allD, anyD, allocL, hg, h.ins, lk_turn, nm_turn, h.own, slD, c1, c2, hl2, e2]
  unfold runF
  have el : [rf p, PyData.int d].map some ++ List.replicate (f_Purse_miss.nn - f_Purse_miss.np) none = [some (rf p), some (.int d), none] := rfl
  rw [el]
  refine (if_pos rfl).trans ?_
  have sa : exs (callS gi fns (n + 4)) gi f_Purse_miss.body [some (rf p), some (.int d), none] T = .next [some (rf p), some (.int d), some (.int A.length)] (upP T p cs (A ++ C) (past ++ [(cs, ds)])) := by
    show exs _ _ ([_, _] ++ (_ :: [_])) _ _ = _
    rw [exs_app, s0, SOut.seq_next, x_cons, s1, SOut.seq_next, s2]
  rw [sa]
  exact ft
theorem pD_fine (past : List (List Card × List Int)) : ∀ x ∈ past.map pD, x.plain = true ∧ x.depth ≤ 39 := fun x hx => by
  obtain ⟨c, _, rfl⟩ := List.mem_map.mp hx
  have a := plainAll_of (c.1.map cD) fun x hx => (cD_fine c.1 x hx).1
  have b := plainAll_of (c.2.map PyData.int) fun x hx => (int_fine c.2 x hx).1
  have d := depthAll_of 2 (c.1.map cD) fun x hx => by
    obtain ⟨c, _, rfl⟩ := List.mem_map.mp hx
    simp [cD, PyData.depth, PyData.depthAll]
  have e := depthAll_of 2 (c.2.map PyData.int) fun x hx => by
    obtain ⟨c, _, rfl⟩ := List.mem_map.mp hx
    simp [PyData.depth]
  refine ⟨?_, ?_⟩
  · simp [pD, PyData.plain, PyData.plainAll, a, b]
  · simp only [pD, PyData.depth, PyData.depthAll]
    omega
theorem eqD_rf0 (S : Sto) (q : Nat) (xs : List D) (hq : objL S q = some xs) (h : ∀ x ∈ xs, x.plain = true ∧ x.depth ≤ 39) : eqD S (rf q) (.list []) = some (decide (xs = [])) := by
  have e : val S (rf q) = .list xs := by unfold val; rw [lstD_rf, hq]
  have e2 : val S (.list []) = .list [] := rfl
  have a := plainAll_of xs fun x hx => (h x hx).1
  have b := depthAll_of 39 xs fun x hx => (h x hx).2
  have o : ∀ ys : List D, PyData.plainAll ys = true → PyData.depthAll ys ≤ 39 → eqOk (.list ys) = true := fun ys a b => by
    simp [eqOk, PyData.plain, PyData.depth, depthMax, a]
    omega
  unfold eqD
  rw [e, e2, o xs a b, o [] rfl (by simp [PyData.depthAll])]
  cases xs <;> simp [PyData.eqv, PyData.eqvAll]
theorem m_undo (n : Nat) {cs' : List Card} {ds' : List Int} (h : HasP T p cs ds (past ++ [(cs', ds')])) (sn : SN T) : callS gi fns (n + 1) "Purse.undo" [rf p] T = .ok .none (upP T p cs' ds' past) := by
  have h1 := h.lt
  have q := eqD_rf0 T (p + 1) _ h.obj (pD_fine _)
  have q2 : ¬ ((past ++ [(cs', ds')]).map pD = []) := by simp
  have e1 : (T.set (p + 1) (pa past))[p]? = some (pu p cs ds) := by rw [List.getElem?_set_ne (by omega)]; exact h.a
  have e2 : ((T.set (p + 1) (pa past)).set p (pu p cs' ds))[p]? = some (pu p cs' ds) := by rw [List.getElem?_set_self (by simp; omega)]
  have e4 : ((T.set (p + 1) (pa past)).set p (pu p cs' ds)).set p (pu p cs' ds') = upP T p cs' ds' past := by
    unfold upP
    rw [List.set_set]
  have ft : fin .trunc T .none (upP T p cs' ds' past) = .ok .none (upP T p cs' ds' past) := fin_SN upP_len (sn.up h1) (by simp)
  have g1 : ((past ++ [(cs', ds')]).map pD).getLast? = some (.tuple [.tuple (cs'.map cD), .tuple (ds'.map .int)]) := by
    rw [List.map_append]
    simp [pD]
  have g2 : O.lst (((past ++ [(cs', ds')]).map pD).dropLast) = pa past := by
    rw [List.map_append]
    simp [pa]
  have ho := h.obj
  generalize (past ++ [(cs', ds')]).map pD = xs at q q2 g1 g2 ho
  rw [callS_fn (F := f_Purse_undo) (by kernel_rfl)]
  simp [runF, e_var, e_int, e_bl, e_non, e_str, e_gint, e_tup, e_lst, e_dct, e_op, e_neg, e_cm, e_ch, e_isN, e_isB, e_and, e_or, e_not, e_ite, e_ix, e_sl, e_rev, e_bi, e_isi, e_call, e_new, e_meth, e_fld, e_bm, e_fstr, e_frz, e_said, e_sset, e_tupR, e_never, x_asg, x_expr, x_ret, x_retN, x_ite, x_raise, x_tryN, x_pass, x_never, x_nil, x_cons, es_nil, es_cons, eo_none, eo_some, ec_none, ec_some, a_name, a_tup, a_sub, as_nil, as_cons, p_name, p_tup, ps_nil, ps_cons, isiD, isi0, cmD, cmI, biD, bi1, bi2, biL, ixD, opD, addD, mulD, int2, wipe, fin_pure1, itemsD, heldD, isNm, kdD, bmD, allD, anyD, allocL, f_Purse_undo, h.past_, q, q2, ho, updL, g1, g2, a_fld, setF_own e1, setF_gone e2, e4, ft]
theorem m_days (n : Nat) (h : HasP T p cs ds past) : callS gi fns (n + 1) "Purse.days" [rf p] T = .ok (.tuple (ds.map .int)) T := by
  rw [callS_fn (F := f_Purse_days) (by kernel_rfl)]
  simp [runF, e_var, e_int, e_bl, e_non, e_str, e_gint, e_tup, e_lst, e_dct, e_op, e_neg, e_cm, e_ch, e_isN, e_isB, e_and, e_or, e_not, e_ite, e_ix, e_sl, e_rev, e_bi, e_isi, e_call, e_new, e_meth, e_fld, e_bm, e_fstr, e_frz, e_said, e_sset, e_tupR, e_never, x_asg, x_expr, x_ret, x_retN, x_ite, x_raise, x_tryN, x_pass, x_never, x_nil, x_cons, es_nil, es_cons, eo_none, eo_some, ec_none, ec_some, a_name, a_tup, a_sub, as_nil, as_cons, p_name, p_tup, ps_nil, ps_cons, isiD, isi0, cmD, cmI, biD, bi1, bi2, biL, ixD, opD, addD, mulD, int2, wipe, fin_pure1, itemsD, heldD, isNm, kdD, bmD, allD, anyD, allocL, f_Purse_days, h.gone]
theorem m_taken (n : Nat) (h : HasP T p cs ds past) (hc : cs.length ≤ 8) (hd : ds.length ≤ 100) : callS gi fns (n + 4) "Purse.taken" [rf p] T = .ok (.tuple ((tk cs ds).map oD)) T := by
  rw [callS_fn (F := f_Purse_taken) (by kernel_rfl)]
  simp [runF, e_var, e_int, e_bl, e_non, e_str, e_gint, e_tup, e_lst, e_dct, e_op, e_neg, e_cm, e_ch, e_isN, e_isB, e_and, e_or, e_not, e_ite, e_ix, e_sl, e_rev, e_bi, e_isi, e_call, e_new, e_meth, e_fld, e_bm, e_fstr, e_frz, e_said, e_sset, e_tupR, e_never, x_asg, x_expr, x_ret, x_retN, x_ite, x_raise, x_tryN, x_pass, x_never, x_nil, x_cons, es_nil, es_cons, eo_none, eo_some, ec_none, ec_some, a_name, a_tup, a_sub, as_nil, as_cons, p_name, p_tup, ps_nil, ps_cons, isiD, isi0, cmD, cmI, biD, bi1, bi2, biL, ixD, opD, addD, mulD, int2, wipe, fin_pure1, itemsD, heldD, isNm, kdD, bmD, allD, anyD, allocL, f_Purse_taken, h.own, h.gone, m_taking_of _ cs ds (by omega) (by omega), refBs_oD]
theorem m_plost (n : Nat) (h : HasP T p cs ds past) (hc : cs.length ≤ 9) (hd : ds.length ≤ 100) : callS gi fns (n + 5) "Purse.lost" [rf p] T = .ok (.int (lostF cs ds)) T := by
  rw [callS_fn (F := f_Purse_lost) (by kernel_rfl)]
  simp [runF, e_var, e_int, e_bl, e_non, e_str, e_gint, e_tup, e_lst, e_dct, e_op, e_neg, e_cm, e_ch, e_isN, e_isB, e_and, e_or, e_not, e_ite, e_ix, e_sl, e_rev, e_bi, e_isi, e_call, e_new, e_meth, e_fld, e_bm, e_fstr, e_frz, e_said, e_sset, e_tupR, e_never, x_asg, x_expr, x_ret, x_retN, x_ite, x_raise, x_tryN, x_pass, x_never, x_nil, x_cons, es_nil, es_cons, eo_none, eo_some, ec_none, ec_some, a_name, a_tup, a_sub, as_nil, as_cons, p_name, p_tup, ps_nil, ps_cons, isiD, isi0, cmD, cmI, biD, bi1, bi2, biL, ixD, opD, addD, mulD, int2, wipe, fin_pure1, itemsD, heldD, isNm, kdD, bmD, allD, anyD, allocL, f_Purse_lost, h.own, h.gone, m_lost_in _ cs ds (by omega) (by omega)]
theorem m_paper (n : Nat) (h : HasP T p cs ds past) (hi : okIn cs ds) :
    ∃ Y : List Int, callS gi fns (n + 5) "Purse.paper" [rf p] T = .ok (.tuple (Y.map .int)) T ∧ Y.Pairwise (· < ·) ∧ Y.all dayB = true ∧ Y.length ≤ 24 ∧ Paper cs ds (tk cs ds) fun d => decide (d ∈ Y) := by
  obtain ⟨Y, e, r⟩ := m_paper_in n cs ds hi T
  refine ⟨Y, ?_, r⟩
  rw [callS_fn (F := f_Purse_paper) (by kernel_rfl)]
  simp [runF, e_var, e_int, e_bl, e_non, e_str, e_gint, e_tup, e_lst, e_dct, e_op, e_neg, e_cm, e_ch, e_isN, e_isB, e_and, e_or, e_not, e_ite, e_ix, e_sl, e_rev, e_bi, e_isi, e_call, e_new, e_meth, e_fld, e_bm, e_fstr, e_frz, e_said, e_sset, e_tupR, e_never, x_asg, x_expr, x_ret, x_retN, x_ite, x_raise, x_tryN, x_pass, x_never, x_nil, x_cons, es_nil, es_cons, eo_none, eo_some, ec_none, ec_some, a_name, a_tup, a_sub, as_nil, as_cons, p_name, p_tup, ps_nil, ps_cons, isiD, isi0, cmD, cmI, biD, bi1, bi2, biL, ixD, opD, addD, mulD, int2, wipe, fin_pure1, itemsD, heldD, isNm, kdD, bmD, allD, anyD, allocL, f_Purse_paper, h.own, h.gone, e]
theorem m_left (n : Nat) (h : HasP T p cs ds past) (hc : cs.length ≤ 8) (hd : ds.length ≤ 100) : callS gi fns (n + 5) "Purse.left" [rf p] T = .ok (.list (cs.zipIdx.map fun q => .int (trn q.1 - ((tk cs ds).count (some q.2) : Nat)))) T := by
  have hz : (cs.zipIdx).length ≤ lim := by rw [List.length_zipIdx, lim_eq]; omega
  rw [callS_fn (F := f_Purse_left) (by kernel_rfl)]
  simp [runF, e_var, e_int, e_bl, e_non, e_str, e_gint, e_tup, e_lst, e_dct, e_op, e_neg, e_cm, e_ch, e_isN, e_isB, e_and, e_or, e_not, e_ite, e_ix, e_sl, e_rev, e_bi, e_isi, e_call, e_new, e_meth, e_fld, e_bm, e_fstr, e_frz, e_said, e_sset, e_tupR, e_never, x_asg, x_expr, x_ret, x_retN, x_ite, x_raise, x_tryN, x_pass, x_never, x_nil, x_cons, es_nil, es_cons, eo_none, eo_some, ec_none, ec_some, a_name, a_tup, a_sub, as_nil, as_cons, p_name, p_tup, ps_nil, ps_cons, isiD, isi0, cmD, cmI, biD, bi1, bi2, biL, ixD, opD, addD, mulD, int2, wipe, fin_pure1, itemsD, heldD, isNm, kdD, bmD, allD, anyD, allocL, f_Purse_left, h.ins, lk_taken, nm_taken, m_taken n h hc hd]
  rw [ev_compF cs.zipIdx (fun q => .tuple [.int q.2, cD q.1]) (fun _ => true) (fun q => .int (trn q.1 - ((tk cs ds).count (some q.2) : Nat))) (fun q => [some (rf p), some (.tuple ((tk cs ds).map oD)), some (.int q.2), some (cD q.1)]) (ei_enumT (ds := cs.map cD) (by simp [runF, e_var, e_int, e_bl, e_non, e_str, e_gint, e_tup, e_lst, e_dct, e_op, e_neg, e_cm, e_ch, e_isN, e_isB, e_and, e_or, e_not, e_ite, e_ix, e_sl, e_rev, e_bi, e_isi, e_call, e_new, e_meth, e_fld, e_bm, e_fstr, e_frz, e_said, e_sset, e_tupR, e_never, x_asg, x_expr, x_ret, x_retN, x_ite, x_raise, x_tryN, x_pass, x_never, x_nil, x_cons, es_nil, es_cons, eo_none, eo_some, ec_none, ec_some, a_name, a_tup, a_sub, as_nil, as_cons, p_name, p_tup, ps_nil, ps_cons, isiD, isi0, cmD, cmI, biD, bi1, bi2, biL, ixD, opD, addD, mulD, int2, wipe, fin_pure1, itemsD, heldD, isNm, kdD, bmD, allD, anyD, allocL, h.own])) (enumL_zip cs 0) (by simp) rfl (fun q hq => ⟨by simp [runF, e_var, e_int, e_bl, e_non, e_str, e_gint, e_tup, e_lst, e_dct, e_op, e_neg, e_cm, e_ch, e_isN, e_isB, e_and, e_or, e_not, e_ite, e_ix, e_sl, e_rev, e_bi, e_isi, e_call, e_new, e_meth, e_fld, e_bm, e_fstr, e_frz, e_said, e_sset, e_tupR, e_never, x_asg, x_expr, x_ret, x_retN, x_ite, x_raise, x_tryN, x_pass, x_never, x_nil, x_cons, es_nil, es_cons, eo_none, eo_some, ec_none, ec_some, a_name, a_tup, a_sub, as_nil, as_cons, p_name, p_tup, ps_nil, ps_cons, isiD, isi0, cmD, cmI, biD, bi1, bi2, biL, ixD, opD, addD, mulD, int2, wipe, fin_pure1, itemsD, heldD, isNm, kdD, bmD, allD, anyD, allocL], by simp [runF, e_var, e_int, e_bl, e_non, e_str, e_gint, e_tup, e_lst, e_dct, e_op, e_neg, e_cm, e_ch, e_isN, e_isB, e_and, e_or, e_not, e_ite, e_ix, e_sl, e_rev, e_bi, e_isi, e_call, e_new, e_meth, e_fld, e_bm, e_fstr, e_frz, e_said, e_sset, e_tupR, e_never, x_asg, x_expr, x_ret, x_retN, x_ite, x_raise, x_tryN, x_pass, x_never, x_nil, x_cons, es_nil, es_cons, eo_none, eo_some, ec_none, ec_some, a_name, a_tup, a_sub, as_nil, as_cons, p_name, p_tup, ps_nil, ps_cons, isiD, isi0, cmD, cmI, biD, bi1, bi2, biL, ixD, opD, addD, mulD, int2, wipe, fin_pure1, itemsD, heldD, isNm, kdD, bmD, allD, anyD, allocL], fun _ => by simp [runF, e_var, e_int, e_bl, e_non, e_str, e_gint, e_tup, e_lst, e_dct, e_op, e_neg, e_cm, e_ch, e_isN, e_isB, e_and, e_or, e_not, e_ite, e_ix, e_sl, e_rev, e_bi, e_isi, e_call, e_new, e_meth, e_fld, e_bm, e_fstr, e_frz, e_said, e_sset, e_tupR, e_never, x_asg, x_expr, x_ret, x_retN, x_ite, x_raise, x_tryN, x_pass, x_never, x_nil, x_cons, es_nil, es_cons, eo_none, eo_some, ec_none, ec_some, a_name, a_tup, a_sub, as_nil, as_cons, p_name, p_tup, ps_nil, ps_cons, isiD, isi0, cmD, cmI, biD, bi1, bi2, biL, ixD, opD, addD, mulD, int2, wipe, fin_pure1, itemsD, heldD, isNm, kdD, bmD, allD, anyD, allocL, find_oD (eqOk_int _), count_oD, count_oD', cD, trn]⟩) hz]
  simp [runF, e_var, e_int, e_bl, e_non, e_str, e_gint, e_tup, e_lst, e_dct, e_op, e_neg, e_cm, e_ch, e_isN, e_isB, e_and, e_or, e_not, e_ite, e_ix, e_sl, e_rev, e_bi, e_isi, e_call, e_new, e_meth, e_fld, e_bm, e_fstr, e_frz, e_said, e_sset, e_tupR, e_never, x_asg, x_expr, x_ret, x_retN, x_ite, x_raise, x_tryN, x_pass, x_never, x_nil, x_cons, es_nil, es_cons, eo_none, eo_some, ec_none, ec_some, a_name, a_tup, a_sub, as_nil, as_cons, p_name, p_tup, ps_nil, ps_cons, isiD, isi0, cmD, cmI, biD, bi1, bi2, biL, ixD, opD, addD, mulD, int2, wipe, fin_pure1, itemsD, heldD, isNm, kdD, bmD, allD, anyD, allocL]
  rw [fin_pure1 (by rw [refB_list]; exact refBs_map (fun _ => refB_int ..) _)]
theorem eqvAll_refl : ∀ xs : List D, (∀ x ∈ xs, PyData.eqv x x = true) → PyData.eqvAll xs xs = true
  | [], _ => by simp [PyData.eqvAll]
  | x :: xs, h => by simp [PyData.eqvAll, h x List.mem_cons_self, eqvAll_refl xs fun y hy => h y (List.mem_cons_of_mem _ hy)]
theorem eqv_cs (cs : List Card) : PyData.eqv (.tuple (cs.map cD)) (.tuple (cs.map cD)) = true := by
  rw [PyData.eqv]
  exact eqvAll_refl _ fun x hx => by
    obtain ⟨c, _, rfl⟩ := List.mem_map.mp hx
    simp [cD, PyData.eqv, PyData.eqvAll]
theorem eqv_ds (ds : List Int) : PyData.eqv (.tuple (ds.map .int)) (.tuple (ds.map .int)) = true := by
  rw [PyData.eqv]
  exact eqvAll_refl _ fun x hx => by
    obtain ⟨c, _, rfl⟩ := List.mem_map.mp hx
    simp [PyData.eqv]
theorem eqv_os (ts : List (Option Nat)) : PyData.eqv (.tuple (ts.map oD)) (.tuple (ts.map oD)) = true := by
  rw [PyData.eqv]
  exact eqvAll_refl _ fun x hx => by
    obtain ⟨c, _, rfl⟩ := List.mem_map.mp hx
    cases c <;> simp [oD, PyData.eqv]
theorem eqD_same (S : Sto) (xs : List D) (h : ∀ x ∈ xs, x.plain = true ∧ x.depth ≤ 39) (e : PyData.eqv (.tuple xs) (.tuple xs) = true) : eqD S (.tuple xs) (.tuple xs) = some true := by
  have v : val S (.tuple xs) = .tuple xs := rfl
  unfold eqD
  rw [v, eqOk_tup h, e]
  rfl
theorem o_fine (ts : List (Option Nat)) : ∀ x ∈ ts.map oD, x.plain = true ∧ x.depth ≤ 39 := fun x hx => by
  obtain ⟨c, _, rfl⟩ := List.mem_map.mp hx
  cases c <;> simp [oD, PyData.plain, PyData.depth]
theorem HasP.isi (h : HasP T p cs ds past) : isiD T (rf p) (.cls "Purse") = some true := by
  unfold isiD
  simp only [asRef_rf, Option.bind_some, h.ins]
  rfl
theorem m_eq (n : Nat) {p2 : Nat} {past2 : List (List Card × List Int)} (h : HasP T p cs ds past) (h2 : HasP T p2 cs ds past2) : callS gi fns (n + 1) "Purse.__eq__" [rf p, rf p2] T = .ok (.bool true) T := by
  have e : eqD T (.tuple [.tuple (cs.map cD), .tuple (ds.map .int)]) (.tuple [.tuple (cs.map cD), .tuple (ds.map .int)]) = some true := by
    refine eqD_same T _ (fun x hx => ?_) ?_
    · have := pD_fine [(cs, ds)] (pD (cs, ds)) (by simp)
      simp only [pD, PyData.plain, PyData.plainAll, PyData.depth, PyData.depthAll, Bool.and_eq_true] at this
      simp only [List.mem_cons, List.not_mem_nil, or_false] at hx
      rcases hx with rfl | rfl
      · refine ⟨by simp only [PyData.plain]; exact this.1.1, ?_⟩
        simp only [PyData.depth]
        omega
      · refine ⟨by simp only [PyData.plain]; exact this.1.2.1, ?_⟩
        simp only [PyData.depth]
        omega
    · rw [PyData.eqv]
      exact eqvAll_refl _ fun x hx => by
        simp only [List.mem_cons, List.not_mem_nil, or_false] at hx
        rcases hx with rfl | rfl
        · exact eqv_cs cs
        · exact eqv_ds ds
  rw [callS_fn (F := f_Purse___eq__) (by kernel_rfl)]
  simp [runF, e_var, e_int, e_bl, e_non, e_str, e_gint, e_tup, e_lst, e_dct, e_op, e_neg, e_cm, e_ch, e_isN, e_isB, e_and, e_or, e_not, e_ite, e_ix, e_sl, e_rev, e_bi, e_isi, e_call, e_new, e_meth, e_fld, e_bm, e_fstr, e_frz, e_said, e_sset, e_tupR, e_never, x_asg, x_expr, x_ret, x_retN, x_ite, x_raise, x_tryN, x_pass, x_never, x_nil, x_cons, es_nil, es_cons, eo_none, eo_some, ec_none, ec_some, a_name, a_tup, a_sub, as_nil, as_cons, p_name, p_tup, ps_nil, ps_cons, isiD, isi0, cmD, cmI, biD, bi1, bi2, biL, ixD, opD, addD, mulD, int2, wipe, fin_pure1, itemsD, heldD, isNm, kdD, bmD, allD, anyD, allocL, f_Purse___eq__, h2.ins, h.own, h.gone, h2.own, h2.gone, lm2, e]
theorem m_room (n : Nat) (h : HasP T p cs ds past) (hc : okIn cs ds) (d : Int) (hd : dayB d = true) :
    ∃ r : Nat, callS gi fns (n + 6) "Purse.room" [rf p, .int d] T = .ok (.int r) T ∧ (0 < r → lostF cs (isort (ds ++ List.replicate r d)) = lostF cs ds) ∧ lostF cs (isort (ds ++ List.replicate (r + 1) d)) ≠ lostF cs ds := by
  obtain ⟨r, e, z1, z2⟩ := m_room_in n cs ds d hc hd T
  refine ⟨r, ?_, z1, z2⟩
  rw [callS_fn (F := f_Purse_room) (by kernel_rfl)]
  simp [runF, e_var, e_int, e_bl, e_non, e_str, e_gint, e_tup, e_lst, e_dct, e_op, e_neg, e_cm, e_ch, e_isN, e_isB, e_and, e_or, e_not, e_ite, e_ix, e_sl, e_rev, e_bi, e_isi, e_call, e_new, e_meth, e_fld, e_bm, e_fstr, e_frz, e_said, e_sset, e_tupR, e_never, x_asg, x_expr, x_ret, x_retN, x_ite, x_raise, x_tryN, x_pass, x_never, x_nil, x_cons, es_nil, es_cons, eo_none, eo_some, ec_none, ec_some, a_name, a_tup, a_sub, as_nil, as_cons, p_name, p_tup, ps_nil, ps_cons, isiD, isi0, cmD, cmI, biD, bi1, bi2, biL, ixD, opD, addD, mulD, int2, wipe, fin_pure1, itemsD, heldD, isNm, kdD, bmD, allD, anyD, allocL, f_Purse_room, m_need_day _ d hd, h.own, h.gone, e]
theorem m_new (n : Nat) (S : Sto) : callS gi fns (n + 1) "Purse.__init__" [rf S.length] (S ++ [.ins "Purse" []]) = .ok .none (S ++ [pu S.length [] [], pa []]) := by
  have i0 : insD (S ++ [.ins "Purse" []]) S.length = some (("Purse" : Str), []) := by unfold insD; simp
  have s1 : setF (S ++ [.ins "Purse" []]) (rf S.length) "Purse" "own" (.tuple []) = some (S ++ [.ins "Purse" [(("own" : Str), .tuple [])]]) := by
    unfold setF
    rw [asRef_rf, Option.bind_some, i0]
    simp [PL.putF]
  have i1 : insD (S ++ [.ins "Purse" [(("own" : Str), .tuple [])]]) S.length = some (("Purse" : Str), [(("own" : Str), .tuple [])]) := by unfold insD; simp
  have s2 : setF (S ++ [.ins "Purse" [(("own" : Str), .tuple [])]]) (rf S.length) "Purse" "gone_to" (.tuple []) = some (S ++ [.ins "Purse" [(("own" : Str), .tuple []), (("gone_to" : Str), .tuple [])]]) := by
    unfold setF
    rw [asRef_rf, Option.bind_some, i1]
    simp
    rfl
  have i2 : insD (S ++ [.ins "Purse" [(("own" : Str), .tuple []), (("gone_to" : Str), .tuple [])], .lst []]) S.length = some (("Purse" : Str), [(("own" : Str), .tuple []), (("gone_to" : Str), .tuple [])]) := by unfold insD; simp
  have s3 : setF (S ++ [.ins "Purse" [(("own" : Str), .tuple []), (("gone_to" : Str), .tuple [])], .lst []]) (rf S.length) "Purse" "past" (rf (S.length + 1)) = some (S ++ [pu S.length [] [], pa []]) := by
    unfold setF
    rw [asRef_rf, Option.bind_some, i2]
    simp
    exact ⟨rfl, rfl⟩
  rw [callS_fn (F := f_Purse___init__) (by kernel_rfl)]
  simp [runF, e_var, e_int, e_bl, e_non, e_str, e_gint, e_tup, e_lst, e_dct, e_op, e_neg, e_cm, e_ch, e_isN, e_isB, e_and, e_or, e_not, e_ite, e_ix, e_sl, e_rev, e_bi, e_isi, e_call, e_new, e_meth, e_fld, e_bm, e_fstr, e_frz, e_said, e_sset, e_tupR, e_never, x_asg, x_expr, x_ret, x_retN, x_ite, x_raise, x_tryN, x_pass, x_never, x_nil, x_cons, es_nil, es_cons, eo_none, eo_some, ec_none, ec_some, a_name, a_tup, a_sub, as_nil, as_cons, p_name, p_tup, ps_nil, ps_cons, isiD, isi0, cmD, cmI, biD, bi1, bi2, biL, ixD, opD, addD, mulD, int2, wipe, fin_pure1, itemsD, heldD, isNm, kdD, bmD, allD, anyD, allocL, f_Purse___init__, a_fld, s1, s2, s3, fin]
end
end K33
end

section
set_option Elab.async false
set_option linter.all false
set_option maxRecDepth 100000
set_option maxHeartbeats 1000000
namespace K33
open PySem PL TT
def td0 : St := .asg (.tup [.name 3, .name 4]) (.tup [.new "Purse" [], .bi (.list true) [.var 2]])
def td1 : St := .for_ (.tup [.name 5, .name 6, .name 7]) (.seq (.var 1)) [.expr (.meth (.var 3) "Purse" "buy" [.var 5, .var 6, .var 7])]
def td2 : St := .while_ (.cm .ne (.var 4) (.lst false [])) [.asg (.name 8) (.ix (.var 4) (.call "_law_take" [.var 0, .bi .len [.var 4]])), .asg (.name 9) (.ite (.cm .eq (.call "_law_take" [.var 0, .int 2]) (.int 0)) (.bm (.var 4) .count [.var 8]) (.int 1)), .expr (.meth (.var 3) "Purse" "come" [.var 8, .var 9]), .for_ (.name 10) (.range (.var 9)) [.expr (.bm (.var 4) .remove [.var 8])], .ite (.and (.cm .eq (.op .mod (.bi .len [.var 4]) (.int 4)) (.int 0)) (.cm .eq (.call "_law_take" [.var 0, .int 2]) (.int 0))) [.expr (.meth (.var 3) "Purse" "miss" [.var 8]), .expr (.meth (.var 3) "Purse" "come" [.var 8, .int 1])] []]
def td3 : St := .ret (.var 3)
def td : List St := [td0, td1, td2, td3]
def tw0 : St := .asg (.name 8) (.ix (.var 4) (.call "_law_take" [.var 0, .bi .len [.var 4]]))
def tw1 : St := .asg (.name 9) (.ite (.cm .eq (.call "_law_take" [.var 0, .int 2]) (.int 0)) (.bm (.var 4) .count [.var 8]) (.int 1))
def tw2 : St := .expr (.meth (.var 3) "Purse" "come" [.var 8, .var 9])
def tw3 : St := .for_ (.name 10) (.range (.var 9)) [.expr (.bm (.var 4) .remove [.var 8])]
def tw4 : St := .ite (.and (.cm .eq (.op .mod (.bi .len [.var 4]) (.int 4)) (.int 0)) (.cm .eq (.call "_law_take" [.var 0, .int 2]) (.int 0))) [.expr (.meth (.var 3) "Purse" "miss" [.var 8]), .expr (.meth (.var 3) "Purse" "come" [.var 8, .int 1])] []
def tw : List St := [tw0, tw1, tw2, tw3, tw4]
def Bx (T : Sto) (j : Nat) : Prop := ∃ a b, okB a b ∧ T[j]? = some (.lst [.int a, .int b])
theorem Bx.eq {T : Sto} {j : Nat} {a b : Int} (h : T[j]? = some (.lst [.int a, .int b])) : B T j a b = T := by
  obtain ⟨q, e⟩ := List.getElem?_eq_some_iff.mp h
  unfold B
  rw [← e, List.set_getElem_self]
theorem B_get {T : Sto} {j : Nat} {a b : Int} (h : j < T.length) : (B T j a b)[j]? = some (.lst [.int a, .int b]) := by
  unfold B
  rw [List.getElem?_set_self h]
theorem B_other {T : Sto} {j k : Nat} {a b : Int} (h : k ≠ j) : (B T j a b)[k]? = T[k]? := by
  unfold B
  rw [List.getElem?_set_ne (Ne.symm h)]
/-- a digit, wherever the box stands -/
theorem takeR (n : Nat) {T : Sto} {j : Nat} (h : Bx T j) (sn : SN T) (m : Int) (m1 : 1 ≤ m) (m2 : m < 1073741824) :
    ∃ d a' b', okB a' b' ∧ 0 ≤ d ∧ d < m ∧ callS gi fns (n + 1) "_law_take" [rf j, .int m] T = .ok (.int d) (B T j a' b') := by
  obtain ⟨a, b, hb, e⟩ := h
  have hj := (List.getElem?_eq_some_iff.mp e).1
  obtain ⟨d, a', b', k, u, v, q⟩ := m_take n T j hj sn a b m hb m1 m2
  rw [Bx.eq e] at q
  exact ⟨d, a', b', k, u, v, q⟩
/-! ### what is told -/
structure TS (S : Sto) (j : Nat) (T : Sto) (cs : List Card) (G L : List Int) (past : List (List Card × List Int)) : Prop where
  len : T.length = S.length + 3
  sn : SN T
  fr : ∀ k, k < S.length → k ≠ j → T[k]? = S[k]?
  bx : Bx T j
  hp : HasP T S.length cs G past
  lf : T[S.length + 2]? = some (.lst (L.map .int))
section
variable {S T : Sto} {j : Nat} {cs : List Card} {G L : List Int} {past : List (List Card × List Int)}
theorem TS.take (t : TS S j T cs G L past) (hj : j < S.length) {a b : Int} (hb : okB a b) : TS S j (B T j a b) cs G L past where
  len := by rw [B_len]; exact t.len
  sn := t.sn.setB
  fr k h1 h2 := by rw [B_other h2]; exact t.fr k h1 h2
  bx := ⟨a, b, hb, B_get (by have := t.len; omega)⟩
  hp := ⟨by rw [B_other (by omega)]; exact t.hp.a, by rw [B_other (by omega)]; exact t.hp.b⟩
  lf := by rw [B_other (by omega)]; exact t.lf
theorem TS.up (t : TS S j T cs G L past) (hj : j < S.length) (cs' : List Card) (G' : List Int) (past' : List (List Card × List Int)) : TS S j (upP T S.length cs' G' past') cs' G' L past' where
  len := by rw [upP_len]; exact t.len
  sn := t.sn.up t.hp.lt
  fr k h1 h2 := by rw [upP_ne (by omega) (by omega)]; exact t.fr k h1 h2
  bx := by
    obtain ⟨a, b, hb, e⟩ := t.bx
    exact ⟨a, b, hb, by rw [upP_ne (by omega) (by omega)]; exact e⟩
  hp := t.hp.up
  lf := by rw [upP_ne (by omega) (by omega)]; exact t.lf
theorem TS.left (t : TS S j T cs G L past) (hj : j < S.length) (L' : List Int) : TS S j (T.set (S.length + 2) (.lst (L'.map .int))) cs G L' past where
  len := by rw [List.length_set]; exact t.len
  sn := SN.set t.sn fun n _ => by simp
  fr k h1 h2 := by rw [List.getElem?_set_ne (by omega)]; exact t.fr k h1 h2
  bx := by
    obtain ⟨a, b, hb, e⟩ := t.bx
    exact ⟨a, b, hb, by rw [List.getElem?_set_ne (by omega)]; exact e⟩
  hp := ⟨by rw [List.getElem?_set_ne (by omega)]; exact t.hp.a, by rw [List.getElem?_set_ne (by omega)]; exact t.hp.b⟩
  lf := by rw [List.getElem?_set_self (by have := t.len; omega)]
def tE (S : Sto) (j : Nat) (cs : List Card) (ds : List Int) (x5 x6 x7 x8 x9 x10 : Option D) : PL.Env :=
  [some (rf j), some (.tuple (cs.map cD)), some (.tuple (ds.map .int)), some (rf S.length), some (rf (S.length + 2)), x5, x6, x7, x8, x9, x10]
/-- cards bought one behind the other -/
theorem buy_loop (n : Nat) (hj : j < S.length) (csA : List Card) (ds : List Int) (hcs : csA.length ≤ 8) (hall : csA.all cardB = true) (L : List Int) (ok : Sto → Prop) (hok : ∀ T, ok T) (x8 x9 x10 : Option D) : ∀ (rest pre : List Card) (T : Sto) (past : List (List Card × List Int)) (x5 x6 x7 : Option D), csA = pre ++ rest → past.length ≤ pre.length → TS S j T pre [] L past →
    ∃ (T' : Sto) (past' : List (List Card × List Int)) (y5 y6 y7 : Option D), past'.length ≤ csA.length ∧ TS S j T' csA [] L past' ∧ forL ok (putT (.tup [.name 5, .name 6, .name 7])) (fun ρ S => exs (callS gi fns (n + 5)) gi [.expr (.meth (.var 3) "Purse" "buy" [.var 5, .var 6, .var 7])] ρ S) (rest.map cD) (tE S j csA ds x5 x6 x7 x8 x9 x10) T
      = .next (tE S j csA ds y5 y6 y7 x8 x9 x10) T'
  | [], pre, T, past, x5, x6, x7, e, hp, t => by
    rw [List.append_nil] at e
    subst e
    exact ⟨T, past, x5, x6, x7, hp, t, by simp [forL, hok]⟩
  | (f, l, u) :: rest, pre, T, past, x5, x6, x7, e, hp, t => by
    have hb : cardB (f, l, u) = true := List.all_eq_true.mp hall _ (by rw [e]; simp)
    have hl : pre.length < 8 := by
      rw [e] at hcs
      simp at hcs
      omega
    have e1 := m_buy n t.hp t.sn (by omega) hl f l u hb
    obtain ⟨T', past', y5, y6, y7, z1, z2, ih⟩ := buy_loop n hj csA ds hcs hall L ok hok x8 x9 x10 rest (pre ++ [(f, l, u)]) _ (past ++ [(pre, [])]) (some (.int f)) (some (.int l)) (some (.int u)) (by rw [e]; simp) (by simp; omega) (t.up hj (pre ++ [(f, l, u)]) [] (past ++ [(pre, [])]))
    refine ⟨T', past', y5, y6, y7, z1, z2, ?_⟩
    rw [← ih, List.map_cons]
    refine forL_next (ρ' := tE S j csA ds (some (.int f)) (some (.int l)) (some (.int u)) x8 x9 x10) _ _ (hok _) (by unfold tE cD; simp [runF, e_var, e_int, e_bl, e_non, e_str, e_gint, e_tup, e_lst, e_dct, e_op, e_neg, e_cm, e_ch, e_isN, e_isB, e_and, e_or, e_not, e_ite, e_ix, e_sl, e_rev, e_bi, e_isi, e_call, e_new, e_meth, e_fld, e_bm, e_fstr, e_frz, e_said, e_sset, e_tupR, e_never, x_asg, x_expr, x_ret, x_retN, x_ite, x_raise, x_tryN, x_pass, x_never, x_nil, x_cons, es_nil, es_cons, eo_none, eo_some, ec_none, ec_some, a_name, a_tup, a_sub, as_nil, as_cons, p_name, p_tup, ps_nil, ps_cons, isiD, isi0, cmD, cmI, biD, bi1, bi2, biL, ixD, opD, addD, mulD, int2, wipe, fin_pure1, itemsD, heldD, isNm, kdD, bmD, allD, anyD, allocL]) ?_
    rw [x_cons, x_expr, ev_buy t.hp (by simp [tE, e_var])]
    simp only [es_cons, es_nil, e_var, tE, List.getElem?_cons_succ, List.getElem?_cons_zero, Out.bind_ok]
    rw [e1]
    simp [x_nil]
theorem erase_int (L : List Int) (d : Int) : (L.map PyData.int).eraseP (eqvR (.int d)) = (L.erase d).map .int := by
  induction L with
  | nil => rfl
  | cons x L ih =>
    rw [List.map_cons, List.eraseP_cons, List.erase_cons]
    have e : eqvR (.int d) (.int x) = (x == d) := by
      simp only [eqvR, eqv_int]
      rfl
    rw [e]
    by_cases q : (x == d) = true
    · simp [q]
    · have q' : (x == d) = false := by simpa using q
      simp [q', ih]
/-- a day put out so many times -/
theorem rem_loop (n : Nat) (hj : j < S.length) (csA : List Card) (ds : List Int) (d : Int) (ok : Sto → Prop) (hok : ∀ T, ok T) (x5 x6 x7 x9 : Option D) : ∀ (its : List D) (L : List Int) (T : Sto) (x10 : Option D), its.length ≤ L.count d → TS S j T cs G L past →
    ∃ (T' : Sto) (L' : List Int) (y10 : Option D), TS S j T' cs G L' past ∧ (List.replicate its.length d ++ L').Perm L ∧ forL ok (putT (.name 10)) (fun ρ S => exs (callS gi fns (n + 5)) gi [.expr (.bm (.var 4) .remove [.var 8])] ρ S) its (tE S j csA ds x5 x6 x7 (some (.int d)) x9 x10) T
      = .next (tE S j csA ds x5 x6 x7 (some (.int d)) x9 y10) T'
  | [], L, T, x10, _, t => ⟨T, L, x10, t, List.Perm.refl _, by simp [forL, hok]⟩
  | it :: its, L, T, x10, hc, t => by
    have hc' : its.length + 1 ≤ L.count d := by simpa using hc
    have hm : d ∈ L := List.count_pos_iff.mp (by omega)
    have ho : objL T (S.length + 2) = some (L.map .int) := objL_of t.lf
    have q : (L.map PyData.int).any (eqvR (.int d)) = true := List.any_eq_true.mpr ⟨.int d, List.mem_map.mpr ⟨d, hm, rfl⟩, by simp [eqvR, eqv_int]⟩
    have fo : findOk (.int d) (L.map .int) = true := by
      unfold findOk
      rw [eqOk_int, all_eqOk]
      rfl
    obtain ⟨T', L', y10, z1, z2, ih⟩ := rem_loop n hj csA ds d ok hok x5 x6 x7 x9 its (L.erase d) _ (some it) (by rw [List.count_erase_self]; omega) (t.left hj (L.erase d))
    refine ⟨T', L', y10, z1, ?_, ?_⟩
    · rw [List.length_cons, List.replicate_succ]
      exact (z2.cons d).trans (List.perm_cons_erase hm).symm
    · rw [← ih]
      refine forL_next (ρ' := tE S j csA ds x5 x6 x7 (some (.int d)) x9 (some it)) _ _ (hok _) (by unfold tE; simp [runF, e_var, e_int, e_bl, e_non, e_str, e_gint, e_tup, e_lst, e_dct, e_op, e_neg, e_cm, e_ch, e_isN, e_isB, e_and, e_or, e_not, e_ite, e_ix, e_sl, e_rev, e_bi, e_isi, e_call, e_new, e_meth, e_fld, e_bm, e_fstr, e_frz, e_said, e_sset, e_tupR, e_never, x_asg, x_expr, x_ret, x_retN, x_ite, x_raise, x_tryN, x_pass, x_never, x_nil, x_cons, es_nil, es_cons, eo_none, eo_some, ec_none, ec_some, a_name, a_tup, a_sub, as_nil, as_cons, p_name, p_tup, ps_nil, ps_cons, isiD, isi0, cmD, cmI, biD, bi1, bi2, biL, ixD, opD, addD, mulD, int2, wipe, fin_pure1, itemsD, heldD, isNm, kdD, bmD, allD, anyD, allocL]) ?_
      rw [x_cons, x_expr, e_bm]
      simp only [e_var, tE, List.getElem?_cons_succ, List.getElem?_cons_zero, Out.bind_ok, es_cons, es_nil]
      rw [if_pos (by simp [kdD, ho])]
      simp only [bmD, updL, asRef_rf, ho, Option.bind_some, fo, q, Bool.and_self, if_true, erase_int]
      simp [x_nil]
end
end K33
end

section
set_option Elab.async false
set_option linter.all false
set_option maxRecDepth 100000
set_option maxHeartbeats 1000000
namespace K33
open PySem PL TT
theorem count_int (L : List Int) (d : Int) : (L.map PyData.int).countP (eqvR (.int d)) = L.count d := by
  rw [List.countP_map, List.count]
  refine List.countP_congr fun x _ => ?_
  simp [eqvR, eqv_int]
theorem count_int' (L : List Int) (d : Int) : L.countP (eqvR (.int d) ∘ PyData.int) = L.count d := by rw [← List.countP_map, count_int]
section
variable {S : Sto} {j : Nat} {cs : List Card}
theorem tw_last (n : Nat) (hj : j < S.length) (csA : List Card) (ds : List Int) (hc : csA.length ≤ 8) {T : Sto} {G L : List Int} {past : List (List Card × List Int)} (t : TS S j T cs G L past) (d : Int) (hd : dayB d = true) (hm : d ∈ G) (hG : G.Pairwise (· ≤ ·)) (hl : G.length ≤ 24) (hp : past.length ≤ 900) (x5 x6 x7 x9 x10 : Option D) :
    ∃ (T' : Sto) (past' : List (List Card × List Int)), TS S j T' cs G L past' ∧ past'.length ≤ past.length + 2 ∧ ex (callS gi fns (n + 5)) gi tw4 (tE S j csA ds x5 x6 x7 (some (.int d)) x9 x10) T = .next (tE S j csA ds x5 x6 x7 (some (.int d)) x9 x10) T' := by
  have ho : objL T (S.length + 2) = some (L.map .int) := objL_of t.lf
  by_cases q : (L.length : Int) % 4 = 0
  · obtain ⟨k, a', b', hb, u, v, e1⟩ := takeR (n + 4) t.bx t.sn 2 (by omega) (by omega)
    have t1 := t.take hj hb
    by_cases q2 : k = 0
    · obtain ⟨A, C, eG, e2⟩ := m_miss n t1.hp t1.sn (by omega) d hd hm hl
      have t2 := t1.up hj cs (A ++ C) (past ++ [(cs, G)])
      have hAC : (A ++ C).length + 1 ≤ 24 := by
        rw [eG] at hl
        simp at hl ⊢
        omega
      have e3 := m_come n t2.hp t2.sn (by simp; omega) d 1 hd (by omega) hAC
      have eq : isort ((A ++ C) ++ List.replicate 1 d) = G := by
        refine isort_eq ?_ hG
        rw [eG]
        refine List.perm_middle.trans ?_
        exact (List.perm_append_comm (l₁ := [d]) (l₂ := A ++ C))
      rw [eq] at e3
      have t3 := t2.up hj cs G (past ++ [(cs, G)] ++ [(cs, A ++ C)])
      refine ⟨_, _, t3, by simp, ?_⟩
      have c0 : ev (callS gi fns (n + 5)) gi (.and (.cm .eq (.op .mod (.bi .len [.var 4]) (.int 4)) (.int 0)) (.cm .eq (.call "_law_take" [.var 0, .int 2]) (.int 0))) (tE S j csA ds x5 x6 x7 (some (.int d)) x9 x10) T = .ok (.bool true) (B T j a' b') := by
        unfold tE
        simp [runF, e_var, e_int, e_bl, e_non, e_str, e_gint, e_tup, e_lst, e_dct, e_op, e_neg, e_cm, e_ch, e_isN, e_isB, e_and, e_or, e_not, e_ite, e_ix, e_sl, e_rev, e_bi, e_isi, e_call, e_new, e_meth, e_fld, e_bm, e_fstr, e_frz, e_said, e_sset, e_tupR, e_never, x_asg, x_expr, x_ret, x_retN, x_ite, x_raise, x_tryN, x_pass, x_never, x_nil, x_cons, es_nil, es_cons, eo_none, eo_some, ec_none, ec_some, a_name, a_tup, a_sub, as_nil, as_cons, p_name, p_tup, ps_nil, ps_cons, isiD, isi0, cmD, cmI, biD, bi1, bi2, biL, ixD, opD, addD, mulD, int2, wipe, fin_pure1, itemsD, heldD, isNm, kdD, bmD, allD, anyD, allocL, ho, eqD_int, q, e1, q2]
      unfold tw4
      rw [x_ite, c0]
      simp only [Out.st_ok]
      rw [x_cons, x_expr, ev_miss t1.hp (by simp [tE, e_var])]
      simp only [es_cons, es_nil, e_var, tE, List.getElem?_cons_succ, List.getElem?_cons_zero, Out.bind_ok]
      rw [e2]
      simp only [Out.st_ok, SOut.seq_next]
      rw [x_cons, x_expr, ev_come t2.hp (by simp [e_var])]
      simp only [es_cons, es_nil, e_var, e_int, List.getElem?_cons_succ, List.getElem?_cons_zero, Out.bind_ok]
      have e4 : ((1 : Nat) : Int) = 1 := rfl
      rw [e4] at e3
      rw [e3]
      simp [x_nil]
    · refine ⟨_, past, t1, by omega, ?_⟩
      unfold tw4 tE
      simp [runF, e_var, e_int, e_bl, e_non, e_str, e_gint, e_tup, e_lst, e_dct, e_op, e_neg, e_cm, e_ch, e_isN, e_isB, e_and, e_or, e_not, e_ite, e_ix, e_sl, e_rev, e_bi, e_isi, e_call, e_new, e_meth, e_fld, e_bm, e_fstr, e_frz, e_said, e_sset, e_tupR, e_never, x_asg, x_expr, x_ret, x_retN, x_ite, x_raise, x_tryN, x_pass, x_never, x_nil, x_cons, es_nil, es_cons, eo_none, eo_some, ec_none, ec_some, a_name, a_tup, a_sub, as_nil, as_cons, p_name, p_tup, ps_nil, ps_cons, isiD, isi0, cmD, cmI, biD, bi1, bi2, biL, ixD, opD, addD, mulD, int2, wipe, fin_pure1, itemsD, heldD, isNm, kdD, bmD, allD, anyD, allocL, ho, eqD_int, q, e1, q2]
  · refine ⟨T, past, t, by omega, ?_⟩
    unfold tw4 tE
    simp [runF, e_var, e_int, e_bl, e_non, e_str, e_gint, e_tup, e_lst, e_dct, e_op, e_neg, e_cm, e_ch, e_isN, e_isB, e_and, e_or, e_not, e_ite, e_ix, e_sl, e_rev, e_bi, e_isi, e_call, e_new, e_meth, e_fld, e_bm, e_fstr, e_frz, e_said, e_sset, e_tupR, e_never, x_asg, x_expr, x_ret, x_retN, x_ite, x_raise, x_tryN, x_pass, x_never, x_nil, x_cons, es_nil, es_cons, eo_none, eo_some, ec_none, ec_some, a_name, a_tup, a_sub, as_nil, as_cons, p_name, p_tup, ps_nil, ps_cons, isiD, isi0, cmD, cmI, biD, bi1, bi2, biL, ixD, opD, addD, mulD, int2, wipe, fin_pure1, itemsD, heldD, isNm, kdD, bmD, allD, anyD, allocL, ho, eqD_int, q]
theorem tw_turn (n : Nat) (hj : j < S.length) (ds : List Int) (hc : cs.length ≤ 8) (hds : ds.length ≤ 24) (hall : ds.all dayB = true) {T : Sto} {G L : List Int} {past : List (List Card × List Int)} (t : TS S j T cs G L past) (hG : G.Pairwise (· ≤ ·)) (hp : (G ++ L).Perm ds) (hL : L ≠ []) (hpl : past.length ≤ 800) (x5 x6 x7 x8 x9 x10 : Option D) :
    ∃ (T' : Sto) (G' L' : List Int) (past' : List (List Card × List Int)) (y8 y9 y10 : Option D), TS S j T' cs G' L' past' ∧ G'.Pairwise (· ≤ ·) ∧ (G' ++ L').Perm ds ∧ L'.length < L.length ∧ past'.length ≤ past.length + 3 ∧
      exs (callS gi fns (n + 5)) gi tw (tE S j cs ds x5 x6 x7 x8 x9 x10) T = .next (tE S j cs ds x5 x6 x7 y8 y9 y10) T' := by
  have hlen : G.length + L.length ≤ 24 := by
    have := hp.length_eq
    rw [List.length_append] at this
    omega
  have hl1 : 1 ≤ L.length := by
    cases L with
    | nil => exact absurd rfl hL
    | cons _ _ => simp
  have ho : objL T (S.length + 2) = some (L.map .int) := objL_of t.lf
  obtain ⟨k, a1, b1, hb1, u1, v1, e1⟩ := takeR (n + 4) t.bx t.sn L.length (by omega) (by omega)
  obtain ⟨i, rfl⟩ : ∃ i : Nat, k = i := ⟨k.toNat, by omega⟩
  have t1 := t.take hj hb1
  have ho1 : objL (B T j a1 b1) (S.length + 2) = some (L.map .int) := objL_of t1.lf
  have hi : i < L.length := by omega
  obtain ⟨d, ed⟩ : ∃ d, L[i]? = some d := ⟨_, List.getElem?_eq_getElem hi⟩
  have hmL : d ∈ L := List.mem_of_getElem? ed
  have hd : dayB d = true := List.all_eq_true.mp hall d (hp.mem_iff.mp (List.mem_append_right _ hmL))
  have s0 : ex (callS gi fns (n + 5)) gi tw0 (tE S j cs ds x5 x6 x7 x8 x9 x10) T = .next (tE S j cs ds x5 x6 x7 (some (.int d)) x9 x10) (B T j a1 b1) := by
    unfold tw0 tE
    simp [runF, e_var, e_int, e_bl, e_non, e_str, e_gint, e_tup, e_lst, e_dct, e_op, e_neg, e_cm, e_ch, e_isN, e_isB, e_and, e_or, e_not, e_ite, e_ix, e_sl, e_rev, e_bi, e_isi, e_call, e_new, e_meth, e_fld, e_bm, e_fstr, e_frz, e_said, e_sset, e_tupR, e_never, x_asg, x_expr, x_ret, x_retN, x_ite, x_raise, x_tryN, x_pass, x_never, x_nil, x_cons, es_nil, es_cons, eo_none, eo_some, ec_none, ec_some, a_name, a_tup, a_sub, as_nil, as_cons, p_name, p_tup, ps_nil, ps_cons, isiD, isi0, cmD, cmI, biD, bi1, bi2, biL, ixD, opD, addD, mulD, int2, wipe, fin_pure1, itemsD, heldD, isNm, kdD, bmD, allD, anyD, allocL, ho, e1, ho1, atI_nat, ed]
  obtain ⟨k2, a2, b2, hb2, u2, v2, e2⟩ := takeR (n + 4) t1.bx t1.sn 2 (by omega) (by omega)
  have t2 := t1.take hj hb2
  have ho2 : objL (B (B T j a1 b1) j a2 b2) (S.length + 2) = some (L.map .int) := objL_of t2.lf
  have hcp : 1 ≤ L.count d := List.count_pos_iff.mpr hmL
  obtain ⟨m, hm1, hm2, s1⟩ : ∃ m : Nat, 1 ≤ m ∧ m ≤ L.count d ∧ ex (callS gi fns (n + 5)) gi tw1 (tE S j cs ds x5 x6 x7 (some (.int d)) x9 x10) (B T j a1 b1) = .next (tE S j cs ds x5 x6 x7 (some (.int d)) (some (.int m)) x10) (B (B T j a1 b1) j a2 b2) := by
    have fo : findOk (.int d) (L.map .int) = true := by
      unfold findOk
      rw [eqOk_int, all_eqOk]
      rfl
    by_cases q : k2 = 0
    · refine ⟨L.count d, hcp, Nat.le_refl _, ?_⟩
      unfold tw1 tE
      simp [runF, e_var, e_int, e_bl, e_non, e_str, e_gint, e_tup, e_lst, e_dct, e_op, e_neg, e_cm, e_ch, e_isN, e_isB, e_and, e_or, e_not, e_ite, e_ix, e_sl, e_rev, e_bi, e_isi, e_call, e_new, e_meth, e_fld, e_bm, e_fstr, e_frz, e_said, e_sset, e_tupR, e_never, x_asg, x_expr, x_ret, x_retN, x_ite, x_raise, x_tryN, x_pass, x_never, x_nil, x_cons, es_nil, es_cons, eo_none, eo_some, ec_none, ec_some, a_name, a_tup, a_sub, as_nil, as_cons, p_name, p_tup, ps_nil, ps_cons, isiD, isi0, cmD, cmI, biD, bi1, bi2, biL, ixD, opD, addD, mulD, int2, wipe, fin_pure1, itemsD, heldD, isNm, kdD, bmD, allD, anyD, allocL, e2, eqD_int, q, ho2, fo, count_int, count_int']
    · refine ⟨1, Nat.le_refl _, hcp, ?_⟩
      unfold tw1 tE
      simp [runF, e_var, e_int, e_bl, e_non, e_str, e_gint, e_tup, e_lst, e_dct, e_op, e_neg, e_cm, e_ch, e_isN, e_isB, e_and, e_or, e_not, e_ite, e_ix, e_sl, e_rev, e_bi, e_isi, e_call, e_new, e_meth, e_fld, e_bm, e_fstr, e_frz, e_said, e_sset, e_tupR, e_never, x_asg, x_expr, x_ret, x_retN, x_ite, x_raise, x_tryN, x_pass, x_never, x_nil, x_cons, es_nil, es_cons, eo_none, eo_some, ec_none, ec_some, a_name, a_tup, a_sub, as_nil, as_cons, p_name, p_tup, ps_nil, ps_cons, isiD, isi0, cmD, cmI, biD, bi1, bi2, biL, ixD, opD, addD, mulD, int2, wipe, fin_pure1, itemsD, heldD, isNm, kdD, bmD, allD, anyD, allocL, e2, eqD_int, q]
  have hcl : L.count d ≤ L.length := List.count_le_length
  have e3 := m_come n t2.hp t2.sn (by omega) d m hd hm1 (by omega)
  have t3 := t2.up hj cs (isort (G ++ List.replicate m d)) (past ++ [(cs, G)])
  have s2 : ex (callS gi fns (n + 5)) gi tw2 (tE S j cs ds x5 x6 x7 (some (.int d)) (some (.int m)) x10) (B (B T j a1 b1) j a2 b2) = .next (tE S j cs ds x5 x6 x7 (some (.int d)) (some (.int m)) x10) (upP (B (B T j a1 b1) j a2 b2) S.length cs (isort (G ++ List.replicate m d)) (past ++ [(cs, G)])) := by
    unfold tw2
    rw [x_expr, ev_come t2.hp (by simp [tE, e_var])]
    simp only [es_cons, es_nil, e_var, tE, List.getElem?_cons_succ, List.getElem?_cons_zero, Out.bind_ok]
    rw [e3]
    rfl
  have hrl : (rangeL (m : Int)).length = m := by simp [rangeL]
  obtain ⟨T4, L', y10, t4, pL, e4⟩ := rem_loop n hj cs ds d (Wk.ok ⟨rangeL m, [], false⟩) (fun T => by simp) x5 x6 x7 (some (.int m)) (rangeL m) L _ x10 (by rw [hrl]; exact hm2) t3
  rw [hrl] at pL
  have s3 : ex (callS gi fns (n + 5)) gi tw3 (tE S j cs ds x5 x6 x7 (some (.int d)) (some (.int m)) x10) (upP (B (B T j a1 b1) j a2 b2) S.length cs (isort (G ++ List.replicate m d)) (past ++ [(cs, G)])) = .next (tE S j cs ds x5 x6 x7 (some (.int d)) (some (.int m)) y10) T4 := by
    unfold tw3
    rw [x_for (w := ⟨rangeL m, [], false⟩) (ei_range (i := (m : Int)) (by simp [tE, e_var]) (by unfold bigD; omega)) rfl]
    exact e4
  have pG := isort_perm' (G ++ List.replicate m d)
  obtain ⟨T5, past5, t5, hp5, s4⟩ := tw_last n hj cs ds hc t4 d hd (pG.mem_iff.mpr (List.mem_append_right _ (List.mem_replicate.mpr ⟨by omega, rfl⟩))) (isort_sorted' _) (by rw [pG.length_eq, List.length_append, List.length_replicate]; omega) (by simp; omega) x5 x6 x7 (some (.int m)) y10
  refine ⟨T5, isort (G ++ List.replicate m d), L', past5, some (.int d), some (.int m), y10, t5, isort_sorted' _, ?_, ?_, by simp at hp5; omega, ?_⟩
  · refine (pG.append_right L').trans ?_
    rw [List.append_assoc]
    exact (pL.append_left G).trans hp
  · have := pL.length_eq
    rw [List.length_append, List.length_replicate] at this
    omega
  · unfold tw
    rw [x_cons, s0, SOut.seq_next, x_cons, s1, SOut.seq_next, x_cons, s2, SOut.seq_next, x_cons, s3, SOut.seq_next, x_cons, s4, SOut.seq_next, x_nil]
theorem tw_loop (n : Nat) (hj : j < S.length) (ds : List Int) (hc : cs.length ≤ 8) (hds : ds.length ≤ 24) (hall : ds.all dayB = true) (x5 x6 x7 : Option D) : ∀ (k f : Nat) (T : Sto) (G L : List Int) (past : List (List Card × List Int)) (x8 x9 x10 : Option D), k < f → L.length ≤ k → k ≤ 24 → past.length ≤ 100 + 3 * (24 - k) → TS S j T cs G L past → G.Pairwise (· ≤ ·) → (G ++ L).Perm ds →
    ∃ (T' : Sto) (G' : List Int) (past' : List (List Card × List Int)) (y8 y9 y10 : Option D), TS S j T' cs G' [] past' ∧ past'.length ≤ 200 ∧ G'.Pairwise (· ≤ ·) ∧ G'.Perm ds ∧ whileL (fun ρ S => ev (callS gi fns (n + 5)) gi (.cm .ne (.var 4) (.lst false [])) ρ S) (fun ρ S => exs (callS gi fns (n + 5)) gi tw ρ S) f (tE S j cs ds x5 x6 x7 x8 x9 x10) T
      = .next (tE S j cs ds x5 x6 x7 y8 y9 y10) T'
  | k, 0, T, G, L, past, x8, x9, x10, h, _, _, _, _, _, _ => by omega
  | k, f + 1, T, G, L, past, x8, x9, x10, h, hk, hk2, hpl, t, hG, hp => by
    have ho : objL T (S.length + 2) = some (L.map .int) := objL_of t.lf
    have q := eqD_rf0 T (S.length + 2) _ ho (int_fine L)
    have c : ev (callS gi fns (n + 5)) gi (.cm .ne (.var 4) (.lst false [])) (tE S j cs ds x5 x6 x7 x8 x9 x10) T = .ok (.bool (!decide (L.map PyData.int = []))) T := by
      simp only [e_cm, e_var, e_lst, es_nil, tE, List.getElem?_cons_succ, List.getElem?_cons_zero, Out.bind_ok, cmD, allocL, List.length_nil, Nat.zero_le, if_true, Bool.false_eq_true, if_false, q, Option.map_some, oret_some]
    unfold whileL
    rw [c]
    by_cases hL : L = []
    · subst hL
      rw [List.append_nil] at hp
      exact ⟨T, G, past, x8, x9, x10, t, by omega, hG, hp, by simp⟩
    · have q2 : ¬ (L.map PyData.int = []) := by simpa using hL
      obtain ⟨T', G', L', past', y8, y9, y10, z1, z2, z3, z4, z5, e⟩ := tw_turn n hj ds hc hds hall t hG hp hL (by omega) x5 x6 x7 x8 x9 x10
      cases k with
      | zero => omega
      | succ k =>
        obtain ⟨T2, G2, past2, w8, w9, w10, w1, w2, w3, w4, ih⟩ := tw_loop n hj ds hc hds hall x5 x6 x7 k f T' G' L' past' y8 y9 y10 (by omega) (by omega) (by omega) (by omega) z1 z2 z3
        refine ⟨T2, G2, past2, w8, w9, w10, w1, w2, w3, w4, ?_⟩
        simp only [q2, decide_false, Bool.not_false, Out.st_ok]
        rw [e, SOut.seq_next]
        exact ih
theorem m_told (n : Nat) (hj : j < S.length) (sn : SN S) (bx : Bx S j) (ds : List Int) (h : okIn cs ds) :
    ∃ (T : Sto) (past : List (List Card × List Int)), past.length ≤ 200 ∧ TS S j T cs ds [] past ∧ callS gi fns (n + 6) "_law_told" [rf j, .tuple (cs.map cD), .tuple (ds.map .int)] S = .ok (rf S.length) T := by
  obtain ⟨h1, h2, h3, h4, h5⟩ := h
  have hl : ds.length ≤ lim := by rw [lim_eq]; omega
  have t0 : TS S j (S ++ [pu S.length [] [], pa [], .lst (ds.map .int)]) [] [] ds [] := by
    refine ⟨by simp, fun k hk => ?_, fun k hk _ => by rw [List.getElem?_append_left hk], ?_, ⟨by simp, by simp [List.getElem?_append_right]⟩, by simp [List.getElem?_append_right]⟩
    · rw [List.length_append] at hk
      simp only [List.length_cons, List.length_nil] at hk
      rw [List.all_append, sn k (by omega)]
      simp only [List.all_cons, List.all_nil, Bool.and_true, Bool.true_and, Bool.and_eq_true]
      exact ⟨refO_pu k (by omega), refO_pa k, refO_ints k ds⟩
    · obtain ⟨a, b, hb, e⟩ := bx
      exact ⟨a, b, hb, by rw [List.getElem?_append_left hj]; exact e⟩
  obtain ⟨T1, past1, y5, y6, y7, p1, t1, e1⟩ := buy_loop n hj cs ds h1 h2 ds (Wk.ok ⟨cs.map cD, [], false⟩) (fun T => by simp) none none none cs [] _ [] none none none rfl (Nat.le_refl _) t0
  obtain ⟨T2, G, past2, y8, y9, y10, t2, p2, hG, hp, e2⟩ := tw_loop n hj ds h1 h3 h4 y5 y6 y7 24 wfuel T1 [] ds past1 none none none (by decide) h3 (Nat.le_refl _) (by omega) t1 .nil (List.Perm.refl _)
  have eG : G = ds := by
    have := isort_eq hp hG
    rw [isort_id h5] at this
    exact this.symm
  subst eG
  refine ⟨T2, past2, p2, t2, ?_⟩
  have s0 : ex (callS gi fns (n + 5)) gi td0 [some (rf j), some (.tuple (cs.map cD)), some (.tuple (G.map .int)), none, none, none, none, none, none, none, none] S = .next (tE S j cs G none none none none none none) (S ++ [pu S.length [] [], pa [], .lst (G.map .int)]) := by
    have e := m_new (n + 4) S
    unfold td0 tE
    simp [runF, e_var, e_int, e_bl, e_non, e_str, e_gint, e_tup, e_lst, e_dct, e_op, e_neg, e_cm, e_ch, e_isN, e_isB, e_and, e_or, e_not, e_ite, e_ix, e_sl, e_rev, e_bi, e_isi, e_call, e_new, e_meth, e_fld, e_bm, e_fstr, e_frz, e_said, e_sset, e_tupR, e_never, x_asg, x_expr, x_ret, x_retN, x_ite, x_raise, x_tryN, x_pass, x_never, x_nil, x_cons, es_nil, es_cons, eo_none, eo_some, ec_none, ec_some, a_name, a_tup, a_sub, as_nil, as_cons, p_name, p_tup, ps_nil, ps_cons, isiD, isi0, cmD, cmI, biD, bi1, bi2, biL, ixD, opD, addD, mulD, int2, wipe, fin_pure1, itemsD, heldD, isNm, kdD, bmD, allD, anyD, allocL, nm_init, e, lm2, hl]
  have s1 : ex (callS gi fns (n + 5)) gi td1 (tE S j cs G none none none none none none) (S ++ [pu S.length [] [], pa [], .lst (G.map .int)]) = .next (tE S j cs G y5 y6 y7 none none none) T1 := by
    unfold td1
    rw [x_for (w := ⟨cs.map cD, [], false⟩) (ei_seqT (by simp [tE, e_var])) rfl]
    exact e1
  have s2 : ex (callS gi fns (n + 5)) gi td2 (tE S j cs G y5 y6 y7 none none none) T1 = .next (tE S j cs G y5 y6 y7 y8 y9 y10) T2 := by
    have : td2 = .while_ (.cm .ne (.var 4) (.lst false [])) tw := rfl
    rw [this, x_while]
    exact e2
  rw [callS_fn (F := f__law_told) (by kernel_rfl)]
  unfold runF
  have el : [rf j, PyData.tuple (cs.map cD), .tuple (G.map .int)].map some ++ List.replicate (f__law_told.nn - f__law_told.np) none = [some (rf j), some (.tuple (cs.map cD)), some (.tuple (G.map .int)), none, none, none, none, none, none, none, none] := rfl
  rw [el]
  refine (if_pos rfl).trans ?_
  have sa : exs (callS gi fns (n + 5)) gi f__law_told.body [some (rf j), some (.tuple (cs.map cD)), some (.tuple (G.map .int)), none, none, none, none, none, none, none, none] S = .ret (rf S.length) T2 := by
    show exs _ _ (td0 :: td1 :: td2 :: [td3]) _ _ = _
    rw [x_cons, s0, SOut.seq_next, x_cons, s1, SOut.seq_next, x_cons, s2, SOut.seq_next]
    unfold td3 tE
    simp [runF, e_var, e_int, e_bl, e_non, e_str, e_gint, e_tup, e_lst, e_dct, e_op, e_neg, e_cm, e_ch, e_isN, e_isB, e_and, e_or, e_not, e_ite, e_ix, e_sl, e_rev, e_bi, e_isi, e_call, e_new, e_meth, e_fld, e_bm, e_fstr, e_frz, e_said, e_sset, e_tupR, e_never, x_asg, x_expr, x_ret, x_retN, x_ite, x_raise, x_tryN, x_pass, x_never, x_nil, x_cons, es_nil, es_cons, eo_none, eo_some, ec_none, ec_some, a_name, a_tup, a_sub, as_nil, as_cons, p_name, p_tup, ps_nil, ps_cons, isiD, isi0, cmD, cmI, biD, bi1, bi2, biL, ixD, opD, addD, mulD, int2, wipe, fin_pure1, itemsD, heldD, isNm, kdD, bmD, allD, anyD, allocL]
  rw [sa]
  simp only [fin]
  rfl
end
end K33
end

section
set_option Elab.async false
set_option linter.all false
set_option maxRecDepth 100000
set_option maxHeartbeats 1000000
namespace K33
open PySem PL TT
def lw0 : St := .asg (.name 2) (.call "_law_box" [.var 0, .var 1])
def lw1 : St := .for_ (.name 3) (.range (.int 2)) [.asg (.tup [.name 5, .name 6]) (.tup [.call "_law_cards" [.var 2], .call "_law_comings" [.var 2]]), .asg (.tup [.name 7, .name 8]) (.tup [.call "_law_told" [.var 2, .var 5, .var 6], .call "_law_told" [.var 2, .var 5, .var 6]]), .ite (.or (.not (.isB false (.ite (.isi (.var 8) (.cls "Purse")) (.meth (.var 7) "Purse" "__eq__" [.var 8]) .never) (.bl true))) (.or (.cm .ne (.meth (.var 7) "Purse" "taken" []) (.meth (.var 8) "Purse" "taken" [])) (.cm .ne (.meth (.var 7) "Purse" "days" []) (.var 6)))) [.ret (.bl false)] [], .ite (.cm .ne (.op .sub (.op .add (.bi .sum [.meth (.var 7) "Purse" "left" []]) (.bi .len [.var 6])) (.meth (.var 7) "Purse" "lost" [])) (.bi .sum [.comp false (.ix (.var 11) (.int 2)) [11] (.name 11) (.seq (.var 5)) none])) [.ret (.bl false)] [], .ite (.or (.cm .ne (.call "shown_by" [.var 5, .var 6, .meth (.var 7) "Purse" "paper" []]) (.meth (.var 7) "Purse" "lost" [])) (.cm .ne (.meth (.var 7) "Purse" "lost" []) (.call "lost" [.var 5, .var 6]))) [.ret (.bl false)] [], .ite (.isB true (.call "is_taking" [.var 5, .var 6, .meth (.var 7) "Purse" "taken" []]) (.bl true)) [.ret (.bl false)] [], .asg (.tup [.name 9, .name 10]) (.tup [.call "_law_take" [.var 2, .int 60], .meth (.var 7) "Purse" "lost" []]), .asg (.name 4) (.meth (.var 7) "Purse" "room" [.var 9]), .ite (.ch .lt .le (.int 0) (.var 4) (.op .sub (.int 24) (.bi .len [.var 6]))) [.expr (.meth (.var 7) "Purse" "come" [.var 9, .var 4]), .ite (.or (.cm .ne (.meth (.var 7) "Purse" "lost" []) (.var 10)) (.cm .ne (.meth (.var 7) "Purse" "room" [.var 9]) (.int 0))) [.ret (.bl false)] [], .expr (.meth (.var 7) "Purse" "undo" [])] [], .ite (.and (.cm .lt (.bi .len [.var 6]) (.int 24)) (.cm .eq (.var 4) (.int 0))) [.expr (.meth (.var 7) "Purse" "come" [.var 9, .int 1]), .ite (.cm .ne (.meth (.var 7) "Purse" "lost" []) (.op .add (.var 10) (.int 1))) [.ret (.bl false)] [], .expr (.meth (.var 7) "Purse" "undo" [])] [], .ite (.cm .lt (.bi .len [.var 5]) (.int 8)) [.expr (.meth (.var 7) "Purse" "buy" [.int 0, .int 59, .int 10]), .ite (.or (.cm .gt (.meth (.var 7) "Purse" "lost" []) (.var 10)) (.or (.and (.cm .gt (.var 10) (.int 10)) (.cm .ne (.meth (.var 7) "Purse" "lost" []) (.op .sub (.var 10) (.int 10)))) (.and (.cm .le (.var 10) (.int 10)) (.cm .ne (.meth (.var 7) "Purse" "lost" []) (.int 0))))) [.ret (.bl false)] [], .expr (.meth (.var 7) "Purse" "undo" [])] [], .ite (.not (.isB false (.ite (.isi (.var 8) (.cls "Purse")) (.meth (.var 7) "Purse" "__eq__" [.var 8]) .never) (.bl true))) [.ret (.bl false)] []]
def lw : List St := [lw0, lw1]
def ka0 : St := .asg (.tup [.name 5, .name 6]) (.tup [.call "_law_cards" [.var 2], .call "_law_comings" [.var 2]])
def ka1 : St := .asg (.tup [.name 7, .name 8]) (.tup [.call "_law_told" [.var 2, .var 5, .var 6], .call "_law_told" [.var 2, .var 5, .var 6]])
def ka2 : St := .ite (.or (.not (.isB false (.ite (.isi (.var 8) (.cls "Purse")) (.meth (.var 7) "Purse" "__eq__" [.var 8]) .never) (.bl true))) (.or (.cm .ne (.meth (.var 7) "Purse" "taken" []) (.meth (.var 8) "Purse" "taken" [])) (.cm .ne (.meth (.var 7) "Purse" "days" []) (.var 6)))) [.ret (.bl false)] []
def ka3 : St := .ite (.cm .ne (.op .sub (.op .add (.bi .sum [.meth (.var 7) "Purse" "left" []]) (.bi .len [.var 6])) (.meth (.var 7) "Purse" "lost" [])) (.bi .sum [.comp false (.ix (.var 11) (.int 2)) [11] (.name 11) (.seq (.var 5)) none])) [.ret (.bl false)] []
def ka4 : St := .ite (.or (.cm .ne (.call "shown_by" [.var 5, .var 6, .meth (.var 7) "Purse" "paper" []]) (.meth (.var 7) "Purse" "lost" [])) (.cm .ne (.meth (.var 7) "Purse" "lost" []) (.call "lost" [.var 5, .var 6]))) [.ret (.bl false)] []
def ka5 : St := .ite (.isB true (.call "is_taking" [.var 5, .var 6, .meth (.var 7) "Purse" "taken" []]) (.bl true)) [.ret (.bl false)] []
def ka6 : St := .asg (.tup [.name 9, .name 10]) (.tup [.call "_law_take" [.var 2, .int 60], .meth (.var 7) "Purse" "lost" []])
def ka7 : St := .asg (.name 4) (.meth (.var 7) "Purse" "room" [.var 9])
def ka8 : St := .ite (.ch .lt .le (.int 0) (.var 4) (.op .sub (.int 24) (.bi .len [.var 6]))) [.expr (.meth (.var 7) "Purse" "come" [.var 9, .var 4]), .ite (.or (.cm .ne (.meth (.var 7) "Purse" "lost" []) (.var 10)) (.cm .ne (.meth (.var 7) "Purse" "room" [.var 9]) (.int 0))) [.ret (.bl false)] [], .expr (.meth (.var 7) "Purse" "undo" [])] []
def ka9 : St := .ite (.and (.cm .lt (.bi .len [.var 6]) (.int 24)) (.cm .eq (.var 4) (.int 0))) [.expr (.meth (.var 7) "Purse" "come" [.var 9, .int 1]), .ite (.cm .ne (.meth (.var 7) "Purse" "lost" []) (.op .add (.var 10) (.int 1))) [.ret (.bl false)] [], .expr (.meth (.var 7) "Purse" "undo" [])] []
def ka10 : St := .ite (.cm .lt (.bi .len [.var 5]) (.int 8)) [.expr (.meth (.var 7) "Purse" "buy" [.int 0, .int 59, .int 10]), .ite (.or (.cm .gt (.meth (.var 7) "Purse" "lost" []) (.var 10)) (.or (.and (.cm .gt (.var 10) (.int 10)) (.cm .ne (.meth (.var 7) "Purse" "lost" []) (.op .sub (.var 10) (.int 10)))) (.and (.cm .le (.var 10) (.int 10)) (.cm .ne (.meth (.var 7) "Purse" "lost" []) (.int 0))))) [.ret (.bl false)] [], .expr (.meth (.var 7) "Purse" "undo" [])] []
def ka11 : St := .ite (.not (.isB false (.ite (.isi (.var 8) (.cls "Purse")) (.meth (.var 7) "Purse" "__eq__" [.var 8]) .never) (.bl true))) [.ret (.bl false)] []
def ka : List St := [ka0, ka1, ka2, ka3, ka4, ka5, ka6, ka7, ka8, ka9, ka10, ka11]
def kE (ns : List Int) (k : Int) (j : Nat) (x3 x4 x5 x6 x7 x8 x9 x10 x11 : Option D) : PL.Env := [some (scr (ns.map .int)), some (.int k), some (rf j), x3, x4, x5, x6, x7, x8, x9, x10, x11]
abbrev csD (cs : List Card) : Option D := some (.tuple (cs.map cD))
abbrev dsD (ds : List Int) : Option D := some (.tuple (ds.map .int))
structure LW (j p1 p2 : Nat) (T : Sto) (cs : List Card) (ds : List Int) (past1 past2 : List (List Card × List Int)) : Prop where
  sn : SN T
  bx : Bx T j
  h1 : HasP T p1 cs ds past1
  h2 : HasP T p2 cs ds past2
  n1 : j ≠ p1
  n2 : j ≠ p1 + 1
  n3 : j ≠ p2
  n4 : j ≠ p2 + 1
  l1 : past1.length ≤ 200
section
variable {ns : List Int} {k : Int} {T : Sto} {j p1 p2 : Nat} {cs : List Card} {ds : List Int} {past1 past2 : List (List Card × List Int)}
theorem LW.take (w : LW j p1 p2 T cs ds past1 past2) {a b : Int} (hb : okB a b) : LW j p1 p2 (B T j a b) cs ds past1 past2 where
  sn := w.sn.setB
  bx := by
    obtain ⟨_, _, _, e⟩ := w.bx
    exact ⟨a, b, hb, B_get (List.getElem?_eq_some_iff.mp e).1⟩
  h1 := ⟨by rw [B_other (Ne.symm w.n1)]; exact w.h1.a, by rw [B_other (Ne.symm w.n2)]; exact w.h1.b⟩
  h2 := ⟨by rw [B_other (Ne.symm w.n3)]; exact w.h2.a, by rw [B_other (Ne.symm w.n4)]; exact w.h2.b⟩
  n1 := w.n1
  n2 := w.n2
  n3 := w.n3
  n4 := w.n4
  l1 := w.l1
theorem ka_0 (n : Nat) (sn : SN T) (bx : Bx T j) (x3 x4 x5 x6 x7 x8 x9 x10 x11 : Option D) : ∃ (cs : List Card) (ds : List Int) (T' : Sto), okIn cs ds ∧ SN T' ∧ Bx T' j ∧
    ex (callS gi fns (n + 7)) gi ka0 (kE ns k j x3 x4 x5 x6 x7 x8 x9 x10 x11) T = .next (kE ns k j x3 x4 (csD cs) (dsD ds) x7 x8 x9 x10 x11) T' := by
  obtain ⟨a, b, hb, e⟩ := bx
  have hj := (List.getElem?_eq_some_iff.mp e).1
  obtain ⟨cs, a1, b1, k1, c1, c2, e1⟩ := m_cards (n + 5) T j hj sn a b hb
  obtain ⟨ds, a2, b2, k2, c3, c4, c5, e2⟩ := m_comings (n + 5) T j hj sn a1 b1 k1
  rw [Bx.eq e] at e1
  refine ⟨cs, ds, B T j a2 b2, ⟨c1, c2, c3, c4, c5⟩, sn.setB, ⟨a2, b2, k2, B_get hj⟩, ?_⟩
  unfold ka0 kE
  simp [runF, e_var, e_int, e_bl, e_non, e_str, e_gint, e_tup, e_lst, e_dct, e_op, e_neg, e_cm, e_ch, e_isN, e_isB, e_and, e_or, e_not, e_ite, e_ix, e_sl, e_rev, e_bi, e_isi, e_call, e_new, e_meth, e_fld, e_bm, e_fstr, e_frz, e_said, e_sset, e_tupR, e_never, x_asg, x_expr, x_ret, x_retN, x_ite, x_raise, x_tryN, x_pass, x_never, x_nil, x_cons, es_nil, es_cons, eo_none, eo_some, ec_none, ec_some, a_name, a_tup, a_sub, as_nil, as_cons, p_name, p_tup, ps_nil, ps_cons, isiD, isi0, cmD, cmI, biD, bi1, bi2, biL, ixD, opD, addD, mulD, int2, wipe, fin_pure1, itemsD, heldD, isNm, kdD, bmD, allD, anyD, allocL, e1, e2, lm2]
theorem ka_1 (n : Nat) (sn : SN T) (bx : Bx T j) (h : okIn cs ds) (x3 x4 x7 x8 x9 x10 x11 : Option D) : ∃ (p1 p2 : Nat) (T' : Sto) (past1 past2 : List (List Card × List Int)), LW j p1 p2 T' cs ds past1 past2 ∧
    ex (callS gi fns (n + 7)) gi ka1 (kE ns k j x3 x4 (csD cs) (dsD ds) x7 x8 x9 x10 x11) T = .next (kE ns k j x3 x4 (csD cs) (dsD ds) (some (rf p1)) (some (rf p2)) x9 x10 x11) T' := by
  have hj : j < T.length := by
    obtain ⟨_, _, _, e⟩ := bx
    exact (List.getElem?_eq_some_iff.mp e).1
  obtain ⟨T1, past1, q1, t1, e1⟩ := m_told (cs := cs) (n + 1) hj sn bx ds h
  have hl1 := t1.len
  obtain ⟨T2, past2, q2, t2, e2⟩ := m_told (cs := cs) (n + 1) (S := T1) (j := j) (by omega) t1.sn t1.bx ds h
  refine ⟨T.length, T1.length, T2, past1, past2, ⟨t2.sn, t2.bx, ⟨?_, ?_⟩, t2.hp, by omega, by omega, by omega, by omega, q1⟩, ?_⟩
  · rw [t2.fr _ (by omega) (by omega)]; exact t1.hp.a
  · rw [t2.fr _ (by omega) (by omega)]; exact t1.hp.b
  · unfold ka1 kE
    simp [runF, e_var, e_int, e_bl, e_non, e_str, e_gint, e_tup, e_lst, e_dct, e_op, e_neg, e_cm, e_ch, e_isN, e_isB, e_and, e_or, e_not, e_ite, e_ix, e_sl, e_rev, e_bi, e_isi, e_call, e_new, e_meth, e_fld, e_bm, e_fstr, e_frz, e_said, e_sset, e_tupR, e_never, x_asg, x_expr, x_ret, x_retN, x_ite, x_raise, x_tryN, x_pass, x_never, x_nil, x_cons, es_nil, es_cons, eo_none, eo_some, ec_none, ec_some, a_name, a_tup, a_sub, as_nil, as_cons, p_name, p_tup, ps_nil, ps_cons, isiD, isi0, cmD, cmI, biD, bi1, bi2, biL, ixD, opD, addD, mulD, int2, wipe, fin_pure1, itemsD, heldD, isNm, kdD, bmD, allD, anyD, allocL, e1, e2, lm2]
theorem ka_eq (w : LW j p1 p2 T cs ds past1 past2) (n : Nat) (x3 x4 x5 x6 x9 x10 x11 : Option D) :
    ev (callS gi fns (n + 7)) gi (.isB false (.ite (.isi (.var 8) (.cls "Purse")) (.meth (.var 7) "Purse" "__eq__" [.var 8]) .never) (.bl true)) (kE ns k j x3 x4 x5 x6 (some (rf p1)) (some (rf p2)) x9 x10 x11) T = .ok (.bool true) T := by
  have e := m_eq (n + 6) w.h1 w.h2
  unfold kE
  simp [runF, e_var, e_int, e_bl, e_non, e_str, e_gint, e_tup, e_lst, e_dct, e_op, e_neg, e_cm, e_ch, e_isN, e_isB, e_and, e_or, e_not, e_ite, e_ix, e_sl, e_rev, e_bi, e_isi, e_call, e_new, e_meth, e_fld, e_bm, e_fstr, e_frz, e_said, e_sset, e_tupR, e_never, x_asg, x_expr, x_ret, x_retN, x_ite, x_raise, x_tryN, x_pass, x_never, x_nil, x_cons, es_nil, es_cons, eo_none, eo_some, ec_none, ec_some, a_name, a_tup, a_sub, as_nil, as_cons, p_name, p_tup, ps_nil, ps_cons, isiD, isi0, cmD, cmI, biD, bi1, bi2, biL, ixD, opD, addD, mulD, int2, wipe, fin_pure1, itemsD, heldD, isNm, kdD, bmD, allD, anyD, allocL, w.h1.ins, w.h2.ins, lk_eq, nm_eq, e]
theorem ka_2 (w : LW j p1 p2 T cs ds past1 past2) (h : okIn cs ds) (n : Nat) (x3 x4 x9 x10 x11 : Option D) :
    ex (callS gi fns (n + 7)) gi ka2 (kE ns k j x3 x4 (csD cs) (dsD ds) (some (rf p1)) (some (rf p2)) x9 x10 x11) T = .next (kE ns k j x3 x4 (csD cs) (dsD ds) (some (rf p1)) (some (rf p2)) x9 x10 x11) T := by
  have hc := h.1
  have hd := h.2.2.1
  have e0 := ka_eq (ns := ns) (k := k) w n x3 x4 (csD cs) (dsD ds) x9 x10 x11
  have e1 := m_taken (n + 3) w.h1 hc (by omega)
  have e2 := m_taken (n + 3) w.h2 hc (by omega)
  have e3 := m_days (n + 6) w.h1
  have q1 := eqD_same T _ (o_fine (tk cs ds)) (eqv_os _)
  have q2 := eqD_same T _ (int_fine ds) (eqv_ds _)
  unfold ka2
  rw [x_ite, e_or, e_not, e0]
  unfold kE
  simp [runF, e_var, e_int, e_bl, e_non, e_str, e_gint, e_tup, e_lst, e_dct, e_op, e_neg, e_cm, e_ch, e_isN, e_isB, e_and, e_or, e_not, e_ite, e_ix, e_sl, e_rev, e_bi, e_isi, e_call, e_new, e_meth, e_fld, e_bm, e_fstr, e_frz, e_said, e_sset, e_tupR, e_never, x_asg, x_expr, x_ret, x_retN, x_ite, x_raise, x_tryN, x_pass, x_never, x_nil, x_cons, es_nil, es_cons, eo_none, eo_some, ec_none, ec_some, a_name, a_tup, a_sub, as_nil, as_cons, p_name, p_tup, ps_nil, ps_cons, isiD, isi0, cmD, cmI, biD, bi1, bi2, biL, ixD, opD, addD, mulD, int2, wipe, fin_pure1, itemsD, heldD, isNm, kdD, bmD, allD, anyD, allocL, w.h1.ins, w.h2.ins, lk_taken, nm_taken, e1, e2, q1, lk_days, nm_days, e3, q2]
theorem ka_3 (w : LW j p1 p2 T cs ds past1 past2) (h : okIn cs ds) (n : Nat) (x3 x4 x9 x10 x11 : Option D) :
    ex (callS gi fns (n + 7)) gi ka3 (kE ns k j x3 x4 (csD cs) (dsD ds) (some (rf p1)) (some (rf p2)) x9 x10 x11) T = .next (kE ns k j x3 x4 (csD cs) (dsD ds) (some (rf p1)) (some (rf p2)) x9 x10 x11) T := by
  have hc := h.1
  have hd := h.2.2.1
  have hl : cs.length ≤ lim := by rw [lim_eq]; omega
  have e1 := m_left (n + 2) w.h1 hc (by omega)
  have e2 := m_plost (n + 2) w.h1 (by omega) (by omega)
  have i1 : ev (callS gi fns (n + 7)) gi (.op .sub (.op .add (.bi .sum [.meth (.var 7) "Purse" "left" []]) (.bi .len [.var 6])) (.meth (.var 7) "Purse" "lost" [])) (kE ns k j x3 x4 (csD cs) (dsD ds) (some (rf p1)) (some (rf p2)) x9 x10 x11) T = .ok (.int ((cs.map trn).sum)) T := by
    rw [← left_sum cs ds]
    unfold kE
    simp [runF, e_var, e_int, e_bl, e_non, e_str, e_gint, e_tup, e_lst, e_dct, e_op, e_neg, e_cm, e_ch, e_isN, e_isB, e_and, e_or, e_not, e_ite, e_ix, e_sl, e_rev, e_bi, e_isi, e_call, e_new, e_meth, e_fld, e_bm, e_fstr, e_frz, e_said, e_sset, e_tupR, e_never, x_asg, x_expr, x_ret, x_retN, x_ite, x_raise, x_tryN, x_pass, x_never, x_nil, x_cons, es_nil, es_cons, eo_none, eo_some, ec_none, ec_some, a_name, a_tup, a_sub, as_nil, as_cons, p_name, p_tup, ps_nil, ps_cons, isiD, isi0, cmD, cmI, biD, bi1, bi2, biL, ixD, opD, addD, mulD, int2, wipe, fin_pure1, itemsD, heldD, isNm, kdD, bmD, allD, anyD, allocL, w.h1.ins, lk_left, nm_left, e1, sumD, lk_lost, nm_lost, e2]
  have i2 : ev (callS gi fns (n + 7)) gi (.bi .sum [.comp false (.ix (.var 11) (.int 2)) [11] (.name 11) (.seq (.var 5)) none]) (kE ns k j x3 x4 (csD cs) (dsD ds) (some (rf p1)) (some (rf p2)) x9 x10 x11) T = .ok (.int ((cs.map trn).sum)) T := by
    unfold kE
    rw [e_bi, es_cons, ev_compF cs cD (fun _ => true) (fun c => .int (trn c)) (fun c => [some (scr (ns.map .int)), some (.int k), some (rf j), x3, x4, csD cs, dsD ds, some (rf p1), some (rf p2), x9, x10, some (cD c)]) (ei_seqT (by simp [runF, e_var, e_int, e_bl, e_non, e_str, e_gint, e_tup, e_lst, e_dct, e_op, e_neg, e_cm, e_ch, e_isN, e_isB, e_and, e_or, e_not, e_ite, e_ix, e_sl, e_rev, e_bi, e_isi, e_call, e_new, e_meth, e_fld, e_bm, e_fstr, e_frz, e_said, e_sset, e_tupR, e_never, x_asg, x_expr, x_ret, x_retN, x_ite, x_raise, x_tryN, x_pass, x_never, x_nil, x_cons, es_nil, es_cons, eo_none, eo_some, ec_none, ec_some, a_name, a_tup, a_sub, as_nil, as_cons, p_name, p_tup, ps_nil, ps_cons, isiD, isi0, cmD, cmI, biD, bi1, bi2, biL, ixD, opD, addD, mulD, int2, wipe, fin_pure1, itemsD, heldD, isNm, kdD, bmD, allD, anyD, allocL])) rfl (by simp) rfl (fun c hc => ⟨by simp [runF, e_var, e_int, e_bl, e_non, e_str, e_gint, e_tup, e_lst, e_dct, e_op, e_neg, e_cm, e_ch, e_isN, e_isB, e_and, e_or, e_not, e_ite, e_ix, e_sl, e_rev, e_bi, e_isi, e_call, e_new, e_meth, e_fld, e_bm, e_fstr, e_frz, e_said, e_sset, e_tupR, e_never, x_asg, x_expr, x_ret, x_retN, x_ite, x_raise, x_tryN, x_pass, x_never, x_nil, x_cons, es_nil, es_cons, eo_none, eo_some, ec_none, ec_some, a_name, a_tup, a_sub, as_nil, as_cons, p_name, p_tup, ps_nil, ps_cons, isiD, isi0, cmD, cmI, biD, bi1, bi2, biL, ixD, opD, addD, mulD, int2, wipe, fin_pure1, itemsD, heldD, isNm, kdD, bmD, allD, anyD, allocL], by simp [runF, e_var, e_int, e_bl, e_non, e_str, e_gint, e_tup, e_lst, e_dct, e_op, e_neg, e_cm, e_ch, e_isN, e_isB, e_and, e_or, e_not, e_ite, e_ix, e_sl, e_rev, e_bi, e_isi, e_call, e_new, e_meth, e_fld, e_bm, e_fstr, e_frz, e_said, e_sset, e_tupR, e_never, x_asg, x_expr, x_ret, x_retN, x_ite, x_raise, x_tryN, x_pass, x_never, x_nil, x_cons, es_nil, es_cons, eo_none, eo_some, ec_none, ec_some, a_name, a_tup, a_sub, as_nil, as_cons, p_name, p_tup, ps_nil, ps_cons, isiD, isi0, cmD, cmI, biD, bi1, bi2, biL, ixD, opD, addD, mulD, int2, wipe, fin_pure1, itemsD, heldD, isNm, kdD, bmD, allD, anyD, allocL], fun _ => by simp [runF, e_var, e_int, e_bl, e_non, e_str, e_gint, e_tup, e_lst, e_dct, e_op, e_neg, e_cm, e_ch, e_isN, e_isB, e_and, e_or, e_not, e_ite, e_ix, e_sl, e_rev, e_bi, e_isi, e_call, e_new, e_meth, e_fld, e_bm, e_fstr, e_frz, e_said, e_sset, e_tupR, e_never, x_asg, x_expr, x_ret, x_retN, x_ite, x_raise, x_tryN, x_pass, x_never, x_nil, x_cons, es_nil, es_cons, eo_none, eo_some, ec_none, ec_some, a_name, a_tup, a_sub, as_nil, as_cons, p_name, p_tup, ps_nil, ps_cons, isiD, isi0, cmD, cmI, biD, bi1, bi2, biL, ixD, opD, addD, mulD, int2, wipe, fin_pure1, itemsD, heldD, isNm, kdD, bmD, allD, anyD, allocL, cD, trn]⟩) hl]
    simp [runF, e_var, e_int, e_bl, e_non, e_str, e_gint, e_tup, e_lst, e_dct, e_op, e_neg, e_cm, e_ch, e_isN, e_isB, e_and, e_or, e_not, e_ite, e_ix, e_sl, e_rev, e_bi, e_isi, e_call, e_new, e_meth, e_fld, e_bm, e_fstr, e_frz, e_said, e_sset, e_tupR, e_never, x_asg, x_expr, x_ret, x_retN, x_ite, x_raise, x_tryN, x_pass, x_never, x_nil, x_cons, es_nil, es_cons, eo_none, eo_some, ec_none, ec_some, a_name, a_tup, a_sub, as_nil, as_cons, p_name, p_tup, ps_nil, ps_cons, isiD, isi0, cmD, cmI, biD, bi1, bi2, biL, ixD, opD, addD, mulD, int2, wipe, fin_pure1, itemsD, heldD, isNm, kdD, bmD, allD, anyD, allocL, sumD]
  unfold ka3
  rw [x_ite, e_cm, i1, Out.bind_ok, i2]
  simp [runF, e_var, e_int, e_bl, e_non, e_str, e_gint, e_tup, e_lst, e_dct, e_op, e_neg, e_cm, e_ch, e_isN, e_isB, e_and, e_or, e_not, e_ite, e_ix, e_sl, e_rev, e_bi, e_isi, e_call, e_new, e_meth, e_fld, e_bm, e_fstr, e_frz, e_said, e_sset, e_tupR, e_never, x_asg, x_expr, x_ret, x_retN, x_ite, x_raise, x_tryN, x_pass, x_never, x_nil, x_cons, es_nil, es_cons, eo_none, eo_some, ec_none, ec_some, a_name, a_tup, a_sub, as_nil, as_cons, p_name, p_tup, ps_nil, ps_cons, isiD, isi0, cmD, cmI, biD, bi1, bi2, biL, ixD, opD, addD, mulD, int2, wipe, fin_pure1, itemsD, heldD, isNm, kdD, bmD, allD, anyD, allocL, eqD_int]
theorem ka_4 (w : LW j p1 p2 T cs ds past1 past2) (h : okIn cs ds) (n : Nat) (x3 x4 x9 x10 x11 : Option D) :
    ex (callS gi fns (n + 7)) gi ka4 (kE ns k j x3 x4 (csD cs) (dsD ds) (some (rf p1)) (some (rf p2)) x9 x10 x11) T = .next (kE ns k j x3 x4 (csD cs) (dsD ds) (some (rf p1)) (some (rf p2)) x9 x10 x11) T := by
  have hc := h.1
  have hd := h.2.2.1
  obtain ⟨Y, e1, y1, y2, y3, y4⟩ := m_paper (n + 2) w.h1 h
  have e2 := m_shown_by n cs ds Y h (by omega) y2 y1 T
  rw [worth_paper (turns_ok h.2.1) h.2.2.2.2 y4] at e2
  have e3 := m_plost (n + 2) w.h1 (by omega) (by omega)
  have e4 := m_lost n cs ds h T
  unfold ka4 kE
  simp [runF, e_var, e_int, e_bl, e_non, e_str, e_gint, e_tup, e_lst, e_dct, e_op, e_neg, e_cm, e_ch, e_isN, e_isB, e_and, e_or, e_not, e_ite, e_ix, e_sl, e_rev, e_bi, e_isi, e_call, e_new, e_meth, e_fld, e_bm, e_fstr, e_frz, e_said, e_sset, e_tupR, e_never, x_asg, x_expr, x_ret, x_retN, x_ite, x_raise, x_tryN, x_pass, x_never, x_nil, x_cons, es_nil, es_cons, eo_none, eo_some, ec_none, ec_some, a_name, a_tup, a_sub, as_nil, as_cons, p_name, p_tup, ps_nil, ps_cons, isiD, isi0, cmD, cmI, biD, bi1, bi2, biL, ixD, opD, addD, mulD, int2, wipe, fin_pure1, itemsD, heldD, isNm, kdD, bmD, allD, anyD, allocL, w.h1.ins, lk_paper, nm_paper, e1, e2, lk_lost, nm_lost, e3, e4, eqD_int]
theorem ka_5 (w : LW j p1 p2 T cs ds past1 past2) (h : okIn cs ds) (n : Nat) (x3 x4 x9 x10 x11 : Option D) :
    ex (callS gi fns (n + 7)) gi ka5 (kE ns k j x3 x4 (csD cs) (dsD ds) (some (rf p1)) (some (rf p2)) x9 x10 x11) T = .next (kE ns k j x3 x4 (csD cs) (dsD ds) (some (rf p1)) (some (rf p2)) x9 x10 x11) T := by
  have hc := h.1
  have hd := h.2.2.1
  have e1 := m_taken (n + 3) w.h1 hc (by omega)
  have e2 := m_is_taking n cs ds (tk cs ds) h (gr_tk cs ds).tk T
  unfold ka5 kE
  simp [runF, e_var, e_int, e_bl, e_non, e_str, e_gint, e_tup, e_lst, e_dct, e_op, e_neg, e_cm, e_ch, e_isN, e_isB, e_and, e_or, e_not, e_ite, e_ix, e_sl, e_rev, e_bi, e_isi, e_call, e_new, e_meth, e_fld, e_bm, e_fstr, e_frz, e_said, e_sset, e_tupR, e_never, x_asg, x_expr, x_ret, x_retN, x_ite, x_raise, x_tryN, x_pass, x_never, x_nil, x_cons, es_nil, es_cons, eo_none, eo_some, ec_none, ec_some, a_name, a_tup, a_sub, as_nil, as_cons, p_name, p_tup, ps_nil, ps_cons, isiD, isi0, cmD, cmI, biD, bi1, bi2, biL, ixD, opD, addD, mulD, int2, wipe, fin_pure1, itemsD, heldD, isNm, kdD, bmD, allD, anyD, allocL, w.h1.ins, lk_taken, nm_taken, e1, e2]
theorem ka_67 (w : LW j p1 p2 T cs ds past1 past2) (h : okIn cs ds) (n : Nat) (x3 x4 x9 x10 x11 : Option D) : ∃ (d : Int) (r : Nat) (T' : Sto), dayB d = true ∧ LW j p1 p2 T' cs ds past1 past2 ∧ (0 < r → lostF cs (isort (ds ++ List.replicate r d)) = lostF cs ds) ∧ lostF cs (isort (ds ++ List.replicate (r + 1) d)) ≠ lostF cs ds ∧
    exs (callS gi fns (n + 7)) gi [ka6, ka7] (kE ns k j x3 x4 (csD cs) (dsD ds) (some (rf p1)) (some (rf p2)) x9 x10 x11) T = .next (kE ns k j x3 (some (.int r)) (csD cs) (dsD ds) (some (rf p1)) (some (rf p2)) (some (.int d)) (some (.int (lostF cs ds))) x11) T' := by
  have hc := h.1
  have hd := h.2.2.1
  obtain ⟨d, a', b', hb, u, v, e1⟩ := takeR (n + 6) w.bx w.sn 60 (by omega) (by omega)
  have w1 := w.take hb
  have hday : dayB d = true := by simp [dayB]; omega
  have e2 := m_plost (n + 2) w1.h1 (by omega) (by omega)
  obtain ⟨r, e3, z1, z2⟩ := m_room (n + 1) w1.h1 h d hday
  refine ⟨d, r, _, hday, w1, z1, z2, ?_⟩
  unfold ka6 ka7 kE
  simp [runF, e_var, e_int, e_bl, e_non, e_str, e_gint, e_tup, e_lst, e_dct, e_op, e_neg, e_cm, e_ch, e_isN, e_isB, e_and, e_or, e_not, e_ite, e_ix, e_sl, e_rev, e_bi, e_isi, e_call, e_new, e_meth, e_fld, e_bm, e_fstr, e_frz, e_said, e_sset, e_tupR, e_never, x_asg, x_expr, x_ret, x_retN, x_ite, x_raise, x_tryN, x_pass, x_never, x_nil, x_cons, es_nil, es_cons, eo_none, eo_some, ec_none, ec_some, a_name, a_tup, a_sub, as_nil, as_cons, p_name, p_tup, ps_nil, ps_cons, isiD, isi0, cmD, cmI, biD, bi1, bi2, biL, ixD, opD, addD, mulD, int2, wipe, fin_pure1, itemsD, heldD, isNm, kdD, bmD, allD, anyD, allocL, e1, w1.h1.ins, lk_lost, nm_lost, e2, lm2, lk_room, nm_room, e3]
theorem ka_8 (w : LW j p1 p2 T cs ds past1 past2) (h : okIn cs ds) (n : Nat) {d : Int} {r : Nat} (hd : dayB d = true) (z1 : 0 < r → lostF cs (isort (ds ++ List.replicate r d)) = lostF cs ds) (z2 : lostF cs (isort (ds ++ List.replicate (r + 1) d)) ≠ lostF cs ds) (x3 x11 : Option D) :
    ex (callS gi fns (n + 7)) gi ka8 (kE ns k j x3 (some (.int r)) (csD cs) (dsD ds) (some (rf p1)) (some (rf p2)) (some (.int d)) (some (.int (lostF cs ds))) x11) T = .next (kE ns k j x3 (some (.int r)) (csD cs) (dsD ds) (some (rf p1)) (some (rf p2)) (some (.int d)) (some (.int (lostF cs ds))) x11) T := by
  have hc := h.1
  have hl := h.2.2.1
  by_cases q1 : 0 < r
  · by_cases q2 : ds.length + r ≤ 24
    · have hw1 := w.l1
      have e1 := m_come (n + 2) w.h1 w.sn (by omega) d r hd q1 q2
      have hp := isort_perm' (ds ++ List.replicate r d)
      have so := isort_sorted' (ds ++ List.replicate r d)
      have hll : (isort (ds ++ List.replicate r d)).length ≤ 24 := by rw [hp.length_eq, List.length_append, List.length_replicate]; exact q2
      have h' : okIn cs (isort (ds ++ List.replicate r d)) := by
        refine ⟨hc, h.2.1, hll, List.all_eq_true.mpr fun x hx => ?_, so⟩
        rcases List.mem_append.mp (hp.mem_iff.mp hx) with m | m
        · exact List.all_eq_true.mp h.2.2.2.1 x m
        · rw [(List.mem_replicate.mp m).2]; exact hd
      have hu := w.h1.up (cs' := cs) (ds' := isort (ds ++ List.replicate r d)) (past' := past1 ++ [(cs, ds)])
      have su := w.sn.up (p := p1) (cs := cs) (ds := isort (ds ++ List.replicate r d)) (past := past1 ++ [(cs, ds)]) w.h1.lt
      have e2 := m_plost (n + 2) hu (by omega) (by omega)
      rw [z1 q1] at e2
      obtain ⟨r2, e3, y1, y2⟩ := m_room (n + 1) hu h' d hd
      have hr2 : r2 = 0 := by
        by_cases c : r2 = 0
        · exact c
        · have y := y1 (by omega)
          rw [z1 q1] at y
          have pp : (isort (ds ++ List.replicate r d) ++ List.replicate r2 d).Perm ((ds ++ List.replicate (r + 1) d) ++ List.replicate (r2 - 1) d) := by
            refine (hp.append_right _).trans ?_
            rw [List.append_assoc, List.append_assoc, List.replicate_append_replicate, List.replicate_append_replicate]
            have : r + r2 = r + 1 + (r2 - 1) := by omega
            rw [this]
          have p2' := isort_perm' (isort (ds ++ List.replicate r d) ++ List.replicate r2 d)
          have p3 := isort_perm' (ds ++ List.replicate (r + 1) d)
          have m1 := (lost_app (turns_ok h.2.1) h.2.2.2.2 p3 (isort_sorted' _)).1
          have m2 := (lost_app (turns_ok h.2.1) (isort_sorted' (ds ++ List.replicate (r + 1) d)) (p2'.trans (pp.trans (p3.symm.append_right _))) (isort_sorted' _)).1
          rw [y] at m2
          omega
      rw [hr2] at e3
      have e4 := m_undo (n + 6) hu su
      rw [upP_up, w.h1.self] at e4
      have q3 : (0 : Int) < r := by omega
      have q4 : (r : Int) ≤ 24 - ds.length := by omega
      have e5 : ((0 : Nat) : Int) = 0 := rfl
      rw [e5] at e3
      unfold ka8 kE
      simp [runF, e_var, e_int, e_bl, e_non, e_str, e_gint, e_tup, e_lst, e_dct, e_op, e_neg, e_cm, e_ch, e_isN, e_isB, e_and, e_or, e_not, e_ite, e_ix, e_sl, e_rev, e_bi, e_isi, e_call, e_new, e_meth, e_fld, e_bm, e_fstr, e_frz, e_said, e_sset, e_tupR, e_never, x_asg, x_expr, x_ret, x_retN, x_ite, x_raise, x_tryN, x_pass, x_never, x_nil, x_cons, es_nil, es_cons, eo_none, eo_some, ec_none, ec_some, a_name, a_tup, a_sub, as_nil, as_cons, p_name, p_tup, ps_nil, ps_cons, isiD, isi0, cmD, cmI, biD, bi1, bi2, biL, ixD, opD, addD, mulD, int2, wipe, fin_pure1, itemsD, heldD, isNm, kdD, bmD, allD, anyD, allocL, eqOk_int, ltD_int, q1, q3, q4, w.h1.ins, lk_come, nm_come, e1, hu.ins, lk_lost, nm_lost, e2, lk_room, nm_room, e3, eqD_int, lk_undo, nm_undo, e4]
    · have q3 : (0 : Int) < r := by omega
      have q4 : ¬ ((r : Int) ≤ 24 - ds.length) := by omega
      unfold ka8 kE
      simp [runF, e_var, e_int, e_bl, e_non, e_str, e_gint, e_tup, e_lst, e_dct, e_op, e_neg, e_cm, e_ch, e_isN, e_isB, e_and, e_or, e_not, e_ite, e_ix, e_sl, e_rev, e_bi, e_isi, e_call, e_new, e_meth, e_fld, e_bm, e_fstr, e_frz, e_said, e_sset, e_tupR, e_never, x_asg, x_expr, x_ret, x_retN, x_ite, x_raise, x_tryN, x_pass, x_never, x_nil, x_cons, es_nil, es_cons, eo_none, eo_some, ec_none, ec_some, a_name, a_tup, a_sub, as_nil, as_cons, p_name, p_tup, ps_nil, ps_cons, isiD, isi0, cmD, cmI, biD, bi1, bi2, biL, ixD, opD, addD, mulD, int2, wipe, fin_pure1, itemsD, heldD, isNm, kdD, bmD, allD, anyD, allocL, eqOk_int, ltD_int, q1, q3, q4]
  · have q3 : ¬ ((0 : Int) < r) := by omega
    unfold ka8 kE
    simp [runF, e_var, e_int, e_bl, e_non, e_str, e_gint, e_tup, e_lst, e_dct, e_op, e_neg, e_cm, e_ch, e_isN, e_isB, e_and, e_or, e_not, e_ite, e_ix, e_sl, e_rev, e_bi, e_isi, e_call, e_new, e_meth, e_fld, e_bm, e_fstr, e_frz, e_said, e_sset, e_tupR, e_never, x_asg, x_expr, x_ret, x_retN, x_ite, x_raise, x_tryN, x_pass, x_never, x_nil, x_cons, es_nil, es_cons, eo_none, eo_some, ec_none, ec_some, a_name, a_tup, a_sub, as_nil, as_cons, p_name, p_tup, ps_nil, ps_cons, isiD, isi0, cmD, cmI, biD, bi1, bi2, biL, ixD, opD, addD, mulD, int2, wipe, fin_pure1, itemsD, heldD, isNm, kdD, bmD, allD, anyD, allocL, eqOk_int, ltD_int, q1, q3]
theorem ka_9 (w : LW j p1 p2 T cs ds past1 past2) (h : okIn cs ds) (n : Nat) {d : Int} {r : Nat} (hd : dayB d = true) (z2 : lostF cs (isort (ds ++ List.replicate (r + 1) d)) ≠ lostF cs ds) (x3 x11 : Option D) :
    ex (callS gi fns (n + 7)) gi ka9 (kE ns k j x3 (some (.int r)) (csD cs) (dsD ds) (some (rf p1)) (some (rf p2)) (some (.int d)) (some (.int (lostF cs ds))) x11) T = .next (kE ns k j x3 (some (.int r)) (csD cs) (dsD ds) (some (rf p1)) (some (rf p2)) (some (.int d)) (some (.int (lostF cs ds))) x11) T := by
  have hc := h.1
  have hl := h.2.2.1
  by_cases q1 : ds.length < 24
  · by_cases q2 : r = 0
    · subst q2
      have hw1 := w.l1
      have e1 := m_come (n + 2) w.h1 w.sn (by omega) d 1 hd (by omega) (by omega)
      have hp := isort_perm' (ds ++ List.replicate 1 d)
      have hll : (isort (ds ++ List.replicate 1 d)).length ≤ 24 := by rw [hp.length_eq, List.length_append, List.length_replicate]; omega
      have hu := w.h1.up (cs' := cs) (ds' := isort (ds ++ List.replicate 1 d)) (past' := past1 ++ [(cs, ds)])
      have su := w.sn.up (p := p1) (cs := cs) (ds := isort (ds ++ List.replicate 1 d)) (past := past1 ++ [(cs, ds)]) w.h1.lt
      have e2 := m_plost (n + 2) hu (by omega) (by omega)
      have m1 := lost_app (turns_ok h.2.1) h.2.2.2.2 hp (isort_sorted' _)
      have e6 : (lostF cs (isort (ds ++ List.replicate 1 d)) : Int) = lostF cs ds + 1 := by
        have := m1.1
        have := m1.2
        rw [List.length_replicate] at this
        have z : lostF cs (isort (ds ++ List.replicate 1 d)) ≠ lostF cs ds := z2
        omega
      rw [e6] at e2
      have e4 := m_undo (n + 6) hu su
      rw [upP_up, w.h1.self] at e4
      have q3 : (ds.length : Int) < 24 := by omega
      have e5 : ((1 : Nat) : Int) = 1 := rfl
      rw [e5] at e1
      generalize isort (ds ++ List.replicate 1 d) = D1 at e1 hu e2 e4
      unfold ka9 kE
      simp [runF, e_var, e_int, e_bl, e_non, e_str, e_gint, e_tup, e_lst, e_dct, e_op, e_neg, e_cm, e_ch, e_isN, e_isB, e_and, e_or, e_not, e_ite, e_ix, e_sl, e_rev, e_bi, e_isi, e_call, e_new, e_meth, e_fld, e_bm, e_fstr, e_frz, e_said, e_sset, e_tupR, e_never, x_asg, x_expr, x_ret, x_retN, x_ite, x_raise, x_tryN, x_pass, x_never, x_nil, x_cons, es_nil, es_cons, eo_none, eo_some, ec_none, ec_some, a_name, a_tup, a_sub, as_nil, as_cons, p_name, p_tup, ps_nil, ps_cons, isiD, isi0, cmD, cmI, biD, bi1, bi2, biL, ixD, opD, addD, mulD, int2, wipe, fin_pure1, itemsD, heldD, isNm, kdD, bmD, allD, anyD, allocL, eqOk_int, ltD_int, q3, w.h1.ins, lk_come, nm_come, e1, hu.ins, lk_lost, nm_lost, e2, eqD_int, lk_undo, nm_undo, e4]
    · have q3 : (ds.length : Int) < 24 := by omega
      have q4 : ¬ ((r : Int) = 0) := by omega
      unfold ka9 kE
      simp [runF, e_var, e_int, e_bl, e_non, e_str, e_gint, e_tup, e_lst, e_dct, e_op, e_neg, e_cm, e_ch, e_isN, e_isB, e_and, e_or, e_not, e_ite, e_ix, e_sl, e_rev, e_bi, e_isi, e_call, e_new, e_meth, e_fld, e_bm, e_fstr, e_frz, e_said, e_sset, e_tupR, e_never, x_asg, x_expr, x_ret, x_retN, x_ite, x_raise, x_tryN, x_pass, x_never, x_nil, x_cons, es_nil, es_cons, eo_none, eo_some, ec_none, ec_some, a_name, a_tup, a_sub, as_nil, as_cons, p_name, p_tup, ps_nil, ps_cons, isiD, isi0, cmD, cmI, biD, bi1, bi2, biL, ixD, opD, addD, mulD, int2, wipe, fin_pure1, itemsD, heldD, isNm, kdD, bmD, allD, anyD, allocL, eqOk_int, ltD_int, q3, eqD_int, q2, q4]
  · have q3 : ¬ ((ds.length : Int) < 24) := by omega
    unfold ka9 kE
    simp [runF, e_var, e_int, e_bl, e_non, e_str, e_gint, e_tup, e_lst, e_dct, e_op, e_neg, e_cm, e_ch, e_isN, e_isB, e_and, e_or, e_not, e_ite, e_ix, e_sl, e_rev, e_bi, e_isi, e_call, e_new, e_meth, e_fld, e_bm, e_fstr, e_frz, e_said, e_sset, e_tupR, e_never, x_asg, x_expr, x_ret, x_retN, x_ite, x_raise, x_tryN, x_pass, x_never, x_nil, x_cons, es_nil, es_cons, eo_none, eo_some, ec_none, ec_some, a_name, a_tup, a_sub, as_nil, as_cons, p_name, p_tup, ps_nil, ps_cons, isiD, isi0, cmD, cmI, biD, bi1, bi2, biL, ixD, opD, addD, mulD, int2, wipe, fin_pure1, itemsD, heldD, isNm, kdD, bmD, allD, anyD, allocL, eqOk_int, ltD_int, q3]
theorem ka_10 (w : LW j p1 p2 T cs ds past1 past2) (h : okIn cs ds) (n : Nat) (x3 x4 x9 x11 : Option D) :
    ex (callS gi fns (n + 7)) gi ka10 (kE ns k j x3 x4 (csD cs) (dsD ds) (some (rf p1)) (some (rf p2)) x9 (some (.int (lostF cs ds))) x11) T = .next (kE ns k j x3 x4 (csD cs) (dsD ds) (some (rf p1)) (some (rf p2)) x9 (some (.int (lostF cs ds))) x11) T := by
  have hc := h.1
  have hl := h.2.2.1
  by_cases q1 : cs.length < 8
  · have hw1 := w.l1
    have e1 := m_buy (n + 2) w.h1 w.sn (by omega) q1 0 59 10 (by decide)
    have hu := w.h1.up (cs' := cs ++ [(0, 59, 10)]) (ds' := ds) (past' := past1 ++ [(cs, ds)])
    have su := w.sn.up (p := p1) (cs := cs ++ [(0, 59, 10)]) (ds := ds) (past := past1 ++ [(cs, ds)]) w.h1.lt
    have e2 := m_plost (n + 2) hu (by simp; omega) (by omega)
    have e6 := lost_ten (turns_ok h.2.1) h.2.2.2.2 fun d hd => by
      have := List.all_eq_true.mp h.2.2.2.1 d hd
      simpa [dayB] using this
    have e4 := m_undo (n + 6) hu su
    rw [upP_up, w.h1.self] at e4
    have q3 : (cs.length : Int) < 8 := by omega
    generalize hx : (lostF (cs ++ [(0, 59, 10)]) ds : Int) = x at e2 e6
    generalize hy : (lostF cs ds : Int) = y at e6 ⊢
    have y0 : 0 ≤ y := by omega
    have q4 : ¬ (y < x) := by omega
    unfold ka10 kE
    by_cases q5 : 10 < y
    · have q6 : ¬ (y ≤ 10) := by omega
      have q7 : x = y - 10 := by omega
      have q8 : ¬ (y < y - 10) := by omega
      simp [runF, e_var, e_int, e_bl, e_non, e_str, e_gint, e_tup, e_lst, e_dct, e_op, e_neg, e_cm, e_ch, e_isN, e_isB, e_and, e_or, e_not, e_ite, e_ix, e_sl, e_rev, e_bi, e_isi, e_call, e_new, e_meth, e_fld, e_bm, e_fstr, e_frz, e_said, e_sset, e_tupR, e_never, x_asg, x_expr, x_ret, x_retN, x_ite, x_raise, x_tryN, x_pass, x_never, x_nil, x_cons, es_nil, es_cons, eo_none, eo_some, ec_none, ec_some, a_name, a_tup, a_sub, as_nil, as_cons, p_name, p_tup, ps_nil, ps_cons, isiD, isi0, cmD, cmI, biD, bi1, bi2, biL, ixD, opD, addD, mulD, int2, wipe, fin_pure1, itemsD, heldD, isNm, kdD, bmD, allD, anyD, allocL, eqOk_int, ltD_int, q3, w.h1.ins, lk_buy, nm_buy, e1, hu.ins, lk_lost, nm_lost, e2, q4, q5, q6, q7, q8, eqD_int, lk_undo, nm_undo, e4]
      try omega
    · have q6 : y ≤ 10 := by omega
      have q7 : x = 0 := by omega
      have q8 : ¬ (y < 0) := by omega
      simp [runF, e_var, e_int, e_bl, e_non, e_str, e_gint, e_tup, e_lst, e_dct, e_op, e_neg, e_cm, e_ch, e_isN, e_isB, e_and, e_or, e_not, e_ite, e_ix, e_sl, e_rev, e_bi, e_isi, e_call, e_new, e_meth, e_fld, e_bm, e_fstr, e_frz, e_said, e_sset, e_tupR, e_never, x_asg, x_expr, x_ret, x_retN, x_ite, x_raise, x_tryN, x_pass, x_never, x_nil, x_cons, es_nil, es_cons, eo_none, eo_some, ec_none, ec_some, a_name, a_tup, a_sub, as_nil, as_cons, p_name, p_tup, ps_nil, ps_cons, isiD, isi0, cmD, cmI, biD, bi1, bi2, biL, ixD, opD, addD, mulD, int2, wipe, fin_pure1, itemsD, heldD, isNm, kdD, bmD, allD, anyD, allocL, eqOk_int, ltD_int, q3, w.h1.ins, lk_buy, nm_buy, e1, hu.ins, lk_lost, nm_lost, e2, q4, q5, q6, q7, q8, eqD_int, lk_undo, nm_undo, e4]
      try omega
  · have q3 : ¬ ((cs.length : Int) < 8) := by omega
    unfold ka10 kE
    simp [runF, e_var, e_int, e_bl, e_non, e_str, e_gint, e_tup, e_lst, e_dct, e_op, e_neg, e_cm, e_ch, e_isN, e_isB, e_and, e_or, e_not, e_ite, e_ix, e_sl, e_rev, e_bi, e_isi, e_call, e_new, e_meth, e_fld, e_bm, e_fstr, e_frz, e_said, e_sset, e_tupR, e_never, x_asg, x_expr, x_ret, x_retN, x_ite, x_raise, x_tryN, x_pass, x_never, x_nil, x_cons, es_nil, es_cons, eo_none, eo_some, ec_none, ec_some, a_name, a_tup, a_sub, as_nil, as_cons, p_name, p_tup, ps_nil, ps_cons, isiD, isi0, cmD, cmI, biD, bi1, bi2, biL, ixD, opD, addD, mulD, int2, wipe, fin_pure1, itemsD, heldD, isNm, kdD, bmD, allD, anyD, allocL, eqOk_int, ltD_int, q3]
theorem ka_11 (w : LW j p1 p2 T cs ds past1 past2) (n : Nat) (x3 x4 x5 x6 x9 x10 x11 : Option D) :
    ex (callS gi fns (n + 7)) gi ka11 (kE ns k j x3 x4 x5 x6 (some (rf p1)) (some (rf p2)) x9 x10 x11) T = .next (kE ns k j x3 x4 x5 x6 (some (rf p1)) (some (rf p2)) x9 x10 x11) T := by
  have e0 := ka_eq (ns := ns) (k := k) w n x3 x4 x5 x6 x9 x10 x11
  unfold ka11
  rw [x_ite, e_not, e0]
  simp [runF, e_var, e_int, e_bl, e_non, e_str, e_gint, e_tup, e_lst, e_dct, e_op, e_neg, e_cm, e_ch, e_isN, e_isB, e_and, e_or, e_not, e_ite, e_ix, e_sl, e_rev, e_bi, e_isi, e_call, e_new, e_meth, e_fld, e_bm, e_fstr, e_frz, e_said, e_sset, e_tupR, e_never, x_asg, x_expr, x_ret, x_retN, x_ite, x_raise, x_tryN, x_pass, x_never, x_nil, x_cons, es_nil, es_cons, eo_none, eo_some, ec_none, ec_some, a_name, a_tup, a_sub, as_nil, as_cons, p_name, p_tup, ps_nil, ps_cons, isiD, isi0, cmD, cmI, biD, bi1, bi2, biL, ixD, opD, addD, mulD, int2, wipe, fin_pure1, itemsD, heldD, isNm, kdD, bmD, allD, anyD, allocL]
end
end K33
end

section
set_option Elab.async false
set_option linter.all false
set_option maxRecDepth 100000
set_option maxHeartbeats 1000000
namespace K33
open PySem PL TT
theorem ka_turn (n : Nat) {ns : List Int} {k : Int} {T : Sto} {j : Nat} (sn : SN T) (bx : Bx T j) (x3 x4 x5 x6 x7 x8 x9 x10 x11 : Option D) :
    ∃ (T' : Sto) (y4 y5 y6 y7 y8 y9 y10 : Option D), SN T' ∧ Bx T' j ∧ exs (callS gi fns (n + 7)) gi ka (kE ns k j x3 x4 x5 x6 x7 x8 x9 x10 x11) T = .next (kE ns k j x3 y4 y5 y6 y7 y8 y9 y10 x11) T' := by
  obtain ⟨cs, ds, T1, h, sn1, bx1, s0⟩ := ka_0 (ns := ns) (k := k) n sn bx x3 x4 x5 x6 x7 x8 x9 x10 x11
  obtain ⟨p1, p2, T2, past1, past2, w, s1⟩ := ka_1 (ns := ns) (k := k) n sn1 bx1 h x3 x4 x7 x8 x9 x10 x11
  have s2 := ka_2 (ns := ns) (k := k) w h n x3 x4 x9 x10 x11
  have s3 := ka_3 (ns := ns) (k := k) w h n x3 x4 x9 x10 x11
  have s4 := ka_4 (ns := ns) (k := k) w h n x3 x4 x9 x10 x11
  have s5 := ka_5 (ns := ns) (k := k) w h n x3 x4 x9 x10 x11
  obtain ⟨d, r, T3, hd, w3, z1, z2, s6⟩ := ka_67 (ns := ns) (k := k) w h n x3 x4 x9 x10 x11
  have s8 := ka_8 (ns := ns) (k := k) w3 h n hd z1 z2 x3 x11
  have s9 := ka_9 (ns := ns) (k := k) w3 h n hd z2 x3 x11
  have s10 := ka_10 (ns := ns) (k := k) w3 h n x3 (some (.int r)) (some (.int d)) x11
  have s11 := ka_11 (ns := ns) (k := k) w3 n x3 (some (.int r)) (csD cs) (dsD ds) (some (.int d)) (some (.int (lostF cs ds))) x11
  refine ⟨T3, some (.int r), csD cs, dsD ds, some (rf p1), some (rf p2), some (.int d), some (.int (lostF cs ds)), w3.sn, w3.bx, ?_⟩
  show exs _ _ (ka0 :: ka1 :: ka2 :: ka3 :: ka4 :: ka5 :: ([ka6, ka7] ++ [ka8, ka9, ka10, ka11])) _ _ = _
  rw [x_cons, s0, SOut.seq_next, x_cons, s1, SOut.seq_next, x_cons, s2, SOut.seq_next, x_cons, s3, SOut.seq_next, x_cons, s4, SOut.seq_next, x_cons, s5, SOut.seq_next, exs_app, s6, SOut.seq_next, x_cons, s8, SOut.seq_next, x_cons, s9, SOut.seq_next, x_cons, s10, SOut.seq_next, x_cons, s11, SOut.seq_next, x_nil]
theorem ka_loop (n : Nat) (ns : List Int) (k : Int) (j : Nat) (ok : Sto → Prop) (hok : ∀ T, ok T) : ∀ (its : List D) (T : Sto) (x3 x4 x5 x6 x7 x8 x9 x10 x11 : Option D), SN T → Bx T j →
    ∃ (T' : Sto) (y3 y4 y5 y6 y7 y8 y9 y10 y11 : Option D), SN T' ∧ Bx T' j ∧ forL ok (putT (.name 3)) (fun ρ S => exs (callS gi fns (n + 7)) gi ka ρ S) its (kE ns k j x3 x4 x5 x6 x7 x8 x9 x10 x11) T = .next (kE ns k j y3 y4 y5 y6 y7 y8 y9 y10 y11) T'
  | [], T, x3, x4, x5, x6, x7, x8, x9, x10, x11, sn, bx => ⟨T, x3, x4, x5, x6, x7, x8, x9, x10, x11, sn, bx, by simp [forL, hok]⟩
  | it :: its, T, x3, x4, x5, x6, x7, x8, x9, x10, x11, sn, bx => by
    obtain ⟨T1, y4, y5, y6, y7, y8, y9, y10, sn1, bx1, e⟩ := ka_turn n (ns := ns) (k := k) sn bx (some it) x4 x5 x6 x7 x8 x9 x10 x11
    obtain ⟨T2, z3, z4, z5, z6, z7, z8, z9, z10, z11, sn2, bx2, ih⟩ := ka_loop n ns k j ok hok its T1 (some it) y4 y5 y6 y7 y8 y9 y10 x11 sn1 bx1
    refine ⟨T2, z3, z4, z5, z6, z7, z8, z9, z10, z11, sn2, bx2, ?_⟩
    rw [← ih]
    refine forL_next (ρ' := kE ns k j (some it) x4 x5 x6 x7 x8 x9 x10 x11) _ _ (hok _) ?_ e
    unfold kE
    simp [runF, e_var, e_int, e_bl, e_non, e_str, e_gint, e_tup, e_lst, e_dct, e_op, e_neg, e_cm, e_ch, e_isN, e_isB, e_and, e_or, e_not, e_ite, e_ix, e_sl, e_rev, e_bi, e_isi, e_call, e_new, e_meth, e_fld, e_bm, e_fstr, e_frz, e_said, e_sset, e_tupR, e_never, x_asg, x_expr, x_ret, x_retN, x_ite, x_raise, x_tryN, x_pass, x_never, x_nil, x_cons, es_nil, es_cons, eo_none, eo_some, ec_none, ec_some, a_name, a_tup, a_sub, as_nil, as_cons, p_name, p_tup, ps_nil, ps_cons, isiD, isi0, cmD, cmI, biD, bi1, bi2, biL, ixD, opD, addD, mulD, int2, wipe, fin_pure1, itemsD, heldD, isNm, kdD, bmD, allD, anyD, allocL]
theorem m_box (n : Nat) (ns : List Int) (k : Nat) (hk : k < 3) (S : Sto) : ∃ a b, okB a b ∧ callS gi fns (n + 1) "_law_box" [scr (ns.map .int), .int k] S = .ok (rf S.length) (S ++ [.lst [.int a, .int b]]) := by
  rw [callS_fn (F := f__law_box) (by kernel_rfl)]
  have b1 : -bigD < (6151 : Int) ∧ (6151 : Int) < bigD := by unfold bigD; omega
  have b2 : -bigD < (7919 : Int) ∧ (7919 : Int) < bigD := by unfold bigD; omega
  have bd : ∀ c : Int, okB ((if c < 0 then -c else c) / 2) (c % 1000003 + 7919 * k + 1) ∧ okB 0 (c % 2147483563 + 7919 * k + 1) := fun c => by
    have m1 := Int.emod_nonneg c (b := 1000003) (by omega)
    have m2 := Int.emod_lt_of_pos c (b := 1000003) (by omega)
    have m3 := Int.emod_nonneg c (b := 2147483563) (by omega)
    have m4 := Int.emod_lt_of_pos c (b := 2147483563) (by omega)
    exact ⟨⟨by split <;> omega, by omega, by omega⟩, by omega, by omega, by omega⟩
  by_cases q1 : k < ns.length
  · have e : ns[k]? = some ns[k] := List.getElem?_eq_getElem q1
    by_cases q : ns[k] % 2 = 0
    · refine ⟨_, _, (bd ns[k]).1, ?_⟩
      simp [runF, e_var, e_int, e_bl, e_non, e_str, e_gint, e_tup, e_lst, e_dct, e_op, e_neg, e_cm, e_ch, e_isN, e_isB, e_and, e_or, e_not, e_ite, e_ix, e_sl, e_rev, e_bi, e_isi, e_call, e_new, e_meth, e_fld, e_bm, e_fstr, e_frz, e_said, e_sset, e_tupR, e_never, x_asg, x_expr, x_ret, x_retN, x_ite, x_raise, x_tryN, x_pass, x_never, x_nil, x_cons, es_nil, es_cons, eo_none, eo_some, ec_none, ec_some, a_name, a_tup, a_sub, as_nil, as_cons, p_name, p_tup, ps_nil, ps_cons, isiD, isi0, cmD, cmI, biD, bi1, bi2, biL, ixD, opD, addD, mulD, int2, wipe, fin_pure1, itemsD, heldD, isNm, kdD, bmD, allD, anyD, allocL, f__law_box, b1, eqOk_int, ltD_int, q1, atI_nat, e, eqD_int, q, absD, b2, lm2, fin]
    · refine ⟨_, _, (bd ns[k]).2, ?_⟩
      simp [runF, e_var, e_int, e_bl, e_non, e_str, e_gint, e_tup, e_lst, e_dct, e_op, e_neg, e_cm, e_ch, e_isN, e_isB, e_and, e_or, e_not, e_ite, e_ix, e_sl, e_rev, e_bi, e_isi, e_call, e_new, e_meth, e_fld, e_bm, e_fstr, e_frz, e_said, e_sset, e_tupR, e_never, x_asg, x_expr, x_ret, x_retN, x_ite, x_raise, x_tryN, x_pass, x_never, x_nil, x_cons, es_nil, es_cons, eo_none, eo_some, ec_none, ec_some, a_name, a_tup, a_sub, as_nil, as_cons, p_name, p_tup, ps_nil, ps_cons, isiD, isi0, cmD, cmI, biD, bi1, bi2, biL, ixD, opD, addD, mulD, int2, wipe, fin_pure1, itemsD, heldD, isNm, kdD, bmD, allD, anyD, allocL, f__law_box, b1, eqOk_int, ltD_int, q1, atI_nat, e, eqD_int, q, absD, b2, lm2, fin]
  · have q2 : ¬ (k : Int) < ns.length := by omega
    by_cases q : (6151 * (k : Int) + 29) % 2 = 0
    · refine ⟨_, _, (bd (6151 * (k : Int) + 29)).1, ?_⟩
      simp [runF, e_var, e_int, e_bl, e_non, e_str, e_gint, e_tup, e_lst, e_dct, e_op, e_neg, e_cm, e_ch, e_isN, e_isB, e_and, e_or, e_not, e_ite, e_ix, e_sl, e_rev, e_bi, e_isi, e_call, e_new, e_meth, e_fld, e_bm, e_fstr, e_frz, e_said, e_sset, e_tupR, e_never, x_asg, x_expr, x_ret, x_retN, x_ite, x_raise, x_tryN, x_pass, x_never, x_nil, x_cons, es_nil, es_cons, eo_none, eo_some, ec_none, ec_some, a_name, a_tup, a_sub, as_nil, as_cons, p_name, p_tup, ps_nil, ps_cons, isiD, isi0, cmD, cmI, biD, bi1, bi2, biL, ixD, opD, addD, mulD, int2, wipe, fin_pure1, itemsD, heldD, isNm, kdD, bmD, allD, anyD, allocL, f__law_box, b1, eqOk_int, ltD_int, q2, eqD_int, q, absD, b2, lm2, fin]
    · refine ⟨_, _, (bd (6151 * (k : Int) + 29)).2, ?_⟩
      simp [runF, e_var, e_int, e_bl, e_non, e_str, e_gint, e_tup, e_lst, e_dct, e_op, e_neg, e_cm, e_ch, e_isN, e_isB, e_and, e_or, e_not, e_ite, e_ix, e_sl, e_rev, e_bi, e_isi, e_call, e_new, e_meth, e_fld, e_bm, e_fstr, e_frz, e_said, e_sset, e_tupR, e_never, x_asg, x_expr, x_ret, x_retN, x_ite, x_raise, x_tryN, x_pass, x_never, x_nil, x_cons, es_nil, es_cons, eo_none, eo_some, ec_none, ec_some, a_name, a_tup, a_sub, as_nil, as_cons, p_name, p_tup, ps_nil, ps_cons, isiD, isi0, cmD, cmI, biD, bi1, bi2, biL, ixD, opD, addD, mulD, int2, wipe, fin_pure1, itemsD, heldD, isNm, kdD, bmD, allD, anyD, allocL, f__law_box, b1, eqOk_int, ltD_int, q2, eqD_int, q, absD, b2, lm2, fin]
theorem B_fresh (S : Sto) (a b c d : Int) : S ++ [.lst [.int a, .int b]] = B (S ++ [.lst [.int c, .int d]]) S.length a b := by
  unfold B
  simp
theorem SN.box {S : Sto} (h : SN S) (a b : Int) : SN (S ++ [.lst [.int a, .int b]]) := h.app fun n => by simp [refO]
theorem lw_loop (n : Nat) (ns : List Int) (ok : Sto → Prop) (hok : ∀ T, ok T) : ∀ (its : List Nat) (S : Sto) (x1 x2 x3 x4 x5 x6 x7 x8 x9 x10 x11 : Option D), (∀ k ∈ its, k < 3) → SN S →
    ∃ (S' : Sto) (y1 y2 y3 y4 y5 y6 y7 y8 y9 y10 y11 : Option D), forL ok (putT (.name 1)) (fun ρ S => exs (callS gi fns (n + 7)) gi lw ρ S) (its.map fun k : Nat => .int k) [some (scr (ns.map .int)), x1, x2, x3, x4, x5, x6, x7, x8, x9, x10, x11] S = .next [some (scr (ns.map .int)), y1, y2, y3, y4, y5, y6, y7, y8, y9, y10, y11] S'
  | [], S, x1, x2, x3, x4, x5, x6, x7, x8, x9, x10, x11, _, _ => ⟨S, x1, x2, x3, x4, x5, x6, x7, x8, x9, x10, x11, by simp [forL, hok]⟩
  | k :: its, S, x1, x2, x3, x4, x5, x6, x7, x8, x9, x10, x11, hk, sn => by
    obtain ⟨a, b, hb, e⟩ := m_box (n + 6) ns k (hk k List.mem_cons_self) S
    obtain ⟨T', y3, y4, y5, y6, y7, y8, y9, y10, y11, sn', bx', h⟩ := ka_loop n ns k S.length (Wk.ok ⟨rangeL 2, [], false⟩) (fun T => by simp) (rangeL 2) (S ++ [.lst [.int a, .int b]]) x3 x4 x5 x6 x7 x8 x9 x10 x11 (sn.box a b) ⟨a, b, hb, by simp⟩
    obtain ⟨S', z1, z2, z3, z4, z5, z6, z7, z8, z9, z10, z11, ih⟩ := lw_loop n ns ok hok its T' (some (.int k)) (some (rf S.length)) y3 y4 y5 y6 y7 y8 y9 y10 y11 (fun j hj => hk j (List.mem_cons_of_mem _ hj)) sn'
    refine ⟨S', z1, z2, z3, z4, z5, z6, z7, z8, z9, z10, z11, ?_⟩
    rw [← ih, List.map_cons]
    refine forL_next (ρ' := [some (scr (ns.map .int)), some (.int k), x2, x3, x4, x5, x6, x7, x8, x9, x10, x11]) _ _ (hok _) (by simp [runF, e_var, e_int, e_bl, e_non, e_str, e_gint, e_tup, e_lst, e_dct, e_op, e_neg, e_cm, e_ch, e_isN, e_isB, e_and, e_or, e_not, e_ite, e_ix, e_sl, e_rev, e_bi, e_isi, e_call, e_new, e_meth, e_fld, e_bm, e_fstr, e_frz, e_said, e_sset, e_tupR, e_never, x_asg, x_expr, x_ret, x_retN, x_ite, x_raise, x_tryN, x_pass, x_never, x_nil, x_cons, es_nil, es_cons, eo_none, eo_some, ec_none, ec_some, a_name, a_tup, a_sub, as_nil, as_cons, p_name, p_tup, ps_nil, ps_cons, isiD, isi0, cmD, cmI, biD, bi1, bi2, biL, ixD, opD, addD, mulD, int2, wipe, fin_pure1, itemsD, heldD, isNm, kdD, bmD, allD, anyD, allocL]) ?_
    have s0 : ex (callS gi fns (n + 7)) gi lw0 [some (scr (ns.map .int)), some (.int k), x2, x3, x4, x5, x6, x7, x8, x9, x10, x11] S = .next (kE ns k S.length x3 x4 x5 x6 x7 x8 x9 x10 x11) (S ++ [.lst [.int a, .int b]]) := by
      unfold lw0 kE
      simp [runF, e_var, e_int, e_bl, e_non, e_str, e_gint, e_tup, e_lst, e_dct, e_op, e_neg, e_cm, e_ch, e_isN, e_isB, e_and, e_or, e_not, e_ite, e_ix, e_sl, e_rev, e_bi, e_isi, e_call, e_new, e_meth, e_fld, e_bm, e_fstr, e_frz, e_said, e_sset, e_tupR, e_never, x_asg, x_expr, x_ret, x_retN, x_ite, x_raise, x_tryN, x_pass, x_never, x_nil, x_cons, es_nil, es_cons, eo_none, eo_some, ec_none, ec_some, a_name, a_tup, a_sub, as_nil, as_cons, p_name, p_tup, ps_nil, ps_cons, isiD, isi0, cmD, cmI, biD, bi1, bi2, biL, ixD, opD, addD, mulD, int2, wipe, fin_pure1, itemsD, heldD, isNm, kdD, bmD, allD, anyD, allocL, e]
    have s1 : ex (callS gi fns (n + 7)) gi lw1 (kE ns k S.length x3 x4 x5 x6 x7 x8 x9 x10 x11) (S ++ [.lst [.int a, .int b]]) = .next (kE ns k S.length y3 y4 y5 y6 y7 y8 y9 y10 y11) T' := by
      have : lw1 = .for_ (.name 3) (.range (.int 2)) ka := rfl
      rw [this, x_for (w := ⟨rangeL 2, [], false⟩) (ei_range (i := 2) e_int (by unfold bigD; omega)) rfl]
      exact h
    unfold lw
    rw [x_cons, s0, SOut.seq_next, x_cons, s1, SOut.seq_next, x_nil]
    rfl
theorem lw_is : f_law.body = [.for_ (.name 1) (.range (.bi .max2 [.int 1, .bi .min2 [.bi .len [.var 0], .int 2]])) lw, .ret (.bl true)] := rfl
theorem T (ns : List Int) : ∃ S', callS gi fns 12 "law" [scr (ns.map .int)] [] = .ok (.bool true) S' := by
  obtain ⟨r, hr, r1, r2⟩ : ∃ r : Nat, (r : Int) = (if (if (2 : Int) < ns.length then (2 : Int) else ns.length) > 1 then (if (2 : Int) < ns.length then (2 : Int) else ns.length) else 1) ∧ 1 ≤ r ∧ r ≤ 2 := by
    refine ⟨(if (if (2 : Int) < ns.length then (2 : Int) else ns.length) > 1 then (if (2 : Int) < ns.length then (2 : Int) else ns.length) else 1).toNat, ?_, ?_, ?_⟩ <;> (split <;> split <;> omega)
  obtain ⟨S', z1, z2, z3, z4, z5, z6, z7, z8, z9, z10, z11, h⟩ := lw_loop 4 ns (Wk.ok ⟨rangeL r, [], false⟩) (fun T => by simp) (List.range r) [] none none none none none none none none none none none (fun k hk => by
    have := List.mem_range.mp hk
    omega) (fun n _ => rfl)
  refine ⟨[], ?_⟩
  rw [callS_fn (F := f_law) (by kernel_rfl)]
  refine (if_pos rfl).trans ?_
  have el : [scr (ns.map .int)].map some ++ List.replicate (f_law.nn - f_law.np) none = [some (scr (ns.map .int)), none, none, none, none, none, none, none, none, none, none, none] := rfl
  have em : ev (callS gi fns 11) gi (.bi .max2 [.int 1, .bi .min2 [.bi .len [.var 0], .int 2]]) [some (scr (ns.map .int)), none, none, none, none, none, none, none, none, none, none, none] [] = .ok (.int (r : Int)) [] := by
    rw [hr]
    simp [runF, e_var, e_int, e_bl, e_non, e_str, e_gint, e_tup, e_lst, e_dct, e_op, e_neg, e_cm, e_ch, e_isN, e_isB, e_and, e_or, e_not, e_ite, e_ix, e_sl, e_rev, e_bi, e_isi, e_call, e_new, e_meth, e_fld, e_bm, e_fstr, e_frz, e_said, e_sset, e_tupR, e_never, x_asg, x_expr, x_ret, x_retN, x_ite, x_raise, x_tryN, x_pass, x_never, x_nil, x_cons, es_nil, es_cons, eo_none, eo_some, ec_none, ec_some, a_name, a_tup, a_sub, as_nil, as_cons, p_name, p_tup, ps_nil, ps_cons, isiD, isi0, cmD, cmI, biD, bi1, bi2, biL, ixD, opD, addD, mulD, int2, wipe, fin_pure1, itemsD, heldD, isNm, kdD, bmD, allD, anyD, allocL]
  rw [el, lw_is, x_cons, x_for (w := ⟨rangeL r, [], false⟩) (ei_range em (by unfold bigD; omega)) rfl]
  have ei : rangeL (r : Int) = (List.range r).map fun k : Nat => .int k := rfl
  have h2 : forL (Wk.ok ⟨rangeL r, [], false⟩) (putT (.name 1)) (fun ρ S => exs (callS gi fns 11) gi lw ρ S) (⟨rangeL r, [], false⟩ : Wk).items [some (scr (ns.map .int)), none, none, none, none, none, none, none, none, none, none, none] [] = .next [some (scr (ns.map .int)), z1, z2, z3, z4, z5, z6, z7, z8, z9, z10, z11] S' := h
  rw [h2, SOut.seq_next, x_cons, x_ret, e_bl]
  exact fin_pure (S := []) rfl (by simp)
theorem law_holds : PySem.Challenge.rw_tenturns_k33_whole_purses.Holds := holds fun ns _ => T ns
end K33
end

section
set_option linter.all false
theorem PySem.Challenge.cw_tenturns_k33_whole_purses_holds : PySem.Challenge.rw_tenturns_k33_whole_purses.Holds := by
  exact K33.law_holds
end
