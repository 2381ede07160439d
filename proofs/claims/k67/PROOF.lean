import PyProof.Rows.All
import Wide.All
import OpenK.AllK
import Wide.FinOn
import HandS.ForMost
import KE.SortData
import KE.DataEq
import KE.DataCmp
import KE.DatumOrd
import KE.DatumMoreOrd
import KE.DataMinMax
import KE.KDictKeyed
import HandS.Codes
import HandS.Head0
import HandS.Head1
import HandS.Head2
import HandS.HeadEnd
import HandS.HeadHook1
import HandS.HeadHook2
import HandS.TupLen
import HandS.Conv
import KE.DataFind
import HandS.Sort
import HandS.TupAny
import HandS.TupMul
import HandS.IsInst
import HandS.Style
import HandS.CallLocal
import KE.GoesMore
import KE.GoesEnum
import HandS.Deep
import HandS.Dict
import HandS.MakeKwOnly
import HandS.OwnEq
import HandS.More
import HandS.Flow
import KE.LtData
import PySem.Challenge.RW_sidefits_k67_whole_numbers_of_pieces_and
set_option Elab.async false
set_option linter.all false
set_option autoImplicit false
set_option maxRecDepth 100000
/-! Mp1: values read deep (D), a small language (E, S), its evaluator. -/
namespace Mp
open PySem

/-- values, read deep -/
inductive D where
  | non | bl (b : Bool) | int (i : Int) | str (x : Str)
  | tup (xs : List D) | lst (xs : List D)
  | dct (kvs : List (D × D)) | set (xs : List D) | rng (lo hi : Int)
  | ins (c : Nat) (ns : List Str) (fs : List D) | fn (i : Nat) | cls (c : Nat)
  | scr (xs : List D)
  deriving Inhabited

mutual
def D.toP : D → PyData
  | .non => .none | .bl b => .bool b | .int i => .int i | .str x => .str x
  | .tup xs => .tuple (D.toPs xs) | .lst xs => .list (D.toPs xs)
  | _ => .dict []
def D.toPs : List D → List PyData
  | [] => []
  | x :: xs => D.toP x :: D.toPs xs
end
theorem D.toPs_map : ∀ xs : List D, D.toPs xs = xs.map D.toP
  | [] => rfl
  | x :: xs => by rw [D.toPs, D.toPs_map xs]; rfl

/-! ### operations -/
/-- what is done with a name's own object: x.pop(a) -/
inductive Vop where
  | pop
  deriving DecidableEq
/-- {}, x[::-1], list(range ..), range as a value -/
inductive Uop where
  | dnew | rev | lof | rof
  deriving DecidableEq
inductive Bm where
  | index | count
  deriving DecidableEq
inductive Bop where
  | add | sub | mul | fdiv | mod | pow
  deriving DecidableEq
inductive Cop where
  | eq | ne | lt | le | gt | ge | is_ | isn | in_ | nin
  deriving DecidableEq
inductive Blt where
  | len | tuple | list | dict | sorted | min | max | int | abs | divmod | sum | all | any | isinst (t : Nat)
  deriving DecidableEq

abbrev CMul (i j : Int) : Prop := (-(2 ^ 64) < i ∧ i < 2 ^ 64) ∨ (-(2 ^ 64) < j ∧ j < 2 ^ 64)
def binD : Bop → D → D → Option (D × Bool)
  | .add, .int a, .int b => some (.int (a + b), false)
  | .add, .str a, .str b => if a.length + b.length ≤ sizeLine then some (.str (a ++ b), false) else none
  | .add, .tup a, .tup b => if a.length + b.length ≤ sizeLine then some (.tup (a ++ b), false) else none
  | .add, .lst a, .lst b => if a.length + b.length ≤ sizeLine then some (.lst (a ++ b), true) else none
  | .sub, .int a, .int b => some (.int (a - b), false)
  | .mul, .int a, .int b => if CMul a b then some (.int (a * b), false) else none
  | .mul, .tup a, .int k => if a.isEmpty = true ∧ -(2 ^ 63) ≤ k ∧ k < 2 ^ 63 ∨ 1 ≤ k ∧ k ≤ 1000 ∧ a.length ≤ 1000 then some (.tup (List.replicate k.toNat a).flatten, false) else none
  | .mul, .lst a, .int k => if -(2 ^ 63) ≤ k ∧ k < 2 ^ 63 ∧ a.length * k.toNat ≤ sizeLine then some (.lst (List.replicate k.toNat a).flatten, true) else none
  | .fdiv, .int a, .int b => if 0 < b ∧ b < 1073741824 then some (.int (a / b), false) else none
  | .mod, .int a, .int b => if 0 < b then some (.int (a % b), false) else none
  | .pow, .int a, .int b => if 0 ≤ b ∧ b ≤ 1000000 ∧ a.natAbs < 2 ^ 64 then some (.int (a ^ b.toNat), false) else none
  | _, _, _ => none

def D.isNon : D → Bool
  | .non => true
  | _ => false
/-- data whose == the library tells -/
def D.ok (a : D) : Bool := (a.toP).plain
abbrev depthOk (a b : D) : Bool := decide (min a.toP.depth b.toP.depth ≤ 64)
def eqD (a b : D) : Option Bool := if a.ok = true ∧ b.ok = true ∧ depthOk a b = true then some (PyData.eqv a.toP b.toP) else none
def ltD (a b : D) : Option Bool := if a.ok = true ∧ b.ok = true ∧ PySem.W.alike a.toP b.toP = true ∧ a.isNon = false ∧ depthOk a b = true then some (PySem.W.dataLt a.toP b.toP) else none
def inD (a : D) (xs : List D) : Option Bool :=
  if a.ok = true ∧ PyData.plainAll (D.toPs xs) = true ∧ min (PyData.depthAll (D.toPs xs)) a.toP.depth ≤ 64 then some (xs.any fun y => PyData.eqv y.toP a.toP) else none
/-! dicts: keys are tuples of numbers, truth values, None and such tuples, to depth 8 -/
mutual
def nkey : D → Option NestedKey
  | .non => some .none
  | .bl b => some (.num (if b = true then 1 else 0))
  | .int i => some (.num i)
  | .tup xs => (nkeys xs).map .tup
  | _ => none
def nkeys : List D → Option (List NestedKey)
  | [] => some []
  | x :: r => (nkey x).bind fun k => (nkeys r).map (k :: ·)
end
def isTupD : D → Bool
  | .tup _ => true
  | _ => false
def nk (d : D) : Option NestedKey := if isTupD d = true then (nkey d).bind fun k => if k.depth ≤ 8 then some k else none else none
def keyIs (k : NestedKey) (p : D × D) : Bool := decide (nk p.1 = some k)
def dGet (kvs : List (D × D)) (k : NestedKey) : Option D := (kvs.find? (keyIs k)).map (·.2)
def dPut (kvs : List (D × D)) (kd : D) (k : NestedKey) (v : D) : List (D × D) :=
  if kvs.any (keyIs k) = true then kvs.map (fun p => if keyIs k p = true then (p.1, v) else p) else kvs ++ [(kd, v)]
/-- dict(pairs) -/
def dOf : List (D × D) → List D → Option (List (D × D))
  | acc, [] => some acc
  | acc, .tup [kd, v] :: r => (nk kd).bind fun k => dOf (dPut acc kd k v) r
  | _, _ :: _ => none
def inDct (kvs : List (D × D)) (kd : D) : Option Bool := (nk kd).map fun k => kvs.any (keyIs k)
def cmpD : Cop → D → D → Option Bool
  | .eq, a, b => eqD a b
  | .ne, a, b => (eqD a b).map (!·)
  | .lt, a, b => ltD a b
  | .gt, a, b => ltD b a
  | .le, a, b => (ltD b a).map (!·)
  | .ge, a, b => (ltD a b).map (!·)
  | .is_, a, .non => some a.isNon
  | .isn, a, .non => some (!a.isNon)
  | .is_, .bl c, .bl b => some (c == b)
  | .isn, .bl c, .bl b => some (!(c == b))
  | .in_, a, .tup xs => inD a xs
  | .in_, a, .lst xs => inD a xs
  | .in_, a, .dct kvs => inDct kvs a
  | .nin, a, .tup xs => (inD a xs).map (!·)
  | .nin, a, .lst xs => (inD a xs).map (!·)
  | .nin, a, .dct kvs => (inDct kvs a).map (!·)
  | _, _, _ => none
def truthD : D → Option Bool
  | .non => some false
  | .bl b => some b
  | .int i => some (i != 0)
  | .tup xs => some (!xs.isEmpty)
  | .lst xs => some (!xs.isEmpty)
  | .scr xs => some (!xs.isEmpty)
  | _ => none

def ixN (n : Nat) (i : Int) : Option Nat := if 0 ≤ i then (if i < n then some i.toNat else none) else if -(n : Int) ≤ i then some (i + n).toNat else none
def idxD : D → D → Option D
  | .tup xs, .int i => (ixN xs.length i).bind fun j => xs[j]?
  | .lst xs, .int i => (ixN xs.length i).bind fun j => xs[j]?
  | .scr xs, .int i => (ixN xs.length i).bind fun j => xs[j]?
  | .dct kvs, a => (nk a).bind fun k => dGet kvs k
  | _, _ => none
def sIx (n d : Nat) : Option Int → Nat
  | none => d
  | some v => if v < 0 then (v + (n : Int)).toNat else min v.toNat n
def cutD (xs : List D) (lo hi : Option Int) : List D := (xs.drop (sIx xs.length 0 lo)).take (sIx xs.length xs.length hi - sIx xs.length 0 lo)
def slD : D → Option Int → Option Int → Option (D × Bool)
  | .tup xs, lo, hi => some (.tup (cutD xs lo hi), false)
  | .lst xs, lo, hi => some (.lst (cutD xs lo hi), true)
  | .scr xs, lo, hi => some (.lst (cutD xs lo hi), true)
  | _, _, _ => none

def intsOf : List D → Option (List Int)
  | [] => some []
  | .int i :: r => (intsOf r).map (i :: ·)
  | _ :: _ => none
def bolsOf : List D → Option (List Bool)
  | [] => some []
  | .bl i :: r => (bolsOf r).map (i :: ·)
  | _ :: _ => none
/-- a value's type by its number; which of int, bool, str, tuple, list it is -/
def tyIx : D → Nat
  | .non => 0 | .bl _ => 1 | .int _ => 2 | .str _ => 3 | .tup _ => 4 | .lst _ => 5 | _ => 6
def isinT : Nat → Nat → Bool
  | 0, 1 => true | 0, 2 => true | 1, 1 => true | 2, 3 => true | 3, 4 => true | 4, 5 => true
  | _, _ => false
/-- isinstance of an own class -/
def isinC (c : Nat) : D → Option Bool
  | .ins c' _ _ => if c' = c then some true else none
  | .non => some false
  | .bl _ => some false
  | .int _ => some false
  | .str _ => some false
  | .tup _ => some false
  | .lst _ => some false
  | _ => none
def fldD (x : Str) : D → Option D
  | .ins _ ns fs => (ns.zip fs).lookup x
  | _ => none
def isinD (t : Nat) (d : D) : Option Bool := if t < 5 ∧ tyIx d < 6 then some (isinT t (tyIx d)) else none
/-- what sorted asks: data that can be compared two by two -/
def tupNE : D → Bool
  | .tup (_ :: _) => true
  | _ => false
def noTup : D → Bool
  | .tup _ => false
  | .non => false
  | _ => true
def sortB (xs : List D) : Bool := (xs.all fun a => a.ok && decide (a.toP.depth ≤ 60)) && ((xs.all fun a => xs.all fun b => PySem.W.alike a.toP b.toP) && (xs.all tupNE || xs.all noTup))
def leD (a b : D) : Bool := !PySem.W.dataLt b.toP a.toP
def insD (a : D) : List D → List D
  | [] => [a]
  | b :: r => if leD a b = true then a :: b :: r else b :: insD a r
def isortD : List D → List D
  | [] => []
  | a :: r => insD a (isortD r)
/-- the first of the least, of the greatest: data that can be compared two by two -/
def minOk (xs : List D) : Bool := (xs.all fun a => a.ok && (!a.isNon && decide (a.toP.depth ≤ 60))) && (xs.all fun a => xs.all fun b => PySem.W.alike a.toP b.toP)
def minL : List D → Option D
  | [] => none
  | x :: r => if minOk (x :: r) = true then some (r.foldl (fun a y => if PySem.W.dataLt y.toP a.toP = true then y else a) x) else none
def maxL : List D → Option D
  | [] => none
  | x :: r => if minOk (x :: r) = true then some (r.foldl (fun a y => if PySem.W.dataLt a.toP y.toP = true then y else a) x) else none
def bltD : Blt → List D → Option (D × Bool)
  | .len, [.tup xs] => some (.int xs.length, false)
  | .len, [.lst xs] => some (.int xs.length, false)
  | .len, [.scr xs] => some (.int xs.length, false)
  | .len, [.dct kvs] => some (.int kvs.length, false)
  | .tuple, [.tup xs] => some (.tup xs, false)
  | .tuple, [.lst xs] => some (.tup xs, false)
  | .list, [.tup xs] => some (.lst xs, true)
  | .list, [.lst xs] => some (.lst xs, true)
  | .list, [.dct kvs] => some (.lst (kvs.map (·.1)), true)
  | .dict, [.lst xs] => (dOf [] xs).map fun kvs => (.dct kvs, true)
  | .int, [.int i] => some (.int i, false)
  | .int, [.bl k] => some (.int (if k then 1 else 0), false)
  | .abs, [.int i] => some (.int (if i < 0 then -i else i), false)
  | .max, [.int i, .int j] => some (.int (if j > i then j else i), false)
  | .min, [.int i, .int j] => some (.int (if j < i then j else i), false)
  | .max, [.lst xs] => (maxL xs).map fun d => (d, false)
  | .min, [.lst xs] => (minL xs).map fun d => (d, false)
  | .divmod, [.int i, .int j] => if 0 < j ∧ j < 1073741824 then some (.tup [.int (i / j), .int (i % j)], false) else none
  | .sum, [.lst xs] => (intsOf xs).map fun ns => (.int ns.sum, false)
  | .all, [.lst xs] => (bolsOf xs).map fun bs => (.bl (bs.all id), false)
  | .any, [.lst xs] => (bolsOf xs).map fun bs => (.bl (bs.any id), false)
  | .sorted, [.lst xs] => if sortB xs = true then some (.lst (isortD xs), true) else none
  | .sorted, [.tup xs] => if sortB xs = true then some (.lst (isortD xs), true) else none
  | .isinst t, [x] => (isinD t x).map fun b => (.bl b, false)
  | _, _ => none

def revD : D → Option (D × Bool)
  | .tup xs => some (.tup xs.reverse, false)
  | .lst xs => some (.lst xs.reverse, true)
  | .scr xs => some (.lst xs.reverse, true)
  | _ => none
/-- x.index(y), x.count(y) -/
def bmD : Bm → D → D → Option (D × Bool)
  | .index, .lst xs, y => if ((D.lst xs).ok && y.ok && SeqAt.shaped (D.lst xs).toP && SeqAt.shaped y.toP) = true then (xs.findIdx? fun x => PyData.eqv x.toP y.toP).map fun (i : Nat) => (D.int i, false) else none
  | .count, .lst xs, y => if ((D.lst xs).ok && y.ok && SeqAt.shaped (D.lst xs).toP && SeqAt.shaped y.toP) = true then some (.int ((xs.countP fun x => PyData.eqv x.toP y.toP : Nat)), false) else none
  | _, _, _ => none
def isLst : D → Bool
  | .lst _ => true
  | _ => false
/-! ### the language -/
inductive E where
  | var (i : Nat)
  | con (d : D)
  | glo (x : Str) (d : D)
  | nil | cons (a r : E) | ioa (i : Nat) (r : E)
  | tup (es : E) | lst (es : E)
  | neg (a : E) | bin (o : Bop) (a b : E) | cmp (o : Cop) (a b : E) | cmp2 (o1 o2 : Cop) (a b c : E)
  | not (a : E) | and (a b : E) | or (a b : E) | ife (c a b : E)
  | idx (a i : E) | sl (a lo hi : E)
  | call (f : Nat) (es : E) | callk (f : Nat) (perm : List Nat) (es ks : E) | calf (f : Nat) (a es : E) | calv (i : Nat) (es : E)
  | blt (b : Blt) (es : E) | isin (t : Nat) (a : E)
  | fld (a : E) (x : Str) | mk (c f : Nat) (fl : List Str) (es : E) | isinc (c : Nat) (x : Str) (a : E)
  | lc (vs : List Nat) (t it c e : E)
  | rng1 (a : E) | rng2 (a b : E) | enm (a : E) | zip (a b : E) | it (a : E)
  | tr (a : E)
  | vop (o : Vop) (i : Nat) (a b : E) | uop (o : Uop) (a : E) | bm (o : Bm) (a b : E) | mkk (c f : Nat) (fl : List Str) (p : List Nat) (es ks : E) | oeq (ng : Bool) (c f : Nat) (a b : E)
  deriving Inhabited
inductive S where
  | skip | seq (a b : S)
  | asg (t e : E) | par (is : List Nat) (es : E) | ex (e : E) | ret (e : E) | retn
  | ite (c : E) (a b : S) | for_ (t it : E) (b : S) | whl (c : E) (b : S)
  | app (i : Nat) (e : E) | ext (i : Nat) (e : E) | fst (i : Nat) (x : Str) (e : E)
  | never
  deriving Inhabited

inductive Slot where
  | un | val (d : D) | own (d : D) | io (d : D)
abbrev Env := List Slot
inductive Kd where
  | frz | fr | pk (i : Nat)
inductive R (α : Type) where
  | ok (a : α) (ρ : Env) | no
def R.bind {α β : Type} (r : R α) (f : α → Env → R β) : R β := match r with
  | .ok a ρ => f a ρ
  | .no => .no
def R.of {α : Type} (o : Option α) (ρ : Env) : R α := match o with
  | some a => .ok a ρ
  | none => .no
def getS (ρ : Env) (i : Nat) : Slot := ρ[i]?.getD .un
/-- what a name's content is now -/
def cur (ρ : Env) (d : D) : Kd → D
  | .pk i => (match getS ρ i with | .own d => d | .io d => d | .val d => d | .un => d)
  | _ => d
/-- a value is kept: the name that owned it owns it no more -/
def settle (ρ : Env) (d : D) : Kd → R D
  | .pk i => (match getS ρ i with | .own d => .ok d (ρ.set i (.val d)) | _ => .no)
  | _ => .ok d ρ
def kdOf (b : Bool) : Kd := if b then .fr else .frz
/-- an argument: a value, or a name's list that the callee may change -/
inductive Ar where
  | v (d : D) | io (i : Nat)
def Ar.d (ρ : Env) : Ar → Option D
  | .v d => some d
  | .io i => (match getS ρ i with | .own d => some d | .io d => some d | _ => none)
def argsD (ρ : Env) : List Ar → Option (List D)
  | [] => some []
  | a :: r => (a.d ρ).bind fun d => (argsD ρ r).map (d :: ·)
def setIo (ρ : Env) (i : Nat) (d : D) : Env := match getS ρ i with
  | .own _ => ρ.set i (.own d)
  | .io _ => ρ.set i (.io d)
  | _ => ρ
def putOuts (ρ : Env) : List Ar → List D → Env
  | .io i :: r, d :: ds => putOuts (setIo ρ i d) r ds
  | .v _ :: r, ds => putOuts ρ r ds
  | _, _ => ρ
def Ar.isIo : Ar → Bool
  | .io _ => true
  | _ => false
def iosOf : List Ar → List Nat
  | [] => []
  | .io i :: r => i :: iosOf r
  | .v _ :: r => iosOf r
/-- what a call gives: the value, whether it is new, what the changed arguments hold -/
abbrev CRes := Option (D × Bool × List D)
/-- the values by the parameters' order: n by position, the others named ks -/
def permOf (ps : List Str) (n : Nat) (ks : List Str) : List Nat := List.range n ++ (ps.drop n).map fun x => n + ks.idxOf x
def pick {α : Type} (p : List Nat) (l : List α) : List α := p.filterMap fun i => l[i]?
def kwOk (ps : List Str) (n : Nat) (ks : List Str) : Bool := decide ps.Nodup && (decide ks.Nodup && (decide (n + ks.length = ps.length) && (decide (0 < ks.length) && ((ks.all fun k => decide (k ∈ ps.drop n)) && ((ps.drop n).all fun x => decide (x ∈ ks))))))
def cntA : E → Nat
  | .cons _ r => cntA r + 1
  | .ioa _ r => cntA r + 1
  | _ => 0
def doCall (cl : Nat → List Bool → List D → CRes) (f : Nat) (as : List Ar) (ρ : Env) : R (D × Kd) :=
  match argsD ρ as with
  | none => .no
  | some ds => if (iosOf as).Nodup then (match cl f (as.map Ar.isIo) ds with
    | none => .no
    | some (d, b, outs) => .ok (d, kdOf b) (putOuts ρ as outs)) else .no
/-- .. the first argument a new list, which the callee may change -/
def doCallF (cl : Nat → List Bool → List D → CRes) (f : Nat) (d0 : D) (as : List Ar) (ρ : Env) : R (D × Kd) :=
  match argsD ρ as with
  | none => .no
  | some ds => if (iosOf as).Nodup then (match cl f (true :: as.map Ar.isIo) (d0 :: ds) with
    | some (d, b, _ :: outs) => .ok (d, kdOf b) (putOuts ρ as outs)
    | _ => .no) else .no
/-- a new instance of an own class: its __init__ is the f-th def -/
def doMk (cl : Nat → List Bool → List D → CRes) (c f : Nat) (fl : List Str) (as : List Ar) (ρ : Env) : R (D × Kd) :=
  match argsD ρ as with
  | none => .no
  | some ds => if iosOf as = [] then (match cl f (true :: as.map Ar.isIo) (.ins c fl [] :: ds) with
    | some (.non, false, [d]) => .ok (d, .frz) ρ
    | _ => .no) else .no
/-- an instance of the c-th class; what it is compared with; the answer -/
def insB (c : Nat) : D → Bool
  | .ins c' _ _ => decide (c' = c)
  | _ => false
def othB (c : Nat) : D → Bool
  | .ins c' _ _ => decide (c' = c)
  | .tup _ => true
  | _ => false
def blR (ng : Bool) : D × Kd → Env → R (D × Kd)
  | (.bl k, .frz), ρ => .ok (.bl (if ng = true then !k else k), .frz) ρ
  | _, _ => .no
def wipe (ρ : Env) : List Nat → Env
  | [] => ρ
  | v :: vs => (wipe ρ vs).set v .un
/-- the slots vs as they were in ρ0 -/
def unwipe (ρ0 ρ : Env) : List Nat → Env
  | [] => ρ
  | v :: vs => (unwipe ρ0 ρ vs).set v (getS ρ0 v)
def plainS : Slot → Bool
  | .un => true
  | .val _ => true
  | _ => false
/-- a name takes a value -/
def putName (ρ : Env) (i : Nat) (d : D) (k : Kd) : R Unit :=
  match getS ρ i with
  | .io _ => .no
  | _ => if i < ρ.length then (match k with
    | .fr => .ok () (ρ.set i (.own d))
    | .frz => .ok () (ρ.set i (.val d))
    | .pk _ => .no) else .no
def ownL : Slot → Bool
  | .own (.lst _) => true
  | .io (.lst _) => true
  | _ => false
def ownS : Slot → Bool
  | .own _ => true
  | .io _ => true
  | _ => false
/-- x[y] = d, x an own list -/
def storeIx (ρ : Env) (j : Nat) (y d : D) : R Unit := match getS ρ j, y with
  | .own (.lst xs), .int i => (match ixN xs.length i with
    | some n => .ok () (ρ.set j (.own (.lst (xs.set n d))))
    | none => .no)
  | .io (.lst xs), .int i => (match ixN xs.length i with
    | some n => .ok () (ρ.set j (.io (.lst (xs.set n d))))
    | none => .no)
  | .own (.dct kvs), y => (match nk y with
    | some k => if kvs.length < sizeLine then .ok () (ρ.set j (.own (.dct (dPut kvs y k d)))) else .no
    | none => .no)
  | .io (.dct kvs), y => (match nk y with
    | some k => if kvs.length < sizeLine then .ok () (ρ.set j (.io (.dct (dPut kvs y k d)))) else .no
    | none => .no)
  | _, _ => .no
def seqOf : D → Option (List D)
  | .tup xs => some xs
  | .lst xs => some xs
  | .scr xs => some xs
  | _ => none
def ownD : Slot → Option D
  | .own d => some d
  | .io d => some d
  | _ => none
def vopD : Vop → Env → Nat → D → D → R (D × Kd)
  | .pop, ρ, i, .int m, _ => (match ownD (getS ρ i) with
    | some (.lst xs) => if -(2 ^ 63) ≤ m ∧ m < 2 ^ 63 then (match ixN xs.length m with
      | some k => (match xs[k]? with
        | some y => .ok (y, .frz) (setIo ρ i (.lst (xs.eraseIdx k)))
        | none => .no)
      | none => .no) else .no
    | _ => .no)
  | _, _, _, _, _ => .no
def rngD (lo hi : Int) : List D := (List.range (hi - lo).toNat).map fun (i : Nat) => .int (lo + (i : Int))
def enumD (xs : List D) : List D := xs.zipIdx.map fun p => .tup [.int (p.2 : Nat), p.1]
abbrev inR (i : Int) : Prop := -(2 ^ 62) ≤ i ∧ i < 2 ^ 62

/-- small bounds of a list of a range -/
abbrev rgOk (m n : Int) : Prop := inR m ∧ inR n ∧ (n - m).toNat ≤ 16777216
/-- what a for walks: ranges as values, too -/
def seqI : D → Option (List D)
  | .rng lo hi => if inR lo ∧ inR hi then some (rngD lo hi) else none
  | d => seqOf d
/-- a comprehension's turns -/
def lcLoop (vs : List Nat) (g : D → Env → R Unit) (c : Env → R Bool) (e : Env → R (D × Kd)) : List D → List D → Env → R (List D)
  | [], acc, ρ => .ok acc ρ
  | x :: xs, acc, ρ => (g x (wipe ρ vs)).bind fun _ ρ => (c ρ).bind fun k ρ =>
      if k = true then (e ρ).bind fun y ρ => (settle ρ y.1 y.2).bind fun d ρ => if acc.length < sizeLine then lcLoop vs g c e xs (acc ++ [d]) ρ else .no
      else lcLoop vs g c e xs acc ρ
section
variable (cl : Nat → List Bool → List D → CRes)
mutual
def evE : E → Env → R (D × Kd)
  | .var i, ρ => (match getS ρ i with
    | .val d => .ok (d, .frz) ρ
    | .own d => .ok (d, .pk i) ρ
    | .io d => .ok (d, .pk i) ρ
    | .un => .no)
  | .con d, ρ => .ok (d, .frz) ρ
  | .glo _ d, ρ => .ok (d, .frz) ρ
  | .tup es, ρ => (evL es ρ).bind fun ds ρ => if ds.length ≤ sizeLine then .ok (.tup ds, .frz) ρ else .no
  | .lst es, ρ => (evL es ρ).bind fun ds ρ => if ds.length ≤ sizeLine then .ok (.lst ds, .fr) ρ else .no
  | .neg a, ρ => (evE a ρ).bind fun x ρ => (match x.1 with | .int i => .ok (.int (-i), .frz) ρ | _ => .no)
  | .bin o a b, ρ => (evE a ρ).bind fun x ρ => (evE b ρ).bind fun y ρ => (R.of (binD o (cur ρ x.1 x.2) y.1) ρ).bind fun z ρ => .ok (z.1, kdOf z.2) ρ
  | .cmp o a b, ρ => (evE a ρ).bind fun x ρ => (evE b ρ).bind fun y ρ => (R.of (cmpD o (cur ρ x.1 x.2) y.1) ρ).bind fun z ρ => .ok (.bl z, .frz) ρ
  | .cmp2 o1 o2 a b c, ρ => (evE a ρ).bind fun x ρ => (evE b ρ).bind fun y ρ => (R.of (cmpD o1 (cur ρ x.1 x.2) y.1) ρ).bind fun z ρ =>
      if z = true then (evE c ρ).bind fun w ρ => (R.of (cmpD o2 (cur ρ y.1 y.2) w.1) ρ).bind fun z ρ => .ok (.bl z, .frz) ρ else .ok (.bl false, .frz) ρ
  | .not a, ρ => (evT a ρ).bind fun b ρ => .ok (.bl (!b), .frz) ρ
  | .and a b, ρ => (evE a ρ).bind fun x ρ => (match x.1 with
    | .bl true => evE b ρ
    | .bl false => .ok (.bl false, .frz) ρ
    | _ => .no)
  | .or a b, ρ => (evE a ρ).bind fun x ρ => (match x.1 with
    | .bl false => evE b ρ
    | .bl true => .ok (.bl true, .frz) ρ
    | _ => .no)
  | .ife c a b, ρ => (evT c ρ).bind fun k ρ => if k = true then evE a ρ else evE b ρ
  | .idx a i, ρ => (evE a ρ).bind fun x ρ => (evE i ρ).bind fun y ρ => (R.of (idxD (cur ρ x.1 x.2) y.1) ρ).bind fun z ρ => .ok (z, .frz) ρ
  | .sl a lo hi, ρ => (evE a ρ).bind fun x ρ => (evO lo ρ).bind fun l ρ => (evO hi ρ).bind fun h ρ => (R.of (slD (cur ρ x.1 x.2) l h) ρ).bind fun z ρ => .ok (z.1, kdOf z.2) ρ
  | .call f es, ρ => (evA es ρ).bind fun as ρ => doCall cl f as ρ
  | .callk f p es ks, ρ => (evA es ρ).bind fun as ρ => (evA ks ρ).bind fun bs ρ => doCall cl f (pick p (as ++ bs)) ρ
  | .calf f a es, ρ => (evE a ρ).bind fun x ρ => (match x.2 with
    | .fr => (evA es ρ).bind fun as ρ => doCallF cl f x.1 as ρ
    | _ => .no)
  | .calv i es, ρ => (match getS ρ i with
    | .val (.fn f) => (evA es ρ).bind fun as ρ => doCall cl f as ρ
    | _ => .no)
  | .blt b es, ρ => (evP es ρ).bind fun xs ρ => (R.of (bltD b (xs.map fun x => cur ρ x.1 x.2)) ρ).bind fun z ρ => .ok (z.1, kdOf z.2) ρ
  | .isin t a, ρ => (evE a ρ).bind fun x ρ => (R.of (isinD t x.1) ρ).bind fun b ρ => .ok (.bl b, .frz) ρ
  | .fld a x, ρ => (evE a ρ).bind fun v ρ => (R.of (fldD x v.1) ρ).bind fun z ρ => .ok (z, .frz) ρ
  | .mk c f fl es, ρ => (evA es ρ).bind fun as ρ => doMk cl c f fl as ρ
  | .isinc c _ a, ρ => (evE a ρ).bind fun x ρ => (R.of (isinC c x.1) ρ).bind fun b ρ => .ok (.bl b, .frz) ρ
  | .vop .pop i a _, ρ => if ownL (getS ρ i) = true then (evE a ρ).bind fun x ρ => vopD .pop ρ i x.1 .non else .no
  | .uop .dnew _, ρ => .ok (.dct [], .fr) ρ
  | .uop .rev a, ρ => (evE a ρ).bind fun x ρ => (R.of (revD (cur ρ x.1 x.2)) ρ).bind fun z ρ => .ok (z.1, kdOf z.2) ρ
  | .uop .lof (.rng1 a), ρ => (evE a ρ).bind fun x ρ => (match x.1 with | .int n => if rgOk 0 n then .ok (.lst (rngD 0 n), .fr) ρ else .no | _ => .no)
  | .uop .lof (.rng2 a b), ρ => (evE a ρ).bind fun x ρ => (evE b ρ).bind fun y ρ => (match x.1, y.1 with | .int m, .int n => if rgOk m n then .ok (.lst (rngD m n), .fr) ρ else .no | _, _ => .no)
  | .uop .rof (.rng1 a), ρ => (evE a ρ).bind fun x ρ => (match x.1 with | .int n => .ok (.rng 0 n, .frz) ρ | _ => .no)
  | .uop .rof (.rng2 a b), ρ => (evE a ρ).bind fun x ρ => (evE b ρ).bind fun y ρ => (match x.1, y.1 with | .int m, .int n => .ok (.rng m n, .frz) ρ | _, _ => .no)
  | .bm o a b, ρ => (evE a ρ).bind fun x ρ => if isLst x.1 = true then (evE b ρ).bind fun y ρ => (R.of (bmD o (cur ρ x.1 x.2) y.1) ρ).bind fun z ρ => .ok (z.1, kdOf z.2) ρ else .no
  | .oeq ng c f a b, ρ => (evE a ρ).bind fun x ρ => (settle ρ x.1 x.2).bind fun d ρ => (evE b ρ).bind fun y ρ => (settle ρ y.1 y.2).bind fun e ρ => if insB c d = true ∧ othB c e = true then (doCall cl f [.v d, .v e] ρ).bind fun z ρ => blR ng z ρ else .no
  | .mkk c f fl p es ks, ρ => (evA es ρ).bind fun as ρ => (evA ks ρ).bind fun bs ρ => doMk cl c f fl (pick p (as ++ bs)) ρ
  | .lc vs t it c e, ρ => if (vs.all fun v => plainS (getS ρ v)) = true then (evI it ρ).bind fun items ρ1 => (lcLoop vs (fun d => evG t d .frz) (evT c) (evE e) items [] ρ1).bind fun acc ρ2 => .ok (.lst acc, .fr) (unwipe ρ1 ρ2 vs) else .no
  | _, _ => .no
/-- display items: each kept -/
def evL : E → Env → R (List D)
  | .nil, ρ => .ok [] ρ
  | .cons a r, ρ => (evE a ρ).bind fun x ρ => (settle ρ x.1 x.2).bind fun d ρ => (evL r ρ).bind fun ds ρ => .ok (d :: ds) ρ
  | _, _ => .no
/-- a def's arguments -/
def evA : E → Env → R (List Ar)
  | .nil, ρ => .ok [] ρ
  | .cons a r, ρ => (evE a ρ).bind fun x ρ => (settle ρ x.1 x.2).bind fun d ρ => (evA r ρ).bind fun ds ρ => .ok (.v d :: ds) ρ
  | .ioa i r, ρ => (match getS ρ i with
    | .own _ => (evA r ρ).bind fun ds ρ => .ok (.io i :: ds) ρ
    | .io _ => (evA r ρ).bind fun ds ρ => .ok (.io i :: ds) ρ
    | _ => .no)
  | _, _ => .no
/-- a built-in's arguments: looked at alone -/
def evP : E → Env → R (List (D × Kd))
  | .nil, ρ => .ok [] ρ
  | .cons a r, ρ => (evE a ρ).bind fun x ρ => (evP r ρ).bind fun ds ρ => .ok (x :: ds) ρ
  | _, _ => .no
/-- a slice's end -/
def evO : E → Env → R (Option Int)
  | .nil, ρ => .ok none ρ
  | .cons a _, ρ => (evE a ρ).bind fun x ρ => (match x.1 with | .int i => .ok (some i) ρ | _ => .no)
  | _, _ => .no
/-- a test -/
def evT : E → Env → R Bool
  | .not a, ρ => (evT a ρ).bind fun b ρ => .ok (!b) ρ
  | .and a b, ρ => (evT a ρ).bind fun k ρ => if k = true then evT b ρ else .ok false ρ
  | .or a b, ρ => (evT a ρ).bind fun k ρ => if k = true then .ok true ρ else evT b ρ
  | .nil, ρ => .ok true ρ
  | .tr e, ρ => (evE e ρ).bind fun x ρ => R.of (truthD x.1) ρ
  | _, _ => .no
/-- what a for walks -/
def evI : E → Env → R (List D)
  | .rng1 a, ρ => (evE a ρ).bind fun x ρ => (match x.1 with | .int n => if inR n then .ok (rngD 0 n) ρ else .no | _ => .no)
  | .rng2 a b, ρ => (evE a ρ).bind fun x ρ => (evE b ρ).bind fun y ρ => (match x.1, y.1 with | .int m, .int n => if inR m ∧ inR n then .ok (rngD m n) ρ else .no | _, _ => .no)
  | .enm a, ρ => (evE a ρ).bind fun x ρ => (settle ρ x.1 x.2).bind fun d ρ => R.of ((seqOf d).map enumD) ρ
  | .it e, ρ => (evE e ρ).bind fun x ρ => (settle ρ x.1 x.2).bind fun d ρ => R.of (seqI d) ρ
  | _, _ => .no
/-- targets -/
def evG : E → D → Kd → Env → R Unit
  | .var i, d, k, ρ => putName ρ i d k
  | .tup ts, d, _, ρ => (match d with | .tup xs => evGs ts xs ρ | _ => .no)
  | .idx a i, d, k, ρ => (match a, k with
    | _, .pk _ => .no
    | .var j, _ => if ownS (getS ρ j) = true then (evE i ρ).bind fun y ρ => storeIx ρ j y.1 d else .no
    | _, _ => .no)
  | _, _, _, _ => .no
def evGs : E → List D → Env → R Unit
  | .nil, [], ρ => .ok () ρ
  | .cons t r, d :: ds, ρ => (evG t d .frz ρ).bind fun _ ρ => evGs r ds ρ
  | _, _, _ => .no
end
end
/-! ### statements -/
inductive Fl where
  | nx (ρ : Env) | rt (d : D) (b : Bool) (ρ : Env) | no
def Fl.bind (f : Fl) (k : Env → Fl) : Fl := match f with
  | .nx ρ => k ρ
  | f => f
def R.fl {α : Type} (r : R α) (k : α → Env → Fl) : Fl := match r with
  | .ok a ρ => k a ρ
  | .no => .no
def forLoop (g : D → Env → R Unit) (b : Env → Fl) : List D → Env → Fl
  | [], ρ => .nx ρ
  | x :: xs, ρ => (g x ρ).fl fun _ ρ => (b ρ).bind fun ρ => forLoop g b xs ρ
def whlLoop (c : Env → R Bool) (b : Env → Fl) : Nat → Env → Fl
  | 0, _ => .no
  | n + 1, ρ => (c ρ).fl fun k ρ => if k = true then (b ρ).bind fun ρ => whlLoop c b n ρ else .nx ρ
def wFuel : Nat := 16777216
/-- a value that may be kept by a name: a name's list is let go -/
def keep (ρ : Env) (d : D) : Kd → R (D × Kd)
  | .pk i => (settle ρ d (.pk i)).bind fun d ρ => .ok (d, .frz) ρ
  | k => .ok (d, k) ρ
def appD (ρ : Env) (i : Nat) (ds : List D) : Option Env := match getS ρ i with
  | .own (.lst xs) => if xs.length + ds.length ≤ sizeLine then some (ρ.set i (.own (.lst (xs ++ ds)))) else none
  | .io (.lst xs) => if xs.length + ds.length ≤ sizeLine then some (ρ.set i (.io (.lst (xs ++ ds)))) else none
  | _ => none
def lstOf : D → Option (List D)
  | .lst xs => some xs
  | _ => none
section
variable (cl : Nat → List Bool → List D → CRes)
/-- the values of a display, as they come -/
def evM : E → Env → R (List (D × Kd))
  | .nil, ρ => .ok [] ρ
  | .cons a r, ρ => (evE cl a ρ).bind fun x ρ => (keep ρ x.1 x.2).bind fun x ρ => (evM r ρ).bind fun xs ρ => .ok (x :: xs) ρ
  | _, _ => .no
def puts : List Nat → List (D × Kd) → Env → R Unit
  | [], [], ρ => .ok () ρ
  | i :: is, d :: ds, ρ => (putName ρ i d.1 d.2).bind fun _ ρ => puts is ds ρ
  | _, _, _ => .no
def evS : S → Env → Fl
  | .skip, ρ => .nx ρ
  | .seq a b, ρ => (evS a ρ).bind fun ρ => evS b ρ
  | .asg t e, ρ => (evE cl e ρ).fl fun x ρ => (keep ρ x.1 x.2).fl fun x ρ => (evG cl t x.1 x.2 ρ).fl fun _ ρ => .nx ρ
  | .par is es, ρ => (evM cl es ρ).fl fun xs ρ => (puts is xs ρ).fl fun _ ρ => .nx ρ
  | .ex e, ρ => (evE cl e ρ).fl fun _ ρ => .nx ρ
  | .ret e, ρ => (evE cl e ρ).fl fun x ρ => (match x.2 with
    | .frz => .rt x.1 false ρ
    | .fr => .rt x.1 true ρ
    | .pk i => (match getS ρ i with | .own d => .rt d true (ρ.set i .un) | _ => .no))
  | .retn, ρ => .rt .non false ρ
  | .ite c a b, ρ => (evT cl c ρ).fl fun k ρ => if k = true then evS a ρ else evS b ρ
  | .for_ t it b, ρ => (evI cl it ρ).fl fun xs ρ => forLoop (fun d => evG cl t d .frz) (evS b) xs ρ
  | .whl c b, ρ => whlLoop (evT cl c) (evS b) wFuel ρ
  | .app i e, ρ => if ownL (getS ρ i) = true then (evE cl e ρ).fl fun x ρ => (settle ρ x.1 x.2).fl fun d ρ => (match appD ρ i [d] with | some ρ => .nx ρ | none => .no) else .no
  | .ext i e, ρ => if ownL (getS ρ i) = true then (evE cl e ρ).fl fun x ρ => (match x.2 with
    | .fr => (match lstOf x.1 with
      | some ds => (match appD ρ i ds with | some ρ => .nx ρ | none => .no)
      | none => .no)
    | _ => .no) else .no
  | .fst i x e, ρ => (evE cl e ρ).fl fun v ρ => (settle ρ v.1 v.2).fl fun d ρ => (match getS ρ i with
    | .io (.ins c ns fs) => if ns[fs.length]? = some x ∧ x ∉ ns.take fs.length ∧ fs.length < 900 then .nx (ρ.set i (.io (.ins c ns (fs ++ [d])))) else .no
    | _ => .no)
  | .never, _ => .no
end

/-! ### defs -/
structure Df where
  name : Str
  ps : List Str
  N : List Str
  ios : List Bool
  body : S
  deriving Inhabited
def initS : List Bool → List D → Env
  | true :: r, d :: ds => .io d :: initS r ds
  | false :: r, d :: ds => .val d :: initS r ds
  | _, _ => []
def init (df : Df) (ds : List D) : Env := initS df.ios ds ++ List.replicate (df.N.length - df.ps.length) .un
def outsOf : List Bool → Env → Option (List D)
  | [], _ => some []
  | true :: r, .io d :: ρ => (outsOf r ρ).map (d :: ·)
  | false :: r, _ :: ρ => outsOf r ρ
  | _, _ => none
def finish (ios : List Bool) : Fl → CRes
  | .nx ρ => (outsOf ios ρ).map fun os => (.non, false, os)
  | .rt d b ρ => (outsOf ios ρ).map fun os => (d, b, os)
  | .no => none
def callN (T : List Df) : Nat → Nat → List Bool → List D → CRes
  | 0, _, _, _ => none
  | n + 1, f, fl, ds => (match T[f]? with
    | none => none
    | some df => if df.ios = fl ∧ ds.length = df.ps.length ∧ df.ios.length = df.ps.length then finish df.ios (evS (callN T n) df.body (init df ds)) else none)
end Mp

set_option maxRecDepth 100000
set_option maxHeartbeats 4000000
/-! Mh: the table of defs, what the head tells. -/
namespace Mp
open PySem PySem.Spec PyProof.Rows L2
def dTyN : Nat → String
  | 0 => "NoneType" | 1 => "bool" | 2 => "int" | 3 => "str" | 4 => "tuple" | _ => "list"
structure Tab where
  T : List Df
  DS : List He.DefD
  vals : List (Str × D)
  free : List Str
  cls : List (Str × List Str × Nat)
  eqs : List (Str × Nat × Nat)
def Tab.es (t : Tab) : List (Nat × Nat) := t.eqs.map fun q => q.2
def Tab.cs (t : Tab) : List (List Str × Nat) := t.cls.map fun q => (q.2.1, q.2.2)
def Tab.pss (t : Tab) : List (List Str) := t.T.map (·.ps)
mutual
def kD (K : PySem.W.Frag) : D → Value → Bool
  | .non, .none => true
  | .bl a, .bool b => a == b
  | .int i, .int j _ => decide (i = j)
  | .str a, .str b _ => decide (a = b)
  | .tup ds, .ref a => (match K.lookup a with
    | some ⟨.type c, _, .seq its _, _⟩ => decide (c = "tuple") && (decide (its.size ≤ sizeLine) && kDs K ds its.toList)
    | _ => false)
  | _, _ => false
def kDs (K : PySem.W.Frag) : List D → List Value → Bool
  | [], [] => true
  | d :: ds, u :: us => kD K d u && kDs K ds us
  | _, _ => false
end
def valF (K : PySem.W.Frag) (p : Str × D) : Bool := match p.2 with
  | .fn _ => He.eqO (PySem.W.nsIn K mainGlobals p.1) (some (some (.ref (He.ga K p.1))))
  | .cls _ => He.eqO (PySem.W.nsIn K mainGlobals p.1) (some (some (.ref (He.ga K p.1))))
  | d => (match PySem.W.nsIn K mainGlobals p.1 with
    | some (some u) => kD K d u
    | _ => false)
def freeF (K : PySem.W.Frag) (x : Str) : Bool := He.eqO (PySem.W.nsIn K mainGlobals x) (some none)
/-- an own class: what its instances ask -/
def clsF (K : PySem.W.Frag) (q : Str × List Str × Nat) : Bool := (He.Fa.cls q.1).ok K && (He.eqO (PySem.W.findIn K (.ref (He.ga K q.1)) "__class__") (some (some (.builtin "object.__class__"))) && (He.eqO (PySem.W.specialIn K (.builtin "object.__class__") "__get__") (some (some (.builtin "getset_descriptor.__get__"))) &&
  (decide (PySem.W.takesIn K (.builtin "object.__class__") = some true) && (decide (PySem.W.mroIn K (He.ga K q.1) (.type "object") = some true) && (decide (PySem.W.kitOne K (.ref (He.ga K q.1)) (.ref (He.ga K q.1)) = some true) &&
  ((q.2.1.all fun x => (He.Fa.noat q.1 x).ok K) && ((He.Fa.mkr q.1).ok K && ((List.range 6).all fun i => decide (PySem.W.kitOne K (.type (dTyN i)) (.ref (He.ga K q.1)) = some false)))))))))
def eqF (K : PySem.W.Frag) (q : Str × Nat × Nat) : Bool := He.eqO (PySem.W.findIn K (.ref (He.ga K q.1)) "__eq__") (some (some (.ref (He.ma K (He.ga K q.1) "__eq__")))) && (He.eqO (PySem.W.findIn K (.ref (He.ga K q.1)) "__ne__") (some (some (.builtin "object.__ne__"))) &&
  (PySem.W.isFn K (.ref (He.ma K (He.ga K q.1) "__eq__")) && decide (PySem.W.mroIn K (He.ga K q.1) (.type "object") = some true)))
def factB0 (t : Tab) (K : PySem.W.Frag) : Bool := t.vals.all (valF K) && (t.cls.all (clsF K) && (t.free.all (freeF K) && (decide (t.DS.map fun d => He.fAd K d.at_).Nodup && t.DS.all fun d => d.ok K)))
def factB (t : Tab) (K : PySem.W.Frag) : Bool := factB0 t K && t.eqs.all (eqF K)
def obsM (t : Tab) (K : PySem.W.Frag) : He.AlD := (factB t K, t.DS.map fun d => He.fnW K d.at_)
def SaysM (t : Tab) (K : PySem.W.Frag) : Prop := obsM t K = He.valD t.DS
def obsMG (n : Nat) (t : Tab) (g : Addr → Option Obj) : He.AlD := obsM t (He.frG g (He.asD g n))
def hookM (n : Nat) (t : Tab) : PySem.W.Hook where
  α := He.AlD
  obs := fun s => obsMG n t s.heap.get?
  val := fun _ => He.valD t.DS
  says := fun _ h => ∃ K : PySem.W.Frag, K.In h ∧ SaysM t K
  of := fun _ _ e => ⟨_, He.frG_in, e⟩
  keeps := fun _ _ _ ⟨K, hK, c⟩ k => ⟨K, PySem.W.Frag.In.keeps hK k, c⟩
theorem obsMG_eq {n : Nat} {t : Tab} {g : Addr → Option Obj} {s : Shared} (h : ∀ a, g a = s.heap.get? a) : obsMG n t g = (hookM n t).obs s := by
  have e : g = s.heap.get? := funext h
  rw [e] <;> rfl
def mkD (s : Stmt) : Option He.DefD := match s with
  | .FunctionDef n a b _ _ _ sc _ _ _ => some { at_ := (n, none), name := n, qual := n, params := a, body := b, scope := sc }
  | _ => none
/-- a class's __init__ -/
def mkM (x : Str) (ss : List Stmt) : List He.DefD := ss.flatMap fun s => match s with
  | .ClassDef n _ _ b _ _ _ _ _ _ _ => if n = x then b.filterMap fun s => (match s with
    | .FunctionDef m a mb _ _ _ sc _ _ _ => if m = ("__init__" : Str) then some { at_ := (x, some m), name := m, qual := x ++ (".__init__" : Str), params := a, body := mb, scope := sc } else none
    | _ => none) else []
  | _ => []
/-- a class's __eq__ -/
def mkE (x : Str) (ss : List Stmt) : List He.DefD := ss.flatMap fun s => match s with
  | .ClassDef n _ _ b _ _ _ _ _ _ _ => if n = x then b.filterMap fun s => (match s with
    | .FunctionDef m a mb _ _ _ sc _ _ _ => if m = ("__eq__" : Str) then some { at_ := (x, some m), name := m, qual := x ++ (".__eq__" : Str), params := a, body := mb, scope := sc } else none
    | _ => none) else []
  | _ => []
end Mp

namespace K67
open PySem Mp
set_option maxHeartbeats 4000000
set_option maxRecDepth 100000
/-! the table of defs, printed by gen.py -/
def d0 : Df := ⟨"is_whole", ["value"], ["value"], [false],
  (.seq (.ret (.and (.isin 0 (.var 0)) (.not (.tr (.isin 1 (.var 0)))))) .skip)⟩
def d1 : Df := ⟨"is_between", ["value", "least", "most"], ["value", "least", "most"], [false, false, false],
  (.seq (.ret (.and (.call 0 (.cons (.var 0) .nil)) (.cmp2 .le .le (.var 1) (.var 0) (.var 2)))) .skip)⟩
def d2 : Df := ⟨"are_below", ["ahead", "value"], ["ahead", "value"], [false, false],
  (.seq (.ret (.or (.cmp .eq (.var 0) (.tup .nil)) (.cmp .lt (.idx (.var 0) (.neg (.con (.int 1)))) (.var 1)))) .skip)⟩
def d3 : Df := ⟨"wrong_in", ["value", "least", "most", "is_right"], ["value", "least", "most", "is_right", "index", "each"], [false, false, false, false],
  (.seq (.ite (.or (.not (.tr (.isin 3 (.var 0)))) (.tr (.cmp .lt (.blt .len (.cons (.var 0) .nil)) (.var 1)))) (.seq (.ret (.lst (.cons (.con .non) .nil))) .skip) .skip) (.seq (.for_ (.tup (.cons (.var 4) (.cons (.var 5) .nil))) (.enm (.var 0)) (.seq (.ite (.or (.tr (.cmp .eq (.var 4) (.var 2))) (.not (.tr (.calv 3 (.cons (.sl (.var 0) .nil (.cons (.var 4) .nil)) (.cons (.var 5) .nil)))))) (.seq (.ret (.lst (.cons (.var 4) .nil))) .skip) .skip) .skip)) (.seq (.ret (.lst .nil)) .skip)))⟩
def d4 : Df := ⟨"are_all", ["value", "least", "most", "is_right"], ["value", "least", "most", "is_right"], [false, false, false, false],
  (.seq (.ret (.cmp .eq (.call 3 (.cons (.var 0) (.cons (.var 1) (.cons (.var 2) (.cons (.var 3) .nil))))) (.lst .nil))) .skip)⟩
def d5 : Df := ⟨"is_side", ["ahead", "value"], ["ahead", "value"], [false, false],
  (.seq (.ret (.call 1 (.cons (.var 1) (.cons (.neg (.glo "MOST_SORT" (.int 9))) (.cons (.glo "MOST_SORT" (.int 9)) .nil))))) .skip)⟩
def d6 : Df := ⟨"is_piece", ["value"], ["value"], [false],
  (.seq (.ret (.call 4 (.cons (.var 0) (.cons (.blt .len (.cons (.glo "SIDES" (.tup [(.int 0), (.int 1), (.int 2), (.int 3)])) .nil)) (.cons (.blt .len (.cons (.glo "SIDES" (.tup [(.int 0), (.int 1), (.int 2), (.int 3)])) .nil)) (.cons (.glo "is_side" (.fn 5)) .nil)))))) .skip)⟩
def d7 : Df := ⟨"turned_by", ["piece", "quarters"], ["piece", "quarters"], [false, false],
  (.seq (.ret (.bin .add (.sl (.var 0) (.cons (.bin .sub (.blt .len (.cons (.glo "SIDES" (.tup [(.int 0), (.int 1), (.int 2), (.int 3)])) .nil)) (.var 1)) .nil) .nil) (.sl (.var 0) .nil (.cons (.bin .sub (.blt .len (.cons (.glo "SIDES" (.tup [(.int 0), (.int 1), (.int 2), (.int 3)])) .nil)) (.var 1)) .nil)))) .skip)⟩
def d8 : Df := ⟨"turns_of", ["piece"], ["piece", "quarters"], [false],
  (.seq (.ret (.lc [1] (.var 1) (.rng1 (.glo "QUARTERS" (.int 4))) .nil (.call 7 (.cons (.var 0) (.cons (.var 1) .nil))))) .skip)⟩
def d9 : Df := ⟨"is_next_number", ["ahead", "value"], ["ahead", "value"], [false, false],
  (.seq (.ret (.and (.call 1 (.cons (.var 1) (.cons (.neg (.glo "MOST_SORT" (.int 9))) (.cons (.glo "MOST_SORT" (.int 9)) .nil)))) (.call 2 (.cons (.var 0) (.cons (.var 1) .nil))))) .skip)⟩
def d10 : Df := ⟨"are_numbers", ["value"], ["value"], [false],
  (.seq (.ret (.call 4 (.cons (.var 0) (.cons (.glo "LEAST_NUMBERS" (.int 1)) (.cons (.glo "MOST_NUMBERS" (.int 5)) (.cons (.glo "is_next_number" (.fn 9)) .nil)))))) .skip)⟩
def d11 : Df := ⟨"pieces_with", ["numbers"], ["numbers", "found", "side", "longer", "piece", "number"], [false],
  (.seq (.asg (.var 1) (.lst (.cons (.tup .nil) .nil))) (.seq (.for_ (.var 2) (.it (.glo "SIDES" (.tup [(.int 0), (.int 1), (.int 2), (.int 3)]))) (.seq (.asg (.var 3) (.lst .nil)) (.seq (.for_ (.var 4) (.it (.var 1)) (.seq (.ext 3 (.lc [5] (.var 5) (.it (.var 0)) .nil (.bin .add (.var 4) (.tup (.cons (.var 5) .nil))))) .skip)) (.seq (.asg (.var 1) (.var 3)) .skip)))) (.seq (.ret (.var 1)) .skip)))⟩
def d12 : Df := ⟨"first_turn", ["piece"], ["piece"], [false],
  (.seq (.ret (.blt .min (.cons (.call 8 (.cons (.var 0) .nil)) .nil))) .skip)⟩
def d13 : Df := ⟨"kinds_with", ["numbers"], ["numbers", "piece"], [false],
  (.seq (.ret (.lc [1] (.var 1) (.it (.call 11 (.cons (.var 0) .nil))) (.tr (.cmp .eq (.call 12 (.cons (.var 1) .nil)) (.var 1))) (.var 1))) .skip)⟩
def d14 : Df := ⟨"check_piece", ["piece"], ["piece"], [false],
  (.seq (.ite (.not (.tr (.call 6 (.cons (.var 0) .nil)))) (.seq .never .skip) .skip) .skip)⟩
def d15 : Df := ⟨"check_numbers", ["numbers"], ["numbers"], [false],
  (.seq (.ite (.not (.tr (.call 10 (.cons (.var 0) .nil)))) (.seq .never .skip) .skip) .skip)⟩
def d16 : Df := ⟨"how_many_pieces", ["numbers"], ["numbers"], [false],
  (.seq (.ex (.call 15 (.cons (.var 0) .nil))) (.seq (.ret (.blt .len (.cons (.call 11 (.cons (.var 0) .nil)) .nil))) .skip))⟩
def d17 : Df := ⟨"how_many_kinds_of", ["numbers"], ["numbers"], [false],
  (.seq (.ex (.call 15 (.cons (.var 0) .nil))) (.seq (.ret (.blt .len (.cons (.call 13 (.cons (.var 0) .nil)) .nil))) .skip))⟩
def d18 : Df := ⟨"first_turned", ["piece"], ["piece"], [false],
  (.seq (.ex (.call 14 (.cons (.var 0) .nil))) (.seq (.ret (.call 12 (.cons (.var 0) .nil))) .skip))⟩
def d19 : Df := ⟨"are_alike", ["piece", "other"], ["piece", "other"], [false, false],
  (.seq (.ex (.call 14 (.cons (.var 0) .nil))) (.seq (.ex (.call 14 (.cons (.var 1) .nil))) (.seq (.ret (.cmp .eq (.call 12 (.cons (.var 0) .nil)) (.call 12 (.cons (.var 1) .nil)))) .skip)))⟩
def d20 : Df := ⟨"_law_chest", ["script", "lap"], ["script", "lap", "stir", "cell", "own"], [false, false],
  (.seq (.asg (.var 2) (.bin .add (.con (.int 811037)) (.bin .mul (.con (.int 7043)) (.var 1)))) (.seq (.for_ (.var 3) (.it (.sl (.var 0) .nil (.cons (.con (.int 17)) .nil))) (.seq (.asg (.var 2) (.bin .mod (.blt .int (.cons (.bin .add (.bin .add (.bin .mul (.var 2) (.con (.int 44927))) (.bin .mul (.bin .mod (.blt .int (.cons (.var 3) .nil)) (.con (.int 2147483069))) (.con (.int 17)))) (.con (.int 37))) .nil)) (.con (.int 2147483629)))) .skip)) (.seq (.asg (.var 4) (.ife (.tr (.cmp .lt (.var 1) (.blt .len (.cons (.var 0) .nil)))) (.blt .int (.cons (.idx (.var 0) (.var 1)) .nil)) (.con (.int 0)))) (.seq (.asg (.var 2) (.bin .mod (.blt .int (.cons (.bin .add (.bin .add (.bin .mul (.var 2) (.con (.int 83))) (.bin .mul (.bin .mod (.var 4) (.con (.int 2147483069))) (.con (.int 29017)))) (.con (.int 13))) .nil)) (.con (.int 2147483629)))) (.seq (.ret (.lst (.cons (.ife (.or (.tr (.cmp .lt (.var 4) (.con (.int 0)))) (.tr (.cmp .ge (.var 4) (.bin .pow (.con (.int 10)) (.con (.int 16)))))) (.blt .abs (.cons (.var 4) .nil)) (.con (.int 0))) (.cons (.var 2) (.cons (.con (.int 0)) .nil))))) .skip)))))⟩
def d21 : Df := ⟨"_law_less", ["chest", "many"], ["chest", "many", "figure", "turn"], [true, false],
  (.seq (.ite (.tr (.cmp .gt (.idx (.var 0) (.con (.int 0))) (.con (.int 0)))) (.seq (.asg (.tup (.cons (.idx (.var 0) (.con (.int 0))) (.cons (.var 2) .nil))) (.blt .divmod (.cons (.idx (.var 0) (.con (.int 0))) (.cons (.var 1) .nil)))) (.seq (.ret (.var 2)) .skip)) .skip) (.seq (.asg (.idx (.var 0) (.con (.int 2))) (.bin .add (.idx (.var 0) (.con (.int 2))) (.con (.int 1)))) (.seq (.asg (.var 3) (.bin .mod (.blt .int (.cons (.bin .add (.bin .add (.bin .mul (.idx (.var 0) (.con (.int 1))) (.con (.int 51341))) (.bin .mul (.con (.int 15017)) (.idx (.var 0) (.con (.int 2))))) (.con (.int 43))) .nil)) (.con (.int 2147483587)))) (.seq (.asg (.idx (.var 0) (.con (.int 1))) (.bin .mod (.blt .int (.cons (.bin .add (.bin .mul (.var 3) (.bin .add (.bin .mod (.blt .int (.cons (.var 3) .nil)) (.con (.int 4507))) (.con (.int 23003)))) (.bin .mul (.con (.int 13)) (.idx (.var 0) (.con (.int 2))))) .nil)) (.con (.int 2147483587)))) (.seq (.ret (.bin .mod (.blt .int (.cons (.bin .fdiv (.idx (.var 0) (.con (.int 1))) (.con (.int 541))) .nil)) (.var 1))) .skip)))))⟩
def d22 : Df := ⟨"_law_of", ["chest", "some"], ["chest", "some"], [true, false],
  (.seq (.ret (.idx (.var 1) (.call 21 (.ioa 0 (.cons (.blt .len (.cons (.var 1) .nil)) .nil))))) .skip)⟩
def d23 : Df := ⟨"_law_same", ["told", "due"], ["told", "due", "alike", "k"], [false, false],
  (.seq (.ite (.or (.tr (.isin 3 (.var 1))) (.tr (.isin 4 (.var 1)))) (.seq (.asg (.var 2) (.ife (.tr (.isin 3 (.var 1))) (.isin 3 (.var 0)) (.isin 4 (.var 0)))) (.seq (.ret (.and (.var 2) (.and (.cmp .eq (.blt .len (.cons (.var 0) .nil)) (.blt .len (.cons (.var 1) .nil))) (.blt .all (.cons (.lc [3] (.var 3) (.rng1 (.blt .len (.cons (.var 1) .nil))) .nil (.call 23 (.cons (.idx (.var 0) (.var 3)) (.cons (.idx (.var 1) (.var 3)) .nil)))) .nil))))) .skip)) .skip) (.seq (.ite (.tr (.cmp .is_ (.var 1) (.con .non))) (.seq (.ret (.cmp .is_ (.var 0) (.con .non))) .skip) .skip) (.seq (.ite (.tr (.isin 1 (.var 1))) (.seq (.ret (.and (.isin 1 (.var 0)) (.cmp .eq (.var 0) (.var 1)))) .skip) .skip) (.seq (.ite (.tr (.isin 0 (.var 1))) (.seq (.ret (.and (.isin 0 (.var 0)) (.and (.not (.tr (.isin 1 (.var 0)))) (.cmp .eq (.var 0) (.var 1))))) .skip) .skip) (.seq (.ite (.tr (.isin 2 (.var 1))) (.seq (.ret (.and (.isin 2 (.var 0)) (.cmp .eq (.var 0) (.var 1)))) .skip) .skip) (.seq (.ret (.cmp .eq (.var 0) (.var 1))) .skip))))))⟩
def d24 : Df := ⟨"_law_turned", ["piece", "quarters"], ["piece", "quarters"], [false, false],
  (.seq (.ret (.bin .add (.sl (.var 0) (.cons (.bin .sub (.con (.int 4)) (.var 1)) .nil) .nil) (.sl (.var 0) .nil (.cons (.bin .sub (.con (.int 4)) (.var 1)) .nil)))) .skip)⟩
def d25 : Df := ⟨"_law_shuffled", ["chest", "some"], ["chest", "some", "left", "found"], [true, false],
  (.seq (.par [2, 3] (.cons (.blt .list (.cons (.var 1) .nil)) (.cons (.lst .nil) .nil))) (.seq (.whl (.tr (.cmp .ne (.var 2) (.lst .nil))) (.seq (.app 3 (.vop .pop 2 (.call 21 (.ioa 0 (.cons (.blt .len (.cons (.var 2) .nil)) .nil))) .nil)) .skip)) (.seq (.ret (.blt .tuple (.cons (.var 3) .nil))) .skip)))⟩
def d26 : Df := ⟨"_law_first_turned", ["piece"], ["piece", "quarters"], [false],
  (.seq (.ret (.blt .min (.cons (.lc [1] (.var 1) (.rng1 (.con (.int 4))) .nil (.call 24 (.cons (.var 0) (.cons (.var 1) .nil)))) .nil))) .skip)⟩
def d27 : Df := ⟨"_law_counted", ["chest"], ["chest", "many", "numbers", "pieces", "kinds", "side", "longer", "piece", "number", "due"], [true],
  (.seq (.asg (.var 1) (.bin .add (.con (.int 1)) (.call 21 (.ioa 0 (.cons (.con (.int 5)) .nil))))) (.seq (.asg (.var 2) (.blt .tuple (.cons (.blt .sorted (.cons (.sl (.call 25 (.ioa 0 (.cons (.uop .lof (.rng2 (.bin .sub (.con (.int 0)) (.con (.int 9))) (.con (.int 10)))) .nil))) .nil (.cons (.var 1) .nil)) .nil)) .nil))) (.seq (.par [3, 4] (.cons (.lst (.cons (.tup .nil) .nil)) (.cons (.uop .dnew .nil) .nil))) (.seq (.for_ (.var 5) (.rng1 (.con (.int 4))) (.seq (.asg (.var 6) (.lst .nil)) (.seq (.for_ (.var 7) (.it (.var 3)) (.seq (.asg (.var 6) (.bin .add (.var 6) (.lc [8] (.var 8) (.it (.var 2)) .nil (.bin .add (.var 7) (.tup (.cons (.var 8) .nil)))))) .skip)) (.seq (.asg (.var 3) (.var 6)) .skip)))) (.seq (.for_ (.var 7) (.it (.var 3)) (.seq (.asg (.idx (.var 4) (.call 26 (.cons (.var 7) .nil))) (.con (.bl true))) .skip)) (.seq (.asg (.var 9) (.lst (.cons (.blt .len (.cons (.var 3) .nil)) (.cons (.blt .len (.cons (.var 4) .nil)) .nil)))) (.seq (.ite (.tr (.cmp .ne (.var 9) (.lst (.cons (.bin .mul (.bin .mul (.bin .mul (.var 1) (.var 1)) (.var 1)) (.var 1)) (.cons (.bin .fdiv (.bin .add (.bin .add (.bin .mul (.bin .mul (.bin .mul (.var 1) (.var 1)) (.var 1)) (.var 1)) (.bin .mul (.var 1) (.var 1))) (.bin .mul (.con (.int 2)) (.var 1))) (.con (.int 4))) .nil))))) (.seq (.ret (.con (.bl false))) .skip) .skip) (.seq (.ite (.not (.tr (.call 23 (.cons (.lst (.cons (.call 16 (.cons (.var 2) .nil)) (.cons (.call 17 (.cons (.var 2) .nil)) .nil))) (.cons (.var 9) .nil))))) (.seq (.ret (.con (.bl false))) .skip) .skip) (.seq (.ret (.call 23 (.cons (.lst (.cons (.callk 16 [0] .nil (.cons (.var 2) .nil)) (.cons (.callk 17 [0] .nil (.cons (.var 2) .nil)) .nil))) (.cons (.var 9) .nil)))) .skip)))))))))⟩
def d28 : Df := ⟨"_law_right", ["chest"], ["chest", "lap", "most", "piece", "side", "due", "turned_here", "k", "others", "other", "fine"], [true],
  (.seq (.ite (.or (.not (.tr (.call 27 (.ioa 0 .nil)))) (.not (.tr (.call 27 (.ioa 0 .nil))))) (.seq (.ret (.con (.bl false))) .skip) .skip) (.seq (.for_ (.var 1) (.rng1 (.con (.int 8))) (.seq (.asg (.var 2) (.call 22 (.ioa 0 (.cons (.tup (.cons (.con (.int 1)) (.cons (.con (.int 2)) (.cons (.con (.int 9)) .nil)))) .nil)))) (.seq (.asg (.var 3) (.blt .tuple (.cons (.lc [4] (.var 4) (.rng1 (.con (.int 4))) .nil (.bin .sub (.call 21 (.ioa 0 (.cons (.bin .add (.bin .mul (.con (.int 2)) (.var 2)) (.con (.int 1))) .nil))) (.var 2))) .nil))) (.seq (.par [5, 6] (.cons (.call 26 (.cons (.var 3) .nil)) (.cons (.call 24 (.cons (.var 3) (.cons (.call 21 (.ioa 0 (.cons (.con (.int 4)) .nil))) .nil))) .nil))) (.seq (.ite (.not (.tr (.call 23 (.cons (.lst (.cons (.call 18 (.cons (.var 3) .nil)) (.cons (.callk 18 [0] .nil (.cons (.var 3) .nil)) (.cons (.call 18 (.cons (.var 6) .nil)) .nil)))) (.cons (.lst (.cons (.var 5) (.cons (.var 5) (.cons (.var 5) .nil)))) .nil))))) (.seq (.ret (.con (.bl false))) .skip) .skip) (.seq (.asg (.var 7) (.call 21 (.ioa 0 (.cons (.con (.int 4)) .nil)))) (.seq (.asg (.var 8) (.lst (.cons (.var 6) (.cons (.uop .rev (.var 3)) (.cons (.blt .tuple (.cons (.lc [4] (.var 4) (.it (.var 3)) .nil (.bin .sub (.con (.int 0)) (.var 4))) .nil)) (.cons (.bin .add (.bin .add (.sl (.var 3) .nil (.cons (.var 7) .nil)) (.tup (.cons (.bin .sub (.call 21 (.ioa 0 (.cons (.con (.int 3)) .nil))) (.con (.int 1))) .nil))) (.sl (.var 3) (.cons (.bin .add (.var 7) (.con (.int 1))) .nil) .nil)) .nil)))))) (.seq (.for_ (.var 9) (.it (.var 8)) (.seq (.asg (.var 10) (.cmp .eq (.call 26 (.cons (.var 9) .nil)) (.var 5))) (.seq (.ite (.not (.tr (.call 23 (.cons (.lst (.cons (.call 19 (.cons (.var 3) (.cons (.var 9) .nil))) (.cons (.callk 19 [1, 0] .nil (.cons (.var 9) (.cons (.var 3) .nil))) (.cons (.call 19 (.cons (.var 9) (.cons (.var 3) .nil))) .nil)))) (.cons (.lst (.cons (.var 10) (.cons (.var 10) (.cons (.var 10) .nil)))) .nil))))) (.seq (.ret (.con (.bl false))) .skip) .skip) .skip))) .skip)))))))) (.seq (.ret (.con (.bl true))) .skip)))⟩
def d29 : Df := ⟨"law", ["script"], ["script", "lap"], [false],
  (.seq (.for_ (.var 1) (.rng1 (.blt .max (.cons (.con (.int 1)) (.cons (.blt .min (.cons (.blt .len (.cons (.var 0) .nil)) (.cons (.con (.int 3)) .nil))) .nil)))) (.seq (.ite (.not (.tr (.calf 28 (.call 20 (.cons (.var 0) (.cons (.var 1) .nil))) .nil))) (.seq (.ret (.con (.bl false))) .skip) .skip) .skip)) (.seq (.ret (.con (.bl true))) .skip))⟩
def T : List Df := ([d0, d1, d2, d3, d4, d5, d6, d7, d8, d9, d10, d11, d12, d13, d14, d15, d16, d17, d18, d19, d20, d21, d22, d23, d24] : List Df) ++ ([d25, d26, d27, d28, d29] : List Df)
def vals : List (Str × D) := ([("is_whole", .fn 0), ("is_between", .fn 1), ("are_below", .fn 2), ("wrong_in", .fn 3), ("are_all", .fn 4), ("is_side", .fn 5), ("is_piece", .fn 6), ("turned_by", .fn 7), ("turns_of", .fn 8), ("is_next_number", .fn 9), ("are_numbers", .fn 10), ("pieces_with", .fn 11), ("first_turn", .fn 12), ("kinds_with", .fn 13), ("check_piece", .fn 14), ("check_numbers", .fn 15), ("how_many_pieces", .fn 16), ("how_many_kinds_of", .fn 17), ("first_turned", .fn 18), ("are_alike", .fn 19), ("_law_chest", .fn 20), ("_law_less", .fn 21), ("_law_of", .fn 22), ("_law_same", .fn 23), ("_law_turned", .fn 24)] : List (Str × D)) ++ ([("_law_shuffled", .fn 25), ("_law_first_turned", .fn 26), ("_law_counted", .fn 27), ("_law_right", .fn 28), ("law", .fn 29), ("SIDES", (.tup [(.int 0), (.int 1), (.int 2), (.int 3)])), ("QUARTERS", (.int 4)), ("MOST_SORT", (.int 9)), ("LEAST_NUMBERS", (.int 1)), ("MOST_NUMBERS", (.int 5))] : List (Str × D))
def free : List Str := ["abs", "all", "bool", "divmod", "enumerate", "int", "isinstance", "len", "list", "max", "min", "range", "sorted", "str", "tuple"]
def cls : List (Str × List Str × Nat) := []
def eqs : List (Str × Nat × Nat) := []
end K67
namespace K67
open PySem PySem.Spec PyProof.Rows L2 Mp
set_option maxRecDepth 100000
set_option maxHeartbeats 0
abbrev body : List Stmt := PySem.Challenge.pw_sidefits_k67_whole_numbers_of_pieces_and.main.body
def names : List PySem.Str := (PySem.Challenge.pw_sidefits_k67_whole_numbers_of_pieces_and.main.scope.names.map (·.1)).filter fun x => !(x == "law") && !(x == "__name__")
def tab : Tab := ⟨T, body.filterMap mkD, vals, free, cls, eqs⟩
abbrev R : PySem.W.OpenRow := PySem.W.OpenLaw.row PySem.Challenge.rw_sidefits_k67_whole_numbers_of_pieces_and
abbrev hk : PySem.W.Hook := hookM 5 tab
def ob (s : PySem.W.SharedT) : He.AlD := obsMG 5 tab (HandSHeadRun.getT s)
theorem ob_eq (s : PySem.W.SharedT) : ob s = hk.obs s.abs := obsMG_eq (HandSHeadRun.getT_eq s)
theorem run (w : World) : HandSHeadRun.RunEq R (PySem.W.view R.prog [48]) hk ob 40000 names w := by
  intro os
  kernel_rfl

end K67

set_option maxRecDepth 100000
set_option maxHeartbeats 4000000
/-! Mp2: what a value of the layer stands for (Dt), the state's relation (SR), operations by values. -/
namespace Mp
open PySem PySem.Spec PyProof.Rows L2

structure GD where
  K : PySem.W.Frag
  fa : Nat → Addr
  ca : Nat → Addr

/-- an own class, its fields' names -/
def InsF (G : GD) (c : Nat) (ns : List Str) : Prop := C8.InsC G.K (G.ca c) ∧ ∀ x ∈ ns, NoAttr G.K (G.ca c) x
/-- a dict whose keys are nested tuples: keys, the tuples' addresses, values -/
def NdR (a : Addr) (xs : List (NestedKey × Addr × V)) (h : Heap) : Prop :=
  (a == sysModules) = false ∧ xs.length ≤ sizeLine ∧ ∃ (w : World) (ys : List (NestedKey × Addr × Value)), Paired (fun x y => x.1 = y.1 ∧ x.2.1 = y.2.1 ∧ RelV x.2.2 y.2.2) xs ys ∧
    ∃ o es ep, h.get? a = some o ∧ o.ExactDict ∧ o.data = .dict es ep ∧ es.toList = ys.map fun y => (⟨y.1.hash w, .ref y.2.1, y.2.2⟩ : DictEntry)
def ndO (a : Addr) (xs : List (NestedKey × Addr × V)) : HO := .ext (NdR a xs)
def xKey (x : NestedKey × Addr × V) : Option NestedKey := some x.1
def xRef (x : NestedKey × Addr × V) : V := .ref x.2.1
def xVal (x : NestedKey × Addr × V) : V := x.2.2
def kNk (p : D × D) : Option NestedKey := nk p.1
mutual
inductive Dt (G : GD) (H : Hp) : V → D → Prop
  | non : Dt G H .non .non
  | bl (b : Bool) : Dt G H (.bl b) (.bl b)
  | int (i : Int) : Dt G H (.int i) (.int i)
  | str (x : Str) : Dt G H (.str x) (.str x)
  | tup {a : Addr} {xs : List V} {ds : List D} : SqT G.K H a xs → DtA G H xs ds → Dt G H (.ref a) (.tup ds)
  | lst {a : Addr} {xs : List V} {ds : List D} : Rd H a (.lst xs) → DtA G H xs ds → Dt G H (.ref a) (.lst ds)
  | fn (i : Nat) : Dt G H (.ref (G.fa i)) (.fn i)
  | scr {a : Addr} {xs : List V} {ds : List D} : SqL G.K H a xs → DtA G H xs ds → Dt G H (.ref a) (.scr ds)
  | ins {a dx : Addr} {c : Nat} {fl : List (Str × V)} {ns : List Str} {ds : List D} : H a = some (.ins (G.ca c) dx fl) → fl.map (·.1) = ns.take ds.length → InsF G c ns → DtA G H (fl.map (·.2)) ds → Dt G H (.ref a) (.ins c ns ds)
  | cls (c : Nat) : Dt G H (.ref (G.ca c)) (.cls c)
  | rng {a : Addr} {lo hi : Int} : H a = some (.rng lo hi) → Dt G H (.ref a) (.rng lo hi)
  | dct {a : Addr} {xs : List (NestedKey × Addr × V)} {kvs : List (D × D)} : H a = some (ndO a xs) → kvs.map kNk = xs.map xKey → (xs.map (·.1)).Nodup → DtA G H (xs.map xRef) (kvs.map (·.1)) → DtA G H (xs.map xVal) (kvs.map (·.2)) → Dt G H (.ref a) (.dct kvs)
inductive DtA (G : GD) (H : Hp) : List V → List D → Prop
  | nil : DtA G H [] []
  | cons {v : V} {d : D} {vs : List V} {ds : List D} : Dt G H v d → DtA G H vs ds → DtA G H (v :: vs) (d :: ds)
end

theorem rd_le {H H' : Hp} {a : Addr} {u : HO} (e : ∀ a o, H a = some o → H' a = some o) (h : Rd H a u) : Rd H' a u := by
  rcases h with h | ⟨o, h⟩
  · exact .inl (e _ _ h)
  · exact .inr ⟨o, e _ _ h⟩
theorem sql_le {K : PySem.W.Frag} {H H' : Hp} {a : Addr} {xs : List V} (e : ∀ a o, H a = some o → H' a = some o) (h : SqL K H a xs) : SqL K H' a xs := by
  rcases h with h | h
  · exact .inl (rd_le e h)
  · exact .inr h
theorem sqt_le {K : PySem.W.Frag} {H H' : Hp} {a : Addr} {xs : List V} (e : ∀ a o, H a = some o → H' a = some o) (h : SqT K H a xs) : SqT K H' a xs := by
  rcases h with h | h
  · exact .inl (rd_le e h)
  · exact .inr h

section
variable {G : GD} {H H' : Hp}
mutual
theorem Dt.le (e : ∀ a o, H a = some o → H' a = some o) : ∀ {v : V} {d : D}, Dt G H v d → Dt G H' v d
  | _, _, .non => .non
  | _, _, .bl b => .bl b
  | _, _, .int i => .int i
  | _, _, .str x => .str x
  | _, _, .tup h r => .tup (sqt_le e h) (DtA.le e r)
  | _, _, .lst h r => .lst (rd_le e h) (DtA.le e r)
  | _, _, .fn i => .fn i
  | _, _, .scr h r => .scr (sql_le e h) (DtA.le e r)
  | _, _, .ins h k f r => .ins (e _ _ h) k f (DtA.le e r)
  | _, _, .cls c => .cls c
  | _, _, .rng h => .rng (e _ _ h)
  | _, _, .dct h k n r q => .dct (e _ _ h) k n (DtA.le e r) (DtA.le e q)
theorem DtA.le (e : ∀ a o, H a = some o → H' a = some o) : ∀ {vs : List V} {ds : List D}, DtA G H vs ds → DtA G H' vs ds
  | _, _, .nil => .nil
  | _, _, .cons h r => .cons (Dt.le e h) (DtA.le e r)
end
theorem DtA.length : ∀ {vs : List V} {ds : List D}, DtA G H vs ds → vs.length = ds.length
  | _, _, .nil => rfl
  | _, _, .cons _ r => congrArg (· + 1) (DtA.length r)
theorem DtA.get : ∀ {vs : List V} {ds : List D} {i : Nat} {d : D}, DtA G H vs ds → ds[i]? = some d → ∃ v, vs[i]? = some v ∧ Dt G H v d
  | _, _, _, _, .nil, e => by simp at e
  | _, _, 0, _, .cons h _, e => by simp at e; subst e; exact ⟨_, rfl, h⟩
  | _, _, i + 1, _, .cons _ r, e => by
    obtain ⟨v, h1, h2⟩ := DtA.get (i := i) r (by simpa using e)
    exact ⟨v, by simpa using h1, h2⟩
theorem DtA.getV : ∀ {vs : List V} {ds : List D} {i : Nat} {v : V}, DtA G H vs ds → vs[i]? = some v → ∃ d, ds[i]? = some d ∧ Dt G H v d
  | _, _, _, _, .nil, e => by simp at e
  | _, _, 0, _, .cons h _, e => by simp at e; subst e; exact ⟨_, rfl, h⟩
  | _, _, i + 1, _, .cons _ r, e => by
    obtain ⟨v, h1, h2⟩ := DtA.getV (i := i) r (by simpa using e)
    exact ⟨v, by simpa using h1, h2⟩
theorem DtA.append : ∀ {vs ws : List V} {ds es : List D}, DtA G H vs ds → DtA G H ws es → DtA G H (vs ++ ws) (ds ++ es)
  | _, _, _, _, .nil, s => s
  | _, _, _, _, .cons h r, s => .cons h (DtA.append r s)
theorem DtA.set {v : V} {d : D} (h : Dt G H v d) : ∀ {vs : List V} {ds : List D} (i : Nat), DtA G H vs ds → DtA G H (vs.set i v) (ds.set i d)
  | _, _, _, .nil => .nil
  | _, _, 0, .cons _ r => .cons h r
  | _, _, i + 1, .cons q r => .cons q (DtA.set h i r)
theorem DtA.take : ∀ {vs : List V} {ds : List D} (n : Nat), DtA G H vs ds → DtA G H (vs.take n) (ds.take n)
  | _, _, 0, _ => .nil
  | _, _, _ + 1, .nil => .nil
  | _, _, n + 1, .cons h r => .cons h (DtA.take n r)
theorem DtA.drop : ∀ {vs : List V} {ds : List D} (n : Nat), DtA G H vs ds → DtA G H (vs.drop n) (ds.drop n)
  | _, _, 0, r => r
  | _, _, _ + 1, .nil => .nil
  | _, _, n + 1, .cons _ r => DtA.drop n r
theorem DtA.rep {vs : List V} {ds : List D} (h : DtA G H vs ds) : ∀ n : Nat, DtA G H (List.replicate n vs).flatten (List.replicate n ds).flatten
  | 0 => .nil
  | n + 1 => by
    rw [List.replicate_succ, List.replicate_succ, List.flatten_cons, List.flatten_cons]
    exact h.append (DtA.rep h n)
end

/-! ### hidden addresses -/
abbrev AS := Addr → Prop
noncomputable def Hr (H : Hp) (M : AS) : Hp := fun a => open Classical in if M a then none else H a
theorem hr_some {H : Hp} {M : AS} {a : Addr} {o : HO} : Hr H M a = some o ↔ ¬ M a ∧ H a = some o := by
  unfold Hr
  by_cases h : M a
  · rw [if_pos h]
    exact ⟨fun e => (nomatch e), fun e => absurd h e.1⟩
  · rw [if_neg h]
    exact ⟨fun e => ⟨h, e⟩, fun e => e.2⟩
theorem hr_sub {H : Hp} {M : AS} : ∀ a o, Hr H M a = some o → H a = some o := fun _ _ e => (hr_some.mp e).2
theorem hr_mono {H H' : Hp} {M M' : AS} (k : ∀ a o, ¬ M a → H a = some o → H' a = some o) (s : ∀ a, M' a → M a ∨ H a = none) : ∀ a o, Hr H M a = some o → Hr H' M' a = some o := fun a o e => by
  obtain ⟨n, e⟩ := hr_some.mp e
  refine hr_some.mpr ⟨fun z => ?_, k a o n e⟩
  rcases s a z with z | z
  · exact n z
  · rw [z] at e; cases e

/-- what stands at an own list's address; its items lie outside M -/
def OwnC (G : GD) (M : AS) (H : Hp) (p : Addr) : D → Prop
  | .lst ds => ∃ vs, H p = some (.lst vs) ∧ DtA G (Hr H M) vs ds
  | .ins c ns ds => ∃ dx fl, H p = some (.ins (G.ca c) dx fl) ∧ fl.map (·.1) = ns.take ds.length ∧ InsF G c ns ∧ DtA G (Hr H M) (fl.map (·.2)) ds
  | .dct kvs => ∃ xs, H p = some (ndO p xs) ∧ kvs.map kNk = xs.map xKey ∧ (xs.map (·.1)).Nodup ∧ DtA G (Hr H M) (xs.map xRef) (kvs.map (·.1)) ∧ DtA G (Hr H M) (xs.map xVal) (kvs.map (·.2))
  | _ => False
theorem OwnC.some {G : GD} {M : AS} {H : Hp} {p : Addr} {d : D} (h : OwnC G M H p d) : H p ≠ none := by
  cases d with
  | lst ds => obtain ⟨vs, e, _⟩ := h; rw [e]; simp
  | ins c ns ds => obtain ⟨dx, fl, e, _⟩ := h; rw [e]; simp
  | dct ds => obtain ⟨kvs, e, _⟩ := h; rw [e]; simp
  | _ => exact h.elim
theorem OwnC.le {G : GD} {M M' : AS} {H H' : Hp} {p : Addr} {d : D} (h : OwnC G M H p d) (e : ∀ a o, Hr H M a = .some o → Hr H' M' a = .some o) (k : H' p = H p) : OwnC G M' H' p d := by
  cases d with
  | lst ds => obtain ⟨vs, q, r⟩ := h; exact ⟨vs, k.trans q, r.le e⟩
  | ins c ns ds => obtain ⟨dx, fl, q, z, f, r⟩ := h; exact ⟨dx, fl, k.trans q, z, f, r.le e⟩
  | dct ds => obtain ⟨kvs, q, z, n, r, t⟩ := h; exact ⟨kvs, k.trans q, z, n, r.le e, t.le e⟩
  | _ => exact h.elim
/-- an own object, once it is let go -/
theorem OwnC.dt {G : GD} {M M' : AS} {H : Hp} {p : Addr} {d : D} (h : OwnC G M H p d) (s : ∀ a, M' a → M a) (n : ¬ M' p) : Dt G (Hr H M') (.ref p) d := by
  cases d with
  | lst ds =>
    obtain ⟨vs, q, r⟩ := h
    exact .lst (.inl (hr_some.mpr ⟨n, q⟩)) (r.le (hr_mono (fun _ _ _ e => e) fun a z => .inl (s a z)))
  | ins c ns ds =>
    obtain ⟨dx, fl, q, z, f, r⟩ := h
    exact .ins (hr_some.mpr ⟨n, q⟩) z f (r.le (hr_mono (fun _ _ _ e => e) fun a z => .inl (s a z)))
  | dct ds =>
    obtain ⟨kvs, q, z, d, r, t⟩ := h
    exact .dct (hr_some.mpr ⟨n, q⟩) z d (r.le (hr_mono (fun _ _ _ e => e) fun a z => .inl (s a z))) (t.le (hr_mono (fun _ _ _ e => e) fun a z => .inl (s a z)))
  | _ => exact h.elim

/-! ### the state's relation -/
def OwnAt (ρ : Env) (σ : L2.St) (i : Nat) (p : Addr) : Prop := (∃ d, ρ[i]? = some (.own d) ∨ ρ[i]? = some (.io d)) ∧ σ[i]? = some (some (.ref p))
def Mm (F : AS) (ρ : Env) (σ : L2.St) : AS := fun a => F a ∨ ∃ i, OwnAt ρ σ i a
def SlotOk (G : GD) (M : AS) (H : Hp) : Slot → Option (Option V) → Prop
  | .un, _ => True
  | .val d, x => ∃ v, x = some (some v) ∧ Dt G (Hr H M) v d
  | .own d, x => ∃ p, x = some (some (.ref p)) ∧ OwnC G M H p d
  | .io d, x => ∃ p, x = some (some (.ref p)) ∧ OwnC G M H p d

/-- the def's run: the heap at its entry, the places and addresses of the arguments that it may change -/
structure Fr where
  H0 : Hp
  ios : List (Nat × Addr)
def Fr.IO (X : Fr) (a : Addr) : Prop := ∃ i, (i, a) ∈ X.ios
structure SR (G : GD) (X : Fr) (F : AS) (ρ : Env) (σ : L2.St) (H : Hp) : Prop where
  len : ρ.length = σ.length
  inj : ∀ (i j : Nat) (p : Addr), OwnAt ρ σ i p → OwnAt ρ σ j p → i = j
  dis : ∀ (i : Nat) (p : Addr), OwnAt ρ σ i p → ¬ F p
  slot : ∀ (i : Nat) (s : Slot), ρ[i]? = some s → SlotOk G (Mm F ρ σ) H s σ[i]?
  frame : ∀ a o, ¬ X.IO a → X.H0 a = some o → H a = some o
  ownf : ∀ (i : Nat) (p : Addr), OwnAt ρ σ i p → X.IO p ∨ X.H0 p = none
  fdom : ∀ p, F p → H p ≠ none
  ios : ∀ (i : Nat) (p : Addr), (i, p) ∈ X.ios → (∃ d, ρ[i]? = some (.io d)) ∧ σ[i]? = some (some (.ref p))

section
variable {G : GD} {X : Fr} {F F' : AS} {ρ ρ' : Env} {σ : L2.St} {H H' : Hp}
theorem SR.own {i : Nat} {p : Addr} (S : SR G X F ρ σ H) (h : OwnAt ρ σ i p) : H p ≠ none := by
  obtain ⟨⟨d, h1⟩, h2⟩ := h
  rcases h1 with h1 | h1
  · obtain ⟨q, e, c⟩ := S.slot i _ h1
    rw [h2] at e; cases e
    exact c.some
  · obtain ⟨q, e, c⟩ := S.slot i _ h1
    rw [h2] at e; cases e
    exact c.some
theorem SR.mdom (S : SR G X F ρ σ H) : ∀ a, Mm F ρ σ a → H a ≠ none := fun a h => by
  rcases h with h | ⟨i, h⟩
  · exact S.fdom a h
  · exact S.own h
theorem SR.io_some (S : SR G X F ρ σ H) {p : Addr} (h : X.IO p) : H p ≠ none := by
  obtain ⟨i, h⟩ := h
  obtain ⟨⟨d, h1⟩, h2⟩ := S.ios i p h
  exact S.own ⟨⟨d, .inr h1⟩, h2⟩
theorem SR.new0 (S : SR G X F ρ σ H) {p : Addr} (h : H p = none) : X.H0 p = none ∧ ¬ X.IO p := by
  have n : ¬ X.IO p := fun z => S.io_some z h
  refine ⟨?_, n⟩
  cases e : X.H0 p with
  | none => rfl
  | some o => rw [S.frame p o n e] at h; cases h
/-- the name i holds something -/
def Liv (ρ : Env) (i : Nat) : Prop := ∃ d, ρ[i]? = some (.own d) ∨ ρ[i]? = some (.io d) ∨ ρ[i]? = some (.val d)
/-- what an evaluation leaves -/
structure Po (G : GD) (X : Fr) (σ : L2.St) (F : AS) (ρ : Env) (H : Hp) (F' : AS) (ρ' : Env) (H' : Hp) : Prop where
  sr : SR G X F' ρ' σ H'
  le : ∀ a o, Hr H (Mm F ρ σ) a = some o → Hr H' (Mm F' ρ' σ) a = some o
  keep : ∀ p, F p → F' p ∧ H' p = H p
  sub : ∀ (i : Nat) (p : Addr), OwnAt ρ' σ i p → OwnAt ρ σ i p
  liv : ∀ i : Nat, Liv ρ i → Liv ρ' i
theorem Po.refl (S : SR G X F ρ σ H) : Po G X σ F ρ H F ρ H := ⟨S, fun _ _ e => e, fun _ h => ⟨h, rfl⟩, fun _ _ h => h, fun _ h => h⟩
theorem Po.trans {F1 F2 : AS} {ρ1 ρ2 : Env} {H1 H2 : Hp} (a : Po G X σ F ρ H F1 ρ1 H1) (b : Po G X σ F1 ρ1 H1 F2 ρ2 H2) : Po G X σ F ρ H F2 ρ2 H2 :=
  ⟨b.sr, fun x o e => b.le x o (a.le x o e), fun p h => ⟨(b.keep p (a.keep p h).1).1, (b.keep p (a.keep p h).1).2.trans (a.keep p h).2⟩, fun i p h => a.sub i p (b.sub i p h), fun i h => b.liv i (a.liv i h)⟩
/-- temporaries are let go -/
theorem SR.drop (S : SR G X F' ρ σ H) (h : ∀ p, F p → F' p) : SR G X F ρ σ H := by
  have m : ∀ a, Mm F ρ σ a → Mm F' ρ σ a := fun a z => z.imp (h a) id
  have le : ∀ a o, Hr H (Mm F' ρ σ) a = some o → Hr H (Mm F ρ σ) a = some o := hr_mono (fun _ _ _ e => e) fun a z => .inl (m a z)
  refine ⟨S.len, S.inj, fun i p q z => S.dis i p q (h p z), fun i s e => ?_, S.frame, S.ownf, fun p z => S.fdom p (h p z), S.ios⟩
  have q := S.slot i s e
  cases s with
  | un => trivial
  | val d => obtain ⟨v, e, q⟩ := q; exact ⟨v, e, q.le le⟩
  | own d => obtain ⟨v, e, q⟩ := q; exact ⟨v, e, q.le le rfl⟩
  | io d => obtain ⟨v, e, q⟩ := q; exact ⟨v, e, q.le le rfl⟩
theorem Po.drop (a : Po G X σ F ρ H F' ρ' H') {F2 : AS} (h : ∀ p, F p → F2 p) (h2 : ∀ p, F2 p → F' p) : Po G X σ F ρ H F2 ρ' H' :=
  ⟨a.sr.drop h2, fun x o e => hr_mono (fun _ _ _ e => e) (fun c z => .inl (z.imp (h2 c) id)) x o (a.le x o e), fun p z => ⟨h p z, (a.keep p z).2⟩, a.sub, a.liv⟩
/-- a new object -/
theorem SR.laid {p : Addr} {o : HO} (S : SR G X F ρ σ H) (n : H p = none) : SR G X F ρ σ (upd H p o) := by
  have k : ∀ a u, H a = some u → upd H p o a = some u := fun a u e => by rw [upd_ne (ne_of_none e n)]; exact e
  have le : ∀ a u, Hr H (Mm F ρ σ) a = some u → Hr (upd H p o) (Mm F ρ σ) a = some u := hr_mono (fun a u _ e => k a u e) fun a z => .inl z
  have kp : ∀ a, H a ≠ none → upd H p o a = H a := fun a e => upd_ne fun z => e (z ▸ n)
  refine ⟨S.len, S.inj, S.dis, fun i s e => ?_, fun a u h e => k a u (S.frame a u h e), S.ownf, fun q z => by rw [kp q (S.fdom q z)]; exact S.fdom q z, S.ios⟩
  have q := S.slot i s e
  cases s with
  | un => trivial
  | val d => obtain ⟨v, e, q⟩ := q; exact ⟨v, e, q.le le⟩
  | own d => obtain ⟨v, e, q⟩ := q; exact ⟨v, e, q.le le (kp _ q.some)⟩
  | io d => obtain ⟨v, e, q⟩ := q; exact ⟨v, e, q.le le (kp _ q.some)⟩
theorem Po.laid {p : Addr} {o : HO} (S : SR G X F ρ σ H) (n : H p = none) : Po G X σ F ρ H F ρ (upd H p o) :=
  ⟨S.laid n, hr_mono (fun a u _ e => by rw [upd_ne (ne_of_none e n)]; exact e) fun a z => .inl z, fun q z => ⟨z, upd_ne fun e => S.fdom q z (e ▸ n)⟩, fun _ _ h => h, fun _ h => h⟩
/-- a new temporary -/
def addF (F : AS) (p : Addr) : AS := fun a => a = p ∨ F a
theorem SR.add {p : Addr} (S : SR G X F ρ σ H) (nm : ¬ Mm F ρ σ p) (le : ∀ a o, Hr H (Mm F ρ σ) a = some o → a ≠ p) (n : H p ≠ none) : SR G X (addF F p) ρ σ H := by
  have le2 : ∀ a o, Hr H (Mm F ρ σ) a = some o → Hr H (Mm (addF F p) ρ σ) a = some o := fun a o e => by
    obtain ⟨n1, e1⟩ := hr_some.mp e
    refine hr_some.mpr ⟨fun z => ?_, e1⟩
    rcases z with (z | z) | z
    · exact le a o e z
    · exact n1 (.inl z)
    · exact n1 (.inr z)
  refine ⟨S.len, S.inj, fun i q h z => ?_, fun i s e => ?_, S.frame, S.ownf, fun q z => ?_, S.ios⟩
  · rcases z with z | z
    · exact nm (.inr ⟨i, z ▸ h⟩)
    · exact S.dis i q h z
  · have q := S.slot i s e
    cases s with
    | un => trivial
    | val d => obtain ⟨v, e, q⟩ := q; exact ⟨v, e, q.le le2⟩
    | own d => obtain ⟨v, e, q⟩ := q; exact ⟨v, e, q.le le2 rfl⟩
    | io d => obtain ⟨v, e, q⟩ := q; exact ⟨v, e, q.le le2 rfl⟩
  · rcases z with z | z
    · rw [z]; exact n
    · exact S.fdom q z
/-- a new object that is a temporary -/
theorem Po.laidF {p : Addr} {o : HO} (S : SR G X F ρ σ H) (n : H p = none) : Po G X σ F ρ H (addF F p) ρ (upd H p o) := by
  have nm : ¬ Mm F ρ σ p := fun z => S.mdom p z n
  have S1 := S.laid (o := o) n
  have le : ∀ a u, Hr H (Mm F ρ σ) a = some u → Hr (upd H p o) (Mm (addF F p) ρ σ) a = some u := hr_mono (fun a u _ e => by rw [upd_ne (ne_of_none e n)]; exact e) fun a z => by
    rcases z with (z | z) | z
    · exact .inr (z ▸ n)
    · exact .inl (.inl z)
    · exact .inl (.inr z)
  have kp : ∀ a, H a ≠ none → upd H p o a = H a := fun a e => upd_ne fun z => e (z ▸ n)
  refine ⟨⟨S.len, S.inj, fun i q h z => ?_, fun i s e => ?_, S1.frame, S.ownf, fun q z => ?_, S.ios⟩, le, fun q z => ⟨.inr z, kp q (S.fdom q z)⟩, fun _ _ h => h, fun _ h => h⟩
  · rcases z with z | z
    · exact nm (.inr ⟨i, z ▸ h⟩)
    · exact S.dis i q h z
  · have q := S.slot i s e
    cases s with
    | un => trivial
    | val d => obtain ⟨v, e, q⟩ := q; exact ⟨v, e, q.le le⟩
    | own d => obtain ⟨v, e, q⟩ := q; exact ⟨v, e, q.le le (kp _ q.some)⟩
    | io d => obtain ⟨v, e, q⟩ := q; exact ⟨v, e, q.le le (kp _ q.some)⟩
  · rcases z with z | z
    · rw [z, upd_same]; simp
    · rw [kp q (S.fdom q z)]; exact S.fdom q z
/-- an own name's list is let go: the name keeps it as a value -/
theorem Po.settle {i : Nat} {d : D} (S : SR G X F ρ σ H) (h : ρ[i]? = some (.own d)) : ∃ p, σ[i]? = some (some (.ref p)) ∧ Po G X σ F ρ H F (ρ.set i (.val d)) H ∧ Dt G (Hr H (Mm F (ρ.set i (.val d)) σ)) (.ref p) d := by
  obtain ⟨p, e, c⟩ := S.slot i _ h
  have hi : i < ρ.length := (List.getElem?_eq_some_iff.mp h).1
  have own : ∀ j q, OwnAt (ρ.set i (.val d)) σ j q → OwnAt ρ σ j q ∧ j ≠ i := fun j q ⟨⟨x, z⟩, w⟩ => by
    by_cases hj : j = i
    · subst hj
      rw [List.getElem?_set_self hi] at z
      rcases z with z | z <;> cases z
    · rw [List.getElem?_set_ne (Ne.symm hj)] at z
      exact ⟨⟨⟨x, z⟩, w⟩, hj⟩
  have m : ∀ a, Mm F (ρ.set i (.val d)) σ a → Mm F ρ σ a := fun a z => z.imp id fun ⟨j, z⟩ => ⟨j, (own j a z).1⟩
  have np : ¬ Mm F (ρ.set i (.val d)) σ p := fun z => by
    rcases z with z | ⟨j, z⟩
    · exact S.dis i p ⟨⟨d, .inl h⟩, e⟩ z
    · exact (own j p z).2 (S.inj j i p (own j p z).1 ⟨⟨d, .inl h⟩, e⟩)
  have le : ∀ a o, Hr H (Mm F ρ σ) a = some o → Hr H (Mm F (ρ.set i (.val d)) σ) a = some o := hr_mono (fun _ _ _ e => e) fun a z => .inl (m a z)
  have dt := c.dt m np
  refine ⟨p, e, ⟨⟨by rw [List.length_set]; exact S.len, fun j k q a b => S.inj j k q (own j q a).1 (own k q b).1, fun j q a => S.dis j q (own j q a).1, fun j s z => ?_, S.frame, fun j q a => S.ownf j q (own j q a).1, S.fdom, fun j q z => ?_⟩, le, fun q z => ⟨z, rfl⟩, fun j q a => (own j q a).1, fun j ⟨x, z⟩ => ?_⟩, dt⟩
  · by_cases hj : j = i
    · subst hj
      rw [List.getElem?_set_self hi] at z
      cases z
      exact ⟨_, e, dt⟩
    · rw [List.getElem?_set_ne (Ne.symm hj)] at z
      have q := S.slot j s z
      cases s with
      | un => trivial
      | val d => obtain ⟨v, e, q⟩ := q; exact ⟨v, e, q.le le⟩
      | own d => obtain ⟨v, e, q⟩ := q; exact ⟨v, e, q.le le rfl⟩
      | io d => obtain ⟨v, e, q⟩ := q; exact ⟨v, e, q.le le rfl⟩
  · obtain ⟨⟨x, h1⟩, h2⟩ := S.ios j q z
    have hj : j ≠ i := fun e => by rw [e, h] at h1; cases h1
    exact ⟨⟨x, by rw [List.getElem?_set_ne (Ne.symm hj)]; exact h1⟩, h2⟩
  · by_cases hj : j = i
    · exact ⟨d, .inr (.inr (by rw [hj, List.getElem?_set_self hi]))⟩
    · exact ⟨x, by rw [List.getElem?_set_ne (Ne.symm hj)]; exact z⟩
end
end Mp

set_option maxRecDepth 100000
set_option maxHeartbeats 4000000
/-! Mn: dicts whose keys are nested tuples. -/
namespace Mp
open PySem PySem.Spec PyProof.Rows L2

/-! ### keys -/
mutual
theorem nkey_hash : ∀ {d : D} {k : NestedKey} (w w' : World), nkey d = some k → k.hash w = k.hash w'
  | .non, k, w, w', h => by cases h; rfl
  | .bl b, k, w, w', h => by cases h; rfl
  | .int i, k, w, w', h => by cases h; rfl
  | .tup xs, k, w, w', h => by
    obtain ⟨ks, e, rfl⟩ := Option.map_eq_some_iff.mp (show (nkeys xs).map NestedKey.tup = some k from h)
    show reduceHash (Builtin.Tuple.tupleHashOf (NestedKey.hashes w ks)) = reduceHash (Builtin.Tuple.tupleHashOf (NestedKey.hashes w' ks))
    rw [nkeys_hash w w' e]
  | .str _, k, w, w', h => by cases h
  | .lst _, k, w, w', h => by cases h
  | .dct _, k, w, w', h => by cases h
  | .set _, k, w, w', h => by cases h
  | .rng _ _, k, w, w', h => by cases h
  | .ins _ _ _, k, w, w', h => by cases h
  | .fn _, k, w, w', h => by cases h
  | .cls _, k, w, w', h => by cases h
  | .scr _, k, w, w', h => by cases h
theorem nkeys_hash : ∀ {xs : List D} {ks : List NestedKey} (w w' : World), nkeys xs = some ks → NestedKey.hashes w ks = NestedKey.hashes w' ks
  | [], ks, w, w', h => by cases h; rfl
  | x :: r, ks, w, w', h => by
    obtain ⟨k, e1, h⟩ := Option.bind_eq_some_iff.mp (show ((nkey x).bind fun k => (nkeys r).map (k :: ·)) = some ks from h)
    obtain ⟨ks', e2, rfl⟩ := Option.map_eq_some_iff.mp h
    show k.hash w :: NestedKey.hashes w ks' = k.hash w' :: NestedKey.hashes w' ks'
    rw [nkey_hash w w' e1, nkeys_hash w w' e2]
end
theorem nk_some {d : D} {k : NestedKey} (h : nk d = some k) : isTupD d = true ∧ nkey d = some k ∧ k.depth ≤ 8 := by
  unfold nk at h
  split at h
  · rename_i c
    obtain ⟨k', e, h⟩ := Option.bind_eq_some_iff.mp h
    split at h
    · rename_i c2
      cases h
      exact ⟨c, e, c2⟩
    · cases h
  · cases h
section
variable {X : Cx} {G : GD} {pins : List (Addr × Obj)} {σ : L2.St} {H : Hp} {s : Shared}
mutual
theorem nis_of (hK : X.K = G.K) (I : Inv X pins σ H s) : ∀ {v : V} {d : D} {u : Value} {k : NestedKey}, Dt G H v d → RelV v u → nkey d = some k → NestedIs s.heap k u
  | _, _, _, _, .non, r, h => by
    cases h
    cases (show _ = Value.none from r)
    exact .none
  | _, _, _, _, .bl b, r, h => by
    cases h
    cases (show _ = Value.bool b from r)
    exact .bool rfl
  | _, _, _, _, .int i, r, h => by
    cases h
    obtain ⟨t, rfl⟩ := r
    exact .int _ _
  | _, .tup ds, u, k, .tup (a := a) (xs := xs) q rr, r, h => by
    obtain ⟨ks, e, rfl⟩ := Option.map_eq_some_iff.mp (show (nkeys ds).map NestedKey.tup = some k from h)
    cases (show u = Value.ref a from r)
    have q' : SqT X.K H a xs := by rw [hK]; exact q
    obtain ⟨its, rv, p, hz⟩ := I.tuple q'
    obtain ⟨o, ho, hc, n, hd⟩ := (show s.heap.IsTuple a its.toArray from p)
    exact .tup ho hc hd (by simpa using nis_all hK I rr rv e)
  | _, _, _, _, .str x, r, h => by cases h
  | _, _, _, _, .lst _ _, r, h => by cases h
  | _, _, _, _, .fn _, r, h => by cases h
  | _, _, _, _, .scr _ _, r, h => by cases h
  | _, _, _, _, .ins _ _ _ _, r, h => by cases h
  | _, _, _, _, .cls _, r, h => by cases h
  | _, _, _, _, .rng _, r, h => by cases h
  | _, _, _, _, .dct _ _ _ _ _, r, h => by cases h
theorem nis_all (hK : X.K = G.K) (I : Inv X pins σ H s) : ∀ {vs : List V} {ds : List D} {us : List Value} {ks : List NestedKey}, DtA G H vs ds → Vals vs us → nkeys ds = some ks → NestedAll s.heap ks us
  | _, _, _, _, .nil, r, h => by
    cases h
    cases r
    exact .nil
  | _, _, _, ks, .cons (d := d) (ds := ds) a rr, r, h => by
    cases r with
    | cons r1 r2 =>
      obtain ⟨k, e1, h⟩ := Option.bind_eq_some_iff.mp (show ((nkey d).bind fun k => (nkeys ds).map (k :: ·)) = some ks from h)
      obtain ⟨ks', e2, rfl⟩ := Option.map_eq_some_iff.mp h
      exact .cons (nis_of hK I a r1 e1) (nis_all hK I rr r2 e2)
end
theorem nk_is (hK : X.K = G.K) (I : Inv X pins σ H s) {b : Addr} {d : D} {k : NestedKey} (r : Dt G H (.ref b) d) (h : nk d = some k) : (nestedKind X.prog X.w).is s.heap k b := by
  obtain ⟨_, h1, h2⟩ := nk_some h
  exact ⟨nis_of hK I r (show RelV (.ref b) (.ref b) from rfl) h1, h2⟩
theorem nk_ref {v : V} {d : D} {k : NestedKey} (r : Dt G H v d) (h : nk d = some k) : ∃ b, v = .ref b := by
  obtain ⟨h0, _, _⟩ := nk_some h
  cases r with
  | tup q rr => exact ⟨_, rfl⟩
  | _ => cases h0
end

/-! ### what stands at a dict -/
abbrev PR : NestedKey × Addr × V → NestedKey × Addr × Value → Prop := fun x y => x.1 = y.1 ∧ x.2.1 = y.2.1 ∧ RelV x.2.2 y.2.2
theorem ndO_ok {P : Program} {w : World} {H : Hp} {h : Heap} {a : Addr} {xs : List (NestedKey × Addr × V)} (r : NdR a xs h) : ObjOk P w H h a (ndO a xs) := by
  obtain ⟨h1, h2, w', ys, h3, o, es, ep, e, h4⟩ := id r
  exact ⟨r, ⟨o, e⟩, fun ha hb ⟨g1, g2, w'', ys', g3, o', es', ep', e', g4⟩ k => ⟨g1, g2, w'', ys', g3, o', es', ep', k _ e', g4⟩⟩
/-- the keys' part of a dict's content -/
structure NdK (G : GD) (H : Hp) (xs : List (NestedKey × Addr × V)) (kvs : List (D × D)) : Prop where
  ks : kvs.map kNk = xs.map xKey
  nd : (xs.map (·.1)).Nodup
  rk : DtA G H (xs.map xRef) (kvs.map (·.1))
theorem NdK.le {G : GD} {H H' : Hp} {xs : List (NestedKey × Addr × V)} {kvs : List (D × D)} (h : NdK G H xs kvs) (e : ∀ a o, H a = some o → H' a = some o) : NdK G H' xs kvs := ⟨h.ks, h.nd, h.rk.le e⟩
theorem PR.keys : ∀ {xs : List (NestedKey × Addr × V)} {ys : List (NestedKey × Addr × Value)}, Paired PR xs ys → ys.map (·.1) = xs.map (·.1)
  | _, _, .nil => rfl
  | _, _, .cons h t => by rw [List.map_cons, List.map_cons, h.1, PR.keys t]
theorem PR.len : ∀ {xs : List (NestedKey × Addr × V)} {ys : List (NestedKey × Addr × Value)}, Paired PR xs ys → xs.length = ys.length
  | _, _, .nil => rfl
  | _, _, .cons h t => congrArg (· + 1) (PR.len t)
section
variable {X : Cx} {G : GD} {pins : List (Addr × Obj)} {σ : L2.St} {H : Hp} {s : Shared}
theorem nd_mem (hK : X.K = G.K) (I : Inv X pins σ H s) : ∀ {xs : List (NestedKey × Addr × V)} {kvs : List (D × D)} {ys : List (NestedKey × Addr × Value)}, kvs.map kNk = xs.map xKey → DtA G H (xs.map xRef) (kvs.map (·.1)) → Paired PR xs ys →
    (∀ y ∈ ys, (nestedKind X.prog X.w).is s.heap y.1 y.2.1) ∧ ∀ w : World, (ys.map fun y => (⟨y.1.hash w, .ref y.2.1, y.2.2⟩ : DictEntry)) = ys.map (entryOfKey (nestedKind X.prog X.w))
  | [], kvs, _, _, _, .nil => ⟨fun y h => (nomatch h), fun w => rfl⟩
  | x :: xs, [], _, e, _, _ => by cases e
  | x :: xs, (kd, vd) :: kvs, y :: ys, e, r, .cons p t => by
    have e' : nk kd = some x.1 ∧ kvs.map kNk = xs.map xKey := by
      have := List.cons.inj (show nk kd :: kvs.map kNk = some x.1 :: xs.map xKey from e)
      exact this
    obtain ⟨e1, e2⟩ := e'
    have r' : Dt G H (.ref x.2.1) kd ∧ DtA G H (xs.map xRef) (kvs.map (·.1)) := by
      have r0 : DtA G H (.ref x.2.1 :: xs.map xRef) (kd :: kvs.map (·.1)) := r
      cases r0 with
      | cons a b => exact ⟨a, b⟩
    obtain ⟨i1, i2⟩ := nd_mem hK I e2 r'.2 t
    obtain ⟨p1, p2, p3⟩ := p
    refine ⟨fun z hz => ?_, fun w => ?_⟩
    · rcases List.mem_cons.mp hz with rfl | hz
      · rw [← p1, ← p2]
        exact nk_is hK I r'.1 e1
      · exact i1 z hz
    · rw [List.map_cons, List.map_cons, i2 w]
      have : y.1.hash w = y.1.hash X.w := by
        rw [← p1]
        exact nkey_hash w X.w (nk_some e1).2.1
      rw [this]
      rfl
theorem nd_at (hK : X.K = G.K) (I : Inv X pins σ H s) {a : Addr} {xs : List (NestedKey × Addr × V)} {kvs : List (D × D)} (e : H a = some (ndO a xs)) (k : NdK G H xs kvs) :
    ∃ ys, Paired PR xs ys ∧ s.heap.DictOfH (nestedKind X.prog X.w) a ys ∧ (a == sysModules) = false ∧ xs.length ≤ sizeLine := by
  obtain ⟨⟨h1, h2, w, ys, h3, o, es, ep, ho, hx, hd, he⟩, _⟩ := (show ObjOk X.prog X.w H s.heap a (ndO a xs) from I.hok a _ e)
  obtain ⟨i1, i2⟩ := nd_mem hK I k.ks k.rk h3
  refine ⟨ys, h3, ⟨o, es, ep, ho, hx, hd, he.trans (i2 w), i1, ?_⟩, h1, h2⟩
  rw [PR.keys h3]
  exact k.nd
theorem ndr_of {P : Program} {w : World} {h : Heap} {a : Addr} {xs : List (NestedKey × Addr × V)} {ys : List (NestedKey × Addr × Value)} (h1 : (a == sysModules) = false) (h2 : xs.length ≤ sizeLine) (h3 : Paired PR xs ys) (d : h.DictOfH (nestedKind P w) a ys) : NdR a xs h := by
  obtain ⟨o, es, ep, ho, hx, hd, he, _, _⟩ := d
  exact ⟨h1, h2, w, ys, h3, o, es, ep, ho, hx, hd, he⟩
end
/-- what a dict holds at a key -/
def atV (xs : List (NestedKey × Addr × V)) (k : NestedKey) : Option V := (xs.find? fun x => decide (x.1 = k)).map (·.2.2)
theorem atV_rel : ∀ {xs : List (NestedKey × Addr × V)} {ys : List (NestedKey × Addr × Value)} {k : NestedKey}, Paired PR xs ys →
    (∀ v, atV xs k = some v → ∃ p, atKey ys k = some p ∧ RelV v p.2) ∧ (atKey ys k).isSome = (xs.any fun x => decide (x.1 = k))
  | _, _, k, .nil => ⟨fun v h => (nomatch h), rfl⟩
  | x :: xs, y :: ys, k, .cons ⟨p1, p2, p3⟩ t => by
    obtain ⟨i1, i2⟩ := atV_rel (k := k) t
    unfold atV atKey at *
    by_cases c : x.1 = k
    · have c' : y.1 = k := p1 ▸ c
      refine ⟨fun v h => ?_, ?_⟩
      · rw [List.find?_cons, decide_eq_true c] at h
        cases h
        exact ⟨y.2, by rw [List.find?_cons, decide_eq_true c'] <;> rfl, p3⟩
      · rw [List.find?_cons, decide_eq_true c', List.any_cons, decide_eq_true c] <;> rfl
    · have c' : ¬ y.1 = k := p1 ▸ c
      refine ⟨fun v h => ?_, ?_⟩
      · rw [List.find?_cons, decide_eq_false c] at h
        obtain ⟨p, e, r⟩ := i1 v h
        exact ⟨p, by rw [List.find?_cons, decide_eq_false c']; exact e, r⟩
      · rw [List.find?_cons, decide_eq_false c', List.any_cons, decide_eq_false c, Bool.false_or]
        exact i2
section
variable {G : GD} {H : Hp}
theorem dget_at : ∀ {xs : List (NestedKey × Addr × V)} {kvs : List (D × D)} {k : NestedKey} {d : D}, kvs.map kNk = xs.map xKey → DtA G H (xs.map xVal) (kvs.map (·.2)) → dGet kvs k = some d → ∃ v, atV xs k = some v ∧ Dt G H v d
  | [], [], k, d, _, _, h => by cases h
  | [], _ :: _, _, _, e, _, _ => by cases e
  | _ :: _, [], _, _, e, _, _ => by cases e
  | x :: xs, (kd, vd) :: kvs, k, d, e, r, h => by
    obtain ⟨e1, e2⟩ := List.cons.inj (show nk kd :: kvs.map kNk = some x.1 :: xs.map xKey from e)
    have r0 : DtA G H (x.2.2 :: xs.map xVal) (vd :: kvs.map (·.2)) := r
    cases r0 with
    | cons a b =>
      have ke : keyIs k (kd, vd) = decide (x.1 = k) := by
        show decide (nk kd = some k) = _
        rw [e1]
        by_cases c : x.1 = k
        · rw [decide_eq_true c, decide_eq_true (by rw [c])]
        · rw [decide_eq_false c, decide_eq_false fun z => c (Option.some.inj z)]
      unfold dGet at h
      rw [List.find?_cons, ke] at h
      by_cases c : x.1 = k
      · rw [decide_eq_true c] at h
        cases h
        exact ⟨x.2.2, by unfold atV; rw [List.find?_cons, decide_eq_true c] <;> rfl, a⟩
      · rw [decide_eq_false c] at h
        obtain ⟨v, h1, h2⟩ := dget_at e2 b (show dGet kvs k = some d from h)
        exact ⟨v, by unfold atV; rw [List.find?_cons, decide_eq_false c]; exact h1, h2⟩
theorem any_at : ∀ {xs : List (NestedKey × Addr × V)} {kvs : List (D × D)} {k : NestedKey}, kvs.map kNk = xs.map xKey → (kvs.any (keyIs k)) = (xs.any fun x => decide (x.1 = k))
  | [], [], k, _ => rfl
  | [], _ :: _, _, e => by cases e
  | _ :: _, [], _, e => by cases e
  | x :: xs, (kd, vd) :: kvs, k, e => by
    obtain ⟨e1, e2⟩ := List.cons.inj (show nk kd :: kvs.map kNk = some x.1 :: xs.map xKey from e)
    have ke : keyIs k (kd, vd) = decide (x.1 = k) := by
      show decide (nk kd = some k) = _
      rw [e1]
      by_cases c : x.1 = k
      · rw [decide_eq_true c, decide_eq_true (by rw [c])]
      · rw [decide_eq_false c, decide_eq_false fun z => c (Option.some.inj z)]
    rw [List.any_cons, List.any_cons, ke, any_at e2]
end
/-! ### a value is stored -/
def putN (xs : List (NestedKey × Addr × V)) (k : NestedKey) (b : Addr) (v : V) : List (NestedKey × Addr × V) :=
  if (xs.any fun x => decide (x.1 = k)) = true then xs.map (fun x => if x.1 = k then (x.1, x.2.1, v) else x) else xs ++ [(k, b, v)]
theorem putN_len (xs : List (NestedKey × Addr × V)) (k : NestedKey) (b : Addr) (v : V) : (putN xs k b v).length ≤ xs.length + 1 := by
  unfold putN
  split
  · rw [List.length_map]; omega
  · rw [List.length_append]; exact Nat.le_refl _
theorem putN_rel {xs : List (NestedKey × Addr × V)} {ys : List (NestedKey × Addr × Value)} {k : NestedKey} {b : Addr} {v : V} {u : Value} (h : Paired PR xs ys) (r : RelV v u) : Paired PR (putN xs k b v) (storedH ys k b u) := by
  have rep : ∀ {xs : List (NestedKey × Addr × V)} {ys : List (NestedKey × Addr × Value)}, Paired PR xs ys → Paired PR (xs.map fun x => if x.1 = k then (x.1, x.2.1, v) else x) (ys.map (putAt k u)) := by
    intro xs ys h
    induction h with
    | nil => exact .nil
    | @cons x y l1 l2 p t ih =>
      refine .cons ?_ ih
      obtain ⟨p1, p2, p3⟩ := p
      unfold putAt
      dsimp only
      by_cases c : x.1 = k
      · rw [if_pos c, if_pos (p1 ▸ c)]
        exact ⟨p1, p2, r⟩
      · rw [if_neg c, if_neg (p1 ▸ c)]
        exact ⟨p1, p2, p3⟩
  unfold putN storedH
  rw [(atV_rel (k := k) h).2]
  split
  · exact rep h
  · exact Paired.snoc h ⟨rfl, rfl, r⟩
section
variable {G : GD} {H : Hp}
theorem dput_at {xs : List (NestedKey × Addr × V)} {kvs : List (D × D)} {k : NestedKey} {b : Addr} {v : V} {kd d : D} (K : NdK G H xs kvs) (rv : DtA G H (xs.map xVal) (kvs.map (·.2))) (hb : Dt G H (.ref b) kd) (hk : nk kd = some k) (hv : Dt G H v d) :
    NdK G H (putN xs k b v) (dPut kvs kd k d) ∧ DtA G H ((putN xs k b v).map xVal) ((dPut kvs kd k d).map (·.2)) := by
  have rep : ∀ {xs : List (NestedKey × Addr × V)} {kvs : List (D × D)}, kvs.map kNk = xs.map xKey → DtA G H (xs.map xRef) (kvs.map (·.1)) → DtA G H (xs.map xVal) (kvs.map (·.2)) →
      (kvs.map fun p => if keyIs k p = true then (p.1, d) else p).map kNk = (xs.map fun x => if x.1 = k then (x.1, x.2.1, v) else x).map xKey ∧
      (xs.map fun x => if x.1 = k then (x.1, x.2.1, v) else x).map (·.1) = xs.map (·.1) ∧
      DtA G H ((xs.map fun x => if x.1 = k then (x.1, x.2.1, v) else x).map xRef) ((kvs.map fun p => if keyIs k p = true then (p.1, d) else p).map (·.1)) ∧
      DtA G H ((xs.map fun x => if x.1 = k then (x.1, x.2.1, v) else x).map xVal) ((kvs.map fun p => if keyIs k p = true then (p.1, d) else p).map (·.2)) := by
    intro xs
    induction xs with
    | nil =>
      intro kvs e r1 r2
      cases kvs with
      | nil => exact ⟨rfl, rfl, .nil, .nil⟩
      | cons => cases e
    | cons x xs ih =>
      intro kvs e r1 r2
      cases kvs with
      | nil => cases e
      | cons p kvs =>
        obtain ⟨kd', vd⟩ := p
        obtain ⟨e1, e2⟩ := List.cons.inj (show nk kd' :: kvs.map kNk = some x.1 :: xs.map xKey from e)
        have r1' : DtA G H (.ref x.2.1 :: xs.map xRef) (kd' :: kvs.map (·.1)) := r1
        have r2' : DtA G H (x.2.2 :: xs.map xVal) (vd :: kvs.map (·.2)) := r2
        cases r1' with
        | cons a1 b1 =>
          cases r2' with
          | cons a2 b2 =>
            obtain ⟨i1, i2, i3, i4⟩ := ih e2 b1 b2
            have ke : keyIs k (kd', vd) = decide (x.1 = k) := by
              show decide (nk kd' = some k) = _
              rw [e1]
              by_cases c : x.1 = k
              · rw [decide_eq_true c, decide_eq_true (by rw [c])]
              · rw [decide_eq_false c, decide_eq_false fun z => c (Option.some.inj z)]
            simp only [List.map_cons, ke, decide_eq_true_eq]
            by_cases c : x.1 = k
            · simp only [if_pos c]
              refine ⟨?_, ?_, .cons a1 i3, .cons hv i4⟩
              · rw [i1]
                show nk kd' :: _ = some x.1 :: _
                rw [e1]
              · rw [i2]
            · simp only [if_neg c]
              refine ⟨?_, ?_, .cons a1 i3, .cons a2 i4⟩
              · rw [i1]
                show nk kd' :: _ = some x.1 :: _
                rw [e1]
              · rw [i2]
  unfold putN dPut
  rw [any_at K.ks]
  by_cases c : (xs.any fun x => decide (x.1 = k)) = true
  · rw [if_pos c, if_pos c]
    obtain ⟨i1, i2, i3, i4⟩ := rep K.ks K.rk rv
    exact ⟨⟨i1, by rw [i2]; exact K.nd, i3⟩, i4⟩
  · rw [if_neg c, if_neg c]
    simp only [List.map_append, List.map_cons, List.map_nil]
    refine ⟨⟨?_, ?_, ?_⟩, rv.append (.cons hv .nil)⟩
    · rw [List.map_append, List.map_append, K.ks]
      show _ ++ [nk kd] = _ ++ [some k]
      rw [hk]
    · rw [List.map_append, List.nodup_append]
      refine ⟨K.nd, by simp, ?_⟩
      intro z hz z' hz'
      obtain ⟨x, hx, rfl⟩ := List.mem_map.mp hz
      have : z' = k := by simpa using hz'
      subst this
      intro e
      exact c (List.any_eq_true.mpr ⟨x, hx, decide_eq_true e⟩)
    · rw [List.map_append, List.map_append]
      exact K.rk.append (.cons hb .nil)
end
end Mp

set_option maxRecDepth 100000
set_option maxHeartbeats 4000000
/-! Mn2: rules for dicts whose keys are nested tuples; min, max of a list. -/
namespace Mp
open PySem PySem.Spec PyProof.Rows L2
section
variable {X : Cx} {G : GD}
def rIxN (G : GD) : R2 := fun x y H Q => ∃ (a : Addr) (xs : List (NestedKey × Addr × V)) (kvs : List (D × D)) (kd : D) (k : NestedKey) (v : V), x = .ref a ∧ H a = some (ndO a xs) ∧ NdK G H xs kvs ∧ Dt G H y kd ∧ nk kd = some k ∧ atV xs k = some v ∧ Q v H
theorem ix_dct (hK : X.K = G.K) (hu : X.A.units + 65 < cLine) : IxR X (rIxN G) := by
  intro value slice pins s σ H x y v u Q I rx ry h hs
  obtain ⟨a, xs, kvs, kd, k, w, rfl, ha, hk, hy, hn, hv, q⟩ := h
  cases (show v = Value.ref a from rx)
  obtain ⟨b, rfl⟩ := nk_ref hy hn
  cases (show u = Value.ref b from ry)
  obtain ⟨ys, hp, dd, hd, hz⟩ := nd_at hK I ha hk
  obtain ⟨p, e, r⟩ := (atV_rel (k := k) hp).1 w hv
  refine tail_any (ops := [.ref a, .ref b]) dd.typeIs PySem.F.slot_dict_getitem.lookup ?_ hs
  refine wpAny_getItem_heap (knd := nestedKind X.prog X.w) (by show X.A.units + 1 + 8 < cLine; omega) (nk_is hK I hy hn) dd e ?_
  exact ⟨w, H, I.tok _, r, q⟩
def rInN (G : GD) (ng : Bool) : R2 := fun x y H Q => ∃ (a : Addr) (xs : List (NestedKey × Addr × V)) (kvs : List (D × D)) (kd : D) (k : NestedKey), y = .ref a ∧ H a = some (ndO a xs) ∧ NdK G H xs kvs ∧ Dt G H x kd ∧ nk kd = some k ∧ Q (.bl (ng ^^ (xs.any fun x => decide (x.1 = k)))) H
theorem op_inN (hK : X.K = G.K) (hu : X.A.units + 65 < cLine) : OpR X (compareOp .In) (rInN G false) := by
  intro pins s σ H x y v u Q I rx ry h
  obtain ⟨a, xs, kvs, kd, k, rfl, ha, hk, hy, hn, q⟩ := h
  cases (show u = Value.ref a from ry)
  obtain ⟨b, rfl⟩ := nk_ref hy hn
  cases (show v = Value.ref b from rx)
  obtain ⟨ys, hp, dd, hd, hz⟩ := nd_at hK I ha hk
  refine wpAny_in_heap (knd := nestedKind X.prog X.w) (by show X.A.units + 1 + 8 < cLine; omega) (nk_is hK I hy hn) hd dd ?_
  rw [(atV_rel (k := k) hp).2]
  exact ⟨.bl _, H, I.tok _, rfl, by rw [Bool.false_xor] at q; exact q⟩
theorem op_ninN (hK : X.K = G.K) (hu : X.A.units + 65 < cLine) : OpR X (compareOp .NotIn) (rInN G true) := by
  intro pins s σ H x y v u Q I rx ry h
  obtain ⟨a, xs, kvs, kd, k, rfl, ha, hk, hy, hn, q⟩ := h
  cases (show u = Value.ref a from ry)
  obtain ⟨b, rfl⟩ := nk_ref hy hn
  cases (show v = Value.ref b from rx)
  obtain ⟨ys, hp, dd, hd, hz⟩ := nd_at hK I ha hk
  refine notIn_keyed (knd := nestedKind X.prog X.w) (by show X.A.units + 1 + 8 < cLine; omega) (nk_is hK I hy hn) hd ⟨ys, dd, rfl⟩ ?_
  rw [valueAt_pairsH, Option.isSome_map, (atV_rel (k := k) hp).2]
  exact ⟨.bl _, H, I.tok _, rfl, by rw [Bool.true_xor] at q; exact q⟩
def rLenN (G : GD) : List V → Hp → VK → Prop := fun vs H Q => ∃ (a : Addr) (xs : List (NestedKey × Addr × V)) (kvs : List (D × D)), vs = [.ref a] ∧ H a = some (ndO a xs) ∧ NdK G H xs kvs ∧ Q (.int (xs.length : Nat)) H
theorem cr_lenN (hK : X.K = G.K) : CallR X (.builtin "len") (rLenN G) := by
  intro pins s σ H vs us Q I r h
  obtain ⟨a, xs, kvs, rfl, ha, hk, q⟩ := h
  obtain ⟨u, rfl, rx⟩ := vals1 r
  cases (show u = Value.ref a from rx)
  obtain ⟨ys, hp, dd, hd, hz⟩ := nd_at hK I ha hk
  have hl := PR.len hp
  have hn := line63
  refine call_len_dictH hd dd (by omega) ?_
  rw [← hl]
  exact ⟨.int (xs.length : Nat), H, I.tok _, ⟨_, rfl⟩, q⟩
def rListN (G : GD) : List V → Hp → VK → Prop := fun vs H Q => ∃ (a : Addr) (xs : List (NestedKey × Addr × V)) (kvs : List (D × D)), vs = [.ref a] ∧ H a = some (ndO a xs) ∧ NdK G H xs kvs ∧ ∀ q, H q = none → Q (.ref q) (upd H q (.lst (xs.map xRef)))
theorem cr_listN (hc : X.calm = true) (hK : X.K = G.K) : CallR X (.type "list") (rListN G) := by
  intro pins s σ H vs us Q I r h
  obtain ⟨a, xs, kvs, rfl, ha, hk, q⟩ := h
  obtain ⟨u, rfl, rx⟩ := vals1 r
  cases (show u = Value.ref a from rx)
  obtain ⟨ys, hp, dd, hd, hz⟩ := nd_at hK I ha hk
  have hl := PR.len hp
  obtain ⟨o, es, ep, ho, hx, hdt, he, _, _⟩ := id dd
  have hs : es.size = ys.length := size_of_entries he
  refine PySem.W.kdl_call (PySem.KdlSrc.rawDict (es := es) (ep := ep) hd) (I.ok.hd hc) ⟨o, ho, hx, hdt⟩ (by omega) fun h' tk acc' c' hkeep hS hacc => ?_
  refine ⟨.ref s.heap.objs.size, upd H s.heap.objs.size (.lst (xs.map xRef)), I.laid hkeep (Nat.le_refl _) (show ObjOk X.prog X.w _ _ _ (.lst (xs.map xRef)) from ⟨?_, acc'.toList, c', ?_, ?_⟩), rfl, q _ (I.hok.fresh (Nat.le_refl _))⟩
  · rw [List.length_map]; exact hz
  · have el : acc'.toList.length = acc'.size := by simp
    refine vals_of_at (by rw [List.length_map, el, hacc.1, hs, hl]) fun j x w h1 h2 => ?_
    obtain ⟨hi, e1⟩ := hacc.2 j w (by rw [← Array.getElem?_toList]; exact h2)
    have e2 := entry_at he j
    rw [Array.getElem?_eq_getElem hi] at e2
    obtain ⟨y, hy, e3⟩ := Option.map_eq_some_iff.mp e2.symm
    rw [List.getElem?_map] at h1
    obtain ⟨x', hx', rfl⟩ := Option.map_eq_some_iff.mp h1
    have hxy : x'.2.1 = y.2.1 := by
      have : ∀ {xs : List (NestedKey × Addr × V)} {ys : List (NestedKey × Addr × Value)} {j : Nat}, Paired PR xs ys → xs[j]? = some x' → ys[j]? = some y → x'.2.1 = y.2.1 := by
        intro xs ys j hp
        induction hp generalizing j with
        | nil => intro a b; simp at a
        | @cons a b l1 l2 p t ih =>
          intro h1 h2
          cases j with
          | zero => simp at h1 h2; subst h1 h2; exact p.2.1
          | succ j => exact ih (by simpa using h1) (by simpa using h2)
      exact this hp hx' hy
    rw [e1, ← e3]
    show RelV (V.ref x'.2.1) (Value.ref y.2.1)
    rw [hxy]
    rfl
  · rw [Array.toArray_toList]; exact hS
/-! dict(pairs) -/
inductive PrsV (G : GD) (H : Hp) : List V → List (NestedKey × Addr × V) → Prop
  | nil : PrsV G H [] []
  | cons {t b : Addr} {v : V} {kd : D} {k : NestedKey} {ws : List V} {ps : List (NestedKey × Addr × V)} : SqT G.K H t [.ref b, v] → Dt G H (.ref b) kd → nk kd = some k → PrsV G H ws ps → PrsV G H (.ref t :: ws) ((k, b, v) :: ps)
def putAll (xs ps : List (NestedKey × Addr × V)) : List (NestedKey × Addr × V) := ps.foldl (fun acc p => putN acc p.1 p.2.1 p.2.2) xs
theorem putAll_len : ∀ (ps xs : List (NestedKey × Addr × V)), (putAll xs ps).length ≤ xs.length + ps.length
  | [], xs => Nat.le_refl _
  | p :: ps, xs => by
    have h1 := putAll_len ps (putN xs p.1 p.2.1 p.2.2)
    have h2 := putN_len xs p.1 p.2.1 p.2.2
    show (putAll (putN xs p.1 p.2.1 p.2.2) ps).length ≤ _
    rw [List.length_cons]
    omega
theorem putAll_rel : ∀ {ps xs : List (NestedKey × Addr × V)} {us ys : List (NestedKey × Addr × Value)}, Paired PR ps us → Paired PR xs ys → Paired PR (putAll xs ps) (storedAllH ys us)
  | _, _, _, _, .nil, h => h
  | p :: ps, xs, u :: us, ys, .cons q t, h => by
    obtain ⟨p1, p2, p3⟩ := q
    show Paired PR (putAll (putN xs p.1 p.2.1 p.2.2) ps) (storedAllH (storedH ys u.1 u.2.1 u.2.2) us)
    refine putAll_rel t ?_
    rw [← p1, ← p2]
    exact putN_rel h p3
theorem prs_raw {pins : List (Addr × Obj)} {s : Shared} {σ : L2.St} {H : Hp} (hK : X.K = G.K) (I : Inv X pins σ H s) : ∀ {ws : List V} {ps : List (NestedKey × Addr × V)} {its : List Value}, PrsV G H ws ps → Vals ws its →
    ∃ (us : List (NestedKey × Addr × Value)) (ts : List Addr), Paired PR ps us ∧ its = ts.map Value.ref ∧ ts.length = us.length ∧ (∀ (j : Nat) (t : Addr) (x : NestedKey × Addr × Value), ts[j]? = some t → us[j]? = some x → s.heap.IsTuple t #[.ref x.2.1, x.2.2]) ∧ ∀ x ∈ us, (nestedKind X.prog X.w).is s.heap x.1 x.2.1
  | _, _, _, .nil, r => by
    cases r
    exact ⟨[], [], .nil, rfl, rfl, fun j t x h => by simp at h, fun x h => (nomatch h)⟩
  | _, _, _, .cons (t := t) (b := b) (v := v) (k := k) q d n rest, r => by
    cases r with
    | cons r1 r2 =>
      rename_i u us0
      cases (show u = Value.ref t from r1)
      obtain ⟨us, ts, h1, h2, h3, h4, h5⟩ := prs_raw hK I rest r2
      have q' : SqT X.K H t [.ref b, v] := by rw [hK]; exact q
      obtain ⟨its, rv, p, hz⟩ := I.tuple q'
      cases rv with
      | cons ra rb =>
        rename_i u1 us1
        cases (show u1 = Value.ref b from ra)
        cases rb with
        | cons rb rc =>
          rename_i u2 us2
          cases rc
          refine ⟨(k, b, u2) :: us, t :: ts, .cons ⟨rfl, rfl, rb⟩ h1, by rw [h2]; rfl, by rw [List.length_cons, List.length_cons, h3], fun j t' x e1 e2 => ?_, fun x hx => ?_⟩
          · cases j with
            | zero =>
              simp at e1 e2
              subst e1 e2
              exact (show s.heap.IsTuple t _ from p)
            | succ j => exact h4 j t' x (by simpa using e1) (by simpa using e2)
          · rcases List.mem_cons.mp hx with rfl | hx
            · exact nk_is hK I d n
            · exact h5 x hx
def rDictP (G : GD) : List V → Hp → VK → Prop := fun vs H Q => ∃ (l : Addr) (ws : List V) (ps : List (NestedKey × Addr × V)), vs = [.ref l] ∧ SqL G.K H l ws ∧ PrsV G H ws ps ∧ ∀ q, H q = none → Q (.ref q) (upd H q (ndO q (putAll [] ps)))
theorem cr_dictP (hc : X.calm = true) (hK : X.K = G.K) (hu : X.A.units + 65 < cLine) : CallR X (.type "dict") (rDictP G) := by
  intro pins s σ H vs us0 Q I r h
  obtain ⟨l, ws, ps, rfl, hs, hp, q⟩ := h
  obtain ⟨u, rfl, rx⟩ := vals1 r
  cases (show u = Value.ref l from rx)
  have hs' : SqL X.K H l ws := by rw [hK]; exact hs
  obtain ⟨its, rv, pl, hz⟩ := I.list hs'
  obtain ⟨us, ts, h1, h2, h3, h4, h5⟩ := prs_raw hK I hp rv
  have hl : us.length ≤ sizeLine := by
    have := rv.length
    rw [h2, List.length_map, h3] at this
    omega
  obtain ⟨⟨cls, dd, dat, sls⟩, n, ho, hcl, hdn, hdt⟩ := pl
  simp only at hcl hdn hdt
  subst hcl hdn hdt
  have hitems : PairItems s.heap its.toArray (fun j => ts.getD j 0) (us.map fun x => (Value.ref x.2.1, x.2.2)) := by
    refine ⟨by rw [List.size_toArray, h2, List.length_map, List.length_map, h3], fun j k v e => ?_⟩
    rw [List.getElem?_map] at e
    obtain ⟨x, e1, e2⟩ := Option.map_eq_some_iff.mp e
    cases e2
    have hj : j < ts.length := by
      have := (List.getElem?_eq_some_iff.mp e1).1
      omega
    have et : ts[j]? = some (ts.getD j 0) := by rw [List.getD_eq_getElem?_getD, List.getElem?_eq_getElem hj] <;> rfl
    refine ⟨?_, .inl (h4 j _ x et e1)⟩
    rw [List.getElem?_toArray, h2, List.getElem?_map, et] <;> rfl
  have P := PairArg.list (prog := X.prog) (w := X.w) l its.toArray (fun j => ts.getD j 0) (us.map fun x => (Value.ref x.2.1, x.2.2))
  refine call_dict_pairsH (knd := nestedKind X.prog X.w) (ps := us) P (I.ok.hd hc) (by show X.A.units + 1 + 1 + 8 < cLine; omega) ⟨⟨_, n, ho, rfl, rfl, rfl⟩, hitems⟩ ⟨by rw [List.length_map], fun i key v e => ?_⟩ (fun h' hk x hx => ?_) (by rw [List.length_map]; exact hl) fun h' tk hd' hk => ?_
  · have e' : (us.map fun x => (Value.ref x.2.1, x.2.2))[i]? = some (key, v) := e
    rw [List.getElem?_map] at e'
    obtain ⟨x, e1, e2⟩ := Option.map_eq_some_iff.mp e'
    cases e2
    exact ⟨x.1, x.2.1, e1, rfl⟩
  · obtain ⟨k1, k2⟩ := h5 x hx
    exact ⟨NestedIs.at (fun a o vs n e _ => hk a o (Nat.ne_of_lt (Heap.lt_size e)) (fun z => nomatch z) e) _ _ k1, k2⟩
  · have hpl : (putAll [] ps).length ≤ sizeLine := by
      have e1 := putAll_len ps []
      have e2 := PR.len h1
      rw [List.length_nil, Nat.zero_add] at e1
      omega
    refine ⟨.ref s.heap.objs.size, upd H s.heap.objs.size (ndO s.heap.objs.size (putAll [] ps)), I.laid (fun b o e => hk b o (fun z => nomatch z) e) (Nat.le_refl _) (ndO_ok (ndr_of (P := X.prog) (w := X.w) (beq_eq_false_iff_ne.mpr (Ne.symm (Nat.ne_of_lt I.big))) hpl (putAll_rel h1 .nil) hd')), rfl, q _ (I.hok.fresh (Nat.le_refl _))⟩
/-- {} -/
def tDNewN : TE := fun _ H Q => ∀ p, H p = none → Q (.ref p) (upd H p (ndO p []))
theorem pe_dnewN {pos : Pos} : PE X (.Dict [] [] pos) tDNewN := ⟨fun pins s σ H Q I h =>
  wpAny_Dict_empty ⟨.ref s.heap.objs.size, _, I.laid (a := s.heap.objs.size) (o := ndO s.heap.objs.size []) (t' := s.toks) (fun _ _ q => Heap.get?_push_of_some _ q) (Nat.le_refl _)
    (ndO_ok (ndr_of (P := X.prog) (w := X.w) (beq_eq_false_iff_ne.mpr (Ne.symm (Nat.ne_of_lt I.big))) (Nat.zero_le _) .nil (Heap.DictOfH.new s.heap))), rfl, h _ (I.hok.fresh (Nat.le_refl _))⟩⟩
/-- d[k] = v -/
def rSetN (G : GD) : V → V → V → Hp → (Hp → Prop) → Prop := fun o i v H Q => ∃ (a b : Addr) (xs : List (NestedKey × Addr × V)) (kvs : List (D × D)) (kd : D) (k : NestedKey), o = .ref a ∧ i = .ref b ∧ H a = some (ndO a xs) ∧ NdK G H xs kvs ∧ Dt G H i kd ∧ nk kd = some k ∧ xs.length < sizeLine ∧ Q (upd H a (ndO a (putN xs k b v)))
theorem set_dct (hK : X.K = G.K) (hu : X.A.units + 65 < cLine) : PSet X (rSetN G) := by
  intro pins s σ H o i v ov iv u Q I ro ri rv h
  obtain ⟨a, b, xs, kvs, kd, k, rfl, rfl, ha, hk, hy, hn, hl, q⟩ := h
  cases (show ov = Value.ref a from ro)
  cases (show iv = Value.ref b from ri)
  obtain ⟨ys, hp, dd, hd, hz⟩ := nd_at hK I ha hk
  have hl2 := PR.len hp
  refine wpAny_setItem_heap (hsz := by omega) (knd := nestedKind X.prog X.w) (by show X.A.units + 1 + 8 < cLine; omega) (nk_is hK I hy hn) dd fun h' dd' hs => ?_
  have hpl := putN_len xs k b v
  refine ⟨_, d_write I (by rw [ha]; trivial) hs ?_ (ndO_ok (ndr_of (P := X.prog) (w := X.w) hd (by omega) (putN_rel hp rv) dd')), q⟩
  obtain ⟨o', _, _, ho', _⟩ := dd'
  exact ⟨o', ho'⟩
theorem PSet.or {t t' : V → V → V → Hp → (Hp → Prop) → Prop} (h : PSet X t) (h' : PSet X t') : PSet X (fun o i v H Q => t o i v H Q ∨ t' o i v H Q) := by
  intro pins s σ H o i v ov iv u Q I ro ri rv q
  rcases q with q | q
  · exact h pins s σ H o i v ov iv u Q I ro ri rv q
  · exact h' pins s σ H o i v ov iv u Q I ro ri rv q
/-! min, max of a list -/
theorem readsAllD {pins : List (Addr × Obj)} {s : Shared} {σ : L2.St} {H : Hp} (I : Inv X pins σ H s) : ∀ {ps : List (V × D)} {its : List Value}, Vals (ps.map (·.1)) its → (∀ q ∈ ps, Dp X.K H q.1 q.2.toP) → ∃ as, ReadsAll s.heap its (ps.map fun q => q.2.toP) as
  | [], [], _, _ => ⟨[], .nil⟩
  | [], _ :: _, h, _ => by cases h
  | q :: ps, [], h, _ => by cases h
  | q :: ps, u :: us, .cons r h, k => by
    obtain ⟨as, h1⟩ := readsAllD I h fun q hq => k q (List.mem_cons_of_mem _ hq)
    obtain ⟨bs, h2⟩ := Dp.reads I _ _ _ (k q List.mem_cons_self) r
    exact ⟨_, .cons h2 h1⟩
theorem depthAll_le : ∀ {ps : List (V × D)} {n : Nat}, (∀ q ∈ ps, q.2.toP.depth ≤ n) → PyData.depthAll (ps.map fun q => q.2.toP) ≤ n
  | [], n, _ => by simp [PyData.depthAll]
  | q :: ps, n, h => by
    have h1 := h q List.mem_cons_self
    have h2 := depthAll_le (ps := ps) (n := n) fun r hr => h r (List.mem_cons_of_mem _ hr)
    simp only [List.map_cons, PyData.depthAll]
    omega
def bestP (mx : Bool) (x : V × D) (r : List (V × D)) : V × D := r.foldl (fun a y => if (if mx = true then PySem.W.dataLt a.2.toP y.2.toP else PySem.W.dataLt y.2.toP a.2.toP) = true then y else a) x
def rBest (K : PySem.W.Frag) (mx : Bool) : List V → Hp → VK → Prop := fun vs H Q => ∃ (p : Addr) (x : V × D) (r : List (V × D)), vs = [.ref p] ∧ SqL K H p ((x :: r).map (·.1)) ∧ (∀ q ∈ x :: r, Dp K H q.1 q.2.toP) ∧ PySem.W.AlikeAll ((x :: r).map fun q => q.2.toP) ∧ (∀ q ∈ x :: r, q.2.toP.depth ≤ 60) ∧ Q (bestP mx x r).1 H
theorem getD_toP (l : List (V × D)) (i : Nat) : (l.map fun q => q.2.toP).getD i .none = (l.getD i (.non, .non)).2.toP := by
  rw [List.getD_eq_getElem?_getD, List.getD_eq_getElem?_getD, List.getElem?_map]
  cases l[i]? <;> rfl
theorem vals_getD : ∀ {l : List (V × D)} {its : List Value} {i : Nat} {v : Value}, Vals (l.map (·.1)) its → its[i]? = some v → RelV (l.getD i (.non, .non)).1 v
  | [], _, _, _, .nil, h => by simp at h
  | q :: l, _ :: _, 0, v, .cons r t, h => by
    simp at h
    subst h
    simpa using r
  | q :: l, _ :: _, i + 1, v, .cons r t, h => by
    have := vals_getD (i := i) (v := v) t (by simpa using h)
    simpa using this
theorem cr_min (hc : X.calm = true) (hu : X.A.units + 65 < cLine) : CallR X (.builtin "min") (rBest X.K false) := by
  intro pins s σ H vs us Q I rv h
  obtain ⟨p, x, r, rfl, hq, hd, ha, hdep, q⟩ := h
  obtain ⟨u, rfl, ru⟩ := vals1 rv
  cases (show u = Value.ref p from ru)
  obtain ⟨its, rr, pl, hz⟩ := I.list hq
  obtain ⟨as, hr⟩ := readsAllD I rr hd
  have hr' : ReadsAll s.heap its.toArray.toList ((x :: r).map fun q => q.2.toP) as := by simpa using hr
  have hn : its.toArray.size = r.length + 1 := by
    have := rr.length
    simp at this
    simp
    omega
  have hdA := depthAll_le hdep
  refine PySem.call_min_walkH (PySem.W.iter_listW (A := X.A.in1) (I.ok.hd hc) pl.isList fun s₂ e W st hfp hw hk => ?_)
  refine ⟨_, _, _, _, _, _, _, s.heap, _, rfl, W, st, hfp, by omega, hw, hk, PySem.W.cmpIn_lt (A := X.A.in1) hr' ha (by show X.A.units + 1 + _ < _; omega), fun v s' hP m => ?_⟩
  obtain ⟨h', tk, rfl, hk'⟩ := PySem.W.moved_old e rfl m
  have e1 : its.toArray.size - 1 = r.length := by omega
  have e2 := (PySem.W.argBest_fold (fun (a b : V × D) => PySem.W.dataLt a.2.toP b.2.toP) (V.non, D.non) x r r.length (Nat.le_refl _)).2
  rw [List.take_length] at e2
  have e3 : (fun i j => PySem.W.dataLt (((x :: r).map fun q => q.2.toP).getD i .none) (((x :: r).map fun q => q.2.toP).getD j .none)) = fun i j => PySem.W.dataLt ((x :: r).getD i (V.non, D.non)).2.toP ((x :: r).getD j (V.non, D.non)).2.toP := by
    funext i j
    rw [getD_toP, getD_toP]
  have hP' : its[argBest (fun i j => PySem.W.dataLt (((x :: r).map fun q => q.2.toP).getD i .none) (((x :: r).map fun q => q.2.toP).getD j .none)) (its.toArray.size - 1)]? = some v := by simpa using hP
  have rv2 := vals_getD rr hP'
  rw [e1, e3, e2] at rv2
  exact ⟨_, H, I.kept (t' := tk) hk', rv2, q⟩
theorem cr_max (hc : X.calm = true) (hu : X.A.units + 65 < cLine) : CallR X (.builtin "max") (rBest X.K true) := by
  intro pins s σ H vs us Q I rv h
  obtain ⟨p, x, r, rfl, hq, hd, ha, hdep, q⟩ := h
  obtain ⟨u, rfl, ru⟩ := vals1 rv
  cases (show u = Value.ref p from ru)
  obtain ⟨its, rr, pl, hz⟩ := I.list hq
  obtain ⟨as, hr⟩ := readsAllD I rr hd
  have hr' : ReadsAll s.heap its.toArray.toList ((x :: r).map fun q => q.2.toP) as := by simpa using hr
  have hn : its.toArray.size = r.length + 1 := by
    have := rr.length
    simp at this
    simp
    omega
  have hdA := depthAll_le hdep
  refine PySem.call_max_walkH (PySem.W.iter_listW (A := X.A.in1) (I.ok.hd hc) pl.isList fun s₂ e W st hfp hw hk => ?_)
  refine ⟨_, _, _, _, _, _, _, s.heap, _, rfl, W, st, hfp, by omega, hw, hk, PySem.W.cmpIn_gt (A := X.A.in1) hr' ha (by show X.A.units + 1 + _ < _; omega), fun v s' hP m => ?_⟩
  obtain ⟨h', tk, rfl, hk'⟩ := PySem.W.moved_old e rfl m
  have e1 : its.toArray.size - 1 = r.length := by omega
  have e2 := (PySem.W.argBest_fold (fun (a b : V × D) => PySem.W.dataLt b.2.toP a.2.toP) (V.non, D.non) x r r.length (Nat.le_refl _)).2
  rw [List.take_length] at e2
  have e3 : (fun i j => PySem.W.dataLt (((x :: r).map fun q => q.2.toP).getD j .none) (((x :: r).map fun q => q.2.toP).getD i .none)) = fun i j => PySem.W.dataLt ((x :: r).getD j (V.non, D.non)).2.toP ((x :: r).getD i (V.non, D.non)).2.toP := by
    funext i j
    rw [getD_toP, getD_toP]
  have hP' : its[argBest (fun i j => PySem.W.dataLt (((x :: r).map fun q => q.2.toP).getD j .none) (((x :: r).map fun q => q.2.toP).getD i .none)) (its.toArray.size - 1)]? = some v := by simpa using hP
  have rv2 := vals_getD rr hP'
  rw [e1, e3, e2] at rv2
  exact ⟨_, H, I.kept (t' := tk) hk', rv2, q⟩
end
end Mp

set_option maxRecDepth 100000
set_option maxHeartbeats 4000000
/-! Mp3: operations by values, sound. -/
namespace Mp
open PySem PySem.Spec PyProof.Rows L2

/-- readable as d, its items outside M -/
def Sh (G : GD) (M : AS) (H : Hp) (v : V) (d : D) : Prop := Dt G (Hr H M) v d ∨ ∃ p, v = .ref p ∧ OwnC G M H p d
inductive ShA (G : GD) (M : AS) (H : Hp) : List V → List D → Prop
  | nil : ShA G M H [] []
  | cons {v : V} {d : D} {vs : List V} {ds : List D} : Sh G M H v d → ShA G M H vs ds → ShA G M H (v :: vs) (d :: ds)
/-- what an operation gives -/
inductive NewV (G : GD) (M : AS) (H : Hp) : V → Hp → D → Bool → Prop
  | old {v : V} {d : D} : Dt G (Hr H M) v d → NewV G M H v H d false
  | tup {p : Addr} {vs : List V} {ds : List D} : H p = none → DtA G (Hr H M) vs ds → NewV G M H (.ref p) (upd H p (.tup vs)) (.tup ds) false
  | lst {p : Addr} {vs : List V} {ds : List D} : H p = none → DtA G (Hr H M) vs ds → NewV G M H (.ref p) (upd H p (.lst vs)) (.lst ds) true
  | dct {p : Addr} {xs : List (NestedKey × Addr × V)} {kvs : List (D × D)} : H p = none → NdK G (Hr H M) xs kvs → DtA G (Hr H M) (xs.map xVal) (kvs.map (·.2)) → NewV G M H (.ref p) (upd H p (ndO p xs)) (.dct kvs) true

section
variable {G : GD} {M : AS} {H : Hp} {v : V}
theorem Sh.int {i : Int} (h : Sh G M H v (.int i)) : v = .int i := by
  rcases h with h | ⟨p, _, h⟩
  · cases h; rfl
  · exact h.elim
theorem Sh.bl {b : Bool} (h : Sh G M H v (.bl b)) : v = .bl b := by
  rcases h with h | ⟨p, _, h⟩
  · cases h; rfl
  · exact h.elim
theorem Sh.str {x : Str} (h : Sh G M H v (.str x)) : v = .str x := by
  rcases h with h | ⟨p, _, h⟩
  · cases h; rfl
  · exact h.elim
theorem Sh.non (h : Sh G M H v .non) : v = .non := by
  rcases h with h | ⟨p, _, h⟩
  · cases h; rfl
  · exact h.elim
theorem Sh.tup {ds : List D} (h : Sh G M H v (.tup ds)) : ∃ p vs, v = .ref p ∧ SqT G.K H p vs ∧ DtA G (Hr H M) vs ds := by
  rcases h with h | ⟨p, _, h⟩
  · cases h with
    | tup a r => exact ⟨_, _, rfl, sqt_le hr_sub a, r⟩
  · exact h.elim
theorem Sh.lst {ds : List D} (h : Sh G M H v (.lst ds)) : ∃ p vs, v = .ref p ∧ SqL G.K H p vs ∧ DtA G (Hr H M) vs ds := by
  rcases h with h | ⟨p, e, h⟩
  · cases h with
    | lst a r => exact ⟨_, _, rfl, .inl (rd_le hr_sub a), r⟩
  · obtain ⟨vs, q, r⟩ := h
    exact ⟨p, vs, e, .inl (.inl q), r⟩
theorem Sh.scr {ds : List D} (h : Sh G M H v (.scr ds)) : ∃ p vs, v = .ref p ∧ SqL G.K H p vs ∧ DtA G (Hr H M) vs ds := by
  rcases h with h | ⟨p, e, h⟩
  · cases h with
    | scr a r => exact ⟨_, _, rfl, sql_le hr_sub a, r⟩
  · exact h.elim
theorem Sh.dct {kvs : List (D × D)} (h : Sh G M H v (.dct kvs)) : ∃ p xs, v = .ref p ∧ H p = some (ndO p xs) ∧ NdK G (Hr H M) xs kvs ∧ DtA G (Hr H M) (xs.map xVal) (kvs.map (·.2)) := by
  rcases h with h | ⟨p, e, h⟩
  · cases h with
    | dct a k n r t => exact ⟨_, _, rfl, hr_sub _ _ a, ⟨k, n, r⟩, t⟩
  · obtain ⟨xs, q, k, n, r, t⟩ := h
    exact ⟨p, xs, e, q, ⟨k, n, r⟩, t⟩
theorem Sh.dt {d : D} (h : Sh G M H v d) : Dt G H v d := by
  rcases h with h | ⟨p, e, h⟩
  · exact h.le hr_sub
  · cases d with
    | lst ds =>
      obtain ⟨vs, q, r⟩ := h
      rw [e]
      exact .lst (.inl q) (r.le hr_sub)
    | ins c ns ds =>
      obtain ⟨dx, fl, q, z, f, r⟩ := h
      rw [e]
      exact .ins q z f (r.le hr_sub)
    | dct ds =>
      obtain ⟨xs, q, z, n, r, t⟩ := h
      rw [e]
      exact .dct q z n (r.le hr_sub) (t.le hr_sub)
    | _ => exact h.elim
theorem DtA.dt {vs : List V} {ds : List D} (h : DtA G (Hr H M) vs ds) : DtA G H vs ds := h.le hr_sub
end

/-! ### data -/
section
variable {G : GD} {H : Hp}
mutual
theorem dp_of : ∀ {v : V} {d : D}, Dt G H v d → d.toP.plain = true → Dp G.K H v d.toP
  | _, _, .non, _ => .non
  | _, _, .bl b, _ => .bl b
  | _, _, .int i, _ => .int i
  | _, _, .str x, _ => .str x
  | _, _, .tup h r, p => .tup h (dpA_of r (by simpa [D.toP, PyData.plain] using p))
  | _, _, .lst h r, p => .lst (.inl h) (dpA_of r (by simpa [D.toP, PyData.plain] using p))
  | _, _, .fn i, p => by simp [D.toP, PyData.plain] at p
  | _, _, .scr _ _, p => by simp [D.toP, PyData.plain] at p
  | _, _, .ins _ _ _ _, p => by simp [D.toP, PyData.plain] at p
  | _, _, .cls _, p => by simp [D.toP, PyData.plain] at p
theorem dpA_of : ∀ {vs : List V} {ds : List D}, DtA G H vs ds → PyData.plainAll (D.toPs ds) = true → DpAll G.K H vs (D.toPs ds)
  | _, _, .nil, _ => .nil
  | _, _, .cons h r, p => by
    simp only [D.toPs, PyData.plainAll, Bool.and_eq_true] at p
    exact .cons (dp_of h p.1) (dpA_of r p.2)
end
end

section
variable {X : Cx}
/-- a comparison of data -/
def rCmpP (g : PyData → PyData → Bool) (c : PyData → PyData → Prop) (K : PySem.W.Frag) : R2 := fun x y H Q => ∃ d e : PyData, Dp K H x d ∧ Dp K H y e ∧ d.plain = true ∧ e.plain = true ∧ c d e ∧ min d.depth e.depth ≤ 64 ∧ Q (.bl (g d e)) H
theorem op_cmpP {op : CmpOp} {g : PyData → PyData → Bool} {c : PyData → PyData → Prop} (hu : X.A.units + 64 < cLine)
    (rule : ∀ (s : Shared) (a b : Value) (da db : PyData) (as bs : List Addr) (Q : Value → Shared → Prop) (E : Value → Shared → Prop), Reads s.heap a da as → Reads s.heap b db bs → da.plain = true → db.plain = true → c da db → X.A.units + min da.depth db.depth < cLine → Q (.bool (g da db)) s → wpAny (model X.prog X.w) X.A (compareOp op a b) Q E s) :
    OpR X (compareOp op) (rCmpP g c X.K) := by
  intro pins s σ H x y v u Q I rx ry h
  obtain ⟨d, e, hd, he, p1, p2, hc, hm, q⟩ := h
  obtain ⟨as, r1⟩ := Dp.reads I d x v hd rx
  obtain ⟨bs, r2⟩ := Dp.reads I e y u he ry
  exact rule s v u d e as bs _ _ r1 r2 p1 p2 hc (by omega) ⟨.bl _, H, I, rfl, q⟩
theorem op_eqP (hu : X.A.units + 64 < cLine) : OpR X (compareOp .Eq) (rCmpP PyData.eqv (fun _ _ => True) X.K) :=
  op_cmpP hu fun s a b da db as bs Q E r1 r2 p1 p2 _ hm q => SeqAt.eq_plain r1 r2 p1 p2 hm q
theorem op_neP (hu : X.A.units + 64 < cLine) : OpR X (compareOp .NotEq) (rCmpP (fun a b => !PyData.eqv a b) (fun _ _ => True) X.K) :=
  op_cmpP hu fun s a b da db as bs Q E r1 r2 p1 p2 _ hm q => SeqAt.ne_plain r1 r2 p1 p2 hm q
abbrev cLt (da db : PyData) : Prop := PySem.W.alike da db = true ∧ da ≠ .none
theorem op_ltP (hu : X.A.units + 64 < cLine) : OpR X (compareOp .Lt) (rCmpP (fun a b => PySem.W.dataLt a b) cLt X.K) :=
  op_cmpP hu fun s a b da db as bs Q E r1 r2 p1 p2 c hm q => PySem.W.lt_data r1 r2 c.1 c.2 hm q
theorem op_gtP (hu : X.A.units + 64 < cLine) : OpR X (compareOp .Gt) (rCmpP (fun a b => PySem.W.dataLt b a) cLt X.K) :=
  op_cmpP hu fun s a b da db as bs Q E r1 r2 p1 p2 c hm q => PySem.W.gt_data r1 r2 c.1 c.2 hm q
theorem op_leP (hu : X.A.units + 64 < cLine) : OpR X (compareOp .LtE) (rCmpP (fun a b => !PySem.W.dataLt b a) cLt X.K) :=
  op_cmpP hu fun s a b da db as bs Q E r1 r2 p1 p2 c hm q => PySem.W.le_data r1 r2 c.1 c.2 hm q
theorem op_geP (hu : X.A.units + 64 < cLine) : OpR X (compareOp .GtE) (rCmpP (fun a b => !PySem.W.dataLt a b) cLt X.K) :=
  op_cmpP hu fun s a b da db as bs Q E r1 r2 p1 p2 c hm q => PySem.W.ge_data r1 r2 c.1 c.2 hm q
/-- x in xs -/
def rInP (b : Bool) (K : PySem.W.Frag) : R2 := fun x y H Q => ∃ (d : PyData) (es : List PyData), Dp K H x d ∧ (Dp K H y (.list es) ∨ Dp K H y (.tuple es)) ∧ d.plain = true ∧ PyData.plainAll es = true ∧ min (PyData.depthAll es) d.depth ≤ 64 ∧ Q (.bl (b ^^ (es.any fun z => PyData.eqv z d))) H
theorem op_inP (hu : X.A.units + 65 < cLine) : OpR X (compareOp .In) (rInP false X.K) := by
  intro pins s σ H x y v u Q I rx ry h
  obtain ⟨d, es, hd, he, p1, p2, hm, q⟩ := h
  obtain ⟨as, r1⟩ := Dp.reads I d x v hd rx
  rw [Bool.false_xor] at q
  rcases he with he | he
  · obtain ⟨bs, r2⟩ := Dp.reads I _ y u he ry
    exact SeqAt.in_list_data r2 r1 p2 p1 (by omega) ⟨.bl _, H, I, rfl, q⟩
  · obtain ⟨bs, r2⟩ := Dp.reads I _ y u he ry
    exact SeqAt.in_tuple_data r2 r1 p2 p1 (by omega) ⟨.bl _, H, I, rfl, q⟩
theorem op_ninP (hu : X.A.units + 65 < cLine) : OpR X (compareOp .NotIn) (rInP true X.K) := by
  intro pins s σ H x y v u Q I rx ry h
  obtain ⟨d, es, hd, he, p1, p2, hm, q⟩ := h
  obtain ⟨as, r1⟩ := Dp.reads I d x v hd rx
  rw [Bool.true_xor] at q
  rcases he with he | he
  · obtain ⟨bs, r2⟩ := Dp.reads I _ y u he ry
    exact SeqAt.notIn_list_data r2 r1 p2 p1 (by omega) ⟨.bl _, H, I, rfl, q⟩
  · obtain ⟨bs, r2⟩ := Dp.reads I _ y u he ry
    exact SeqAt.notIn_tuple_data r2 r1 p2 p1 (by omega) ⟨.bl _, H, I, rfl, q⟩
theorem OpR.or {f : Value → Value → Sem Value} {r r' : R2} (h : OpR X f r) (h' : OpR X f r') : OpR X f (fun x y H Q => r x y H Q ∨ r' x y H Q) := fun pins s σ H x y v u Q I rx ry q => q.elim (h pins s σ H x y v u Q I rx ry) (h' pins s σ H x y v u Q I rx ry)

def copOf : Cop → CmpOp
  | .eq => .Eq | .ne => .NotEq | .lt => .Lt | .le => .LtE | .gt => .Gt | .ge => .GtE | .is_ => .Is | .isn => .IsNot | .in_ => .In | .nin => .NotIn
def bopOf : Bop → Operator
  | .add => .Add | .sub => .Sub | .mul => .Mult | .fdiv => .FloorDiv | .mod => .Mod | .pow => .Pow
theorem op_isB2 : OpR X (compareOp .Is) (fun x y H Q => ∃ c d, x = .bl c ∧ y = .bl d ∧ Q (.bl (c == d)) H) := by
  intro pins s σ H x y v u Q I rx ry h
  obtain ⟨c, d, rfl, rfl, q⟩ := h
  cases rx
  cases ry
  exact is_bool (fin_bl I q rfl)
theorem op_isnB2 : OpR X (compareOp .IsNot) (fun x y H Q => ∃ c d, x = .bl c ∧ y = .bl d ∧ Q (.bl (!(c == d))) H) := by
  intro pins s σ H x y v u Q I rx ry h
  obtain ⟨c, d, rfl, rfl, q⟩ := h
  cases rx
  cases ry
  exact isnot_bool (fin_bl I q rfl)
end

/-! ### comparisons, sound -/
section
variable {X : Cx} {G : GD}
theorem toPs_len : ∀ xs : List D, (D.toPs xs).length = xs.length
  | [] => rfl
  | x :: xs => by rw [D.toPs, List.length_cons, List.length_cons, toPs_len xs]
theorem any_toPs (f : PyData → Bool) : ∀ xs : List D, (D.toPs xs).any f = xs.any fun y => f y.toP
  | [] => rfl
  | x :: xs => by rw [D.toPs, List.any_cons, List.any_cons, any_toPs f xs]
theorem toP_none {a : D} (h : a.isNon = false) (p : a.ok = true) : a.toP ≠ .none := by
  cases a <;> simp_all [D.toP, D.isNon]
theorem dt_non {M : AS} {H : Hp} {x : V} {a : D} (h : Sh G M H x a) : decide (x = .non) = a.isNon := by
  rcases h with h | ⟨p, rfl, h⟩
  · cases h <;> simp [D.isNon]
  · cases a with
    | lst ds => simp [D.isNon]
    | ins c ns ds => simp [D.isNon]
    | dct ds => simp [D.isNon]
    | _ => exact h.elim
theorem eqD_some {a b : D} {k : Bool} (h : eqD a b = some k) : a.ok = true ∧ b.ok = true ∧ min a.toP.depth b.toP.depth ≤ 64 ∧ PyData.eqv a.toP b.toP = k := by
  unfold eqD at h
  split at h
  · rename_i c
    exact ⟨c.1, c.2.1, of_decide_eq_true c.2.2, Option.some.inj h⟩
  · cases h
theorem ltD_some {a b : D} {k : Bool} (h : ltD a b = some k) : a.ok = true ∧ b.ok = true ∧ cLt a.toP b.toP ∧ min a.toP.depth b.toP.depth ≤ 64 ∧ PySem.W.dataLt a.toP b.toP = k := by
  unfold ltD at h
  split at h
  · rename_i c
    exact ⟨c.1, c.2.1, ⟨c.2.2.1, toP_none c.2.2.2.1 c.1⟩, of_decide_eq_true c.2.2.2.2, Option.some.inj h⟩
  · cases h
theorem inD_some {a : D} {xs : List D} {k : Bool} (h : inD a xs = some k) : a.ok = true ∧ PyData.plainAll (D.toPs xs) = true ∧ min (PyData.depthAll (D.toPs xs)) a.toP.depth ≤ 64 ∧ ((D.toPs xs).any fun y => PyData.eqv y a.toP) = k := by
  unfold inD at h
  split at h
  · rename_i c
    exact ⟨c.1, c.2.1, c.2.2, (any_toPs _ xs).trans (Option.some.inj h)⟩
  · cases h
theorem map_not {o : Option Bool} {k : Bool} (h : o.map (!·) = some k) : o = some (!k) := by
  cases o with
  | none => cases h
  | some b =>
    simp only [Option.map_some, Option.some.injEq] at h
    rw [← h, Bool.not_not]
theorem cop_ok (G : GD) (o : Cop) : ∃ r : R2, (∀ X : Cx, X.K = G.K → X.A.units + 65 < cLine → OpR X (compareOp (copOf o)) r) ∧
    ∀ (M : AS) (H : Hp) (x y : V) (a b : D) (k : Bool) (Q : VK), Sh G M H x a → Sh G M H y b → cmpD o a b = some k → Q (.bl k) H → r x y H Q := by
  have swap : ∀ {a b : PyData}, cLt b a → a.plain = true → cLt a b := fun {a b} h p => ⟨by rw [PySem.W.alike_comm]; exact h.1, PySem.W.ne_none_both h.1 h.2⟩
  cases o with
  | eq =>
    refine ⟨rCmpP PyData.eqv (fun _ _ => True) G.K, fun X hK hu => by rw [← hK]; exact op_eqP (by omega), fun M H x y a b k Q ha hb h q => ?_⟩
    obtain ⟨h1, h2, h3, h4⟩ := eqD_some h
    exact ⟨_, _, dp_of ha.dt h1, dp_of hb.dt h2, h1, h2, trivial, h3, by rw [h4]; exact q⟩
  | ne =>
    refine ⟨rCmpP (fun a b => !PyData.eqv a b) (fun _ _ => True) G.K, fun X hK hu => by rw [← hK]; exact op_neP (by omega), fun M H x y a b k Q ha hb h q => ?_⟩
    obtain ⟨h1, h2, h3, h4⟩ := eqD_some (map_not h)
    exact ⟨_, _, dp_of ha.dt h1, dp_of hb.dt h2, h1, h2, trivial, h3, by dsimp only; rw [h4, Bool.not_not]; exact q⟩
  | lt =>
    refine ⟨rCmpP (fun a b => PySem.W.dataLt a b) cLt G.K, fun X hK hu => by rw [← hK]; exact op_ltP (by omega), fun M H x y a b k Q ha hb h q => ?_⟩
    obtain ⟨h1, h2, h3, h4, h5⟩ := ltD_some h
    exact ⟨_, _, dp_of ha.dt h1, dp_of hb.dt h2, h1, h2, h3, h4, by dsimp only; rw [h5]; exact q⟩
  | gt =>
    refine ⟨rCmpP (fun a b => PySem.W.dataLt b a) cLt G.K, fun X hK hu => by rw [← hK]; exact op_gtP (by omega), fun M H x y a b k Q ha hb h q => ?_⟩
    obtain ⟨h1, h2, h3, h4, h5⟩ := ltD_some h
    exact ⟨_, _, dp_of ha.dt h2, dp_of hb.dt h1, h2, h1, swap h3 h2, by rw [Nat.min_comm]; exact h4, by dsimp only; rw [h5]; exact q⟩
  | le =>
    refine ⟨rCmpP (fun a b => !PySem.W.dataLt b a) cLt G.K, fun X hK hu => by rw [← hK]; exact op_leP (by omega), fun M H x y a b k Q ha hb h q => ?_⟩
    obtain ⟨h1, h2, h3, h4, h5⟩ := ltD_some (map_not h)
    exact ⟨_, _, dp_of ha.dt h2, dp_of hb.dt h1, h2, h1, swap h3 h2, by rw [Nat.min_comm]; exact h4, by dsimp only; rw [h5, Bool.not_not]; exact q⟩
  | ge =>
    refine ⟨rCmpP (fun a b => !PySem.W.dataLt a b) cLt G.K, fun X hK hu => by rw [← hK]; exact op_geP (by omega), fun M H x y a b k Q ha hb h q => ?_⟩
    obtain ⟨h1, h2, h3, h4, h5⟩ := ltD_some (map_not h)
    exact ⟨_, _, dp_of ha.dt h1, dp_of hb.dt h2, h1, h2, h3, h4, by dsimp only; rw [h5, Bool.not_not]; exact q⟩
  | is_ =>
    refine ⟨_, fun X _ _ => OpR.or op_isN op_isB2, fun M H x y a b k Q ha hb h q => ?_⟩
    cases b with
    | non =>
      refine .inl ⟨hb.non, ?_⟩
      rw [dt_non ha]
      have e : some a.isNon = some k := by cases a <;> exact h
      rw [Option.some.inj e]
      exact q
    | bl c =>
      cases a with
      | bl d =>
        have e := Option.some.inj (show some (d == c) = some k from h)
        exact .inr ⟨_, _, ha.bl, hb.bl, by rw [e]; exact q⟩
      | _ => cases h
    | _ => cases a <;> cases h
  | isn =>
    refine ⟨_, fun X _ _ => OpR.or op_notN op_isnB2, fun M H x y a b k Q ha hb h q => ?_⟩
    cases b with
    | non =>
      refine .inl ⟨hb.non, ?_⟩
      rw [dt_non ha]
      have e : some (!a.isNon) = some k := by cases a <;> exact h
      rw [Option.some.inj e]
      exact q
    | bl c =>
      cases a with
      | bl d =>
        have e := Option.some.inj (show some (!(d == c)) = some k from h)
        exact .inr ⟨_, _, ha.bl, hb.bl, by rw [e]; exact q⟩
      | _ => cases h
    | _ => cases a <;> cases h
  | in_ =>
    refine ⟨fun x y H Q => rInP false G.K x y H Q ∨ rInN G false x y H Q, fun X hK hu => OpR.or (by rw [← hK]; exact op_inP hu) (op_inN hK hu), fun M H x y a b k Q ha hb h q => ?_⟩
    cases b with
    | dct kvs =>
      obtain ⟨kk, e1, e2⟩ := Option.map_eq_some_iff.mp (show inDct kvs a = some k by cases a <;> exact h)
      obtain ⟨p, xs, rfl, hp, hk, hr⟩ := hb.dct
      refine .inr ⟨p, xs, kvs, a, kk, rfl, hp, hk.le hr_sub, ha.dt, e1, ?_⟩
      rw [← any_at hk.ks, e2, Bool.false_xor]
      exact q
    | tup xs =>
      obtain ⟨h1, h2, h3, h4⟩ := inD_some (show inD a xs = some k by cases a <;> exact h)
      exact .inl ⟨_, _, dp_of ha.dt h1, .inr (dp_of hb.dt (by simpa [D.toP, PyData.plain] using h2)), h1, h2, h3, by rw [h4, Bool.false_xor]; exact q⟩
    | lst xs =>
      obtain ⟨h1, h2, h3, h4⟩ := inD_some (show inD a xs = some k by cases a <;> exact h)
      exact .inl ⟨_, _, dp_of ha.dt h1, .inl (dp_of hb.dt (by simpa [D.toP, PyData.plain] using h2)), h1, h2, h3, by rw [h4, Bool.false_xor]; exact q⟩
    | _ => cases a <;> cases h
  | nin =>
    refine ⟨fun x y H Q => rInP true G.K x y H Q ∨ rInN G true x y H Q, fun X hK hu => OpR.or (by rw [← hK]; exact op_ninP hu) (op_ninN hK hu), fun M H x y a b k Q ha hb h q => ?_⟩
    cases b with
    | dct kvs =>
      obtain ⟨kk, e1, e2⟩ := Option.map_eq_some_iff.mp (map_not (show (inDct kvs a).map (!·) = some k by cases a <;> exact h))
      obtain ⟨p, xs, rfl, hp, hk, hr⟩ := hb.dct
      refine .inr ⟨p, xs, kvs, a, kk, rfl, hp, hk.le hr_sub, ha.dt, e1, ?_⟩
      rw [← any_at hk.ks, e2, Bool.true_xor, Bool.not_not]
      exact q
    | tup xs =>
      obtain ⟨h1, h2, h3, h4⟩ := inD_some (map_not (show (inD a xs).map (!·) = some k by cases a <;> exact h))
      exact .inl ⟨_, _, dp_of ha.dt h1, .inr (dp_of hb.dt (by simpa [D.toP, PyData.plain] using h2)), h1, h2, h3, by rw [h4, Bool.true_xor, Bool.not_not]; exact q⟩
    | lst xs =>
      obtain ⟨h1, h2, h3, h4⟩ := inD_some (map_not (show (inD a xs).map (!·) = some k by cases a <;> exact h))
      exact .inl ⟨_, _, dp_of ha.dt h1, .inl (dp_of hb.dt (by simpa [D.toP, PyData.plain] using h2)), h1, h2, h3, by rw [h4, Bool.true_xor, Bool.not_not]; exact q⟩
    | _ => cases a <;> cases h
end
end Mp

set_option maxRecDepth 100000
set_option maxHeartbeats 4000000
/-! Mp4: binary operators, items, slices, built-ins, sound. -/
namespace Mp
open PySem PySem.Spec PyProof.Rows L2

theorem tuple_mul1 (l : Addr) (items : Array Value) (n : Nat) (dd : Option Addr) (sl : Array (Option Value)) (x : Int) (u : Tok) (c0 : (decide (x < -(2 ^ 63)) || decide (x ≥ 2 ^ 63)) = false) (c1 : (items.isEmpty || x == 1) = true) :
    Meets (Builtin.«tuple.__mul__» ⟨[.ref l, .int x u], []⟩) (fun _ R s => s.heap.get? l = some { cls := .type "tuple", dict := dd, data := .seq items n, slots := sl } ∧
      R (.ok (.ret (Value.ref l))) s) :=
  .of_wp fun prog w A R s h => by
    obtain ⟨hp, g, d, tk, os⟩ := s
    obtain ⟨hl, h⟩ := h
    have f1 := AutoSeq1.idx_int
    wp_walk using wpAny_loadPart' hl
    repeat (first
      | (refine wpAny_ite_false (decide_eq_false (by rw [c0]; exact Bool.false_ne_true)) ?_; wp_walk using wpAny_loadPart' hl)
      | (refine wpAny_ite_true (decide_eq_true c1) ?_; wp_walk using wpAny_loadPart' hl))
    exact ⟨_, rfl, h⟩

section
variable {X : Cx}
/-- t * 1, () * k: the tuple itself -/
def rRepT1 (K : PySem.W.Frag) : R2 := fun x y H Q => ∃ l k xs, x = .ref l ∧ y = .int k ∧ SqT K H l xs ∧ -(2 ^ 63) ≤ k ∧ k < 2 ^ 63 ∧ (xs = [] ∨ k = 1) ∧ Q (.ref l) H
theorem op_repT1 : OpR X (binaryOp .Mult) (rRepT1 X.K) := by
  intro pins s σ H x y v u Q I rx ry h
  obtain ⟨l, k, xs, rfl, rfl, hT, h1, h2, hn, q⟩ := h
  cases rx
  obtain ⟨t, rfl⟩ := ry
  obtain ⟨its, r, ⟨⟨cls, dd, data, sl⟩, ho, hc, n, hd⟩, hs⟩ := I.tuple hT
  simp only at hc hd
  subst hc hd
  have c0 : (decide (k < -(2 ^ 63)) || decide (k ≥ 2 ^ 63)) = false := by
    rw [decide_eq_false (by omega), decide_eq_false (by omega)] <;> rfl
  have c1 : (its.toArray.isEmpty || k == 1) = true := by
    rcases hn with hn | hn
    · subst hn
      cases r
      rfl
    · rw [hn]
      simp
  refine wpAny_binaryOp_repeat_ref (T := "tuple") (U := "int") (by decide) ⟨_, ho, rfl⟩ (fun s' => typeIs_int s' k t) noFill_tuple_mul F.fills_int_mul F.slot_int_rmul repeat_tuple F.slot_int_index.lookup
    (call_meets F.slot_int_rmul (typeIs_int s k t) F.entry_int_rmul (F.args_int_rmul_2 _ _) (int_rmul_tuple k t l its.toArray n dd sl)
      ⟨ho, rfl, ⟨_, ho, rfl⟩, call_meets F.slot_tuple_mul ⟨_, ho, rfl⟩ F.entry_tuple_mul (F.args_tuple_mul_2 _ _) (tuple_mul1 l its.toArray n dd sl k t c0 c1) ⟨ho, ?_⟩⟩)
  exact ⟨.ref l, H, I, rfl, q⟩
theorem rdM {P : Program} {pins : List (Addr × Obj)} {s : Shared} {σ : L2.St} {H : Hp} {l : Addr} {xs : List V} (I : Inv X pins σ H s) (hH : Rd H l (.lst xs)) :
    xs.length ≤ sizeLine ∧ ∃ (its : List Value) (n : Nat), Vals xs its ∧ xs.length = its.length ∧ s.heap.get? l = some { cls := .type "list", data := .seq its.toArray n } := by
  obtain ⟨z, its, n, r, e⟩ := hH.ok I.hok
  exact ⟨z, its, n, r, r.length, e⟩
/-- list + list, whatever lists are read -/
def rCatR : R2 := fun x y H Q => ∃ l b xs zs, x = .ref l ∧ y = .ref b ∧ Rd H l (.lst xs) ∧ Rd H b (.lst zs) ∧ xs.length + zs.length ≤ sizeLine ∧ ∀ p, H p = none → Q (.ref p) (upd H p (.lst (xs ++ zs)))
theorem op_catR : OpR X (binaryOp .Add) rCatR := by
  intro pins s σ H x y v u Q I rx ry h
  obtain ⟨l, b, xs, zs, rfl, rfl, hH, hB, hz, q⟩ := h
  cases rx
  cases ry
  obtain ⟨z, its, n, r, hl, e⟩ := rdM (P := X.prog) I hH
  obtain ⟨z2, its2, n2, r2, hl2, e2⟩ := rdM (P := X.prog) I hB
  refine PySem.P.add_list e e2 ?_ (by rw [List.size_toArray, List.size_toArray]; omega)
  have ea : its.toArray ++ its2.toArray = (its ++ its2).toArray := by simp
  rw [ea]
  exact ⟨.ref _, _, I.lnew (t' := s.toks) (r.append r2) (by rw [List.length_append]; omega), rfl, q _ I.fresh⟩
def rRepR : R2 := fun x y H Q => ∃ l k xs, x = .ref l ∧ y = .int k ∧ Rd H l (.lst xs) ∧ -(2 ^ 63) ≤ k ∧ k < 2 ^ 63 ∧ xs.length * k.toNat ≤ sizeLine ∧
  ∀ p, H p = none → Q (.ref p) (upd H p (.lst (List.replicate k.toNat xs).flatten))
theorem op_repR : OpR X (binaryOp .Mult) rRepR := by
  intro pins s σ H x y v u Q I rx ry h
  obtain ⟨l, k, xs, rfl, rfl, hH, h1, h2, hz, q⟩ := h
  cases rx
  obtain ⟨t, rfl⟩ := ry
  obtain ⟨z, its, n, r, hl, e⟩ := rdM (P := X.prog) I hH
  have hlen : its.toArray.size * k.toNat ≤ sizeLine := by rw [List.size_toArray, ← hl]; exact hz
  have hcap : ¬ its.toArray.size * k.toNat > (2 ^ 63 - 1) / 8 := by
    have : (sizeLine : Nat) ≤ (2 ^ 63 - 1) / 8 := by decide
    omega
  have hfit : ¬ (!Builtin.List.listFitsIndex k) = true := by
    rw [fitsIndex_both h1 h2]
    exact Bool.false_ne_true
  have hlong : ¬ Builtin.List.listTooLong (its.toArray.size * k.toNat) = true := by
    rw [notLongL hlen]
    exact Bool.false_ne_true
  have hnew : List.foldl (fun x1 x2 => x1 ++ x2) #[] (List.replicate (if its.toArray.isEmpty = true then 0 else k.toNat) its.toArray) = (List.replicate k.toNat its).flatten.toArray := by
    have f0 : ∀ m : Nat, List.foldl (fun x1 x2 => x1 ++ x2) #[] (List.replicate m its.toArray) = (List.replicate m its).flatten.toArray := fun m => by
      have := foldl_rep its m []
      rw [List.nil_append] at this
      exact this
    rw [f0]
    cases its with
    | nil => simp
    | cons a r' => rw [if_neg (by simp)]
  refine wpAny_binaryOp_repeat_ref (T := "list") (U := "int") (by decide) ⟨_, e, rfl⟩ (fun s' => typeIs_int s' k t) noFill_list_mul F.fills_int_mul F.slot_int_rmul repeat_list F.slot_int_index.lookup
    (call_meets F.slot_int_rmul (typeIs_int s k t) F.entry_int_rmul (F.args_int_rmul_2 _ _) (int___rmul___int_list k t l its.toArray n)
      ⟨e, rfl, ⟨_, e, rfl⟩, call_meets F.slot_list_mul ⟨_, e, rfl⟩ F.entry_list_mul (F.args_list_mul_2 _ _) (AutoListH.list___mul___list_int_3 l its.toArray n k t hfit hcap hlong) ⟨e, ?_⟩⟩)
  rw [hnew]
  exact ⟨.ref _, _, I.lnew (t' := s.toks) (r.rep k.toNat) (by rw [PyProof.Rows.lm_len_rep_flat, Nat.mul_comm]; exact hz), rfl, q _ I.fresh⟩
end

section
variable {X : Cx} {G : GD} {M : AS} {H : Hp}
theorem Sh.rd {v : V} {ds : List D} (h : Sh G M H v (.lst ds)) : ∃ p vs, v = .ref p ∧ Rd H p (.lst vs) ∧ DtA G (Hr H M) vs ds := by
  rcases h with h | ⟨p, e, h⟩
  · cases h with
    | lst a r => exact ⟨_, _, rfl, rd_le hr_sub a, r⟩
  · obtain ⟨vs, q, r⟩ := h
    exact ⟨p, vs, e, .inl q, r⟩
theorem NewV.int {i : Int} : NewV G M H (.int i) H (.int i) false := .old (.int i)
theorem flat_nil {α : Type} : ∀ n : Nat, (List.replicate n ([] : List α)).flatten = []
  | 0 => rfl
  | n + 1 => by rw [List.replicate_succ, List.flatten_cons, List.nil_append, flat_nil n]
theorem bop_ok (G : GD) (o : Bop) : ∃ r : R2, (∀ X : Cx, X.K = G.K → OpR X (binaryOp (bopOf o)) r) ∧
    ∀ (M : AS) (H : Hp) (x y : V) (a b z : D) (fr : Bool) (Q : VK), Sh G M H x a → Sh G M H y b → binD o a b = some (z, fr) → (∀ v H', NewV G M H v H' z fr → Q v H') → r x y H Q := by
  cases o with
  | add =>
    refine ⟨fun x y H Q => rI0 (fun i j => .int (i + j)) x y H Q ∨ (∃ i j : Str, x = .str i ∧ y = .str j ∧ i.length + j.length ≤ sizeLine ∧ Q (.str (i ++ j)) H) ∨ rCatA G.K x y H Q ∨ rCatR x y H Q, fun X hK => hK ▸ OpR.or op_add (OpR.or op_add_str (OpR.or op_catA op_catR)), fun M H x y a b z fr Q ha hb h q => ?_⟩
    cases a with
    | int i =>
      cases b with
      | int j =>
        obtain ⟨rfl, rfl⟩ := Prod.mk.inj (Option.some.inj (show some (D.int (i + j), false) = some (z, fr) from h))
        exact .inl ⟨i, j, ha.int, hb.int, q _ _ (.old (.int _))⟩
      | _ => cases h
    | str i =>
      cases b with
      | str j =>
        have h' : (if i.length + j.length ≤ sizeLine then some (D.str (i ++ j), false) else none) = some (z, fr) := h
        split at h'
        · rename_i c
          obtain ⟨rfl, rfl⟩ := Prod.mk.inj (Option.some.inj h')
          exact .inr (.inl ⟨i, j, ha.str, hb.str, c, q _ _ (.old (.str _))⟩)
        · cases h'
      | _ => cases h
    | tup as =>
      cases b with
      | tup bs =>
        have h' : (if as.length + bs.length ≤ sizeLine then some (D.tup (as ++ bs), false) else none) = some (z, fr) := h
        split at h'
        · rename_i c
          obtain ⟨rfl, rfl⟩ := Prod.mk.inj (Option.some.inj h')
          obtain ⟨p, vs, rfl, s1, r1⟩ := ha.tup
          obtain ⟨p2, ws, rfl, s2, r2⟩ := hb.tup
          refine .inr (.inr (.inl ⟨p, p2, vs, ws, rfl, rfl, s1, s2, by rw [r1.length, r2.length]; exact c, fun e => ?_, fun _ e => ?_, fun _ _ l hl => q _ _ (.tup hl (r1.append r2))⟩))
          · subst e
            cases r1
            rcases hb with hb | ⟨_, _, hb⟩
            · exact q _ _ (.old hb)
            · exact hb.elim
          · subst e
            cases r2
            rw [List.append_nil] at q
            rcases ha with ha | ⟨_, _, ha⟩
            · exact q _ _ (.old ha)
            · exact ha.elim
        · cases h'
      | _ => cases h
    | lst as =>
      cases b with
      | lst bs =>
        have h' : (if as.length + bs.length ≤ sizeLine then some (D.lst (as ++ bs), true) else none) = some (z, fr) := h
        split at h'
        · rename_i c
          obtain ⟨rfl, rfl⟩ := Prod.mk.inj (Option.some.inj h')
          obtain ⟨p, vs, rfl, s1, r1⟩ := ha.rd
          obtain ⟨p2, ws, rfl, s2, r2⟩ := hb.rd
          exact .inr (.inr (.inr ⟨p, p2, vs, ws, rfl, rfl, s1, s2, by rw [r1.length, r2.length]; exact c, fun l hl => q _ _ (.lst hl (r1.append r2))⟩))
        · cases h'
      | _ => cases h
    | _ => cases h
  | sub =>
    refine ⟨_, fun X _ => op_sub, fun M H x y a b z fr Q ha hb h q => ?_⟩
    cases a with
    | int i =>
      cases b with
      | int j =>
        obtain ⟨rfl, rfl⟩ := Prod.mk.inj (Option.some.inj (show some (D.int (i - j), false) = some (z, fr) from h))
        exact ⟨i, j, ha.int, hb.int, q _ _ (.old (.int _))⟩
      | _ => cases h
    | _ => cases h
  | mul =>
    refine ⟨fun x y H Q => rI L2.CMul (fun i j => .int (i * j)) x y H Q ∨ rRepT G.K x y H Q ∨ rRepT1 G.K x y H Q ∨ rRepR x y H Q, fun X hK => hK ▸ OpR.or op_mul (OpR.or op_repT (OpR.or op_repT1 op_repR)), fun M H x y a b z fr Q ha hb h q => ?_⟩
    cases a with
    | int i =>
      cases b with
      | int j =>
        have h' : (if CMul i j then some (D.int (i * j), false) else none) = some (z, fr) := h
        split at h'
        · rename_i c
          obtain ⟨rfl, rfl⟩ := Prod.mk.inj (Option.some.inj h')
          exact .inl ⟨i, j, ha.int, hb.int, c, q _ _ (.old (.int _))⟩
        · cases h'
      | _ => cases h
    | tup as =>
      cases b with
      | int k =>
        have h' : (if as.isEmpty = true ∧ -(2 ^ 63) ≤ k ∧ k < 2 ^ 63 ∨ 1 ≤ k ∧ k ≤ 1000 ∧ as.length ≤ 1000 then some (D.tup (List.replicate k.toNat as).flatten, false) else none) = some (z, fr) := h
        split at h'
        · rename_i c
          obtain ⟨rfl, rfl⟩ := Prod.mk.inj (Option.some.inj h')
          obtain ⟨p, vs, rfl, s1, r1⟩ := ha.tup
          have old : (vs = [] ∨ k = 1) → (List.replicate k.toNat as).flatten = as := fun z => by
            rcases z with z | z
            · subst z
              cases r1
              exact flat_nil _
            · subst z
              show (List.replicate 1 as).flatten = as
              rw [List.replicate_succ, List.replicate_zero, List.flatten_cons, List.flatten_nil, List.append_nil]
          by_cases c1 : vs = [] ∨ k = 1
          · refine .inr (.inr (.inl ⟨p, k, vs, rfl, hb.int, s1, ?_, ?_, c1, ?_⟩))
            · rcases c with c | c
              · exact c.2.1
              · omega
            · rcases c with c | c
              · exact c.2.2
              · omega
            · rw [old c1] at q
              rcases ha with ha | ⟨_, _, ha⟩
              · exact q _ _ (.old ha)
              · exact ha.elim
          · have c2 : vs ≠ [] := fun e => c1 (.inl e)
            have c3 : k ≠ 1 := fun e => c1 (.inr e)
            rcases c with c | c
            · exfalso
              apply c2
              have e : as = [] := List.isEmpty_iff.mp c.1
              subst e
              cases r1
              rfl
            · exact .inr (.inl ⟨p, k, vs, rfl, hb.int, s1, c2, by omega, c.2.1, by rw [r1.length]; exact c.2.2, fun l hl => q _ _ (.tup hl (r1.rep _))⟩)
        · cases h'
      | _ => cases h
    | lst as =>
      cases b with
      | int k =>
        have h' : (if -(2 ^ 63) ≤ k ∧ k < 2 ^ 63 ∧ as.length * k.toNat ≤ sizeLine then some (D.lst (List.replicate k.toNat as).flatten, true) else none) = some (z, fr) := h
        split at h'
        · rename_i c
          obtain ⟨rfl, rfl⟩ := Prod.mk.inj (Option.some.inj h')
          obtain ⟨p, vs, rfl, s1, r1⟩ := ha.rd
          exact .inr (.inr (.inr ⟨p, k, vs, rfl, hb.int, s1, c.1, c.2.1, by rw [r1.length]; exact c.2.2, fun l hl => q _ _ (.lst hl (r1.rep _))⟩))
        · cases h'
      | _ => cases h
    | _ => cases h
  | fdiv =>
    refine ⟨_, fun X _ => op_fdiv, fun M H x y a b z fr Q ha hb h q => ?_⟩
    cases a with
    | int i =>
      cases b with
      | int j =>
        have h' : (if 0 < j ∧ j < 1073741824 then some (D.int (i / j), false) else none) = some (z, fr) := h
        split at h'
        · rename_i c
          obtain ⟨rfl, rfl⟩ := Prod.mk.inj (Option.some.inj h')
          exact ⟨i, j, ha.int, hb.int, c, q _ _ (.old (.int _))⟩
        · cases h'
      | _ => cases h
    | _ => cases h
  | mod =>
    refine ⟨_, fun X _ => op_mod, fun M H x y a b z fr Q ha hb h q => ?_⟩
    cases a with
    | int i =>
      cases b with
      | int j =>
        have h' : (if 0 < j then some (D.int (i % j), false) else none) = some (z, fr) := h
        split at h'
        · rename_i c
          obtain ⟨rfl, rfl⟩ := Prod.mk.inj (Option.some.inj h')
          exact ⟨i, j, ha.int, hb.int, c, q _ _ (.old (.int _))⟩
        · cases h'
      | _ => cases h
    | _ => cases h
  | pow =>
    refine ⟨_, fun X _ => op_pow, fun M H x y a b z fr Q ha hb h q => ?_⟩
    cases a with
    | int i =>
      cases b with
      | int j =>
        have h' : (if 0 ≤ j ∧ j ≤ 1000000 ∧ i.natAbs < 2 ^ 64 then some (D.int (i ^ j.toNat), false) else none) = some (z, fr) := h
        split at h'
        · rename_i c
          obtain ⟨rfl, rfl⟩ := Prod.mk.inj (Option.some.inj h')
          exact ⟨i, j, ha.int, hb.int, c, q _ _ (.old (.int _))⟩
        · cases h'
      | _ => cases h
    | _ => cases h
end
end Mp

set_option maxRecDepth 100000
set_option maxHeartbeats 4000000
/-! Mp5: items, slices, built-ins, sound. -/
namespace Mp
open PySem PySem.Spec PyProof.Rows L2
section
variable {G : GD}
theorem ixN_eq : @Mp.ixN = @L2.ixN := rfl
theorem sIx_eq : @Mp.sIx = @HT.sIx := by
  funext n d o
  cases o <;> rfl
theorem ix_ok (G : GD) : ∃ r : R2, (∀ X : Cx, X.K = G.K → X.A.units + 65 < cLine → IxR X r) ∧ ∀ (M : AS) (H : Hp) (x y : V) (a b z : D) (Q : VK), Sh G M H x a → Sh G M H y b → idxD a b = some z → (∀ v, Dt G (Hr H M) v z → Q v H) → r x y H Q := by
  refine ⟨fun x y H Q => (rIxL G.K x y H Q ∨ rIxT G.K x y H Q) ∨ rIxN G x y H Q, fun X hK hu => IxR.or (hK ▸ IxR.or ix_list ix_tup) (ix_dct hK hu), fun M H x y a b z Q ha hb h q => ?_⟩
  have key : ∀ (vs : List V) (ds : List D) (i : Int), DtA G (Hr H M) vs ds → ((Mp.ixN ds.length i).bind fun j => ds[j]?) = some z → ∃ v, atI vs i = some v ∧ Dt G (Hr H M) v z := fun vs ds i r e => by
    unfold atI
    rw [r.length, ← ixN_eq]
    cases hj : Mp.ixN ds.length i with
    | none => rw [hj] at e; cases e
    | some j =>
      rw [hj] at e
      obtain ⟨v, h1, h2⟩ := r.get (show ds[j]? = some z from e)
      exact ⟨v, h1, h2⟩
  cases a with
  | tup ds =>
    cases b with
    | int i =>
      obtain ⟨p, vs, rfl, s1, r1⟩ := ha.tup
      obtain ⟨v, h1, h2⟩ := key vs ds i r1 h
      exact .inl (.inr ⟨p, vs, i, v, rfl, hb.int, s1, h1, q v h2⟩)
    | _ => cases h
  | lst ds =>
    cases b with
    | int i =>
      obtain ⟨p, vs, rfl, s1, r1⟩ := ha.lst
      obtain ⟨v, h1, h2⟩ := key vs ds i r1 h
      exact .inl (.inl ⟨p, vs, i, v, rfl, hb.int, s1, h1, q v h2⟩)
    | _ => cases h
  | scr ds =>
    cases b with
    | int i =>
      obtain ⟨p, vs, rfl, s1, r1⟩ := ha.scr
      obtain ⟨v, h1, h2⟩ := key vs ds i r1 h
      exact .inl (.inl ⟨p, vs, i, v, rfl, hb.int, s1, h1, q v h2⟩)
    | _ => cases h
  | dct kvs =>
    obtain ⟨kk, e1, e2⟩ := Option.bind_eq_some_iff.mp (show ((nk b).bind fun k => dGet kvs k) = some z from h)
    obtain ⟨p, xs, rfl, hp, hk, hr⟩ := ha.dct
    obtain ⟨v, h1, h2⟩ := dget_at hk.ks hr e2
    exact .inr ⟨p, xs, kvs, b, kk, v, rfl, hp, hk.le hr_sub, hb.dt, e1, h1, q v h2⟩
  | _ => cases h
theorem DtA.cut {H : Hp} {vs : List V} {ds : List D} (r : DtA G H vs ds) (lo hi : Option Int) : DtA G H (cutV vs lo hi) (cutD ds lo hi) := by
  unfold cutV cutD
  rw [r.length, sIx_eq]
  exact (r.drop _).take _
theorem sl_ok (G : GD) : ∃ r, (∀ X : Cx, X.K = G.K → SlR X r) ∧ ∀ (M : AS) (H : Hp) (x : V) (a z : D) (lo hi : Option Int) (fr : Bool) (Q : VK), Sh G M H x a → slD a lo hi = some (z, fr) → (∀ v H', NewV G M H v H' z fr → Q v H') → r x lo hi H Q := by
  refine ⟨fun x lo hi H Q => rSlL G.K x lo hi H Q ∨ rSlA G.K x lo hi H Q, fun X hK => hK ▸ SlR.or sl_list sl_tupA, fun M H x a z lo hi fr Q ha h q => ?_⟩
  cases a with
  | tup ds =>
    obtain ⟨rfl, rfl⟩ := Prod.mk.inj (Option.some.inj (show some (D.tup (cutD ds lo hi), false) = some (z, fr) from h))
    obtain ⟨p, vs, rfl, s1, r1⟩ := ha.tup
    refine .inr ⟨p, vs, rfl, s1, fun w => ?_, fun _ l hl => q _ _ (.tup hl (r1.cut lo hi))⟩
    have e : cutD ds lo hi = ds := by
      unfold cutD
      rw [sIx_eq, ← r1.length, w.1, w.2, List.drop_zero, Nat.sub_zero, r1.length, List.take_length]
    rw [e] at q
    rcases ha with ha | ⟨_, _, ha⟩
    · exact q _ _ (.old ha)
    · exact ha.elim
  | lst ds =>
    obtain ⟨rfl, rfl⟩ := Prod.mk.inj (Option.some.inj (show some (D.lst (cutD ds lo hi), true) = some (z, fr) from h))
    obtain ⟨p, vs, rfl, s1, r1⟩ := ha.lst
    exact .inl ⟨p, vs, rfl, s1, fun l hl => q _ _ (.lst hl (r1.cut lo hi))⟩
  | scr ds =>
    obtain ⟨rfl, rfl⟩ := Prod.mk.inj (Option.some.inj (show some (D.lst (cutD ds lo hi), true) = some (z, fr) from h))
    obtain ⟨p, vs, rfl, s1, r1⟩ := ha.scr
    exact .inl ⟨p, vs, rfl, s1, fun l hl => q _ _ (.lst hl (r1.cut lo hi))⟩
  | _ => cases h

/-! ### built-ins -/
def bltV : Blt → String × Value
  | .len => ("len", .builtin "len") | .dict => ("dict", .type "dict") | .tuple => ("tuple", .type "tuple") | .list => ("list", .type "list") | .sorted => ("sorted", .builtin "sorted")
  | .min => ("min", .builtin "min") | .max => ("max", .builtin "max") | .int => ("int", .type "int") | .abs => ("abs", .builtin "abs") | .divmod => ("divmod", .builtin "divmod")
  | .sum => ("sum", .builtin "sum") | .all => ("all", .builtin "all") | .any => ("any", .builtin "any") | .isinst _ => ("isinstance", .builtin "isinstance")
def bltOk (G : GD) (b : Blt) (r : List V → Hp → VK → Prop) : Prop :=
  ∀ (M : AS) (H : Hp) (vs : List V) (ds : List D) (z : D) (fr : Bool) (Q : VK), ShA G M H vs ds → bltD b ds = some (z, fr) → (∀ v H', NewV G M H v H' z fr → Q v H') → r vs H Q
theorem ShA.one {M : AS} {H : Hp} {vs : List V} {d : D} (h : ShA G M H vs [d]) : ∃ v, vs = [v] ∧ Sh G M H v d := by
  cases h with
  | cons a r => cases r; exact ⟨_, rfl, a⟩
theorem ShA.two {M : AS} {H : Hp} {vs : List V} {d e : D} (h : ShA G M H vs [d, e]) : ∃ v w, vs = [v, w] ∧ Sh G M H v d ∧ Sh G M H w e := by
  cases h with
  | cons a r =>
    cases r with
    | cons b r => cases r; exact ⟨_, _, rfl, a, b⟩
theorem ints_of {H : Hp} : ∀ {ds : List D} {vs : List V} {ns : List Int}, DtA G H vs ds → intsOf ds = some ns → vs = ns.map V.int
  | [], _, ns, .nil, e => by cases e; rfl
  | d :: ds, _, ns, .cons h r, e => by
    cases d with
    | int i =>
      cases q : intsOf ds with
      | none => rw [intsOf, q] at e; cases e
      | some ms =>
        rw [intsOf, q] at e
        cases e
        cases h
        rw [ints_of r q]
        rfl
    | _ => cases e
theorem bols_of {H : Hp} : ∀ {ds : List D} {vs : List V} {ns : List Bool}, DtA G H vs ds → bolsOf ds = some ns → vs = ns.map V.bl
  | [], _, ns, .nil, e => by cases e; rfl
  | d :: ds, _, ns, .cons h r, e => by
    cases d with
    | bl i =>
      cases q : bolsOf ds with
      | none => rw [bolsOf, q] at e; cases e
      | some ms =>
        rw [bolsOf, q] at e
        cases e
        cases h
        rw [bols_of r q]
        rfl
    | _ => cases e
theorem one_of {α : Type} {f : List D → Option α} {ds : List D} {z : α} (h : f ds = some z) (h0 : f [] = none) (h2 : ∀ a b r, f (a :: b :: r) = none) : ∃ d, ds = [d] ∧ f [d] = some z := by
  match ds with
  | [] => rw [h0] at h; cases h
  | [d] => exact ⟨d, rfl, h⟩
  | a :: b :: r => rw [h2] at h; cases h
theorem blt_len (G : GD) : ∃ r, (∀ X : Cx, X.K = G.K → X.calm = true → CallR X (.builtin "len") r) ∧ bltOk G .len r := by
  refine ⟨fun xs H Q => (∃ p ys, xs = [.ref p] ∧ (SqL G.K H p ys ∨ SqT G.K H p ys) ∧ Q (.int (ys.length : Nat)) H) ∨ rLenN G xs H Q, fun X hK hc pins s σ H xs us Q I r h => ?_, fun M H vs ds z fr Q hs h q => ?_⟩
  · rcases h with h | h
    · exact call_len_seq pins s σ H xs us Q I r (by rw [hK]; exact h)
    · exact cr_lenN hK pins s σ H xs us Q I r h
  obtain ⟨d, rfl, h⟩ := one_of h rfl fun a b r => by cases a <;> rfl
  obtain ⟨v, rfl, ha⟩ := hs.one
  cases d with
  | tup ds =>
    obtain ⟨rfl, rfl⟩ := Prod.mk.inj (Option.some.inj (show some (D.int ds.length, false) = some (z, fr) from h))
    obtain ⟨p, vs, rfl, s1, r1⟩ := ha.tup
    exact .inl ⟨p, vs, rfl, .inr (s1), by rw [r1.length]; exact q _ _ (.old (.int _))⟩
  | lst ds =>
    obtain ⟨rfl, rfl⟩ := Prod.mk.inj (Option.some.inj (show some (D.int ds.length, false) = some (z, fr) from h))
    obtain ⟨p, vs, rfl, s1, r1⟩ := ha.lst
    exact .inl ⟨p, vs, rfl, .inl (s1), by rw [r1.length]; exact q _ _ (.old (.int _))⟩
  | scr ds =>
    obtain ⟨rfl, rfl⟩ := Prod.mk.inj (Option.some.inj (show some (D.int ds.length, false) = some (z, fr) from h))
    obtain ⟨p, vs, rfl, s1, r1⟩ := ha.scr
    exact .inl ⟨p, vs, rfl, .inl (s1), by rw [r1.length]; exact q _ _ (.old (.int _))⟩
  | dct kvs =>
    obtain ⟨rfl, rfl⟩ := Prod.mk.inj (Option.some.inj (show some (D.int kvs.length, false) = some (z, fr) from h))
    obtain ⟨p, xs, rfl, hp, hk, hr⟩ := ha.dct
    have e : xs.length = kvs.length := by simpa using (congrArg List.length hk.ks).symm
    exact .inr ⟨p, xs, kvs, rfl, hp, hk.le hr_sub, by rw [e]; exact q _ _ (.old (.int _))⟩
  | _ => cases h
theorem blt_tuple (G : GD) : ∃ r, (∀ X : Cx, X.K = G.K → X.calm = true → CallR X (.type "tuple") r) ∧ bltOk G .tuple r := by
  refine ⟨fun xs H Q => ∃ p ys, xs = [.ref p] ∧ ((SqL G.K H p ys ∧ ∀ l, H l = none → Q (.ref l) (upd H l (.tup ys))) ∨ (SqT G.K H p ys ∧ Q (.ref p) H)), fun X hK hc => hK ▸ call_tuple_of, fun M H vs ds z fr Q hs h q => ?_⟩
  obtain ⟨d, rfl, h⟩ := one_of h rfl fun a b r => by cases a <;> rfl
  obtain ⟨v, rfl, ha⟩ := hs.one
  cases d with
  | tup ds =>
    obtain ⟨rfl, rfl⟩ := Prod.mk.inj (Option.some.inj (show some (D.tup ds, false) = some (z, fr) from h))
    obtain ⟨p, vs, rfl, s1, r1⟩ := ha.tup
    refine ⟨p, vs, rfl, .inr ⟨s1, ?_⟩⟩
    rcases ha with ha | ⟨_, _, ha⟩
    · exact q _ _ (.old ha)
    · exact ha.elim
  | lst ds =>
    obtain ⟨rfl, rfl⟩ := Prod.mk.inj (Option.some.inj (show some (D.tup ds, false) = some (z, fr) from h))
    obtain ⟨p, vs, rfl, s1, r1⟩ := ha.lst
    exact ⟨p, vs, rfl, .inl ⟨s1, fun l hl => q _ _ (.tup hl r1)⟩⟩
  | _ => cases h
theorem blt_list (G : GD) : ∃ r, (∀ X : Cx, X.K = G.K → X.calm = true → CallR X (.type "list") r) ∧ bltOk G .list r := by
  refine ⟨fun xs H Q => (∃ p ys, xs = [.ref p] ∧ (SqL G.K H p ys ∨ SqT G.K H p ys) ∧ ∀ l, H l = none → Q (.ref l) (upd H l (.lst ys))) ∨ rListN G xs H Q, fun X hK hc pins s σ H xs us Q I r h => ?_, fun M H vs ds z fr Q hs h q => ?_⟩
  · rcases h with h | h
    · exact call_list_of pins s σ H xs us Q I r (by rw [hK]; exact h)
    · exact cr_listN hc hK pins s σ H xs us Q I r h
  obtain ⟨d, rfl, h⟩ := one_of h rfl fun a b r => by cases a <;> rfl
  obtain ⟨v, rfl, ha⟩ := hs.one
  cases d with
  | tup ds =>
    obtain ⟨rfl, rfl⟩ := Prod.mk.inj (Option.some.inj (show some (D.lst ds, true) = some (z, fr) from h))
    obtain ⟨p, vs, rfl, s1, r1⟩ := ha.tup
    exact .inl ⟨p, vs, rfl, .inr (s1), fun l hl => q _ _ (.lst hl r1)⟩
  | lst ds =>
    obtain ⟨rfl, rfl⟩ := Prod.mk.inj (Option.some.inj (show some (D.lst ds, true) = some (z, fr) from h))
    obtain ⟨p, vs, rfl, s1, r1⟩ := ha.lst
    exact .inl ⟨p, vs, rfl, .inl (s1), fun l hl => q _ _ (.lst hl r1)⟩
  | dct kvs =>
    obtain ⟨rfl, rfl⟩ := Prod.mk.inj (Option.some.inj (show some (D.lst (kvs.map (·.1)), true) = some (z, fr) from h))
    obtain ⟨p, xs, rfl, hp, hk, hr⟩ := ha.dct
    exact .inr ⟨p, xs, kvs, rfl, hp, hk.le hr_sub, fun l hl => q _ _ (.lst hl hk.rk)⟩
  | _ => cases h
theorem blt_int (G : GD) : ∃ r, (∀ X : Cx, X.K = G.K → X.calm = true → CallR X (.type "int") r) ∧ bltOk G .int r := by
  refine ⟨_, fun X _ _ => call_int1, fun M H vs ds z fr Q hs h q => ?_⟩
  obtain ⟨d, rfl, h⟩ := one_of h rfl fun a b r => by cases a <;> rfl
  obtain ⟨v, rfl, ha⟩ := hs.one
  cases d with
  | int i =>
    obtain ⟨rfl, rfl⟩ := Prod.mk.inj (Option.some.inj (show some (D.int i, false) = some (z, fr) from h))
    exact .inl ⟨i, by rw [ha.int], q _ _ (.old (.int _))⟩
  | bl k =>
    obtain ⟨rfl, rfl⟩ := Prod.mk.inj (Option.some.inj (show some (D.int (if k then 1 else 0), false) = some (z, fr) from h))
    exact .inr ⟨k, by rw [ha.bl], q _ _ (.old (.int _))⟩
  | _ => cases h
theorem blt_abs (G : GD) : ∃ r, (∀ X : Cx, X.K = G.K → X.calm = true → CallR X (.builtin "abs") r) ∧ bltOk G .abs r := by
  refine ⟨_, fun X _ _ => call_abs, fun M H vs ds z fr Q hs h q => ?_⟩
  obtain ⟨d, rfl, h⟩ := one_of h rfl fun a b r => by cases a <;> rfl
  obtain ⟨v, rfl, ha⟩ := hs.one
  cases d with
  | int i =>
    obtain ⟨rfl, rfl⟩ := Prod.mk.inj (Option.some.inj (show some (D.int (if i < 0 then -i else i), false) = some (z, fr) from h))
    exact ⟨i, by rw [ha.int], q _ _ (.old (.int _))⟩
  | _ => cases h

theorem two_of {α : Type} {f : List D → Option α} {ds : List D} {z : α} (h : f ds = some z) (h0 : f [] = none) (h1 : ∀ a, f [a] = none) (h2 : ∀ a b c r, f (a :: b :: c :: r) = none) : ∃ d e, ds = [d, e] ∧ f [d, e] = some z := by
  match ds with
  | [] => rw [h0] at h; cases h
  | [d] => rw [h1] at h; cases h
  | [d, e] => exact ⟨d, e, rfl, h⟩
  | a :: b :: c :: r => rw [h2] at h; cases h
theorem blt_divmod (G : GD) : ∃ r, (∀ X : Cx, X.K = G.K → X.calm = true → CallR X (.builtin "divmod") r) ∧ bltOk G .divmod r := by
  refine ⟨_, fun X _ _ => call_divmod, fun M H vs ds z fr Q hs h q => ?_⟩
  obtain ⟨d, e, rfl, h⟩ := two_of h rfl (fun a => by cases a <;> rfl) fun a b c r => by cases a <;> first | rfl | (cases b <;> rfl)
  obtain ⟨v, w, rfl, ha, hb⟩ := hs.two
  cases d with
  | int i =>
    cases e with
    | int j =>
      have h' : (if 0 < j ∧ j < 1073741824 then some (D.tup [.int (i / j), .int (i % j)], false) else none) = some (z, fr) := h
      split at h'
      · rename_i c
        obtain ⟨rfl, rfl⟩ := Prod.mk.inj (Option.some.inj h')
        exact ⟨i, j, by rw [ha.int, hb.int], c, fun p hp => q _ _ (.tup hp (.cons (.int _) (.cons (.int _) .nil)))⟩
      · cases h'
    | _ => cases h
  | _ => cases h
theorem blt_sum (G : GD) : ∃ r, (∀ X : Cx, X.K = G.K → X.calm = true → CallR X (.builtin "sum") r) ∧ bltOk G .sum r := by
  refine ⟨rSum G.K, fun X hK hc => hK ▸ cr_sum hc, fun M H vs ds z fr Q hs h q => ?_⟩
  obtain ⟨d, rfl, h⟩ := one_of h rfl fun a b r => by cases a <;> rfl
  obtain ⟨v, rfl, ha⟩ := hs.one
  cases d with
  | lst ds =>
    have h' : (intsOf ds).map (fun ns => (D.int ns.sum, false)) = some (z, fr) := h
    cases e : intsOf ds with
    | none => rw [e] at h'; cases h'
    | some ns =>
      rw [e] at h'
      obtain ⟨rfl, rfl⟩ := Prod.mk.inj (Option.some.inj h')
      obtain ⟨p, vs, rfl, s1, r1⟩ := ha.lst
      have e2 := ints_of r1 e
      subst e2
      exact ⟨p, ns, rfl, s1, q _ _ (.old (.int _))⟩
  | _ => cases h
theorem blt_all (G : GD) : ∃ r, (∀ X : Cx, X.K = G.K → X.calm = true → CallR X (.builtin "all") r) ∧ bltOk G .all r := by
  refine ⟨rAll G.K, fun X hK hc => hK ▸ cr_all hc, fun M H vs ds z fr Q hs h q => ?_⟩
  obtain ⟨d, rfl, h⟩ := one_of h rfl fun a b r => by cases a <;> rfl
  obtain ⟨v, rfl, ha⟩ := hs.one
  cases d with
  | lst ds =>
    have h' : (bolsOf ds).map (fun ns => (D.bl (ns.all id), false)) = some (z, fr) := h
    cases e : bolsOf ds with
    | none => rw [e] at h'; cases h'
    | some ns =>
      rw [e] at h'
      obtain ⟨rfl, rfl⟩ := Prod.mk.inj (Option.some.inj h')
      obtain ⟨p, vs, rfl, s1, r1⟩ := ha.lst
      have e2 := bols_of r1 e
      subst e2
      exact ⟨p, ns, rfl, s1, q _ _ (.old (.bl _))⟩
  | _ => cases h
theorem blt_any (G : GD) : ∃ r, (∀ X : Cx, X.K = G.K → X.calm = true → CallR X (.builtin "any") r) ∧ bltOk G .any r := by
  refine ⟨rAny G.K, fun X hK hc => hK ▸ cr_any hc, fun M H vs ds z fr Q hs h q => ?_⟩
  obtain ⟨d, rfl, h⟩ := one_of h rfl fun a b r => by cases a <;> rfl
  obtain ⟨v, rfl, ha⟩ := hs.one
  cases d with
  | lst ds =>
    have h' : (bolsOf ds).map (fun ns => (D.bl (ns.any id), false)) = some (z, fr) := h
    cases e : bolsOf ds with
    | none => rw [e] at h'; cases h'
    | some ns =>
      rw [e] at h'
      obtain ⟨rfl, rfl⟩ := Prod.mk.inj (Option.some.inj h')
      obtain ⟨p, vs, rfl, s1, r1⟩ := ha.lst
      have e2 := bols_of r1 e
      subst e2
      exact ⟨p, ns, rfl, s1, q _ _ (.old (.bl _))⟩
  | _ => cases h
/-- isinstance(x, T), T the t-th of int, bool, str, tuple, list -/
def tyName : Nat → String
  | 0 => "int" | 1 => "bool" | 2 => "str" | 3 => "tuple" | _ => "list"
theorem kit_all : ∀ t, t < 5 → ∀ i, i < 6 → kitB (dTyN i) (tyName t) = some (isinT t i) := by decide +kernel
theorem Sh.ty {M : AS} {H : Hp} {v : V} {d : D} (h : Sh G M H v d) (n : tyIx d < 6) : TyX G.K H v (.type (dTyN (tyIx d))) := by
  cases d with
  | non => rw [h.non]; exact .base .non
  | bl b => rw [h.bl]; exact .base (.bl b)
  | int b => rw [h.int]; exact .base (.int b)
  | str b => rw [h.str]; exact .base (.str b)
  | tup ds =>
    obtain ⟨p, vs, rfl, s1, r1⟩ := h.tup
    rcases s1 with (s1 | ⟨o, s1⟩) | ⟨o, its, k, s1, s2, _⟩
    · exact .base (.tup s1)
    · exact .fTuple s1
    · exact .kTuple s1 s2
  | lst ds =>
    obtain ⟨p, vs, rfl, s1, r1⟩ := h.rd
    rcases s1 with s1 | ⟨o, s1⟩
    · exact .base (.lst s1)
    · exact .base (.frz s1)
  | _ => exact absurd n (by show ¬ (6 < 6); decide)
theorem isin_ok (G : GD) (t : Nat) : ∃ r, (∀ X : Cx, X.K = G.K → CallR X (.builtin "isinstance") r) ∧ ∀ (M : AS) (H : Hp) (v : V) (d z : D) (fr : Bool) (Q : VK), t < 5 → Sh G M H v d → bltD (.isinst t) [d] = some (z, fr) → (∀ v H', NewV G M H v H' z fr → Q v H') → r [v, .ty (tyName t)] H Q := by
  refine ⟨rIsi G.K, fun X hK => hK ▸ call_isi, fun M H v d z fr Q ht ha h q => ?_⟩
  have h' : (isinD t d).map (fun b => (D.bl b, false)) = some (z, fr) := h
  cases e : isinD t d with
  | none => rw [e] at h'; cases h'
  | some k =>
    rw [e] at h'
    obtain ⟨rfl, rfl⟩ := Prod.mk.inj (Option.some.inj h')
    unfold isinD at e
    split at e
    · rename_i c
      have e2 := Option.some.inj e
      exact ⟨v, .ty (tyName t), _, _, k, rfl, .ty _, ha.ty c.2, kit_ty (by rw [kit_all t c.1 _ c.2, e2]), q _ _ (.old (.bl _))⟩
    · cases e
theorem pairs_ofD {H : Hp} : ∀ {vs : List V} {ds : List D}, DtA G H vs ds → ∃ ps : List (V × D), ps.map (·.1) = vs ∧ ps.map (·.2) = ds ∧ ∀ q ∈ ps, Dt G H q.1 q.2
  | _, _, .nil => ⟨[], rfl, rfl, fun q h => by cases h⟩
  | _, _, .cons (v := v) (d := d) h r => by
    obtain ⟨ps, h1, h2, h3⟩ := pairs_ofD r
    refine ⟨(v, d) :: ps, by rw [List.map_cons, h1], by rw [List.map_cons, h2], fun q hq => ?_⟩
    rcases List.mem_cons.mp hq with rfl | hq
    · exact h
    · exact h3 q hq
theorem best_d (mx : Bool) : ∀ (r : List (V × D)) (x : V × D), (bestP mx x r).2 = (r.map (·.2)).foldl (fun a y => if (if mx = true then PySem.W.dataLt a.toP y.toP else PySem.W.dataLt y.toP a.toP) = true then y else a) x.2
  | [], x => rfl
  | y :: r, x => by
    show (bestP mx (if (if mx = true then PySem.W.dataLt x.2.toP y.2.toP else PySem.W.dataLt y.2.toP x.2.toP) = true then y else x) r).2 = _
    rw [best_d mx r]
    show _ = (r.map (·.2)).foldl _ (if (if mx = true then PySem.W.dataLt x.2.toP y.2.toP else PySem.W.dataLt y.2.toP x.2.toP) = true then y.2 else x.2)
    congr 1
    split <;> split <;> rfl
theorem best_mem (mx : Bool) : ∀ (r : List (V × D)) (x : V × D), bestP mx x r ∈ x :: r
  | [], x => List.mem_cons_self
  | y :: r, x => by
    have h := best_mem mx r (if (if mx = true then PySem.W.dataLt x.2.toP y.2.toP else PySem.W.dataLt y.2.toP x.2.toP) = true then y else x)
    show bestP mx _ r ∈ _
    rcases List.mem_cons.mp h with e | e
    · rw [e]
      by_cases c : (if mx = true then PySem.W.dataLt x.2.toP y.2.toP else PySem.W.dataLt y.2.toP x.2.toP) = true
      · rw [if_pos c]
        exact List.mem_cons_of_mem _ List.mem_cons_self
      · rw [if_neg c]
        exact List.mem_cons_self
    · exact List.mem_cons_of_mem _ (List.mem_cons_of_mem _ e)
theorem best_ok {M : AS} {H : Hp} {v : V} {ds : List D} {z : D} {Q : VK} (mx : Bool) (hb : Sh G M H v (.lst ds)) (h : (if mx = true then maxL ds else minL ds) = some z) (q : ∀ v, Dt G (Hr H M) v z → Q v H) : rBest G.K mx [v] H Q := by
  obtain ⟨p, vs, rfl, s1, r1⟩ := hb.lst
  obtain ⟨ps, rfl, rfl, hp⟩ := pairs_ofD r1
  cases ps with
  | nil => cases mx <;> cases h
  | cons x r =>
    have hc : minOk ((x :: r).map (·.2)) = true ∧ (bestP mx x r).2 = z := by
      rw [best_d]
      cases mx with
      | true =>
        have h' : (if minOk ((x :: r).map (·.2)) = true then some ((r.map (·.2)).foldl (fun a y => if PySem.W.dataLt a.toP y.toP = true then y else a) x.2) else none) = some z := h
        split at h'
        · rename_i c
          exact ⟨c, Option.some.inj h'⟩
        · cases h'
      | false =>
        have h' : (if minOk ((x :: r).map (·.2)) = true then some ((r.map (·.2)).foldl (fun a y => if PySem.W.dataLt y.toP a.toP = true then y else a) x.2) else none) = some z := h
        split at h'
        · rename_i c
          exact ⟨c, Option.some.inj h'⟩
        · cases h'
    obtain ⟨c, e⟩ := hc
    obtain ⟨c1, c2⟩ := Bool.and_eq_true_iff.mp c
    have hall : ∀ q ∈ x :: r, q.2.ok = true ∧ q.2.isNon = false ∧ q.2.toP.depth ≤ 60 := fun q hq => by
      have := List.all_eq_true.mp c1 q.2 (List.mem_map_of_mem hq)
      obtain ⟨a1, a2⟩ := Bool.and_eq_true_iff.mp this
      obtain ⟨a2, a3⟩ := Bool.and_eq_true_iff.mp a2
      exact ⟨a1, by simpa using a2, of_decide_eq_true a3⟩
    refine ⟨p, x, r, rfl, s1, fun q hq => dp_of ((hp q hq).le hr_sub) (hall q hq).1, ⟨fun a ha b hb => ?_, fun a ha => ?_⟩, fun q hq => (hall q hq).2.2, ?_⟩
    · obtain ⟨q, hq, rfl⟩ := List.mem_map.mp ha
      obtain ⟨r', hr, rfl⟩ := List.mem_map.mp hb
      exact List.all_eq_true.mp (List.all_eq_true.mp c2 q.2 (List.mem_map_of_mem hq)) r'.2 (List.mem_map_of_mem hr)
    · obtain ⟨q, hq, rfl⟩ := List.mem_map.mp ha
      exact toP_none (hall q hq).2.1 (hall q hq).1
    · refine q _ ?_
      rw [← e]
      exact hp _ (best_mem mx r x)
theorem blt_max (G : GD) : ∃ r, (∀ X : Cx, X.K = G.K → X.calm = true → X.A.units + 65 < cLine → CallR X (.builtin "max") r) ∧ bltOk G .max r := by
  refine ⟨fun xs H Q => (∃ i j, xs = [.int i, .int j] ∧ Q (.int (if j > i then j else i)) H) ∨ rBest G.K true xs H Q, fun X hK hc hu pins s σ H xs us Q I r h => ?_, fun M H vs ds z fr Q hs h q => ?_⟩
  · rcases h with h | h
    · exact call_max2 hc pins s σ H xs us Q I r h
    · exact cr_max hc hu pins s σ H xs us Q I r (by rw [hK]; exact h)
  · rcases ds with _ | ⟨d, _ | ⟨e, _ | ⟨f, r⟩⟩⟩
    · cases h
    · cases d with
      | lst xs =>
        obtain ⟨v, rfl, ha⟩ := hs.one
        obtain ⟨z', e1, e2⟩ := Option.map_eq_some_iff.mp (show (maxL xs).map (fun d => (d, false)) = some (z, fr) from h)
        cases e2
        exact .inr (best_ok true ha (by simpa using e1) fun v hv => q v H (.old hv))
      | _ => cases h
    · obtain ⟨v, w, rfl, ha, hb⟩ := hs.two
      cases d with
      | int i =>
        cases e with
        | int j =>
          obtain ⟨rfl, rfl⟩ := Prod.mk.inj (Option.some.inj (show some (D.int (if j > i then j else i), false) = some (z, fr) from h))
          exact .inl ⟨i, j, by rw [ha.int, hb.int], q _ _ (.old (.int _))⟩
        | _ => cases h
      | _ => cases h
    · cases d <;> first | (cases h; done) | (cases e <;> cases h)
theorem blt_min (G : GD) : ∃ r, (∀ X : Cx, X.K = G.K → X.calm = true → X.A.units + 65 < cLine → CallR X (.builtin "min") r) ∧ bltOk G .min r := by
  refine ⟨fun xs H Q => (∃ i j, xs = [.int i, .int j] ∧ Q (.int (if j < i then j else i)) H) ∨ rBest G.K false xs H Q, fun X hK hc hu pins s σ H xs us Q I r h => ?_, fun M H vs ds z fr Q hs h q => ?_⟩
  · rcases h with h | h
    · exact call_min2 hc pins s σ H xs us Q I r h
    · exact cr_min hc hu pins s σ H xs us Q I r (by rw [hK]; exact h)
  · rcases ds with _ | ⟨d, _ | ⟨e, _ | ⟨f, r⟩⟩⟩
    · cases h
    · cases d with
      | lst xs =>
        obtain ⟨v, rfl, ha⟩ := hs.one
        obtain ⟨z', e1, e2⟩ := Option.map_eq_some_iff.mp (show (minL xs).map (fun d => (d, false)) = some (z, fr) from h)
        cases e2
        exact .inr (best_ok false ha (by simpa using e1) fun v hv => q v H (.old hv))
      | _ => cases h
    · obtain ⟨v, w, rfl, ha, hb⟩ := hs.two
      cases d with
      | int i =>
        cases e with
        | int j =>
          obtain ⟨rfl, rfl⟩ := Prod.mk.inj (Option.some.inj (show some (D.int (if j < i then j else i), false) = some (z, fr) from h))
          exact .inl ⟨i, j, by rw [ha.int, hb.int], q _ _ (.old (.int _))⟩
        | _ => cases h
      | _ => cases h
    · cases d <;> first | (cases h; done) | (cases e <;> cases h)
/-- dict(pairs) -/
theorem prs_of {M : AS} {H : Hp} : ∀ {ds : List D} {ws : List V} {xs : List (NestedKey × Addr × V)} {kvs kvs' : List (D × D)}, DtA G (Hr H M) ws ds → NdK G (Hr H M) xs kvs → DtA G (Hr H M) (xs.map xVal) (kvs.map (·.2)) → dOf kvs ds = some kvs' →
    ∃ ps, PrsV G H ws ps ∧ NdK G (Hr H M) (putAll xs ps) kvs' ∧ DtA G (Hr H M) ((putAll xs ps).map xVal) (kvs'.map (·.2))
  | [], _, xs, kvs, kvs', .nil, k, r, h => by
    cases h
    exact ⟨[], .nil, k, r⟩
  | d :: ds, _, xs, kvs, kvs', .cons a t, k, r, h => by
    cases d with
    | tup ys =>
      rcases ys with _ | ⟨kd, _ | ⟨vd, _ | ⟨f, ys⟩⟩⟩
      · cases h
      · cases h
      · obtain ⟨kk, e1, h⟩ := Option.bind_eq_some_iff.mp (show ((nk kd).bind fun k => dOf (dPut kvs kd k vd) ds) = some kvs' from h)
        cases a with
        | tup q rr =>
          cases rr with
          | cons ra rb =>
            cases rb with
            | cons rb rc =>
              cases rc
              obtain ⟨b, rfl⟩ := nk_ref ra e1
              obtain ⟨k2, r2⟩ := dput_at k r ra e1 rb
              obtain ⟨ps, h1, h2, h3⟩ := prs_of t k2 r2 h
              exact ⟨(kk, b, _) :: ps, .cons (sqt_le hr_sub q) (ra.le hr_sub) e1 h1, h2, h3⟩
      · cases h
    | _ => cases h
theorem blt_dict (G : GD) : ∃ r, (∀ X : Cx, X.K = G.K → X.calm = true → X.A.units + 65 < cLine → CallR X (.type "dict") r) ∧ bltOk G .dict r := by
  refine ⟨rDictP G, fun X hK hc hu => cr_dictP hc hK hu, fun M H vs ds z fr Q hs h q => ?_⟩
  obtain ⟨d, rfl, h⟩ := one_of h rfl fun a b r => by cases a <;> rfl
  obtain ⟨v, rfl, ha⟩ := hs.one
  cases d with
  | lst ds =>
    obtain ⟨kvs, e1, e2⟩ := Option.map_eq_some_iff.mp (show (dOf [] ds).map (fun kvs => (D.dct kvs, true)) = some (z, fr) from h)
    cases e2
    obtain ⟨p, ws, rfl, s1, r1⟩ := ha.lst
    obtain ⟨ps, h1, h2, h3⟩ := prs_of (xs := []) (kvs := []) r1 ⟨rfl, List.nodup_nil, .nil⟩ .nil e1
    exact ⟨p, ws, ps, rfl, s1, h1, fun l hl => q _ _ (.dct hl h2 h3)⟩
  | _ => cases h
end
end Mp

set_option maxRecDepth 100000
set_option maxHeartbeats 4000000
/-! Mq5: sorted. -/
namespace Mp
open PySem PySem.Spec PyProof.Rows L2
open PySem.W (AllAlike Sortable dataLe)
section
variable {prog : Program} {w : World} {A : Around} {E : Value → Shared → Prop} {s : Shared}
/-- the items of a tuple, taken for sorting -/
theorem collect_tup {l : Addr} {vs : List Value} {Q : List Value → Shared → Prop} (hl : s.heap.IsTuple l vs.toArray) (hsz : vs.length ≤ sizeLine)
    (h : Q vs { s with heap := (s.heap.push (seqObj "list" #[] 0)).update s.heap.objs.size (Obj.mapSeq (· ++ vs.toArray)) }) : wpAny (model prog w) A (collect (.ref l)) Q E s := by
  obtain ⟨o, ho, hc, n, hd⟩ := hl
  have ho' : (s.heap.push (seqObj "list" #[] 0)).get? l = some o := Heap.get?_push_of_some _ ho
  have new : (s.heap.push (seqObj "list" #[] 0)).get? s.heap.objs.size = some (seqObj "list" #[] 0) := Heap.get?_push_size _ rfl
  unfold collect
  refine wpAny_bind (wpAny_runValue (codeAny_builtin entry_proto_collect' ?_))
  show wpAny _ _ (do again (.builtin "list.__iadd__" ⟨[← newList [], .ref l], []⟩)) _ _ s
  refine wpAny_bind (wpAny_newList (wpAny_pure ⟨Code.quiet_builtin _ (by decide +kernel), codeAny_builtin entry_list_iadd' ?_⟩))
  show wpAny _ _ (Builtin.List.listExtendWith (.ref s.heap.objs.size) (.ref l) (.ref s.heap.objs.size)) _ _ { s with heap := s.heap.push (seqObj "list" #[] 0) }
  unfold Builtin.List.listExtendWith
  refine wpAny_bind (wpAny_typeOf (T := "tuple") ⟨o, ho', hc⟩ ?_)
  have ht : (Value.type "tuple" == Value.type "tuple") = true := by rfl
  rw [if_pos (by rw [ht]; simp)]
  refine wpAny_bind (listItems_at ho' hd ?_)
  refine wpAny_bind (listItems_at new rfl ?_)
  rw [if_neg (by simp)]
  refine wpAny_bind (listUpdate_at new rfl ?_ (Nat.zero_le _) (by show (#[] ++ vs.toArray).size ≤ sizeLine + 1; simp only [Array.size_append, List.size_toArray, List.length_nil]; omega))
  refine wpAny_pure ?_
  show wpAny (model prog w) A (do
      let o ← load s.heap.objs.size
      match o.data with
      | .seq xs _ => pure xs.toList
      | _ => unsupported "internal:collect") Q E { s with heap := (s.heap.push (seqObj "list" #[] 0)).update s.heap.objs.size (Obj.mapSeq (· ++ vs.toArray)) }
  refine wpAny_bind (wpAny_load (get?_update_seq new _) ?_)
  show wpAny _ _ (pure ((#[] : Array Value) ++ vs.toArray).toList) Q E _
  have e : ((#[] : Array Value) ++ vs.toArray).toList = vs := by simp
  rw [e]
  exact wpAny_pure h
/-- sorted(t), t a tuple -/
theorem sorted_tup {β : Type} {enc : β → PyData} {Rl : Value → β → Prop} {bs : List β} {l : Addr} {vs : List Value} {Q : Value → Shared → Prop} (hl : s.heap.IsTuple l vs.toArray) (e : PySem.W.EachIs Rl vs bs) (er : PySem.W.EachIs (fun v b => ∃ as, Reads s.heap v (enc b) as) vs bs) (hal : AllAlike (bs.map enc)) (hk : Sortable (bs.map enc)) (hL : bs.length ≤ sizeLine)
    (hu : ∀ b, b ∈ bs → A.units + 2 + (enc b).depth < cLine) (h : ∀ out, out.length = bs.length → PySem.W.EachIs Rl out (bs.mergeSort (dataLe false enc)) → Q (.ref (s.heap.objs.size + 1)) { s with heap := sortedAll s.heap vs (List.toArray out) }) :
    wpAny (model prog w) A (call (.builtin "sorted") [.ref l]) Q E s := by
  have hlen : vs.length ≤ sizeLine := by rw [e.length]; exact hL
  refine Calls.call_function_entry kind_sorted plain_sorted entry_sorted (args_sorted1 _) ?_
  unfold Builtin.«sorted»
  refine wpAny_bind (m := checkCount "sorted" 1 1 _) (wpAny_pure ?_)
  refine wpAny_bind (collect_tup hl hlen ?_)
  refine wpAny_bind (wpAny_newList ?_ hlen)
  have hsz : ((s.heap.push (seqObj "list" #[] 0)).update s.heap.objs.size (Obj.mapSeq (· ++ vs.toArray))).objs.size = s.heap.objs.size + 1 := by
    rw [Heap.size_update, size_push']
  show wpAny _ _ _ _ _ { s with heap := PySem.W.copyHeap s.heap vs }
  rw [hsz]
  have cp := PySem.W.copyHeap_at s.heap vs
  have er' : PySem.W.EachIs (fun v b => ∃ as, Reads (PySem.W.sortingHeap (PySem.W.copyHeap s.heap vs) (s.heap.objs.size + 1) vs) v (enc b) as) vs bs := er.mono fun _ _ ⟨as, r⟩ => ⟨as, PyProof.Rows.Reads.keeps (fun _ _ => PySem.W.sorting_copy_old) r⟩
  refine wpAny_bind (wpAny_holding (wpAny_call_entry slot_list_sort ⟨_, cp, rfl⟩ entry_list_sort (PySem.W.list_sort_vals (s := { s with heap := PySem.W.copyHeap s.heap vs }) cp (PySem.W.SortsAt.data (s := { s with heap := PySem.W.sortingHeap (PySem.W.copyHeap s.heap vs) (s.heap.objs.size + 1) vs }) (PySem.W.each_map (R := fun v d => ∃ as, Reads (PySem.W.sortingHeap (PySem.W.copyHeap s.heap vs) (s.heap.objs.size + 1) vs) v d as) enc er') hal hk (PySem.W.bound_map hu)) hlen ⟨.none, rfl, ?_⟩) (args_list_sort _)))
  exact wpAny_pure ⟨_, rfl, h _ (by rw [PySem.W.sortVals_length false rfl]; exact e.length) (PySem.W.sortVals_data false e er' hal)⟩
end
/-- values with what they read as -/
def rSortD (K : PySem.W.Frag) : List V → Hp → VK → Prop := fun vs H Q => ∃ (p : Addr) (ps : List (V × D)), vs = [.ref p] ∧ (SqL K H p (ps.map (·.1)) ∨ SqT K H p (ps.map (·.1))) ∧ (∀ q ∈ ps, Dp K H q.1 q.2.toP) ∧ AllAlike (ps.map fun q => q.2.toP) ∧ Sortable (ps.map fun q => q.2.toP) ∧ (∀ q ∈ ps, q.2.toP.depth ≤ 60) ∧
  ∀ l, H l = none → Q (.ref l) (upd H l (.lst ((ps.mergeSort (dataLe false fun q => q.2.toP)).map (·.1))))
theorem each_of {X : Cx} {pins : List (Addr × Obj)} {σ : L2.St} {H : Hp} {s : Shared} (I : Inv X pins σ H s) : ∀ {ps : List (V × D)} {its : List Value}, Vals (ps.map (·.1)) its → (∀ q ∈ ps, Dp X.K H q.1 q.2.toP) →
    PySem.W.EachIs (fun v (q : V × D) => RelV q.1 v) its ps ∧ PySem.W.EachIs (fun v (q : V × D) => ∃ as, Reads s.heap v q.2.toP as) its ps
  | [], [], _, _ => ⟨.nil, .nil⟩
  | [], _ :: _, h, _ => by cases h
  | q :: ps, [], h, _ => by cases h
  | q :: ps, u :: us, .cons r h, k => by
    obtain ⟨h1, h2⟩ := each_of I h fun q hq => k q (List.mem_cons_of_mem _ hq)
    exact ⟨.cons r h1, .cons (Dp.reads I _ _ _ (k q List.mem_cons_self) r) h2⟩
theorem vals_each : ∀ {qs : List (V × D)} {out : List Value}, PySem.W.EachIs (fun v (q : V × D) => RelV q.1 v) out qs → Vals (qs.map (·.1)) out
  | [], _, .nil => .nil
  | _ :: _, _, .cons r h => .cons r (vals_each h)
theorem cr_sortD {X : Cx} (hu : X.A.units + 65 < cLine) : CallR X (.builtin "sorted") (rSortD X.K) := by
  intro pins s σ H vs us Q I rv h
  obtain ⟨p, ps, rfl, hq, hd, hal, hk, hdep, q⟩ := h
  obtain ⟨u, rfl, ru⟩ := rv.one
  cases ru
  rcases hq with hq | hq
  · obtain ⟨its, r, pl, hz⟩ := I.list hq
    obtain ⟨e1, e2⟩ := each_of I r hd
    have hlen : ps.length ≤ sizeLine := by simpa using hz
    refine PySem.W.sorted_data pl.isList e1 e2 hal hk hlen (fun b hb => by have := hdep b hb; omega) fun out ho eo => ?_
    obtain ⟨ep, he'⟩ := PyProof.Rows.sortedAll_at s.heap its out.toArray
    have hv := vals_each eo
    exact ⟨.ref _, upd H (s.heap.objs.size + 1) (.lst ((ps.mergeSort (dataLe false fun q => q.2.toP)).map (·.1))), I.laid (t' := s.toks) (fun _ _ => PyProof.Rows.sortedAll_old) (Nat.le_succ _) ⟨by rw [List.length_map, List.length_mergeSort]; exact hlen, out, ep, hv, he'⟩, rfl, q _ (I.hok.fresh (Nat.le_succ _))⟩
  · obtain ⟨its, r, pl, hz⟩ := I.tuple hq
    obtain ⟨e1, e2⟩ := each_of I r hd
    have hlen : ps.length ≤ sizeLine := by simpa using hz
    refine sorted_tup pl e1 e2 hal hk hlen (fun b hb => by have := hdep b hb; omega) fun out ho eo => ?_
    obtain ⟨ep, he'⟩ := PyProof.Rows.sortedAll_at s.heap its out.toArray
    have hv := vals_each eo
    exact ⟨.ref _, upd H (s.heap.objs.size + 1) (.lst ((ps.mergeSort (dataLe false fun q => q.2.toP)).map (·.1))), I.laid (t' := s.toks) (fun _ _ => PyProof.Rows.sortedAll_old) (Nat.le_succ _) ⟨by rw [List.length_map, List.length_mergeSort]; exact hlen, out, ep, hv, he'⟩, rfl, q _ (I.hok.fresh (Nat.le_succ _))⟩
theorem pairs_of {G : GD} {H : Hp} : ∀ {vs : List V} {ds : List D}, DtA G H vs ds → ∃ ps : List (V × D), ps.map (·.1) = vs ∧ ps.map (·.2) = ds ∧ ∀ q ∈ ps, Dt G H q.1 q.2
  | _, _, .nil => ⟨[], rfl, rfl, fun q h => by cases h⟩
  | _, _, .cons (v := v) (d := d) h r => by
    obtain ⟨ps, h1, h2, h3⟩ := pairs_of r
    refine ⟨(v, d) :: ps, by rw [List.map_cons, h1], by rw [List.map_cons, h2], fun q hq => ?_⟩
    rcases List.mem_cons.mp hq with rfl | hq
    · exact h
    · exact h3 q hq
theorem dta_of {G : GD} {H : Hp} : ∀ {ps : List (V × D)}, (∀ q ∈ ps, Dt G H q.1 q.2) → DtA G H (ps.map (·.1)) (ps.map (·.2))
  | [], _ => .nil
  | q :: ps, h => .cons (h q List.mem_cons_self) (dta_of fun r hr => h r (List.mem_cons_of_mem _ hr))
theorem leD_trans (a b c : D) (h1 : leD a b = true) (h2 : leD b c = true) : leD a c = true := by
  unfold leD PySem.W.dataLt at *
  simp only [Bool.not_eq_true'] at *
  cases h : PyProof.Rows.lexLt PyProof.Rows.itemOrd (PySem.W.keyToks c.toP) (PySem.W.keyToks a.toP) with
  | false => rfl
  | true =>
    rcases PyProof.Rows.lex_negTrans _ (PySem.W.keyToks b.toP) _ h with h | h
    · rw [h2] at h; cases h
    · rw [h1] at h; cases h
theorem leD_total (a b : D) : (leD a b || leD b a) = true := by
  unfold leD PySem.W.dataLt
  cases h : PyProof.Rows.lexLt PyProof.Rows.itemOrd (PySem.W.keyToks b.toP) (PySem.W.keyToks a.toP) with
  | false => rfl
  | true =>
    cases h' : PyProof.Rows.lexLt PyProof.Rows.itemOrd (PySem.W.keyToks a.toP) (PySem.W.keyToks b.toP) with
    | false => rfl
    | true =>
      have := PyProof.Rows.lex_trans _ _ _ h h'
      rw [PyProof.Rows.lex_irrefl] at this
      cases this
theorem insD_at (a : D) : ∀ (l₁ l₂ : List D), (∀ b ∈ l₁, (!leD a b) = true) → (∀ b ∈ l₂, leD a b = true) → insD a (l₁ ++ l₂) = l₁ ++ a :: l₂
  | [], [], _, _ => rfl
  | [], c :: r, _, h => if_pos (h c List.mem_cons_self)
  | b :: l₁, l₂, h1, h2 => by
    have hb := h1 b List.mem_cons_self
    show (if leD a b = true then _ else b :: insD a (l₁ ++ l₂)) = _
    rw [if_neg (by simpa using hb), insD_at a l₁ l₂ (fun x hx => h1 x (List.mem_cons_of_mem _ hx)) h2] <;> rfl
theorem isortD_eq : ∀ xs : List D, isortD xs = xs.mergeSort leD
  | [] => by simp [isortD]
  | a :: r => by
    obtain ⟨l₁, l₂, h1, h2, h3⟩ := List.mergeSort_cons leD_trans leD_total a r
    have hp := List.pairwise_mergeSort leD_trans leD_total (a :: r)
    rw [h1] at hp
    have hp2 := (List.pairwise_append.mp hp).2.1
    have hp3 := (List.pairwise_cons.mp hp2).1
    show insD a (isortD r) = _
    rw [isortD_eq r, h1, h2]
    exact insD_at a l₁ l₂ h3 hp3
theorem blt_sorted (G : GD) : ∃ r, (∀ X : Cx, X.K = G.K → X.A.units + 65 < cLine → CallR X (.builtin "sorted") r) ∧ bltOk G .sorted r := by
  refine ⟨rSortD G.K, fun X hK hu => hK ▸ cr_sortD hu, fun M H vs ds z fr Q hs h q => ?_⟩
  obtain ⟨d, rfl, h⟩ := one_of h rfl fun a b r => by cases a <;> rfl
  obtain ⟨v, rfl, ha⟩ := hs.one
  cases d with
  | lst ds =>
    have h' : (if sortB ds = true then some (D.lst (ds.mergeSort leD), true) else none) = some (z, fr) := by rw [← isortD_eq]; exact h
    split at h'
    · rename_i c
      obtain ⟨rfl, rfl⟩ := Prod.mk.inj (Option.some.inj h')
      obtain ⟨p, vs, rfl, s1, r1⟩ := ha.lst
      obtain ⟨ps, rfl, rfl, hp⟩ := pairs_of r1
      obtain ⟨c1, c⟩ := Bool.and_eq_true_iff.mp c
      obtain ⟨c2, c3⟩ := Bool.and_eq_true_iff.mp c
      have hall : ∀ q ∈ ps, q.2.ok = true ∧ q.2.toP.depth ≤ 60 := fun q hq => by
        have := List.all_eq_true.mp c1 q.2 (List.mem_map_of_mem hq)
        obtain ⟨a1, a2⟩ := Bool.and_eq_true_iff.mp this
        exact ⟨a1, of_decide_eq_true a2⟩
      refine ⟨p, ps, rfl, .inl s1, fun q hq => dp_of ((hp q hq).le hr_sub) (hall q hq).1, ?_, ?_, fun q hq => (hall q hq).2, fun l hl => ?_⟩
      · intro a ha b hb
        obtain ⟨q, hq, rfl⟩ := List.mem_map.mp ha
        obtain ⟨r, hr, rfl⟩ := List.mem_map.mp hb
        exact List.all_eq_true.mp (List.all_eq_true.mp c2 q.2 (List.mem_map_of_mem hq)) r.2 (List.mem_map_of_mem hr)
      · rcases Bool.or_eq_true_iff.mp c3 with c3 | c3
        · refine .inl fun a ha => ?_
          obtain ⟨q, hq, rfl⟩ := List.mem_map.mp ha
          have := List.all_eq_true.mp c3 q.2 (List.mem_map_of_mem hq)
          cases e : q.2 with
          | tup xs =>
            rw [e] at this
            cases xs with
            | nil => cases this
            | cons x r => exact ⟨x.toP, D.toPs r, rfl⟩
          | _ => rw [e] at this; cases this
        · refine .inr fun a ha => ?_
          obtain ⟨q, hq, rfl⟩ := List.mem_map.mp ha
          have := List.all_eq_true.mp c3 q.2 (List.mem_map_of_mem hq)
          cases e : q.2 <;> rw [e] at this <;> first | (cases this; done) | (refine ⟨?_, fun xs => ?_⟩ <;> (intro z; cases z))
      · have e : (ps.map (·.2)).mergeSort leD = (ps.mergeSort (dataLe false fun q => q.2.toP)).map (·.2) := by
          refine (List.map_mergeSort fun a _ b _ => ?_).symm
          rfl
        rw [e] at q
        refine q _ _ (.lst hl (dta_of fun r hr => hp r ?_))
        exact List.mem_mergeSort.mp hr
    · cases h'
  | tup ds =>
    have h' : (if sortB ds = true then some (D.lst (ds.mergeSort leD), true) else none) = some (z, fr) := by rw [← isortD_eq]; exact h
    split at h'
    · rename_i c
      obtain ⟨rfl, rfl⟩ := Prod.mk.inj (Option.some.inj h')
      obtain ⟨p, vs, rfl, s1, r1⟩ := ha.tup
      obtain ⟨ps, rfl, rfl, hp⟩ := pairs_of r1
      obtain ⟨c1, c⟩ := Bool.and_eq_true_iff.mp c
      obtain ⟨c2, c3⟩ := Bool.and_eq_true_iff.mp c
      have hall : ∀ q ∈ ps, q.2.ok = true ∧ q.2.toP.depth ≤ 60 := fun q hq => by
        have := List.all_eq_true.mp c1 q.2 (List.mem_map_of_mem hq)
        obtain ⟨a1, a2⟩ := Bool.and_eq_true_iff.mp this
        exact ⟨a1, of_decide_eq_true a2⟩
      refine ⟨p, ps, rfl, .inr s1, fun q hq => dp_of ((hp q hq).le hr_sub) (hall q hq).1, ?_, ?_, fun q hq => (hall q hq).2, fun l hl => ?_⟩
      · intro a ha b hb
        obtain ⟨q, hq, rfl⟩ := List.mem_map.mp ha
        obtain ⟨r, hr, rfl⟩ := List.mem_map.mp hb
        exact List.all_eq_true.mp (List.all_eq_true.mp c2 q.2 (List.mem_map_of_mem hq)) r.2 (List.mem_map_of_mem hr)
      · rcases Bool.or_eq_true_iff.mp c3 with c3 | c3
        · refine .inl fun a ha => ?_
          obtain ⟨q, hq, rfl⟩ := List.mem_map.mp ha
          have := List.all_eq_true.mp c3 q.2 (List.mem_map_of_mem hq)
          cases e : q.2 with
          | tup xs =>
            rw [e] at this
            cases xs with
            | nil => cases this
            | cons x r => exact ⟨x.toP, D.toPs r, rfl⟩
          | _ => rw [e] at this; cases this
        · refine .inr fun a ha => ?_
          obtain ⟨q, hq, rfl⟩ := List.mem_map.mp ha
          have := List.all_eq_true.mp c3 q.2 (List.mem_map_of_mem hq)
          cases e : q.2 <;> rw [e] at this <;> first | (cases this; done) | (refine ⟨?_, fun xs => ?_⟩ <;> (intro z; cases z))
      · have e : (ps.map (·.2)).mergeSort leD = (ps.mergeSort (dataLe false fun q => q.2.toP)).map (·.2) := by
          refine (List.map_mergeSort fun a _ b _ => ?_).symm
          rfl
        rw [e] at q
        refine q _ _ (.lst hl (dta_of fun r hr => hp r ?_))
        exact List.mem_mergeSort.mp hr
    · cases h'
  | _ => cases h
end Mp

set_option maxRecDepth 100000
set_option maxHeartbeats 4000000
/-! Mp6: readings of expressions, sound (SE and its kin), put together. -/
namespace Mp
open PySem PySem.Spec PyProof.Rows L2

theorem getS_eq {ρ : Env} {i : Nat} {s : Slot} (h : getS ρ i = s) (n : s ≠ .un) : ρ[i]? = some s := by
  unfold getS at h
  cases e : ρ[i]? with
  | none => rw [e] at h; exact absurd h.symm n
  | some t => rw [e] at h; exact congrArg some h
theorem getS_of {ρ : Env} {i : Nat} {s : Slot} (h : ρ[i]? = some s) : getS ρ i = s := by
  unfold getS
  rw [h]
  rfl

section
variable {G : GD} {X : Fr} {F F' F1 F2 : AS} {ρ ρ' ρ1 ρ2 : Env} {σ : L2.St} {H H' H1 H2 H3 : Hp}
/-- the value of an evaluation -/
inductive VR (G : GD) (X : Fr) (σ : L2.St) (F F' : AS) (ρ : Env) (H : Hp) : V → D → Kd → Prop
  | frz {v : V} {d : D} : F' = F → Dt G (Hr H (Mm F' ρ σ)) v d → VR G X σ F F' ρ H v d .frz
  | fr {p : Addr} {d : D} : F' = addF F p → ¬ F p → X.H0 p = none → ¬ X.IO p → OwnC G (Mm F' ρ σ) H p d → VR G X σ F F' ρ H (.ref p) d .fr
  | pk {v : V} {d : D} {i : Nat} : F' = F → σ[i]? = some (some v) → (ρ[i]? = some (.own d) ∨ ρ[i]? = some (.io d)) → VR G X σ F F' ρ H v d (.pk i)
theorem cur_pk (ρ : Env) (d : D) (i : Nat) : cur ρ d (.pk i) = (match getS ρ i with | .own d => d | .io d => d | .val d => d | .un => d) := rfl
theorem cur_frz {ρ : Env} {d : D} : cur ρ d .frz = d := rfl
theorem cur_fr {ρ : Env} {d : D} : cur ρ d .fr = d := rfl
/-- a value found earlier is readable still -/
theorem VR.held {v : V} {d : D} {k : Kd} (h : VR G X σ F F1 ρ1 H1 v d k) (p : Po G X σ F1 ρ1 H1 F2 ρ2 H2) : Sh G (Mm F2 ρ2 σ) H2 v (cur ρ2 d k) := by
  cases h with
  | frz e h => exact .inl (h.le p.le)
  | @fr q d e n1 n2 n3 h =>
    subst e
    exact .inr ⟨q, rfl, h.le p.le (p.keep q (.inl rfl)).2⟩
  | @pk v d i e h1 h2 =>
    obtain ⟨x, z⟩ := p.liv i ⟨d, h2.elim .inl fun z => .inr (.inl z)⟩
    rcases z with z | z | z
    · obtain ⟨q, e1, c⟩ := p.sr.slot i _ z
      rw [h1] at e1; cases e1
      rw [show cur ρ2 d (.pk i) = x by rw [cur_pk, getS_of z]]
      exact .inr ⟨q, rfl, c⟩
    · obtain ⟨q, e1, c⟩ := p.sr.slot i _ z
      rw [h1] at e1; cases e1
      rw [show cur ρ2 d (.pk i) = x by rw [cur_pk, getS_of z]]
      exact .inr ⟨q, rfl, c⟩
    · obtain ⟨w, e1, c⟩ := p.sr.slot i _ z
      rw [h1] at e1; cases e1
      rw [show cur ρ2 d (.pk i) = x by rw [cur_pk, getS_of z]]
      exact .inl c
theorem VR.sh {v : V} {d : D} {k : Kd} (h : VR G X σ F F1 ρ1 H1 v d k) (S : SR G X F1 ρ1 σ H1) : Sh G (Mm F1 ρ1 σ) H1 v d := by
  have e : cur ρ1 d k = d := by
    cases h with
    | frz => rfl
    | fr => rfl
    | pk e h1 h2 =>
      rcases h2 with h2 | h2 <;> rw [cur_pk, getS_of h2]
  have := h.held (Po.refl S)
  rw [e] at this
  exact this
theorem VR.int {v : V} {i : Int} {k : Kd} (h : VR G X σ F F1 ρ1 H1 v (.int i) k) (S : SR G X F1 ρ1 σ H1) : v = .int i := (h.sh S).int
theorem VR.bl {v : V} {i : Bool} {k : Kd} (h : VR G X σ F F1 ρ1 H1 v (.bl i) k) (S : SR G X F1 ρ1 σ H1) : v = .bl i := (h.sh S).bl
theorem sub_of (p : Po G X σ F ρ H F' ρ' H') : ∀ q, F q → F' q := fun q z => (p.keep q z).1
/-- an operation's end: the temporaries are let go -/
theorem fin_op {v : V} {z : D} {fr : Bool} (p : Po G X σ F ρ H F2 ρ2 H2) (n : NewV G (Mm F2 ρ2 σ) H2 v H3 z fr) : ∃ F3, Po G X σ F ρ H F3 ρ2 H3 ∧ VR G X σ F F3 ρ2 H3 v z (kdOf fr) := by
  have mono : ∀ {Hx : Hp}, ∀ a o, Hr Hx (Mm F2 ρ2 σ) a = some o → Hr Hx (Mm F ρ2 σ) a = some o := fun {Hx} => hr_mono (fun _ _ _ e => e) fun a z => .inl (z.imp (sub_of p a) id)
  cases n with
  | old h => exact ⟨F, p.drop (fun _ h => h) (sub_of p), .frz rfl (h.le mono)⟩
  | @tup q vs ds hn r =>
    have p3 := p.trans (Po.laid (o := .tup vs) p.sr hn)
    refine ⟨F, p3.drop (fun _ h => h) (sub_of p), .frz rfl (.tup (.inl (.inl (hr_some.mpr ⟨fun z => ?_, upd_same⟩))) (r.le fun a o e => mono a o ((Po.laid p.sr hn).le a o e)))⟩
    exact p.sr.mdom q (z.imp (sub_of p q) id) hn
  | @lst q vs ds hn r =>
    have p3 := p.trans (Po.laidF (o := .lst vs) p.sr hn)
    have hq : ¬ F q := fun z => p.sr.fdom q (sub_of p q z) hn
    obtain ⟨n1, n2⟩ := p.sr.new0 hn
    refine ⟨addF F q, p3.drop (fun _ h => .inr h) (fun a z => z.imp id (sub_of p a)), .fr rfl hq n1 n2 ⟨vs, upd_same, r.le fun a o e => ?_⟩⟩
    exact hr_mono (fun _ _ _ e => e) (fun a z => .inl (z.imp (fun z => z.imp id (sub_of p a)) id)) a o ((Po.laidF p.sr hn).le a o e)
  | @dct q xs kvs hn k r =>
    have p3 := p.trans (Po.laidF (o := ndO q xs) p.sr hn)
    have hq : ¬ F q := fun z => p.sr.fdom q (sub_of p q z) hn
    obtain ⟨n1, n2⟩ := p.sr.new0 hn
    have le : ∀ a o, Hr H2 (Mm F2 ρ2 σ) a = some o → Hr (upd H2 q (ndO q xs)) (Mm (addF F q) ρ2 σ) a = some o := fun a o e =>
      hr_mono (fun _ _ _ e => e) (fun a z => .inl (z.imp (fun z => z.imp id (sub_of p a)) id)) a o ((Po.laidF p.sr hn).le a o e)
    exact ⟨addF F q, p3.drop (fun _ h => .inr h) (fun a z => z.imp id (sub_of p a)), .fr rfl hq n1 n2 ⟨xs, upd_same, k.ks, k.nd, k.rk.le le, r.le le⟩⟩
end

/-! ### readings, sound -/
def SE (G : GD) (ev : Env → R (D × Kd)) (t : TE) : Prop := ∀ (X : Fr) (F : AS) (ρ : Env) (σ : L2.St) (H : Hp) (Q : VK) (d : D) (k : Kd) (ρ' : Env), SR G X F ρ σ H → ev ρ = .ok (d, k) ρ' →
  (∀ v H' F', Po G X σ F ρ H F' ρ' H' → VR G X σ F F' ρ' H' v d k → Q v H') → t σ H Q
def STt (G : GD) (ev : Env → R Bool) (t : TT) : Prop := ∀ (X : Fr) (F : AS) (ρ : Env) (σ : L2.St) (H : Hp) (Q : Bool → Hp → Prop) (b : Bool) (ρ' : Env), SR G X F ρ σ H → ev ρ = .ok b ρ' →
  (∀ H', Po G X σ F ρ H F ρ' H' → Q b H') → t σ H Q
/-- what an argument list gives -/
inductive ArR (G : GD) (σ : L2.St) (F : AS) (ρ : Env) (H : Hp) : List V → List Ar → Prop
  | nil : ArR G σ F ρ H [] []
  | v {v : V} {d : D} {vs : List V} {as : List Ar} : Dt G (Hr H (Mm F ρ σ)) v d → ArR G σ F ρ H vs as → ArR G σ F ρ H (v :: vs) (.v d :: as)
  | io {v : V} {i : Nat} {vs : List V} {as : List Ar} : σ[i]? = some (some v) → ArR G σ F ρ H vs as → ArR G σ F ρ H (v :: vs) (.io i :: as)
def SA (G : GD) (ev : Env → R (List Ar)) (t : TA) : Prop := ∀ (X : Fr) (F : AS) (ρ : Env) (σ : L2.St) (H : Hp) (Q : List V → Hp → Prop) (as : List Ar) (ρ' : Env), SR G X F ρ σ H → ev ρ = .ok as ρ' →
  (∀ vs H', Po G X σ F ρ H F ρ' H' → ArR G σ F ρ' H' vs as → Q vs H') → t σ H Q
def SL (G : GD) (ev : Env → R (List D)) (t : TA) : Prop := ∀ (X : Fr) (F : AS) (ρ : Env) (σ : L2.St) (H : Hp) (Q : List V → Hp → Prop) (ds : List D) (ρ' : Env), SR G X F ρ σ H → ev ρ = .ok ds ρ' →
  (∀ vs H', Po G X σ F ρ H F ρ' H' → DtA G (Hr H' (Mm F ρ' σ)) vs ds → Q vs H') → t σ H Q
def SP (G : GD) (ev : Env → R (List (D × Kd))) (t : TA) : Prop := ∀ (X : Fr) (F : AS) (ρ : Env) (σ : L2.St) (H : Hp) (Q : List V → Hp → Prop) (xs : List (D × Kd)) (ρ' : Env), SR G X F ρ σ H → ev ρ = .ok xs ρ' →
  (∀ vs H' F', Po G X σ F ρ H F' ρ' H' → ShA G (Mm F' ρ' σ) H' vs (xs.map fun x => cur ρ' x.1 x.2) → Q vs H') → t σ H Q
def SO (G : GD) (ev : Env → R (Option Int)) (t : TO) : Prop := ∀ (X : Fr) (F : AS) (ρ : Env) (σ : L2.St) (H : Hp) (Q : Option Int → Hp → Prop) (o : Option Int) (ρ' : Env), SR G X F ρ σ H → ev ρ = .ok o ρ' →
  (∀ H', Po G X σ F ρ H F ρ' H' → Q o H') → t σ H Q

theorem ofb_ok {α β : Type} {o : Option α} {ρ : Env} {f : α → Env → R β} {b : β} {ρ' : Env} (h : (R.of o ρ).bind f = .ok b ρ') : ∃ a, o = some a ∧ f a ρ = .ok b ρ' := by
  cases o with
  | none => cases h
  | some a => exact ⟨a, rfl, h⟩
theorem bind_ok {α β : Type} {r : R α} {f : α → Env → R β} {b : β} {ρ' : Env} (h : r.bind f = .ok b ρ') : ∃ a ρ1, r = .ok a ρ1 ∧ f a ρ1 = .ok b ρ' := by
  cases r with
  | ok a ρ1 => exact ⟨a, ρ1, rfl, h⟩
  | no => cases h
theorem of_ok {α : Type} {o : Option α} {ρ : Env} {a : α} {ρ' : Env} (h : R.of o ρ = .ok a ρ') : o = some a ∧ ρ' = ρ := by
  cases o with
  | none => cases h
  | some b => cases h; exact ⟨rfl, rfl⟩
theorem ok_inj {α : Type} {a b : α} {ρ ρ' : Env} (h : R.ok a ρ = .ok b ρ') : a = b ∧ ρ = ρ' := by
  cases h; exact ⟨rfl, rfl⟩

section
variable {G : GD}
theorem se_var {i : Nat} : SE G (fun ρ => match getS ρ i with | .val d => .ok (d, .frz) ρ | .own d => .ok (d, .pk i) ρ | .io d => .ok (d, .pk i) ρ | .un => .no) (tVar i) := by
  intro X F ρ σ H Q d k ρ' S h q
  dsimp only at h
  cases e : getS ρ i with
  | un => rw [e] at h; cases h
  | val x =>
    rw [e] at h; cases h
    obtain ⟨v, e1, c⟩ := S.slot i _ (getS_eq e (by simp))
    exact ⟨v, e1, q _ _ F (Po.refl S) (.frz rfl c)⟩
  | own x =>
    rw [e] at h; cases h
    have e0 := getS_eq e (by simp)
    obtain ⟨p, e1, c⟩ := S.slot i _ e0
    exact ⟨_, e1, q _ _ F (Po.refl S) (.pk rfl e1 (.inl e0))⟩
  | io x =>
    rw [e] at h; cases h
    have e0 := getS_eq e (by simp)
    obtain ⟨p, e1, c⟩ := S.slot i _ e0
    exact ⟨_, e1, q _ _ F (Po.refl S) (.pk rfl e1 (.inr e0))⟩
theorem se_con {v : V} {d : D} (h : ∀ H, Dt G H v d) : SE G (fun ρ => .ok (d, .frz) ρ) (tC v) := by
  intro X F ρ σ H Q d' k ρ' S e q
  cases e
  exact q _ _ F (Po.refl S) (.frz rfl (h _))
theorem se_bin {ea eb : Env → R (D × Kd)} {ta tb : TE} {r : R2} {g : D → D → Option (D × Bool)} (ha : SE G ea ta) (hb : SE G eb tb)
    (hr : ∀ (M : AS) (H : Hp) (x y : V) (a b z : D) (fr : Bool) (Q : VK), Sh G M H x a → Sh G M H y b → g a b = some (z, fr) → (∀ v H', NewV G M H v H' z fr → Q v H') → r x y H Q) :
    SE G (fun ρ => (ea ρ).bind fun x ρ => (eb ρ).bind fun y ρ => (R.of (g (cur ρ x.1 x.2) y.1) ρ).bind fun z ρ => .ok (z.1, kdOf z.2) ρ) (tOp r ta tb) := by
  intro X F ρ σ H Q d k ρ' S h q
  obtain ⟨⟨d1, k1⟩, ρ1, h1, h⟩ := bind_ok h
  obtain ⟨⟨d2, k2⟩, ρ2, h2, h⟩ := bind_ok h
  obtain ⟨⟨z, fr⟩, h3, h⟩ := ofb_ok h
  cases h
  refine ha X F ρ σ H _ d1 k1 ρ1 S h1 fun v1 H1 F1 p1 r1 => ?_
  refine hb X F1 ρ1 σ H1 _ d2 k2 ρ' p1.sr h2 fun v2 H2 F2 p2 r2 => ?_
  refine hr (Mm F2 ρ' σ) H2 v1 v2 _ d2 z fr Q (r1.held p2) (r2.sh p2.sr) h3 fun v H3 n => ?_
  obtain ⟨F3, p3, r3⟩ := fin_op (p1.trans p2) n
  exact q v H3 F3 p3 r3
theorem se_cmp {ea eb : Env → R (D × Kd)} {ta tb : TE} {r : R2} {g : D → D → Option Bool} (ha : SE G ea ta) (hb : SE G eb tb)
    (hr : ∀ (M : AS) (H : Hp) (x y : V) (a b : D) (k : Bool) (Q : VK), Sh G M H x a → Sh G M H y b → g a b = some k → Q (.bl k) H → r x y H Q) :
    SE G (fun ρ => (ea ρ).bind fun x ρ => (eb ρ).bind fun y ρ => (R.of (g (cur ρ x.1 x.2) y.1) ρ).bind fun z ρ => .ok (.bl z, .frz) ρ) (tOp r ta tb) := by
  intro X F ρ σ H Q d k ρ' S h q
  obtain ⟨⟨d1, k1⟩, ρ1, h1, h⟩ := bind_ok h
  obtain ⟨⟨d2, k2⟩, ρ2, h2, h⟩ := bind_ok h
  obtain ⟨z, h3, h⟩ := ofb_ok h
  cases h
  refine ha X F ρ σ H _ d1 k1 ρ1 S h1 fun v1 H1 F1 p1 r1 => ?_
  refine hb X F1 ρ1 σ H1 _ d2 k2 ρ' p1.sr h2 fun v2 H2 F2 p2 r2 => ?_
  refine hr (Mm F2 ρ' σ) H2 v1 v2 _ d2 z Q (r1.held p2) (r2.sh p2.sr) h3 ?_
  have p := p1.trans p2
  exact q _ _ F (p.drop (fun _ h => h) (sub_of p)) (.frz rfl (.bl z))
theorem se_idx {ea eb : Env → R (D × Kd)} {ta tb : TE} {r : R2} (ha : SE G ea ta) (hb : SE G eb tb)
    (hr : ∀ (M : AS) (H : Hp) (x y : V) (a b z : D) (Q : VK), Sh G M H x a → Sh G M H y b → idxD a b = some z → (∀ v, Dt G (Hr H M) v z → Q v H) → r x y H Q) :
    SE G (fun ρ => (ea ρ).bind fun x ρ => (eb ρ).bind fun y ρ => (R.of (idxD (cur ρ x.1 x.2) y.1) ρ).bind fun z ρ => .ok (z, .frz) ρ) (tOp r ta tb) := by
  intro X F ρ σ H Q d k ρ' S h q
  obtain ⟨⟨d1, k1⟩, ρ1, h1, h⟩ := bind_ok h
  obtain ⟨⟨d2, k2⟩, ρ2, h2, h⟩ := bind_ok h
  obtain ⟨z, h3, h⟩ := ofb_ok h
  cases h
  refine ha X F ρ σ H _ d1 k1 ρ1 S h1 fun v1 H1 F1 p1 r1 => ?_
  refine hb X F1 ρ1 σ H1 _ d2 k2 ρ' p1.sr h2 fun v2 H2 F2 p2 r2 => ?_
  refine hr (Mm F2 ρ' σ) H2 v1 v2 _ d2 d Q (r1.held p2) (r2.sh p2.sr) h3 fun v n => ?_
  obtain ⟨F3, p3, r3⟩ := fin_op (p1.trans p2) (.old n)
  exact q v H2 F3 p3 r3
theorem se_neg {ea : Env → R (D × Kd)} {ta : TE} (ha : SE G ea ta) : SE G (fun ρ => (ea ρ).bind fun x ρ => match x.1 with | .int i => .ok (.int (-i), .frz) ρ | _ => .no) (tUn (rU fun i => .int (-i)) ta) := by
  intro X F ρ σ H Q d k ρ' S h q
  obtain ⟨⟨d1, k1⟩, ρ1, h1, h⟩ := bind_ok h
  cases d1 with
  | int i =>
    cases h
    refine ha X F ρ σ H _ _ k1 ρ' S h1 fun v1 H1 F1 p1 r1 => ?_
    exact ⟨i, r1.int p1.sr, q _ _ F (p1.drop (fun _ h => h) (sub_of p1)) (.frz rfl (.int _))⟩
  | _ => cases h
theorem se_ife {ec : Env → R Bool} {ea eb : Env → R (D × Kd)} {tc : TT} {ta tb : TE} (hc : STt G ec tc) (ha : SE G ea ta) (hb : SE G eb tb) :
    SE G (fun ρ => (ec ρ).bind fun k ρ => if k = true then ea ρ else eb ρ) (tIf tc ta tb) := by
  intro X F ρ σ H Q d k ρ' S h q
  obtain ⟨b, ρ1, h1, h⟩ := bind_ok h
  refine hc X F ρ σ H _ b ρ1 S h1 fun H1 p1 => ?_
  cases b with
  | true => exact ha X F ρ1 σ H1 Q d k ρ' p1.sr h fun v H2 F2 p2 r2 => q v H2 F2 (p1.trans p2) r2
  | false => exact hb X F ρ1 σ H1 Q d k ρ' p1.sr h fun v H2 F2 p2 r2 => q v H2 F2 (p1.trans p2) r2
theorem se_not {ea : Env → R Bool} {ta : TT} (ha : STt G ea ta) : STt G (fun ρ => (ea ρ).bind fun b ρ => .ok (!b) ρ) (tNot ta) := by
  intro X F ρ σ H Q d ρ' S h q
  obtain ⟨b, ρ1, h1, h⟩ := bind_ok h
  cases h
  exact ha X F ρ σ H _ b ρ' S h1 fun H1 p1 => q H1 p1
theorem se_and {ea eb : Env → R (D × Kd)} {ta tb : TE} (ha : SE G ea ta) (hb : SE G eb tb) :
    SE G (fun ρ => (ea ρ).bind fun x ρ => match x.1 with | .bl true => eb ρ | .bl false => .ok (.bl false, .frz) ρ | _ => .no) (tAndV ta tb) := by
  intro X F ρ σ H Q d k ρ' S h q
  obtain ⟨⟨d1, k1⟩, ρ1, h1, h⟩ := bind_ok h
  refine ha X F ρ σ H _ _ k1 ρ1 S h1 fun v1 H1 F1 p1 r1 => ?_
  have pd := p1.drop (fun _ h => h) (sub_of p1)
  cases d1 with
  | bl b =>
    refine ⟨b, r1.bl p1.sr, ?_⟩
    cases b with
    | true => exact hb X F ρ1 σ H1 Q d k ρ' pd.sr h fun v H2 F2 p2 r2 => q v H2 F2 (pd.trans p2) r2
    | false => cases h; exact q _ _ F pd (.frz rfl (.bl _))
  | _ => cases h
theorem se_or {ea eb : Env → R (D × Kd)} {ta tb : TE} (ha : SE G ea ta) (hb : SE G eb tb) :
    SE G (fun ρ => (ea ρ).bind fun x ρ => match x.1 with | .bl false => eb ρ | .bl true => .ok (.bl true, .frz) ρ | _ => .no) (tOrV ta tb) := by
  intro X F ρ σ H Q d k ρ' S h q
  obtain ⟨⟨d1, k1⟩, ρ1, h1, h⟩ := bind_ok h
  refine ha X F ρ σ H _ _ k1 ρ1 S h1 fun v1 H1 F1 p1 r1 => ?_
  have pd := p1.drop (fun _ h => h) (sub_of p1)
  cases d1 with
  | bl b =>
    refine ⟨b, r1.bl p1.sr, ?_⟩
    cases b with
    | false => exact hb X F ρ1 σ H1 Q d k ρ' pd.sr h fun v H2 F2 p2 r2 => q v H2 F2 (pd.trans p2) r2
    | true => cases h; exact q _ _ F pd (.frz rfl (.bl _))
  | _ => cases h
/-! tests -/
theorem st_and {ea eb : Env → R Bool} {ta tb : TT} (ha : STt G ea ta) (hb : STt G eb tb) : STt G (fun ρ => (ea ρ).bind fun k ρ => if k = true then eb ρ else .ok false ρ) (tAnd ta tb) := by
  intro X F ρ σ H Q d ρ' S h q
  obtain ⟨b, ρ1, h1, h⟩ := bind_ok h
  refine ha X F ρ σ H _ b ρ1 S h1 fun H1 p1 => ?_
  cases b with
  | true => exact hb X F ρ1 σ H1 Q d ρ' p1.sr h fun H2 p2 => q H2 (p1.trans p2)
  | false => cases h; exact q H1 p1
theorem st_or {ea eb : Env → R Bool} {ta tb : TT} (ha : STt G ea ta) (hb : STt G eb tb) : STt G (fun ρ => (ea ρ).bind fun k ρ => if k = true then .ok true ρ else eb ρ) (tOr ta tb) := by
  intro X F ρ σ H Q d ρ' S h q
  obtain ⟨b, ρ1, h1, h⟩ := bind_ok h
  refine ha X F ρ σ H _ b ρ1 S h1 fun H1 p1 => ?_
  cases b with
  | false => exact hb X F ρ1 σ H1 Q d ρ' p1.sr h fun H2 p2 => q H2 (p1.trans p2)
  | true => cases h; exact q H1 p1
/-- a value as a test -/
theorem st_tr {ea : Env → R (D × Kd)} {ta : TE} (ha : SE G ea ta) : STt G (fun ρ => (ea ρ).bind fun x ρ => R.of (truthD x.1) ρ) (fun σ H Q => ta σ H fun x H' => ∃ k, TruV G.K x H' k ∧ Q k H') := by
  intro X F ρ σ H Q d ρ' S h q
  obtain ⟨⟨d1, k1⟩, ρ1, h1, h⟩ := bind_ok h
  obtain ⟨h2, rfl⟩ := of_ok h
  refine ha X F ρ σ H _ _ k1 ρ' S h1 fun v1 H1 F1 p1 r1 => ?_
  have pd := q H1 (p1.drop (fun _ h => h) (sub_of p1))
  have sh := r1.sh p1.sr
  refine ⟨d, ?_, pd⟩
  cases d1 with
  | non => cases h2; rw [sh.non]; rfl
  | bl b => cases h2; rw [sh.bl]; rfl
  | int i => cases h2; rw [sh.int]; rfl
  | tup ds =>
    cases h2
    obtain ⟨p, vs, rfl, s1, r⟩ := sh.tup
    exact .inr (.inl ⟨vs, s1, by cases r <;> rfl⟩)
  | lst ds =>
    cases h2
    obtain ⟨p, vs, rfl, s1, r⟩ := sh.lst
    exact .inl ⟨vs, s1, by cases r <;> rfl⟩
  | scr ds =>
    cases h2
    obtain ⟨p, vs, rfl, s1, r⟩ := sh.scr
    exact .inl ⟨vs, s1, by cases r <;> rfl⟩
  | _ => cases h2
end
end Mp

set_option maxRecDepth 100000
set_option maxHeartbeats 4000000
/-! Mp7: displays, arguments, built-in calls, slices, calls of defs, sound. -/
namespace Mp
open PySem PySem.Spec PyProof.Rows L2
section
variable {G : GD} {X : Fr} {F F1 : AS} {ρ ρ1 ρ2 : Env} {σ : L2.St} {H H1 : Hp}
theorem settle_ok {v : V} {d d' : D} {k : Kd} (p : Po G X σ F ρ H F1 ρ1 H1) (r : VR G X σ F F1 ρ1 H1 v d k) (h : settle ρ1 d k = .ok d' ρ2) : Po G X σ F ρ H F ρ2 H1 ∧ Dt G (Hr H1 (Mm F ρ2 σ)) v d' := by
  cases r with
  | frz e r =>
    subst e
    cases h
    exact ⟨p, r⟩
  | @fr q d e n1 n2 n3 r =>
    subst e
    cases h
    refine ⟨p.drop (fun _ h => h) (fun _ h => .inr h), r.dt (fun a z => z.imp .inr id) fun z => ?_⟩
    rcases z with z | ⟨i, z⟩
    · exact n1 z
    · exact p.sr.dis i q z (.inl rfl)
  | @pk v d i e e1 r =>
    subst e
    have h' : (match getS ρ1 i with | .own d => R.ok d (ρ1.set i (.val d)) | _ => R.no) = .ok d' ρ2 := h
    cases q : getS ρ1 i with
    | own x =>
      rw [q] at h'
      cases h'
      obtain ⟨a, e2, p2, dt⟩ := Po.settle p.sr (getS_eq q (by simp))
      rw [e1] at e2; cases e2
      exact ⟨p.trans p2, dt⟩
    | _ => rw [q] at h'; cases h'
end
section
variable {G : GD}
theorem sl_nil : SL G (fun ρ => .ok [] ρ) tNil := by
  intro X F ρ σ H Q ds ρ' S h q
  cases h
  exact q [] H (Po.refl S) .nil
theorem sl_cons {ea : Env → R (D × Kd)} {er : Env → R (List D)} {ta : TE} {tr : TA} (ha : SE G ea ta) (hr : SL G er tr) :
    SL G (fun ρ => (ea ρ).bind fun x ρ => (settle ρ x.1 x.2).bind fun d ρ => (er ρ).bind fun ds ρ => .ok (d :: ds) ρ) (tCons ta tr) := by
  intro X F ρ σ H Q ds ρ' S h q
  obtain ⟨⟨d1, k1⟩, ρ1, h1, h⟩ := bind_ok h
  obtain ⟨d2, ρ2, h2, h⟩ := bind_ok h
  obtain ⟨ds3, ρ3, h3, h⟩ := bind_ok h
  cases h
  refine ha X F ρ σ H _ d1 k1 ρ1 S h1 fun v1 H1 F1 p1 r1 => ?_
  obtain ⟨p2, r2⟩ := settle_ok p1 r1 h2
  refine hr X F ρ2 σ H1 _ ds3 ρ' p2.sr h3 fun vs H2 p3 r3 => ?_
  exact q _ _ (p2.trans p3) (.cons (r2.le p3.le) r3)
theorem se_tup {el : Env → R (List D)} {t : TA} (h1 : SL G el t) : SE G (fun ρ => (el ρ).bind fun ds ρ => if ds.length ≤ sizeLine then .ok (.tup ds, .frz) ρ else .no) (tTup t) := by
  intro X F ρ σ H Q d k ρ' S h q
  obtain ⟨ds, ρ1, h2, h⟩ := bind_ok h
  split at h
  · rename_i c
    cases h
    refine h1 X F ρ σ H _ ds ρ' S h2 fun vs H1 p r => ⟨by rw [r.length]; exact c, fun a ha => ?_⟩
    obtain ⟨F3, p3, r3⟩ := fin_op p (.tup ha r)
    exact q _ _ F3 p3 r3
  · cases h
theorem se_lst {el : Env → R (List D)} {t : TA} (h1 : SL G el t) : SE G (fun ρ => (el ρ).bind fun ds ρ => if ds.length ≤ sizeLine then .ok (.lst ds, .fr) ρ else .no) (tLst t) := by
  intro X F ρ σ H Q d k ρ' S h q
  obtain ⟨ds, ρ1, h2, h⟩ := bind_ok h
  split at h
  · rename_i c
    cases h
    refine h1 X F ρ σ H _ ds ρ' S h2 fun vs H1 p r => ⟨by rw [r.length]; exact c, fun a ha => ?_⟩
    obtain ⟨F3, p3, r3⟩ := fin_op p (.lst ha r)
    exact q _ _ F3 p3 r3
  · cases h
theorem sp_nil : SP G (fun ρ => .ok [] ρ) tNil := by
  intro X F ρ σ H Q ds ρ' S h q
  cases h
  exact q [] H F (Po.refl S) .nil
theorem sp_cons {ea : Env → R (D × Kd)} {er : Env → R (List (D × Kd))} {ta : TE} {tr : TA} (ha : SE G ea ta) (hr : SP G er tr) :
    SP G (fun ρ => (ea ρ).bind fun x ρ => (er ρ).bind fun ds ρ => .ok (x :: ds) ρ) (tCons ta tr) := by
  intro X F ρ σ H Q ds ρ' S h q
  obtain ⟨⟨d1, k1⟩, ρ1, h1, h⟩ := bind_ok h
  obtain ⟨ds3, ρ3, h3, h⟩ := bind_ok h
  cases h
  refine ha X F ρ σ H _ d1 k1 ρ1 S h1 fun v1 H1 F1 p1 r1 => ?_
  refine hr X F1 ρ1 σ H1 _ ds3 ρ' p1.sr h3 fun vs H2 F2 p3 r3 => ?_
  exact q _ _ F2 (p1.trans p3) (.cons (r1.held p3) r3)
theorem se_blt {b : Blt} {ep : Env → R (List (D × Kd))} {t : TA} {r : List V → Hp → VK → Prop} (h1 : SP G ep t) (hr : bltOk G b r) :
    SE G (fun ρ => (ep ρ).bind fun xs ρ => (R.of (bltD b (xs.map fun x => cur ρ x.1 x.2)) ρ).bind fun z ρ => .ok (z.1, kdOf z.2) ρ) (tCB r t) := by
  intro X F ρ σ H Q d k ρ' S h q
  obtain ⟨xs, ρ1, h2, h⟩ := bind_ok h
  obtain ⟨⟨z, fr⟩, h3, h⟩ := ofb_ok h
  cases h
  refine h1 X F ρ σ H _ xs ρ' S h2 fun vs H1 F1 p r1 => ?_
  refine hr (Mm F1 ρ' σ) H1 vs _ z fr Q r1 h3 fun v H2 n => ?_
  obtain ⟨F3, p3, r3⟩ := fin_op p n
  exact q v H2 F3 p3 r3
/-- isinstance -/
theorem se_isin {t : Nat} {r : List V → Hp → VK → Prop} {T : String} {ta : TE} {ea : Env → R (D × Kd)} (ht : t < 5) (hT : T = tyName t) (ha : SE G ea ta)
    (hr : ∀ (M : AS) (H : Hp) (v : V) (d z : D) (fr : Bool) (Q : VK), t < 5 → Sh G M H v d → bltD (.isinst t) [d] = some (z, fr) → (∀ v H', NewV G M H v H' z fr → Q v H') → r [v, .ty (tyName t)] H Q) :
    SE G (fun ρ => (ea ρ).bind fun x ρ => (R.of (isinD t x.1) ρ).bind fun b ρ => .ok (.bl b, .frz) ρ) (tCB r (tCons ta (tCons (tC (.ty T)) tNil))) := by
  subst hT
  intro X F ρ σ H Q d k ρ' S h q
  obtain ⟨⟨d1, k1⟩, ρ2, h4, h2⟩ := bind_ok h
  obtain ⟨b, h3, h5⟩ := ofb_ok h2
  cases h5
  refine ha X F ρ σ H _ d1 k1 ρ' S h4 fun v1 H1 F1 p1 r1 => ?_
  refine hr (Mm F1 ρ' σ) H1 v1 _ (.bl b) false Q ht (r1.sh p1.sr) (by show (isinD t d1).map _ = _; rw [h3]; rfl) fun v H2 n => ?_
  obtain ⟨F3, p3, r3⟩ := fin_op p1 n
  exact q v H2 F3 p3 r3
theorem so_none : SO G (fun ρ => .ok none ρ) tNoPart := by
  intro X F ρ σ H Q o ρ' S h q
  cases h
  exact q H (Po.refl S)
theorem so_some {ea : Env → R (D × Kd)} {ta : TE} (ha : SE G ea ta) : SO G (fun ρ => (ea ρ).bind fun x ρ => match x.1 with | .int i => .ok (some i) ρ | _ => .no) (tPart ta) := by
  intro X F ρ σ H Q o ρ' S h q
  obtain ⟨⟨d1, k1⟩, ρ1, h1, h⟩ := bind_ok h
  cases d1 with
  | int i =>
    cases h
    refine ha X F ρ σ H _ _ k1 ρ' S h1 fun v1 H1 F1 p1 r1 => ?_
    exact ⟨i, r1.int p1.sr, q _ (p1.drop (fun _ h => h) (sub_of p1))⟩
  | _ => cases h
theorem se_sl {ea : Env → R (D × Kd)} {el eh : Env → R (Option Int)} {ta : TE} {tl th : TO} {r : V → Option Int → Option Int → Hp → VK → Prop} (ha : SE G ea ta) (hl : SO G el tl) (hh : SO G eh th)
    (hr : ∀ (M : AS) (H : Hp) (x : V) (a z : D) (lo hi : Option Int) (fr : Bool) (Q : VK), Sh G M H x a → slD a lo hi = some (z, fr) → (∀ v H', NewV G M H v H' z fr → Q v H') → r x lo hi H Q) :
    SE G (fun ρ => (ea ρ).bind fun x ρ => (el ρ).bind fun l ρ => (eh ρ).bind fun h ρ => (R.of (slD (cur ρ x.1 x.2) l h) ρ).bind fun z ρ => .ok (z.1, kdOf z.2) ρ) (tSl r ta tl th) := by
  intro X F ρ σ H Q d k ρ' S h q
  obtain ⟨⟨d1, k1⟩, ρ1, h1, h⟩ := bind_ok h
  obtain ⟨lo, ρ2, h2, h⟩ := bind_ok h
  obtain ⟨hi, ρ3, h3, h⟩ := bind_ok h
  obtain ⟨⟨z, fr⟩, h4, h⟩ := ofb_ok h
  cases h
  refine ha X F ρ σ H _ d1 k1 ρ1 S h1 fun v1 H1 F1 p1 r1 => ?_
  refine hl X F1 ρ1 σ H1 _ lo ρ2 p1.sr h2 fun H2 p2 => ?_
  refine hh X F1 ρ2 σ H2 _ hi ρ' p2.sr h3 fun H3 p3 => ?_
  have pp := p2.trans p3
  refine hr (Mm F1 ρ' σ) H3 v1 _ z lo hi fr Q (r1.held pp) h4 fun v H4 n => ?_
  obtain ⟨F3, p5, r5⟩ := fin_op (p1.trans pp) n
  exact q v H4 F3 p5 r5
theorem se_cmp2 {ea eb ec : Env → R (D × Kd)} {ta tb tc : TE} {r r' : R2} {g g' : D → D → Option Bool} (ha : SE G ea ta) (hb : SE G eb tb) (hc : SE G ec tc)
    (hr : ∀ (M : AS) (H : Hp) (x y : V) (a b : D) (k : Bool) (Q : VK), Sh G M H x a → Sh G M H y b → g a b = some k → Q (.bl k) H → r x y H Q)
    (hr' : ∀ (M : AS) (H : Hp) (x y : V) (a b : D) (k : Bool) (Q : VK), Sh G M H x a → Sh G M H y b → g' a b = some k → Q (.bl k) H → r' x y H Q) :
    SE G (fun ρ => (ea ρ).bind fun x ρ => (eb ρ).bind fun y ρ => (R.of (g (cur ρ x.1 x.2) y.1) ρ).bind fun z ρ =>
      if z = true then (ec ρ).bind fun w ρ => (R.of (g' (cur ρ y.1 y.2) w.1) ρ).bind fun z ρ => .ok (.bl z, .frz) ρ else .ok (.bl false, .frz) ρ) (tChain r r' ta tb tc) := by
  intro X F ρ σ H Q d k ρ' S h q
  obtain ⟨⟨d1, k1⟩, ρ1, h1, h⟩ := bind_ok h
  obtain ⟨⟨d2, k2⟩, ρ2, h2, h⟩ := bind_ok h
  obtain ⟨z, h3, h⟩ := ofb_ok h
  refine ha X F ρ σ H _ d1 k1 ρ1 S h1 fun v1 H1 F1 p1 r1 => ?_
  refine hb X F1 ρ1 σ H1 _ d2 k2 ρ2 p1.sr h2 fun v2 H2 F2 p2 r2 => ?_
  refine hr (Mm F2 ρ2 σ) H2 v1 v2 _ d2 z _ (r1.held p2) (r2.sh p2.sr) h3 ⟨z, rfl, ?_⟩
  have p := p1.trans p2
  cases z with
  | false => cases h; exact q _ _ F (p.drop (fun _ h => h) (sub_of p)) (.frz rfl (.bl _))
  | true =>
    obtain ⟨⟨d3, k3⟩, ρ3, h4, h⟩ := bind_ok h
    obtain ⟨z, h5, h⟩ := ofb_ok h
    cases h
    refine hc X F2 ρ2 σ H2 _ d3 k3 ρ' p2.sr h4 fun v3 H3 F3 p3 r3 => ?_
    have pq := p.trans p3
    exact hr' (Mm F3 ρ' σ) H3 v2 v3 _ d3 z _ (r2.held p3) (r3.sh p3.sr) h5 (q _ _ F (pq.drop (fun _ h => h) (sub_of pq)) (.frz rfl (.bl _)))
theorem sa_nil : SA G (fun ρ => .ok [] ρ) tNil := by
  intro X F ρ σ H Q ds ρ' S h q
  cases h
  exact q [] H (Po.refl S) .nil
theorem ArR.le {σ : L2.St} {F : AS} {ρ ρ' : Env} {H H' : Hp} (e : ∀ a o, Hr H (Mm F ρ σ) a = some o → Hr H' (Mm F ρ' σ) a = some o) : ∀ {vs : List V} {as : List Ar}, ArR G σ F ρ H vs as → ArR G σ F ρ' H' vs as
  | _, _, .nil => .nil
  | _, _, .v h r => .v (h.le e) (ArR.le e r)
  | _, _, .io h r => .io h (ArR.le e r)
theorem sa_cons {ea : Env → R (D × Kd)} {er : Env → R (List Ar)} {ta : TE} {tr : TA} (ha : SE G ea ta) (hr : SA G er tr) :
    SA G (fun ρ => (ea ρ).bind fun x ρ => (settle ρ x.1 x.2).bind fun d ρ => (er ρ).bind fun ds ρ => .ok (.v d :: ds) ρ) (tCons ta tr) := by
  intro X F ρ σ H Q ds ρ' S h q
  obtain ⟨⟨d1, k1⟩, ρ1, h1, h⟩ := bind_ok h
  obtain ⟨d2, ρ2, h2, h⟩ := bind_ok h
  obtain ⟨ds3, ρ3, h3, h⟩ := bind_ok h
  cases h
  refine ha X F ρ σ H _ d1 k1 ρ1 S h1 fun v1 H1 F1 p1 r1 => ?_
  obtain ⟨p2, r2⟩ := settle_ok p1 r1 h2
  refine hr X F ρ2 σ H1 _ ds3 ρ' p2.sr h3 fun vs H2 p3 r3 => ?_
  exact q _ _ (p2.trans p3) (.v (r2.le p3.le) r3)
theorem sa_io {i : Nat} {er : Env → R (List Ar)} {tr : TA} (hr : SA G er tr) :
    SA G (fun ρ => match getS ρ i with | .own _ => (er ρ).bind fun ds ρ => .ok (.io i :: ds) ρ | .io _ => (er ρ).bind fun ds ρ => .ok (.io i :: ds) ρ | _ => .no) (tCons (tVar i) tr) := by
  intro X F ρ σ H Q ds ρ' S h q
  have key : ∀ p, σ[i]? = some (some (.ref p)) → ((er ρ).bind fun ds ρ => (.ok (.io i :: ds) ρ : R (List Ar))) = .ok ds ρ' → tCons (tVar i) tr σ H Q := fun p e h => by
    obtain ⟨ds3, ρ3, h3, h⟩ := bind_ok h
    cases h
    exact ⟨_, e, hr X F ρ σ H _ ds3 ρ' S h3 fun vs H2 p3 r3 => q _ _ p3 (.io e r3)⟩
  dsimp only at h
  cases e : getS ρ i with
  | own x =>
    rw [e] at h
    obtain ⟨p, e1, _⟩ := S.slot i _ (getS_eq e (by simp))
    exact key p e1 h
  | io x =>
    rw [e] at h
    obtain ⟨p, e1, _⟩ := S.slot i _ (getS_eq e (by simp))
    exact key p e1 h
  | _ => rw [e] at h; cases h
end
end Mp

set_option maxRecDepth 100000
set_option maxHeartbeats 4000000
/-! Mp8: a def's promise, said by the evaluator; a call, sound. -/
namespace Mp
open PySem PySem.Spec PyProof.Rows L2

/-- the arguments at the entry: values outside M, own lists at IO -/
inductive InR (G : GD) (M : AS) (H : Hp) : List Bool → List V → List D → List Addr → Prop
  | nil : InR G M H [] [] [] []
  | v {v : V} {d : D} {fl : List Bool} {vs : List V} {ds : List D} {io : List Addr} : Dt G (Hr H M) v d → InR G M H fl vs ds io → InR G M H (false :: fl) (v :: vs) (d :: ds) io
  | io {p : Addr} {d : D} {fl : List Bool} {vs : List V} {ds : List D} {io : List Addr} : OwnC G M H p d → InR G M H fl vs ds io → InR G M H (true :: fl) (.ref p :: vs) (d :: ds) (p :: io)
inductive OutL (G : GD) (M : AS) (H : Hp) : List Addr → List D → Prop
  | nil : OutL G M H [] []
  | cons {p : Addr} {d : D} {ps : List Addr} {ds : List D} : OwnC G M H p d → OutL G M H ps ds → OutL G M H (p :: ps) (d :: ds)
abbrev orL (Z : AS) (io : List Addr) : AS := fun a => Z a ∨ a ∈ io
/-- the call's end -/
structure OutR (G : GD) (Z : AS) (io : List Addr) (H : Hp) (v : V) (H' : Hp) (d : D) (b : Bool) (outs : List D) : Prop where
  frame : ∀ a o, a ∉ io → H a = some o → H' a = some o
  val : (b = false ∧ Dt G (Hr H' (orL Z io)) v d ∧ OutL G (orL Z io) H' io outs) ∨
    (b = true ∧ ∃ p, v = .ref p ∧ H p = none ∧ OwnC G (addF (orL Z io) p) H' p d ∧ OutL G (addF (orL Z io) p) H' io outs)
def spOf (G : GD) (cl : List Bool → List D → CRes) (n : Nat) : Sp := fun vs H Q _ => ∃ (fl : List Bool) (ds : List D) (io : List Addr) (Z : AS) (d : D) (b : Bool) (outs : List D),
  cl fl ds = some (d, b, outs) ∧ ds.length = n ∧ InR G (orL Z io) H fl vs ds io ∧ io.Nodup ∧ (∀ a ∈ io, ¬ Z a) ∧ (∀ a, Z a → H a ≠ none) ∧ ∀ v H', OutR G Z io H v H' d b outs → Q v H'
theorem InR.length {G : GD} {M : AS} {H : Hp} : ∀ {fl : List Bool} {vs : List V} {ds : List D} {io : List Addr}, InR G M H fl vs ds io → vs.length = ds.length
  | _, _, _, _, .nil => rfl
  | _, _, _, _, .v _ r => congrArg (· + 1) r.length
  | _, _, _, _, .io _ r => congrArg (· + 1) r.length

section
variable {G : GD} {X : Fr} {F F' : AS} {ρ ρ' : Env} {σ : L2.St} {H H' : Hp}
/-- the io arguments' places and addresses -/
inductive IoP (ρ : Env) (σ : L2.St) : List Ar → List (Nat × Addr) → Prop
  | nil : IoP ρ σ [] []
  | v {d : D} {as : List Ar} {ps : List (Nat × Addr)} : IoP ρ σ as ps → IoP ρ σ (.v d :: as) ps
  | io {i : Nat} {p : Addr} {as : List Ar} {ps : List (Nat × Addr)} : OwnAt ρ σ i p → IoP ρ σ as ps → IoP ρ σ (.io i :: as) ((i, p) :: ps)
theorem IoP.ix {as : List Ar} {ps : List (Nat × Addr)} (h : IoP ρ σ as ps) : iosOf as = ps.map (·.1) := by
  induction h with
  | nil => rfl
  | v _ ih => exact ih
  | io _ _ ih => simp only [iosOf, List.map_cons, ih]
theorem IoP.own {as : List Ar} {ps : List (Nat × Addr)} (h : IoP ρ σ as ps) : ∀ q ∈ ps, OwnAt ρ σ q.1 q.2 := by
  induction h with
  | nil => intro q hq; cases hq
  | v _ ih => exact ih
  | io o _ ih =>
    intro q hq
    rcases List.mem_cons.mp hq with rfl | hq
    · exact o
    · exact ih q hq
theorem ar_in (S : SR G X F ρ σ H) : ∀ {vs : List V} {as : List Ar} {ds : List D}, ArR G σ F ρ H vs as → argsD ρ as = some ds →
    ∃ ps, IoP ρ σ as ps ∧ InR G (Mm F ρ σ) H (as.map Ar.isIo) vs ds (ps.map (·.2))
  | _, _, ds, .nil, e => by cases e; exact ⟨[], .nil, .nil⟩
  | _, _, ds, .v (d := d) (as := as) h r, e => by
    have e' : (argsD ρ as).map (d :: ·) = some ds := e
    cases q : argsD ρ as with
    | none => rw [q] at e'; cases e'
    | some es =>
      rw [q] at e'
      cases e'
      obtain ⟨ps, h1, h2⟩ := ar_in S r q
      exact ⟨ps, .v h1, .v h h2⟩
  | _, _, ds, .io (v := v) (i := i) (as := as) h r, e => by
    have e' : ((Ar.io i).d ρ).bind (fun d => (argsD ρ as).map (d :: ·)) = some ds := e
    cases q : argsD ρ as with
    | none => rw [q] at e'; cases w : (Ar.io i).d ρ <;> rw [w] at e' <;> cases e'
    | some es =>
      rw [q] at e'
      obtain ⟨ps, h1, h2⟩ := ar_in S r q
      have w : (Ar.io i).d ρ = (match getS ρ i with | .own d => some d | .io d => some d | _ => none) := rfl
      rw [w] at e'
      cases g : getS ρ i with
      | own x =>
        rw [g] at e'
        cases e'
        have g0 := getS_eq g (by simp)
        obtain ⟨p, e1, c⟩ := S.slot i _ g0
        rw [h] at e1; cases e1
        exact ⟨(i, p) :: ps, .io ⟨⟨x, .inl g0⟩, h⟩ h1, .io c h2⟩
      | io x =>
        rw [g] at e'
        cases e'
        have g0 := getS_eq g (by simp)
        obtain ⟨p, e1, c⟩ := S.slot i _ g0
        rw [h] at e1; cases e1
        exact ⟨(i, p) :: ps, .io ⟨⟨x, .inr g0⟩, h⟩ h1, .io c h2⟩
      | _ => rw [g] at e'; cases e'
/-! the names behind a call -/
theorem setIo_len (ρ : Env) (i : Nat) (d : D) : (setIo ρ i d).length = ρ.length := by
  unfold setIo
  split <;> first | rfl | exact List.length_set
theorem setIo_ne {ρ : Env} {i j : Nat} {d : D} (h : j ≠ i) : (setIo ρ i d)[j]? = ρ[j]? := by
  unfold setIo
  split
  · exact List.getElem?_set_ne (Ne.symm h)
  · exact List.getElem?_set_ne (Ne.symm h)
  · rfl
theorem setIo_own {ρ : Env} {i : Nat} {d x : D} (h : ρ[i]? = some (.own x)) : (setIo ρ i d)[i]? = some (.own d) := by
  unfold setIo
  rw [getS_of h]
  exact List.getElem?_set_self (List.getElem?_eq_some_iff.mp h).1
theorem setIo_io {ρ : Env} {i : Nat} {d x : D} (h : ρ[i]? = some (.io x)) : (setIo ρ i d)[i]? = some (.io d) := by
  unfold setIo
  rw [getS_of h]
  exact List.getElem?_set_self (List.getElem?_eq_some_iff.mp h).1
theorem putOuts_len : ∀ (as : List Ar) (ρ : Env) (outs : List D), (putOuts ρ as outs).length = ρ.length
  | [], _, _ => rfl
  | .io i :: r, ρ, [] => rfl
  | .io i :: r, ρ, d :: ds => by
    show (putOuts (setIo ρ i d) r ds).length = _
    rw [putOuts_len r, setIo_len]
  | .v _ :: r, ρ, ds => putOuts_len r ρ ds
theorem putOuts_ne : ∀ (as : List Ar) (ρ : Env) (outs : List D) (j : Nat), j ∉ iosOf as → (putOuts ρ as outs)[j]? = ρ[j]?
  | [], _, _, _, _ => rfl
  | .io i :: r, ρ, [], _, _ => rfl
  | .io i :: r, ρ, d :: ds, j, h => by
    show (putOuts (setIo ρ i d) r ds)[j]? = _
    have h' : j ≠ i ∧ j ∉ iosOf r := by simpa [iosOf] using h
    rw [putOuts_ne r _ _ j h'.2, setIo_ne h'.1]
  | .v _ :: r, ρ, ds, j, h => putOuts_ne r ρ ds j h
/-- of the passed names: what they hold now -/
theorem putOuts_at {M : AS} {H' : Hp} : ∀ {as : List Ar} {ps : List (Nat × Addr)} {ρ : Env} {outs : List D}, (ps.map (·.1)).Nodup → iosOf as = ps.map (·.1) → OutL G M H' (ps.map (·.2)) outs →
    (∀ q ∈ ps, ∃ x, ρ[q.1]? = some (.own x) ∨ ρ[q.1]? = some (.io x)) → ∀ q ∈ ps, ∃ d, OwnC G M H' q.2 d ∧ ((∃ x, ρ[q.1]? = some (.own x)) ∧ (putOuts ρ as outs)[q.1]? = some (.own d) ∨ (∃ x, ρ[q.1]? = some (.io x)) ∧ (putOuts ρ as outs)[q.1]? = some (.io d))
  | [], [], _, _, _, _, _, _ => fun q hq => by cases hq
  | [], _ :: _, _, _, _, e, _, _ => by cases e
  | .v _ :: r, ps, ρ, outs, nd, e, o, k => putOuts_at (as := r) nd e o k
  | .io i :: r, [], _, _, _, e, _, _ => by cases e
  | .io i :: r, (j, p) :: ps, ρ, outs, nd, e, o, k => by
    have e' : i :: iosOf r = j :: ps.map (·.1) := e
    injection e' with e1 e2
    subst e1
    cases o with
    | @cons _ d _ ds c o =>
      have nd' : i ∉ ps.map (·.1) ∧ (ps.map (·.1)).Nodup := List.nodup_cons.mp nd
      have k0 := k (i, p) (List.mem_cons_self)
      intro q hq
      show ∃ d', OwnC G M H' q.2 d' ∧ ((∃ x, ρ[q.1]? = some (.own x)) ∧ (putOuts (setIo ρ i d) r ds)[q.1]? = some (.own d') ∨ (∃ x, ρ[q.1]? = some (.io x)) ∧ (putOuts (setIo ρ i d) r ds)[q.1]? = some (.io d'))
      rcases List.mem_cons.mp hq with rfl | hq
      · refine ⟨d, c, ?_⟩
        rw [putOuts_ne r _ _ i (by rw [e2]; exact nd'.1)]
        obtain ⟨x, k0 | k0⟩ := k0
        · exact .inl ⟨⟨x, k0⟩, setIo_own k0⟩
        · exact .inr ⟨⟨x, k0⟩, setIo_io k0⟩
      · have hne : ∀ q ∈ ps, q.1 ≠ i := fun q hq z => nd'.1 (z ▸ List.mem_map_of_mem hq)
        obtain ⟨d', c', h⟩ := putOuts_at (as := r) (ρ := setIo ρ i d) nd'.2 e2 o (fun q hq => by
          obtain ⟨x, z⟩ := k q (List.mem_cons_of_mem _ hq)
          exact ⟨x, by rw [setIo_ne (hne q hq)]; exact z⟩) q hq
        refine ⟨d', c', ?_⟩
        rw [setIo_ne (hne q hq)] at h
        exact h
end
section
variable {G : GD}
theorem nodup_snd {ρ : Env} {σ : L2.St} (inj : ∀ (i j : Nat) (p : Addr), OwnAt ρ σ i p → OwnAt ρ σ j p → i = j) : ∀ {ps : List (Nat × Addr)}, (∀ q ∈ ps, OwnAt ρ σ q.1 q.2) → (ps.map (·.1)).Nodup → (ps.map (·.2)).Nodup
  | [], _, _ => List.nodup_nil
  | q :: ps, h, nd => by
    have nd' : q.1 ∉ ps.map (·.1) ∧ (ps.map (·.1)).Nodup := List.nodup_cons.mp nd
    refine List.nodup_cons.mpr ⟨fun hm => ?_, nodup_snd inj (fun q hq => h q (List.mem_cons_of_mem _ hq)) nd'.2⟩
    obtain ⟨r, hr, e⟩ := List.mem_map.mp hm
    have := inj q.1 r.1 q.2 (h q List.mem_cons_self) (by have h2 := h r (List.mem_cons_of_mem _ hr); rw [show r.2 = q.2 from e] at h2; exact h2)
    exact nd'.1 (this ▸ List.mem_map_of_mem hr)
/-- behind a call -/
theorem po_call {X : Fr} {F : AS} {ρ : Env} {σ : L2.St} {H H' : Hp} {as : List Ar} {ps : List (Nat × Addr)} {v : V} {d : D} {b : Bool} {outs : List D} (S : SR G X F ρ σ H) (hp : IoP ρ σ as ps) (nd : (iosOf as).Nodup)
    (O : OutR G (fun a => Mm F ρ σ a ∧ a ∉ ps.map (·.2)) (ps.map (·.2)) H v H' d b outs) :
    ∃ F', Po G X σ F ρ H F' (putOuts ρ as outs) H' ∧ VR G X σ F F' (putOuts ρ as outs) H' v d (kdOf b) := by
  have own := hp.own
  have ix := hp.ix
  have nd1 : (ps.map (·.1)).Nodup := ix ▸ nd
  have eM : orL (fun a => Mm F ρ σ a ∧ a ∉ ps.map (·.2)) (ps.map (·.2)) = Mm F ρ σ := by
    funext a
    refine propext ⟨fun z => ?_, fun z => ?_⟩
    · rcases z with z | z
      · exact z.1
      · obtain ⟨q, hq, e⟩ := List.mem_map.mp z
        exact .inr ⟨q.1, e ▸ own q hq⟩
    · by_cases h : a ∈ ps.map (·.2)
      · exact .inr h
      · exact .inl ⟨z, h⟩
  have mIO : ∀ a, a ∈ ps.map (·.2) → ∃ i, OwnAt ρ σ i a := fun a z => by
    obtain ⟨q, hq, e⟩ := List.mem_map.mp z
    exact ⟨q.1, e ▸ own q hq⟩
  -- what is in M' beside M is new
  have fin : ∀ (F' : AS), (∀ a, F a → F' a) → (∀ a, F' a → F a ∨ H a = none) → (∀ a, F' a → H' a ≠ none) → OutL G (Mm F' ρ σ) H' (ps.map (·.2)) outs → Po G X σ F ρ H F' (putOuts ρ as outs) H' := fun F' f1 f2 f3 ol => by
    have at_ := putOuts_at (G := G) (M := Mm F' ρ σ) (H' := H') (as := as) (ρ := ρ) (outs := outs) nd1 ix ol (fun q hq => by
      obtain ⟨⟨x, z⟩, _⟩ := own q hq
      exact ⟨x, z⟩)
    have out : ∀ j, j ∉ iosOf as → (putOuts ρ as outs)[j]? = ρ[j]? := putOuts_ne as ρ outs
    have inn : ∀ j, j ∈ iosOf as → ∃ p, (j, p) ∈ ps := fun j hj => by
      rw [ix] at hj
      obtain ⟨q, hq, e⟩ := List.mem_map.mp hj
      exact ⟨q.2, by rw [← e]; exact hq⟩
    have ownI : ∀ j p, OwnAt (putOuts ρ as outs) σ j p ↔ OwnAt ρ σ j p := fun j p => by
      by_cases hj : j ∈ iosOf as
      · obtain ⟨q, hq⟩ := inn j hj
        obtain ⟨d', _, h⟩ := at_ _ hq
        rcases h with ⟨⟨x, h1⟩, h2⟩ | ⟨⟨x, h1⟩, h2⟩
        · exact ⟨fun z => ⟨⟨x, .inl h1⟩, z.2⟩, fun z => ⟨⟨d', .inl h2⟩, z.2⟩⟩
        · exact ⟨fun z => ⟨⟨x, .inr h1⟩, z.2⟩, fun z => ⟨⟨d', .inr h2⟩, z.2⟩⟩
      · unfold OwnAt
        rw [out j hj]
    have mm : Mm F' (putOuts ρ as outs) σ = Mm F' ρ σ := by
      funext a
      exact propext ⟨fun z => z.imp id fun ⟨j, z⟩ => ⟨j, (ownI j a).mp z⟩, fun z => z.imp id fun ⟨j, z⟩ => ⟨j, (ownI j a).mpr z⟩⟩
    have le : ∀ a o, Hr H (Mm F ρ σ) a = some o → Hr H' (Mm F' ρ σ) a = some o := hr_mono (fun a o n e => O.frame a o (fun z => n (.inr (mIO a z))) e) fun a z => by
      rcases z with z | z
      · rcases f2 a z with z | z
        · exact .inl (.inl z)
        · exact .inr z
      · exact .inl (.inr z)
    have kp : ∀ a, a ∉ ps.map (·.2) → H a ≠ none → H' a = H a := fun a n e => by
      cases q : H a with
      | none => exact absurd q e
      | some o => exact O.frame a o n q
    refine ⟨⟨by rw [putOuts_len]; exact S.len, fun i j p h1 h2 => S.inj i j p ((ownI i p).mp h1) ((ownI j p).mp h2), fun i p h z => ?_, fun i s e => ?_, fun a o n e => ?_, fun i p h => S.ownf i p ((ownI i p).mp h), f3, fun i p h => ?_⟩, fun a o e => by rw [mm]; exact le a o e, fun p z => ⟨f1 p z, ?_⟩, fun i p h => (ownI i p).mp h, fun i ⟨x, z⟩ => ?_⟩
    · rcases f2 p z with z | z
      · exact S.dis i p ((ownI i p).mp h) z
      · exact S.own ((ownI i p).mp h) z
    · rw [mm]
      by_cases hj : i ∈ iosOf as
      · obtain ⟨q, hq⟩ := inn i hj
        obtain ⟨d', c, h⟩ := at_ _ hq
        have hs : σ[i]? = some (some (.ref q)) := (own _ hq).2
        rcases h with ⟨_, h2⟩ | ⟨_, h2⟩
        · rw [h2] at e; cases e
          exact ⟨q, hs, c⟩
        · rw [h2] at e; cases e
          exact ⟨q, hs, c⟩
      · rw [out i hj] at e
        have q := S.slot i s e
        have nin : ∀ p, OwnAt ρ σ i p → p ∉ ps.map (·.2) := fun p h z => by
          obtain ⟨r, hr, e2⟩ := List.mem_map.mp z
          have := S.inj i r.1 p h (e2 ▸ own r hr)
          exact hj (by rw [ix, this]; exact List.mem_map_of_mem hr)
        cases s with
        | un => trivial
        | val d => obtain ⟨v, e1, q⟩ := q; exact ⟨v, e1, q.le le⟩
        | own d => obtain ⟨p, e1, q⟩ := q; exact ⟨p, e1, q.le le (kp p (nin p ⟨⟨d, .inl e⟩, e1⟩) q.some)⟩
        | io d => obtain ⟨p, e1, q⟩ := q; exact ⟨p, e1, q.le le (kp p (nin p ⟨⟨d, .inr e⟩, e1⟩) q.some)⟩
    · refine O.frame a o (fun z => ?_) (S.frame a o n e)
      obtain ⟨i, z⟩ := mIO a z
      rcases S.ownf i a z with z | z
      · exact n z
      · rw [e] at z; cases z
    · obtain ⟨⟨x, h1⟩, h2⟩ := S.ios i p h
      refine ⟨?_, h2⟩
      by_cases hj : i ∈ iosOf as
      · obtain ⟨q, hq⟩ := inn i hj
        obtain ⟨d', _, h⟩ := at_ _ hq
        rcases h with ⟨⟨y, h3⟩, _⟩ | ⟨_, h4⟩
        · rw [h3] at h1; cases h1
        · exact ⟨d', h4⟩
      · exact ⟨x, by rw [out i hj]; exact h1⟩
    · refine kp p (fun h => ?_) (S.fdom p z)
      obtain ⟨i, h⟩ := mIO p h
      exact S.dis i p h z
    · by_cases hj : i ∈ iosOf as
      · obtain ⟨q, hq⟩ := inn i hj
        obtain ⟨d', _, h⟩ := at_ _ hq
        rcases h with ⟨_, h4⟩ | ⟨_, h4⟩
        · exact ⟨d', .inl h4⟩
        · exact ⟨d', .inr (.inl h4)⟩
      · exact ⟨x, by rw [out i hj]; exact z⟩
  have mm2 : ∀ F', (∀ a, Mm F' (putOuts ρ as outs) σ a → Mm F' ρ σ a) := fun F' a z => by
    refine z.imp id fun ⟨j, z⟩ => ?_
    by_cases hj : j ∈ iosOf as
    · rw [ix] at hj
      obtain ⟨q, hq, e⟩ := List.mem_map.mp hj
      have h1 := own q hq
      have h2 : σ[j]? = some (some (.ref q.2)) := e ▸ h1.2
      have h3 := z.2
      rw [h2] at h3; cases h3
      exact ⟨q.1, h1⟩
    · refine ⟨j, ?_⟩
      obtain ⟨⟨x, h1⟩, h2⟩ := z
      rw [putOuts_ne as ρ outs j hj] at h1
      exact ⟨⟨x, h1⟩, h2⟩
  rcases O.val with ⟨rfl, dt, ol⟩ | ⟨rfl, p, rfl, hn, c, ol⟩
  · rw [eM] at dt ol
    have P := fin F (fun _ h => h) (fun _ h => .inl h) (fun a z => by
      have h1 := S.fdom a z
      cases q : H a with
      | none => exact absurd q h1
      | some o =>
        rw [O.frame a o (fun h => by
          obtain ⟨i, h⟩ := mIO a h
          exact S.dis i a h z) q]
        simp) ol
    exact ⟨F, P, .frz rfl (dt.le (hr_mono (fun _ _ _ e => e) fun a z => .inl (mm2 F a z)))⟩
  · have e2 : addF (orL (fun a => Mm F ρ σ a ∧ a ∉ ps.map (·.2)) (ps.map (·.2))) p = Mm (addF F p) ρ σ := by
      rw [eM]
      funext a
      refine propext ⟨fun z => ?_, fun z => ?_⟩
      · rcases z with z | z | z
        · exact .inl (.inl z)
        · exact .inl (.inr z)
        · exact .inr z
      · rcases z with (z | z) | z
        · exact .inl z
        · exact .inr (.inl z)
        · exact .inr (.inr z)
    rw [e2] at c ol
    have nF : ¬ F p := fun z => S.fdom p z hn
    have P := fin (addF F p) (fun _ h => .inr h) (fun a h => h.elim (fun e => .inr (e ▸ hn)) .inl) (fun a z => by
      rcases z with z | z
      · rw [z]; exact c.some
      · have h1 := S.fdom a z
        cases q : H a with
        | none => exact absurd q h1
        | some o =>
          rw [O.frame a o (fun h => by
            obtain ⟨i, h⟩ := mIO a h
            exact S.dis i a h z) q]
          simp) ol
    obtain ⟨n1, n2⟩ := S.new0 hn
    exact ⟨addF F p, P, .fr rfl nF n1 n2 (c.le (hr_mono (fun _ _ _ e => e) fun a z => .inl (mm2 (addF F p) a z)) rfl)⟩
theorem map_perm {G : GD} {σ : L2.St} {F : AS} {ρ : Env} {H : Hp} {vs : List V} {as : List Ar} (h : ArR G σ F ρ H vs as) : vs.length = as.length := by
  induction h with
  | nil => rfl
  | v _ _ ih => exact congrArg (· + 1) ih
  | io _ _ ih => exact congrArg (· + 1) ih
/-- the callee's promise, from the caller's state -/
theorem se_docall {cl : Nat → List Bool → List D → CRes} {f n : Nat} {X : Fr} {F : AS} {ρ ρ' : Env} {σ : L2.St} {H : Hp} {as : List Ar} {vs : List V} {d : D} {k : Kd} {Q : VK} {E : XK}
    (S : SR G X F ρ σ H) (r : ArR G σ F ρ H vs as) (hn : ∀ fl ds x, cl f fl ds = some x → ds.length = n) (h : doCall cl f as ρ = .ok (d, k) ρ') (q : ∀ v H' F', Po G X σ F ρ H F' ρ' H' → VR G X σ F F' ρ' H' v d k → Q v H') :
    spOf G (cl f) n vs H Q E := by
  unfold doCall at h
  cases e1 : argsD ρ as with
  | none => rw [e1] at h; cases h
  | some ds =>
    rw [e1] at h
    dsimp only at h
    split at h
    · rename_i nd
      cases e2 : cl f (as.map Ar.isIo) ds with
      | none => rw [e2] at h; cases h
      | some x =>
        obtain ⟨d0, b, outs⟩ := x
        rw [e2] at h
        dsimp only at h
        cases h
        obtain ⟨ps, hp, hin⟩ := ar_in S r e1
        have own := hp.own
        have nd2 : (ps.map (·.2)).Nodup := nodup_snd S.inj own (hp.ix ▸ nd)
        have eM : orL (fun a => Mm F ρ σ a ∧ a ∉ ps.map (·.2)) (ps.map (·.2)) = Mm F ρ σ := by
          funext a
          refine propext ⟨fun z => ?_, fun z => ?_⟩
          · rcases z with z | z
            · exact z.1
            · obtain ⟨q, hq, e⟩ := List.mem_map.mp z
              exact .inr ⟨q.1, e ▸ own q hq⟩
          · by_cases h : a ∈ ps.map (·.2)
            · exact .inr h
            · exact .inl ⟨z, h⟩
        refine ⟨as.map Ar.isIo, ds, ps.map (·.2), fun a => Mm F ρ σ a ∧ a ∉ ps.map (·.2), d, b, outs, e2, hn _ _ _ e2, by rw [eM]; exact hin, nd2, fun a h z => z.2 h, fun a z => S.mdom a z.1, fun v H' O => ?_⟩
        obtain ⟨F', P, R⟩ := po_call S hp nd O
        exact q v H' F' P R
    · cases h
theorem se_call {cl : Nat → List Bool → List D → CRes} {f n : Nat} {ea : Env → R (List Ar)} {t : TA} {E : XK} (hn : ∀ fl ds x, cl f fl ds = some x → ds.length = n) (ha : SA G ea t) :
    SE G (fun ρ => (ea ρ).bind fun as ρ => doCall cl f as ρ) (tCall (spOf G (cl f) n) [] E t) := by
  intro X F ρ σ H Q d k ρ' S h q
  obtain ⟨as, ρ1, h1, h⟩ := bind_ok h
  refine ha X F ρ σ H _ as ρ1 S h1 fun vs H1 p r => ?_
  rw [List.append_nil]
  exact se_docall p.sr r hn h fun v H2 F2 p2 r2 => q v H2 F2 (p.trans p2) r2
theorem ArR.append {σ : L2.St} {F : AS} {ρ : Env} {H : Hp} {vs zs : List V} {as bs : List Ar} (h : ArR G σ F ρ H vs as) (h2 : ArR G σ F ρ H zs bs) : ArR G σ F ρ H (vs ++ zs) (as ++ bs) := by
  induction h with
  | nil => exact h2
  | v q _ ih => exact .v q ih
  | io q _ ih => exact .io q ih
theorem ArR.get {σ : L2.St} {F : AS} {ρ : Env} {H : Hp} : ∀ {vs : List V} {as : List Ar}, ArR G σ F ρ H vs as → ∀ (i : Nat), (vs[i]? = none ∧ as[i]? = none) ∨ ∃ v a, vs[i]? = some v ∧ as[i]? = some a ∧ ∀ {us bs}, ArR G σ F ρ H us bs → ArR G σ F ρ H (v :: us) (a :: bs)
  | _, _, .nil, i => .inl ⟨by simp, by simp⟩
  | _, _, .v q r, 0 => .inr ⟨_, _, rfl, rfl, fun h => .v q h⟩
  | _, _, .io q r, 0 => .inr ⟨_, _, rfl, rfl, fun h => .io q h⟩
  | _, _, .v q r, i + 1 => by simpa using r.get i
  | _, _, .io q r, i + 1 => by simpa using r.get i
theorem ArR.pick {σ : L2.St} {F : AS} {ρ : Env} {H : Hp} {vs : List V} {as : List Ar} (h : ArR G σ F ρ H vs as) : ∀ p : List Nat, ArR G σ F ρ H (Mp.pick p vs) (Mp.pick p as)
  | [] => .nil
  | i :: p => by
    unfold Mp.pick
    rw [List.filterMap_cons, List.filterMap_cons]
    rcases h.get i with ⟨e1, e2⟩ | ⟨v, a, e1, e2, k⟩
    · rw [e1, e2]; exact h.pick p
    · rw [e1, e2]; exact k (h.pick p)
theorem evA_len {cl : Nat → List Bool → List D → CRes} : ∀ (es : E) (ρ : Env) (as : List Ar) (ρ' : Env), evA cl es ρ = .ok as ρ' → as.length = cntA es
  | .nil, ρ, as, ρ', h => by cases h; rfl
  | .cons a r, ρ, as, ρ', h => by
    obtain ⟨x, ρ1, _, h⟩ := bind_ok (show ((evE cl a ρ).bind fun x ρ => (settle ρ x.1 x.2).bind fun d ρ => (evA cl r ρ).bind fun ds ρ => .ok (.v d :: ds) ρ) = .ok as ρ' from h)
    obtain ⟨d, ρ2, _, h⟩ := bind_ok h
    obtain ⟨ds, ρ3, h3, h⟩ := bind_ok h
    cases h
    show ds.length + 1 = cntA r + 1
    rw [evA_len r _ _ _ h3]
  | .ioa i r, ρ, as, ρ', h => by
    have k : ((evA cl r ρ).bind fun ds ρ => (.ok (.io i :: ds) ρ : R (List Ar))) = .ok as ρ' → as.length = cntA r + 1 := fun h => by
      obtain ⟨ds, ρ3, h3, h⟩ := bind_ok h
      cases h
      show ds.length + 1 = cntA r + 1
      rw [evA_len r _ _ _ h3]
    have h' : (match getS ρ i with | .own _ => (evA cl r ρ).bind fun ds ρ => (.ok (.io i :: ds) ρ : R (List Ar)) | .io _ => (evA cl r ρ).bind fun ds ρ => (.ok (.io i :: ds) ρ : R (List Ar)) | _ => .no) = .ok as ρ' := h
    cases e : getS ρ i with
    | own d => rw [e] at h'; exact k h'
    | io d => rw [e] at h'; exact k h'
    | _ => rw [e] at h'; cases h'
  | .var _, _, _, _, h => by cases h
  | .con _, _, _, _, h => by cases h
  | .glo _ _, _, _, _, h => by cases h
  | .tup _, _, _, _, h => by cases h
  | .lst _, _, _, _, h => by cases h
  | .neg _, _, _, _, h => by cases h
  | .bin _ _ _, _, _, _, h => by cases h
  | .cmp _ _ _, _, _, _, h => by cases h
  | .cmp2 _ _ _ _ _, _, _, _, h => by cases h
  | .not _, _, _, _, h => by cases h
  | .and _ _, _, _, _, h => by cases h
  | .or _ _, _, _, _, h => by cases h
  | .ife _ _ _, _, _, _, h => by cases h
  | .idx _ _, _, _, _, h => by cases h
  | .sl _ _ _, _, _, _, h => by cases h
  | .call _ _, _, _, _, h => by cases h
  | .callk _ _ _ _, _, _, _, h => by cases h
  | .fld _ _, _, _, _, h => by cases h
  | .mk _ _ _ _, _, _, _, h => by cases h
  | .isinc _ _ _, _, _, _, h => by cases h
  | .calf _ _ _, _, _, _, h => by cases h
  | .calv _ _, _, _, _, h => by cases h
  | .vop _ _ _ _, _, _, _, h => by cases h
  | .uop _ _, _, _, _, h => by cases h
  | .bm _ _ _, _, _, _, h => by cases h
  | .mkk _ _ _ _ _ _, _, _, _, h => by cases h
  | .oeq _ _ _ _ _, _, _, _, h => by cases h
  | .blt _ _, _, _, _, h => by cases h
  | .isin _ _, _, _, _, h => by cases h
  | .lc _ _ _ _ _, _, _, _, h => by cases h
  | .rng1 _, _, _, _, h => by cases h
  | .rng2 _ _, _, _, _, h => by cases h
  | .enm _, _, _, _, h => by cases h
  | .zip _ _, _, _, _, h => by cases h
  | .it _, _, _, _, h => by cases h
  | .tr _, _, _, _, h => by cases h
theorem se_callk {cl : Nat → List Bool → List D → CRes} {f n : Nat} {p : List Nat} {N M : Nat} {ea eb : Env → R (List Ar)} {t tk : TA} {E : XK} {gV : List V → List V → List V} (hn : ∀ fl ds x, cl f fl ds = some x → ds.length = n) (ha : SA G ea t) (hb : SA G eb tk)
    (hN : ∀ ρ as ρ', ea ρ = .ok as ρ' → as.length = N) (hM : ∀ ρ as ρ', eb ρ = .ok as ρ' → as.length = M) (hg : ∀ vs zs, vs.length = N → zs.length = M → gV vs zs = pick p (vs ++ zs)) :
    SE G (fun ρ => (ea ρ).bind fun as ρ => (eb ρ).bind fun bs ρ => doCall cl f (pick p (as ++ bs)) ρ) (tCallK (spOf G (cl f) n) gV E t tk) := by
  intro X F ρ σ H Q d k ρ' S h q
  obtain ⟨as, ρ1, h1, h⟩ := bind_ok h
  obtain ⟨bs, ρ2, h2, h⟩ := bind_ok h
  refine ha X F ρ σ H _ as ρ1 S h1 fun vs H1 p1 r1 => ?_
  refine hb X F ρ1 σ H1 _ bs ρ2 p1.sr h2 fun zs H2 p2 r2 => ?_
  rw [hg vs zs ((map_perm r1).trans (hN _ _ _ h1)) ((map_perm r2).trans (hM _ _ _ h2))]
  exact se_docall p2.sr (((r1.le p2.le).append r2).pick p) hn h fun v H3 F3 p3 r3 => q v H3 F3 ((p1.trans p2).trans p3) r3
def del (H : Hp) (p : Addr) : Hp := fun a => if a = p then none else H a
theorem del_some {H : Hp} {p a : Addr} {o : HO} : del H p a = some o ↔ a ≠ p ∧ H a = some o := by
  unfold del
  by_cases h : a = p
  · rw [if_pos h]; exact ⟨fun e => (nomatch e), fun e => absurd h e.1⟩
  · rw [if_neg h]; exact ⟨fun e => ⟨h, e⟩, fun e => e.2⟩
theorem del_ne {H : Hp} {p a : Addr} (h : a ≠ p) : del H p a = H a := by unfold del; rw [if_neg h]
/-- a temporary is taken out of the heap -/
theorem Po.hide {X : Fr} {F : AS} {ρ ρ' : Env} {σ : L2.St} {H H' : Hp} {p : Addr} (P : Po G X σ F ρ H (addF F p) ρ' H') (nF : ¬ F p) (h0 : X.H0 p = none) : Po G X σ F ρ H F ρ' (del H' p) := by
  have S := P.sr
  have le : ∀ a o, Hr H' (Mm (addF F p) ρ' σ) a = some o → Hr (del H' p) (Mm F ρ' σ) a = some o := fun a o e => by
    obtain ⟨n, e⟩ := hr_some.mp e
    exact hr_some.mpr ⟨fun z => n (z.imp .inr id), del_some.mpr ⟨fun z => n (.inl (.inl z)), e⟩⟩
  refine ⟨⟨S.len, S.inj, fun i q a z => S.dis i q a (.inr z), fun i s e => ?_, fun a o n e => del_some.mpr ⟨fun z => (by rw [z, h0] at e; cases e), S.frame a o n e⟩, S.ownf, fun q z => ?_, S.ios⟩, fun a o e => le a o (P.le a o e), fun q z => ⟨z, ?_⟩, P.sub, P.liv⟩
  · have q := S.slot i s e
    have ne : ∀ q, OwnAt ρ' σ i q → q ≠ p := fun q h e => S.dis i q h (.inl e)
    cases s with
    | un => trivial
    | val d => obtain ⟨v, e, q⟩ := q; exact ⟨v, e, q.le le⟩
    | own d => obtain ⟨v, e1, q⟩ := q; exact ⟨v, e1, q.le le (del_ne (ne v ⟨⟨d, .inl e⟩, e1⟩))⟩
    | io d => obtain ⟨v, e1, q⟩ := q; exact ⟨v, e1, q.le le (del_ne (ne v ⟨⟨d, .inr e⟩, e1⟩))⟩
  · rw [del_ne fun (e : q = p) => nF (e ▸ z)]; exact S.fdom q (.inr z)
  · rw [del_ne fun (e : q = p) => nF (e ▸ z)]; exact (P.keep q z).2
theorem se_calf {cl : Nat → List Bool → List D → CRes} {f n : Nat} {ea : Env → R (D × Kd)} {er : Env → R (List Ar)} {ta : TE} {t : TA} {E : XK} (hn : ∀ fl ds x, cl f fl ds = some x → ds.length = n) (ha : SE G ea ta) (hr : SA G er t) :
    SE G (fun ρ => (ea ρ).bind fun x ρ => match x.2 with | .fr => (er ρ).bind fun as ρ => doCallF cl f x.1 as ρ | _ => .no) (tCall (spOf G (cl f) n) [] E (tCons ta t)) := by
  intro X F ρ σ H Q d k ρ' S h q
  obtain ⟨⟨d0, k0⟩, ρ1, h1, h⟩ := bind_ok h
  refine ha X F ρ σ H _ d0 k0 ρ1 S h1 fun v1 H1 F1 p1 r1 => ?_
  cases r1 with
  | frz => cases h
  | pk => cases h
  | @fr p _ e nF h0 nio c =>
    subst e
    obtain ⟨as, ρ2, h2, h⟩ := bind_ok h
    refine hr X (addF F p) ρ1 σ H1 _ as ρ2 p1.sr h2 fun vs H2 p2 r2 => ?_
    show spOf G (cl f) n ((V.ref p :: vs) ++ []) H2 Q E
    rw [List.append_nil]
    unfold doCallF at h
    cases e1 : argsD ρ2 as with
    | none => rw [e1] at h; cases h
    | some ds =>
      rw [e1] at h
      dsimp only at h
      split at h
      · rename_i nd
        cases e2 : cl f (true :: as.map Ar.isIo) (d0 :: ds) with
        | none => rw [e2] at h; cases h
        | some x =>
          obtain ⟨dv, b, outs0⟩ := x
          rw [e2] at h
          cases outs0 with
          | nil => cases h
          | cons o0 outs =>
            dsimp only at h
            cases h
            have S2 := p2.sr
            obtain ⟨ps, hp, hin⟩ := ar_in S2 r2 e1
            have own := hp.own
            have nd2 : (ps.map (·.2)).Nodup := nodup_snd S2.inj own (hp.ix ▸ nd)
            have pin : p ∉ ps.map (·.2) := fun z => by
              obtain ⟨q, hq, e⟩ := List.mem_map.mp z
              exact S2.dis q.1 q.2 (own q hq) (.inl e)
            have mio : ∀ a, a ∈ p :: ps.map (·.2) → Mm (addF F p) ρ2 σ a := fun a z => by
              rcases List.mem_cons.mp z with z | z
              · exact .inl (.inl z)
              · obtain ⟨q, hq, e⟩ := List.mem_map.mp z
                exact .inr ⟨q.1, e ▸ own q hq⟩
            have eM : orL (fun a => Mm (addF F p) ρ2 σ a ∧ a ∉ p :: ps.map (·.2)) (p :: ps.map (·.2)) = Mm (addF F p) ρ2 σ := by
              funext a
              refine propext ⟨fun z => z.elim (·.1) (mio a), fun z => ?_⟩
              by_cases h : a ∈ p :: ps.map (·.2)
              · exact .inr h
              · exact .inl ⟨z, h⟩
            have c2 : OwnC G (Mm (addF F p) ρ2 σ) H2 p d0 := c.le p2.le (p2.keep p (.inl rfl)).2
            refine ⟨true :: as.map Ar.isIo, d0 :: ds, p :: ps.map (·.2), fun a => Mm (addF F p) ρ2 σ a ∧ a ∉ p :: ps.map (·.2), d, b, o0 :: outs, e2, hn _ _ _ e2, by rw [eM]; exact .io c2 hin, List.nodup_cons.mpr ⟨pin, nd2⟩, fun a h z => z.2 h, fun a z => S2.mdom a z.1, fun v H3 O => ?_⟩
            have P := (p1.trans p2).hide nF h0
            have sub : ∀ a, orL (fun a => Mm F ρ2 σ a ∧ a ∉ ps.map (·.2)) (ps.map (·.2)) a → orL (fun a => Mm (addF F p) ρ2 σ a ∧ a ∉ p :: ps.map (·.2)) (p :: ps.map (·.2)) a := fun a z => by
              rw [eM]
              rcases z with z | z
              · exact z.1.imp .inr id
              · exact mio a (List.mem_cons_of_mem _ z)
            have outL : ∀ (M M' : AS), (∀ a, M' a → M a) → ∀ {io : List Addr} {os : List D}, OutL G M H3 io os → OutL G M' H3 io os := fun M M' hM => by
              intro io os h
              induction h with
              | nil => exact .nil
              | cons c _ ih => exact .cons (c.le (hr_mono (fun _ _ _ e => e) fun a z => .inl (hM a z)) rfl) ih
            have O2 : OutR G (fun a => Mm F ρ2 σ a ∧ a ∉ ps.map (·.2)) (ps.map (·.2)) (del H2 p) v H3 d b outs := by
              refine ⟨fun a o n e => ?_, ?_⟩
              · obtain ⟨e1, e2⟩ := del_some.mp e
                exact O.frame a o (fun z => by rcases List.mem_cons.mp z with z | z; exact e1 z; exact n z) e2
              · rcases O.val with ⟨rfl, dt, ol⟩ | ⟨rfl, q, rfl, hq, c, ol⟩
                · cases ol with
                  | cons _ ol => exact .inl ⟨rfl, dt.le (hr_mono (fun _ _ _ e => e) fun a z => .inl (sub a z)), outL _ _ sub ol⟩
                · have sub2 : ∀ a, addF (orL (fun a => Mm F ρ2 σ a ∧ a ∉ ps.map (·.2)) (ps.map (·.2))) q a → addF (orL (fun a => Mm (addF F p) ρ2 σ a ∧ a ∉ p :: ps.map (·.2)) (p :: ps.map (·.2))) q a := fun a z => z.imp id (sub a)
                  cases ol with
                  | cons _ ol => exact .inr ⟨rfl, q, rfl, (by unfold del; split <;> first | rfl | exact hq), c.le (hr_mono (fun _ _ _ e => e) fun a z => .inl (sub2 a z)) rfl, outL _ _ sub2 ol⟩
            obtain ⟨F', P', R⟩ := po_call P.sr hp nd O2
            exact q v H3 F' (P.trans P') R
      · cases h
/-- a call of the def that a name holds -/
theorem se_calv {cl : Nat → List Bool → List D → CRes} {n : Nat → Nat} {i : Nat} {ea : Env → R (List Ar)} {t : TA} {Sp : Addr → Option L2.Sp} (hn : ∀ f fl ds x, cl f fl ds = some x → ds.length = n f) (hS : ∀ f fl ds x, cl f fl ds = some x → Sp (G.fa f) = some (spOf G (cl f) (n f))) (ha : SA G ea t) :
    SE G (fun ρ => match getS ρ i with | .val (.fn f) => (ea ρ).bind fun as ρ => doCall cl f as ρ | _ => .no) (tCallA i Sp t) := by
  intro X F ρ σ H Q d k ρ' S h q
  dsimp only at h
  cases e : getS ρ i with
  | val x =>
    rw [e] at h
    cases x with
    | fn f =>
      obtain ⟨as, ρ1, h1, h⟩ := bind_ok h
      obtain ⟨v, e1, c⟩ := S.slot i _ (getS_eq e (by simp))
      cases c
      have hw : ∃ fl ds x, cl f fl ds = some x := by
        unfold doCall at h
        cases e2 : argsD ρ1 as with
        | none => rw [e2] at h; cases h
        | some ds =>
          rw [e2] at h
          dsimp only at h
          split at h
          · cases e3 : cl f (as.map Ar.isIo) ds with
            | none => rw [e3] at h; cases h
            | some x => exact ⟨_, _, x, e3⟩
          · cases h
      obtain ⟨fl, ds, x, hw⟩ := hw
      refine ⟨G.fa f, _, e1, hS f fl ds x hw, ?_⟩
      refine ha X F ρ σ H _ as ρ1 S h1 fun vs H1 p r => ?_
      exact se_docall p.sr r (hn f) h fun v H2 F2 p2 r2 => q v H2 F2 (p.trans p2) r2
    | _ => cases h
  | _ => rw [e] at h; cases h
end
end Mp

set_option maxRecDepth 100000
set_option maxHeartbeats 4000000
/-! Mp9: what a loop walks; targets; comprehensions, sound. -/
namespace Mp
open PySem PySem.Spec PyProof.Rows L2

/-- any list or tuple -/
def iSeq (K : PySem.W.Frag) (tl : TE) : TI := fun σ H R => tl σ H fun x H1 => ∃ a, x = .ref a ∧ (((∃ xs, SqL K H1 a xs) ∧ R (Itl K a) H1) ∨ ((∃ xs, SqT K H1 a xs) ∧ R (Itt K a) H1) ∨ (∃ lo hi, H1 a = some (.rng lo hi) ∧ (inR lo ∧ inR hi) ∧ R (Itr lo (hi - lo).toNat) H1))
theorem pi_seq {X : Cx} {tg l : Expr} {tl : TE} (hl : PE X l tl) : PI X tg l (iSeq X.K tl) := by
  refine ⟨fun pins s σ H R I h => ?_⟩
  refine thn (hl.run pins s σ H _ I h) fun v s1 ⟨x, H1, I1, r1, q1⟩ => ?_
  obtain ⟨a, e, ⟨⟨xs, hq⟩, q⟩ | ⟨⟨xs, hq⟩, q⟩ | ⟨lo, hi, hq, ⟨⟨h1, h2⟩, h3, h4⟩, q⟩⟩ := q1
  · subst e
    cases r1
    obtain ⟨its, rv, p, hz⟩ := I1.list hq
    refine wpAny_pyIter_list p.isList ?_
    refine ⟨s1.heap.objs.size, [s1.heap.objs.size], _, _, H1, rfl, I1.kept (t' := s1.toks) fun b o e => Heap.get?_push_of_some _ e, turn_list a _, ⟨_, Heap.get?_push_size _ rfl, rfl, rfl⟩, fun b hb => ?_, q⟩
    have e : b = s1.heap.objs.size := by simpa using hb
    subst e
    exact I1.fpOk (Nat.le_refl _) (I1.hok.fresh (Nat.le_refl _))
  · subst e
    cases r1
    obtain ⟨its, rv, p, hz⟩ := I1.tuple hq
    refine wpAny_pyIter_tuple (show s1.heap.IsTuple a its.toArray from p) ?_
    refine ⟨s1.heap.objs.size, [s1.heap.objs.size], _, _, H1, rfl, I1.kept (t' := s1.toks) fun b o e => Heap.get?_push_of_some _ e, turn_tuple a _, ⟨_, Heap.get?_push_size _ rfl, rfl, rfl⟩, fun b hb => ?_, q⟩
    have e : b = s1.heap.objs.size := by simpa using hb
    subst e
    exact I1.fpOk (Nat.le_refl _) (I1.hok.fresh (Nat.le_refl _))
  · subst e
    cases r1
    obtain ⟨t1, t2, t3, ho⟩ := I1.hok a _ hq
    refine wpAny_pyIter_range (t := t1) (u := t2) (v := t3) ho (small_one h1 h2 h3 h4) ?_
    refine ⟨s1.heap.objs.size, [s1.heap.objs.size], _, _, H1, rfl, I1.kept (t' := s1.toks) fun b o e => Heap.get?_push_of_some _ e, turn_range _ lo (hi - lo).toNat, ?_, fun b hb => ?_, q⟩
    · have e1 : lo + ((0 : Nat) : Int) * 1 = lo := by simp
      have e2 : (((hi - lo).toNat : Nat) : Int) - ((0 : Nat) : Int) = Builtin.Range.rangeSize lo hi 1 := by rw [rangeSize_one]; split <;> omega
      show IsRangeIter _ _ (lo + ((0 : Nat) : Int) * 1) ((((hi - lo).toNat : Nat) : Int) - ((0 : Nat) : Int)) 1
      rw [e1, e2]
      exact Heap.get?_push_size _ rfl
    · have e : b = s1.heap.objs.size := by simpa using hb
      subst e
      exact I1.fpOk (Nat.le_refl _) (I1.hok.fresh (Nat.le_refl _))

/-- the items that come, while what L shows stands -/
structure ItOk (G : GD) (L : Hp) (J : It) (ds : List D) : Prop where
  stop : ∀ (H : Hp) (M : AS), (∀ a o, L a = some o → Hr H M a = some o) → J.stop ds.length H
  go : ∀ (H : Hp) (M : AS) (i : Nat) (d : D), (∀ a o, L a = some o → Hr H M a = some o) → ds[i]? = some d → J.go i H
  yld : ∀ (H : Hp) (M : AS) (i : Nat) (d : D) (x : V) (H' : Hp), (∀ a o, L a = some o → Hr H M a = some o) → ds[i]? = some d → J.yld i H x H' →
    (H' = H ∧ Dt G (Hr H M) x d) ∨ ∃ (T : Addr) (vs : List V) (es : List D), H T = none ∧ H' = upd H T (.tup vs) ∧ x = .ref T ∧ d = .tup es ∧ DtA G (Hr H M) vs es
def SI (G : GD) (ev : Env → R (List D)) (wi : TI) : Prop := ∀ (X : Fr) (F : AS) (ρ : Env) (σ : L2.St) (H : Hp) (Q : It → Hp → Prop) (ds : List D) (ρ' : Env), SR G X F ρ σ H → ev ρ = .ok ds ρ' →
  (∀ J H', Po G X σ F ρ H F ρ' H' → ItOk G (Hr H' (Mm F ρ' σ)) J ds → Q J H') → wi σ H Q
theorem itok_seqL {G : GD} {L : Hp} {a : Addr} {vs : List V} {ds : List D} (h : SqL G.K L a vs) (r : DtA G L vs ds) : ItOk G L (Itl G.K a) ds := by
  have sq : ∀ (H : Hp) (M : AS), (∀ a o, L a = some o → Hr H M a = some o) → SqL G.K H a vs := fun H M k => sql_le hr_sub (sql_le k h)
  refine ⟨fun H M k => ⟨vs, sq H M k, by rw [r.length]; exact Nat.le_refl _⟩, fun H M i d k e => ?_, fun H M i d x H' k e y => ?_⟩
  · obtain ⟨v, h1, _⟩ := r.get e
    exact ⟨vs, v, sq H M k, h1⟩
  · obtain ⟨rfl, y⟩ := y
    obtain ⟨v, h1, h2⟩ := r.get e
    have := (y vs (sq _ M k)).symm.trans h1
    cases this
    exact .inl ⟨rfl, h2.le k⟩
theorem itok_seqT {G : GD} {L : Hp} {a : Addr} {vs : List V} {ds : List D} (h : SqT G.K L a vs) (r : DtA G L vs ds) : ItOk G L (Itt G.K a) ds := by
  have sq : ∀ (H : Hp) (M : AS), (∀ a o, L a = some o → Hr H M a = some o) → SqT G.K H a vs := fun H M k => sqt_le hr_sub (sqt_le k h)
  refine ⟨fun H M k => ⟨vs, sq H M k, by rw [r.length]; exact Nat.le_refl _⟩, fun H M i d k e => ?_, fun H M i d x H' k e y => ?_⟩
  · obtain ⟨v, h1, _⟩ := r.get e
    exact ⟨vs, v, sq H M k, h1⟩
  · obtain ⟨rfl, y⟩ := y
    obtain ⟨v, h1, h2⟩ := r.get e
    have := (y vs (sq _ M k)).symm.trans h1
    cases this
    exact .inl ⟨rfl, h2.le k⟩
theorem rng_get {lo hi : Int} {i : Nat} {d : D} (h : (rngD lo hi)[i]? = some d) : i < (hi - lo).toNat ∧ d = .int (lo + i) := by
  unfold rngD at h
  rw [List.getElem?_map] at h
  cases e : (List.range (hi - lo).toNat)[i]? with
  | none => rw [e] at h; cases h
  | some j =>
    rw [e] at h
    obtain ⟨h1, h2⟩ := List.getElem?_eq_some_iff.mp e
    rw [List.getElem_range] at h2
    subst h2
    cases h
    exact ⟨by simpa using h1, rfl⟩
theorem rng_len {lo hi : Int} : (rngD lo hi).length = (hi - lo).toNat := by
  unfold rngD
  rw [List.length_map, List.length_range]
theorem itok_rng {G : GD} {L : Hp} {lo hi : Int} : ItOk G L (Itr lo (hi - lo).toNat) (rngD lo hi) := by
  refine ⟨fun H M k => by rw [rng_len]; exact Nat.le_refl _, fun H M i d k e => (rng_get e).1, fun H M i d x H' k e y => ?_⟩
  obtain ⟨rfl, rfl⟩ := y
  rw [(rng_get e).2]
  exact .inl ⟨rfl, .int _⟩
section
variable {G : GD}
theorem si_it {ea : Env → R (D × Kd)} {ta : TE} (ha : SE G ea ta) : SI G (fun ρ => (ea ρ).bind fun x ρ => (settle ρ x.1 x.2).bind fun d ρ => R.of (seqI d) ρ) (iSeq G.K ta) := by
  intro X F ρ σ H Q ds ρ' S h q
  obtain ⟨⟨d1, k1⟩, ρ1, h1, h⟩ := bind_ok h
  obtain ⟨d2, ρ2, h2, h⟩ := bind_ok h
  obtain ⟨h3, rfl⟩ := of_ok h
  refine ha X F ρ σ H _ d1 k1 ρ1 S h1 fun v1 H1 F1 p1 r1 => ?_
  obtain ⟨p2, r2⟩ := settle_ok p1 r1 h2
  cases d2 with
  | tup xs =>
    cases h3
    cases r2 with
    | tup s r => exact ⟨_, rfl, .inr (.inl ⟨⟨_, sqt_le hr_sub s⟩, q _ _ p2 (itok_seqT s r)⟩)⟩
  | lst xs =>
    cases h3
    cases r2 with
    | lst s r => exact ⟨_, rfl, .inl ⟨⟨_, .inl (rd_le hr_sub s)⟩, q _ _ p2 (itok_seqL (.inl s) r)⟩⟩
  | scr xs =>
    cases h3
    cases r2 with
    | scr s r => exact ⟨_, rfl, .inl ⟨⟨_, sql_le hr_sub s⟩, q _ _ p2 (itok_seqL s r)⟩⟩
  | rng lo hi =>
    have h3' : (if inR lo ∧ inR hi then some (rngD lo hi) else none) = some ds := h3
    split at h3'
    · rename_i c
      cases h3'
      cases r2 with
      | rng e => exact ⟨_, rfl, .inr (.inr ⟨lo, hi, hr_sub _ _ e, c, q _ _ p2 itok_rng⟩)⟩
    · cases h3'
  | _ => cases h3
theorem si_rng1 {ea : Env → R (D × Kd)} {ta : TE} (ha : SE G ea ta) : SI G (fun ρ => (ea ρ).bind fun x ρ => match x.1 with | .int n => if inR n then .ok (rngD 0 n) ρ else .no | _ => .no) (iRng1 (tCons ta tNil)) := by
  intro X F ρ σ H Q ds ρ' S h q
  obtain ⟨⟨d1, k1⟩, ρ1, h1, h⟩ := bind_ok h
  cases d1 with
  | int n =>
    dsimp only at h
    split at h
    · rename_i c
      cases h
      refine ha X F ρ σ H _ _ k1 ρ' S h1 fun v1 H1 F1 p1 r1 => ?_
      refine ⟨n, by rw [r1.int p1.sr], c.1, c.2, q _ _ (p1.drop (fun _ h => h) (sub_of p1)) ?_⟩
      have e : n.toNat = (n - 0).toNat := by rw [Int.sub_zero]
      rw [e]
      exact itok_rng
    · cases h
  | _ => cases h
theorem si_rng2 {ea eb : Env → R (D × Kd)} {ta tb : TE} (ha : SE G ea ta) (hb : SE G eb tb) :
    SI G (fun ρ => (ea ρ).bind fun x ρ => (eb ρ).bind fun y ρ => match x.1, y.1 with | .int m, .int n => if inR m ∧ inR n then .ok (rngD m n) ρ else .no | _, _ => .no) (iRng2 (tCons ta (tCons tb tNil))) := by
  intro X F ρ σ H Q ds ρ' S h q
  obtain ⟨⟨d1, k1⟩, ρ1, h1, h⟩ := bind_ok h
  obtain ⟨⟨d2, k2⟩, ρ2, h2, h⟩ := bind_ok h
  cases d1 with
  | int m =>
    cases d2 with
    | int n =>
      dsimp only at h
      split at h
      · rename_i c
        cases h
        refine ha X F ρ σ H _ _ k1 ρ1 S h1 fun v1 H1 F1 p1 r1 => ?_
        refine hb X F1 ρ1 σ H1 _ _ k2 ρ' p1.sr h2 fun v2 H2 F2 p2 r2 => ?_
        have pp := p1.trans p2
        exact ⟨m, n, by rw [r1.int p1.sr, r2.int p2.sr], ⟨c.1.1, c.1.2, c.2.1, c.2.2⟩, q _ _ (pp.drop (fun _ h => h) (sub_of pp)) itok_rng⟩
      · cases h
    | _ => cases h
  | _ => cases h
end

/-! ### targets -/
/-- what a store leaves -/
structure PoS (G : GD) (X : Fr) (F : AS) (ρ : Env) (σ : L2.St) (H : Hp) (ρ' : Env) (σ' : L2.St) (H' : Hp) : Prop where
  sr : SR G X F ρ' σ' H'
  le : ∀ a o, Hr H (Mm F ρ σ) a = some o → Hr H' (Mm F ρ' σ') a = some o
  keep : ∀ p, F p → H' p = H p
theorem PoS.refl {G : GD} {X : Fr} {F : AS} {ρ : Env} {σ : L2.St} {H : Hp} (S : SR G X F ρ σ H) : PoS G X F ρ σ H ρ σ H := ⟨S, fun _ _ e => e, fun _ _ => rfl⟩
theorem PoS.trans {G : GD} {X : Fr} {F : AS} {ρ ρ1 ρ2 : Env} {σ σ1 σ2 : L2.St} {H H1 H2 : Hp} (a : PoS G X F ρ σ H ρ1 σ1 H1) (b : PoS G X F ρ1 σ1 H1 ρ2 σ2 H2) : PoS G X F ρ σ H ρ2 σ2 H2 :=
  ⟨b.sr, fun x o e => b.le x o (a.le x o e), fun p h => (b.keep p h).trans (a.keep p h)⟩
theorem Po.s {G : GD} {X : Fr} {F : AS} {ρ ρ' : Env} {σ : L2.St} {H H' : Hp} (p : Po G X σ F ρ H F ρ' H') : PoS G X F ρ σ H ρ' σ H' := ⟨p.sr, p.le, fun q h => (p.keep q h).2⟩
section
variable {G : GD} {X : Fr} {F : AS} {ρ ρ' : Env} {σ : L2.St} {H : Hp}
/-- a name takes a value; ps: the addresses that are held in flight, the value's own among them -/
theorem put_frz {i : Nat} {v : V} {d : D} (S : SR G X F ρ σ H) (hi : i < ρ.length) (n : ∀ x, ρ[i]? ≠ some (.io x)) (h : Dt G (Hr H (Mm F ρ σ)) v d) : PoS G X F ρ σ H (ρ.set i (.val d)) (σ.set i (some v)) H := by
  have hs : i < σ.length := S.len ▸ hi
  have own : ∀ j q, OwnAt (ρ.set i (.val d)) (σ.set i (some v)) j q → OwnAt ρ σ j q ∧ j ≠ i := fun j q ⟨⟨x, z⟩, w⟩ => by
    by_cases hj : j = i
    · subst hj
      rw [List.getElem?_set_self hi] at z
      rcases z with z | z <;> cases z
    · rw [List.getElem?_set_ne (Ne.symm hj)] at z w
      exact ⟨⟨⟨x, z⟩, w⟩, hj⟩
  have le : ∀ a o, Hr H (Mm F ρ σ) a = some o → Hr H (Mm F (ρ.set i (.val d)) (σ.set i (some v))) a = some o := hr_mono (fun _ _ _ e => e) fun a z => .inl (z.imp id fun ⟨j, z⟩ => ⟨j, (own j a z).1⟩)
  refine ⟨⟨by rw [List.length_set, List.length_set]; exact S.len, fun j k q a b => S.inj j k q (own j q a).1 (own k q b).1, fun j q a => S.dis j q (own j q a).1, fun j s z => ?_, S.frame, fun j q a => S.ownf j q (own j q a).1, S.fdom, fun j q z => ?_⟩, le, fun _ _ => rfl⟩
  · by_cases hj : j = i
    · subst hj
      rw [List.getElem?_set_self hi] at z
      cases z
      rw [List.getElem?_set_self hs]
      exact ⟨v, rfl, h.le le⟩
    · rw [List.getElem?_set_ne (Ne.symm hj)] at z
      rw [List.getElem?_set_ne (Ne.symm hj)]
      have q := S.slot j s z
      cases s with
      | un => trivial
      | val d => obtain ⟨v, e, q⟩ := q; exact ⟨v, e, q.le le⟩
      | own d => obtain ⟨v, e, q⟩ := q; exact ⟨v, e, q.le le rfl⟩
      | io d => obtain ⟨v, e, q⟩ := q; exact ⟨v, e, q.le le rfl⟩
  · obtain ⟨⟨x, h1⟩, h2⟩ := S.ios j q z
    have hj : j ≠ i := fun e => n x (e ▸ h1)
    exact ⟨⟨x, by rw [List.getElem?_set_ne (Ne.symm hj)]; exact h1⟩, by rw [List.getElem?_set_ne (Ne.symm hj)]; exact h2⟩
/-- a name takes a new list -/
theorem put_fr {F' : AS} {i : Nat} {p : Addr} {d : D} (S : SR G X F' ρ σ H) (e : ∀ a, F' a ↔ a = p ∨ F a) (nF : ¬ F p) (hi : i < ρ.length) (n : ∀ x, ρ[i]? ≠ some (.io x)) (h0 : X.H0 p = none) (c : OwnC G (Mm F' ρ σ) H p d) :
    SR G X F (ρ.set i (.own d)) (σ.set i (some (.ref p))) H ∧ ∀ a o, Hr H (Mm F' ρ σ) a = some o → Hr H (Mm F (ρ.set i (.own d)) (σ.set i (some (.ref p)))) a = some o := by
  have hs : i < σ.length := S.len ▸ hi
  have own : ∀ j q, OwnAt (ρ.set i (.own d)) (σ.set i (some (.ref p))) j q → (j ≠ i ∧ OwnAt ρ σ j q) ∨ (j = i ∧ q = p) := fun j q ⟨⟨x, z⟩, w⟩ => by
    by_cases hj : j = i
    · subst hj
      rw [List.getElem?_set_self hs] at w
      cases w
      exact .inr ⟨rfl, rfl⟩
    · rw [List.getElem?_set_ne (Ne.symm hj)] at z w
      exact .inl ⟨hj, ⟨x, z⟩, w⟩
  have np : ∀ j, ¬ OwnAt ρ σ j p := fun j z => S.dis j p z ((e p).mpr (.inl rfl))
  have le : ∀ a o, Hr H (Mm F' ρ σ) a = some o → Hr H (Mm F (ρ.set i (.own d)) (σ.set i (some (.ref p)))) a = some o := hr_mono (fun _ _ _ e => e) fun a z => by
    rcases z with z | ⟨j, z⟩
    · exact .inl (.inl ((e a).mpr (.inr z)))
    · rcases own j a z with ⟨_, z⟩ | ⟨_, z⟩
      · exact .inl (.inr ⟨j, z⟩)
      · exact .inl (.inl ((e a).mpr (.inl z)))
  refine ⟨⟨by rw [List.length_set, List.length_set]; exact S.len, fun j k q a b => ?_, fun j q a z => ?_, fun j s z => ?_, S.frame, fun j q a => ?_, fun q z => S.fdom q ((e q).mpr (.inr z)), fun j q z => ?_⟩, le⟩
  · rcases own j q a with ⟨_, a3⟩ | ⟨a1, a2⟩
    · rcases own k q b with ⟨_, b3⟩ | ⟨b1, b2⟩
      · exact S.inj j k q a3 b3
      · exact absurd (b2 ▸ a3) (np j)
    · rcases own k q b with ⟨_, b3⟩ | ⟨b1, b2⟩
      · exact absurd (a2 ▸ b3) (np k)
      · rw [a1, b1]
  · rcases own j q a with ⟨_, a⟩ | ⟨_, a2⟩
    · exact S.dis j q a ((e q).mpr (.inr z))
    · subst a2; exact nF z
  · by_cases hj : j = i
    · subst hj
      rw [List.getElem?_set_self hi] at z
      cases z
      rw [List.getElem?_set_self hs]
      exact ⟨p, rfl, c.le le rfl⟩
    · rw [List.getElem?_set_ne (Ne.symm hj)] at z
      rw [List.getElem?_set_ne (Ne.symm hj)]
      have q := S.slot j s z
      cases s with
      | un => trivial
      | val d => obtain ⟨v, e, q⟩ := q; exact ⟨v, e, q.le le⟩
      | own d => obtain ⟨v, e, q⟩ := q; exact ⟨v, e, q.le le rfl⟩
      | io d => obtain ⟨v, e, q⟩ := q; exact ⟨v, e, q.le le rfl⟩
  · rcases own j q a with ⟨_, a⟩ | ⟨_, a2⟩
    · exact S.ownf j q a
    · subst a2; exact .inr h0
  · obtain ⟨⟨x, h1⟩, h2⟩ := S.ios j q z
    have hj : j ≠ i := fun e => n x (e ▸ h1)
    exact ⟨⟨x, by rw [List.getElem?_set_ne (Ne.symm hj)]; exact h1⟩, by rw [List.getElem?_set_ne (Ne.symm hj)]; exact h2⟩
/-- an own object's content is changed -/
theorem put_ownG {i : Nat} {p : Addr} {s0 s1 : Slot} {d' : D} {o : HO} (S : SR G X F ρ σ H) (h1 : ρ[i]? = some s0) (k : (∃ x, s0 = .own x) ∧ s1 = .own d' ∨ (∃ x, s0 = .io x) ∧ s1 = .io d') (h2 : σ[i]? = some (some (.ref p)))
    (c : (∀ a o', Hr H (Mm F ρ σ) a = some o' → Hr (upd H p o) (Mm F ρ σ) a = some o') → OwnC G (Mm F ρ σ) (upd H p o) p d') :
    PoS G X F ρ σ H (ρ.set i s1) σ (upd H p o) := by
  have hi : i < ρ.length := (List.getElem?_eq_some_iff.mp h1).1
  have op : OwnAt ρ σ i p := by
    rcases k with ⟨⟨x, rfl⟩, _⟩ | ⟨⟨x, rfl⟩, _⟩
    · exact ⟨⟨x, .inl h1⟩, h2⟩
    · exact ⟨⟨x, .inr h1⟩, h2⟩
  have own : ∀ j q, OwnAt (ρ.set i s1) σ j q ↔ OwnAt ρ σ j q := fun j q => by
    unfold OwnAt
    by_cases hj : j = i
    · subst hj
      rw [List.getElem?_set_self hi, h1]
      rcases k with ⟨⟨x, rfl⟩, rfl⟩ | ⟨⟨x, rfl⟩, rfl⟩
      · exact ⟨fun ⟨_, w⟩ => ⟨⟨x, .inl rfl⟩, w⟩, fun ⟨_, w⟩ => ⟨⟨_, .inl rfl⟩, w⟩⟩
      · exact ⟨fun ⟨_, w⟩ => ⟨⟨x, .inr rfl⟩, w⟩, fun ⟨_, w⟩ => ⟨⟨_, .inr rfl⟩, w⟩⟩
    · rw [List.getElem?_set_ne (Ne.symm hj)]
  have mm : Mm F (ρ.set i s1) σ = Mm F ρ σ := by
    funext a
    exact propext ⟨fun z => z.imp id fun ⟨j, z⟩ => ⟨j, (own j a).mp z⟩, fun z => z.imp id fun ⟨j, z⟩ => ⟨j, (own j a).mpr z⟩⟩
  have le : ∀ a o', Hr H (Mm F ρ σ) a = some o' → Hr (upd H p o) (Mm F ρ σ) a = some o' := hr_mono (fun a o' n e => by
    have ne : a ≠ p := fun z => n (.inr ⟨i, by rw [z]; exact op⟩)
    rw [upd_ne ne]; exact e) fun a z => .inl z
  have kp : ∀ a, a ≠ p → upd H p o a = H a := fun a e => upd_ne e
  refine ⟨⟨by rw [List.length_set]; exact S.len, fun j k q a b => S.inj j k q ((own j q).mp a) ((own k q).mp b), fun j q a => S.dis j q ((own j q).mp a), fun j s z => ?_, fun a o' n e => ?_, fun j q a => S.ownf j q ((own j q).mp a), fun q z => ?_, fun j q z => ?_⟩, fun a o' e => by rw [mm]; exact le a o' e, fun q z => kp q fun e => S.dis i p op (e ▸ z)⟩
  · rw [mm]
    by_cases hj : j = i
    · subst hj
      rw [List.getElem?_set_self hi] at z
      cases z
      rcases k with ⟨⟨x, rfl⟩, rfl⟩ | ⟨⟨x, rfl⟩, rfl⟩
      · exact ⟨p, h2, c le⟩
      · exact ⟨p, h2, c le⟩
    · rw [List.getElem?_set_ne (Ne.symm hj)] at z
      have q := S.slot j s z
      have ne : ∀ q, OwnAt ρ σ j q → q ≠ p := fun q h e => hj (S.inj j i p (e ▸ h) op)
      cases s with
      | un => trivial
      | val d => obtain ⟨v, e, q⟩ := q; exact ⟨v, e, q.le le⟩
      | own d => obtain ⟨v, e, q⟩ := q; exact ⟨v, e, q.le le (kp v (ne v ⟨⟨d, .inl z⟩, e⟩))⟩
      | io d => obtain ⟨v, e, q⟩ := q; exact ⟨v, e, q.le le (kp v (ne v ⟨⟨d, .inr z⟩, e⟩))⟩
  · rw [kp a fun z => ?_]
    · exact S.frame a o' n e
    · subst z
      rcases S.ownf i a op with z | z
      · exact n z
      · rw [e] at z; cases z
  · rw [kp q fun e => S.dis i p op (e ▸ z)]
    exact S.fdom q z
  · obtain ⟨⟨x, e1⟩, e2⟩ := S.ios j q z
    refine ⟨?_, e2⟩
    by_cases hj : j = i
    · subst hj
      rw [h1] at e1; cases e1
      rcases k with ⟨⟨x, e⟩, _⟩ | ⟨_, rfl⟩
      · cases e
      · exact ⟨_, List.getElem?_set_self hi⟩
    · exact ⟨x, by rw [List.getElem?_set_ne (Ne.symm hj)]; exact e1⟩
/-- an own list's content is changed -/
theorem put_own {i : Nat} {p : Addr} {s0 s1 : Slot} {ds : List D} {vs : List V} (S : SR G X F ρ σ H) (h1 : ρ[i]? = some s0) (k : (∃ x, s0 = .own x) ∧ s1 = .own (.lst ds) ∨ (∃ x, s0 = .io x) ∧ s1 = .io (.lst ds)) (h2 : σ[i]? = some (some (.ref p))) (r : DtA G (Hr H (Mm F ρ σ)) vs ds) :
    PoS G X F ρ σ H (ρ.set i s1) σ (upd H p (.lst vs)) := by
  have hi : i < ρ.length := (List.getElem?_eq_some_iff.mp h1).1
  have op : OwnAt ρ σ i p := by
    rcases k with ⟨⟨x, rfl⟩, _⟩ | ⟨⟨x, rfl⟩, _⟩
    · exact ⟨⟨x, .inl h1⟩, h2⟩
    · exact ⟨⟨x, .inr h1⟩, h2⟩
  have own : ∀ j q, OwnAt (ρ.set i s1) σ j q ↔ OwnAt ρ σ j q := fun j q => by
    unfold OwnAt
    by_cases hj : j = i
    · subst hj
      rw [List.getElem?_set_self hi, h1]
      rcases k with ⟨⟨x, rfl⟩, rfl⟩ | ⟨⟨x, rfl⟩, rfl⟩
      · exact ⟨fun ⟨_, w⟩ => ⟨⟨x, .inl rfl⟩, w⟩, fun ⟨_, w⟩ => ⟨⟨_, .inl rfl⟩, w⟩⟩
      · exact ⟨fun ⟨_, w⟩ => ⟨⟨x, .inr rfl⟩, w⟩, fun ⟨_, w⟩ => ⟨⟨_, .inr rfl⟩, w⟩⟩
    · rw [List.getElem?_set_ne (Ne.symm hj)]
  have mm : Mm F (ρ.set i s1) σ = Mm F ρ σ := by
    funext a
    exact propext ⟨fun z => z.imp id fun ⟨j, z⟩ => ⟨j, (own j a).mp z⟩, fun z => z.imp id fun ⟨j, z⟩ => ⟨j, (own j a).mpr z⟩⟩
  have le : ∀ a o, Hr H (Mm F ρ σ) a = some o → Hr (upd H p (.lst vs)) (Mm F ρ σ) a = some o := hr_mono (fun a o n e => by
    have ne : a ≠ p := fun z => n (.inr ⟨i, by rw [z]; exact op⟩)
    rw [upd_ne ne]; exact e) fun a z => .inl z
  have kp : ∀ a, a ≠ p → upd H p (.lst vs) a = H a := fun a e => upd_ne e
  refine ⟨⟨by rw [List.length_set]; exact S.len, fun j k q a b => S.inj j k q ((own j q).mp a) ((own k q).mp b), fun j q a => S.dis j q ((own j q).mp a), fun j s z => ?_, fun a o n e => ?_, fun j q a => S.ownf j q ((own j q).mp a), fun q z => ?_, fun j q z => ?_⟩, fun a o e => by rw [mm]; exact le a o e, fun q z => kp q fun e => S.dis i p op (e ▸ z)⟩
  · rw [mm]
    by_cases hj : j = i
    · subst hj
      rw [List.getElem?_set_self hi] at z
      cases z
      rcases k with ⟨⟨x, rfl⟩, rfl⟩ | ⟨⟨x, rfl⟩, rfl⟩
      · exact ⟨p, h2, vs, upd_same, r.le le⟩
      · exact ⟨p, h2, vs, upd_same, r.le le⟩
    · rw [List.getElem?_set_ne (Ne.symm hj)] at z
      have q := S.slot j s z
      have ne : ∀ q, OwnAt ρ σ j q → q ≠ p := fun q h e => hj (S.inj j i p (e ▸ h) op)
      cases s with
      | un => trivial
      | val d => obtain ⟨v, e, q⟩ := q; exact ⟨v, e, q.le le⟩
      | own d => obtain ⟨v, e, q⟩ := q; exact ⟨v, e, q.le le (kp v (ne v ⟨⟨d, .inl z⟩, e⟩))⟩
      | io d => obtain ⟨v, e, q⟩ := q; exact ⟨v, e, q.le le (kp v (ne v ⟨⟨d, .inr z⟩, e⟩))⟩
  · rw [kp a fun z => ?_]
    · exact S.frame a o n e
    · subst z
      rcases S.ownf i a op with z | z
      · exact n z
      · rw [e] at z; cases z
  · rw [kp q fun e => S.dis i p op (e ▸ z)]
    exact S.fdom q z
  · obtain ⟨⟨x, e1⟩, e2⟩ := S.ios j q z
    refine ⟨?_, e2⟩
    by_cases hj : j = i
    · subst hj
      rw [h1] at e1; cases e1
      rcases k with ⟨⟨x, e⟩, _⟩ | ⟨_, rfl⟩
      · cases e
      · exact ⟨_, List.getElem?_set_self hi⟩
    · exact ⟨x, by rw [List.getElem?_set_ne (Ne.symm hj)]; exact e1⟩
end
end Mp

set_option maxRecDepth 100000
set_option maxHeartbeats 4000000
/-! Mp10: targets, comprehensions, statements, sound. -/
namespace Mp
open PySem PySem.Spec PyProof.Rows L2

def SGt (G : GD) (eg : D → Kd → Env → R Unit) (t : TG) : Prop := ∀ (X : Fr) (F F' : AS) (ρ : Env) (σ : L2.St) (H : Hp) (v : V) (d : D) (k : Kd) (ρ' : Env) (Q : L2.St → Hp → Prop), SR G X F' ρ σ H → VR G X σ F F' ρ H v d k → eg d k ρ = .ok () ρ' →
  (∀ σ' H', SR G X F ρ' σ' H' → (∀ a o, Hr H (Mm F' ρ σ) a = some o → Hr H' (Mm F ρ' σ') a = some o) → (∀ p, F p → H' p = H p) → Q σ' H') → t v σ H Q
def SGs (G : GD) (eg : List D → Env → R Unit) (t : TGs) : Prop := ∀ (X : Fr) (F : AS) (ρ : Env) (σ : L2.St) (H : Hp) (vs : List V) (ds : List D) (ρ' : Env) (Q : L2.St → Hp → Prop), SR G X F ρ σ H → DtA G (Hr H (Mm F ρ σ)) vs ds → eg ds ρ = .ok () ρ' →
  (∀ σ' H', PoS G X F ρ σ H ρ' σ' H' → Q σ' H') → t vs σ H Q
theorem not_io {ρ : Env} {i : Nat} (h : ∀ x, getS ρ i ≠ .io x) : ∀ x, ρ[i]? ≠ some (.io x) := fun x e => h x (getS_of e)
section
variable {G : GD}
theorem sg_name {i : Nat} : SGt G (fun d k ρ => putName ρ i d k) (gName i) := by
  intro X F F' ρ σ H v d k ρ' Q S r h q
  unfold putName at h
  have key : (∀ x, getS ρ i ≠ .io x) → (if i < ρ.length then (match k with | .fr => R.ok () (ρ.set i (.own d)) | .frz => .ok () (ρ.set i (.val d)) | .pk _ => .no) else .no) = .ok () ρ' → Q (σ.set i (some v)) H := fun n h => by
    split at h
    · rename_i hi
      cases r with
      | frz e r =>
        subst e
        cases h
        have p := put_frz S hi (not_io n) r
        exact q _ _ p.sr p.le p.keep
      | fr e n1 n2 n3 c =>
        cases h
        have p := put_fr (F := F) S (fun a => by rw [e]; exact Iff.rfl) n1 hi (not_io n) n2 c
        exact q _ _ p.1 p.2 fun _ _ => rfl
      | pk e e1 r => cases h
    · cases h
  show Q (σ.set i (some v)) H
  dsimp only at h
  cases e : getS ρ i with
  | io x => rw [e] at h; cases h
  | un => rw [e] at h; exact key (fun x z => by rw [e] at z; cases z) h
  | val y => rw [e] at h; exact key (fun x z => by rw [e] at z; cases z) h
  | own y => rw [e] at h; exact key (fun x z => by rw [e] at z; cases z) h
theorem sg_nil : SGs G (fun ds ρ => match ds with | [] => .ok () ρ | _ => .no) gNil := by
  intro X F ρ σ H vs ds ρ' Q S r h q
  cases r with
  | nil => cases h; exact ⟨rfl, q _ _ (PoS.refl S)⟩
  | cons _ _ => cases h
theorem sg_cons {et : D → Kd → Env → R Unit} {er : List D → Env → R Unit} {t : TG} {u : TGs} (h1 : SGt G et t) (h2 : SGs G er u) :
    SGs G (fun ds ρ => match ds with | d :: ds => (et d .frz ρ).bind fun _ ρ => er ds ρ | [] => .no) (gCons t u) := by
  intro X F ρ σ H vs ds ρ' Q S r h q
  cases r with
  | nil => cases h
  | @cons v d vs ds r1 r2 =>
    obtain ⟨a, ρ1, h3, h⟩ := bind_ok h
    refine ⟨v, vs, rfl, ?_⟩
    refine h1 X F F ρ σ H v d .frz ρ1 _ S (.frz rfl r1) h3 fun σ1 H1 S1 le1 k1 => ?_
    refine h2 X F ρ1 σ1 H1 vs ds ρ' _ S1 (r2.le le1) h fun σ2 H2 p => ?_
    exact q _ _ (PoS.trans ⟨S1, le1, k1⟩ p)
theorem sg_tup {er : List D → Env → R Unit} {n : Nat} {u : TGs} (hn : ∀ ds ρ ρ', er ds ρ = .ok () ρ' → ds.length = n) (h2 : SGs G er u) :
    SGt G (fun d _ ρ => match d with | .tup xs => er xs ρ | _ => .no) (gTup G.K n u) := by
  intro X F F' ρ σ H v d k ρ' Q S r h q
  cases d with
  | tup ds =>
    cases r with
    | frz e r =>
      subst e
      cases r with
      | tup s r =>
        refine ⟨_, _, rfl, sqt_le hr_sub s, r.length.trans (hn _ _ _ h), ?_⟩
        exact h2 X _ ρ σ H _ ds ρ' Q S r h fun σ' H' p => q _ _ p.sr p.le p.keep
    | fr e n1 n2 n3 c => exact c.elim
    | pk e e1 r =>
      subst e
      rcases r with r | r
      · obtain ⟨p, _, c⟩ := S.slot _ _ r; exact c.elim
      · obtain ⟨p, _, c⟩ := S.slot _ _ r; exact c.elim
  | _ => cases h
/-- x[i] = a value -/
theorem sg_idx {j : Nat} {ei : Env → R (D × Kd)} {ti : TE} (hi : SE G ei ti) :
    SGt G (fun d k ρ => match k with | .pk _ => .no | _ => if ownS (getS ρ j) = true then (ei ρ).bind fun y ρ => storeIx ρ j y.1 d else .no) (gSub (tVar j) ti (fun o i v H Q => rSetL o i v H Q ∨ rSetN G o i v H Q)) := by
  intro X F F' ρ σ H v d k ρ' Q S r h q
  -- the value is let go
  obtain ⟨S0, r0, le0, h⟩ : SR G X F ρ σ H ∧ Dt G (Hr H (Mm F ρ σ)) v d ∧ (∀ a o, Hr H (Mm F' ρ σ) a = some o → Hr H (Mm F ρ σ) a = some o) ∧ (if ownS (getS ρ j) = true then (ei ρ).bind fun y ρ => storeIx ρ j y.1 d else .no) = .ok () ρ' := by
    cases r with
    | frz e r => subst e; exact ⟨S, r, fun _ _ e => e, h⟩
    | @fr p d e n1 n2 n3 c =>
      subst e
      refine ⟨S.drop fun _ h => .inr h, c.dt (fun a z => z.imp .inr id) fun z => ?_, hr_mono (fun _ _ _ e => e) fun a z => .inl (z.imp .inr id), h⟩
      rcases z with z | ⟨i, z⟩
      · exact n1 z
      · exact S.dis i p z (.inl rfl)
    | pk e e1 r => cases h
  split at h
  · rename_i ho
    obtain ⟨p, e1⟩ : ∃ p, σ[j]? = some (some (.ref p)) := by
      cases e : getS ρ j with
      | own x => obtain ⟨p, q1, _⟩ := S.slot j _ (getS_eq e (by simp)); exact ⟨p, q1⟩
      | io x => obtain ⟨p, q1, _⟩ := S.slot j _ (getS_eq e (by simp)); exact ⟨p, q1⟩
      | _ => rw [e] at ho; cases ho
    obtain ⟨⟨d2, k2⟩, ρ1, h1, h⟩ := bind_ok h
    refine ⟨.ref p, e1, ?_⟩
    refine hi X F ρ σ H _ _ k2 ρ1 S0 h1 fun v2 H2 F2 p2 r2 => ?_
    have P := p2.drop (fun _ h => h) (sub_of p2)
    have fin : ∀ (xs : List D) (i : Int) (n : Nat) (s0 s1 : Slot), d2 = .int i → Mp.ixN xs.length i = some n → ρ1[j]? = some s0 → s0 = .own (.lst xs) ∧ s1 = .own (.lst (xs.set n d)) ∨ s0 = .io (.lst xs) ∧ s1 = .io (.lst (xs.set n d)) → ρ' = ρ1.set j s1 → rSetL (.ref p) v2 v H2 (fun H3 => Q σ H3) := fun xs i n s0 s1 e2 e3 e4 e5 e6 => by
      subst e2 e6
      have hc : OwnC G (Mm F ρ1 σ) H2 p (.lst xs) := by
        rcases e5 with ⟨rfl, _⟩ | ⟨rfl, _⟩
        · obtain ⟨p', q1, c⟩ := P.sr.slot j _ e4
          rw [e1] at q1; cases q1; exact c
        · obtain ⟨p', q1, c⟩ := P.sr.slot j _ e4
          rw [e1] at q1; cases q1; exact c
      obtain ⟨vs, hv, rv⟩ := hc
      have w := put_own (s0 := s0) (s1 := s1) P.sr e4 (e5.imp (fun z => ⟨⟨_, z.1⟩, z.2⟩) fun z => ⟨⟨_, z.1⟩, z.2⟩) e1 (rv.set (r0.le P.le) n)
      exact ⟨p, vs, i, n, rfl, r2.int p2.sr, hv, by rw [rv.length]; exact e3, q _ _ w.sr (fun a o e => w.le a o (P.le a o (le0 a o e))) fun x z => (w.keep x z).trans (P.keep x z).2⟩
    have fin2 : ∀ (kvs : List (D × D)) (kk : NestedKey) (s0 s1 : Slot), nk d2 = some kk → kvs.length < sizeLine → ρ1[j]? = some s0 → s0 = .own (.dct kvs) ∧ s1 = .own (.dct (dPut kvs d2 kk d)) ∨ s0 = .io (.dct kvs) ∧ s1 = .io (.dct (dPut kvs d2 kk d)) → ρ' = ρ1.set j s1 → rSetN G (.ref p) v2 v H2 (fun H3 => Q σ H3) := fun kvs kk s0 s1 e2 hl e4 e5 e6 => by
      subst e6
      have hc : OwnC G (Mm F ρ1 σ) H2 p (.dct kvs) := by
        rcases e5 with ⟨rfl, _⟩ | ⟨rfl, _⟩
        · obtain ⟨p', q1, c⟩ := P.sr.slot j _ e4
          rw [e1] at q1; cases q1; exact c
        · obtain ⟨p', q1, c⟩ := P.sr.slot j _ e4
          rw [e1] at q1; cases q1; exact c
      obtain ⟨xs, hv, hk, hnd, rk, rv⟩ := hc
      have sh := r2.sh p2.sr
      have dk : Dt G (Hr H2 (Mm F2 ρ1 σ)) v2 d2 := by
        rcases sh with z | ⟨q', _, z⟩
        · exact z
        · obtain ⟨z0, _, _⟩ := nk_some e2
          cases d2 with
          | tup ys => exact z.elim
          | _ => cases z0
      have dk' : Dt G (Hr H2 (Mm F ρ1 σ)) v2 d2 := dk.le (hr_mono (fun _ _ _ e => e) fun a z => .inl (z.imp (sub_of p2 a) id))
      obtain ⟨b, rfl⟩ := nk_ref dk e2
      have hlen : xs.length = kvs.length := by simpa using (congrArg List.length hk).symm
      have w := put_ownG (s0 := s0) (s1 := s1) (d' := .dct (dPut kvs d2 kk d)) (o := ndO p (putN xs kk b v)) P.sr e4 (e5.imp (fun z => ⟨⟨_, z.1⟩, z.2⟩) fun z => ⟨⟨_, z.1⟩, z.2⟩) e1 fun le => by
        obtain ⟨i1, i2⟩ := dput_at (k := kk) ⟨hk, hnd, rk.le le⟩ (rv.le le) (dk'.le le) e2 ((r0.le P.le).le le)
        exact ⟨_, upd_same, i1.ks, i1.nd, i1.rk, i2⟩
      exact ⟨p, b, xs, kvs, d2, kk, rfl, rfl, hv, ⟨hk, hnd, rk.le hr_sub⟩, dk.le hr_sub, e2, by omega, q _ _ w.sr (fun a o e => w.le a o (P.le a o (le0 a o e))) fun x z => (w.keep x z).trans (P.keep x z).2⟩
    unfold storeIx at h
    dsimp only at h
    cases e : getS ρ1 j with
    | own x =>
      rw [e] at h
      cases x with
      | lst xs =>
        cases d2 with
        | int i =>
          dsimp only at h
          cases e3 : Mp.ixN xs.length i with
          | none => rw [e3] at h; cases h
          | some n =>
            rw [e3] at h
            exact .inl (fin xs i n _ _ rfl e3 (getS_eq e (by simp)) (.inl ⟨rfl, rfl⟩) (by cases h; rfl))
        | _ => cases h
      | dct kvs =>
        dsimp only at h
        cases e3 : nk d2 with
        | none => rw [e3] at h; cases h
        | some kk =>
          rw [e3] at h
          dsimp only at h
          split at h
          · rename_i hl
            cases h
            exact .inr (fin2 kvs kk _ _ e3 hl (getS_eq e (by simp)) (.inl ⟨rfl, rfl⟩) rfl)
          · cases h
      | _ => cases h
    | io x =>
      rw [e] at h
      cases x with
      | lst xs =>
        cases d2 with
        | int i =>
          dsimp only at h
          cases e3 : Mp.ixN xs.length i with
          | none => rw [e3] at h; cases h
          | some n =>
            rw [e3] at h
            exact .inl (fin xs i n _ _ rfl e3 (getS_eq e (by simp)) (.inr ⟨rfl, rfl⟩) (by cases h; rfl))
        | _ => cases h
      | dct kvs =>
        dsimp only at h
        cases e3 : nk d2 with
        | none => rw [e3] at h; cases h
        | some kk =>
          rw [e3] at h
          dsimp only at h
          split at h
          · rename_i hl
            cases h
            exact .inr (fin2 kvs kk _ _ e3 hl (getS_eq e (by simp)) (.inr ⟨rfl, rfl⟩) rfl)
          · cases h
      | _ => cases h
    | _ => rw [e] at h; cases h
  · cases h
end

/-! ### statements -/
/-- a returned value -/
structure RtR (G : GD) (X : Fr) (F : AS) (ρ' : Env) (σ' : L2.St) (H' : Hp) (v : V) (d : D) (b : Bool) : Prop where
  ex : (b = false ∧ SR G X F ρ' σ' H' ∧ Dt G (Hr H' (Mm F ρ' σ')) v d) ∨
    (b = true ∧ ∃ p, v = .ref p ∧ SR G X (addF F p) ρ' σ' H' ∧ ¬ F p ∧ X.H0 p = none ∧ ¬ X.IO p ∧ OwnC G (Mm (addF F p) ρ' σ') H' p d)
def SSt (G : GD) (ev : Env → Fl) (t : TS) : Prop := ∀ (X : Fr) (F : AS) (ρ : Env) (σ : L2.St) (H : Hp) (D : Ends) (fl : Fl), SR G X F ρ σ H → ev ρ = fl → fl ≠ .no →
  (∀ ρ', fl = .nx ρ' → ∀ σ' H', PoS G X F ρ σ H ρ' σ' H' → D.nx σ' H') →
  (∀ d b ρ', fl = .rt d b ρ' → ∀ v σ' H', RtR G X F ρ' σ' H' v d b → D.rt v H') → t D σ H
theorem fl_ok {α : Type} {r : R α} {f : α → Env → Fl} {fl : Fl} (h : r.fl f = fl) (n : fl ≠ .no) : ∃ a ρ1, r = .ok a ρ1 ∧ f a ρ1 = fl := by
  cases r with
  | ok a ρ1 => exact ⟨a, ρ1, rfl, h⟩
  | no => exact absurd h.symm n
section
variable {G : GD}
theorem ss_skip : SSt G (fun ρ => .nx ρ) tNext := by
  intro X F ρ σ H D fl S h n q1 q2
  exact q1 ρ h.symm σ H (PoS.refl S)
theorem ss_seq {ea eb : Env → Fl} {t u : TS} (ha : SSt G ea t) (hb : SSt G eb u) : SSt G (fun ρ => (ea ρ).bind fun ρ => eb ρ) (tSeq t u) := by
  intro X F ρ σ H D fl S h n q1 q2
  cases e : ea ρ with
  | no => exact absurd (show Fl.no = fl by rw [← h]; show _ = (ea ρ).bind _; rw [e]; rfl) (Ne.symm n)
  | nx ρ1 =>
    have h' : eb ρ1 = fl := by rw [← h]; show _ = (ea ρ).bind _; rw [e]; rfl
    refine ha X F ρ σ H _ _ S e (by simp) (fun ρ' e1 σ1 H1 p1 => ?_) (fun d b ρ' e1 => by cases e1)
    cases e1
    exact hb X F ρ1 σ1 H1 D fl p1.sr h' n (fun ρ' e σ' H' p => q1 ρ' e σ' H' (p1.trans p)) q2
  | rt d b ρ1 =>
    have h' : Fl.rt d b ρ1 = fl := by rw [← h]; show _ = (ea ρ).bind _; rw [e]; rfl
    refine ha X F ρ σ H _ _ S e (by simp) (fun ρ' e1 => by cases e1) (fun d' b' ρ' e1 v σ' H' r => ?_)
    exact q2 d' b' ρ' (h'.symm.trans e1) v σ' H' r
theorem keep_ok {X : Fr} {F F1 : AS} {ρ ρ1 ρ2 : Env} {σ : L2.St} {H H1 : Hp} {v : V} {d d' : D} {k k' : Kd} (p : Po G X σ F ρ H F1 ρ1 H1) (r : VR G X σ F F1 ρ1 H1 v d k) (h : keep ρ1 d k = .ok (d', k') ρ2) :
    ∃ F2, Po G X σ F ρ H F2 ρ2 H1 ∧ VR G X σ F F2 ρ2 H1 v d' k' := by
  cases k with
  | frz => cases h; exact ⟨F1, p, r⟩
  | fr => cases h; exact ⟨F1, p, r⟩
  | pk i =>
    obtain ⟨x, ρ3, h1, h⟩ := bind_ok (show (settle ρ1 d (.pk i)).bind (fun d ρ => R.ok (d, Kd.frz) ρ) = .ok (d', k') ρ2 from h)
    cases h
    obtain ⟨p2, r2⟩ := settle_ok p r h1
    exact ⟨F, p2, .frz rfl r2⟩
theorem ss_asg {ee : Env → R (D × Kd)} {eg : D → Kd → Env → R Unit} {te : TE} {g : TG} (he : SE G ee te) (hg : SGt G eg g) :
    SSt G (fun ρ => (ee ρ).fl fun x ρ => (keep ρ x.1 x.2).fl fun x ρ => (eg x.1 x.2 ρ).fl fun _ ρ => .nx ρ) (tAsg te g) := by
  intro X F ρ σ H D fl S h n q1 q2
  obtain ⟨⟨d1, k1⟩, ρ1, h1, h⟩ := fl_ok h n
  obtain ⟨⟨d2, k2⟩, ρ2, h2, h⟩ := fl_ok h n
  obtain ⟨a, ρ3, h3, h⟩ := fl_ok h n
  refine he X F ρ σ H _ d1 k1 ρ1 S h1 fun v1 H1 F1 p1 r1 => ?_
  obtain ⟨F2, p2, r2⟩ := keep_ok p1 r1 h2
  refine hg X F F2 ρ2 σ H1 v1 d2 k2 ρ3 _ p2.sr r2 h3 fun σ' H' S' le' k' => ?_
  exact q1 ρ3 h.symm σ' H' ⟨S', fun a o e => le' a o (p2.le a o e), fun x z => (k' x z).trans (p2.keep x z).2⟩
theorem ss_ex {ee : Env → R (D × Kd)} {te : TE} (he : SE G ee te) : SSt G (fun ρ => (ee ρ).fl fun _ ρ => .nx ρ) (tDrop te) := by
  intro X F ρ σ H D fl S h n q1 q2
  obtain ⟨⟨d1, k1⟩, ρ1, h1, h⟩ := fl_ok h n
  exact he X F ρ σ H _ d1 k1 ρ1 S h1 fun v1 H1 F1 p1 r1 => q1 ρ1 h.symm σ H1 (p1.drop (fun _ h => h) (sub_of p1)).s
theorem ss_ret {ee : Env → R (D × Kd)} {te : TE} (he : SE G ee te) : SSt G (fun ρ => (ee ρ).fl fun x ρ => (match x.2 with
    | .frz => .rt x.1 false ρ
    | .fr => .rt x.1 true ρ
    | .pk i => (match getS ρ i with | .own d => .rt d true (ρ.set i .un) | _ => .no))) (tRet te) := by
  intro X F ρ σ H D fl S h n q1 q2
  obtain ⟨⟨d1, k1⟩, ρ1, h1, h⟩ := fl_ok h n
  refine he X F ρ σ H _ d1 k1 ρ1 S h1 fun v1 H1 F1 p1 r1 => ?_
  cases r1 with
  | frz e r =>
    subst e
    exact q2 _ _ _ h.symm _ σ H1 ⟨.inl ⟨rfl, p1.sr, r⟩⟩
  | @fr p d e n1 n2 n3 c =>
    subst e
    exact q2 _ _ _ h.symm _ σ H1 ⟨.inr ⟨rfl, p, rfl, p1.sr, n1, n2, n3, c⟩⟩
  | @pk v d i e e1 r =>
    subst e
    dsimp only at h
    cases e : getS ρ1 i with
    | own x =>
      rw [e] at h
      have g := getS_eq e (by simp)
      have hi : i < ρ1.length := (List.getElem?_eq_some_iff.mp g).1
      obtain ⟨p, e2, c⟩ := p1.sr.slot i _ g
      rw [e1] at e2; cases e2
      have S1 := p1.sr
      have op : OwnAt ρ1 σ i p := ⟨⟨x, .inl g⟩, e1⟩
      have own : ∀ j q, OwnAt (ρ1.set i .un) σ j q → OwnAt ρ1 σ j q ∧ j ≠ i := fun j q ⟨⟨y, z⟩, w⟩ => by
        by_cases hj : j = i
        · subst hj
          rw [List.getElem?_set_self hi] at z
          rcases z with z | z <;> cases z
        · rw [List.getElem?_set_ne (Ne.symm hj)] at z
          exact ⟨⟨⟨y, z⟩, w⟩, hj⟩
      have mm : ∀ a, Mm (addF F1 p) (ρ1.set i .un) σ a → Mm F1 ρ1 σ a := fun a z => by
        rcases z with (z | z) | ⟨j, z⟩
        · rw [z]; exact .inr ⟨i, op⟩
        · exact .inl z
        · exact .inr ⟨j, (own j a z).1⟩
      have le : ∀ a o, Hr H1 (Mm F1 ρ1 σ) a = some o → Hr H1 (Mm (addF F1 p) (ρ1.set i .un) σ) a = some o := hr_mono (fun _ _ _ e => e) fun a z => .inl (mm a z)
      have nF : ¬ F1 p := S1.dis i p op
      have nio : ¬ X.IO p := fun ⟨k, z⟩ => by
        obtain ⟨⟨y, w⟩, w2⟩ := S1.ios k p z
        have := S1.inj k i p ⟨⟨y, .inr w⟩, w2⟩ op
        rw [this, g] at w; cases w
      refine q2 _ _ _ h.symm _ σ H1 ⟨.inr ⟨rfl, p, rfl, ⟨by rw [List.length_set]; exact S1.len, fun j k q a b => S1.inj j k q (own j q a).1 (own k q b).1, fun j q a z => ?_, fun j s z => ?_, S1.frame, fun j q a => S1.ownf j q (own j q a).1, fun q z => ?_, fun j q z => ?_⟩, nF, ?_, nio, c.le le rfl⟩⟩
      · rcases z with z | z
        · exact (own j q a).2 (S1.inj j i q (own j q a).1 (z ▸ op))
        · exact S1.dis j q (own j q a).1 z
      · by_cases hj : j = i
        · subst hj
          rw [List.getElem?_set_self hi] at z
          cases z
          trivial
        · rw [List.getElem?_set_ne (Ne.symm hj)] at z
          have q := S1.slot j s z
          cases s with
          | un => trivial
          | val d => obtain ⟨v, e, q⟩ := q; exact ⟨v, e, q.le le⟩
          | own d => obtain ⟨v, e, q⟩ := q; exact ⟨v, e, q.le le rfl⟩
          | io d => obtain ⟨v, e, q⟩ := q; exact ⟨v, e, q.le le rfl⟩
      · rcases z with z | z
        · rw [z]; exact c.some
        · exact S1.fdom q z
      · obtain ⟨⟨y, h1⟩, h2⟩ := S1.ios j q z
        have hj : j ≠ i := fun e => by rw [e, g] at h1; cases h1
        exact ⟨⟨y, by rw [List.getElem?_set_ne (Ne.symm hj)]; exact h1⟩, h2⟩
      · rcases S1.ownf i p op with z | z
        · exact absurd z nio
        · exact z
    | _ => rw [e] at h; exact absurd h.symm n
theorem ss_retn : SSt G (fun ρ => .rt .non false ρ) tRetN := by
  intro X F ρ σ H D fl S h n q1 q2
  exact q2 _ _ _ h.symm _ σ H ⟨.inl ⟨rfl, S, .non⟩⟩
theorem ss_ite {ec : Env → R Bool} {ea eb : Env → Fl} {tc : TT} {t u : TS} (hc : STt G ec tc) (ha : SSt G ea t) (hb : SSt G eb u) : SSt G (fun ρ => (ec ρ).fl fun k ρ => if k = true then ea ρ else eb ρ) (tIfS tc t u) := by
  intro X F ρ σ H D fl S h n q1 q2
  obtain ⟨k, ρ1, h1, h⟩ := fl_ok h n
  refine hc X F ρ σ H _ k ρ1 S h1 fun H1 p1 => ?_
  cases k with
  | true => exact ha X F ρ1 σ H1 D fl p1.sr h n (fun ρ' e σ' H' p => q1 ρ' e σ' H' (p1.s.trans p)) q2
  | false => exact hb X F ρ1 σ H1 D fl p1.sr h n (fun ρ' e σ' H' p => q1 ρ' e σ' H' (p1.s.trans p)) q2
theorem ss_never : SSt G (fun _ => .no) tNever := by
  intro X F ρ σ H D fl S h n q1 q2
  exact absurd h.symm n
end
end Mp

set_option maxRecDepth 100000
set_option maxHeartbeats 4000000
/-! Mp11: loops, append, comprehensions, sound. -/
namespace Mp
open PySem PySem.Spec PyProof.Rows L2
theorem drop_get {α : Type} {xs : List α} {i : Nat} {d : α} (h : xs[i]? = some d) : xs.drop i = d :: xs.drop (i + 1) := by
  obtain ⟨hi, e⟩ := List.getElem?_eq_some_iff.mp h
  rw [List.drop_eq_getElem_cons hi, e]
section
variable {G : GD}
/-- the next item, read -/
theorem yld_ok {X : Fr} {F : AS} {ρ : Env} {σ : L2.St} {H H' L : Hp} {J : It} {ds : List D} {i : Nat} {d : D} {x : V} (S : SR G X F ρ σ H) (it : ItOk G L J ds) (k : ∀ a o, L a = some o → Hr H (Mm F ρ σ) a = some o) (e : ds[i]? = some d) (y : J.yld i H x H') :
    Po G X σ F ρ H F ρ H' ∧ Dt G (Hr H' (Mm F ρ σ)) x d := by
  rcases it.yld H _ i d x H' k e y with ⟨rfl, r⟩ | ⟨T, vs, es, hn, rfl, rfl, rfl, r⟩
  · exact ⟨Po.refl S, r⟩
  · have p := Po.laid (o := .tup vs) S hn
    refine ⟨p, .tup (.inl (.inl (hr_some.mpr ⟨fun z => S.mdom T z hn, upd_same⟩))) (r.le p.le)⟩
theorem ss_for {ei : Env → R (List D)} {eg : D → Kd → Env → R Unit} {eb : Env → Fl} {wi : TI} {g : TG} {tb : TS} (hi : SI G ei wi) (hg : SGt G eg g) (hb : SSt G eb tb) :
    SSt G (fun ρ => (ei ρ).fl fun xs ρ => forLoop (fun d => eg d .frz) eb xs ρ) (tFor wi g tb) := by
  intro X F ρ σ H D fl S h n q1 q2
  obtain ⟨ds, ρ1, h1, h⟩ := fl_ok h n
  refine hi X F ρ σ H _ ds ρ1 S h1 fun J H1 p1 it => ?_
  refine ⟨fun i m σ' H' => m = ds.length - i ∧ i ≤ ds.length ∧ ∃ ρi, forLoop (fun d => eg d .frz) eb (ds.drop i) ρi = fl ∧ PoS G X F ρ1 σ H1 ρi σ' H', ⟨_, rfl, Nat.zero_le _, ρ1, h, PoS.refl p1.sr⟩, ?_⟩
  rintro i m σ' H' ⟨rfl, hle, ρi, hl, p⟩
  cases e : ds[i]? with
  | none =>
    have hi : i = ds.length := Nat.le_antisymm hle (List.getElem?_eq_none_iff.mp e)
    subst hi
    rw [List.drop_length] at hl
    exact .inl ⟨it.stop H' _ p.le, q1 ρi hl.symm σ' H' (p1.s.trans p)⟩
  | some d =>
    have hi : i < ds.length := (List.getElem?_eq_some_iff.mp e).1
    rw [drop_get e] at hl
    refine .inr ⟨it.go H' _ i d p.le e, fun σ2 H2 => ∃ m', m' < ds.length - i ∧ (m' = ds.length - (i + 1) ∧ i + 1 ≤ ds.length ∧ ∃ ρi, forLoop (fun d => eg d .frz) eb (ds.drop (i + 1)) ρi = fl ∧ PoS G X F ρ1 σ H1 ρi σ2 H2), fun σ2 H2 z => z, fun x H2 y => ?_⟩
    obtain ⟨p2, r2⟩ := yld_ok p.sr it p.le e y
    obtain ⟨a, ρ2, h2, h3⟩ := fl_ok (show (eg d .frz ρi).fl (fun _ ρ => (eb ρ).bind fun ρ => forLoop (fun d => eg d .frz) eb (ds.drop (i + 1)) ρ) = fl from hl) n
    refine hg X F F ρi σ' H2 x d .frz ρ2 _ p2.sr (.frz rfl r2) h2 fun σ3 H3 S3 le3 k3 => ?_
    have p3 : PoS G X F ρ1 σ H1 ρ2 σ3 H3 := (p.trans p2.s).trans ⟨S3, le3, k3⟩
    cases e4 : eb ρ2 with
    | no => exact absurd (show Fl.no = fl by rw [← h3, e4]; rfl) (Ne.symm n)
    | nx ρ3 =>
      have h5 : forLoop (fun d => eg d .frz) eb (ds.drop (i + 1)) ρ3 = fl := by rw [← h3, e4]; rfl
      refine hb X F ρ2 σ3 H3 _ _ S3 e4 (by simp) (fun ρ' e5 σ4 H4 p4 => ?_) (fun d b ρ' e5 => by cases e5)
      cases e5
      exact ⟨_, by omega, rfl, hi, ρ3, h5, p3.trans p4⟩
    | rt d2 b2 ρ3 =>
      have h5 : Fl.rt d2 b2 ρ3 = fl := by rw [← h3, e4]; rfl
      refine hb X F ρ2 σ3 H3 _ _ S3 e4 (by simp) (fun ρ' e5 => by cases e5) (fun d b ρ' e5 v σ4 H4 r => ?_)
      exact q2 d b ρ' (h5.symm.trans e5) v σ4 H4 r
theorem ss_whl {ec : Env → R Bool} {eb : Env → Fl} {c : TT} {tb : TS} (k : Nat) (hc : STt G ec c) (hb : SSt G eb tb) :
    SSt G (fun ρ => whlLoop ec eb k ρ) (tWhile c tb) := by
  intro X F ρ σ H D fl S h n q1 q2
  refine ⟨fun m σ' H' => ∃ ρi, whlLoop ec eb m ρi = fl ∧ PoS G X F ρ σ H ρi σ' H', ⟨k, ρ, h, PoS.refl S⟩, ?_⟩
  rintro m σ' H' ⟨ρi, hl, p⟩
  cases m with
  | zero => exact absurd hl.symm n
  | succ m =>
    obtain ⟨b, ρ1, h1, h⟩ := fl_ok (show (ec ρi).fl (fun k ρ => if k = true then (eb ρ).bind fun ρ => whlLoop ec eb m ρ else .nx ρ) = fl from hl) n
    refine hc X F ρi σ' H' _ b ρ1 p.sr h1 fun H1 p1 => ?_
    have p2 := p.trans p1.s
    cases b with
    | false => exact q1 ρ1 h.symm σ' H1 p2
    | true =>
      refine ⟨fun σ2 H2 => ∃ ρi, whlLoop ec eb m ρi = fl ∧ PoS G X F ρ σ H ρi σ2 H2, fun σ2 H2 z => ⟨m, Nat.lt_succ_self _, z⟩, ?_⟩
      have h3 : (eb ρ1).bind (fun ρ => whlLoop ec eb m ρ) = fl := h
      cases e4 : eb ρ1 with
      | no => exact absurd (show Fl.no = fl by rw [← h3, e4]; rfl) (Ne.symm n)
      | nx ρ3 =>
        have h5 : whlLoop ec eb m ρ3 = fl := by rw [← h3, e4]; rfl
        refine hb X F ρ1 σ' H1 _ _ p1.sr e4 (by simp) (fun ρ' e5 σ4 H4 p4 => ?_) (fun d b ρ' e5 => by cases e5)
        cases e5
        exact ⟨ρ3, h5, p2.trans p4⟩
      | rt d2 b2 ρ3 =>
        have h5 : Fl.rt d2 b2 ρ3 = fl := by rw [← h3, e4]; rfl
        refine hb X F ρ1 σ' H1 _ _ p1.sr e4 (by simp) (fun ρ' e5 => by cases e5) (fun d b ρ' e5 v σ4 H4 r => ?_)
        exact q2 d b ρ' (h5.symm.trans e5) v σ4 H4 r
/-- what append, extend leave in the environment -/
theorem appD_ok {ρ ρ' : Env} {i : Nat} {ds : List D} (h : appD ρ i ds = some ρ') : ∃ s0 s1 xs, ρ[i]? = some s0 ∧ (s0 = .own (.lst xs) ∧ s1 = .own (.lst (xs ++ ds)) ∨ s0 = .io (.lst xs) ∧ s1 = .io (.lst (xs ++ ds))) ∧ xs.length + ds.length ≤ sizeLine ∧ ρ' = ρ.set i s1 := by
  unfold appD at h
  cases e : getS ρ i with
  | own x =>
    rw [e] at h
    cases x with
    | lst xs =>
      dsimp only at h
      split at h
      · rename_i c
        cases h
        exact ⟨_, _, xs, getS_eq e (by simp), .inl ⟨rfl, rfl⟩, c, rfl⟩
      · cases h
    | _ => cases h
  | io x =>
    rw [e] at h
    cases x with
    | lst xs =>
      dsimp only at h
      split at h
      · rename_i c
        cases h
        exact ⟨_, _, xs, getS_eq e (by simp), .inr ⟨rfl, rfl⟩, c, rfl⟩
      · cases h
    | _ => cases h
  | _ => rw [e] at h; cases h
theorem own_at {X : Fr} {F : AS} {ρ : Env} {σ : L2.St} {H : Hp} {i : Nat} (S : SR G X F ρ σ H) (h : ownL (getS ρ i) = true) : ∃ p vs, σ[i]? = some (some (.ref p)) ∧ OwnAt ρ σ i p ∧ H p = some (.lst vs) := by
  cases e : getS ρ i with
  | own d =>
    have g := getS_eq e (by simp)
    obtain ⟨p, e1, c⟩ := S.slot i _ g
    rw [e] at h
    cases d with
    | lst ds => obtain ⟨vs, q, r⟩ := c; exact ⟨p, vs, e1, ⟨⟨_, .inl g⟩, e1⟩, q⟩
    | _ => cases h
  | io d =>
    have g := getS_eq e (by simp)
    obtain ⟨p, e1, c⟩ := S.slot i _ g
    rw [e] at h
    cases d with
    | lst ds => obtain ⟨vs, q, r⟩ := c; exact ⟨p, vs, e1, ⟨⟨_, .inr g⟩, e1⟩, q⟩
    | _ => cases h
  | _ => rw [e] at h; cases h
theorem ss_app {i : Nat} {ee : Env → R (D × Kd)} {te : TE} (he : SE G ee te) :
    SSt G (fun ρ => if ownL (getS ρ i) = true then (ee ρ).fl fun x ρ => (settle ρ x.1 x.2).fl fun d ρ => (match appD ρ i [d] with | some ρ => .nx ρ | none => .no) else .no) (tDrop (tBM G.K "list" rAppend (tVar i) (tCons te tNil))) := by
  intro X F ρ σ H D fl S h n q1 q2
  dsimp only at h
  split at h
  · rename_i ho
    obtain ⟨p, vs0, e1, op, hp0⟩ := own_at S ho
    obtain ⟨⟨d1, k1⟩, ρ1, h1, h⟩ := fl_ok h n
    obtain ⟨d2, ρ2, h2, h⟩ := fl_ok h n
    cases h3 : appD ρ2 i [d2] with
    | none => rw [h3] at h; exact absurd h.symm n
    | some ρ3 =>
      rw [h3] at h
      obtain ⟨s0, s1, xs, e4, e5, hz, rfl⟩ := appD_ok h3
      refine ⟨_, e1, .inl ⟨rfl, vs0, .inl (.inl hp0)⟩, ?_⟩
      refine he X F ρ σ H _ d1 k1 ρ1 S h1 fun v1 H1 F1 p1 r1 => ?_
      obtain ⟨p2, r2⟩ := settle_ok p1 r1 h2
      have hc : OwnC G (Mm F ρ2 σ) H1 p (.lst xs) := by
        rcases e5 with ⟨rfl, _⟩ | ⟨rfl, _⟩
        · obtain ⟨p', q1, c⟩ := p2.sr.slot i _ e4
          rw [e1] at q1; cases q1; exact c
        · obtain ⟨p', q1, c⟩ := p2.sr.slot i _ e4
          rw [e1] at q1; cases q1; exact c
      obtain ⟨vs, hv, rv⟩ := hc
      have w := put_own (s0 := s0) (s1 := s1) p2.sr e4 (e5.imp (fun z => ⟨⟨_, z.1⟩, z.2⟩) fun z => ⟨⟨_, z.1⟩, z.2⟩) e1 (rv.append (.cons r2 .nil))
      have hl : vs.length < sizeLine := by
        rw [rv.length]
        have : xs.length + 1 ≤ sizeLine := hz
        omega
      exact ⟨p, vs, v1, rfl, rfl, hv, hl, q1 _ h.symm σ _ (p2.s.trans w)⟩
  · exact absurd h.symm n
end

/-! ### list comprehensions -/
theorem wipe_len : ∀ (vs : List Nat) (ρ : Env), (wipe ρ vs).length = ρ.length
  | [], _ => rfl
  | v :: vs, ρ => by show ((wipe ρ vs).set v .un).length = _; rw [List.length_set, wipe_len vs]
theorem wipe_out {j : Nat} : ∀ {vs : List Nat} {ρ : Env}, j ∉ vs → (wipe ρ vs)[j]? = ρ[j]?
  | [], _, _ => rfl
  | v :: vs, ρ, h => by
    have h' : j ≠ v ∧ j ∉ vs := by simpa using h
    show ((wipe ρ vs).set v .un)[j]? = _
    rw [List.getElem?_set_ne (Ne.symm h'.1), wipe_out h'.2]
theorem wipe_in {j : Nat} : ∀ {vs : List Nat} {ρ : Env} {s : Slot}, j ∈ vs → (wipe ρ vs)[j]? = some s → s = .un
  | [], _, _, h, _ => by cases h
  | v :: vs, ρ, s, h, e => by
    have e' : ((wipe ρ vs).set v .un)[j]? = some s := e
    by_cases hj : v = j
    · subst hj
      rw [List.getElem?_set] at e'
      simp only [if_true] at e'
      split at e' <;> cases e'
      rfl
    · rw [List.getElem?_set_ne hj] at e'
      refine wipe_in (vs := vs) ?_ e'
      rcases List.mem_cons.mp h with h | h
      · exact absurd h.symm hj
      · exact h
theorem unw_len (ρ0 : Env) : ∀ (vs : List Nat) (ρ : Env), (unwipe ρ0 ρ vs).length = ρ.length
  | [], _ => rfl
  | v :: vs, ρ => by show ((unwipe ρ0 ρ vs).set v _).length = _; rw [List.length_set, unw_len ρ0 vs]
theorem unw_out {ρ0 : Env} {j : Nat} : ∀ {vs : List Nat} {ρ : Env}, j ∉ vs → (unwipe ρ0 ρ vs)[j]? = ρ[j]?
  | [], _, _ => rfl
  | v :: vs, ρ, h => by
    have h' : j ≠ v ∧ j ∉ vs := by simpa using h
    show ((unwipe ρ0 ρ vs).set v _)[j]? = _
    rw [List.getElem?_set_ne (Ne.symm h'.1), unw_out h'.2]
theorem unw_in {ρ0 : Env} {j : Nat} : ∀ {vs : List Nat} {ρ : Env} {s : Slot}, j ∈ vs → (unwipe ρ0 ρ vs)[j]? = some s → s = getS ρ0 j
  | [], _, _, h, _ => by cases h
  | v :: vs, ρ, s, h, e => by
    have e' : ((unwipe ρ0 ρ vs).set v (getS ρ0 v))[j]? = some s := e
    by_cases hj : v = j
    · subst hj
      rw [List.getElem?_set] at e'
      simp only [if_true] at e'
      split at e' <;> cases e'
      rfl
    · rw [List.getElem?_set_ne hj] at e'
      refine unw_in (vs := vs) ?_ e'
      rcases List.mem_cons.mp h with h | h
      · exact absurd h.symm hj
      · exact h
theorem unw_self (ρ0 : Env) : ∀ (vs : List Nat), unwipe ρ0 ρ0 vs = ρ0
  | [] => rfl
  | v :: vs => by
    show (unwipe ρ0 ρ0 vs).set v (getS ρ0 v) = ρ0
    rw [unw_self ρ0 vs]
    apply List.ext_getElem?
    intro j
    by_cases hj : v = j
    · subst hj
      rw [List.getElem?_set]
      simp only [if_true]
      cases e : ρ0[v]? with
      | none => rw [if_neg]; have := List.getElem?_eq_none_iff.mp e; omega
      | some s => rw [if_pos (List.getElem?_eq_some_iff.mp e).1, getS_of e]
    · rw [List.getElem?_set_ne hj]
theorem lw_out {σ : L2.St} {j : Nat} : ∀ {vs : List Nat}, j ∉ vs → (L2.wipe σ vs)[j]? = σ[j]?
  | [], _ => rfl
  | v :: vs, h => by
    have h' : j ≠ v ∧ j ∉ vs := by simpa using h
    show ((L2.wipe σ vs).set v none)[j]? = _
    rw [List.getElem?_set_ne (Ne.symm h'.1), lw_out h'.2]
theorem lw_eq {σ σ' : L2.St} {vs : List Nat} {j : Nat} (h : L2.wipe σ' vs = L2.wipe σ vs) (n : j ∉ vs) : σ'[j]? = σ[j]? := by
  rw [← lw_out (σ := σ') n, h, lw_out n]
/-- a comprehension's target: names among vs -/
def SGv (G : GD) (vs : List Nat) (eg : D → Env → R Unit) (t : TG) : Prop := ∀ (X : Fr) (F : AS) (ρ : Env) (σ : L2.St) (H : Hp) (v : V) (d : D) (ρ' : Env) (Q : L2.St → Hp → Prop), SR G X F ρ σ H → (∀ i ∈ vs, plainS (getS ρ i) = true) → Dt G (Hr H (Mm F ρ σ)) v d → eg d ρ = .ok () ρ' →
  (∀ σ', SR G X F ρ' σ' H → L2.wipe σ' vs = L2.wipe σ vs → (∀ j, j ∉ vs → ρ'[j]? = ρ[j]?) → (∀ j ∈ vs, plainS (getS ρ' j) = true) → ρ'.length = ρ.length → (∀ a o, Hr H (Mm F ρ σ) a = some o → Hr H (Mm F ρ' σ') a = some o) → Q σ' H) → t v σ H Q
def SGvs (G : GD) (vs : List Nat) (eg : List D → Env → R Unit) (t : TGs) : Prop := ∀ (X : Fr) (F : AS) (ρ : Env) (σ : L2.St) (H : Hp) (v : List V) (d : List D) (ρ' : Env) (Q : L2.St → Hp → Prop), SR G X F ρ σ H → (∀ i ∈ vs, plainS (getS ρ i) = true) → DtA G (Hr H (Mm F ρ σ)) v d → eg d ρ = .ok () ρ' →
  (∀ σ', SR G X F ρ' σ' H → L2.wipe σ' vs = L2.wipe σ vs → (∀ j, j ∉ vs → ρ'[j]? = ρ[j]?) → (∀ j ∈ vs, plainS (getS ρ' j) = true) → ρ'.length = ρ.length → (∀ a o, Hr H (Mm F ρ σ) a = some o → Hr H (Mm F ρ' σ') a = some o) → Q σ' H) → t v σ H Q
theorem lw_get (σ : L2.St) (j : Nat) : ∀ vs : List Nat, (L2.wipe σ vs)[j]? = if j ∈ vs then (if j < σ.length then some none else none) else σ[j]?
  | [] => by simp [L2.wipe]
  | v :: vs => by
    show ((L2.wipe σ vs).set v none)[j]? = _
    by_cases hj : v = j
    · subst hj
      rw [List.getElem?_set, L2.wipe_length]
      simp
    · rw [List.getElem?_set_ne hj, lw_get σ j vs]
      have : j ∈ v :: vs ↔ j ∈ vs := by simp [Ne.symm hj]
      simp only [this]
theorem lw_set {σ : L2.St} {vs : List Nat} {i : Nat} {x : Option V} (h : i ∈ vs) : L2.wipe (σ.set i x) vs = L2.wipe σ vs := by
  apply List.ext_getElem?
  intro j
  rw [lw_get, lw_get, List.length_set]
  by_cases hj : j ∈ vs
  · rw [if_pos hj, if_pos hj]
  · rw [if_neg hj, if_neg hj, List.getElem?_set_ne fun (e : i = j) => hj (e ▸ h)]
section
variable {G : GD}
theorem sgv_name {vs : List Nat} {i : Nat} (hv : i ∈ vs) : SGv G vs (fun d ρ => putName ρ i d .frz) (gName i) := by
  intro X F ρ σ H v d ρ' Q S pl r h q
  unfold putName at h
  have pi := pl i hv
  have n : ∀ x, getS ρ i ≠ .io x := fun x e => by rw [e] at pi; cases pi
  have h' : (if i < ρ.length then R.ok () (ρ.set i (.val d)) else .no) = .ok () ρ' := by
    dsimp only at h
    cases e : getS ρ i with
    | io x => exact absurd e (n x)
    | un => rw [e] at h; exact h
    | val y => rw [e] at h; exact h
    | own y => rw [e] at h; exact h
  split at h'
  · rename_i hi
    cases h'
    have p := put_frz S hi (not_io n) r
    refine q _ p.sr (lw_set hv) (fun j hj => List.getElem?_set_ne fun (e : i = j) => hj (e ▸ hv)) (fun j hj => ?_) (List.length_set ..) p.le
    by_cases e : i = j
    · subst e
      rw [getS_of (List.getElem?_set_self hi)]
      rfl
    · have : getS (ρ.set i (.val d)) j = getS ρ j := by unfold getS; rw [List.getElem?_set_ne e]
      rw [this]; exact pl j hj
  · cases h'
theorem sgv_nil {vs : List Nat} : SGvs G vs (fun ds ρ => match ds with | [] => .ok () ρ | _ => .no) gNil := by
  intro X F ρ σ H v ds ρ' Q S pl r h q
  cases r with
  | nil => cases h; exact ⟨rfl, q _ S rfl (fun _ _ => rfl) pl rfl fun _ _ e => e⟩
  | cons _ _ => cases h
theorem sgv_cons {vs : List Nat} {et : D → Env → R Unit} {er : List D → Env → R Unit} {t : TG} {u : TGs} (h1 : SGv G vs et t) (h2 : SGvs G vs er u) :
    SGvs G vs (fun ds ρ => match ds with | d :: ds => (et d ρ).bind fun _ ρ => er ds ρ | [] => .no) (gCons t u) := by
  intro X F ρ σ H v ds ρ' Q S pl r h q
  cases r with
  | nil => cases h
  | @cons v d w ds r1 r2 =>
    obtain ⟨a, ρ1, h3, h⟩ := bind_ok h
    refine ⟨v, w, rfl, ?_⟩
    refine h1 X F ρ σ H v d ρ1 _ S pl r1 h3 fun σ1 S1 w1 o1 pl1 l1 le1 => ?_
    refine h2 X F ρ1 σ1 H w ds ρ' _ S1 pl1 (r2.le le1) h fun σ2 S2 w2 o2 pl2 l2 le2 => ?_
    exact q _ S2 (w2.trans w1) (fun j hj => (o2 j hj).trans (o1 j hj)) pl2 (l2.trans l1) fun a o e => le2 a o (le1 a o e)
theorem sgv_tup {vs : List Nat} {er : List D → Env → R Unit} {n : Nat} {u : TGs} (hn : ∀ ds ρ ρ', er ds ρ = .ok () ρ' → ds.length = n) (h2 : SGvs G vs er u) :
    SGv G vs (fun d ρ => match d with | .tup xs => er xs ρ | _ => .no) (gTup G.K n u) := by
  intro X F ρ σ H v d ρ' Q S pl r h q
  cases r with
  | tup s r => exact ⟨_, _, rfl, sqt_le hr_sub s, r.length.trans (hn _ _ _ h), h2 X F ρ σ H _ _ ρ' Q S pl r h q⟩
  | _ => cases h
end
section
variable {G : GD} {X : Fr} {F : AS} {ρ0 ρ ρ' ρ2 : Env} {σ σ' : L2.St} {H H' : Hp} {vs : List Nat}
theorem getS_unw {j : Nat} (hl : ρ.length = ρ0.length) (h : j ∈ vs) : getS (unwipe ρ0 ρ vs) j = getS ρ0 j := by
  cases e : (unwipe ρ0 ρ vs)[j]? with
  | some s => rw [getS_of e, unw_in h e]
  | none =>
    have h1 := List.getElem?_eq_none_iff.mp e
    rw [unw_len, hl] at h1
    unfold getS
    rw [e, List.getElem?_eq_none_iff.mpr h1]
/-- the state ahead of a turn's target -/
theorem sr_wiped (pl : ∀ i ∈ vs, plainS (getS ρ0 i) = true) (S : SR G X F (unwipe ρ0 ρ vs) σ H) : SR G X F (wipe ρ vs) (L2.wipe σ vs) H ∧ Mm F (wipe ρ vs) (L2.wipe σ vs) = Mm F (unwipe ρ0 ρ vs) σ := by
  have nin : ∀ i p, OwnAt (unwipe ρ0 ρ vs) σ i p → i ∉ vs := fun i p ⟨⟨d, z⟩, _⟩ hi => by
    have := pl i hi
    rcases z with z | z
    · rw [← unw_in hi z] at this; cases this
    · rw [← unw_in hi z] at this; cases this
  have nin2 : ∀ i p, OwnAt (wipe ρ vs) (L2.wipe σ vs) i p → i ∉ vs := fun i p ⟨⟨d, z⟩, _⟩ hi => by
    rcases z with z | z
    · have := wipe_in hi z; cases this
    · have := wipe_in hi z; cases this
  have own : ∀ i p, OwnAt (wipe ρ vs) (L2.wipe σ vs) i p ↔ OwnAt (unwipe ρ0 ρ vs) σ i p := fun i p => by
    refine ⟨fun h => ?_, fun h => ?_⟩
    · have n := nin2 i p h
      unfold OwnAt at h ⊢
      rw [wipe_out n, lw_out n] at h
      rw [unw_out n]; exact h
    · have n := nin i p h
      unfold OwnAt at h ⊢
      rw [unw_out n] at h
      rw [wipe_out n, lw_out n]; exact h
  have mm : Mm F (wipe ρ vs) (L2.wipe σ vs) = Mm F (unwipe ρ0 ρ vs) σ := by
    funext a
    exact propext ⟨fun z => z.imp id fun ⟨j, z⟩ => ⟨j, (own j a).mp z⟩, fun z => z.imp id fun ⟨j, z⟩ => ⟨j, (own j a).mpr z⟩⟩
  refine ⟨⟨?_, fun i j p a b => S.inj i j p ((own i p).mp a) ((own j p).mp b), fun i p a => S.dis i p ((own i p).mp a), fun i s e => ?_, S.frame, fun i p a => S.ownf i p ((own i p).mp a), S.fdom, fun i p z => ?_⟩, mm⟩
  · rw [wipe_len, L2.wipe_length, ← S.len, unw_len]
  · rw [mm]
    by_cases hi : i ∈ vs
    · rw [wipe_in hi e]; trivial
    · rw [wipe_out hi] at e
      rw [lw_out hi]
      exact S.slot i s (by rw [unw_out hi]; exact e)
  · obtain ⟨⟨d, h1⟩, h2⟩ := S.ios i p z
    have n := nin i p ⟨⟨d, .inr h1⟩, h2⟩
    rw [unw_out n] at h1
    exact ⟨⟨d, by rw [wipe_out n]; exact h1⟩, by rw [lw_out n]; exact h2⟩
/-- a turn's end, seen from outside -/
theorem po_unwiped (pl : ∀ i ∈ vs, plainS (getS ρ0 i) = true) (hl0 : ρ.length = ρ0.length) (S : SR G X F (unwipe ρ0 ρ vs) σ H) (hw : L2.wipe σ' vs = L2.wipe σ vs) (o : ∀ j, j ∉ vs → ρ'[j]? = ρ[j]?) (pl' : ∀ j ∈ vs, plainS (getS ρ' j) = true) (hl : ρ'.length = ρ.length)
    (le0 : ∀ a o, Hr H (Mm F (unwipe ρ0 ρ vs) σ) a = some o → Hr H (Mm F ρ' σ') a = some o) (P : Po G X σ' F ρ' H F ρ2 H') : Po G X σ F (unwipe ρ0 ρ vs) H F (unwipe ρ0 ρ2 vs) H' ∧ Mm F (unwipe ρ0 ρ2 vs) σ = Mm F ρ2 σ' ∧ ρ2.length = ρ0.length := by
  have S2 := P.sr
  have hlσ : σ'.length = σ.length := by rw [← L2.wipe_length σ' vs, hw, L2.wipe_length]
  have hl2 : ρ2.length = ρ0.length := by
    have h1 := S2.len
    have h2 := S.len
    rw [unw_len] at h2
    omega
  have nin : ∀ i p, OwnAt (unwipe ρ0 ρ2 vs) σ i p → i ∉ vs := fun i p ⟨⟨d, z⟩, _⟩ hi => by
    have := pl i hi
    rcases z with z | z
    · rw [← unw_in hi z] at this; cases this
    · rw [← unw_in hi z] at this; cases this
  have nin2 : ∀ i p, OwnAt ρ2 σ' i p → i ∉ vs := fun i p z hi => by
    obtain ⟨⟨d, z⟩, _⟩ := P.sub i p z
    have := pl' i hi
    rcases z with z | z
    · rw [getS_of z] at this; cases this
    · rw [getS_of z] at this; cases this
  have own : ∀ i p, OwnAt (unwipe ρ0 ρ2 vs) σ i p ↔ OwnAt ρ2 σ' i p := fun i p => by
    refine ⟨fun h => ?_, fun h => ?_⟩
    · have n := nin i p h
      unfold OwnAt at h ⊢
      rw [unw_out n] at h
      rw [lw_eq hw n]; exact h
    · have n := nin2 i p h
      unfold OwnAt at h ⊢
      rw [lw_eq hw n] at h
      rw [unw_out n]; exact h
  have mm : Mm F (unwipe ρ0 ρ2 vs) σ = Mm F ρ2 σ' := by
    funext a
    exact propext ⟨fun z => z.imp id fun ⟨j, z⟩ => ⟨j, (own j a).mp z⟩, fun z => z.imp id fun ⟨j, z⟩ => ⟨j, (own j a).mpr z⟩⟩
  have le : ∀ a o, Hr H (Mm F (unwipe ρ0 ρ vs) σ) a = some o → Hr H' (Mm F (unwipe ρ0 ρ2 vs) σ) a = some o := fun a o e => by rw [mm]; exact P.le a o (le0 a o e)
  refine ⟨⟨⟨?_, fun i j p a b => S2.inj i j p ((own i p).mp a) ((own j p).mp b), fun i p a => S2.dis i p ((own i p).mp a), fun i s e => ?_, S2.frame, fun i p a => S2.ownf i p ((own i p).mp a), S2.fdom, fun i p z => ?_⟩, le, P.keep, fun i p z => ?_, fun i z => ?_⟩, mm, hl2⟩
  · rw [unw_len, hl2, ← hl0, ← S.len, unw_len]
  · by_cases hi : i ∈ vs
    · have e2 := unw_in hi e
      subst e2
      have pi := pl i hi
      cases e3 : getS ρ0 i with
      | un => trivial
      | val d =>
        have e4 : (unwipe ρ0 ρ vs)[i]? = some (.val d) := getS_eq (by rw [getS_unw hl0 hi, e3]) (by simp)
        obtain ⟨v, e5, r⟩ := S.slot i _ e4
        exact ⟨v, e5, r.le le⟩
      | own d => rw [e3] at pi; cases pi
      | io d => rw [e3] at pi; cases pi
    · rw [mm, ← lw_eq hw hi]
      rw [unw_out hi] at e
      exact S2.slot i s e
  · obtain ⟨⟨d, h1⟩, h2⟩ := S2.ios i p z
    have n := nin2 i p ⟨⟨d, .inr h1⟩, h2⟩
    exact ⟨⟨d, by rw [unw_out n]; exact h1⟩, by rw [← lw_eq hw n]; exact h2⟩
  · have n := nin i p z
    have := P.sub i p ((own i p).mp z)
    unfold OwnAt at this ⊢
    rw [o i n, lw_eq hw n] at this
    rw [unw_out n]; exact this
  · by_cases hi : i ∈ vs
    · obtain ⟨d, z⟩ := z
      have : (unwipe ρ0 ρ2 vs)[i]? = (unwipe ρ0 ρ vs)[i]? := by
        cases e : (unwipe ρ0 ρ vs)[i]? with
        | none => rw [e] at z; rcases z with z | z | z <;> cases z
        | some s =>
          have hi2 : i < (unwipe ρ0 ρ2 vs).length := by
            have := (List.getElem?_eq_some_iff.mp e).1
            rw [unw_len] at this ⊢
            omega
          rw [unw_in hi e]
          have e2 : (unwipe ρ0 ρ2 vs)[i]? = some (unwipe ρ0 ρ2 vs)[i] := List.getElem?_eq_getElem hi2
          rw [e2, ← unw_in hi e2]
      exact ⟨d, by rw [this]; exact z⟩
    · obtain ⟨d, z⟩ := z
      rw [unw_out hi, ← o i hi] at z
      obtain ⟨d', z'⟩ := P.liv i ⟨d, z⟩
      exact ⟨d', by rw [unw_out hi]; exact z'⟩
/-- a temporary's content is changed -/
theorem Po.wr {F : AS} {p : Addr} {o : HO} (P : Po G X σ F ρ H (addF F p) ρ' H') (nF : ¬ F p) (h0 : X.H0 p = none) : Po G X σ F ρ H (addF F p) ρ' (upd H' p o) := by
  have S := P.sr
  have kp : ∀ a, a ≠ p → upd H' p o a = H' a := fun a e => upd_ne e
  have le : ∀ a u, Hr H' (Mm (addF F p) ρ' σ) a = some u → Hr (upd H' p o) (Mm (addF F p) ρ' σ) a = some u := hr_mono (fun a u n e => by
    rw [kp a fun z => n (.inl (.inl z))]; exact e) fun a z => .inl z
  refine ⟨⟨S.len, S.inj, S.dis, fun i s e => ?_, fun a u n e => ?_, S.ownf, fun q z => ?_, S.ios⟩, fun a u e => le a u (P.le a u e), fun q z => ⟨(P.keep q z).1, ?_⟩, P.sub, P.liv⟩
  · have q := S.slot i s e
    have ne : ∀ q, OwnAt ρ' σ i q → q ≠ p := fun q h e => S.dis i q h (.inl e)
    cases s with
    | un => trivial
    | val d => obtain ⟨v, e, q⟩ := q; exact ⟨v, e, q.le le⟩
    | own d => obtain ⟨v, e1, q⟩ := q; exact ⟨v, e1, q.le le (kp v (ne v ⟨⟨d, .inl e⟩, e1⟩))⟩
    | io d => obtain ⟨v, e1, q⟩ := q; exact ⟨v, e1, q.le le (kp v (ne v ⟨⟨d, .inr e⟩, e1⟩))⟩
  · rw [kp a fun z => by rw [z, h0] at e; cases e]
    exact S.frame a u n e
  · by_cases hq : q = p
    · subst hq; rw [upd_same]; simp
    · rw [kp q hq]; exact S.fdom q z
  · rw [kp q fun z => nF (z ▸ ‹F q›)]
    exact (P.keep q z).2
end
section
variable {G : GD}
theorem se_lc {vs : List Nat} {ei : Env → R (List D)} {eg : D → Env → R Unit} {ec : Env → R Bool} {ee : Env → R (D × Kd)} {wi : TI} {g : TG} {tt : TT} {te : TE} (hi : SI G ei wi) (hg : SGv G vs eg g) (hc : STt G ec tt) (he : SE G ee te) :
    SE G (fun ρ => if (vs.all fun v => plainS (getS ρ v)) = true then (ei ρ).bind fun items ρ1 => (lcLoop vs eg ec ee items [] ρ1).bind fun acc ρ2 => .ok (.lst acc, .fr) (unwipe ρ1 ρ2 vs) else .no) (tLc wi g tt te vs) := by
  intro X F ρ σ H Q d k ρ' S h q
  dsimp only at h
  split at h
  · rename_i hpl0
    obtain ⟨ds, ρ1, h1, h⟩ := bind_ok h
    obtain ⟨accF, ρ2, h2, h⟩ := bind_ok h
    cases h
    have S0 := S
    refine hi X F ρ σ H _ ds ρ1 S h1 fun J H1 p1 it => ?_
    intro Da hDa
    have S1 := p1.sr
    obtain ⟨n1, n2⟩ := S1.new0 hDa
    have nF : ¬ F Da := fun z => S1.fdom Da z hDa
    have pl : ∀ i ∈ vs, plainS (getS ρ1 i) = true := by
      intro i hi
      have h0 : plainS (getS ρ i) = true := List.all_eq_true.mp hpl0 i hi
      cases e : getS ρ1 i with
      | un => rfl
      | val d => rfl
      | own d =>
        have g := getS_eq e (by simp)
        obtain ⟨p, e1, _⟩ := S1.slot i _ g
        obtain ⟨⟨d', z⟩, _⟩ := p1.sub i p ⟨⟨d, .inl g⟩, e1⟩
        rcases z with z | z
        · rw [getS_of z] at h0; cases h0
        · rw [getS_of z] at h0; cases h0
      | io d =>
        have g := getS_eq e (by simp)
        obtain ⟨p, e1, _⟩ := S1.slot i _ g
        obtain ⟨⟨d', z⟩, _⟩ := p1.sub i p ⟨⟨d, .inr g⟩, e1⟩
        rcases z with z | z
        · rw [getS_of z] at h0; cases h0
        · rw [getS_of z] at h0; cases h0
    refine ⟨fun i m H' => m = ds.length - i ∧ i ≤ ds.length ∧ ∃ ρi acc accV, lcLoop vs eg ec ee (ds.drop i) acc ρi = .ok accF ρ2 ∧ Po G X σ F ρ1 H1 (addF F Da) (unwipe ρ1 ρi vs) H' ∧ ρi.length = ρ1.length ∧ H' Da = some (.lst accV) ∧ DtA G (Hr H' (Mm (addF F Da) (unwipe ρ1 ρi vs) σ)) accV acc, ⟨_, rfl, Nat.zero_le _, ρ1, [], [], h2, ?_, rfl, upd_same, .nil⟩, ?_⟩
    · rw [unw_self]; exact Po.laidF S1 hDa
    rintro i m H' ⟨rfl, hle, ρi, acc, accV, hl, P, hlen, hA, rA⟩
    have leL : ∀ a o, Hr H1 (Mm F ρ1 σ) a = some o → Hr H' (Mm (addF F Da) (unwipe ρ1 ρi vs) σ) a = some o := P.le
    cases e : ds[i]? with
    | none =>
      have hi : i = ds.length := Nat.le_antisymm hle (List.getElem?_eq_none_iff.mp e)
      subst hi
      rw [List.drop_length] at hl
      cases hl
      exact .inl ⟨it.stop H' _ leL, q _ H' (addF F Da) (p1.trans P) (.fr rfl nF n1 n2 ⟨accV, hA, rA⟩)⟩
    | some d =>
      have hi : i < ds.length := (List.getElem?_eq_some_iff.mp e).1
      rw [drop_get e] at hl
      refine .inr ⟨it.go H' _ i d leL e, fun H2 => ∃ m', m' < ds.length - i ∧ (m' = ds.length - (i + 1) ∧ i + 1 ≤ ds.length ∧ ∃ ρi acc accV, lcLoop vs eg ec ee (ds.drop (i + 1)) acc ρi = .ok accF ρ2 ∧ Po G X σ F ρ1 H1 (addF F Da) (unwipe ρ1 ρi vs) H2 ∧ ρi.length = ρ1.length ∧ H2 Da = some (.lst accV) ∧ DtA G (Hr H2 (Mm (addF F Da) (unwipe ρ1 ρi vs) σ)) accV acc), fun H2 z => z, fun x H2 y => ?_⟩
      obtain ⟨p2, r2⟩ := yld_ok P.sr it leL e y
      have P2 := P.trans p2
      obtain ⟨S3, mm3⟩ := sr_wiped (ρ0 := ρ1) (ρ := ρi) pl p2.sr
      have hpw : ∀ j ∈ vs, plainS (getS (wipe ρi vs) j) = true := fun j hj => by
        cases e3 : (wipe ρi vs)[j]? with
        | none => unfold getS; rw [e3]; rfl
        | some s => rw [getS_of e3, wipe_in hj e3]; rfl
      obtain ⟨a, ρ3, h3, hl⟩ := bind_ok (show (eg d (wipe ρi vs)).bind (fun _ ρ => (ec ρ).bind fun k ρ => if k = true then (ee ρ).bind fun y ρ => (settle ρ y.1 y.2).bind fun d ρ => if acc.length < sizeLine then lcLoop vs eg ec ee (ds.drop (i + 1)) (acc ++ [d]) ρ else .no else lcLoop vs eg ec ee (ds.drop (i + 1)) acc ρ) = .ok accF ρ2 from hl)
      refine hg X (addF F Da) (wipe ρi vs) (L2.wipe σ vs) H2 x d ρ3 _ S3 hpw (by rw [mm3]; exact r2) h3 fun σ3 S4 hw ho pl3 hl3 le3 => ?_
      have hw2 : L2.wipe σ3 vs = L2.wipe σ vs := hw.trans (by
        apply List.ext_getElem?
        intro j
        simp only [lw_get, L2.wipe_length]
        by_cases hj : j ∈ vs
        · simp only [if_pos hj]
        · simp only [if_neg hj])
      have ho2 : ∀ j, j ∉ vs → ρ3[j]? = ρi[j]? := fun j hj => (ho j hj).trans (wipe_out hj)
      have hl4 : ρ3.length = ρi.length := hl3.trans (wipe_len vs ρi)
      refine ⟨hw2, ?_⟩
      obtain ⟨b, ρ4, h4, hl⟩ := bind_ok hl
      refine hc X (addF F Da) ρ3 σ3 H2 _ b ρ4 S4 h4 fun H3 p3 => ?_
      have unw : ∀ {ρ5 : Env} {H5 : Hp}, Po G X σ3 (addF F Da) ρ3 H2 (addF F Da) ρ5 H5 → Po G X σ F ρ1 H1 (addF F Da) (unwipe ρ1 ρ5 vs) H5 ∧ Mm (addF F Da) (unwipe ρ1 ρ5 vs) σ = Mm (addF F Da) ρ5 σ3 ∧ ρ5.length = ρ1.length ∧ H5 Da = some (.lst accV) ∧ DtA G (Hr H5 (Mm (addF F Da) (unwipe ρ1 ρ5 vs) σ)) accV acc := fun {ρ5 H5} p5 => by
        obtain ⟨q1, q2, q3⟩ := po_unwiped (ρ0 := ρ1) (ρ := ρi) pl hlen p2.sr hw2 ho2 pl3 hl4 (fun a o e => le3 a o (by rw [mm3]; exact e)) p5
        refine ⟨P2.trans q1, q2, q3, ?_, rA.le fun a o e => q1.le a o (p2.le a o e)⟩
        exact (q1.keep Da (.inl rfl)).2.trans ((p2.keep Da (.inl rfl)).2.trans hA)
      cases b with
      | false =>
        obtain ⟨u1, u2, u3, u4, u5⟩ := unw p3
        exact ⟨_, by omega, rfl, hi, ρ4, acc, accV, hl, u1, u3, u4, u5⟩
      | true =>
        obtain ⟨⟨d5, k5⟩, ρ5, h5, hl⟩ := bind_ok (show ((ee ρ4).bind fun y ρ => (settle ρ y.1 y.2).bind fun d ρ => if acc.length < sizeLine then lcLoop vs eg ec ee (ds.drop (i + 1)) (acc ++ [d]) ρ else .no) = .ok accF ρ2 from hl)
        obtain ⟨d6, ρ6, h6, hl⟩ := bind_ok hl
        split at hl
        · rename_i hz
          refine he X (addF F Da) ρ4 σ3 H3 _ d5 k5 ρ5 p3.sr h5 fun y H4 F4 p4 r4 => ?_
          obtain ⟨p5, r5⟩ := settle_ok p4 r4 h6
          obtain ⟨u1, u2, u3, u4, u5⟩ := unw (p3.trans p5)
          refine ⟨accV, u4, by rw [u5.length]; exact hz, _, by omega, rfl, hi, ρ6, acc ++ [d6], accV ++ [y], hl, u1.wr nF n1, u3, upd_same, ?_⟩
          have r6 : DtA G (Hr H4 (Mm (addF F Da) (unwipe ρ1 ρ6 vs) σ)) (accV ++ [y]) (acc ++ [d6]) := u5.append (.cons (by rw [u2]; exact r5) .nil)
          exact r6.le (hr_mono (fun a u n e => by rw [upd_ne fun z => n (.inl (.inl z))]; exact e) fun a z => .inl z)
        · cases hl
  · cases h
end
end Mp

set_option maxRecDepth 100000
set_option maxHeartbeats 4000000
/-! Mp12: enumerate over lists and tuples. -/
namespace Mp
open PySem PySem.Spec PyProof.Rows L2
open AutoSeq1 (wpAny_loadPart')
theorem meets_enum_newT (l : Addr) (items : Array Value) (n : Nat) (dct : Option Addr) (sl : Array (Option Value)) :
    Meets (Builtin.«enumerate.__new__» ⟨[.type "enumerate", .ref l], []⟩) (fun _ R s => s.heap.get? l = some { cls := .type "tuple", dict := dct, data := .seq items n, slots := sl } ∧
      R (.ok (.ret (.ref (s.heap.push { cls := .type "tuple_iterator", data := .fields #[.ref l, .int 0 0] }).objs.size)))
        { s with heap := (s.heap.push { cls := .type "tuple_iterator", data := .fields #[.ref l, .int 0 0] }).push { cls := .type "enumerate", data := .fields #[.none, .bool false, .ref s.heap.objs.size, rawInt 0, .none, .none] } }) :=
  .of_wp fun prog w A R s h => by
    obtain ⟨hp, g, d, tk, os⟩ := s; obtain ⟨hl, h⟩ := h
    have hsub := sub_enumerate
    have hL : Heap.IsTuple (Shared.heap ⟨hp, g, d, tk, os⟩) l items := ⟨_, hl, rfl, n, rfl⟩
    wp_walk using wpAny_loadPart' hl
    refine wpAny_stack_any fun st => wpAny_pure ?_
    split
    · rename_i c _ _ _ _ _
      cases (c == Value.type "enumerate")
      · wp_walk using wpAny_loadPart' hl, wpAny_pyIter_tuple hL
        exact ⟨_, rfl, h⟩
      · wp_walk using wpAny_loadPart' hl, wpAny_pyIter_tuple hL
        exact ⟨_, rfl, h⟩
    · wp_walk using wpAny_loadPart' hl, wpAny_pyIter_tuple hL
      exact ⟨_, rfl, h⟩
section
variable {prog : Program} {w : World} {A : Around} {E : Value → Shared → Prop} {s : Shared}
theorem call_enum_tuple {l : Addr} {items : Array Value} {Q : Value → Shared → Prop} (hL : s.heap.IsTuple l items)
    (h : ∀ h', IsEnum h' (s.heap.objs.size + 1) s.heap.objs.size 0 .none → h'.IsTupleIter s.heap.objs.size l 0 → h'.objs.size = s.heap.objs.size + 2 →
      (∀ b o, s.heap.get? b = some o → h'.get? b = some o) → Q (.ref (s.heap.objs.size + 1)) { s with heap := h' }) :
    wpAny (model prog w) A (call (.type "enumerate") [.ref l]) Q E s := by
  obtain ⟨⟨c, dct, dt, sl⟩, hl, hc, n, hd⟩ := hL
  replace hc : c = .type "tuple" := hc
  replace hd : dt = .seq items n := hd
  subst hc hd
  refine callType_new F.called_enumerate (by decide) (F.typeCall_enumerate_1 _) (F.newCall_enumerate_1 _) (fun obj => F.args_object_init_2 obj _) F.entry_enumerate_new
    (meets_enum_newT l items n dct sl) ⟨hl, ?_⟩
  have hz : (s.heap.push { cls := .type "tuple_iterator", data := .fields #[.ref l, .int 0 0] }).objs.size = s.heap.objs.size + 1 := Heap.size_push ..
  show _ ∧ _
  rw [hz]
  have he : IsEnum ((s.heap.push { cls := .type "tuple_iterator", data := .fields #[.ref l, .int 0 0] }).push
      { cls := .type "enumerate", data := .fields #[.none, .bool false, .ref s.heap.objs.size, rawInt 0, .none, .none] }) (s.heap.objs.size + 1) s.heap.objs.size 0 .none := by
    have := Heap.get?_push_size (s.heap.push { cls := .type "tuple_iterator", data := .fields #[.ref l, .int 0 0] })
      (o := { cls := .type "enumerate", data := .fields #[.none, .bool false, .ref s.heap.objs.size, rawInt 0, .none, .none] }) rfl
    rw [hz] at this; exact this
  refine ⟨⟨_, he, rfl⟩, h _ he ⟨_, Heap.get?_push_of_some _ (Heap.get?_push_size _ rfl), rfl, rfl⟩ (by rw [Heap.size_push, hz]) fun b o x => Heap.get?_push_of_some _ (Heap.get?_push_of_some _ x)⟩
end
/-- the tuple at a, each item in a new pair -/
def Itet (K : PySem.W.Frag) (a : Addr) : It :=
  ⟨fun i H => ∃ (xs : List V) (x : V), SqT K H a xs ∧ xs[i]? = some x, fun i H v H' => ∃ T x, v = .ref T ∧ H T = none ∧ H' = upd H T (.tup [.int (i : Nat), x]) ∧ ∀ xs, SqT K H a xs → xs[i]? = some x, fun i H => ∃ xs : List V, SqT K H a xs ∧ xs.length ≤ i⟩
theorem turn_enumT {P : Program} {w : World} {K : PySem.W.Frag} {elts : List Expr} {kk : Nat} {tpos : Pos} (a e it : Addr) :
    Turn P w K (.Tuple elts kk tpos) (Itet K a) [e, it] e (fun i h => (∃ old, IsEnum h e it ((i : Nat) : Int) old) ∧ h.IsTupleIter it a i ∧ e ≠ it) where
  mem := by simp
  obj := fun i h st b hb => by
    obtain ⟨⟨old, he⟩, ⟨o, ho, hc, hd⟩, _⟩ := st
    have e' : b = e ∨ b = it := by simpa using hb
    rcases e' with z | z
    · rw [z]; exact ⟨_, he, fun v q => nomatch q⟩
    · rw [z]; exact ⟨o, ho, fun v q => by rw [hd] at q; cases q⟩
  keep := fun i h h' st k => let ⟨⟨old, he⟩, hi, hne⟩ := st; ⟨⟨old, k e (by simp) _ he⟩, hi.at fun o q => k it (by simp) o q, hne⟩
  item := by
    intro X hP hw hK hc i pins s σ H E I hf st hg
    subst hP hw hK
    obtain ⟨⟨old, he⟩, hit, hne⟩ := st
    obtain ⟨xs, x, hq, hx⟩ := hg
    obtain ⟨its, rv, p, hz⟩ := I.tuple hq
    obtain ⟨u, hu, ru⟩ := rv.get hx
    have hel : e < s.heap.objs.size := Heap.lt_size he
    have hil : it < s.heap.objs.size := by obtain ⟨_, q, _⟩ := hit; exact Heap.lt_size q
    have pT : s.heap.IsTuple a its.toArray := p
    have hai : a ≠ it := fun z => by
      obtain ⟨o1, q1, c1, _⟩ := pT
      obtain ⟨o2, q2, c2, _⟩ := hit
      rw [z] at q1
      rw [q1] at q2; cases q2
      rw [c1] at c2; injection c2 with z; exact absurd z (by decide)
    have hae : e ≠ a := fun z => by
      obtain ⟨o1, q1, c1, _⟩ := pT
      rw [← z] at q1
      have he' : s.heap.get? e = some _ := he
      rw [q1] at he'; cases he'; injection c1 with z; exact absurd z (by decide)
    have D := Draws.tuple (prog := X.prog) (w := X.w) (A := X.A.in1) (show X.A.in1.handled = none from I.ok.hd hc) it a hai its.toArray
    refine wpAny_pyNext_enum_itemD D he ⟨hit, pT⟩ (i := i) (by have := (List.getElem?_eq_some_iff.mp hu).1; simpa using this) hne (by simp [hne, hae]) fun y h' tk hP ho hst' hT hsz hk => ?_
    have hy : y = u := by
      have h1 : its.toArray[i]? = some y := hP
      have h2 : its.toArray[i]? = some u := by simpa using hu
      rw [h1] at h2; cases h2; rfl
    subst hy
    refine ⟨_, rfl, wpAny_letOwnedTupleGo_enum (s := { s with heap := h', toks := tk + 1 }) ho fun h'' he' sb => ?_⟩
    have hT2 : h''.get? s.heap.objs.size = some { cls := .type "tuple", data := .seq #[.int i tk, y] } := (sb.2 _ (Nat.ne_of_gt hel)).trans hT
    have new : ObjOk X.prog X.w (upd H s.heap.objs.size (.tup [.int (i : Nat), x])) h'' s.heap.objs.size (.tup [.int (i : Nat), x]) :=
      ⟨by show 2 ≤ sizeLine; decide, [.int i tk, y], .cons ⟨_, rfl⟩ (.cons ru .nil), ⟨_, hT2, rfl, _, rfl⟩⟩
    have I1 : Inv X pins σ (upd H s.heap.objs.size (.tup [.int (i : Nat), x])) { s with heap := h'', toks := tk + 1 } :=
      I.turnedNew (ch := [e, it]) (fun b ob hb q => (sb.2 b (fun z => hb (by simp [z]))).trans (hk b ob (fun z => hb (by simp [z])) (fun z => hb (by simp [z])) q)) hf (Nat.le_refl _) new
    refine ⟨.ref s.heap.objs.size, _, I1, rfl, ⟨_, x, rfl, I.hok.fresh (Nat.le_refl _), rfl, fun ys hy => by rw [I.tuple_inj hy hq]; exact hx⟩, ⟨⟨y, ?_⟩, hst'.1.at fun o q => (sb.2 it (Ne.symm hne)).trans q, hne⟩, fun b hb => ?_⟩
    · have e1 : ((i + 1 : Nat) : Int) = (i : Int) + 1 := by omega
      rw [e1]; exact he'
    · have hb' : b < s.heap.objs.size := by
        have e' : b = e ∨ b = it := by simpa using hb
        rcases e' with z | z
        · rw [z]; exact hel
        · rw [z]; exact hil
      rw [upd_ne (Nat.ne_of_lt hb')]
      exact (hf b hb).1
  done := by
    intro X hP hw hK hc i pins s σ H E I hf st hg
    subst hP hw hK
    obtain ⟨⟨old, he⟩, hit, hne⟩ := st
    obtain ⟨xs, hq, hx⟩ := hg
    obtain ⟨its, rv, p, hz⟩ := I.tuple hq
    obtain ⟨f0, f1, f2, f3, f4, f5⟩ := hf it (by simp)
    have hl := rv.length
    have pT : s.heap.IsTuple a its.toArray := p
    have hT : s.TypeIs (.ref e) "enumerate" := ⟨_, he, rfl⟩
    unfold pyNext
    refine wpAny_bind (wpAny_attempt (wpAny_callSpecial?_slot (name := Str.ofString "__next__") hT F.slot_enumerate_next
      (wpAny_call_entry F.slot_enumerate_next hT F.entry_enumerate_next ?_ (F.args_enumerate_next_1 _))))
    show wpAny _ _ (field (.ref e) 2 >>= _) _ _ _
    refine wpAny_bind (wpAny_field he rfl (x := .ref it) rfl ?_)
    refine wpAny_bind (wpAny_nextOf_tuple_end (show X.A.in1.handled = none from I.ok.hd hc) hit pT (by simp; omega) fun h' x eb hx' => ?_)
    obtain ⟨o, ho, hc'⟩ := hx'
    refine wpAny_bind (wpAny_isInstance (T := "StopIteration") (b := true) ⟨o, ho, hc'⟩ isSubtype_stop ?_)
    exact wpAny_pure ⟨rfl, I.turned (t' := s.toks) (fun b o hb q => eb b o hb q) f0 f1 f3 f4 f5⟩
  self := fun A i s Q E st h => let ⟨⟨_, he⟩, _⟩ := st; wpAny_pyIter_enum he h
def iEnumS (K : PySem.W.Frag) (ta : TA) : TI := fun σ H R => ta σ H fun vs H1 => ∃ a, vs = [.ref a] ∧ (((∃ xs, SqL K H1 a xs) ∧ R (Ite K a) H1) ∨ ((∃ xs, SqT K H1 a xs) ∧ R (Itet K a) H1))
theorem pi_enumS {X : Cx} {e : Expr} {ta : TA} {p pos tpos : Pos} {elts : List Expr} {kk : Nat} (hg : Gl X "enumerate") (hm : X.mg "enumerate" = none) (ha : PA X [e] ta) (hs : starEach [e] X.env = [(false, eval e X.env)] := by rfl) :
    PI X (.Tuple elts kk tpos) (.Call (.Name "enumerate" p) [e] [] pos) (iEnumS X.K ta) := by
  refine ⟨fun pins s σ H R I h => ?_⟩
  refine Call_ (ld_blt I hg hm boot_enumerate (PyProof.Rows.callWith_type1 (thn (ha.run pos pins s σ H _ I h) fun us s1 ⟨vs, H1, I1, r1, q1⟩ => ?_) hs rfl))
  have fp : ∀ b, b ∈ [s1.heap.objs.size + 1, s1.heap.objs.size] → FpOk X pins H1 b := fun b hb => by
    have e' : b = s1.heap.objs.size + 1 ∨ b = s1.heap.objs.size := by simpa using hb
    have hle : s1.heap.objs.size ≤ b := by
      rcases e' with z | z
      · rw [z]; exact Nat.le_add_right _ _
      · rw [z]; exact Nat.le_refl _
    exact I1.fpOk hle (I1.hok.fresh hle)
  obtain ⟨a, ex, ⟨⟨xs, hq⟩, q⟩ | ⟨⟨xs, hq⟩, q⟩⟩ := q1
  · subst ex
    cases r1 with
    | cons r rr =>
      cases rr
      cases r
      obtain ⟨its, rv, p', hz⟩ := I1.list hq
      refine call_enumerate_list p'.isList fun h' he hit hsz hk => wpAny_pyIter_enum he ?_
      have I2 : Inv X pins σ H1 { s1 with heap := h' } := I1.kept (t' := s1.toks) hk
      exact ⟨s1.heap.objs.size + 1, [s1.heap.objs.size + 1, s1.heap.objs.size], _, _, H1, rfl, I2, turn_enum a (s1.heap.objs.size + 1) s1.heap.objs.size, ⟨⟨.none, he⟩, hit, Nat.succ_ne_self _⟩, fp, q⟩
  · subst ex
    cases r1 with
    | cons r rr =>
      cases rr
      cases r
      obtain ⟨its, rv, p', hz⟩ := I1.tuple hq
      refine call_enum_tuple (show s1.heap.IsTuple a its.toArray from p') fun h' he hit hsz hk => wpAny_pyIter_enum he ?_
      have I2 : Inv X pins σ H1 { s1 with heap := h' } := I1.kept (t' := s1.toks) hk
      exact ⟨s1.heap.objs.size + 1, [s1.heap.objs.size + 1, s1.heap.objs.size], _, _, H1, rfl, I2, turn_enumT a (s1.heap.objs.size + 1) s1.heap.objs.size, ⟨⟨.none, he⟩, hit, Nat.succ_ne_self _⟩, fp, q⟩
theorem enum_get {ds : List D} {i : Nat} {d : D} (h : (enumD ds)[i]? = some d) : ∃ x, ds[i]? = some x ∧ d = .tup [.int (i : Nat), x] := by
  unfold enumD at h
  rw [List.getElem?_map] at h
  cases e : ds.zipIdx[i]? with
  | none => rw [e] at h; cases h
  | some p =>
    rw [e] at h
    cases h
    rw [List.getElem?_zipIdx] at e
    cases e2 : ds[i]? with
    | none => rw [e2] at e; cases e
    | some x =>
      rw [e2] at e
      cases e
      exact ⟨x, rfl, by simp⟩
theorem enum_len (ds : List D) : (enumD ds).length = ds.length := by simp [enumD]
section
variable {G : GD}
theorem itok_enumL {L : Hp} {a : Addr} {vs : List V} {ds : List D} (h : SqL G.K L a vs) (r : DtA G L vs ds) : ItOk G L (Ite G.K a) (enumD ds) := by
  have sq : ∀ (H : Hp) (M : AS), (∀ a o, L a = some o → Hr H M a = some o) → SqL G.K H a vs := fun H M k => sql_le hr_sub (sql_le k h)
  refine ⟨fun H M k => ⟨vs, sq H M k, by rw [enum_len, r.length]; exact Nat.le_refl _⟩, fun H M i d k e => ?_, fun H M i d x H' k e y => ?_⟩
  · obtain ⟨d', e', _⟩ := enum_get e
    obtain ⟨v, h1, _⟩ := r.get e'
    exact ⟨vs, v, sq H M k, h1⟩
  · obtain ⟨d', e', rfl⟩ := enum_get e
    obtain ⟨T, v, rfl, hn, rfl, y⟩ := y
    obtain ⟨v', h1, h2⟩ := r.get e'
    have := (y vs (sq _ M k)).symm.trans h1
    cases this
    exact .inr ⟨T, _, _, hn, rfl, rfl, rfl, .cons (.int _) (.cons (h2.le k) .nil)⟩
theorem itok_enumT {L : Hp} {a : Addr} {vs : List V} {ds : List D} (h : SqT G.K L a vs) (r : DtA G L vs ds) : ItOk G L (Itet G.K a) (enumD ds) := by
  have sq : ∀ (H : Hp) (M : AS), (∀ a o, L a = some o → Hr H M a = some o) → SqT G.K H a vs := fun H M k => sqt_le hr_sub (sqt_le k h)
  refine ⟨fun H M k => ⟨vs, sq H M k, by rw [enum_len, r.length]; exact Nat.le_refl _⟩, fun H M i d k e => ?_, fun H M i d x H' k e y => ?_⟩
  · obtain ⟨d', e', _⟩ := enum_get e
    obtain ⟨v, h1, _⟩ := r.get e'
    exact ⟨vs, v, sq H M k, h1⟩
  · obtain ⟨d', e', rfl⟩ := enum_get e
    obtain ⟨T, v, rfl, hn, rfl, y⟩ := y
    obtain ⟨v', h1, h2⟩ := r.get e'
    have := (y vs (sq _ M k)).symm.trans h1
    cases this
    exact .inr ⟨T, _, _, hn, rfl, rfl, rfl, .cons (.int _) (.cons (h2.le k) .nil)⟩
theorem si_enm {ea : Env → R (D × Kd)} {ta : TE} (ha : SE G ea ta) : SI G (fun ρ => (ea ρ).bind fun x ρ => (settle ρ x.1 x.2).bind fun d ρ => R.of ((seqOf d).map enumD) ρ) (iEnumS G.K (tCons ta tNil)) := by
  intro X F ρ σ H Q ds ρ' S h q
  obtain ⟨⟨d1, k1⟩, ρ1, h1, h⟩ := bind_ok h
  obtain ⟨d2, ρ2, h2, h⟩ := bind_ok h
  obtain ⟨h3, rfl⟩ := of_ok h
  refine ha X F ρ σ H _ d1 k1 ρ1 S h1 fun v1 H1 F1 p1 r1 => ?_
  obtain ⟨p2, r2⟩ := settle_ok p1 r1 h2
  cases d2 with
  | tup xs =>
    cases h3
    cases r2 with
    | tup s r => exact ⟨_, rfl, .inr ⟨⟨_, sqt_le hr_sub s⟩, q _ _ p2 (itok_enumT s r)⟩⟩
  | lst xs =>
    cases h3
    cases r2 with
    | lst s r => exact ⟨_, rfl, .inl ⟨⟨_, .inl (rd_le hr_sub s)⟩, q _ _ p2 (itok_enumL (.inl s) r)⟩⟩
  | scr xs =>
    cases h3
    cases r2 with
    | scr s r => exact ⟨_, rfl, .inl ⟨⟨_, sql_le hr_sub s⟩, q _ _ p2 (itok_enumL s r)⟩⟩
  | _ => cases h3
end
end Mp

set_option maxRecDepth 100000
set_option maxHeartbeats 4000000
/-! Mq12: instances of own classes, extend, several names at once, sound. -/
namespace Mp
open PySem PySem.Spec PyProof.Rows L2
section
variable {G : GD} {X : Fr} {F : AS} {ρ ρ' : Env} {σ : L2.St} {H : Hp}
end
section
variable {G : GD}
theorem zip_look2 {H : Hp} {x : Str} {z : D} : ∀ {fl : List (Str × V)} {ds : List D}, DtA G H (fl.map (·.2)) ds → ((fl.map (·.1)).zip ds).lookup x = some z → ∃ v, fl.lookup x = some v ∧ Dt G H v z
  | [], _, .nil, h => by cases h
  | (y, w) :: fl, d :: ds, .cons r1 r2, h => by
    have h' : ((y, d) :: (fl.map (·.1)).zip ds).lookup x = some z := h
    rw [List.lookup_cons] at h' ⊢
    cases e : x == y with
    | true =>
      rw [e] at h'
      cases h'
      exact ⟨w, rfl, r1⟩
    | false =>
      rw [e] at h'
      exact zip_look2 r2 h'
theorem lookup_in {x : Str} {z : D} : ∀ {ns : List Str} {ds : List D}, (ns.zip ds).lookup x = some z → x ∈ ns
  | [], _, h => by cases h
  | n :: ns, [], h => by cases h
  | n :: ns, d :: ds, h => by
    have h' : ((n, d) :: ns.zip ds).lookup x = some z := h
    rw [List.lookup_cons] at h'
    cases e : x == n with
    | true => rw [eq_of_beq e]; exact List.mem_cons_self
    | false => rw [e] at h'; exact List.mem_cons_of_mem _ (lookup_in h')
theorem zip_take : ∀ (ns : List Str) (ds : List D), ns.zip ds = (ns.take ds.length).zip ds
  | [], _ => by simp
  | n :: ns, [] => by simp
  | n :: ns, d :: ds => by
    show (n, d) :: ns.zip ds = (n, d) :: (ns.take ds.length).zip ds
    rw [zip_take ns ds]
theorem Sh.ins {M : AS} {H : Hp} {v : V} {c : Nat} {ns : List Str} {ds : List D} (h : Sh G M H v (.ins c ns ds)) : ∃ a dx fl, v = .ref a ∧ H a = some (.ins (G.ca c) dx fl) ∧ fl.map (·.1) = ns.take ds.length ∧ InsF G c ns ∧ DtA G (Hr H M) (fl.map (·.2)) ds := by
  rcases h with h | ⟨p, e, h⟩
  · cases h with
    | ins e z f r => exact ⟨_, _, _, rfl, hr_sub _ _ e, z, f, r⟩
  · obtain ⟨dx, fl, q, z, f, r⟩ := h
    exact ⟨p, dx, fl, e, q, z, f, r⟩
theorem se_fld {x : Str} {ea : Env → R (D × Kd)} {ta : TE} (ha : SE G ea ta) : SE G (fun ρ => (ea ρ).bind fun v ρ => (R.of (fldD x v.1) ρ).bind fun z ρ => .ok (z, .frz) ρ) (tFld G.K ta x) := by
  intro X F ρ σ H Q d k ρ' S h q
  obtain ⟨⟨d1, k1⟩, ρ1, h1, h⟩ := bind_ok h
  obtain ⟨z, h2, h⟩ := ofb_ok h
  cases h
  refine ha X F ρ σ H _ d1 k1 ρ' S h1 fun v1 H1 F1 p1 r1 => ?_
  cases d1 with
  | ins c ns ds =>
    obtain ⟨a, dx, fl, rfl, e, z1, f, r⟩ := (r1.sh p1.sr).ins
    have h2' : (ns.zip ds).lookup x = some d := h2
    obtain ⟨v, l, dt⟩ := zip_look2 r (show ((fl.map (·.1)).zip ds).lookup x = some d by rw [z1, ← zip_take]; exact h2')
    obtain ⟨F3, p3, r3⟩ := fin_op p1 (.old dt)
    exact ⟨a, G.ca c, dx, fl, v, rfl, e, f.1.cl, f.2 x (lookup_in h2'), l, q v _ F3 p3 r3⟩
  | _ => cases h2
/-- isinstance of an own class -/
theorem se_isinc {c : Nat} {ta : TE} {ea : Env → R (D × Kd)} (hk : C8.InsC G.K (G.ca c)) (hT : ∀ i, i < 6 → PySem.W.kitOne G.K (.type (dTyN i)) (.ref (G.ca c)) = some false) (ha : SE G ea ta) :
    SE G (fun ρ => (ea ρ).bind fun x ρ => (R.of (isinC c x.1) ρ).bind fun b ρ => .ok (.bl b, .frz) ρ) (tCB (rIsi G.K) (tCons ta (tCons (tC (.ref (G.ca c))) tNil))) := by
  intro X F ρ σ H Q d k ρ' S h q
  obtain ⟨⟨d1, k1⟩, ρ2, h4, h2⟩ := bind_ok h
  obtain ⟨b, h3, h5⟩ := ofb_ok h2
  cases h5
  refine ha X F ρ σ H _ d1 k1 ρ' S h4 fun v1 H1 F1 p1 r1 => ?_
  have sh := r1.sh p1.sr
  have qq : Q (.bl b) H1 := q _ _ F (p1.drop (fun _ h => h) (sub_of p1)) (.frz rfl (.bl _))
  have base : tyIx d1 < 6 → b = false → rIsi G.K [v1, .ref (G.ca c)] H1 Q := fun n e => by
    subst e
    exact ⟨v1, .ref (G.ca c), _, _, false, rfl, .own _, sh.ty n, hT _ n, qq⟩
  cases d1 with
  | ins c' ns ds =>
    have h3' : (if c' = c then some true else none) = some b := h3
    split at h3'
    · rename_i e
      cases h3'
      subst e
      obtain ⟨a, dx, fl, rfl, e, z1, f, r⟩ := sh.ins
      exact ⟨.ref a, .ref (G.ca c'), .ref (G.ca c'), .ref (G.ca c'), true, rfl, .own _, .base (.ins e f.1.cl f.1.ha f.1.hn f.1.htk f.1.hm), hk.me, qq⟩
    · cases h3'
  | non => cases h3; exact base (by decide) rfl
  | bl _ => cases h3; exact base (by show 1 < 6; decide) rfl
  | int _ => cases h3; exact base (by show 2 < 6; decide) rfl
  | str _ => cases h3; exact base (by show 3 < 6; decide) rfl
  | tup _ => cases h3; exact base (by show 4 < 6; decide) rfl
  | lst _ => cases h3; exact base (by show 5 < 6; decide) rfl
  | _ => cases h3
theorem arr_noio {σ : L2.St} {F : AS} {ρ : Env} {H : Hp} : ∀ {vs : List V} {as : List Ar} {ds : List D}, ArR G σ F ρ H vs as → iosOf as = [] → argsD ρ as = some ds → ∀ (M : AS) (H' : Hp), (∀ a o, Hr H (Mm F ρ σ) a = some o → Hr H' M a = some o) → InR G M H' (as.map Ar.isIo) vs ds []
  | _, _, _, .nil, _, e, M, H', le => by cases e; exact .nil
  | _, _, ds, .v (d := d) (as := as) h r, i, e, M, H', le => by
    have e' : (argsD ρ as).map (d :: ·) = some ds := e
    cases q : argsD ρ as with
    | none => rw [q] at e'; cases e'
    | some es =>
      rw [q] at e'
      cases e'
      exact .v (h.le le) (arr_noio r i q M H' le)
  | _, _, _, .io _ _, i, _, _, _, _ => by cases i
theorem se_mk {cl : Nat → List Bool → List D → CRes} {c f n : Nat} {fl : List Str} {ea : Env → R (List Ar)} {t : TA} {E : XK} (hn : ∀ fl ds x, cl f fl ds = some x → ds.length = n) (hF : InsF G c fl) (ha : SA G ea t) :
    SE G (fun ρ => (ea ρ).bind fun as ρ => doMk cl c f fl as ρ) (tMake (G.ca c) (spOf G (cl f) n) [] E t) := by
  intro X F ρ σ H Q d k ρ' S h q
  obtain ⟨as, ρ1, h1, h⟩ := bind_ok h
  refine ha X F ρ σ H _ as ρ1 S h1 fun vs H1 p r => ?_
  intro x dx hx hdx hne
  rw [List.append_nil]
  unfold doMk at h
  cases e1 : argsD ρ1 as with
  | none => rw [e1] at h; cases h
  | some ds =>
    rw [e1] at h
    dsimp only at h
    split at h
    · rename_i nio
      cases e2 : cl f (true :: as.map Ar.isIo) (.ins c fl [] :: ds) with
      | none => rw [e2] at h; cases h
      | some y =>
        obtain ⟨dv, b, outs⟩ := y
        rw [e2] at h
        match dv, b, outs, h, e2 with
        | .non, false, [d0], h, e2 =>
          cases h
          have P1 := p.trans (Po.laid (o := .own x) p.sr hdx)
          have hx2 : upd H1 dx (.own x) x = none := by rw [upd_ne (Ne.symm hne)]; exact hx
          have S1 := P1.sr
          have nx : ¬ Mm F ρ' σ x := fun z => S1.mdom x z hx2
          have S2 := S1.laid (o := .ins (G.ca c) dx []) hx2
          have kp : ∀ a o, H1 a = some o → upd (upd H1 dx (.own x)) x (.ins (G.ca c) dx []) a = some o := fun a o e => by
            rw [upd_ne (ne_of_none e hx), upd_ne (ne_of_none e hdx)]; exact e
          refine ⟨true :: as.map Ar.isIo, .ins c fl [] :: ds, [x], Mm F ρ' σ, .non, false, [d], e2, hn _ _ _ e2, .io ⟨dx, [], upd_same, by simp, hF, .nil⟩ (arr_noio r nio e1 _ _ (hr_mono (fun a o _ e => kp a o e) fun a z => ?_)), by simp, fun a h z => ?_, fun a z => S2.mdom a z, fun v H3 O => ?_⟩
          · rcases z with z | z
            · exact .inl z
            · right
              have : a = x := by simpa using z
              rw [this]; exact hx
          · have : a = x := by simpa using h
            exact nx (this ▸ z)
          · rcases O.val with ⟨_, dt, ol⟩ | ⟨z, _⟩
            · cases dt
              refine ⟨rfl, ?_⟩
              cases ol with
              | cons oc ol =>
                cases ol
                have O2 : OutR G (fun a => Mm F ρ' σ a ∧ a ∉ ([] : List (Nat × Addr)).map (·.2)) (([] : List (Nat × Addr)).map (·.2)) (upd H1 dx (.own x)) (.ref x) H3 d false [] := by
                  refine ⟨fun a o _ e => ?_, .inl ⟨rfl, ?_, .nil⟩⟩
                  · have ne : a ≠ x := ne_of_none e hx2
                    exact O.frame a o (by simpa using ne) (by rw [upd_ne ne]; exact e)
                  · refine oc.dt (fun a z => ?_) fun z => ?_
                    · rcases z with z | z
                      · exact .inl z.1
                      · cases z
                    · rcases z with z | z
                      · exact nx z.1
                      · cases z
                obtain ⟨F', P', R⟩ := po_call (as := []) (ps := []) S1 .nil List.nodup_nil O2
                exact q _ H3 F' (P1.trans P') R
            · cases z
    · cases h
/-! ### statements -/
theorem ss_ext {i : Nat} {ee : Env → R (D × Kd)} {te : TE} (he : SE G ee te) :
    SSt G (fun ρ => if ownL (getS ρ i) = true then (ee ρ).fl fun x ρ => (match x.2 with
      | .fr => (match lstOf x.1 with
        | some ds => (match appD ρ i ds with | some ρ => .nx ρ | none => .no)
        | none => .no)
      | _ => .no) else .no) (tDrop (tBM G.K "list" rExtend (tVar i) (tCons te tNil))) := by
  intro X F ρ σ H D fl S h n q1 q2
  dsimp only at h
  split at h
  · rename_i ho
    obtain ⟨p, vs0, e1, op, hp0⟩ := own_at S ho
    obtain ⟨⟨d1, k1⟩, ρ1, h1, h⟩ := fl_ok h n
    refine ⟨_, e1, .inl ⟨rfl, vs0, .inl (.inl hp0)⟩, ?_⟩
    refine he X F ρ σ H _ d1 k1 ρ1 S h1 fun v1 H1 F1 p1 r1 => ?_
    cases r1 with
    | frz => exact absurd h.symm n
    | pk => exact absurd h.symm n
    | @fr b _ eF nF h0 nio c =>
      subst eF
      dsimp only at h
      cases d1 with
      | lst ds =>
        have h' : (match appD ρ1 i ds with | some ρ => Fl.nx ρ | none => .no) = fl := h
        cases h3 : appD ρ1 i ds with
        | none => rw [h3] at h'; exact absurd h'.symm n
        | some ρ3 =>
          rw [h3] at h'
          obtain ⟨s0, s1, xs, e4, e5, hz, rfl⟩ := appD_ok h3
          obtain ⟨zs, hb, rz⟩ := c
          have P := p1.drop (F2 := F) (fun _ h => h) (fun _ h => .inr h)
          have le : ∀ a o, Hr H1 (Mm (addF F b) ρ1 σ) a = some o → Hr H1 (Mm F ρ1 σ) a = some o := hr_mono (fun _ _ _ e => e) fun a z => .inl (z.imp .inr id)
          have hc : OwnC G (Mm F ρ1 σ) H1 p (.lst xs) := by
            rcases e5 with ⟨rfl, _⟩ | ⟨rfl, _⟩
            · obtain ⟨p', q1, c⟩ := P.sr.slot i _ e4
              rw [e1] at q1; cases q1; exact c
            · obtain ⟨p', q1, c⟩ := P.sr.slot i _ e4
              rw [e1] at q1; cases q1; exact c
          obtain ⟨vs, hv, rv⟩ := hc
          have w := put_own (s0 := s0) (s1 := s1) P.sr e4 (e5.imp (fun z => ⟨⟨_, z.1⟩, z.2⟩) fun z => ⟨⟨_, z.1⟩, z.2⟩) e1 (rv.append (rz.le le))
          exact ⟨p, b, vs, zs, rfl, rfl, hv, hb, by rw [rv.length, rz.length]; exact hz, q1 _ h'.symm σ _ (P.s.trans w)⟩
      | _ => exact absurd h.symm n
  · exact absurd h.symm n
theorem putF_new {x : Str} {v : V} : ∀ {fl : List (Str × V)}, x ∉ fl.map (·.1) → putF x v fl = fl ++ [(x, v)]
  | [], _ => rfl
  | (g, y) :: r, h => by
    have h' : x ≠ g ∧ x ∉ r.map (·.1) := by simpa using h
    unfold putF
    rw [if_neg (Ne.symm h'.1), putF_new h'.2] <;> rfl
theorem take_snoc {α : Type} : ∀ {ns : List α} {n : Nat} {x : α}, ns[n]? = some x → ns.take (n + 1) = ns.take n ++ [x]
  | [], _, _, h => by simp at h
  | a :: ns, 0, x, h => by simp at h; subst h; simp
  | a :: ns, n + 1, x, h => by
    have := take_snoc (ns := ns) (n := n) (x := x) (by simpa using h)
    simp [this]
theorem ss_fst {i : Nat} {x : Str} {ee : Env → R (D × Kd)} {te : TE} (he : SE G ee te) :
    SSt G (fun ρ => (ee ρ).fl fun v ρ => (settle ρ v.1 v.2).fl fun d ρ => (match getS ρ i with
      | .io (.ins c ns fs) => if ns[fs.length]? = some x ∧ x ∉ ns.take fs.length ∧ fs.length < 900 then .nx (ρ.set i (.io (.ins c ns (fs ++ [d])))) else .no
      | _ => .no)) (sFld G.K (tVar i) te x) := by
  intro X F ρ σ H D fl S h n q1 q2
  obtain ⟨⟨d1, k1⟩, ρ1, h1, h⟩ := fl_ok h n
  obtain ⟨d2, ρ2, h2, h⟩ := fl_ok h n
  refine he X F ρ σ H _ d1 k1 ρ1 S h1 fun v1 H1 F1 p1 r1 => ?_
  obtain ⟨p2, r2⟩ := settle_ok p1 r1 h2
  cases e : getS ρ2 i with
  | io y =>
    rw [e] at h
    have g := getS_eq e (by simp)
    cases y with
    | ins c ns fs =>
      dsimp only at h
      split at h
      · rename_i cc
        obtain ⟨c1, c2, c3⟩ := cc
        obtain ⟨p, e1, dx, fl0, e2, z, f, r⟩ := p2.sr.slot i _ g
        have hl : fl0.length = fs.length := by
          have := r.length
          rw [List.length_map] at this
          exact this
        have hnew : putF x v1 fl0 = fl0 ++ [(x, v1)] := putF_new (by rw [z]; exact c2)
        have w := put_ownG (s1 := .io (.ins c ns (fs ++ [d2]))) (o := .ins (G.ca c) dx (putF x v1 fl0)) p2.sr g (.inr ⟨⟨_, rfl⟩, rfl⟩) e1 fun le => by
          refine ⟨dx, putF x v1 fl0, upd_same, ?_, f, ?_⟩
          · rw [hnew, List.map_append, z, List.length_append]
            exact (take_snoc c1).symm
          · have e3 : (putF x v1 fl0).map (·.2) = fl0.map (·.2) ++ [v1] := by rw [hnew, List.map_append] <;> rfl
            rw [e3]
            exact (r.le le).append (.cons (r2.le le) .nil)
        exact ⟨_, e1, p, G.ca c, dx, fl0, rfl, e2, f.1.cl, f.2 x (List.mem_of_getElem? c1), by omega, q1 _ h.symm σ _ (p2.s.trans w)⟩
      · exact absurd h.symm n
    | _ => exact absurd h.symm n
  | _ => rw [e] at h; exact absurd h.symm n
/-! ### several names at once -/
/-- values on their way to names; M: what is hidden now -/
inductive MR (G : GD) (X : Fr) (M : AS) (H : Hp) : AS → AS → List V → List (D × Kd) → Prop
  | nil {F : AS} : MR G X M H F F [] []
  | frz {F F' : AS} {v : V} {d : D} {vs : List V} {xs : List (D × Kd)} : Dt G (Hr H M) v d → MR G X M H F F' vs xs → MR G X M H F F' (v :: vs) ((d, .frz) :: xs)
  | fr {F F' : AS} {p : Addr} {d : D} {vs : List V} {xs : List (D × Kd)} : ¬ F p → X.H0 p = none → OwnC G M H p d → MR G X M H (addF F p) F' vs xs → MR G X M H F F' (.ref p :: vs) ((d, .fr) :: xs)
theorem MR.le {X : Fr} {M M' : AS} {H H' : Hp} (le : ∀ a o, Hr H M a = some o → Hr H' M' a = some o) : ∀ {F F' : AS} {vs : List V} {xs : List (D × Kd)}, (∀ p, F' p → H' p = H p) → MR G X M H F F' vs xs → MR G X M' H' F F' vs xs
  | _, _, _, _, k, .nil => .nil
  | _, _, _, _, k, .frz h r => .frz (h.le le) (r.le le k)
  | _, _, _, _, k, .fr n h0 c r => .fr n h0 (c.le le (k _ (MR.sub r _ (.inl rfl)))) (r.le le k)
where
  MR.sub {X : Fr} {M : AS} {H : Hp} : ∀ {F F' : AS} {vs : List V} {xs : List (D × Kd)}, MR G X M H F F' vs xs → ∀ p, F p → F' p
  | _, _, _, _, .nil, p, h => h
  | _, _, _, _, .frz _ r, p, h => MR.sub r p h
  | _, _, _, _, .fr _ _ _ r, p, h => MR.sub r p (.inr h)
def SMt (G : GD) (ev : Env → R (List (D × Kd))) (t : TA) : Prop := ∀ (X : Fr) (F : AS) (ρ : Env) (σ : L2.St) (H : Hp) (Q : List V → Hp → Prop) (xs : List (D × Kd)) (ρ' : Env), SR G X F ρ σ H → ev ρ = .ok xs ρ' →
  (∀ vs H' F', Po G X σ F ρ H F' ρ' H' → MR G X (Mm F' ρ' σ) H' F F' vs xs → Q vs H') → t σ H Q
theorem sm_nil : SMt G (fun ρ => .ok [] ρ) tNil := by
  intro X F ρ σ H Q xs ρ' S h q
  cases h
  exact q [] H F (Po.refl S) .nil
theorem sm_cons {ea : Env → R (D × Kd)} {er : Env → R (List (D × Kd))} {ta : TE} {tr : TA} (ha : SE G ea ta) (hr : SMt G er tr) :
    SMt G (fun ρ => (ea ρ).bind fun x ρ => (keep ρ x.1 x.2).bind fun x ρ => (er ρ).bind fun xs ρ => .ok (x :: xs) ρ) (tCons ta tr) := by
  intro X F ρ σ H Q xs ρ' S h q
  obtain ⟨⟨d1, k1⟩, ρ1, h1, h⟩ := bind_ok h
  obtain ⟨⟨d2, k2⟩, ρ2, h2, h⟩ := bind_ok h
  obtain ⟨ys, ρ3, h3, h⟩ := bind_ok h
  cases h
  refine ha X F ρ σ H _ d1 k1 ρ1 S h1 fun v1 H1 F1 p1 r1 => ?_
  obtain ⟨F2, p2, r2⟩ := keep_ok p1 r1 h2
  refine hr X F2 ρ2 σ H1 _ ys ρ' p2.sr h3 fun vs H2 F3 p3 r3 => ?_
  cases r2 with
  | frz e r =>
    subst e
    exact q _ _ F3 (p2.trans p3) (.frz (r.le p3.le) r3)
  | @fr p _ e n1 n2 n3 c =>
    subst e
    exact q _ _ F3 (p2.trans p3) (.fr n1 n2 (c.le p3.le (p3.keep p (.inl rfl)).2) r3)
  | pk e e1 r =>
    -- what is kept is no name's own
    exfalso
    cases k1 with
    | frz => cases h2
    | fr => cases h2
    | pk j =>
      obtain ⟨y, ρ4, _, h4⟩ := bind_ok (show (settle ρ1 d1 (.pk j)).bind (fun d ρ => R.ok (d, Kd.frz) ρ) = .ok (d2, .pk _) ρ2 from h2)
      cases h4
/-- the stores, from the left -/
def setAll : List Nat → List V → L2.St → L2.St
  | i :: is, v :: vs, σ => setAll is vs (σ.set i (some v))
  | _, _, σ => σ
theorem puts_ok {X : Fr} : ∀ {is : List Nat} {vs : List V} {xs : List (D × Kd)} {F F' : AS} {ρ ρ' : Env} {σ : L2.St} {H : Hp}, SR G X F' ρ σ H → MR G X (Mm F' ρ σ) H F F' vs xs → puts is xs ρ = .ok () ρ' →
    SR G X F ρ' (setAll is vs σ) H ∧ (∀ a o, Hr H (Mm F' ρ σ) a = some o → Hr H (Mm F ρ' (setAll is vs σ)) a = some o)
  | [], _, _, F, _, ρ, ρ', σ, H, S, .nil, h => by cases h; exact ⟨S, fun _ _ e => e⟩
  | [], _, _, F, F', ρ, ρ', σ, H, S, .frz _ _, h => by cases h
  | [], _, _, F, F', ρ, ρ', σ, H, S, .fr _ _ _ _, h => by cases h
  | _ :: _, _, _, F, _, ρ, ρ', σ, H, S, .nil, h => by cases h
  | i :: is, _, _, F, F', ρ, ρ', σ, H, S, .frz (v := v) (d := d) (vs := vs) (xs := xs) r rs, h => by
    obtain ⟨u, ρ1, h1, h⟩ := bind_ok (show (putName ρ i d .frz).bind (fun _ ρ => puts is xs ρ) = .ok () ρ' from h)
    have key : (∀ x, getS ρ i ≠ .io x) → (if i < ρ.length then R.ok () (ρ.set i (.val d)) else .no) = .ok () ρ1 → SR G X F ρ' (setAll is vs (σ.set i (some v))) H ∧ (∀ a o, Hr H (Mm F' ρ σ) a = some o → Hr H (Mm F ρ' (setAll is vs (σ.set i (some v)))) a = some o) := fun n h1 => by
      split at h1
      · rename_i hi
        cases h1
        have p := put_frz S hi (not_io n) r
        obtain ⟨S2, le2⟩ := puts_ok p.sr (rs.le p.le fun _ _ => rfl) h
        exact ⟨S2, fun a o e => le2 a o (p.le a o e)⟩
      · cases h1
    unfold putName at h1
    cases e : getS ρ i with
    | io x => rw [e] at h1; cases h1
    | un => rw [e] at h1; exact key (fun x z => by rw [e] at z; cases z) h1
    | val y => rw [e] at h1; exact key (fun x z => by rw [e] at z; cases z) h1
    | own y => rw [e] at h1; exact key (fun x z => by rw [e] at z; cases z) h1
  | i :: is, _, _, F, F', ρ, ρ', σ, H, S, .fr (p := p) (d := d) (vs := vs) (xs := xs) nF h0 c rs, h => by
    obtain ⟨u, ρ1, h1, h⟩ := bind_ok (show (putName ρ i d .fr).bind (fun _ ρ => puts is xs ρ) = .ok () ρ' from h)
    have key : (∀ x, getS ρ i ≠ .io x) → (if i < ρ.length then R.ok () (ρ.set i (.own d)) else .no) = .ok () ρ1 → SR G X F ρ' (setAll is vs (σ.set i (some (.ref p)))) H ∧ (∀ a o, Hr H (Mm F' ρ σ) a = some o → Hr H (Mm F ρ' (setAll is vs (σ.set i (some (.ref p))))) a = some o) := fun n h1 => by
      split at h1
      · rename_i hi
        cases h1
        have hp : F' p := MR.le.MR.sub rs p (.inl rfl)
        have pp := put_fr (F := fun a => F' a ∧ a ≠ p) S (fun a => ⟨fun z => (Classical.em (a = p)).imp id fun n => ⟨z, n⟩, fun z => z.elim (fun e => e ▸ hp) (·.1)⟩) (fun z => z.2 rfl) hi (not_io n) h0 c
        have rs2 : ∀ {F0 F1 : AS} {vs : List V} {xs : List (D × Kd)} {M : AS}, MR G X M H F0 F1 vs xs → (∀ a, F0 a ↔ a = p ∨ (F0 a ∧ a ≠ p)) → F0 p → MR G X M H (fun a => F0 a ∧ a ≠ p) (fun a => F1 a ∧ a ≠ p) vs xs := fun {F0 F1 vs xs M} m => by
          induction m with
          | nil => exact fun _ _ => .nil
          | frz r _ ih => exact fun e hp => .frz r (ih e hp)
          | @fr F0 F1 q d vs xs n h0 c _ ih =>
            intro e hp
            have hq : q ≠ p := fun z => n (z ▸ hp)
            refine .fr (fun z => n z.1) h0 c ?_
            have := ih (fun a => ⟨fun z => (Classical.em (a = p)).imp id fun n => ⟨z, n⟩, fun z => z.elim (fun e => .inr (e ▸ hp)) (·.1)⟩) (.inr hp)
            have ee : (fun a => addF F0 q a ∧ a ≠ p) = addF (fun a => F0 a ∧ a ≠ p) q := by
              funext a
              refine propext ⟨fun z => z.1.imp id fun w => ⟨w, z.2⟩, fun z => ?_⟩
              rcases z with z | z
              · exact ⟨.inl z, z ▸ hq⟩
              · exact ⟨.inr z.1, z.2⟩
            rw [ee] at this
            exact this
        have m2 := rs2 rs (fun a => ⟨fun z => (Classical.em (a = p)).imp id fun n => ⟨z, n⟩, fun z => z.elim (fun e => .inl e) (·.1)⟩) (.inl rfl)
        have ee : (fun a => addF F p a ∧ a ≠ p) = F := by
          funext a
          refine propext ⟨fun z => z.1.elim (fun e => absurd e z.2) id, fun z => ⟨.inr z, fun e => nF (e ▸ z)⟩⟩
        rw [ee] at m2
        obtain ⟨S2, le2⟩ := puts_ok pp.1 (m2.le pp.2 fun _ _ => rfl) h
        exact ⟨S2, fun a o e => le2 a o (pp.2 a o e)⟩
      · cases h1
    unfold putName at h1
    cases e : getS ρ i with
    | io x => rw [e] at h1; cases h1
    | un => rw [e] at h1; exact key (fun x z => by rw [e] at z; cases z) h1
    | val y => rw [e] at h1; exact key (fun x z => by rw [e] at z; cases z) h1
    | own y => rw [e] at h1; exact key (fun x z => by rw [e] at z; cases z) h1
theorem MR.sub {X : Fr} {M : AS} {H : Hp} {F F' : AS} {vs : List V} {xs : List (D × Kd)} (h : MR G X M H F F' vs xs) : ∀ p, F p → F' p := MR.le.MR.sub h
theorem MR.len {X : Fr} {M : AS} {H : Hp} {F F' : AS} {vs : List V} {xs : List (D × Kd)} (h : MR G X M H F F' vs xs) : vs.length = xs.length := by
  induction h with
  | nil => rfl
  | frz _ _ ih => exact congrArg (· + 1) ih
  | fr _ _ _ _ ih => exact congrArg (· + 1) ih
theorem puts_len : ∀ {is : List Nat} {xs : List (D × Kd)} {ρ ρ' : Env}, puts is xs ρ = .ok () ρ' → xs.length = is.length
  | [], [], _, _, _ => rfl
  | [], _ :: _, _, _, h => by cases h
  | _ :: _, [], _, _, h => by cases h
  | i :: is, d :: ds, ρ, ρ', h => by
    obtain ⟨u, ρ1, _, h⟩ := bind_ok (show (putName ρ i d.1 d.2).bind (fun _ ρ => puts is ds ρ) = .ok () ρ' from h)
    rw [List.length_cons, List.length_cons, puts_len h]
theorem ss_par {i j : Nat} {em : Env → R (List (D × Kd))} {ta : TA} (hm : SMt G em ta) :
    SSt G (fun ρ => (em ρ).fl fun xs ρ => (puts [i, j] xs ρ).fl fun _ ρ => .nx ρ) (tPar i j ta) := by
  intro X F ρ σ H D fl S h n q1 q2
  obtain ⟨xs, ρ1, h1, h⟩ := fl_ok h n
  obtain ⟨u, ρ2, h2, h⟩ := fl_ok h n
  refine hm X F ρ σ H _ xs ρ1 S h1 fun vs H1 F1 p1 r1 => ?_
  have hl := r1.len.trans (puts_len h2)
  match vs, hl, r1 with
  | [v, w], _, r1 =>
    obtain ⟨S2, le2⟩ := puts_ok p1.sr r1 h2
    exact ⟨v, w, rfl, q1 _ h.symm _ _ ⟨S2, fun a o e => le2 a o (p1.le a o e), fun x z => (p1.keep x z).2⟩⟩
theorem ss_par3 {i j l : Nat} {em : Env → R (List (D × Kd))} {ta : TA} (hm : SMt G em ta) :
    SSt G (fun ρ => (em ρ).fl fun xs ρ => (puts [i, j, l] xs ρ).fl fun _ ρ => .nx ρ) (tPar3 i j l ta) := by
  intro X F ρ σ H D fl S h n q1 q2
  obtain ⟨xs, ρ1, h1, h⟩ := fl_ok h n
  obtain ⟨u, ρ2, h2, h⟩ := fl_ok h n
  refine hm X F ρ σ H _ xs ρ1 S h1 fun vs H1 F1 p1 r1 => ?_
  have hl := r1.len.trans (puts_len h2)
  match vs, hl, r1 with
  | [v, w, x], _, r1 =>
    obtain ⟨S2, le2⟩ := puts_ok p1.sr r1 h2
    exact ⟨v, w, x, rfl, q1 _ h.symm _ _ ⟨S2, fun a o e => le2 a o (p1.le a o e), fun x z => (p1.keep x z).2⟩⟩
/-- several names at once, by way of a tuple -/
def gNames : List Nat → TGs
  | [] => gNil
  | i :: r => gCons (gName i) (gNames r)
theorem gNames_ok {Q : L2.St → Hp → Prop} {H : Hp} : ∀ {is : List Nat} {vs : List V} {σ : L2.St}, vs.length = is.length → Q (setAll is vs σ) H → gNames is vs σ H Q
  | [], [], _, _, q => ⟨rfl, q⟩
  | [], _ :: _, _, h, _ => by simp at h
  | _ :: _, [], _, h, _ => by simp at h
  | i :: is, v :: vs, σ, h, q => ⟨v, vs, rfl, gNames_ok (is := is) (vs := vs) (by simpa using h) q⟩
theorem ss_parN {is : List Nat} {em : Env → R (List (D × Kd))} {ta : TA} (hl : is.length ≤ 1000) (hm : SMt G em ta) :
    SSt G (fun ρ => (em ρ).fl fun xs ρ => (puts is xs ρ).fl fun _ ρ => .nx ρ) (tAsg (tTup ta) (gTup G.K is.length (gNames is))) := by
  intro X F ρ σ H D fl S h n q1 q2
  obtain ⟨xs, ρ1, h1, h⟩ := fl_ok h n
  obtain ⟨u, ρ2, h2, h⟩ := fl_ok h n
  refine hm X F ρ σ H _ xs ρ1 S h1 fun vs H1 F1 p1 r1 => ?_
  have hlen := r1.len.trans (puts_len h2)
  refine ⟨by rw [hlen, sizeLine_eq]; omega, fun a ha => ?_⟩
  have L := Po.laid (o := .tup vs) p1.sr ha
  have r2 := r1.le L.le fun p hp => (L.keep p hp).2
  obtain ⟨S2, le2⟩ := puts_ok L.sr r2 h2
  exact ⟨a, vs, rfl, .inl (.inl upd_same), hlen, gNames_ok hlen (q1 _ h.symm _ _ ⟨S2, fun b o e => le2 b o (L.le b o (p1.le b o e)), fun x z => (L.keep x (p1.keep x z).1).2.trans (p1.keep x z).2⟩)⟩
end
end Mp

set_option maxRecDepth 100000
set_option maxHeartbeats 4000000
/-! Mq14: dicts, ranges as values, list(range), pop, index, count, instances made by keyword, sound. -/
namespace HTR
open PySem PySem.Spec PyProof.Rows HT
section
variable {prog : Program} {w : World} {A : Around} {E : Value → Shared → Prop} {s : Shared}
theorem adjust_rev (n : Nat) : Builtin.Slice.sliceAdjust none none (-1) (n : Int) = ((n : Int) - 1, -1) := by
  unfold Builtin.Slice.sliceAdjust
  have h1 : (-1 : Int) < 0 := by omega
  simp only [h1, if_true]
theorem places_rev (n : Nat) : Builtin.Slice.slicePlaces ((n : Int) - 1) (-1) (-1) = n := by
  unfold Builtin.Slice.slicePlaces
  have h1 : ¬ ((-1 : Int) > 0) := by omega
  have h2 : (- (-1 : Int)) = 1 := rfl
  simp only [h1, if_false, h2, Int.ediv_one]
  split <;> omega
theorem pick_rev (xs : Array Value) : ((List.range xs.size).filterMap fun (m : Nat) => xs[(((xs.size : Int) - 1) + (m : Int) * (-1)).toNat]?).toArray = xs.toList.reverse.toArray := by
  congr 1
  have e : ∀ m ∈ List.range xs.size, xs[(((xs.size : Int) - 1) + (m : Int) * (-1)).toNat]? = xs.toList.reverse[m]? := fun m hm => by
    have hm := List.mem_range.mp hm
    have h1 : (((xs.size : Int) - 1) + (m : Int) * (-1)).toNat = xs.size - 1 - m := by omega
    rw [h1, List.getElem?_reverse (by rw [Array.length_toList]; exact hm), Array.length_toList, Array.getElem?_toList]
  have e2 : ((List.range xs.size).filterMap fun (m : Nat) => xs[(((xs.size : Int) - 1) + (m : Int) * (-1)).toNat]?) = (List.range xs.size).filterMap fun m => xs.toList.reverse[m]? := by
    have : ∀ (l : List Nat), (∀ m ∈ l, xs[(((xs.size : Int) - 1) + (m : Int) * (-1)).toNat]? = xs.toList.reverse[m]?) → (l.filterMap fun (m : Nat) => xs[(((xs.size : Int) - 1) + (m : Int) * (-1)).toNat]?) = l.filterMap fun m => xs.toList.reverse[m]? := by
      intro l
      induction l with
      | nil => intro _; rfl
      | cons a l ih =>
        intro h
        rw [List.filterMap_cons, List.filterMap_cons, h a List.mem_cons_self, ih fun m hm => h m (List.mem_cons_of_mem _ hm)]
    exact this _ e
  rw [e2]
  have gen : ∀ l : List Value, ((List.range l.length).filterMap fun m => l[m]?) = l := by
    intro l
    induction l with
    | nil => rfl
    | cons a l ih =>
      rw [List.length_cons, List.range_succ_eq_map, List.filterMap_cons]
      simp only [List.getElem?_cons_zero, List.filterMap_map]
      have : ((fun m => (a :: l)[m]?) ∘ Nat.succ) = fun m => l[m]? := by
        funext m
        simp
      rw [this, ih]
  have := gen xs.toList.reverse
  rw [List.length_reverse, Array.length_toList] at this
  exact this
theorem sliceApplied_rev {sl : Addr} {vs : Value} {n : Nat} {Q : Int × Int × Nat → Shared → Prop} (hs : s.heap.IsSliceOf sl .none .none vs) (ps : IsPart vs (some (-1)))
    (h : Q ((n : Int) - 1, -1, n) s) : wpAny (model prog w) A (Builtin.Slice.sliceApplied (.ref sl) (pure (n : Int))) Q E s := by
  obtain ⟨os, hos, hcs, hds⟩ := id hs
  unfold Builtin.Slice.sliceApplied Builtin.Slice.sliceFields
  refine wpAny_bind (wpAny_bind (wpAny_field hos hds (x := .none) rfl (wpAny_bind (wpAny_field hos hds (x := .none) rfl (wpAny_bind (wpAny_field hos hds (x := vs) rfl (wpAny_pure ?_)))))))
  cases ps with
  | int _ t =>
    refine wpAny_bind (slicePart_int ?_)
    show wpAny _ _ (if ((-1 : Int) == 0) = true then _ else _) _ _ s
    rw [if_neg (by decide)]
    refine wpAny_bind (slicePart_none (wpAny_bind (slicePart_none (wpAny_bind (wpAny_pure ?_)))))
    show wpAny _ _ (match Builtin.Slice.sliceAdjust none none (-1) (n : Int) with | (lo, hi) => pure (lo, (-1 : Int), Builtin.Slice.slicePlaces lo hi (-1))) _ _ s
    rw [adjust_rev n]
    show wpAny _ _ (pure ((n : Int) - 1, (-1 : Int), Builtin.Slice.slicePlaces ((n : Int) - 1) (-1) (-1))) _ _ s
    rw [places_rev]
    exact wpAny_pure h
theorem getItem_tuple_rev {t sl : Addr} {items : Array Value} {vs : Value} {Q : Value → Shared → Prop} (ht : IsTup s.heap t items) (hs : s.heap.IsSliceOf sl .none .none vs) (ps : IsPart vs (some (-1)))
    (h : Q (.ref s.heap.objs.size) { s with heap := s.heap.push { cls := .type "tuple", data := .seq items.toList.reverse.toArray } })
    (hsz : items.size ≤ sizeLine) : wpAny (model prog w) A (getItem (.ref t) (.ref sl)) Q E s := by
  have htake : sizeOk (.seq items.toList.reverse.toArray) := by
    show items.toList.reverse.toArray.size ≤ sizeLine
    rw [List.size_toArray, List.length_reverse, Array.length_toList]
    exact hsz
  obtain ⟨os, hos, hcs, hds⟩ := id hs
  have hTs : s.TypeIs (.ref sl) "slice" := ⟨os, hos, hcs⟩
  unfold getItem
  try with_reducible refine wpAny_holding ?_
  first | refine wpAny_bind (wpAny_pure ?_) | skip
  refine wpAny_bind (wpAny_sequenceKey ht.typeIs (by decide) ?_)
  refine wpAny_bind (wpAny_callSpecial?_slot (name := Str.ofString "__getitem__") ht.typeIs PyProof.Rows.slot_tuple_getitem
    (wpAny_call_entry PyProof.Rows.slot_tuple_getitem ht.typeIs entry_tuple_getitem ?_ (args_tuple_getitem _ _)))
  show wpAny _ _ (Builtin.Tuple.tupleItemsOf (.ref t) >>= _) _ _ s
  refine wpAny_bind (tupleItemsOf_ ht ?_)
  refine wpAny_bind (wpAny_typeOf hTs ?_)
  rw [if_pos (by decide)]
  refine wpAny_bind (sliceApplied_rev hs ps ?_)
  have hno : ¬ ((((items.size : Int) - 1) == 0 && (-1 : Int) == 1 && items.size == items.size) = true) := by
    intro q
    rw [Bool.and_eq_true, Bool.and_eq_true] at q
    exact absurd (eq_of_beq q.1.2) (by decide)
  show wpAny _ _ (if (((items.size : Int) - 1) == 0 && (-1 : Int) == 1 && items.size == items.size) = true then _ else _) _ _ s
  rw [if_neg hno, pick_rev]
  first
    | exact wpAny_bind (m := Builtin.Tuple.tupleExact _) (wpAny_newObj_type (wpAny_pure ⟨_, rfl, wpAny_pure h⟩) htake)
    | exact wpAny_bind (m := Builtin.Tuple.tupleExact _) (wpAny_newObj_type (wpAny_bind (wpAny_pure (wpAny_pure ⟨_, rfl, wpAny_pure h⟩))) htake)
    | exact wpAny_bind (wpAny_bind (m := Builtin.Tuple.tupleExact _) (wpAny_newObj_type (wpAny_pure (wpAny_pure ⟨_, rfl, wpAny_pure h⟩)) htake))
    | exact wpAny_bind (wpAny_bind (m := Builtin.Tuple.tupleExact _) (wpAny_newObj_type (wpAny_pure ⟨_, rfl, wpAny_pure h⟩) htake))
end
end HTR
namespace Mp
open PySem PySem.Spec PyProof.Rows L2
section
variable {G : GD} {X : Fr} {F : AS} {ρ ρ' : Env} {σ : L2.St} {H : Hp}
theorem own_atS (S : SR G X F ρ σ H) {i : Nat} (h : ownS (getS ρ i) = true) : ∃ p, σ[i]? = some (some (.ref p)) ∧ OwnAt ρ σ i p := by
  cases e : getS ρ i with
  | own d =>
    have g := getS_eq e (by simp)
    obtain ⟨p, e1, c⟩ := S.slot i _ g
    exact ⟨p, e1, ⟨_, .inl g⟩, e1⟩
  | io d =>
    have g := getS_eq e (by simp)
    obtain ⟨p, e1, c⟩ := S.slot i _ g
    exact ⟨p, e1, ⟨_, .inr g⟩, e1⟩
  | _ => rw [e] at h; cases h
theorem ownD_at {i : Nat} {d : D} (h : ownD (getS ρ i) = some d) : ρ[i]? = some (.own d) ∧ setIo ρ i = (fun d' => ρ.set i (.own d')) ∨ ρ[i]? = some (.io d) ∧ setIo ρ i = fun d' => ρ.set i (.io d') := by
  cases e : getS ρ i with
  | own x =>
    rw [e] at h
    cases h
    exact .inl ⟨getS_eq e (by simp), by funext d'; unfold setIo; rw [e]⟩
  | io x =>
    rw [e] at h
    cases h
    exact .inr ⟨getS_eq e (by simp), by funext d'; unfold setIo; rw [e]⟩
  | _ => rw [e] at h; cases h
theorem ownD_c (S : SR G X F ρ σ H) {i : Nat} {d : D} {p : Addr} (h : ownD (getS ρ i) = some d) (e1 : σ[i]? = some (some (.ref p))) : OwnC G (Mm F ρ σ) H p d := by
  rcases ownD_at h with ⟨e4, _⟩ | ⟨e4, _⟩
  · obtain ⟨p', q1, c⟩ := S.slot i _ e4
    rw [e1] at q1; cases q1; exact c
  · obtain ⟨p', q1, c⟩ := S.slot i _ e4
    rw [e1] at q1; cases q1; exact c
/-- an own object's content is changed, within an expression -/
theorem po_ownG {i : Nat} {p : Addr} {d d' : D} {o : HO} (S : SR G X F ρ σ H) (h1 : ownD (getS ρ i) = some d) (h2 : σ[i]? = some (some (.ref p)))
    (c : (∀ a o', Hr H (Mm F ρ σ) a = some o' → Hr (upd H p o) (Mm F ρ σ) a = some o') → OwnC G (Mm F ρ σ) (upd H p o) p d') :
    Po G X σ F ρ H F (setIo ρ i d') (upd H p o) := by
  obtain ⟨s0, s1, e0, k, e1⟩ : ∃ s0 s1, ρ[i]? = some s0 ∧ ((∃ x, s0 = .own x) ∧ s1 = .own d' ∨ (∃ x, s0 = .io x) ∧ s1 = .io d') ∧ setIo ρ i d' = ρ.set i s1 := by
    rcases ownD_at h1 with ⟨e4, e5⟩ | ⟨e4, e5⟩
    · exact ⟨_, _, e4, .inl ⟨⟨_, rfl⟩, rfl⟩, by rw [e5]⟩
    · exact ⟨_, _, e4, .inr ⟨⟨_, rfl⟩, rfl⟩, by rw [e5]⟩
  have w := put_ownG S e0 k h2 c
  have hi : i < ρ.length := (List.getElem?_eq_some_iff.mp e0).1
  rw [e1]
  refine ⟨w.sr, w.le, fun q z => ⟨z, w.keep q z⟩, fun j q ⟨⟨x, z⟩, hw⟩ => ?_, fun j ⟨x, z⟩ => ?_⟩
  · by_cases hj : j = i
    · subst hj
      rcases k with ⟨⟨y, rfl⟩, rfl⟩ | ⟨⟨y, rfl⟩, rfl⟩
      · exact ⟨⟨y, .inl e0⟩, hw⟩
      · exact ⟨⟨y, .inr e0⟩, hw⟩
    · rw [List.getElem?_set_ne (Ne.symm hj)] at z
      exact ⟨⟨x, z⟩, hw⟩
  · by_cases hj : j = i
    · subst hj
      rcases k with ⟨_, rfl⟩ | ⟨_, rfl⟩
      · exact ⟨d', .inl (List.getElem?_set_self hi)⟩
      · exact ⟨d', .inr (.inl (List.getElem?_set_self hi))⟩
    · exact ⟨x, by rw [List.getElem?_set_ne (Ne.symm hj)]; exact z⟩
end
section
variable {G : GD}
theorem se_dnew : SE G (fun ρ => .ok (.dct [], .fr) ρ) tDNewN := by
  intro X F ρ σ H Q d k ρ' S h q
  cases h
  intro p hn
  have hq : ¬ F p := fun z => S.fdom p z hn
  obtain ⟨n1, n2⟩ := S.new0 hn
  exact q _ _ (addF F p) (Po.laidF S hn) (.fr rfl hq n1 n2 ⟨[], upd_same, rfl, List.nodup_nil, .nil, .nil⟩)
/-- x[::-1] -/
def tRevT (K : PySem.W.Frag) (te : TE) : TE := fun σ H Q => te σ H fun x H1 => (∃ a xs, x = .ref a ∧ SqL K H1 a xs ∧ ∀ p, H1 p = none → Q (.ref p) (upd H1 p (.lst xs.reverse))) ∨ (∃ a xs, x = .ref a ∧ SqT K H1 a xs ∧ ∀ p, H1 p = none → Q (.ref p) (upd H1 p (.tup xs.reverse)))
theorem pe_revA {X : Cx} {e : Expr} {te : TE} {k : Nat} {p1 p2 p3 pos : Pos} (he : PE X e te) : PE X (.Subscript e (.Slice none none (some (.UnaryOp .USub (.Constant (.int 1) k p1) p2)) p3) pos) (tRevT X.K te) := by
  refine ⟨fun pins s σ H Q I h => ?_⟩
  refine Subscript_ (thn (he.run pins s σ H _ I h) fun v s1 ⟨x, H1, I1, r1, q1⟩ => ?_)
  have hst : PO X (some (.UnaryOp .USub (.Constant (.int 1) k p1) p2)) (tPart (tUn (rU fun i => .int (-i)) (tC (.int 1)))) := po_some (pe_un un_neg pe_int)
  refine wpAny_Slice (thn (po_none.run pins s1 σ H1 (fun o H2 => o = none ∧ H2 = H1) I1 ⟨rfl, rfl⟩) fun vl s2 ⟨l, H2, I2, pl, el, e2⟩ => ?_)
  subst el e2
  refine thn (po_none.run pins s2 σ H2 (fun o H3 => o = none ∧ H3 = H2) I2 ⟨rfl, rfl⟩) fun vu s3 ⟨u, H3, I3, pu, eu, e3⟩ => ?_
  subst eu e3
  refine thn (hst.run pins s3 σ H3 (fun o H4 => o = some (-1) ∧ H4 = H3) I3 ⟨1, rfl, -1, rfl, rfl, rfl⟩) fun vs s4 ⟨o, H4, I4, ps, eo, e4⟩ => ?_
  subst eo e4
  have I5 : Inv X pins σ H4 { s4 with heap := s4.heap.push { cls := .type "slice", data := .fields #[vl, vu, vs] } } := I4.kept (t' := s4.toks) fun b ob q => Heap.get?_push_of_some _ q
  rcases q1 with ⟨a, xs, ex, hx, q⟩ | ⟨a, xs, ex, hx, q⟩
  · subst ex
    cases r1
    obtain ⟨its, r, ht, hz⟩ := I5.list hx
    have hlen := r.length
    show wpAny (model X.prog X.w) X.A (subscriptTail e (.Slice none none (some (.UnaryOp .USub (.Constant (.int 1) k p1) p2)) p3) (.ref a) (.ref s4.heap.objs.size)) (EP X pins σ Q) X.xe { s4 with heap := s4.heap.push { cls := .type "slice", data := .fields #[vl, vu, vs] } }
    refine tail_any (ops := [.ref a, .ref s4.heap.objs.size]) ht.isList.typeIs (PySem.slot_list_getitem.lookup) ?_ (by with_unfolding_all rfl)
    refine wpAny_getItem_list_slice ht.isList (Heap.IsSliceOf.new _ vl vu vs) pl pu ps (by decide) ?_ (by rw [List.size_toArray]; omega)
    rw [PySem.W.krv_pick]
    refine ⟨.ref _, _, I5.laid (t' := s4.toks) (o := .lst xs.reverse) (fun b ob q => Heap.get?_push_of_some _ q) (Nat.le_refl _) ?_, rfl, q _ (I5.hok.fresh (Nat.le_refl _))⟩
    exact ⟨by rw [List.length_reverse]; exact hz, _, 0, r.reverse, Heap.get?_push_size _ rfl⟩
  · subst ex
    cases r1
    obtain ⟨its, r, ht, hz⟩ := I5.tuple hx
    have hlen := r.length
    cases pl
    cases pu
    show wpAny (model X.prog X.w) X.A (subscriptTail e (.Slice none none (some (.UnaryOp .USub (.Constant (.int 1) k p1) p2)) p3) (.ref a) (.ref s4.heap.objs.size)) (EP X pins σ Q) X.xe { s4 with heap := s4.heap.push { cls := .type "slice", data := .fields #[.none, .none, vs] } }
    refine tail_any (ops := [.ref a, .ref s4.heap.objs.size]) ht.typeIs PyProof.Rows.slot_tuple_getitem.lookup ?_ (by with_unfolding_all rfl)
    refine HTR.getItem_tuple_rev ht (Heap.IsSliceOf.new _ _ _ vs) ps ?_ (by rw [List.size_toArray]; omega)
    refine ⟨.ref _, _, I5.laid (t' := s4.toks) (o := .tup xs.reverse) (fun b ob q => Heap.get?_push_of_some _ q) (Nat.le_refl _) ?_, rfl, q _ (I5.hok.fresh (Nat.le_refl _))⟩
    refine ⟨by rw [List.length_reverse]; exact hz, its.reverse, r.reverse, ?_⟩
    exact ⟨_, Heap.get?_push_size _ rfl, rfl, 0, by simp⟩
theorem DtA.rev {H : Hp} : ∀ {vs : List V} {ds : List D}, DtA G H vs ds → DtA G H vs.reverse ds.reverse
  | _, _, .nil => .nil
  | _, _, .cons h r => by
    rw [List.reverse_cons, List.reverse_cons]
    exact (DtA.rev r).append (.cons h .nil)
theorem se_rev {ea : Env → R (D × Kd)} {ta : TE} (ha : SE G ea ta) :
    SE G (fun ρ => (ea ρ).bind fun x ρ => (R.of (revD (cur ρ x.1 x.2)) ρ).bind fun z ρ => .ok (z.1, kdOf z.2) ρ) (tRevT G.K ta) := by
  intro X F ρ σ H Q d k ρ' S h q
  obtain ⟨⟨d1, k1⟩, ρ1, h1, h⟩ := bind_ok h
  obtain ⟨⟨z, fr⟩, h3, h⟩ := ofb_ok h
  cases h
  refine ha X F ρ σ H _ d1 k1 ρ' S h1 fun v1 H1 F1 p1 r1 => ?_
  have sh := r1.sh p1.sr
  have fin : ∀ v H3, NewV G (Mm F1 ρ' σ) H1 v H3 z fr → Q v H3 := fun v H3 n => by
    obtain ⟨F3, p3, r3⟩ := fin_op p1 n
    exact q v H3 F3 p3 r3
  have h3' : revD (cur ρ' d1 k1) = some (z, fr) := h3
  have shc : Sh G (Mm F1 ρ' σ) H1 v1 (cur ρ' d1 k1) := r1.held (Po.refl p1.sr)
  cases e : cur ρ' d1 k1 with
  | tup xs =>
    rw [e] at h3' shc
    cases h3'
    obtain ⟨p, vs, rfl, s1, rr⟩ := shc.tup
    exact .inr ⟨p, vs, rfl, s1, fun l hl => fin _ _ (.tup hl rr.rev)⟩
  | lst xs =>
    rw [e] at h3' shc
    cases h3'
    obtain ⟨p, vs, rfl, s1, rr⟩ := shc.lst
    exact .inl ⟨p, vs, rfl, s1, fun l hl => fin _ _ (.lst hl rr.rev)⟩
  | scr xs =>
    rw [e] at h3' shc
    cases h3'
    obtain ⟨p, vs, rfl, s1, rr⟩ := shc.scr
    exact .inl ⟨p, vs, rfl, s1, fun l hl => fin _ _ (.lst hl rr.rev)⟩
  | _ => rw [e] at h3'; cases h3'
/-- x.pop(i) -/
theorem pop_ok {ρ ρ' : Env} {i : Nat} {a d : D} {k : Kd} (h : vopD .pop ρ i a .non = .ok (d, k) ρ') : ∃ m xs j, a = .int m ∧ ownD (getS ρ i) = some (.lst xs) ∧ (-(2 ^ 63) ≤ m ∧ m < 2 ^ 63) ∧ Mp.ixN xs.length m = some j ∧ xs[j]? = some d ∧ k = .frz ∧ ρ' = setIo ρ i (.lst (xs.eraseIdx j)) := by
  cases a with
  | int m =>
    have h' : (match ownD (getS ρ i) with
      | some (.lst xs) => if -(2 ^ 63) ≤ m ∧ m < 2 ^ 63 then (match Mp.ixN xs.length m with
        | some k => (match xs[k]? with
          | some y => R.ok (y, Kd.frz) (setIo ρ i (.lst (xs.eraseIdx k)))
          | none => .no)
        | none => .no) else .no
      | _ => .no) = .ok (d, k) ρ' := h
    cases e : ownD (getS ρ i) with
    | none => rw [e] at h'; cases h'
    | some x =>
      rw [e] at h'
      cases x with
      | lst xs =>
        dsimp only at h'
        split at h'
        · rename_i c
          cases e2 : Mp.ixN xs.length m with
          | none => rw [e2] at h'; cases h'
          | some j =>
            rw [e2] at h'
            dsimp only at h'
            cases e3 : xs[j]? with
            | none => rw [e3] at h'; cases h'
            | some y =>
              rw [e3] at h'
              cases h'
              exact ⟨m, xs, j, rfl, rfl, c, e2, e3, rfl, rfl⟩
        · cases h'
      | _ => cases h'
  | _ => cases h
theorem DtA.erase {H : Hp} : ∀ {vs : List V} {ds : List D} (i : Nat), DtA G H vs ds → DtA G H (vs.eraseIdx i) (ds.eraseIdx i)
  | _, _, _, .nil => .nil
  | _, _, 0, .cons _ r => r
  | _, _, i + 1, .cons q r => .cons q (DtA.erase i r)
theorem se_pop {i : Nat} {ea : Env → R (D × Kd)} {ta : TE} (ha : SE G ea ta) :
    SE G (fun ρ => if ownL (getS ρ i) = true then (ea ρ).bind fun x ρ => vopD .pop ρ i x.1 .non else .no) (tBM G.K "list" rPopAt (tVar i) (tCons ta tNil)) := by
  intro X F ρ σ H Q d k ρ' S h q
  dsimp only at h
  split at h
  · rename_i ho
    obtain ⟨p, vs0, e1, op, hp0⟩ := own_at S ho
    obtain ⟨⟨d1, k1⟩, ρ1, h1, h⟩ := bind_ok h
    obtain ⟨m, xs, j, e3, e5, c, e6, e7, rfl, rfl⟩ := pop_ok h
    have e3 : d1 = .int m := e3
    subst e3
    refine ⟨_, e1, .inl ⟨rfl, vs0, .inl (.inl hp0)⟩, ?_⟩
    refine ha X F ρ σ H _ _ k1 ρ1 S h1 fun v1 H1 F1 p1 r1 => ?_
    have e1' := r1.int p1.sr
    subst e1'
    have P := p1.drop (F2 := F) (fun _ h => h) (sub_of p1)
    obtain ⟨vs, hp, rv⟩ := ownD_c P.sr e5 e1
    obtain ⟨y, hy, dt⟩ := rv.get e7
    have w := po_ownG (d' := .lst (xs.eraseIdx j)) (o := .lst (vs.eraseIdx j)) P.sr e5 e1 fun le => ⟨_, upd_same, (rv.le le).erase j⟩
    have e6' : L2.ixN vs.length m = some j := by rw [rv.length]; exact e6
    exact ⟨p, vs, m, j, y, rfl, rfl, hp, c.1, c.2, (ixN_seq e6').1, hy, q _ _ F (P.trans w) (.frz rfl (dt.le w.le))⟩
  · cases h
theorem rgV_dt {H : Hp} {a b : Int} : DtA G H (rgV a b) (rngD a b) := by
  unfold rgV rngD
  induction List.range (b - a).toNat with
  | nil => exact .nil
  | cons i l ih => exact .cons (.int _) ih
theorem se_lof1 {ea : Env → R (D × Kd)} {ta : TE} (ha : SE G ea ta) :
    SE G (fun ρ => (ea ρ).bind fun x ρ => (match x.1 with | .int n => if rgOk 0 n then .ok (.lst (rngD 0 n), .fr) ρ else .no | _ => .no)) (tLstRg (tRg1 ta)) := by
  intro X F ρ σ H Q d k ρ' S h q
  obtain ⟨⟨d1, k1⟩, ρ1, h1, h⟩ := bind_ok h
  cases d1 with
  | int n =>
    dsimp only at h
    split at h
    · rename_i c
      cases h
      refine ha X F ρ σ H _ _ k1 ρ' S h1 fun v1 H1 F1 p1 r1 => ?_
      refine ⟨n, r1.int p1.sr, ⟨c.1.1, c.1.2, c.2.1.1, c.2.1.2, c.2.2⟩, fun t ht => ?_⟩
      obtain ⟨F3, p3, r3⟩ := fin_op p1 (.lst ht rgV_dt)
      exact q _ _ F3 p3 r3
    · cases h
  | _ => cases h
theorem se_lof2 {ea eb : Env → R (D × Kd)} {ta tb : TE} (ha : SE G ea ta) (hb : SE G eb tb) :
    SE G (fun ρ => (ea ρ).bind fun x ρ => (eb ρ).bind fun y ρ => (match x.1, y.1 with | .int m, .int n => if rgOk m n then .ok (.lst (rngD m n), .fr) ρ else .no | _, _ => .no)) (tLstRg (tRg2 ta tb)) := by
  intro X F ρ σ H Q d k ρ' S h q
  obtain ⟨⟨d1, k1⟩, ρ1, h1, h⟩ := bind_ok h
  obtain ⟨⟨d2, k2⟩, ρ2, h2, h⟩ := bind_ok h
  cases d1 with
  | int m =>
    cases d2 with
    | int n =>
      dsimp only at h
      split at h
      · rename_i c
        cases h
        refine ha X F ρ σ H _ _ k1 ρ1 S h1 fun v1 H1 F1 p1 r1 => ?_
        refine hb X F1 ρ1 σ H1 _ _ k2 ρ' p1.sr h2 fun v2 H2 F2 p2 r2 => ?_
        refine ⟨m, n, r1.int p1.sr, r2.int p2.sr, ⟨c.1.1, c.1.2, c.2.1.1, c.2.1.2, c.2.2⟩, fun t ht => ?_⟩
        obtain ⟨F3, p3, r3⟩ := fin_op (p1.trans p2) (.lst ht rgV_dt)
        exact q _ _ F3 p3 r3
      · cases h
    | _ => cases h
  | _ => cases h
/-- range(a), range(a, b) as a value -/
def rRngV : List V → Hp → VK → Prop := fun vs H Q => (∃ j, vs = [V.int j] ∧ ∀ p, H p = none → Q (.ref p) (upd H p (.rng 0 j))) ∨ ∃ i j, vs = [V.int i, V.int j] ∧ ∀ p, H p = none → Q (.ref p) (upd H p (.rng i j))
theorem cr_rngV {X : Cx} : CallR X (.type "range") rRngV := by
  intro pins s σ H vs us Q I r h
  rcases h with ⟨j, rfl, q⟩ | h
  · obtain ⟨u1, rfl, ri⟩ := vals1 r
    obtain ⟨t, rfl⟩ := ri
    refine call_range_1 ⟨.ref s.heap.objs.size, upd H s.heap.objs.size (.rng 0 j), I.laid (fun b o e => Heap.get?_push_of_some _ e) (Nat.le_refl _) ?_, rfl, q _ (I.hok.fresh (Nat.le_refl _))⟩
    exact ⟨_, _, _, Heap.get?_push_size _ rfl⟩
  · exact cr_range2 pins s σ H vs us Q I r h
section
variable {X : Fr} {F F2 : AS} {ρ ρ2 : Env} {σ : L2.St} {H H2 : Hp}
theorem fin_rng {p : Addr} {lo hi : Int} (P : Po G X σ F ρ H F2 ρ2 H2) (hn : H2 p = none) : ∃ F3, Po G X σ F ρ H F3 ρ2 (upd H2 p (.rng lo hi)) ∧ VR G X σ F F3 ρ2 (upd H2 p (.rng lo hi)) (.ref p) (.rng lo hi) .frz := by
  have p3 := P.trans (Po.laid (o := .rng lo hi) P.sr hn)
  refine ⟨F, p3.drop (fun _ h => h) (sub_of P), .frz rfl (.rng (hr_some.mpr ⟨fun z => ?_, upd_same⟩))⟩
  exact P.sr.mdom p (z.imp (sub_of P p) id) hn
end
theorem se_rof1 {ea : Env → R (D × Kd)} {ta : TE} (ha : SE G ea ta) :
    SE G (fun ρ => (ea ρ).bind fun x ρ => (match x.1 with | .int n => .ok (.rng 0 n, .frz) ρ | _ => .no)) (tCB rRngV (tCons ta tNil)) := by
  intro X F ρ σ H Q d k ρ' S h q
  obtain ⟨⟨d1, k1⟩, ρ1, h1, h⟩ := bind_ok h
  cases d1 with
  | int n =>
    cases h
    refine ha X F ρ σ H _ _ k1 ρ' S h1 fun v1 H1 F1 p1 r1 => ?_
    refine .inl ⟨n, by rw [r1.int p1.sr], fun t ht => ?_⟩
    obtain ⟨F3, p3, r3⟩ := fin_rng (lo := 0) (hi := n) p1 ht
    exact q _ _ F3 p3 r3
  | _ => cases h
theorem se_rof2 {ea eb : Env → R (D × Kd)} {ta tb : TE} (ha : SE G ea ta) (hb : SE G eb tb) :
    SE G (fun ρ => (ea ρ).bind fun x ρ => (eb ρ).bind fun y ρ => (match x.1, y.1 with | .int m, .int n => .ok (.rng m n, .frz) ρ | _, _ => .no)) (tCB rRngV (tCons ta (tCons tb tNil))) := by
  intro X F ρ σ H Q d k ρ' S h q
  obtain ⟨⟨d1, k1⟩, ρ1, h1, h⟩ := bind_ok h
  obtain ⟨⟨d2, k2⟩, ρ2, h2, h⟩ := bind_ok h
  cases d1 with
  | int m =>
    cases d2 with
    | int n =>
      cases h
      refine ha X F ρ σ H _ _ k1 ρ1 S h1 fun v1 H1 F1 p1 r1 => ?_
      refine hb X F1 ρ1 σ H1 _ _ k2 ρ' p1.sr h2 fun v2 H2 F2 p2 r2 => ?_
      refine .inr ⟨m, n, by rw [r1.int p1.sr, r2.int p2.sr], fun t ht => ?_⟩
      obtain ⟨F3, p3, r3⟩ := fin_rng (lo := m) (hi := n) (p1.trans p2) ht
      exact q _ _ F3 p3 r3
    | _ => cases h
  | _ => cases h
/-! methods of lists that only look -/
/-- l.count(x) -/
def rCountD (K : PySem.W.Frag) : V → List V → Hp → VK → Prop := fun x xs H Q => ∃ (a : Addr) (y : V) (d : PyData) (ds : List PyData), x = V.ref a ∧ xs = [y] ∧ Dp K H (V.ref a) (.list ds) ∧ Dp K H y d ∧
  SeqAt.shaped (.list ds) = true ∧ SeqAt.shaped d = true ∧ Q (.int (ds.countP fun z => PyData.eqv z d : Nat)) H
theorem mt_countD {X : Cx} (hu : X.A.units + 65 < cLine) : MtR X "list.count" (rCountD X.K) := by
  intro pins s σ H x xs v us Q I rx rxs h
  obtain ⟨a, y, d, ds, rfl, rfl, hl, hy, sl, sd, q⟩ := h
  cases rx
  cases rxs with
  | cons ry rt =>
    rename_i uy ut
    cases rt
    obtain ⟨bs, r1⟩ := Dp.reads I d y uy hy ry
    have hxs : PyData.canLayAll0 ds = true := SeqAt.canLay_of_shaped sl
    have hroom : X.A.units + 1 + min (PyData.depthAll ds) d.depth < cLine := room_in_shaped sd hu
    cases hl with
    | lst hs ha =>
      obtain ⟨its, rv, ⟨⟨cls, dd, data, sls⟩, n, ho, hc, hdn, hdt⟩, hlen⟩ := I.list hs
      simp only at hc hdt
      subst hc hdt
      obtain ⟨as, h4⟩ := Dp.readsAll I ds _ its ha rv
      have hmap : its.map (SeqAt.readOf s.heap) = ds := SeqAt.readsAll_map ds its as hxs h4
      refine call_meets PySem.F.slot_list_count ⟨_, ho, rfl⟩ PySem.F.entry_list_count (PySem.F.args_list_count_2 _ _)
        (SeqAt.list_countAt a its.toArray n dd sls uy (fun u => PyData.eqv (SeqAt.readOf s.heap u) d)) ⟨ho, SeqAt.items_eqAt (vs := its.toArray) (show ReadsAll s.heap its.toArray.toList ds as from h4) r1 hxs (SeqAt.canLay_of_shaped sd) hroom, ?_⟩
      refine ⟨.int (ds.countP fun z => PyData.eqv z d : Nat), H, I.tok _, ⟨s.toks, ?_⟩, q⟩
      rw [← hmap, List.countP_map] <;> rfl
def bmName : Bm → Str
  | .index => "index" | .count => "count"
theorem countP_toPs (f : PyData → Bool) : ∀ xs : List D, (D.toPs xs).countP f = xs.countP fun y => f y.toP
  | [] => rfl
  | x :: xs => by rw [D.toPs, List.countP_cons, List.countP_cons, countP_toPs f xs]
theorem get_toPs : ∀ (xs : List D) (i : Nat), (D.toPs xs)[i]? = xs[i]?.map D.toP
  | [], i => by simp [D.toPs]
  | x :: xs, 0 => by simp [D.toPs]
  | x :: xs, i + 1 => by
    rw [D.toPs, List.getElem?_cons_succ, List.getElem?_cons_succ, get_toPs xs i]
/-- what a method of a list that only looks asks, and gives -/
def bmOk (G : GD) (o : Bm) (r : V → List V → Hp → VK → Prop) : Prop := ∀ (M : AS) (H : Hp) (x y : V) (a b z : D) (fr : Bool) (Q : VK), Sh G M H x a → Sh G M H y b → bmD o a b = some (z, fr) → (∀ v H', NewV G M H v H' z fr → Q v H') → r x [y] H Q
theorem bm_ok (G : GD) (o : Bm) : ∃ (id : String) (r : V → List V → Hp → VK → Prop), (∀ X : Cx, X.K = G.K → X.A.units + 65 < cLine → MtR X id r) ∧ PySem.Slot "list" (bmName o) id ∧ typeOf (.builtin id) = pure (.type "method_descriptor") ∧ bmOk G o r := by
  cases o with
  | index =>
    refine ⟨"list.index", rIndexD G.K, fun X hK hu => hK ▸ mt_indexD hu, PySem.F.slot_list_index, PySem.F.type_list_index, fun M H x y a b z fr Q ha hb h q => ?_⟩
    cases a with
    | lst xs =>
      have h' : (if ((D.lst xs).ok && b.ok && SeqAt.shaped (D.lst xs).toP && SeqAt.shaped b.toP) = true then (xs.findIdx? fun x => PyData.eqv x.toP b.toP).map fun (i : Nat) => (D.int i, false) else none) = some (z, fr) := by
        unfold bmD at h
        exact h
      split at h'
      · rename_i c
        simp only [Bool.and_eq_true] at c
        obtain ⟨⟨⟨c1, c2⟩, c3⟩, c4⟩ := c
        cases e : xs.findIdx? fun x => PyData.eqv x.toP b.toP with
        | none => rw [e] at h'; cases h'
        | some j =>
          rw [e] at h'
          cases h'
          obtain ⟨hj, e2, e3⟩ := List.findIdx?_eq_some_iff_getElem.mp e
          have dl := dp_of ha.dt c1
          have dy := dp_of hb.dt c2
          obtain ⟨p, vs, rfl, _, _⟩ := ha.lst
          refine ⟨p, y, b.toP, D.toPs xs, j, xs[j].toP, rfl, rfl, dl, dy, c3, c4, ?_, e2, fun m z' hm hz => ?_, q _ _ (.old (.int _))⟩
          · rw [get_toPs, List.getElem?_eq_getElem hj] <;> rfl
          · rw [get_toPs, List.getElem?_eq_getElem (Nat.lt_trans hm hj)] at hz
            cases hz
            simpa using e3 m hm
      · cases h'
    | _ => cases h
  | count =>
    refine ⟨"list.count", rCountD G.K, fun X hK hu => hK ▸ mt_countD hu, PySem.F.slot_list_count, PySem.F.type_list_count, fun M H x y a b z fr Q ha hb h q => ?_⟩
    cases a with
    | lst xs =>
      have h' : (if ((D.lst xs).ok && b.ok && SeqAt.shaped (D.lst xs).toP && SeqAt.shaped b.toP) = true then some (D.int ((xs.countP fun x => PyData.eqv x.toP b.toP : Nat)), false) else none) = some (z, fr) := h
      split at h'
      · rename_i c
        simp only [Bool.and_eq_true] at c
        obtain ⟨⟨⟨c1, c2⟩, c3⟩, c4⟩ := c
        cases h'
        have dl := dp_of ha.dt c1
        have dy := dp_of hb.dt c2
        obtain ⟨p, vs, rfl, _, _⟩ := ha.lst
        refine ⟨p, y, b.toP, D.toPs xs, rfl, rfl, dl, dy, c3, c4, ?_⟩
        rw [countP_toPs]
        exact q _ _ (.old (.int _))
      · cases h'
    | _ => cases h
theorem se_bm {o : Bm} {ea eb : Env → R (D × Kd)} {ta tb : TE} {r : V → List V → Hp → VK → Prop} (ha : SE G ea ta) (hb : SE G eb tb) (hr : bmOk G o r) :
    SE G (fun ρ => (ea ρ).bind fun x ρ => if isLst x.1 = true then (eb ρ).bind fun y ρ => (R.of (bmD o (cur ρ x.1 x.2) y.1) ρ).bind fun z ρ => .ok (z.1, kdOf z.2) ρ else .no) (tBM G.K "list" r ta (tCons tb tNil)) := by
  intro X F ρ σ H Q d k ρ' S h q
  obtain ⟨⟨d1, k1⟩, ρ1, h1, h⟩ := bind_ok h
  split at h
  · rename_i hl
    obtain ⟨⟨d2, k2⟩, ρ2, h2, h⟩ := bind_ok h
    obtain ⟨⟨z, fr⟩, h3, h⟩ := ofb_ok h
    cases h
    refine ha X F ρ σ H _ d1 k1 ρ1 S h1 fun v1 H1 F1 p1 r1 => ?_
    have sh := r1.sh p1.sr
    refine ⟨?_, ?_⟩
    · cases d1 with
      | lst xs =>
        obtain ⟨p, vs, rfl, s1, _⟩ := sh.lst
        exact .inl ⟨rfl, vs, s1⟩
      | _ => cases hl
    · refine hb X F1 ρ1 σ H1 _ d2 k2 ρ' p1.sr h2 fun v2 H2 F2 p2 r2 => ?_
      refine hr (Mm F2 ρ' σ) H2 v1 v2 _ d2 z fr Q (r1.held p2) (r2.sh p2.sr) h3 fun v H3 n => ?_
      obtain ⟨F3, p3, r3⟩ := fin_op (p1.trans p2) n
      exact q v H3 F3 p3 r3
  · cases h
theorem mk_core {cl : Nat → List Bool → List D → CRes} {c f n : Nat} {fl : List Str} {E : XK} {X : Fr} {F : AS} {ρ ρ1 ρ' : Env} {σ : L2.St} {H H1 : Hp} {Q : VK} {vs : List V} {as : List Ar} {d : D} {k : Kd} (hn : ∀ fl ds x, cl f fl ds = some x → ds.length = n) (hF : InsF G c fl)
    (p : Po G X σ F ρ H F ρ1 H1) (r : ArR G σ F ρ1 H1 vs as) (h : doMk cl c f fl as ρ1 = .ok (d, k) ρ') (q : ∀ v H' F', Po G X σ F ρ H F' ρ' H' → VR G X σ F F' ρ' H' v d k → Q v H') :
    ∀ x dx, H1 x = none → H1 dx = none → dx ≠ x → spOf G (cl f) n (.ref x :: vs) (upd (upd H1 dx (.own x)) x (.ins (G.ca c) dx [])) (fun v H2 => v = .non ∧ Q (.ref x) H2) E := by
  intro x dx hx hdx hne
  unfold doMk at h
  cases e1 : argsD ρ1 as with
  | none => rw [e1] at h; cases h
  | some ds =>
    rw [e1] at h
    dsimp only at h
    split at h
    · rename_i nio
      cases e2 : cl f (true :: as.map Ar.isIo) (.ins c fl [] :: ds) with
      | none => rw [e2] at h; cases h
      | some y =>
        obtain ⟨dv, b, outs⟩ := y
        rw [e2] at h
        match dv, b, outs, h, e2 with
        | .non, false, [d0], h, e2 =>
          cases h
          have P1 := p.trans (Po.laid (o := .own x) p.sr hdx)
          have hx2 : upd H1 dx (.own x) x = none := by rw [upd_ne (Ne.symm hne)]; exact hx
          have S1 := P1.sr
          have nx : ¬ Mm F ρ1 σ x := fun z => S1.mdom x z hx2
          have S2 := S1.laid (o := .ins (G.ca c) dx []) hx2
          have kp : ∀ a o, H1 a = some o → upd (upd H1 dx (.own x)) x (.ins (G.ca c) dx []) a = some o := fun a o e => by
            rw [upd_ne (ne_of_none e hx), upd_ne (ne_of_none e hdx)]; exact e
          refine ⟨true :: as.map Ar.isIo, .ins c fl [] :: ds, [x], Mm F ρ1 σ, .non, false, [d], e2, hn _ _ _ e2, .io ⟨dx, [], upd_same, by simp, hF, .nil⟩ (arr_noio r nio e1 _ _ (hr_mono (fun a o _ e => kp a o e) fun a z => ?_)), by simp, fun a h z => ?_, fun a z => S2.mdom a z, fun v H3 O => ?_⟩
          · rcases z with z | z
            · exact .inl z
            · right
              have : a = x := by simpa using z
              rw [this]; exact hx
          · have : a = x := by simpa using h
            exact nx (this ▸ z)
          · rcases O.val with ⟨_, dt, ol⟩ | ⟨z, _⟩
            · cases dt
              refine ⟨rfl, ?_⟩
              cases ol with
              | cons oc ol =>
                cases ol
                have O2 : OutR G (fun a => Mm F ρ1 σ a ∧ a ∉ ([] : List (Nat × Addr)).map (·.2)) (([] : List (Nat × Addr)).map (·.2)) (upd H1 dx (.own x)) (.ref x) H3 d false [] := by
                  refine ⟨fun a o _ e => ?_, .inl ⟨rfl, ?_, .nil⟩⟩
                  · have ne : a ≠ x := ne_of_none e hx2
                    exact O.frame a o (by simpa using ne) (by rw [upd_ne ne]; exact e)
                  · refine oc.dt (fun a z => ?_) fun z => ?_
                    · rcases z with z | z
                      · exact .inl z.1
                      · cases z
                    · rcases z with z | z
                      · exact nx z.1
                      · cases z
                obtain ⟨F', P', R⟩ := po_call (as := []) (ps := []) S1 .nil List.nodup_nil O2
                exact q _ H3 F' (P1.trans P') R
            · cases z
    · cases h
theorem se_mkk {cl : Nat → List Bool → List D → CRes} {c f n : Nat} {fl : List Str} {p : List Nat} {N M : Nat} {ea eb : Env → R (List Ar)} {t tk : TA} {E : XK} {gV : List V → List V → List V} (hn : ∀ fl ds x, cl f fl ds = some x → ds.length = n) (hF : InsF G c fl) (ha : SA G ea t) (hb : SA G eb tk)
    (hN : ∀ ρ as ρ', ea ρ = .ok as ρ' → as.length = N) (hM : ∀ ρ as ρ', eb ρ = .ok as ρ' → as.length = M) (hg : ∀ x vs zs, vs.length = N → zs.length = M → gV (x :: vs) zs = x :: pick p (vs ++ zs)) :
    SE G (fun ρ => (ea ρ).bind fun as ρ => (eb ρ).bind fun bs ρ => doMk cl c f fl (pick p (as ++ bs)) ρ) (tMakeK (G.ca c) N M (spOf G (cl f) n) gV E t tk) := by
  intro X F ρ σ H Q d k ρ' S h q
  obtain ⟨as, ρ1, h1, h⟩ := bind_ok h
  obtain ⟨bs, ρ2, h2, h⟩ := bind_ok h
  refine ha X F ρ σ H _ as ρ1 S h1 fun vs H1 p1 r1 => ?_
  refine hb X F ρ1 σ H1 _ bs ρ2 p1.sr h2 fun zs H2 p2 r2 => ?_
  have l1 := (map_perm r1).trans (hN _ _ _ h1)
  have l2 := (map_perm r2).trans (hM _ _ _ h2)
  refine ⟨l1, l2, fun x dx hx hdx hne => ?_⟩
  rw [hg _ vs zs l1 l2]
  exact mk_core hn hF (p1.trans p2) (((r1.le p2.le).append r2).pick p) h q x dx hx hdx hne
end
end Mp

set_option maxRecDepth 100000
set_option maxHeartbeats 4000000
/-! Mq15: == and != by an own __eq__. -/
namespace Mp
open PySem PySem.Spec PyProof.Rows L2
section
variable {M : Model} {prog : Program} {w : World} {A : Around} {E : Value → Shared → Prop} {s : Shared} {K : PySem.W.Frag} {x C f L : Addr} {ox : Obj} {od : Option Obj} {b tb : Value} {h₀ : Heap} {m : Str → Option Value}
theorem ifBound_objNe {args : List Value} {Q : Option Value → Shared → Prop} (X : K.In s.heap) (I : PySem.W.InstAt s.heap x ox C od) (hs : PySem.W.findIn K (.ref C) "__ne__" = some (some (.builtin "object.__ne__")))
    (h : wpAny M A (call (.builtin "object.__ne__") (.ref x :: args)) (fun v => Q (some v)) E s) : wpAny M A (callSpecialIfBound? (.ref x) "__ne__" args) Q E s := by
  simp only [callSpecialIfBound?, bindSpecialIfBound?]
  refine wpAny_holding (wpAny_bind (wpAny_bind (wpAny_bind (I.type.here ((PySem.W.looks_findIn X hs).here ?_)))))
  refine wpAny_bind (wpAny_askSetting (wpAny_ite ?_))
  have fin : wpAny M A (call (.builtin "object.__ne__") ([.ref x] ++ args) >>= fun v => pure (some v)) Q E s := wpAny_bind (wpAny_mono h (fun v s' h' => wpAny_pure h') fun _ _ h' => h')
  split
  · exact wpAny_bind (wpAny_of_eq (F.cmp_object.ne.bind _) (wpAny_pure (by exact fin)))
  · exact wpAny_tryCatch (wpAny_bind (wpAny_of_eq (F.cmp_object.ne.bind _) (wpAny_pure (by exact fin))))
theorem entry_ne {Q : Fin → Shared → Prop} (hu : A.units < cLine) (X : K.In s.heap) (I : PySem.W.InstAt s.heap x ox C od) (hs : PySem.W.findIn K (.ref C) "__eq__" = some (some (.ref f))) (hf : PySem.W.isFn K (.ref f) = true)
    (h : wpAny M A (call (.ref f) [.ref x, b]) (fun v s' => ∃ k, v = .bool k ∧ Q (.done (.ret (.bool (!k)))) s') E s) : wpAny M A (Builtin.«object.__ne__» ⟨[.ref x, b], []⟩) Q E s := by
  unfold Builtin.«object.__ne__»
  repeat (first
    | with_reducible refine wpAny_cRoomFor hu ?_
    | (refine wpAny_bind (m := callSpecialIfBound? (.ref x) (Str.ofString "__eq__") [b])
        (PySem.W.ifBound_K X I hs hf (wpAny_mono h (fun r s' hr => by
          obtain ⟨k, rfl, hq⟩ := hr
          repeat (first | exact hq | exact wpAny_pure hq | exact wpAny_truthy_bool hq | (refine wpAny_bind (m := truthy (.bool _)) (wpAny_truthy_bool ?_)) | wp_step)) fun _ _ e => e)))
    | wp_step)
theorem call_objNe {Q : Value → Shared → Prop} (hu : A.units + 1 < cLine) (X : K.In s.heap) (I : PySem.W.InstAt s.heap x ox C od) (hm : PySem.W.mroIn K C (.type "object") = some true) (hs : PySem.W.findIn K (.ref C) "__eq__" = some (some (.ref f))) (hf : PySem.W.isFn K (.ref f) = true)
    (h : wpAny (model prog w) A.in1 (call (.ref f) [.ref x, b]) (fun v s' => ∃ k, v = .bool k ∧ Q (.bool (!k)) s') E s) :
    wpAny (model prog w) A (call (.builtin "object.__ne__") [.ref x, b]) Q E s :=
  wpAny_call (codeAny_call_builtin F.cmp_object.ne.plain F.cmpEntry_ne (PySem.W.check_slot F.cmpKind_ne F.cmpSplit_ne (I.type.andThen (PySem.W.looks_mroIn X hm)) (F.cmpArgs_ne _ _) (entry_ne hu X I hs hf (wpAny_mono h (fun v s' hv => hv) fun _ _ e => e))))
theorem ne_K {Q : Value → Shared → Prop} (hu : A.units + 1 < cLine) (X : K.In s.heap) (I : PySem.W.InstAt s.heap x ox C od) (hb : PySem.W.Looks (model prog w) s.heap (typeOf b) tb) (hn : PySem.W.notFirst K C tb = true) (hm : PySem.W.mroIn K C (.type "object") = some true)
    (hne : PySem.W.findIn K (.ref C) "__ne__" = some (some (.builtin "object.__ne__"))) (hs : PySem.W.findIn K (.ref C) "__eq__" = some (some (.ref f))) (hf : PySem.W.isFn K (.ref f) = true)
    (h : wpAny (model prog w) A.in1 (call (.ref f) [.ref x, b]) (fun v s' => ∃ k, v = .bool k ∧ Q (.bool (!k)) s') E s) : wpAny (model prog w) A (richCompare .NotEq (.ref x) b) Q E s := by
  have one : wpAny (model prog w) A (tryCompare (.ref x) (cmpInfo .NotEq).2.1 b) (fun r s' => ∃ v, r = some v ∧ Q v s') E s := by
    unfold tryCompare
    refine wpAny_bind (ifBound_objNe X I hne (call_objNe hu X I hm hs hf (wpAny_mono h (fun v s' hv => ?_) fun _ _ e => e)))
    obtain ⟨k, hv, hq⟩ := hv
    exact ⟨k, hv, wpAny_pure ⟨_, rfl, hq⟩⟩
  unfold richCompare
  simp only [oneThing_ref]
  refine wpAny_holding (wpAny_bind (wpAny_cRoomFor (Nat.lt_of_succ_lt hu) ?_))
  refine wpAny_bind (I.type.here (wpAny_bind (hb.here ?_)))
  split
  · rename_i q
    have e : PySem.W.subIn K tb (.ref C) = some false := by
      rcases Bool.or_eq_true_iff.mp hn with e | e
      · rw [beq_iff_eq.mp e] at q; simp at q
      · exact beq_iff_eq.mp e
    refine wpAny_bind ((PySem.W.looks_subIn X e).here ?_)
    simp only [Bool.false_eq_true, if_false]
    refine wpAny_bind (wpAny_mono one (fun r s' z => ?_) fun _ _ e => e)
    obtain ⟨v, rfl, hq⟩ := z
    exact wpAny_pure hq
  · refine wpAny_bind (wpAny_pure ?_)
    simp only [Bool.false_eq_true, if_false]
    refine wpAny_bind (wpAny_mono one (fun r s' z => ?_) fun _ _ e => e)
    obtain ⟨v, rfl, hq⟩ := z
    exact wpAny_pure hq
theorem sub_tup : PySem.W.subIn K (.type "tuple") (.ref C) = some false := by
  have e : fastBuiltinMro "tuple" = some [.type "tuple", .type "object"] := by decide +kernel
  show (fastBuiltinMro "tuple").map (·.contains (.ref C)) = some false
  rw [e]
  first
    | rfl
    | simp
end
/-- what == of an own class's instances asks -/
structure EqK (K : PySem.W.Frag) (C f : Addr) : Prop where
  eq : PySem.W.findIn K (.ref C) "__eq__" = some (some (.ref f))
  ne : PySem.W.findIn K (.ref C) "__ne__" = some (some (.builtin "object.__ne__"))
  fn : PySem.W.isFn K (.ref f) = true
  obj : PySem.W.mroIn K C (.type "object") = some true
/-- the other side: an instance of the class, or a tuple -/
def OthE (K : PySem.W.Frag) (C : Addr) (H : Hp) (y : V) : Prop := (∃ b dy gs, y = .ref b ∧ H b = some (.ins C dy gs)) ∨ ∃ b xs, y = .ref b ∧ SqT K H b xs
def rOwnE (K : PySem.W.Frag) (C : Addr) (sp : L2.Sp) (ng : Bool) (E : XK) : R2 := fun x y H Q => ∃ a dx fl, x = .ref a ∧ H a = some (.ins C dx fl) ∧ OthE K C H y ∧ sp [x, y] H (fun z H' => ∃ k, z = .bl k ∧ Q (.bl (if ng = true then !k else k)) H') E
section
variable {X : Cx} {CX : CXT} {n : Nat} {f C : Addr} {fd : FuncData} {ps : List Str} {sp : L2.Sp} {E : XK}
theorem own_call {A : Around} {pins : List (Addr × Obj)} {s : Shared} {σ : L2.St} {H : Hp} {x y : V} {u v : Value} {Qv : VK} (sb : Sub X n A) (F : FnOk X.prog X.w X.K X.mg X.base CX n f fd ps sp) (hb : Binds X.K fd ps []) (hx : Passes CX X E)
    (I : Inv X pins σ H s) (rx : RelV x u) (ry : RelV y v) (hsp : sp [x, y] H Qv E) : wpAny (model X.prog X.w) A (call (.ref f) [u, v]) (fun r s' => ∃ z H', Inv X pins σ H' s' ∧ RelV z r ∧ Qv z H') X.xe s := by
  have e0 : Env0 X.prog X.w X.K X.mg X.base A X.stack s H := by
    have e := I.env0
    exact ⟨by rw [sb.fr]; exact e.frames, e.mod, e.bs, e.bsz, e.funs, e.frf, e.hok, e.bare⟩
  have hl := F.len _ _ _ _ hsp
  have r2 : Vals [x, y] [u, v] := .cons rx (.cons ry .nil)
  refine wpAny_call (codeAny_mono (F.run A X.stack s H ⟨[u, v], []⟩ [u, v] [x, y] _ E sb.room e0 (by
    have := hb s [u, v] I.kIn (by simpa using hl)
    simpa using this) r2 hsp) fun r s' hq => ?_)
  cases r with
  | error e => exact hx pins σ H s e s' I hq
  | ok fl =>
    cases fl with
    | ret w =>
      obtain ⟨z, H', I', rz, q⟩ := I.after hq
      exact ⟨z, H', I', rz, q⟩
    | next => exact False.elim hq
    | brk => exact False.elim hq
    | cont => exact False.elim hq
theorem oth_type {pins : List (Addr × Obj)} {s : Shared} {σ : L2.St} {H : Hp} {y : V} {v : Value} (I : Inv X pins σ H s) (ry : RelV y v) (h : OthE X.K C H y) : ∃ tb, PySem.W.Looks (model X.prog X.w) s.heap (typeOf v) tb ∧ PySem.W.notFirst X.K C tb = true := by
  rcases h with ⟨b, dy, gs, rfl, hb⟩ | ⟨b, xs, rfl, hq⟩
  · cases ry
    obtain ⟨mB, J', _⟩ := ins_get I.hok hb
    obtain ⟨od', J', _⟩ := J'.look
    exact ⟨.ref C, J'.type, by simp [PySem.W.notFirst]⟩
  · cases ry
    obtain ⟨its, rv, p, hz⟩ := I.tuple hq
    obtain ⟨o, ho, hc, _⟩ := (show s.heap.IsTuple b its.toArray from p)
    refine ⟨.type "tuple", fun A Q E s' k q => wpAny_typeOf (T := "tuple") ⟨o, k _ _ ho, hc⟩ q, ?_⟩
    unfold PySem.W.notFirst
    rw [sub_tup]
    simp
theorem op_ownE (F : FnOk X.prog X.w X.K X.mg X.base CX n f fd ps sp) (hk : EqK X.K C f) (hb : Binds X.K fd ps []) (hx : Passes CX X E) (hr : Room (n + 1) X.A) (hu : X.A.units + 1 < cLine) : OpR X (compareOp .Eq) (rOwnE X.K C sp false E) := by
  intro pins s σ H x y u v Q I rx ry h
  obtain ⟨a, dx, fl, rfl, ha, ho, hsp⟩ := h
  show wpAny (model X.prog X.w) X.A (richCompare .Eq u v) (EP X pins σ Q) X.xe s
  obtain ⟨tb, l1, l2⟩ := oth_type I ry ho
  obtain ⟨mA, J, _⟩ := ins_get I.hok ha
  obtain ⟨od, J, _⟩ := J.look
  obtain ⟨m, hF⟩ := I.fr
  cases rx
  refine PySem.W.cmp_K (op := .Eq) (tb := tb) (Nat.lt_of_succ_lt hu) hF I.ok.mod.kin J l1 l2 hk.eq hk.fn (wpAny_mono (own_call (A := X.A) ⟨hr.mono (Nat.le_succ _), rfl⟩ F hb hx I (show L2.RelV (V.ref a) (Value.ref a) from rfl) ry hsp) (fun r s' z => ?_) fun _ _ e => e)
  obtain ⟨z, H', I', rz, k, rfl, q⟩ := z
  cases rz
  exact ⟨.bl k, H', I', rfl, q⟩
theorem op_ownN (F : FnOk X.prog X.w X.K X.mg X.base CX n f fd ps sp) (hk : EqK X.K C f) (hb : Binds X.K fd ps []) (hx : Passes CX X E) (hr : Room (n + 1) X.A) (hu : X.A.units + 1 < cLine) : OpR X (compareOp .NotEq) (rOwnE X.K C sp true E) := by
  intro pins s σ H x y u v Q I rx ry h
  obtain ⟨a, dx, fl, rfl, ha, ho, hsp⟩ := h
  show wpAny (model X.prog X.w) X.A (richCompare .NotEq u v) (EP X pins σ Q) X.xe s
  obtain ⟨tb, l1, l2⟩ := oth_type I ry ho
  obtain ⟨mA, J, _⟩ := ins_get I.hok ha
  obtain ⟨od, J, _⟩ := J.look
  cases rx
  refine ne_K hu I.kIn J l1 l2 hk.obj hk.ne hk.eq hk.fn (wpAny_mono (own_call (A := X.A.in1) (Sub.in1 ⟨hr, rfl⟩) F hb hx I (show L2.RelV (V.ref a) (Value.ref a) from rfl) ry hsp) (fun r s' z => ?_) fun _ _ e => e)
  obtain ⟨z, H', I', rz, k, rfl, q⟩ := z
  cases rz
  exact ⟨k, rfl, .bl (!k), H', I', rfl, q⟩
end
theorem se_oeq {G : GD} {cl : Nat → List Bool → List D → CRes} {ng : Bool} {c f n : Nat} {ea eb : Env → R (D × Kd)} {ta tb : TE} {E : XK} (hn : ∀ fl ds x, cl f fl ds = some x → ds.length = n) (ha : SE G ea ta) (hb : SE G eb tb) :
    SE G (fun ρ => (ea ρ).bind fun x ρ => (settle ρ x.1 x.2).bind fun d ρ => (eb ρ).bind fun y ρ => (settle ρ y.1 y.2).bind fun e ρ => if insB c d = true ∧ othB c e = true then (doCall cl f [.v d, .v e] ρ).bind fun z ρ => blR ng z ρ else .no) (tOp (rOwnE G.K (G.ca c) (spOf G (cl f) n) ng E) ta tb) := by
  intro X F ρ σ H Q d k ρ' S h q
  obtain ⟨⟨d1, k1⟩, ρ1, h1, h⟩ := bind_ok h
  obtain ⟨d2, ρ2, h2, h⟩ := bind_ok h
  obtain ⟨⟨e1, k2⟩, ρ3, h3, h⟩ := bind_ok h
  obtain ⟨e2, ρ4, h4, h⟩ := bind_ok h
  split at h
  · rename_i cc
    obtain ⟨⟨z, kz⟩, ρ5, h5, h⟩ := bind_ok h
    refine ha X F ρ σ H _ d1 k1 ρ1 S h1 fun v1 H1 F1 p1 r1 => ?_
    obtain ⟨p2, r2⟩ := settle_ok p1 r1 h2
    refine hb X F ρ2 σ H1 _ e1 k2 ρ3 p2.sr h3 fun v2 H2 F2 p3 r3 => ?_
    obtain ⟨p4, r4⟩ := settle_ok p3 r3 h4
    have r2' := r2.le p4.le
    obtain ⟨c1, c2⟩ := cc
    cases d2 with
    | ins c' ns ds =>
      have ec : c' = c := of_decide_eq_true c1
      subst ec
      cases r2' with
      | ins ei z1 fi ri =>
        refine ⟨_, _, _, rfl, hr_sub _ _ ei, ?_, se_docall p4.sr (.v (.ins ei z1 fi ri) (.v r4 .nil)) hn h5 fun v H3 F3 p5 r5 => ?_⟩
        · cases e2 with
          | ins c2' ns2 ds2 =>
            have ec : c2' = c' := of_decide_eq_true c2
            subst ec
            cases r4 with
            | ins ej z2 fj rj => exact .inl ⟨_, _, _, rfl, hr_sub _ _ ej⟩
          | tup ds2 =>
            cases r4 with
            | tup sq rj => exact .inr ⟨_, _, rfl, sqt_le hr_sub sq⟩
          | _ => cases c2
        · cases z with
          | bl b =>
            cases kz with
            | frz =>
              cases h
              have P := (p2.trans p4).trans p5
              exact ⟨b, r5.bl p5.sr, q _ _ F (P.drop (fun _ h => h) (sub_of P)) (.frz rfl (.bl _))⟩
            | _ => cases h
          | _ => cases h
    | _ => cases c1
  · cases h
end Mp

set_option maxRecDepth 100000
set_option maxHeartbeats 4000000
/-! Mp13: the check of an expression, a statement against the text. -/
namespace Mp
open PySem PySem.Spec PyProof.Rows L2

mutual
def D.eqb : D → D → Bool
  | .non, .non => true
  | .bl a, .bl b => a == b
  | .int a, .int b => decide (a = b)
  | .str a, .str b => decide (a = b)
  | .tup a, .tup b => D.eqbs a b
  | .lst a, .lst b => D.eqbs a b
  | .fn a, .fn b => decide (a = b)
  | .cls a, .cls b => decide (a = b)
  | _, _ => false
def D.eqbs : List D → List D → Bool
  | [], [] => true
  | a :: r, b :: s => D.eqb a b && D.eqbs r s
  | _, _ => false
end
theorem ba2 {a b : Bool} (h : (a && b) = true) : a = true ∧ b = true := Bool.and_eq_true_iff.mp h
mutual
theorem D.eqb_ok : ∀ {a b : D}, D.eqb a b = true → a = b
  | .non, .non, _ => rfl
  | .bl a, .bl b, h => by
    have h' : (a == b) = true := h
    rw [eq_of_beq h']
  | .int a, .int b, h => congrArg D.int (of_decide_eq_true h)
  | .str a, .str b, h => congrArg D.str (of_decide_eq_true h)
  | .tup a, .tup b, h => congrArg D.tup (D.eqbs_ok h)
  | .lst a, .lst b, h => congrArg D.lst (D.eqbs_ok h)
  | .fn a, .fn b, h => congrArg D.fn (of_decide_eq_true h)
  | .cls a, .cls b, h => congrArg D.cls (of_decide_eq_true h)
theorem D.eqbs_ok : ∀ {a b : List D}, D.eqbs a b = true → a = b
  | [], [], _ => rfl
  | a :: r, b :: s, h => by
    obtain ⟨h1, h2⟩ := ba2 (show (D.eqb a b && D.eqbs r s) = true from h)
    rw [D.eqb_ok h1, D.eqbs_ok h2]
end

/-- what a def's text is read against: the frame's names, the scope, the module's names, the names that the module leaves to the built-ins -/
structure Gm where
  N : List Str
  sc : Scope
  sto : Scope
  top : Bool
  vals : List (Str × D)
  free : List Str
  pss : List (List Str)
  cls : List (List Str × Nat)
  eqs : List (Nat × Nat)
/-- a block's scope as its frame has it -/
def relS (scope sc : Scope) : Scope := { scope with names := scope.names.map fun (n, k) => if (k == .free && sc.kind == .function && sc.names.lookup n == some .cell) then (n, .cell) else (n, k) }
def cellB (sc : Scope) (x : Str) : Bool := match sc.names.lookup x with
  | some .cell => true
  | _ => false
def visB (sc : Scope) (x : Str) : Bool := match sc.names.lookup x with
  | some .local => true
  | some .cell => true
  | some .free => true
  | _ => false
def locB (sc : Scope) (x : Str) : Bool := match sc.names.lookup x with
  | some .local => true
  | some .cell => true
  | _ => false
def lclB (sc : Scope) (x : Str) : Bool := match sc.names.lookup x with
  | some .local => true
  | _ => false
def gloB (sc : Scope) (x : Str) : Bool := match sc.names.lookup x with
  | some .globalImplicit => true
  | _ => false
def okName (x : Str) : Bool := !(x == ("__debug__" : Str)) && !(x == ("__classdict__" : Str)) && !(x == ("__name__" : Str))
def varB (Γ : Gm) (i : Nat) (x : Str) : Bool := decide (Γ.N[i]? = some x) && (visB Γ.sc x && okName x)
def stvB (Γ : Gm) (i : Nat) (x : Str) : Bool := decide (Γ.N[i]? = some x) && (okName x && (lclB Γ.sc x || (locB Γ.sc x && (Γ.top || cellB Γ.sto x))))
def freeB (Γ : Gm) (x : Str) : Bool := gloB Γ.sc x && (Γ.free.contains x && okName x)
def valB (Γ : Gm) (x : Str) (d : D) : Bool := gloB Γ.sc x && okName x && (match Γ.vals.lookup x with
  | some d' => D.eqb d' d
  | none => false)
/-- no star, no slice -/
def nst : Expr → Bool
  | .Starred .. => false
  | _ => true
def nsl : Expr → Bool
  | .Slice .. => false
  | _ => true
def nset : Expr → Bool
  | .Set .. => false
  | _ => true
def ncmp : Expr → Bool
  | .ListComp .. => false
  | .SetComp .. => false
  | .DictComp .. => false
  | _ => true
/-- its test is its value's truth -/
def plainT : Expr → Bool
  | .UnaryOp .Not .. => false
  | .BoolOp .. => false
  | .IfExp .. => false
  | .Compare .. => false
  | _ => true
/-- no call of super -/
def nsup : Expr → Bool
  | .Call .. => false
  | _ => true
/-- its attributes are looked up plainly -/
def nsup2 : Expr → Bool
  | .Call (.Name _ _) [] [] _ => false
  | _ => true
/-- a target that is no name -/
def nnm : Expr → Bool
  | .Name .. => false
  | _ => true
def subT : Expr → Bool
  | .Tuple ts _ _ => ts.any nnm
  | _ => false
def bltName : Blt → Str
  | .len => "len" | .tuple => "tuple" | .list => "list" | .dict => "dict" | .sorted => "sorted" | .min => "min" | .max => "max" | .int => "int" | .abs => "abs" | .divmod => "divmod" | .sum => "sum" | .all => "all" | .any => "any" | .isinst _ => "isinstance"
def bltKnown : Blt → Bool
  | .isinst _ => false
  | _ => true
def conB : D → Const → Bool
  | .int i, .int j => decide (i = j)
  | .bl a, .bool b => a == b
  | .non, .none => true
  | .str a, .str b => decide (a = b)
  | _, _ => false
def ownOf (N : List Str) (vs : List Nat) : List (Str × Nat) := vs.map fun v => ((N[v]?).getD "", v)
def isCmpE : E → Bool
  | .cmp .. => true
  | .cmp2 .. => true
  | .oeq .. => true
  | _ => false
def inScope (Γ : Gm) (sc : Scope) : Gm := { Γ with sc := relS sc Γ.sc, sto := sc, top := false }
mutual
def chkE : E → Gm → Expr → Bool
  | .var i, Γ, .Name x _ => varB Γ i x
  | .con d, _, .Constant c _ _ => conB d c
  | .glo x d, Γ, .Name y _ => decide (x = y) && valB Γ x d
  | .tup es, Γ, .Tuple l _ _ => chkL es Γ l
  | .lst es, Γ, .List l _ => chkL es Γ l
  | .neg a, Γ, .UnaryOp .USub e _ => chkE a Γ e
  | .bin o a b, Γ, .BinOp l op r _ => decide (op = bopOf o) && (chkE a Γ l && chkE b Γ r)
  | .cmp o a b, Γ, .Compare l [op] [r] _ => decide (op = copOf o) && (!behindInMarks op r && (chkE a Γ l && chkE b Γ r))
  | .cmp2 o1 o2 a b c, Γ, .Compare l [p, q] [m, r] _ => decide (p = copOf o1) && (decide (q = copOf o2) && (!lastMarks [p, q] [m, r] && (chkE a Γ l && (chkE b Γ m && chkE c Γ r))))
  | .not (.tr a), Γ, .UnaryOp .Not e _ => chkE a Γ e
  | .and a b, Γ, .BoolOp .And (x :: y :: r) p => chkE a Γ x && (match r with
    | [] => chkE b Γ y
    | _ => chkE b Γ (.BoolOp .And (y :: r) p))
  | .or a b, Γ, .BoolOp .Or (x :: y :: r) p => chkE a Γ x && (match r with
    | [] => chkE b Γ y
    | _ => chkE b Γ (.BoolOp .Or (y :: r) p))
  | .ife c a b, Γ, .IfExp t x y _ => chkT c Γ t && (chkE a Γ x && chkE b Γ y)
  | .idx a i, Γ, .Subscript x y _ => nsl y && (chkE a Γ x && chkE i Γ y)
  | .sl a lo hi, Γ, .Subscript x (.Slice l h none _) _ => chkE a Γ x && (chkO lo Γ l && chkO hi Γ h)
  | .call f es, Γ, .Call (.Name x _) args [] _ => valB Γ x (.fn f) && (!args.isEmpty && chkA es Γ args)
  | .callk f p es ks, Γ, .Call (.Name x _) args kws _ => valB Γ x (.fn f) && (chkA es Γ args && (chkK ks Γ kws && (match Γ.pss[f]?, kws.mapM (·.arg) with
    | some ps, some ns => decide (cntA es = args.length) && (decide (cntA ks = ns.length) && (kwOk ps args.length ns && decide (p = permOf ps args.length ns)))
    | _, _ => false)))
  | .calf f a es, Γ, .Call (.Name x _) (e :: args) [] _ => valB Γ x (.fn f) && (nst e && (chkE a Γ e && chkA es Γ args))
  | .fld a x, Γ, .Attribute e y _ => decide (x = y) && (nsup e && chkE a Γ e)
  | .mk c f fl es, Γ, .Call (.Name x _) args [] _ => valB Γ x (.cls c) && (!args.isEmpty && (chkA es Γ args && decide (Γ.cls[c]? = some (fl, f))))
  | .isinc c z a, Γ, .Call (.Name x _) [e, .Name y _] [] _ => freeB Γ x && (decide (x = "isinstance") && (decide (y = z) && (valB Γ y (.cls c) && (Γ.cls[c]?.isSome && (nst e && chkE a Γ e)))))
  | .calv i es, Γ, .Call (.Name x _) args [] _ => varB Γ i x && (!args.isEmpty && chkA es Γ args)
  | .blt b es, Γ, .Call (.Name x _) args [] _ => freeB Γ x && (decide (x = bltName b) && (bltKnown b && (!args.isEmpty && chkL es Γ args)))
  | .isin t a, Γ, .Call (.Name x _) [e, .Name y _] [] _ => freeB Γ x && (decide (x = "isinstance") && (freeB Γ y && (decide (t < 5) && (decide (y = Str.ofString (tyName t)) && (nst e && chkE a Γ e)))))
  | .vop .pop i a _, Γ, .Call (.Attribute (.Name x _) m ap) [e] [] cp => varB Γ i x && (decide (m = "pop") && (decide (ap.endLine = cp.line) && (nst e && chkE a Γ e)))
  | .uop .dnew _, _, .Dict [] [] _ => true
  | .uop .rev a, Γ, .Subscript x (.Slice none none (some (.UnaryOp .USub (.Constant (.int i) _ _) _)) _) _ => decide (i = 1) && chkE a Γ x
  | .uop .lof (.rng1 a), Γ, .Call (.Name x _) [.Call (.Name y _) [e] [] _] [] _ => decide (x = "list") && (freeB Γ x && (decide (y = "range") && (freeB Γ y && (nst e && chkE a Γ e))))
  | .uop .lof (.rng2 a b), Γ, .Call (.Name x _) [.Call (.Name y _) [e, f] [] _] [] _ => decide (x = "list") && (freeB Γ x && (decide (y = "range") && (freeB Γ y && (nst e && (nst f && (chkE a Γ e && chkE b Γ f))))))
  | .uop .rof (.rng1 a), Γ, .Call (.Name y _) [e] [] _ => decide (y = "range") && (freeB Γ y && (nst e && chkE a Γ e))
  | .uop .rof (.rng2 a b), Γ, .Call (.Name y _) [e, f] [] _ => decide (y = "range") && (freeB Γ y && (nst e && (nst f && (chkE a Γ e && chkE b Γ f))))
  | .bm o a b, Γ, .Call (.Attribute ob m ap) [e] [] cp => nsup2 ob && (decide (m = bmName o) && (decide (ap.endLine = cp.line) && (nst e && (chkE a Γ ob && chkE b Γ e))))
  | .oeq ng c f a b, Γ, .Compare l [op] [r] _ => decide (op = if ng = true then .NotEq else .Eq) && (decide ((c, f) ∈ Γ.eqs) && (!behindInMarks op r && (chkE a Γ l && chkE b Γ r)))
  | .mkk c f fl p es ks, Γ, .Call (.Name x _) args kws _ => valB Γ x (.cls c) && (decide (Γ.cls[c]? = some (fl, f)) && (chkA es Γ args && (chkK ks Γ kws && (match Γ.pss[f]?, kws.mapM (·.arg) with
    | some ps, some ns => decide (cntA es = args.length) && (decide (cntA ks = ns.length) && (kwOk ps (args.length + 1) ns && decide (p = permOf (ps.drop 1) args.length ns)))
    | _, _ => false))))
  | .lc vs t it c e, Γ, .ListComp elt [⟨tg, iter, ifs, 0⟩] scope _ => blkC Γ.N Γ.sc scope (ownOf Γ.N vs) && (nset iter && (chkI it Γ tg iter && (chkV t vs (inScope Γ scope) tg && ((match c, ifs with
    | .nil, [] => true
    | c, [x] => chkT c (inScope Γ scope) x
    | _, _ => false) && chkE e (inScope Γ scope) elt))))
  | _, _, _ => false
def chkL : E → Gm → List Expr → Bool
  | .nil, _, [] => true
  | .cons a r, Γ, e :: es => nst e && (chkE a Γ e && chkL r Γ es)
  | _, _, _ => false
def chkA : E → Gm → List Expr → Bool
  | .nil, _, [] => true
  | .cons a r, Γ, e :: es => nst e && (chkE a Γ e && chkA r Γ es)
  | .ioa i r, Γ, .Name x _ :: es => varB Γ i x && chkA r Γ es
  | _, _, _ => false
def chkK : E → Gm → List Keyword → Bool
  | .nil, _, [] => true
  | .cons a r, Γ, ⟨_, e, _⟩ :: ks => chkE a Γ e && chkK r Γ ks
  | _, _, _ => false
def chkO : E → Gm → Option Expr → Bool
  | .nil, _, none => true
  | .cons a _, Γ, some e => chkE a Γ e
  | _, _, _ => false
def chkT : E → Gm → Expr → Bool
  | .not a, Γ, .UnaryOp .Not e _ => chkT a Γ e
  | .and a b, Γ, .BoolOp .And (x :: y :: r) p => chkT a Γ x && (match r with
    | [] => chkT b Γ y
    | _ => chkT b Γ (.BoolOp .And (y :: r) p))
  | .or a b, Γ, .BoolOp .Or (x :: y :: r) p => chkT a Γ x && (match r with
    | [] => chkT b Γ y
    | _ => chkT b Γ (.BoolOp .Or (y :: r) p))
  | .tr a, Γ, e => chkE a Γ e && (plainT e || isCmpE a)
  | _, _, _ => false
def chkI : E → Gm → Expr → Expr → Bool
  | .rng1 a, Γ, _, .Call (.Name x _) [e] [] _ => decide (x = "range") && (freeB Γ x && (nst e && chkE a Γ e))
  | .rng2 a b, Γ, _, .Call (.Name x _) [e, f] [] _ => decide (x = "range") && (freeB Γ x && (nst e && (nst f && (chkE a Γ e && chkE b Γ f))))
  | .enm a, Γ, .Tuple _ _ _, .Call (.Name x _) [e] [] _ => decide (x = "enumerate") && (freeB Γ x && (nst e && chkE a Γ e))
  | .it a, Γ, _, e => chkE a Γ e
  | _, _, _, _ => false
/-- a comprehension's target -/
def chkV : E → List Nat → Gm → Expr → Bool
  | .var i, vs, Γ, .Name x _ => stvB Γ i x && decide (i ∈ vs)
  | .tup ts, vs, Γ, .Tuple l _ _ => chkVs ts vs Γ l
  | _, _, _, _ => false
def chkVs : E → List Nat → Gm → List Expr → Bool
  | .nil, _, _, [] => true
  | .cons a r, vs, Γ, e :: es => nst e && (chkV a vs Γ e && chkVs r vs Γ es)
  | _, _, _, _ => false
end
mutual
/-- a target -/
def chkG : E → Gm → Expr → Bool
  | .var i, Γ, .Name x _ => stvB Γ i x
  | .idx (.var j) i, Γ, .Subscript (.Name x _) y _ => varB Γ j x && (nsl y && chkE i Γ y)
  | .tup ts, Γ, .Tuple l _ _ => chkGs ts Γ l
  | _, _, _ => false
def chkGs : E → Gm → List Expr → Bool
  | .nil, _, [] => true
  | .cons a r, Γ, e :: es => nst e && (chkG a Γ e && chkGs r Γ es)
  | _, _, _ => false
end
def ntup : Expr → Bool
  | .Tuple .. => false
  | .List .. => false
  | _ => true
/-- the names of a, b = ..: on one line, apart -/
def parNames (Γ : Gm) (is : List Nat) (ts : List Expr) : Bool := match is, ts with
  | [i, j], [.Name x px, .Name y py] => decide (Γ.N[i]? = some x) && (decide (Γ.N[j]? = some y) && (lclB Γ.sc x && (lclB Γ.sc y && (!(x == y) && (py.line == px.line && decide (i ≠ j))))))
  | [i, j, k], [.Name x px, .Name y py, .Name z pz] => decide (Γ.N[i]? = some x) && (decide (Γ.N[j]? = some y) && (decide (Γ.N[k]? = some z) && (lclB Γ.sc x && (lclB Γ.sc y && (lclB Γ.sc z && (!(x == y) && (!(x == z) && (!(y == z) && (py.line == px.line && (pz.line == px.line && (decide (i ≠ j) && (decide (i ≠ k) && decide (j ≠ k)))))))))))))
  | _, _ => false
/-- names that take a tuple's items -/
def namesB (Γ : Gm) : List Nat → List Expr → Bool
  | [], [] => true
  | i :: is, .Name x _ :: ts => stvB Γ i x && namesB Γ is ts
  | _, _ => false
def cellT (Γ : Gm) : Expr → Bool
  | .Name x _ => cellB Γ.sc x
  | _ => true
/-- name = [..]: the list is swapped with the name's frame -/
def swapB (Γ : Gm) (e tg : Expr) : Bool := match e, tg with
  | .ListComp _ _ s p, .Name x px => lclB Γ.sc x && (px.line == p.line && !(s.names.any fun (n, k) => n == x && (k == .local || k == .cell)))
  | _, _ => false
/-- name = [..]: not swapped -/
def noswap (Γ : Gm) (e tg : Expr) : Bool := ncmp e || (match e, tg with
  | .ListComp _ _ _ _, .Name x _ => cellB Γ.sc x
  | .ListComp _ _ _ _, _ => true
  | _, _ => false)
mutual
def chkS : S → Gm → Stmt → Bool
  | .never, _, _ => true
  | .skip, _, .Pass _ => true
  | .asg t e, Γ, .Assign [tg] v _ => (noswap Γ v tg || swapB Γ v tg) && ((ntup tg || ntup v || subT tg) && (chkE e Γ v && chkG t Γ tg))
  | .fst i x e, Γ, .Assign [.Attribute (.Name y _) f _] v _ => varB Γ i y && (decide (f = x) && chkE e Γ v)
  | .par is es, Γ, .Assign [.Tuple ts _ _] (.Tuple vs _ _) _ => (parNames Γ is ts && (decide (vs.length = is.length) && (!vs.all (foldedForSure 8) && (!vs.all (constantsAlone 8) && chkL es Γ vs)))) || (namesB Γ is ts && (ts.any (cellT Γ) && (decide (vs.length = is.length) && (decide (is.length ≤ 1000) && chkL es Γ vs))))
  | .ext i e, Γ, .Expr (.Call (.Attribute (.Name x _) a ap) [v] [] cp) _ => varB Γ i x && (decide (a = "extend") && (decide (ap.endLine = cp.line) && (nst v && chkE e Γ v)))
  | .ex e, Γ, .Expr v _ => ncmp v && chkE e Γ v
  | .ret e, Γ, .Return (some v) _ => chkE e Γ v
  | .retn, _, .Return none _ => true
  | .ite c a b, Γ, .If t x y _ => chkT c Γ t && (chkSs a Γ x && chkSs b Γ y)
  | .for_ t it b, Γ, .For tg iter body [] _ => nset iter && (chkI it Γ tg iter && (chkG t Γ tg && chkSs b Γ body))
  | .whl c b, Γ, .While t body [] _ => chkT c Γ t && chkSs b Γ body
  | .app i e, Γ, .Expr (.Call (.Attribute (.Name x _) a ap) [v] [] cp) _ => varB Γ i x && (decide (a = "append") && (decide (ap.endLine = cp.line) && (nst v && chkE e Γ v)))
  | _, _, _ => false
def chkSs : S → Gm → List Stmt → Bool
  | .never, _, _ => true
  | .skip, _, [] => true
  | .seq a b, Γ, st :: r => chkS a Γ st && chkSs b Γ r
  | _, _, _ => false
end
end Mp

set_option maxRecDepth 100000
set_option maxHeartbeats 4000000
/-! Mq13: how calls bind plain parameters. -/
namespace Mp
open PySem PySem.Spec PyProof.Rows L2
theorem forIn_slots {f : Str × Value → List (Str × Value) × List (Str × Value) → Sem (ForInStep (List (Str × Value) × List (Str × Value)))} : ∀ (l : List (Str × Value)) (sl : List (Str × Value)),
    (∀ q ∈ l, ∀ sl', (List.lookup q.1 sl').isSome = false → f q (sl', []) = pure (.yield (sl' ++ [q], []))) → (l.map (·.1)).Nodup → (∀ q ∈ l, List.lookup q.1 sl = none) → forIn l (sl, []) f = pure (sl ++ l, [])
  | [], sl, _, _, _ => by rw [List.forIn_nil, List.append_nil]
  | q :: l, sl, h, nd, hs => by
    have nd' : q.1 ∉ l.map (·.1) ∧ (l.map (·.1)).Nodup := List.nodup_cons.mp nd
    rw [List.forIn_cons, h q (List.mem_cons_self) sl (by rw [hs q List.mem_cons_self]; rfl), pure_bind]
    show forIn l (sl ++ [q], []) f = _
    rw [forIn_slots l (sl ++ [q]) (fun r hr => h r (List.mem_cons_of_mem _ hr)) nd'.2 fun r hr => ?_, List.append_assoc] <;> try rfl
    rw [List.lookup_append, hs r (List.mem_cons_of_mem _ hr)]
    show List.lookup r.1 [q] = none
    rw [List.lookup_cons]
    have : (r.1 == q.1) = false := by
      cases e : r.1 == q.1 with
      | false => rfl
      | true => exact absurd (by rw [← eq_of_beq e]; exact List.mem_map_of_mem hr) nd'.1
    rw [this] <;> rfl
theorem filt_zip {slots : List (Str × Value)} : ∀ (l : List Str) (ws : List Value), l.length = ws.length → (∀ p ∈ l.zip ws, slots.lookup p.1 = some p.2) → l.filterMap (fun n => (slots.lookup n).map fun x => (n, x)) = l.zip ws
  | [], _, _, _ => by simp
  | x :: l, [], h, _ => by simp at h
  | x :: l, w :: ws, h, k => by
    have e := k (x, w) (by simp)
    have e2 : List.lookup x slots = some w := e
    rw [List.filterMap_cons, e2]
    show (x, w) :: _ = _
    rw [filt_zip l ws (by simpa using h) fun p hp => k p (List.mem_cons_of_mem _ hp)] <;> rfl
theorem bind_kw {fd : FuncData} {as : List Arg} {us ws : List Value} {kws : List (Str × Value)} (hp : fd.params = ⟨[], as, none, [], [], none, []⟩) (hd : fd.defaults = .none) (hl : us.length ≤ as.length) (hw : (as.map (·.arg)).length = ws.length)
    (H : ∀ p ∈ (as.map (·.arg)).zip ws, ((as.map (·.arg)).zip us ++ kws).lookup p.1 = some p.2) (nd : (kws.map (·.1)).Nodup) (hk : ∀ q ∈ kws, q.1 ∈ as.map (·.arg) ∧ List.lookup q.1 ((as.map (·.arg)).zip us) = none) :
    bindArgs fd ⟨us, kws⟩ = pure ((as.map (·.arg)).zip ws) := by
  unfold bindArgs
  have hs : seqItems? Value.none = pure none := rfl
  simp only [hp, hd, List.map_nil, List.nil_append, List.append_nil, List.forIn_nil, List.forIn'_nil, hs, pure_bind, Option.getD_none, List.toList_toArray, List.isEmpty_nil, List.drop_nil, List.length_nil, List.zip_nil_right, List.forIn_nil, decide_false, Bool.false_and, Bool.not_true, Bool.false_eq_true, if_false, List.length_map]
  rw [forIn_slots kws _ (fun q hq sl' hsl => ?_) nd fun q hq => (hk q hq).2]
  · have hm : (as.map (·.arg)).filter (fun n => (((as.map (·.arg)).zip us ++ kws).lookup n).isNone) = [] := by
      rw [List.filter_eq_nil_iff]
      intro x hx
      obtain ⟨i, hi⟩ := List.mem_iff_getElem?.mp hx
      have hi2 : i < ws.length := by rw [← hw]; exact (List.getElem?_eq_some_iff.mp hi).1
      have hz : (x, ws[i]) ∈ (as.map (·.arg)).zip ws := by
        apply List.mem_iff_getElem?.mpr
        refine ⟨i, ?_⟩
        rw [List.getElem?_zip_eq_some]
        exact ⟨hi, List.getElem?_eq_getElem hi2⟩
      have := H _ hz
      rw [this]
      simp
    have hg : ¬ us.length > as.length := by omega
    have ht : List.take (as.length - 0) (List.map (fun x => x.arg) as) = List.map (fun x => x.arg) as := by
      rw [List.take_of_length_le]; simp
    simp only [pure_bind, hg, decide_false, Bool.false_and, Bool.false_eq_true, if_false, ht, hm, List.isEmpty_nil, Bool.not_true]
    rw [filt_zip _ _ hw H]
  · have h1 : ((as.map (·.arg)).contains q.1 || ([] : List Str).contains q.1) = true := by
      rw [List.contains_iff_mem.mpr (hk q hq).1, Bool.true_or]
    simp only [h1, hsl, if_true, Bool.false_eq_true, if_false]
theorem zip_look {α : Type} : ∀ {ps : List Str} {us : List α} {i : Nat} {x : Str} {u : α}, ps.Nodup → ps[i]? = some x → us[i]? = some u → (ps.zip us).lookup x = some u
  | [], _, _, _, _, _, h, _ => by simp at h
  | p :: ps, [], _, _, _, _, _, h => by simp at h
  | p :: ps, v :: us, 0, x, u, nd, h1, h2 => by
    simp at h1 h2
    subst h1 h2
    simp [List.lookup_cons]
  | p :: ps, v :: us, i + 1, x, u, nd, h1, h2 => by
    have nd' : p ∉ ps ∧ ps.Nodup := List.nodup_cons.mp nd
    have h1' : ps[i]? = some x := by simpa using h1
    have h2' : us[i]? = some u := by simpa using h2
    rw [List.zip_cons_cons, List.lookup_cons]
    have : (x == p) = false := by
      cases e : x == p with
      | false => rfl
      | true => exact absurd (by rw [← eq_of_beq e]; exact List.mem_of_getElem? h1') nd'.1
    rw [this]
    exact zip_look nd'.2 h1' h2'
theorem zip_none {α : Type} : ∀ {ps : List Str} {us : List α} {x : Str}, x ∉ ps.take us.length → (ps.zip us).lookup x = none
  | [], _, _, _ => by simp
  | p :: ps, [], _, _ => by simp
  | p :: ps, v :: us, x, h => by
    have h' : x ≠ p ∧ x ∉ ps.take us.length := by simpa using h
    rw [List.zip_cons_cons, List.lookup_cons]
    have : (x == p) = false := by
      cases e : x == p with
      | false => rfl
      | true => exact absurd (eq_of_beq e) h'.1
    rw [this]
    exact zip_none h'.2
theorem bind_plain {fd : FuncData} {as : List Arg} {us : List Value} (hp : fd.params = ⟨[], as, none, [], [], none, []⟩) (hd : fd.defaults = .none) (nd : (as.map (·.arg)).Nodup) (hl : us.length = as.length) :
    bindArgs fd ⟨us, []⟩ = pure ((as.map (·.arg)).zip us) := by
  refine bind_kw hp hd (by omega) (by simp [hl]) (fun p h => ?_) List.nodup_nil fun q h => by cases h
  obtain ⟨i, hi⟩ := List.mem_iff_getElem?.mp h
  rw [List.getElem?_zip_eq_some] at hi
  rw [List.append_nil]
  exact zip_look nd hi.1 hi.2
theorem zip_keys {α : Type} : ∀ {ks : List Str} {ws : List α}, ks.length = ws.length → (ks.zip ws).map (·.1) = ks
  | [], _, _ => by simp
  | k :: ks, [], h => by simp at h
  | k :: ks, w :: ws, h => by
    show k :: (ks.zip ws).map (·.1) = _
    rw [zip_keys (by simpa using h)]
theorem pick_len {α : Type} : ∀ {p : List Nat} {l : List α}, (∀ i ∈ p, i < l.length) → (pick p l).length = p.length
  | [], _, _ => rfl
  | i :: p, l, h => by
    have hi := h i List.mem_cons_self
    have e : l[i]? = some l[i] := List.getElem?_eq_getElem hi
    unfold pick
    rw [List.filterMap_cons, e]
    show (pick p l).length + 1 = _
    rw [pick_len fun j hj => h j (List.mem_cons_of_mem _ hj)] <;> rfl
theorem pick_get {α : Type} : ∀ {p : List Nat} {l : List α} {j : Nat} {w : α}, (∀ i ∈ p, i < l.length) → (pick p l)[j]? = some w → ∃ i, p[j]? = some i ∧ l[i]? = some w
  | [], _, j, w, _, h => by simp [pick] at h
  | i :: p, l, j, w, h, e => by
    have hi := h i List.mem_cons_self
    have e1 : l[i]? = some l[i] := List.getElem?_eq_getElem hi
    unfold pick at e
    rw [List.filterMap_cons, e1] at e
    cases j with
    | zero =>
      have e' : some l[i] = some w := by simpa using e
      exact ⟨i, rfl, e1.trans e'⟩
    | succ j =>
      have e' : (pick p l)[j]? = some w := by simpa [pick] using e
      obtain ⟨k, h1, h2⟩ := pick_get (fun j hj => h j (List.mem_cons_of_mem _ hj)) e'
      exact ⟨k, by simpa using h1, h2⟩
theorem bind_perm {fd : FuncData} {as : List Arg} {us ws : List Value} {ks : List Str} (hp : fd.params = ⟨[], as, none, [], [], none, []⟩) (hd : fd.defaults = .none) (hk : kwOk (as.map (·.arg)) us.length ks = true) (hl : ws.length = ks.length) :
    bindArgs fd ⟨us, ks.zip ws⟩ = pure ((as.map (·.arg)).zip (pick (permOf (as.map (·.arg)) us.length ks) (us ++ ws))) ∧ (pick (permOf (as.map (·.arg)) us.length ks) (us ++ ws)).length = (as.map (·.arg)).length := by
  obtain ⟨k1, hk⟩ := ba2 hk
  obtain ⟨k2, hk⟩ := ba2 hk
  obtain ⟨k3, hk⟩ := ba2 hk
  obtain ⟨k4, hk⟩ := ba2 hk
  obtain ⟨k5, k6⟩ := ba2 hk
  have nd := of_decide_eq_true k1
  have ndk := of_decide_eq_true k2
  have hlen := of_decide_eq_true k3
  generalize hps : as.map (·.arg) = ps at *
  have hin : ∀ k ∈ ks, k ∈ ps.drop us.length := fun k h => of_decide_eq_true (List.all_eq_true.mp k5 k h)
  have hin2 : ∀ x ∈ ps.drop us.length, x ∈ ks := fun k h => of_decide_eq_true (List.all_eq_true.mp k6 k h)
  have hasl : as.length = ps.length := by rw [← hps]; simp
  have rng : ∀ i ∈ permOf ps us.length ks, i < (us ++ ws).length := fun i hi => by
    rw [List.length_append, hl]
    rcases List.mem_append.mp hi with h | h
    · have := List.mem_range.mp h; omega
    · obtain ⟨x, hx, e⟩ := List.mem_map.mp h
      have e : us.length + ks.idxOf x = i := e
      have := List.idxOf_lt_length_of_mem (hin2 x hx)
      omega
  have hpl : (pick (permOf ps us.length ks) (us ++ ws)).length = ps.length := by
    rw [pick_len rng]
    unfold permOf
    rw [List.length_append, List.length_range, List.length_map, List.length_drop]
    omega
  have hnt : ∀ k ∈ ps.drop us.length, k ∉ ps.take us.length := fun k h1 h2 => by
    have : (ps.take us.length ++ ps.drop us.length).Nodup := by rw [List.take_append_drop]; exact nd
    exact (List.nodup_append.mp this).2.2 k h2 k h1 rfl
  refine ⟨?_, hpl⟩
  rw [← hps]
  refine bind_kw hp hd (by omega) (by rw [hps, hpl]) ?_ (by rw [zip_keys (by omega)]; exact ndk) fun q hq => ?_
  · intro p hp
    rw [hps] at hp ⊢
    obtain ⟨x, w⟩ := p
    obtain ⟨i, hi⟩ := List.mem_iff_getElem?.mp hp
    rw [List.getElem?_zip_eq_some] at hi
    obtain ⟨hi1, hi2⟩ := hi
    have hi1 : ps[i]? = some x := hi1
    have hi2 : (pick (permOf ps us.length ks) (us ++ ws))[i]? = some w := hi2
    obtain ⟨j, h1, h2⟩ := pick_get rng hi2
    rw [List.lookup_append]
    unfold permOf at h1
    by_cases hn : i < us.length
    · rw [List.getElem?_append_left (by simpa using hn)] at h1
      rw [List.getElem?_range hn] at h1
      cases h1
      rw [List.getElem?_append_left hn] at h2
      rw [zip_look nd hi1 h2] <;> rfl
    · rw [List.getElem?_append_right (by simpa using hn), List.length_range, List.getElem?_map, List.getElem?_drop] at h1
      have e0 : us.length + (i - us.length) = i := by omega
      rw [e0, hi1] at h1
      cases h1
      have hx : x ∈ ps.drop us.length := by
        apply List.mem_iff_getElem?.mpr
        exact ⟨i - us.length, by rw [List.getElem?_drop, e0]; exact hi1⟩
      rw [zip_none (hnt x hx)]
      show (ks.zip ws).lookup x = some w
      have hxk := List.idxOf_lt_length_of_mem (hin2 x hx)
      have h2 : (us ++ ws)[us.length + ks.idxOf x]? = some w := h2
      rw [List.getElem?_append_right (by omega)] at h2
      have e1 : us.length + ks.idxOf x - us.length = ks.idxOf x := by omega
      rw [e1] at h2
      exact zip_look ndk (by rw [List.getElem?_eq_getElem hxk, List.getElem_idxOf]) h2
  · have hq' : q.1 ∈ ks := by
      have : q.1 ∈ (ks.zip ws).map (·.1) := List.mem_map_of_mem hq
      rwa [zip_keys (by omega)] at this
    rw [hps]
    exact ⟨List.mem_of_mem_drop (hin _ hq'), zip_none (hnt _ (hin _ hq'))⟩
theorem Vals.pick {vs : List V} {us : List Value} (h : Vals vs us) : ∀ p : List Nat, Vals (Mp.pick p vs) (Mp.pick p us)
  | [] => .nil
  | i :: p => by
    unfold Mp.pick
    rw [List.filterMap_cons, List.filterMap_cons]
    cases e : vs[i]? with
    | none =>
      have : us[i]? = none := by
        rw [List.getElem?_eq_none_iff] at e ⊢
        rw [← h.length]; exact e
      rw [this]
      exact Vals.pick h p
    | some v =>
      obtain ⟨u, e2, r⟩ := h.get e
      rw [e2]
      exact .cons r (Vals.pick h p)
/-- the values of a call with keywords, in the parameters' order -/
def gK {α : Type} (ps : List Str) (n : Nat) (ks : List Str) (us ws : List α) : List α := if us.length = n ∧ ws.length = ks.length then pick (permOf ps n ks) (us ++ ws) else []
theorem kbinds_of {K : PySem.W.Frag} {fd : FuncData} {as : List Arg} {ps ks : List Str} {n : Nat} (hp : fd.params = ⟨[], as, none, [], [], none, []⟩) (hd : fd.defaults = .none) (ha : as.map (·.arg) = ps) (hk : kwOk ps n ks = true) : KBinds K fd ps ks (gK ps n ks) (gK ps n ks) := by
  refine ⟨fun s us ws _ hl => ?_, fun {vs us zs ws} r r2 => ?_⟩
  · unfold gK at hl ⊢
    by_cases c : us.length = n ∧ ws.length = ks.length
    · rw [if_pos c]
      subst ha
      obtain ⟨c1, c2⟩ := c
      subst c1
      exact BindsTo.of_eq (bind_perm hp hd hk c2).1
    · rw [if_neg c] at hl
      exfalso
      obtain ⟨_, hk⟩ := ba2 hk
      obtain ⟨_, hk⟩ := ba2 hk
      obtain ⟨k3, hk⟩ := ba2 hk
      obtain ⟨k4, hk⟩ := ba2 hk
      have := of_decide_eq_true k3
      have := of_decide_eq_true k4
      have hl : (0 : Nat) = ps.length := hl
      omega
  · unfold gK
    rw [r.length, r2.length]
    split
    · exact Vals.pick (r.append r2) _
    · exact .nil
theorem permOf_succ (ps : List Str) (n : Nat) (ks : List Str) : permOf ps (n + 1) ks = 0 :: (permOf (ps.drop 1) n ks).map (· + 1) := by
  unfold permOf
  rw [List.range_succ_eq_map, List.map_append, List.drop_drop, List.map_map, Nat.add_comm 1 n]
  show 0 :: (_ ++ _) = _
  congr 2
  refine List.map_congr_left fun x _ => ?_
  show n + 1 + ks.idxOf x = n + ks.idxOf x + 1
  omega
theorem pick_succ {α : Type} (q : List Nat) (x : α) (l : List α) : pick (0 :: q.map (· + 1)) (x :: l) = x :: pick q l := by
  unfold pick
  rw [List.filterMap_cons]
  show x :: _ = _
  rw [List.filterMap_map]
  congr 1
theorem kbn_of {K : PySem.W.Frag} {fd : FuncData} {as : List Arg} {ps ks : List Str} {n : Nat} (hp : fd.params = ⟨[], as, none, [], [], none, []⟩) (hd : fd.defaults = .none) (ha : as.map (·.arg) = ps) (hk : kwOk ps n ks = true) : KBn K fd ps n ks (gK ps n ks) (gK ps n ks) := by
  refine ⟨fun s us ws _ l1 l2 => ?_, (kbinds_of (K := K) hp hd ha hk).rel⟩
  unfold gK
  rw [if_pos ⟨l1, l2⟩]
  subst ha
  subst l1
  exact BindsTo.of_eq (bind_perm hp hd hk l2).1
theorem gK_succ {α : Type} {ps ks : List Str} {n : Nat} {x : α} {vs zs : List α} (l1 : vs.length = n) (l2 : zs.length = ks.length) : gK ps (n + 1) ks (x :: vs) zs = x :: pick (permOf (ps.drop 1) n ks) (vs ++ zs) := by
  unfold gK
  rw [if_pos ⟨by rw [List.length_cons, l1], l2⟩, permOf_succ, List.cons_append, pick_succ]
theorem binds_of {K : PySem.W.Frag} {fd : FuncData} {as : List Arg} {ps : List Str} (hp : fd.params = ⟨[], as, none, [], [], none, []⟩) (hd : fd.defaults = .none) (ha : as.map (·.arg) = ps) (nd : ps.Nodup) : Binds K fd ps [] := by
  refine Binds.all fun us hl => ?_
  subst ha
  exact bind_plain hp hd nd (by simpa using hl)
/-- f(k = v, ..) -/
theorem pe_callK0 {X : Cx} {CX : CXT} {k : Nat} {f : Addr} {fd : FuncData} {ps ks : List Str} {sp : L2.Sp} {E : XK} {x : Str} {p pos : Pos} {kws : List Keyword} {tk : TA} {g : List Value → List Value → List Value} {gV : List V → List V → List V}
    (F : FnOk X.prog X.w X.K X.mg X.base CX k f fd ps sp) (hr : Room k X.A) (hg : Gl X x) (hm : X.mg x = some (.ref f)) (hk : PySem.W.keepIn X.K (.ref f) = true) (hb : KBinds X.K fd ps ks g gV) (hx : Passes CX X E)
    (hkw : PK X kws tk) (hall : (backToKw pos (keywordEach kws X.env)).all (·.1.isSome) = true) (hks : (backToKw pos (keywordEach kws X.env)).filterMap (·.1) = ks)
    (hdb : (x == ("__debug__" : Str)) = false) (hpl : ((backTo pos (starEach [] X.env)).any (·.1) || (backToKw pos (keywordEach kws X.env)).any (·.1.isNone)) = false) :
    PE X (.Call (.Name x p) [] kws pos) (tCallK sp gV E tNil tk) := by
  refine ⟨fun pins s σ H Q I h => ?_⟩
  refine wpAny_Call_Name_kw (ld_glob I hg hm ?_ hdb)
  refine PySem.W.callWith_KW0 (h₀ := X.base) I.ok.mod.kin hk hall ?_ hpl
  refine thn (hkw.run pos pins s σ H _ I h) fun ws s2 ⟨zs, H2, I2, rz, q2⟩ => ⟨I2.kIn, ?_⟩
  rw [hks]
  exact run_fnk F hr hb hx I2 .nil rz q2
theorem kw_all {pos : Pos} {env : PySem.Env} : ∀ {kws : List Keyword} {ks : List Str}, kws.mapM (·.arg) = some ks → (backToKw pos (keywordEach kws env)).all (·.1.isSome) = true ∧ (backToKw pos (keywordEach kws env)).filterMap (·.1) = ks ∧ (backToKw pos (keywordEach kws env)).any (·.1.isNone) = false
  | [], ks, h => by cases h; exact ⟨rfl, rfl, rfl⟩
  | ⟨a, e, p⟩ :: kws, ks, h => by
    rw [List.mapM_cons] at h
    cases a with
    | none => cases h
    | some a =>
      cases h2 : kws.mapM (·.arg) with
      | none => rw [h2] at h; cases h
      | some ks' =>
        rw [h2] at h
        cases h
        obtain ⟨h3, h4, h5⟩ := kw_all (pos := pos) (env := env) h2
        refine ⟨?_, ?_, ?_⟩
        · show (true && (backToKw pos (keywordEach kws env)).all (·.1.isSome)) = true
          rw [h3] <;> rfl
        · show a :: (backToKw pos (keywordEach kws env)).filterMap (·.1) = _
          rw [h4] <;> rfl
        · show (false || (backToKw pos (keywordEach kws env)).any (·.1.isNone)) = false
          rw [h5] <;> rfl
end Mp

set_option maxRecDepth 100000
set_option maxHeartbeats 4000000
/-! Mp14: what the check says of expressions. -/
namespace Mp
open PySem PySem.Spec PyProof.Rows L2

/-- a def, callable here -/
def FnR (G : GD) (cl : Nat → List Bool → List D → CRes) (ar : Nat → Nat) (k : Nat) (pss : List (List Str)) (X : Cx) (f : Nat) : Prop := ∃ fd ps as, FnOk X.prog X.w X.K X.mg X.base (fun _ _ _ _ _ _ => False) k (G.fa f) fd ps (spOf G (cl f) (ar f)) ∧ PySem.W.keepIn X.K (.ref (G.fa f)) = true ∧
  fd.params = ⟨[], as, none, [], [], none, []⟩ ∧ fd.defaults = .none ∧ as.map (·.arg) = ps ∧ ps.Nodup ∧ pss[f]? = some ps
structure CxOk (G : GD) (cl : Nat → List Bool → List D → CRes) (ar : Nat → Nat) (vf : Nat → Prop) (gv : Str → V) (lv : Nat) (Γ : Gm) (X : Cx) : Prop where
  N : X.N = Γ.N
  nd : X.N.Nodup
  sc : X.env.scope = Γ.sc
  kind : Γ.sc.kind = .function
  K : X.K = G.K
  calm : X.calm = true
  fn : Γ.top = true → ∀ x, X.fn x = true
  fnb : ∀ x, Γ.sto.names.lookup x = some .cell → X.fn x = true
  xe : X.xe = fun _ _ => False
  un : X.A.units + 65 < cLine
  glo : ∀ x d, Γ.vals.lookup x = some d → ∃ u, X.mg x = some u ∧ RelV (gv x) u
  vfn : ∀ x f, Γ.vals.lookup x = some (.fn f) → vf f ∧ X.mg x = some (.ref (G.fa f))
  fns : ∀ f, vf f → FnR G cl ar lv Γ.pss X f
  room : Room (lv + 1) X.A
  vcl : ∀ x c, Γ.vals.lookup x = some (.cls c) → X.mg x = some (.ref (G.ca c))
  mkf : ∀ c fl f, Γ.cls[c]? = some (fl, f) → vf f ∧ Mk X.K (G.ca c) (G.fa f)
  eqf : ∀ c f, (c, f) ∈ Γ.eqs → vf f ∧ EqK X.K (G.ca c) (G.fa f)
  free : ∀ x, Γ.free.contains x = true → X.mg x = none
section
variable {G : GD} {cl : Nat → List Bool → List D → CRes} {ar : Nat → Nat} {vf : Nat → Prop} {gv : Str → V} {lv : Nat} {Γ : Gm} {X : Cx}
theorem CxOk.gl (C : CxOk G cl ar vf gv lv Γ X) {x : Str} (h : gloB Γ.sc x = true) : Gl X x := by
  show X.env.scope.names.lookup x = some .globalImplicit
  rw [C.sc]
  unfold gloB at h
  split at h
  · assumption
  · cases h
theorem okN {x : Str} (h : okName x = true) : (x == ("__debug__" : Str)) = false ∧ (x == ("__classdict__" : Str)) = false ∧ x ≠ "__name__" := by
  unfold okName at h
  simp only [Bool.and_eq_true, Bool.not_eq_true'] at h
  obtain ⟨⟨h1, h2⟩, h3⟩ := h
  refine ⟨h1, h2, fun e => ?_⟩
  rw [e] at h3
  exact absurd h3 (by decide)
theorem CxOk.var (C : CxOk G cl ar vf gv lv Γ X) {i : Nat} {x : Str} {p : Pos} (h : varB Γ i x = true) : X.N[i]? = some x ∧ Vis X.env.scope x ∧ (x == ("__debug__" : Str)) = false ∧ (x == ("__classdict__" : Str)) = false ∧ PE X (.Name x p) (tVar i) := by
  obtain ⟨h1, h2⟩ := ba2 h
  obtain ⟨h2, h3⟩ := ba2 h2
  have e1 : X.N[i]? = some x := by rw [C.N]; exact of_decide_eq_true h1
  have e2 : Vis X.env.scope x := by
    unfold Vis
    rw [C.sc]
    unfold visB at h2
    split at h2
    · exact .inl (by assumption)
    · exact .inr (.inl (by assumption))
    · exact .inr (.inr (by assumption))
    · cases h2
  obtain ⟨k1, k2, _⟩ := okN h3
  exact ⟨e1, e2, k1, k2, pe_var e1 e2 k1 k2⟩
theorem CxOk.stv (C : CxOk G cl ar vf gv lv Γ X) {i : Nat} {x : Str} {p : Pos} (h : stvB Γ i x = true) : PG X (.Name x p) (gName i) := by
  obtain ⟨h1, h2⟩ := ba2 h
  obtain ⟨h2, h3⟩ := ba2 h2
  have e1 : X.N[i]? = some x := by rw [C.N]; exact of_decide_eq_true h1
  rcases Bool.or_eq_true_iff.mp h3 with h3 | h3
  · have l : X.env.scope.names.lookup x = some .local := by
      rw [C.sc]
      unfold lclB at h3
      split at h3
      · assumption
      · cases h3
    exact pg_name C.nd e1 (.inl l) (.inr l)
  · obtain ⟨h3, h4⟩ := ba2 h3
    have l : L2.Loc X.env.scope x := by
      unfold L2.Loc
      rw [C.sc]
      unfold locB at h3
      split at h3
      · exact .inl (by assumption)
      · exact .inr (by assumption)
      · cases h3
    refine pg_name C.nd e1 l (.inl ?_)
    rcases Bool.or_eq_true_iff.mp h4 with h4 | h4
    · exact C.fn h4 x
    · refine C.fnb x ?_
      unfold cellB at h4
      split at h4
      · assumption
      · cases h4
theorem CxOk.fr (C : CxOk G cl ar vf gv lv Γ X) {x : Str} (h : freeB Γ x = true) : Gl X x ∧ X.mg x = none ∧ x ≠ "__name__" ∧ (x == ("__debug__" : Str)) = false := by
  obtain ⟨h1, h2⟩ := ba2 h
  obtain ⟨h2, h3⟩ := ba2 h2
  obtain ⟨k1, _, k2⟩ := okN h3
  exact ⟨C.gl h1, C.free x h2, k2, k1⟩
theorem CxOk.val (C : CxOk G cl ar vf gv lv Γ X) {x : Str} {d : D} (h : valB Γ x d = true) : Gl X x ∧ Γ.vals.lookup x = some d ∧ (x == ("__debug__" : Str)) = false := by
  obtain ⟨h1, h2⟩ := ba2 h
  obtain ⟨h1, h3⟩ := ba2 h1
  obtain ⟨k1, _, _⟩ := okN h3
  refine ⟨C.gl h1, ?_, k1⟩
  split at h2
  · rename_i d' e
    rw [e, D.eqb_ok h2]
  · cases h2
theorem relS_eq {scope : Scope} {env : PySem.Env} {sc : Scope} (h : env.scope = sc) : relabel scope env = relS scope sc := by
  unfold relabel relS Env.kindOf
  rw [h]
theorem CxOk.blk (C : CxOk G cl ar vf gv lv Γ X) {own : List (Str × Nat)} {s : Shared} {H : Hp} {scope : Scope} {c : Addr} {cs : List (Str × Addr)} {fp : List Addr} (b : blkC Γ.N Γ.sc scope own = true) : CxOk G cl ar vf gv lv (inScope Γ scope) (X.blk s H scope (compEnvC scope cs c X.env) fp) where
  N := C.N
  nd := C.nd
  sc := relS_eq C.sc
  kind := (blkOk_by b).kind
  K := C.K
  calm := C.calm
  fn := fun h => by cases h
  fnb := fun x e => by
    show (scope.names.lookup x == some .cell) = true
    have e' : scope.names.lookup x = some .cell := e
    rw [e'] <;> rfl
  xe := rfl
  un := C.un
  glo := C.glo
  vfn := C.vfn
  fns := C.fns
  room := C.room
  vcl := C.vcl
  mkf := C.mkf
  eqf := C.eqf
  free := C.free
theorem star1 {e : Expr} {es : List Expr} {env : PySem.Env} (h : nst e = true) : starEach (e :: es) env = (false, eval e env) :: starEach es env := by
  cases e <;> first | rfl | cases h
theorem starA {env : PySem.Env} {pos : Pos} : ∀ {es : List Expr}, es.all nst = true → (backTo pos (starEach es env)).any (·.1) = false
  | [], _ => rfl
  | e :: es, h => by
    obtain ⟨h1, h2⟩ := ba2 (show (nst e && es.all nst) = true from h)
    rw [star1 h1]
    show (false || (backTo pos (starEach es env)).any (·.1)) = false
    rw [starA h2] <;> rfl
theorem plainIx {y : Expr} (h : nsl y = true) : PlainIx y := fun _ _ => by
  cases y <;> first | rfl | cases h
theorem chkL_n : ∀ (es : E) (Γ : Gm) (l : List Expr), chkL es Γ l = true → l.all nst = true
  | es, Γ, [], _ => rfl
  | es, Γ, e :: l, h => by
    cases es with
    | cons a r =>
      obtain ⟨h1, h2⟩ := ba2 (show (nst e && (chkE a Γ e && chkL r Γ l)) = true by simpa only [chkL] using h)
      obtain ⟨_, h3⟩ := ba2 h2
      show (nst e && l.all nst) = true
      rw [h1, chkL_n r Γ l h3] <;> rfl
    | _ => simp [chkL] at h
theorem chkA_n : ∀ (es : E) (Γ : Gm) (l : List Expr), chkA es Γ l = true → l.all nst = true
  | es, Γ, [], _ => rfl
  | es, Γ, e :: l, h => by
    cases es with
    | cons a r =>
      obtain ⟨h1, h2⟩ := ba2 (show (nst e && (chkE a Γ e && chkA r Γ l)) = true by simpa only [chkA] using h)
      obtain ⟨_, h3⟩ := ba2 h2
      show (nst e && l.all nst) = true
      rw [h1, chkA_n r Γ l h3] <;> rfl
    | ioa i r =>
      cases e with
      | Name x p =>
        obtain ⟨h1, h2⟩ := ba2 (show (varB Γ i x && chkA r Γ l) = true by simpa only [chkA] using h)
        show (true && l.all nst) = true
        rw [chkA_n r Γ l h2] <;> rfl
      | _ => simp [chkA] at h
    | _ => simp [chkA] at h
/-- the built-ins -/
theorem blt_pe (G : GD) (b : Blt) (hk : bltKnown b = true) : ∃ r, bltOk G b r ∧ ∀ (cl : Nat → List Bool → List D → CRes) (ar : Nat → Nat) (vf : Nat → Prop) (gv : Str → V) (lv : Nat) (Γ : Gm) (X : Cx) (p pos : Pos) (e : Expr) (es : List Expr) (t : TA), CxOk G cl ar vf gv lv Γ X → freeB Γ (bltName b) = true → (e :: es).all nst = true → PA X (e :: es) t →
    PE X (.Call (.Name (bltName b) p) (e :: es) [] pos) (tCB r t) := by
  have kB : ∀ (id : String) (r : List V → Hp → VK → Prop), (∀ X : Cx, X.K = G.K → X.calm = true → CallR X (.builtin id) r) → bootBuiltins (bltName b) = some (.builtin id) → ∀ (cl : Nat → List Bool → List D → CRes) (ar : Nat → Nat) (vf : Nat → Prop) (gv : Str → V) (lv : Nat) (Γ : Gm) (X : Cx) (p pos : Pos) (e : Expr) (es : List Expr) (t : TA), CxOk G cl ar vf gv lv Γ X → freeB Γ (bltName b) = true → (e :: es).all nst = true → PA X (e :: es) t →
    PE X (.Call (.Name (bltName b) p) (e :: es) [] pos) (tCB r t) := fun id r hr hb cl ar vf gv lv Γ X p pos e es t C f n ha => by
    obtain ⟨h1, h2, h3, h4⟩ := C.fr f
    obtain ⟨n1, n2⟩ := ba2 (show (nst e && es.all nst) = true from n)
    exact pe_callB (hr X C.K C.calm) h1 h2 hb ha h3 h4 (star1 n1) (starA n2)
  have kT : ∀ (id : String) (r : List V → Hp → VK → Prop), (∀ X : Cx, X.K = G.K → X.calm = true → CallR X (.type id) r) → bootBuiltins (bltName b) = some (.type id) → ∀ (cl : Nat → List Bool → List D → CRes) (ar : Nat → Nat) (vf : Nat → Prop) (gv : Str → V) (lv : Nat) (Γ : Gm) (X : Cx) (p pos : Pos) (e : Expr) (es : List Expr) (t : TA), CxOk G cl ar vf gv lv Γ X → freeB Γ (bltName b) = true → (e :: es).all nst = true → PA X (e :: es) t →
    PE X (.Call (.Name (bltName b) p) (e :: es) [] pos) (tCB r t) := fun id r hr hb cl ar vf gv lv Γ X p pos e es t C f n ha => by
    obtain ⟨h1, h2, h3, h4⟩ := C.fr f
    obtain ⟨n1, n2⟩ := ba2 (show (nst e && es.all nst) = true from n)
    exact pe_callTy (hr X C.K C.calm) h1 h2 hb ha h3 h4 (star1 n1) (starA n2)
  cases b with
  | len => obtain ⟨r, h1, h2⟩ := blt_len G; exact ⟨r, h2, kB _ r h1 boot_len⟩
  | tuple => obtain ⟨r, h1, h2⟩ := blt_tuple G; exact ⟨r, h2, kT _ r h1 boot_tuple⟩
  | list => obtain ⟨r, h1, h2⟩ := blt_list G; exact ⟨r, h2, kT _ r h1 boot_list⟩
  | min =>
    obtain ⟨r, h1, h2⟩ := blt_min G
    refine ⟨r, h2, fun cl ar vf gv lv Γ X p pos e es t C f n ha => ?_⟩
    obtain ⟨k1, k2, k3, k4⟩ := C.fr f
    obtain ⟨n1, n2⟩ := ba2 (show (nst e && es.all nst) = true from n)
    exact pe_callB (h1 X C.K C.calm C.un) k1 k2 boot_min ha k3 k4 (star1 n1) (starA n2)
  | max =>
    obtain ⟨r, h1, h2⟩ := blt_max G
    refine ⟨r, h2, fun cl ar vf gv lv Γ X p pos e es t C f n ha => ?_⟩
    obtain ⟨k1, k2, k3, k4⟩ := C.fr f
    obtain ⟨n1, n2⟩ := ba2 (show (nst e && es.all nst) = true from n)
    exact pe_callB (h1 X C.K C.calm C.un) k1 k2 boot_max ha k3 k4 (star1 n1) (starA n2)
  | dict =>
    obtain ⟨r, h1, h2⟩ := blt_dict G
    refine ⟨r, h2, fun cl ar vf gv lv Γ X p pos e es t C f n ha => ?_⟩
    obtain ⟨k1, k2, k3, k4⟩ := C.fr f
    obtain ⟨n1, n2⟩ := ba2 (show (nst e && es.all nst) = true from n)
    exact pe_callTy (h1 X C.K C.calm C.un) k1 k2 boot_dict ha k3 k4 (star1 n1) (starA n2)
  | int => obtain ⟨r, h1, h2⟩ := blt_int G; exact ⟨r, h2, kT _ r h1 boot_int⟩
  | abs => obtain ⟨r, h1, h2⟩ := blt_abs G; exact ⟨r, h2, kB _ r h1 boot_abs⟩
  | divmod => obtain ⟨r, h1, h2⟩ := blt_divmod G; exact ⟨r, h2, kB _ r h1 boot_divmod⟩
  | sum => obtain ⟨r, h1, h2⟩ := blt_sum G; exact ⟨r, h2, kB _ r h1 boot_sum⟩
  | all => obtain ⟨r, h1, h2⟩ := blt_all G; exact ⟨r, h2, kB _ r h1 boot_all⟩
  | any => obtain ⟨r, h1, h2⟩ := blt_any G; exact ⟨r, h2, kB _ r h1 boot_any⟩
  | sorted =>
    obtain ⟨r, h1, h2⟩ := blt_sorted G
    refine ⟨r, h2, fun cl ar vf gv lv Γ X p pos e es t C f n ha => ?_⟩
    obtain ⟨k1, k2, k3, k4⟩ := C.fr f
    obtain ⟨n1, n2⟩ := ba2 (show (nst e && es.all nst) = true from n)
    exact pe_callB (h1 X C.K C.un) k1 k2 boot_sorted ha k3 k4 (star1 n1) (starA n2)
  | isinst t => cases hk
end
end Mp

set_option maxRecDepth 100000
set_option maxHeartbeats 4000000
/-! Mp15: what the check says of expressions, put together. -/
namespace Mp
open PySem PySem.Spec PyProof.Rows L2
section
variable (G : GD) (cl : Nat → List Bool → List D → CRes) (ar : Nat → Nat) (vf : Nat → Prop) (hn : ∀ f fl ds x, cl f fl ds = some x → ds.length = ar f)
/-- the address's promise -/
noncomputable def spAt (a : Addr) : Option L2.Sp := open Classical in if h : ∃ f, vf f ∧ G.fa f = a then some (spOf G (cl h.choose) (ar h.choose)) else none
theorem st_trB {ea : Env → R (D × Kd)} {ta : TE} (ha : SE G ea ta) (hb : ∀ ρ d k ρ', ea ρ = .ok (d, k) ρ' → ∃ b, d = .bl b) : STt G (fun ρ => (ea ρ).bind fun x ρ => R.of (truthD x.1) ρ) (tTest ta) := by
  intro X F ρ σ H Q d ρ' S h q
  obtain ⟨⟨d1, k1⟩, ρ1, h1, h⟩ := bind_ok h
  obtain ⟨h2, rfl⟩ := of_ok h
  refine ha X F ρ σ H _ _ k1 ρ' S h1 fun v1 H1 F1 p1 r1 => ?_
  obtain ⟨b, rfl⟩ := hb _ _ _ _ h1
  cases h2
  exact ⟨d, r1.bl p1.sr, q H1 (p1.drop (fun _ h => h) (sub_of p1))⟩
theorem st_yes : STt G (fun ρ => .ok true ρ) tYes := by
  intro X F ρ σ H Q d ρ' S h q
  cases h
  exact q H (Po.refl S)
theorem se_notT {ea : Env → R (D × Kd)} {ta : TE} (ha : SE G ea ta) : SE G (fun ρ => ((ea ρ).bind fun x ρ => R.of (truthD x.1) ρ).bind fun b ρ => .ok (.bl (!b), .frz) ρ) (tNotT G.K ta) := by
  intro X F ρ σ H Q d k ρ' S h q
  obtain ⟨b, ρ1, h1, h⟩ := bind_ok h
  cases h
  exact st_tr ha X F ρ σ H (fun b H1 => Q (.bl (!b)) H1) b ρ' S h1 fun H1 p1 => q _ H1 F p1 (.frz rfl (.bl _))
theorem cmp_bl {a b : E} {o : Cop} : ∀ ρ d k ρ', evE cl (.cmp o a b) ρ = .ok (d, k) ρ' → ∃ b, d = .bl b := by
  intro ρ d k ρ' h
  obtain ⟨x, ρ1, h1, h⟩ := bind_ok (show ((evE cl a ρ).bind fun x ρ => (evE cl b ρ).bind fun y ρ => (R.of (cmpD o (cur ρ x.1 x.2) y.1) ρ).bind fun z ρ => .ok (.bl z, .frz) ρ) = .ok (d, k) ρ' from h)
  obtain ⟨y, ρ2, h2, h⟩ := bind_ok h
  obtain ⟨z, h3, h⟩ := ofb_ok h
  cases h
  exact ⟨_, rfl⟩
theorem oeq_bl {ng : Bool} {c f : Nat} {a b : E} : ∀ ρ d k ρ', evE cl (.oeq ng c f a b) ρ = .ok (d, k) ρ' → ∃ b, d = .bl b := by
  intro ρ d k ρ' h
  obtain ⟨x, ρ1, h1, h⟩ := bind_ok (show ((evE cl a ρ).bind fun x ρ => (settle ρ x.1 x.2).bind fun d ρ => (evE cl b ρ).bind fun y ρ => (settle ρ y.1 y.2).bind fun e ρ => if insB c d = true ∧ othB c e = true then (doCall cl f [.v d, .v e] ρ).bind fun z ρ => blR ng z ρ else .no) = .ok (d, k) ρ' from h)
  obtain ⟨d2, ρ2, h2, h⟩ := bind_ok h
  obtain ⟨y, ρ3, h3, h⟩ := bind_ok h
  obtain ⟨e2, ρ4, h4, h⟩ := bind_ok h
  split at h
  · obtain ⟨⟨z, kz⟩, ρ5, h5, h⟩ := bind_ok h
    cases z with
    | bl b => cases kz with
      | frz => cases h; exact ⟨_, rfl⟩
      | _ => cases h
    | _ => cases h
  · cases h
theorem cmp2_bl {a b c : E} {o p : Cop} : ∀ ρ d k ρ', evE cl (.cmp2 o p a b c) ρ = .ok (d, k) ρ' → ∃ b, d = .bl b := by
  intro ρ d k ρ' h
  obtain ⟨x, ρ1, h1, h⟩ := bind_ok (show ((evE cl a ρ).bind fun x ρ => (evE cl b ρ).bind fun y ρ => (R.of (cmpD o (cur ρ x.1 x.2) y.1) ρ).bind fun z ρ =>
      if z = true then (evE cl c ρ).bind fun w ρ => (R.of (cmpD p (cur ρ y.1 y.2) w.1) ρ).bind fun z ρ => .ok (.bl z, .frz) ρ else .ok (.bl false, .frz) ρ) = .ok (d, k) ρ' from h)
  obtain ⟨y, ρ2, h2, h⟩ := bind_ok h
  obtain ⟨z, h3, h⟩ := ofb_ok h
  cases z with
  | true =>
    obtain ⟨w, ρ3, h4, h⟩ := bind_ok h
    obtain ⟨z, h5, h⟩ := ofb_ok h
    cases h
    exact ⟨_, rfl⟩
  | false => cases h; exact ⟨_, rfl⟩
theorem plain_isTrue {e : Expr} {env : PySem.Env} (h : plainT e = true) : ∀ whole, isTrue e env whole = (do let v ← whole; standAt e.pos; holding [v] (truthy v)) := by
  intro w
  cases e with
  | UnaryOp op x p => cases op <;> first | rfl | cases h
  | BoolOp => cases h
  | IfExp => cases h
  | Compare => cases h
  | _ => rfl
theorem nset_fold {e : Expr} {env : PySem.Env} (h : nset e = true) : ∀ x, foldedSetIterable e env x = pure x := by
  intro x
  cases e <;> first | rfl | cases h
theorem evGs_len : ∀ (ts : E), ∃ n, ∀ ds ρ ρ', evGs cl ts ds ρ = .ok () ρ' → ds.length = n
  | .nil => ⟨0, fun ds ρ ρ' h => by cases ds with
    | nil => rfl
    | cons d ds => cases h⟩
  | .cons t r => by
    obtain ⟨n, hn⟩ := evGs_len r
    refine ⟨n + 1, fun ds ρ ρ' h => ?_⟩
    cases ds with
    | nil => cases h
    | cons d ds =>
      obtain ⟨u, ρ1, h1, h⟩ := bind_ok (show ((evG cl t d .frz ρ).bind fun _ ρ => evGs cl r ds ρ) = .ok () ρ' from h)
      rw [List.length_cons, hn ds ρ1 ρ' h]
  | .var _ => ⟨0, fun ds ρ ρ' h => by cases ds <;> cases h⟩
  | .con _ => ⟨0, fun ds ρ ρ' h => by cases ds <;> cases h⟩
  | .glo _ _ => ⟨0, fun ds ρ ρ' h => by cases ds <;> cases h⟩
  | .ioa _ _ => ⟨0, fun ds ρ ρ' h => by cases ds <;> cases h⟩
  | .tup _ => ⟨0, fun ds ρ ρ' h => by cases ds <;> cases h⟩
  | .lst _ => ⟨0, fun ds ρ ρ' h => by cases ds <;> cases h⟩
  | .neg _ => ⟨0, fun ds ρ ρ' h => by cases ds <;> cases h⟩
  | .bin _ _ _ => ⟨0, fun ds ρ ρ' h => by cases ds <;> cases h⟩
  | .cmp _ _ _ => ⟨0, fun ds ρ ρ' h => by cases ds <;> cases h⟩
  | .cmp2 _ _ _ _ _ => ⟨0, fun ds ρ ρ' h => by cases ds <;> cases h⟩
  | .not _ => ⟨0, fun ds ρ ρ' h => by cases ds <;> cases h⟩
  | .and _ _ => ⟨0, fun ds ρ ρ' h => by cases ds <;> cases h⟩
  | .or _ _ => ⟨0, fun ds ρ ρ' h => by cases ds <;> cases h⟩
  | .ife _ _ _ => ⟨0, fun ds ρ ρ' h => by cases ds <;> cases h⟩
  | .idx _ _ => ⟨0, fun ds ρ ρ' h => by cases ds <;> cases h⟩
  | .sl _ _ _ => ⟨0, fun ds ρ ρ' h => by cases ds <;> cases h⟩
  | .call _ _ => ⟨0, fun ds ρ ρ' h => by cases ds <;> cases h⟩
  | .callk _ _ _ _ => ⟨0, fun ds ρ ρ' h => by cases ds <;> cases h⟩
  | .fld _ _ => ⟨0, fun ds ρ ρ' h => by cases ds <;> cases h⟩
  | .mk _ _ _ _ => ⟨0, fun ds ρ ρ' h => by cases ds <;> cases h⟩
  | .isinc _ _ _ => ⟨0, fun ds ρ ρ' h => by cases ds <;> cases h⟩
  | .calf _ _ _ => ⟨0, fun ds ρ ρ' h => by cases ds <;> cases h⟩
  | .calv _ _ => ⟨0, fun ds ρ ρ' h => by cases ds <;> cases h⟩
  | .vop _ _ _ _ => ⟨0, fun ds ρ ρ' h => by cases ds <;> cases h⟩
  | .uop _ _ => ⟨0, fun ds ρ ρ' h => by cases ds <;> cases h⟩
  | .bm _ _ _ => ⟨0, fun ds ρ ρ' h => by cases ds <;> cases h⟩
  | .mkk _ _ _ _ _ _ => ⟨0, fun ds ρ ρ' h => by cases ds <;> cases h⟩
  | .oeq _ _ _ _ _ => ⟨0, fun ds ρ ρ' h => by cases ds <;> cases h⟩
  | .blt _ _ => ⟨0, fun ds ρ ρ' h => by cases ds <;> cases h⟩
  | .isin _ _ => ⟨0, fun ds ρ ρ' h => by cases ds <;> cases h⟩
  | .lc _ _ _ _ _ => ⟨0, fun ds ρ ρ' h => by cases ds <;> cases h⟩
  | .rng1 _ => ⟨0, fun ds ρ ρ' h => by cases ds <;> cases h⟩
  | .rng2 _ _ => ⟨0, fun ds ρ ρ' h => by cases ds <;> cases h⟩
  | .enm _ => ⟨0, fun ds ρ ρ' h => by cases ds <;> cases h⟩
  | .zip _ _ => ⟨0, fun ds ρ ρ' h => by cases ds <;> cases h⟩
  | .it _ => ⟨0, fun ds ρ ρ' h => by cases ds <;> cases h⟩
  | .tr _ => ⟨0, fun ds ρ ρ' h => by cases ds <;> cases h⟩
end
end Mp

set_option maxRecDepth 100000
set_option maxHeartbeats 4000000
/-! Mp16: what the check says of expressions. -/
namespace Mp
open PySem PySem.Spec PyProof.Rows L2
section
variable {G : GD} {cl : Nat → List Bool → List D → CRes} {ar : Nat → Nat} {vf : Nat → Prop} {gv : Str → V} {lv : Nat}
theorem spAt_eq (inj : ∀ f g, vf f → vf g → G.fa f = G.fa g → f = g) {f : Nat} (h : vf f) : spAt G cl ar vf (G.fa f) = some (spOf G (cl f) (ar f)) := by
  unfold spAt
  have hx : ∃ g, vf g ∧ G.fa g = G.fa f := ⟨f, h, rfl⟩
  rw [dif_pos hx]
  have := hx.choose_spec
  rw [inj _ _ this.1 h this.2]
theorem spAt_held {gv : Str → V} {lv : Nat} {Γ : Gm} {X : Cx} (C : CxOk G cl ar vf gv lv Γ X) (a : Addr) (sp : L2.Sp) (h : spAt G cl ar vf a = some sp) : Held X.prog X.w X.K X.mg X.base lv a sp := by
  unfold spAt at h
  split at h
  · rename_i hx
    cases h
    obtain ⟨h1, h2⟩ := hx.choose_spec
    obtain ⟨fd, ps, as, F, q1, q2, q3, q4, q5, _⟩ := C.fns _ h1
    rw [h2] at F q1
    exact ⟨⟨fd, ps, F, q1, binds_of q2 q3 q4 q5⟩⟩
  · cases h
end
section
variable {G : GD} {cl : Nat → List Bool → List D → CRes} {ar : Nat → Nat} {vf : Nat → Prop} {gv : Str → V} {lv : Nat}
  (hn : ∀ f fl ds x, cl f fl ds = some x → ds.length = ar f) (hv : ∀ f fl ds x, cl f fl ds = some x → vf f) (inj : ∀ f g, vf f → vf g → G.fa f = G.fa g → f = g)
/-- the module's names' values -/
structure GvOk (G : GD) (gv : Str → V) (Γ : Gm) : Prop where
  val : ∀ x d H, Γ.vals.lookup x = some d → Dt G H (gv x) d
  cls : ∀ c fl f, Γ.cls[c]? = some (fl, f) → InsF G c fl ∧ ∀ i, i < 6 → PySem.W.kitOne G.K (.type (dTyN i)) (.ref (G.ca c)) = some false
/-- what is shown of an expression -/
def OkE (G : GD) (cl : Nat → List Bool → List D → CRes) (ar : Nat → Nat) (vf : Nat → Prop) (gv : Str → V) (lv : Nat) (E : E) (Γ : Gm) (e : Expr) : Prop := ∃ t, (∀ X, CxOk G cl ar vf gv lv Γ X → PE X e t) ∧ SE G (evE cl E) t
def OkL (G : GD) (cl : Nat → List Bool → List D → CRes) (ar : Nat → Nat) (vf : Nat → Prop) (gv : Str → V) (lv : Nat) (E : E) (Γ : Gm) (l : List Expr) : Prop := ∃ t, (∀ X, CxOk G cl ar vf gv lv Γ X → PA X l t) ∧ SL G (evL cl E) t ∧ SP G (evP cl E) t
def OkA (G : GD) (cl : Nat → List Bool → List D → CRes) (ar : Nat → Nat) (vf : Nat → Prop) (gv : Str → V) (lv : Nat) (E : E) (Γ : Gm) (l : List Expr) : Prop := ∃ t, (∀ X, CxOk G cl ar vf gv lv Γ X → PA X l t) ∧ SA G (evA cl E) t
def OkK (G : GD) (cl : Nat → List Bool → List D → CRes) (ar : Nat → Nat) (vf : Nat → Prop) (gv : Str → V) (lv : Nat) (E : E) (Γ : Gm) (l : List Keyword) : Prop := ∃ t, (∀ X, CxOk G cl ar vf gv lv Γ X → PK X l t) ∧ SA G (evA cl E) t
def OkO (G : GD) (cl : Nat → List Bool → List D → CRes) (ar : Nat → Nat) (vf : Nat → Prop) (gv : Str → V) (lv : Nat) (E : E) (Γ : Gm) (e : Option Expr) : Prop := ∃ t, (∀ X, CxOk G cl ar vf gv lv Γ X → PO X e t) ∧ SO G (evO cl E) t
def OkT (G : GD) (cl : Nat → List Bool → List D → CRes) (ar : Nat → Nat) (vf : Nat → Prop) (gv : Str → V) (lv : Nat) (E : E) (Γ : Gm) (e : Expr) : Prop := ∃ t, (∀ X, CxOk G cl ar vf gv lv Γ X → PT X e t) ∧ STt G (evT cl E) t
def OkI (G : GD) (cl : Nat → List Bool → List D → CRes) (ar : Nat → Nat) (vf : Nat → Prop) (gv : Str → V) (lv : Nat) (E : E) (Γ : Gm) (tg e : Expr) : Prop := ∃ t, (∀ X, CxOk G cl ar vf gv lv Γ X → PI X tg e t) ∧ SI G (evI cl E) t
def OkV (G : GD) (cl : Nat → List Bool → List D → CRes) (ar : Nat → Nat) (vf : Nat → Prop) (gv : Str → V) (lv : Nat) (E : E) (vs : List Nat) (Γ : Gm) (e : Expr) : Prop := ∃ t, (∀ X, CxOk G cl ar vf gv lv Γ X → PG X e t) ∧ SGv G vs (fun d => evG cl E d .frz) t
def OkVs (G : GD) (cl : Nat → List Bool → List D → CRes) (ar : Nat → Nat) (vf : Nat → Prop) (gv : Str → V) (lv : Nat) (E : E) (vs : List Nat) (Γ : Gm) (l : List Expr) : Prop := ∃ t, (∀ X, CxOk G cl ar vf gv lv Γ X → PGs X l t ∧ (assignEach l X.env).findIdx? (·.1) = none) ∧ SGvs G vs (evGs cl E) t
theorem asg1 {e : Expr} {es : List Expr} {env : PySem.Env} (h : nst e = true) : assignEach (e :: es) env = (false, assign e env) :: assignEach es env := by
  cases e <;> first | rfl | cases h
theorem asgLen {env : PySem.Env} : ∀ {es : List Expr}, (assignEach es env).length = es.length
  | [] => rfl
  | e :: es => by
    have : (assignEach (e :: es) env).length = (assignEach es env).length + 1 := by cases e <;> rfl
    rw [this, asgLen, List.length_cons]
theorem chkVs_len (vs : List Nat) (Γ : Gm) : ∀ (l : List Expr) (ts : E), chkVs ts vs Γ l = true → ∀ ds ρ ρ', evGs cl ts ds ρ = .ok () ρ' → ds.length = l.length
  | [], ts, h, ds, ρ, ρ', e => by
    cases ts with
    | nil => cases ds with
      | nil => rfl
      | cons => cases e
    | _ => cases h
  | x :: l, ts, h, ds, ρ, ρ', e => by
    cases ts with
    | cons t ts =>
      obtain ⟨_, h2⟩ := ba2 (show (nst x && (chkV t vs Γ x && chkVs ts vs Γ l)) = true from h)
      obtain ⟨_, h3⟩ := ba2 h2
      cases ds with
      | nil => cases e
      | cons d ds =>
        obtain ⟨u, ρ1, _, e⟩ := bind_ok (show ((evG cl t d .frz ρ).bind fun _ ρ => evGs cl ts ds ρ) = .ok () ρ' from e)
        rw [List.length_cons, List.length_cons, chkVs_len vs Γ l ts h3 ds ρ1 ρ' e]
    | _ => cases h
theorem oeq_op {G : GD} {cl : Nat → List Bool → List D → CRes} {ar : Nat → Nat} {vf : Nat → Prop} {gv : Str → V} {lv : Nat} {Γ : Gm} {X : Cx} (C : CxOk G cl ar vf gv lv Γ X) {c f : Nat} (ng : Bool) (h : (c, f) ∈ Γ.eqs) : OpR X (compareOp (if ng = true then .NotEq else .Eq)) (rOwnE G.K (G.ca c) (spOf G (cl f) (ar f)) ng fun _ _ _ => False) := by
  obtain ⟨v1, v2⟩ := C.eqf c f h
  obtain ⟨fd, ps, as, F, hk, w1, w2, w3, w4, _⟩ := C.fns f v1
  have hu : X.A.units + 1 < cLine := by have := C.un; omega
  rw [← C.K]
  cases ng with
  | false => exact op_ownE F v2 (binds_of w1 w2 w3 w4) (fun _ _ _ _ _ _ _ z => z.elim) C.room hu
  | true => exact op_ownN F v2 (binds_of w1 w2 w3 w4) (fun _ _ _ _ _ _ _ z => z.elim) C.room hu
theorem nsup2_ok {o : Expr} {a : Str} {env : PySem.Env} {w : Sem Value} (h : nsup2 o = true) : attributeBase o a env w = w := by
  cases o with
  | Call f args kws p =>
    cases f with
    | Name x q =>
      cases args with
      | cons _ _ => rfl
      | nil =>
        cases kws with
        | cons _ _ => rfl
        | nil => cases h
    | _ => rfl
  | _ => rfl
theorem pw_of {X : Cx} {op : BoolOp} {l : List Expr} {p : Pos} {t : TT} (h : PT X (.BoolOp op l p) t) : PW X (.BoolOp op l p) t := ⟨fun _ => h.run⟩
include hn hv inj in
mutual
theorem chkE_ok : ∀ (E : E) (Γ : Gm) (e : Expr), GvOk G gv Γ → chkE E Γ e = true → OkE G cl ar vf gv lv E Γ e
  | .var i, Γ, e, hg, h => by
    cases e with
    | Name x p => exact ⟨_, fun X C => (C.var h).2.2.2.2, se_var⟩
    | _ => cases h
  | .con d, Γ, e, hg, h => by
    cases e with
    | Constant c j p =>
      have h' : conB d c = true := h
      cases d <;> cases c <;> first
        | (have e := of_decide_eq_true h'; subst e; first | exact ⟨_, fun X C => pe_int, se_con fun _ => .int _⟩ | exact ⟨_, fun X C => pe_str, se_con fun _ => .str _⟩)
        | exact ⟨_, fun X C => pe_non, se_con fun _ => .non⟩
        | (have e := eq_of_beq (show (_ == _) = true from h'); subst e; exact ⟨_, fun X C => pe_bl, se_con fun _ => .bl _⟩)
        | cases h'
    | _ => cases h
  | .glo x d, Γ, e, hg, h => by
    cases e with
    | Name y p =>
      obtain ⟨h1, h2⟩ := ba2 (show (decide (x = y) && valB Γ x d) = true from h)
      have e := of_decide_eq_true h1
      subst e
      have hl : Γ.vals.lookup x = some d := by
        obtain ⟨_, h3⟩ := ba2 h2
        split at h3
        · rename_i d' e
          rw [e, D.eqb_ok h3]
        · cases h3
      refine ⟨tC (gv x), fun X C => ?_, se_con fun H => hg.val x d H hl⟩
      obtain ⟨k1, _, k2⟩ := C.val h2
      obtain ⟨u, e1, e2⟩ := C.glo x d hl
      exact pe_glob k1 e1 e2 k2
    | _ => cases h
  | .tup es, Γ, e, hg, h => by
    cases e with
    | Tuple l k p =>
      obtain ⟨t, h1, h2, _⟩ := chkL_ok es Γ l hg h
      exact ⟨_, fun X C => pe_tup (h1 X C), se_tup h2⟩
    | _ => cases h
  | .lst es, Γ, e, hg, h => by
    cases e with
    | List l p =>
      obtain ⟨t, h1, h2, _⟩ := chkL_ok es Γ l hg h
      exact ⟨_, fun X C => pe_lst (h1 X C), se_lst h2⟩
    | _ => cases h
  | .neg a, Γ, e, hg, h => by
    cases e with
    | UnaryOp op x p =>
      cases op with
      | USub =>
        obtain ⟨t, h1, h2⟩ := chkE_ok a Γ x hg h
        exact ⟨_, fun X C => pe_un un_neg (h1 X C), se_neg h2⟩
      | _ => cases h
    | _ => cases h
  | .bin o a b, Γ, e, hg, h => by
    cases e with
    | BinOp l op r p =>
      obtain ⟨h1, h2⟩ := ba2 (show (decide (op = bopOf o) && (chkE a Γ l && chkE b Γ r)) = true from h)
      obtain ⟨h2, h3⟩ := ba2 h2
      have e := of_decide_eq_true h1
      subst e
      obtain ⟨t, p1, q1⟩ := chkE_ok a Γ l hg h2
      obtain ⟨u, p2, q2⟩ := chkE_ok b Γ r hg h3
      obtain ⟨z, r1, r2⟩ := bop_ok G o
      exact ⟨_, fun X C => pe_op (r1 X C.K) (p1 X C) (p2 X C), se_bin q1 q2 r2⟩
    | _ => cases h
  | .cmp o a b, Γ, e, hg, h => by
    cases e with
    | Compare l ops rs p =>
      cases ops with
      | nil => cases h
      | cons op ops =>
        cases ops with
        | cons _ _ => cases rs with
          | nil => cases h
          | cons _ rs => cases rs <;> cases h
        | nil =>
          cases rs with
          | nil => cases h
          | cons r rs =>
            cases rs with
            | cons _ _ => cases h
            | nil =>
              obtain ⟨h1, h2⟩ := ba2 (show (decide (op = copOf o) && (!behindInMarks op r && (chkE a Γ l && chkE b Γ r))) = true from h)
              obtain ⟨h2, h3⟩ := ba2 h2
              obtain ⟨h3, h4⟩ := ba2 h3
              have e := of_decide_eq_true h1
              subst e
              obtain ⟨t, p1, q1⟩ := chkE_ok a Γ l hg h3
              obtain ⟨u, p2, q2⟩ := chkE_ok b Γ r hg h4
              obtain ⟨z, r1, r2⟩ := cop_ok G o
              exact ⟨_, fun X C => pe_cmpR (r1 X C.K C.un) (p1 X C) (p2 X C) (by simpa using h2), se_cmp q1 q2 r2⟩
    | _ => cases h
  | .cmp2 o1 o2 a b c, Γ, e, hg, h => by
    cases e with
    | Compare l ops rs p =>
      match ops, rs, h with
      | [o, o'], [m, r], h =>
        obtain ⟨h1, h2⟩ := ba2 (show (decide (o = copOf o1) && (decide (o' = copOf o2) && (!lastMarks [o, o'] [m, r] && (chkE a Γ l && (chkE b Γ m && chkE c Γ r))))) = true from h)
        have e := of_decide_eq_true h1
        subst e
        obtain ⟨h2, h3⟩ := ba2 h2
        have e := of_decide_eq_true h2
        subst e
        obtain ⟨h3, h4⟩ := ba2 h3
        obtain ⟨h4, h5⟩ := ba2 h4
        obtain ⟨h5, h6⟩ := ba2 h5
        obtain ⟨t, p1, q1⟩ := chkE_ok a Γ l hg h4
        obtain ⟨u, p2, q2⟩ := chkE_ok b Γ m hg h5
        obtain ⟨v, p3, q3⟩ := chkE_ok c Γ r hg h6
        obtain ⟨z, r1, r2⟩ := cop_ok G o1
        obtain ⟨z', r1', r2'⟩ := cop_ok G o2
        exact ⟨_, fun X C => pe_chain (r1 X C.K C.un) (r1' X C.K C.un) (p1 X C) (p2 X C) (p3 X C) (by simpa using h3), se_cmp2 q1 q2 q3 r2 r2'⟩
    | _ => cases h
  | .not a, Γ, e, hg, h => by
    cases a with
    | tr a =>
      cases e with
      | UnaryOp op x p =>
        cases op with
        | Not =>
          obtain ⟨t, h1, h2⟩ := chkE_ok a Γ x hg h
          exact ⟨_, fun X C => C.K ▸ pe_notT (h1 X C), se_notT G h2⟩
        | _ => cases h
      | _ => cases h
    | _ => cases h
  | .and a b, Γ, e, hg, h => by
    cases e with
    | BoolOp op l p =>
      cases op with
      | Or => cases h
      | And =>
        match l, h with
        | x :: y :: r, h =>
          cases r with
          | nil =>
            obtain ⟨h1, h2⟩ := ba2 (show (chkE a Γ x && chkE b Γ y) = true from h)
            obtain ⟨t, p1, q1⟩ := chkE_ok a Γ x hg h1
            obtain ⟨u, p2, q2⟩ := chkE_ok b Γ y hg h2
            exact ⟨_, fun X C => pe_and (p1 X C) (pe_one (p2 X C)), se_and q1 q2⟩
          | cons z r =>
            obtain ⟨h1, h2⟩ := ba2 (show (chkE a Γ x && chkE b Γ (.BoolOp .And (y :: z :: r) p)) = true from h)
            obtain ⟨t, p1, q1⟩ := chkE_ok a Γ x hg h1
            obtain ⟨u, p2, q2⟩ := chkE_ok b Γ _ hg h2
            exact ⟨_, fun X C => pe_and (p1 X C) (p2 X C), se_and q1 q2⟩
    | _ => cases h
  | .or a b, Γ, e, hg, h => by
    cases e with
    | BoolOp op l p =>
      cases op with
      | And => cases h
      | Or =>
        match l, h with
        | x :: y :: r, h =>
          cases r with
          | nil =>
            obtain ⟨h1, h2⟩ := ba2 (show (chkE a Γ x && chkE b Γ y) = true from h)
            obtain ⟨t, p1, q1⟩ := chkE_ok a Γ x hg h1
            obtain ⟨u, p2, q2⟩ := chkE_ok b Γ y hg h2
            exact ⟨_, fun X C => pe_or (p1 X C) (pe_one (p2 X C)), se_or q1 q2⟩
          | cons z r =>
            obtain ⟨h1, h2⟩ := ba2 (show (chkE a Γ x && chkE b Γ (.BoolOp .Or (y :: z :: r) p)) = true from h)
            obtain ⟨t, p1, q1⟩ := chkE_ok a Γ x hg h1
            obtain ⟨u, p2, q2⟩ := chkE_ok b Γ _ hg h2
            exact ⟨_, fun X C => pe_or (p1 X C) (p2 X C), se_or q1 q2⟩
    | _ => cases h
  | .ife c a b, Γ, e, hg, h => by
    cases e with
    | IfExp t x y p =>
      obtain ⟨h1, h2⟩ := ba2 (show (chkT c Γ t && (chkE a Γ x && chkE b Γ y)) = true from h)
      obtain ⟨h2, h3⟩ := ba2 h2
      obtain ⟨t1, p1, q1⟩ := chkT_ok c Γ t hg h1
      obtain ⟨t2, p2, q2⟩ := chkE_ok a Γ x hg h2
      obtain ⟨t3, p3, q3⟩ := chkE_ok b Γ y hg h3
      exact ⟨_, fun X C => pe_ifExp (p1 X C) (p2 X C) (p3 X C), se_ife q1 q2 q3⟩
    | _ => cases h
  | .idx a i, Γ, e, hg, h => by
    cases e with
    | Subscript x y p =>
      obtain ⟨h1, h2⟩ := ba2 (show (nsl y && (chkE a Γ x && chkE i Γ y)) = true by cases y <;> exact h)
      obtain ⟨h2, h3⟩ := ba2 h2
      obtain ⟨t2, p2, q2⟩ := chkE_ok a Γ x hg h2
      obtain ⟨t3, p3, q3⟩ := chkE_ok i Γ y hg h3
      obtain ⟨r, r1, r2⟩ := ix_ok G
      exact ⟨_, fun X C => pe_ix (r1 X C.K C.un) (p2 X C) (p3 X C) (plainIx h1), se_idx q2 q3 r2⟩
    | _ => cases h
  | .sl a lo hi, Γ, e, hg, h => by
    cases e with
    | Subscript x y p =>
      cases y with
      | Slice l u st p2 =>
        cases st with
        | some _ => cases h
        | none =>
          obtain ⟨h1, h2⟩ := ba2 (show (chkE a Γ x && (chkO lo Γ l && chkO hi Γ u)) = true from h)
          obtain ⟨h2, h3⟩ := ba2 h2
          obtain ⟨t1, p1, q1⟩ := chkE_ok a Γ x hg h1
          obtain ⟨t2, p2, q2⟩ := chkO_ok lo Γ l hg h2
          obtain ⟨t3, p3, q3⟩ := chkO_ok hi Γ u hg h3
          obtain ⟨r, r1, r2⟩ := sl_ok G
          exact ⟨_, fun X C => pe_slice (r1 X C.K) (p1 X C) (p2 X C) (p3 X C), se_sl q1 q2 q3 r2⟩
      | _ => cases h
    | _ => cases h
  | .call f es, Γ, e, hg, h => by
    cases e with
    | Call fe args kws pos =>
      cases fe with
      | Name x p =>
        cases kws with
        | cons _ _ => cases h
        | nil =>
          obtain ⟨h1, h2⟩ := ba2 (show (valB Γ x (.fn f) && (!args.isEmpty && chkA es Γ args)) = true from h)
          obtain ⟨h2, h3⟩ := ba2 h2
          cases args with
          | nil => cases h2
          | cons e0 es0 =>
            have an := chkA_n es Γ _ h3
            obtain ⟨n1, n2⟩ := ba2 (show (nst e0 && es0.all nst) = true from an)
            obtain ⟨t, p1, q1⟩ := chkA_ok es Γ _ hg h3
            refine ⟨_, fun X C => ?_, se_call (E := fun _ _ _ => False) (fun fl ds x => hn f fl ds x) q1⟩
            obtain ⟨k1, k2, k3⟩ := C.val h1
            obtain ⟨v1, v2⟩ := C.vfn x f k2
            obtain ⟨fd, ps, as, F, hk, w1, w2, w3, w4, _⟩ := C.fns f v1
            exact pe_call F (C.room.mono (Nat.le_succ _)) k1 v2 hk (binds_of w1 w2 w3 w4) .nil (fun _ _ _ _ _ _ _ z => z.elim) (p1 X C) k3 (star1 n1) (starA n2)
      | _ => cases h
    | _ => cases h
  | .callk f p es ks, Γ, e, hg, h => by
    cases e with
    | Call fe args kws pos =>
      cases fe with
      | Name x px =>
        obtain ⟨h1, h2⟩ := ba2 (show (valB Γ x (.fn f) && (chkA es Γ args && (chkK ks Γ kws && (match Γ.pss[f]?, kws.mapM (·.arg) with
          | some ps, some ns => decide (cntA es = args.length) && (decide (cntA ks = ns.length) && (kwOk ps args.length ns && decide (p = permOf ps args.length ns)))
          | _, _ => false)))) = true from h)
        obtain ⟨h2, h3⟩ := ba2 h2
        obtain ⟨h3, h4⟩ := ba2 h3
        obtain ⟨t, p1, q1, t0⟩ : ∃ t, (∀ X, CxOk G cl ar vf gv lv Γ X → PA X args t) ∧ SA G (evA cl es) t ∧ (args = [] → t = tNil) := by
          obtain ⟨t, p1, q1⟩ := chkA_ok es Γ args hg h2
          cases args with
          | cons a as => exact ⟨t, p1, q1, fun z => by cases z⟩
          | nil =>
            cases es with
            | nil => exact ⟨tNil, fun X C => pa_nil, sa_nil, fun _ => rfl⟩
            | _ => cases h2
        obtain ⟨tk, p2, q2⟩ := chkK_ok ks Γ kws hg h3
        cases ep : Γ.pss[f]? with
        | none => rw [ep] at h4; cases h4
        | some ps =>
          cases en : kws.mapM (·.arg) with
          | none => rw [ep, en] at h4; cases h4
          | some ns =>
            rw [ep, en] at h4
            obtain ⟨c1, c2⟩ := ba2 h4
            obtain ⟨c2, c3⟩ := ba2 c2
            obtain ⟨c3, c4⟩ := ba2 c3
            have c1 := of_decide_eq_true c1
            have c2 := of_decide_eq_true c2
            have c4 := of_decide_eq_true c4
            refine ⟨tCallK (spOf G (cl f) (ar f)) (gK ps args.length ns) (fun _ _ _ => False) t tk, fun X C => ?_, se_callk (p := p) (fun fl ds x => hn f fl ds x) q1 q2 (fun ρ as ρ' h => evA_len es ρ as ρ' h) (fun ρ as ρ' h => evA_len ks ρ as ρ' h) fun vs zs l1 l2 => ?_⟩
            · obtain ⟨k1, k2, k3⟩ := C.val h1
              obtain ⟨v1, v2⟩ := C.vfn x f k2
              obtain ⟨fd, ps', as, F, hk, w1, w2, w3, w4, w5⟩ := C.fns f v1
              rw [ep] at w5
              cases w5
              obtain ⟨z1, z2, z3⟩ := kw_all (pos := pos) (env := X.env) en
              have hpx : ∀ {l : List Expr}, l.all nst = true → ((backTo pos (starEach l X.env)).any (·.1) || (backToKw pos (keywordEach kws X.env)).any (·.1.isNone)) = false := fun {l} hl => by rw [starA hl, z3] <;> rfl
              cases args with
              | nil =>
                rw [t0 rfl]
                exact pe_callK0 F (C.room.mono (Nat.le_succ _)) k1 v2 hk (kbinds_of w1 w2 w3 c3) (fun _ _ _ _ _ _ _ z => z.elim) (p2 X C) z1 z2 k3 (hpx rfl)
              | cons e0 es0 =>
                have an := chkA_n es Γ _ h2
                obtain ⟨n1, n2⟩ := ba2 (show (nst e0 && es0.all nst) = true from an)
                exact pe_callK F (C.room.mono (Nat.le_succ _)) k1 v2 hk (kbinds_of w1 w2 w3 c3) (fun _ _ _ _ _ _ _ z => z.elim) (p1 X C) (p2 X C) z1 z2 k3 (star1 n1) (hpx an)
            · unfold gK
              rw [if_pos ⟨l1.trans c1, l2.trans c2⟩, c4]
      | _ => cases h
    | _ => cases h
  | .calf f a es, Γ, e, hg, h => by
    cases e with
    | Call fe args kws pos =>
      cases fe with
      | Name x p =>
        match args, kws, h with
        | e0 :: es0, [], h =>
          obtain ⟨h1, h2⟩ := ba2 (show (valB Γ x (.fn f) && (nst e0 && (chkE a Γ e0 && chkA es Γ es0))) = true from h)
          obtain ⟨h2, h3⟩ := ba2 h2
          obtain ⟨h3, h4⟩ := ba2 h3
          have an := chkA_n es Γ _ h4
          obtain ⟨ta, p0, q0⟩ := chkE_ok a Γ e0 hg h3
          obtain ⟨t, p1, q1⟩ := chkA_ok es Γ _ hg h4
          refine ⟨_, fun X C => ?_, se_calf (E := fun _ _ _ => False) (fun fl ds x => hn f fl ds x) q0 q1⟩
          obtain ⟨k1, k2, k3⟩ := C.val h1
          obtain ⟨v1, v2⟩ := C.vfn x f k2
          obtain ⟨fd, ps, as, F, hk, w1, w2, w3, w4, _⟩ := C.fns f v1
          exact pe_call F (C.room.mono (Nat.le_succ _)) k1 v2 hk (binds_of w1 w2 w3 w4) .nil (fun _ _ _ _ _ _ _ z => z.elim) (pa_cons (p0 X C) (p1 X C) (star1 h2)) k3 (star1 h2) (starA an)
      | _ => cases h
    | _ => cases h
  | .fld a x, Γ, e, hg, h => by
    cases e with
    | Attribute o y p =>
      obtain ⟨h1, h2⟩ := ba2 (show (decide (x = y) && (nsup o && chkE a Γ o)) = true from h)
      obtain ⟨h2, h3⟩ := ba2 h2
      have ex := of_decide_eq_true h1
      subst ex
      obtain ⟨t, p1, q1⟩ := chkE_ok a Γ o hg h3
      exact ⟨_, fun X C => C.K ▸ pe_fld (p1 X C) (by cases o <;> first | rfl | cases h2), se_fld q1⟩
    | _ => cases h
  | .mk c f fl es, Γ, e, hg, h => by
    cases e with
    | Call fe args kws pos =>
      cases fe with
      | Name x p =>
        cases kws with
        | cons _ _ => cases h
        | nil =>
          obtain ⟨h1, h2⟩ := ba2 (show (valB Γ x (.cls c) && (!args.isEmpty && (chkA es Γ args && decide (Γ.cls[c]? = some (fl, f))))) = true from h)
          obtain ⟨h2, h3⟩ := ba2 h2
          obtain ⟨ha, hcl⟩ := ba2 h3
          have hcl := of_decide_eq_true hcl
          cases args with
          | nil => cases h2
          | cons e0 es0 =>
            have an := chkA_n es Γ _ ha
            obtain ⟨n1, n2⟩ := ba2 (show (nst e0 && es0.all nst) = true from an)
            obtain ⟨t, p1, q1⟩ := chkA_ok es Γ _ hg ha
            refine ⟨_, fun X C => ?_, se_mk (E := fun _ _ _ => False) (fun fl ds x => hn f fl ds x) (hg.cls c fl f hcl).1 q1⟩
            obtain ⟨k1, k2, k3⟩ := C.val h1
            obtain ⟨v1, v2⟩ := C.mkf c fl f hcl
            obtain ⟨fd, ps, as, F, hk, w1, w2, w3, w4, _⟩ := C.fns f v1
            exact pe_make v2 F C.room k1 (C.vcl x c k2) (binds_of w1 w2 w3 w4) .nil (fun _ _ _ _ _ _ _ z => z.elim) (p1 X C) k3 (star1 n1) (starA n2)
      | _ => cases h
    | _ => cases h
  | .isinc c z a, Γ, e, hg, h => by
    cases e with
    | Call fe args kws pos =>
      cases fe with
      | Name x p =>
        match args, kws, h with
        | [e, .Name y py], [], h =>
          obtain ⟨h1, h2⟩ := ba2 (show (freeB Γ x && (decide (x = "isinstance") && (decide (y = z) && (valB Γ y (.cls c) && (Γ.cls[c]?.isSome && (nst e && chkE a Γ e)))))) = true from h)
          obtain ⟨h2, h3⟩ := ba2 h2
          obtain ⟨h3, h4⟩ := ba2 h3
          obtain ⟨h4, h5⟩ := ba2 h4
          obtain ⟨h5, h6⟩ := ba2 h5
          obtain ⟨h6, h7⟩ := ba2 h6
          have ex := of_decide_eq_true h2
          obtain ⟨⟨fl, f⟩, hcl⟩ := Option.isSome_iff_exists.mp h5
          obtain ⟨ta, p1, q1⟩ := chkE_ok a Γ e hg h7
          refine ⟨_, fun X C => ?_, se_isinc (hg.cls c fl f hcl).1.1 (hg.cls c fl f hcl).2 q1⟩
          obtain ⟨f1, f2, f3, f4⟩ := C.fr h1
          obtain ⟨g1, g2, g3⟩ := C.val h4
          have bx : bootBuiltins x = some (.builtin "isinstance") := by rw [ex]; exact boot_isinstance
          exact pe_callB (C.K ▸ call_isi) f1 f2 bx (pa_cons (p1 X C) (pa_cons (pe_glob g1 (C.vcl y c g2) rfl g3) pa_nil (star1 rfl)) (star1 h6)) f3 f4 (star1 h6) (starA (es := [.Name y py]) rfl)
      | _ => cases h
    | _ => cases h
  | .calv i es, Γ, e, hg, h => by
    cases e with
    | Call fe args kws pos =>
      cases fe with
      | Name x p =>
        cases kws with
        | cons _ _ => cases h
        | nil =>
          obtain ⟨h1, h2⟩ := ba2 (show (varB Γ i x && (!args.isEmpty && chkA es Γ args)) = true from h)
          obtain ⟨h2, h3⟩ := ba2 h2
          cases args with
          | nil => cases h2
          | cons e0 es0 =>
            have an := chkA_n es Γ _ h3
            obtain ⟨n1, n2⟩ := ba2 (show (nst e0 && es0.all nst) = true from an)
            obtain ⟨t, p1, q1⟩ := chkA_ok es Γ _ hg h3
            refine ⟨_, fun X C => ?_, se_calv (n := ar) (Sp := spAt G cl ar vf) hn (fun f fl ds x e => spAt_eq inj (hv f fl ds x e)) q1⟩
            obtain ⟨v1, v2, v3, v4, _⟩ := C.var (p := p) h1
            exact pe_callA (k := lv) (fun a sp e => spAt_held C a sp e) (C.room.mono (Nat.le_succ _)) v1 v2 (p1 X C) v3 v4 (star1 n1) (starA n2)
      | _ => cases h
    | _ => cases h
  | .vop o i a b, Γ, e, hg, h => by
    cases o with
    | pop =>
      cases e with
      | Call fe args kws pos =>
        match fe, args, kws, h with
        | .Attribute (.Name x px) m ap, [e], [], h =>
          obtain ⟨h1, h2⟩ := ba2 (show (varB Γ i x && (decide (m = "pop") && (decide (ap.endLine = pos.line) && (nst e && chkE a Γ e)))) = true from h)
          obtain ⟨h2, h3⟩ := ba2 h2
          have em := of_decide_eq_true h2
          subst em
          obtain ⟨h3, h4⟩ := ba2 h3
          obtain ⟨h4, h5⟩ := ba2 h4
          obtain ⟨t1, p1, q1⟩ := chkE_ok a Γ e hg h5
          exact ⟨_, fun X C => C.K ▸ pe_bm PySem.F.plainAttrs_list PySem.F.slot_list_pop PySem.F.type_list_pop mt_popAt (C.var h1).2.2.2.2 (pa_cons (p1 X C) pa_nil (star1 h4)) rfl (by rw [star1 h4]; rfl) (by rw [of_decide_eq_true h3]; exact beq_self_eq_true _) (star1 h4) (starA (es := []) rfl), se_pop q1⟩
      | _ => cases h
  | .uop o a, Γ, e, hg, h => by
    cases o with
    | dnew =>
      cases e with
      | Dict ks vs p =>
        match ks, vs, h with
        | [], [], h => exact ⟨_, fun X C => pe_dnewN, se_dnew⟩
      | _ => cases h
    | rev =>
      cases e with
      | Subscript x y pos =>
        match y, h with
        | .Slice none none (some (.UnaryOp .USub (.Constant (.int i) kd pp1) pp2)) pp3, h =>
          obtain ⟨h1, h2⟩ := ba2 (show (decide (i = 1) && chkE a Γ x) = true from h)
          have ei := of_decide_eq_true h1
          subst ei
          obtain ⟨t1, p1, q1⟩ := chkE_ok a Γ x hg h2
          exact ⟨_, fun X C => C.K ▸ pe_revA (p1 X C), se_rev q1⟩
      | _ => cases h
    | lof =>
      cases a with
      | rng1 a =>
        cases e with
        | Call fe args kws pos =>
          match fe, args, kws, h with
          | .Name x px, [.Call (.Name y py) [e] [] pos2], [], h =>
            obtain ⟨h1, h2⟩ := ba2 (show (decide (x = "list") && (freeB Γ x && (decide (y = "range") && (freeB Γ y && (nst e && chkE a Γ e))))) = true from h)
            have ex := of_decide_eq_true h1
            subst ex
            obtain ⟨hF, h3⟩ := ba2 h2
            obtain ⟨h3, h4⟩ := ba2 h3
            have ey := of_decide_eq_true h3
            subst ey
            obtain ⟨h4, h5⟩ := ba2 h4
            obtain ⟨h5, h6⟩ := ba2 h5
            obtain ⟨t1, p1, q1⟩ := chkE_ok a Γ e hg h6
            refine ⟨_, fun X C => ?_, se_lof1 q1⟩
            obtain ⟨f1, f2, f3, f4⟩ := C.fr hF
            obtain ⟨g1, g2, g3, g4⟩ := C.fr h4
            exact pe_listRg C.calm f1 f2 (prg_1 g1 g2 (p1 X C) (star1 h5)) (star1 rfl)
        | _ => cases h
      | rng2 a b =>
        cases e with
        | Call fe args kws pos =>
          match fe, args, kws, h with
          | .Name x px, [.Call (.Name y py) [e, f] [] pos2], [], h =>
            obtain ⟨h1, h2⟩ := ba2 (show (decide (x = "list") && (freeB Γ x && (decide (y = "range") && (freeB Γ y && (nst e && (nst f && (chkE a Γ e && chkE b Γ f))))))) = true from h)
            have ex := of_decide_eq_true h1
            subst ex
            obtain ⟨hF, h3⟩ := ba2 h2
            obtain ⟨h3, h4⟩ := ba2 h3
            have ey := of_decide_eq_true h3
            subst ey
            obtain ⟨h4, h5⟩ := ba2 h4
            obtain ⟨h5, h6⟩ := ba2 h5
            obtain ⟨h6, h7⟩ := ba2 h6
            obtain ⟨h7, h8⟩ := ba2 h7
            obtain ⟨t1, p1, q1⟩ := chkE_ok a Γ e hg h7
            obtain ⟨t2, p2, q2⟩ := chkE_ok b Γ f hg h8
            refine ⟨_, fun X C => ?_, se_lof2 q1 q2⟩
            obtain ⟨f1, f2, f3, f4⟩ := C.fr hF
            obtain ⟨g1, g2, g3, g4⟩ := C.fr h4
            exact pe_listRg C.calm f1 f2 (prg_2 g1 g2 (p1 X C) (p2 X C) (star1 h5) (star1 h6) (by rw [star1 h6]; rfl)) (star1 rfl)
        | _ => cases h
      | _ => cases e <;> cases h
    | rof =>
      cases a with
      | rng1 a =>
        cases e with
        | Call fe args kws pos =>
          match fe, args, kws, h with
          | .Name y py, [e], [], h =>
            obtain ⟨h1, h2⟩ := ba2 (show (decide (y = "range") && (freeB Γ y && (nst e && chkE a Γ e))) = true from h)
            have ey := of_decide_eq_true h1
            subst ey
            obtain ⟨h2, h3⟩ := ba2 h2
            obtain ⟨h3, h4⟩ := ba2 h3
            obtain ⟨t1, p1, q1⟩ := chkE_ok a Γ e hg h4
            refine ⟨_, fun X C => ?_, se_rof1 q1⟩
            obtain ⟨f1, f2, f3, f4⟩ := C.fr h2
            exact pe_callTy cr_rngV f1 f2 boot_range (pa_cons (p1 X C) pa_nil (star1 h3)) f3 f4 (star1 h3) (starA (es := []) rfl)
        | _ => cases h
      | rng2 a b =>
        cases e with
        | Call fe args kws pos =>
          match fe, args, kws, h with
          | .Name y py, [e, f], [], h =>
            obtain ⟨h1, h2⟩ := ba2 (show (decide (y = "range") && (freeB Γ y && (nst e && (nst f && (chkE a Γ e && chkE b Γ f))))) = true from h)
            have ey := of_decide_eq_true h1
            subst ey
            obtain ⟨h2, h3⟩ := ba2 h2
            obtain ⟨h3, h4⟩ := ba2 h3
            obtain ⟨h4, h5⟩ := ba2 h4
            obtain ⟨h5, h6⟩ := ba2 h5
            obtain ⟨t1, p1, q1⟩ := chkE_ok a Γ e hg h5
            obtain ⟨t2, p2, q2⟩ := chkE_ok b Γ f hg h6
            refine ⟨_, fun X C => ?_, se_rof2 q1 q2⟩
            obtain ⟨f1, f2, f3, f4⟩ := C.fr h2
            exact pe_callTy cr_rngV f1 f2 boot_range (pa_cons (p1 X C) (pa_cons (p2 X C) pa_nil (star1 h4)) (star1 h3)) f3 f4 (star1 h3) (starA (es := [f]) (by show (nst f && true) = true; rw [h4]; rfl))
        | _ => cases h
      | _ => cases e <;> cases h
  | .bm o a b, Γ, e, hg, h => by
    cases e with
    | Call fe args kws pos =>
      match fe, args, kws, h with
      | .Attribute ob m ap, [e], [], h =>
        obtain ⟨h1, h2⟩ := ba2 (show (nsup2 ob && (decide (m = bmName o) && (decide (ap.endLine = pos.line) && (nst e && (chkE a Γ ob && chkE b Γ e))))) = true from h)
        obtain ⟨h2, h3⟩ := ba2 h2
        have em := of_decide_eq_true h2
        subst em
        obtain ⟨h3, h4⟩ := ba2 h3
        obtain ⟨h4, h5⟩ := ba2 h4
        obtain ⟨h5, h6⟩ := ba2 h5
        obtain ⟨t1, p1, q1⟩ := chkE_ok a Γ ob hg h5
        obtain ⟨t2, p2, q2⟩ := chkE_ok b Γ e hg h6
        obtain ⟨id, r, r1, r2, r3, r4⟩ := bm_ok G o
        exact ⟨_, fun X C => C.K ▸ pe_bm PySem.F.plainAttrs_list r2 r3 (r1 X C.K C.un) (p1 X C) (pa_cons (p2 X C) pa_nil (star1 h4)) (nsup2_ok h1) (by rw [star1 h4]; rfl) (by rw [of_decide_eq_true h3]; exact beq_self_eq_true _) (star1 h4) (starA (es := []) rfl), se_bm q1 q2 r4⟩
    | _ => cases h
  | .mkk c f fl p es ks, Γ, e, hg, h => by
    cases e with
    | Call fe args kws pos =>
      cases fe with
      | Name x px =>
        obtain ⟨h1, h2⟩ := ba2 (show (valB Γ x (.cls c) && (decide (Γ.cls[c]? = some (fl, f)) && (chkA es Γ args && (chkK ks Γ kws && (match Γ.pss[f]?, kws.mapM (·.arg) with
          | some ps, some ns => decide (cntA es = args.length) && (decide (cntA ks = ns.length) && (kwOk ps (args.length + 1) ns && decide (p = permOf (ps.drop 1) args.length ns)))
          | _, _ => false))))) = true from h)
        obtain ⟨hc, h2⟩ := ba2 h2
        have hcl := of_decide_eq_true hc
        obtain ⟨h2, h3⟩ := ba2 h2
        obtain ⟨h3, h4⟩ := ba2 h3
        obtain ⟨t, p1, q1, t0⟩ : ∃ t, (∀ X, CxOk G cl ar vf gv lv Γ X → PA X args t) ∧ SA G (evA cl es) t ∧ (args = [] → t = tNil) := by
          obtain ⟨t, p1, q1⟩ := chkA_ok es Γ args hg h2
          cases args with
          | cons a as => exact ⟨t, p1, q1, fun z => by cases z⟩
          | nil =>
            cases es with
            | nil => exact ⟨tNil, fun X C => pa_nil, sa_nil, fun _ => rfl⟩
            | _ => cases h2
        obtain ⟨tk, p2, q2⟩ := chkK_ok ks Γ kws hg h3
        cases ep : Γ.pss[f]? with
        | none => rw [ep] at h4; cases h4
        | some ps =>
          cases en : kws.mapM (·.arg) with
          | none => rw [ep, en] at h4; cases h4
          | some ns =>
            rw [ep, en] at h4
            obtain ⟨c1, c2⟩ := ba2 h4
            obtain ⟨c2, c3⟩ := ba2 c2
            obtain ⟨c3, c4⟩ := ba2 c3
            have c1 := of_decide_eq_true c1
            have c2 := of_decide_eq_true c2
            have c4 := of_decide_eq_true c4
            refine ⟨tMakeK (G.ca c) args.length ns.length (spOf G (cl f) (ar f)) (gK ps (args.length + 1) ns) (fun _ _ _ => False) t tk, fun X C => ?_, se_mkk (p := p) (fun fl ds x => hn f fl ds x) (hg.cls c fl f hcl).1 q1 q2 (fun ρ as ρ' h => (evA_len es ρ as ρ' h).trans c1) (fun ρ as ρ' h => (evA_len ks ρ as ρ' h).trans c2) fun x vs zs l1 l2 => ?_⟩
            · obtain ⟨k1, k2, k3⟩ := C.val h1
              obtain ⟨v1, v2⟩ := C.mkf c fl f hcl
              obtain ⟨fd, ps', as, F, hk, w1, w2, w3, w4, w5⟩ := C.fns f v1
              rw [ep] at w5
              cases w5
              obtain ⟨z1, z2, z3⟩ := kw_all (pos := pos) (env := X.env) en
              have hpx : ∀ {l : List Expr}, l.all nst = true → ((backTo pos (starEach l X.env)).any (·.1) || (backToKw pos (keywordEach kws X.env)).any (·.1.isNone)) = false := fun {l} hl => by rw [starA hl, z3] <;> rfl
              cases args with
              | nil =>
                rw [t0 rfl]
                exact pe_makeK0 v2 F C.room k1 (C.vcl x c k2) (kbn_of w1 w2 w3 c3) (fun _ _ _ _ _ _ _ z => z.elim) (p2 X C) z1 z2 k3 (hpx rfl)
              | cons e0 es0 =>
                have an := chkA_n es Γ _ h2
                obtain ⟨n1, n2⟩ := ba2 (show (nst e0 && es0.all nst) = true from an)
                exact pe_makeK v2 F C.room k1 (C.vcl x c k2) (kbn_of w1 w2 w3 c3) (fun _ _ _ _ _ _ _ z => z.elim) (p1 X C) (p2 X C) z1 z2 k3 (star1 n1) (hpx an)
            · rw [gK_succ l1 l2, c4]
      | _ => cases h
    | _ => cases h
  | .oeq ng c f a b, Γ, e, hg, h => by
    cases e with
    | Compare l ops rs p =>
      match ops, rs, h with
      | [op], [r], h =>
        obtain ⟨h1, h2⟩ := ba2 (show (decide (op = if ng = true then .NotEq else .Eq) && (decide ((c, f) ∈ Γ.eqs) && (!behindInMarks op r && (chkE a Γ l && chkE b Γ r)))) = true from h)
        obtain ⟨hm, h3⟩ := ba2 h2
        obtain ⟨h3, h4⟩ := ba2 h3
        obtain ⟨h4, h5⟩ := ba2 h4
        have eo := of_decide_eq_true h1
        subst eo
        obtain ⟨t1, p1, q1⟩ := chkE_ok a Γ l hg h4
        obtain ⟨t2, p2, q2⟩ := chkE_ok b Γ r hg h5
        exact ⟨_, fun X C => pe_cmpR (oeq_op C ng (of_decide_eq_true hm)) (p1 X C) (p2 X C) (by simpa using h3), se_oeq (E := fun _ _ _ => False) (fun fl ds x => hn f fl ds x) q1 q2⟩
    | _ => cases h
  | .blt b es, Γ, e, hg, h => by
    cases e with
    | Call fe args kws pos =>
      cases fe with
      | Name x p =>
        cases kws with
        | cons _ _ => cases h
        | nil =>
          obtain ⟨h1, h2⟩ := ba2 (show (freeB Γ x && (decide (x = bltName b) && (bltKnown b && (!args.isEmpty && chkL es Γ args)))) = true from h)
          obtain ⟨h2, h3⟩ := ba2 h2
          obtain ⟨hk, h4⟩ := ba2 h3
          obtain ⟨h4, h5⟩ := ba2 h4
          have e := of_decide_eq_true h2
          rw [e] at h1 ⊢
          cases args with
          | nil => cases h4
          | cons e0 es0 =>
            obtain ⟨t, p1, _, q1⟩ := chkL_ok es Γ _ hg h5
            obtain ⟨r, r1, r2⟩ := blt_pe G b hk
            exact ⟨_, fun X C => r2 cl ar vf gv lv Γ X p pos e0 es0 t C h1 (chkL_n es Γ _ h5) (p1 X C), se_blt q1 r1⟩
      | _ => cases h
    | _ => cases h
  | .isin t a, Γ, e, hg, h => by
    cases e with
    | Call fe args kws pos =>
      cases fe with
      | Name x p =>
        match args, kws, h with
        | [e, .Name y py], [], h =>
          obtain ⟨h1, h2⟩ := ba2 (show (freeB Γ x && (decide (x = "isinstance") && (freeB Γ y && (decide (t < 5) && (decide (y = Str.ofString (tyName t)) && (nst e && chkE a Γ e)))))) = true from h)
          obtain ⟨h2, h3⟩ := ba2 h2
          obtain ⟨h3, h4⟩ := ba2 h3
          obtain ⟨h4, h5⟩ := ba2 h4
          obtain ⟨h5, h6⟩ := ba2 h5
          obtain ⟨h6, h7⟩ := ba2 h6
          have ex := of_decide_eq_true h2
          have ht := of_decide_eq_true h4
          have ey := of_decide_eq_true h5
          obtain ⟨ta, p1, q1⟩ := chkE_ok a Γ e hg h7
          obtain ⟨r, r1, r2⟩ := isin_ok G t
          refine ⟨_, fun X C => ?_, se_isin ht rfl q1 r2⟩
          obtain ⟨f1, f2, f3, f4⟩ := C.fr h1
          obtain ⟨g1, g2, g3, g4⟩ := C.fr h3
          have by_ : bootBuiltins y = some (.type (tyName t)) := by
            rw [ey]
            match t, ht with
            | 0, _ => exact boot_int
            | 1, _ => exact boot_bool
            | 2, _ => exact boot_str
            | 3, _ => exact boot_tuple
            | 4, _ => exact boot_list
          have bx : bootBuiltins x = some (.builtin "isinstance") := by rw [ex]; exact boot_isinstance
          exact pe_callB (r1 X C.K) f1 f2 bx (pa_cons (p1 X C) (pa_cons (pe_bltn g1 g2 by_ rfl g3 g4) pa_nil (star1 rfl)) (star1 h6)) f3 f4 (star1 h6) (starA (es := [.Name y py]) rfl)
      | _ => cases h
    | _ => cases h
  | .lc vs t it c e1, Γ, e, hg, h => by
    cases e with
    | ListComp elt gens scope pos =>
      match gens, h with
      | [⟨tg, iter, ifs, 0⟩], h =>
        have gen : blkC Γ.N Γ.sc scope (ownOf Γ.N vs) = true → nset iter = true → chkI it Γ tg iter = true → chkV t vs (inScope Γ scope) tg = true → chkE e1 (inScope Γ scope) elt = true →
            (∃ tt, (∀ X, CxOk G cl ar vf gv lv (inScope Γ scope) X → PTs X ifs tt) ∧ STt G (evT cl c) tt) → OkE G cl ar vf gv lv (.lc vs t it c e1) Γ (.ListComp elt [⟨tg, iter, ifs, 0⟩] scope pos) := fun b1 b2 b3 b4 b5 ⟨tt, p3, q3⟩ => by
          obtain ⟨wi, p1, q1⟩ := chkI_ok it Γ tg iter hg b3
          obtain ⟨g, p2, q2⟩ := chkV_ok t vs (inScope Γ scope) tg ⟨hg.val, hg.cls⟩ b4
          obtain ⟨te, p4, q4⟩ := chkE_ok e1 (inScope Γ scope) elt ⟨hg.val, hg.cls⟩ b5
          have hvs : (ownOf Γ.N vs).map (·.2) = vs := by
            unfold ownOf
            rw [List.map_map]
            exact List.map_id' vs
          refine ⟨tLc wi g tt te vs, fun X C => ?_, se_lc q1 q2 q3 q4⟩
          have ok : BlkOk X.N X.env.scope scope (ownOf Γ.N vs) := by
            rw [C.N, C.sc]
            exact blkOk_by b1
          have := pe_lc (pos := pos) C.calm C.nd (p1 X C) ok (fun s H c cs fp => p2 _ (C.blk b1)) (fun s H c cs fp => p3 _ (C.blk b1)) (fun s H c cs fp => p4 _ (C.blk b1)) (nset_fold b2)
          rw [hvs] at this
          exact this
        cases ifs with
        | nil =>
          cases c with
          | nil =>
            obtain ⟨b1, h⟩ := ba2 (show (blkC Γ.N Γ.sc scope (ownOf Γ.N vs) && (nset iter && (chkI it Γ tg iter && (chkV t vs (inScope Γ scope) tg && (true && chkE e1 (inScope Γ scope) elt))))) = true from h)
            obtain ⟨b2, h⟩ := ba2 h
            obtain ⟨b3, h⟩ := ba2 h
            obtain ⟨b4, h⟩ := ba2 h
            obtain ⟨_, b5⟩ := ba2 h
            exact gen b1 b2 b3 b4 b5 ⟨tYes, fun X C => pts_nil, st_yes G⟩
          | _ =>
            obtain ⟨b1, h⟩ := ba2 (show (blkC Γ.N Γ.sc scope (ownOf Γ.N vs) && (nset iter && (chkI it Γ tg iter && (chkV t vs (inScope Γ scope) tg && (false && chkE e1 (inScope Γ scope) elt))))) = true from h)
            obtain ⟨b2, h⟩ := ba2 h
            obtain ⟨b3, h⟩ := ba2 h
            obtain ⟨b4, h⟩ := ba2 h
            obtain ⟨b5, _⟩ := ba2 h
            cases b5
        | cons y ys =>
          cases ys with
          | cons _ _ =>
            have h' : (blkC Γ.N Γ.sc scope (ownOf Γ.N vs) && (nset iter && (chkI it Γ tg iter && (chkV t vs (inScope Γ scope) tg && (false && chkE e1 (inScope Γ scope) elt))))) = true := by cases c <;> exact h
            obtain ⟨b1, h⟩ := ba2 h'
            obtain ⟨b2, h⟩ := ba2 h
            obtain ⟨b3, h⟩ := ba2 h
            obtain ⟨b4, h⟩ := ba2 h
            obtain ⟨b5, _⟩ := ba2 h
            cases b5
          | nil =>
            have h' : (blkC Γ.N Γ.sc scope (ownOf Γ.N vs) && (nset iter && (chkI it Γ tg iter && (chkV t vs (inScope Γ scope) tg && (chkT c (inScope Γ scope) y && chkE e1 (inScope Γ scope) elt))))) = true := by cases c <;> exact h
            obtain ⟨b1, h⟩ := ba2 h'
            obtain ⟨b2, h⟩ := ba2 h
            obtain ⟨b3, h⟩ := ba2 h
            obtain ⟨b4, h⟩ := ba2 h
            obtain ⟨b6, b5⟩ := ba2 h
            obtain ⟨tt, p3, q3⟩ := chkT_ok c (inScope Γ scope) y ⟨hg.val, hg.cls⟩ b6
            exact gen b1 b2 b3 b4 b5 ⟨tt, fun X C => pts_one (p3 X C), q3⟩
    | _ => cases h
  | .nil, Γ, e, hg, h => by cases h
  | .cons _ _, Γ, e, hg, h => by cases h
  | .ioa _ _, Γ, e, hg, h => by cases h
  | .rng1 _, Γ, e, hg, h => by cases h
  | .rng2 _ _, Γ, e, hg, h => by cases h
  | .enm _, Γ, e, hg, h => by cases h
  | .zip _ _, Γ, e, hg, h => by cases h
  | .it _, Γ, e, hg, h => by cases h
  | .tr _, Γ, e, hg, h => by cases h
theorem chkL_ok : ∀ (es : E) (Γ : Gm) (l : List Expr), GvOk G gv Γ → chkL es Γ l = true → OkL G cl ar vf gv lv es Γ l
  | .nil, Γ, l, hg, h => by
    cases l with
    | nil => exact ⟨_, fun X C => pa_nil, sl_nil, sp_nil⟩
    | cons => cases h
  | .cons a r, Γ, l, hg, h => by
    cases l with
    | nil => cases h
    | cons e es =>
      obtain ⟨h1, h2⟩ := ba2 (show (nst e && (chkE a Γ e && chkL r Γ es)) = true from h)
      obtain ⟨h2, h3⟩ := ba2 h2
      obtain ⟨t, p1, q1⟩ := chkE_ok a Γ e hg h2
      obtain ⟨u, p2, q2, q3⟩ := chkL_ok r Γ es hg h3
      exact ⟨_, fun X C => pa_cons (p1 X C) (p2 X C) (star1 h1), sl_cons q1 q2, sp_cons q1 q3⟩
  | .var _, Γ, l, hg, h => by cases l <;> cases h
  | .con _, Γ, l, hg, h => by cases l <;> cases h
  | .glo _ _, Γ, l, hg, h => by cases l <;> cases h
  | .ioa _ _, Γ, l, hg, h => by cases l <;> cases h
  | .tup _, Γ, l, hg, h => by cases l <;> cases h
  | .lst _, Γ, l, hg, h => by cases l <;> cases h
  | .neg _, Γ, l, hg, h => by cases l <;> cases h
  | .bin _ _ _, Γ, l, hg, h => by cases l <;> cases h
  | .cmp _ _ _, Γ, l, hg, h => by cases l <;> cases h
  | .cmp2 _ _ _ _ _, Γ, l, hg, h => by cases l <;> cases h
  | .not _, Γ, l, hg, h => by cases l <;> cases h
  | .and _ _, Γ, l, hg, h => by cases l <;> cases h
  | .or _ _, Γ, l, hg, h => by cases l <;> cases h
  | .ife _ _ _, Γ, l, hg, h => by cases l <;> cases h
  | .idx _ _, Γ, l, hg, h => by cases l <;> cases h
  | .sl _ _ _, Γ, l, hg, h => by cases l <;> cases h
  | .call _ _, Γ, l, hg, h => by cases l <;> cases h
  | .callk _ _ _ _, Γ, l, hg, h => by cases l <;> cases h
  | .fld _ _, Γ, l, hg, h => by cases l <;> cases h
  | .mk _ _ _ _, Γ, l, hg, h => by cases l <;> cases h
  | .isinc _ _ _, Γ, l, hg, h => by cases l <;> cases h
  | .calf _ _ _, Γ, l, hg, h => by cases l <;> cases h
  | .calv _ _, Γ, l, hg, h => by cases l <;> cases h
  | .vop _ _ _ _, Γ, l, hg, h => by cases l <;> cases h
  | .uop _ _, Γ, l, hg, h => by cases l <;> cases h
  | .bm _ _ _, Γ, l, hg, h => by cases l <;> cases h
  | .mkk _ _ _ _ _ _, Γ, l, hg, h => by cases l <;> cases h
  | .oeq _ _ _ _ _, Γ, l, hg, h => by cases l <;> cases h
  | .blt _ _, Γ, l, hg, h => by cases l <;> cases h
  | .isin _ _, Γ, l, hg, h => by cases l <;> cases h
  | .lc _ _ _ _ _, Γ, l, hg, h => by cases l <;> cases h
  | .rng1 _, Γ, l, hg, h => by cases l <;> cases h
  | .rng2 _ _, Γ, l, hg, h => by cases l <;> cases h
  | .enm _, Γ, l, hg, h => by cases l <;> cases h
  | .zip _ _, Γ, l, hg, h => by cases l <;> cases h
  | .it _, Γ, l, hg, h => by cases l <;> cases h
  | .tr _, Γ, l, hg, h => by cases l <;> cases h
theorem chkA_ok : ∀ (es : E) (Γ : Gm) (l : List Expr), GvOk G gv Γ → chkA es Γ l = true → OkA G cl ar vf gv lv es Γ l
  | .nil, Γ, l, hg, h => by
    cases l with
    | nil => exact ⟨_, fun X C => pa_nil, sa_nil⟩
    | cons => cases h
  | .cons a r, Γ, l, hg, h => by
    cases l with
    | nil => cases h
    | cons e es =>
      obtain ⟨h1, h2⟩ := ba2 (show (nst e && (chkE a Γ e && chkA r Γ es)) = true from h)
      obtain ⟨h2, h3⟩ := ba2 h2
      obtain ⟨t, p1, q1⟩ := chkE_ok a Γ e hg h2
      obtain ⟨u, p2, q2⟩ := chkA_ok r Γ es hg h3
      exact ⟨_, fun X C => pa_cons (p1 X C) (p2 X C) (star1 h1), sa_cons q1 q2⟩
  | .ioa i r, Γ, l, hg, h => by
    cases l with
    | nil => cases h
    | cons e es =>
      cases e with
      | Name x p =>
        obtain ⟨h1, h2⟩ := ba2 (show (varB Γ i x && chkA r Γ es) = true from h)
        obtain ⟨u, p2, q2⟩ := chkA_ok r Γ es hg h2
        exact ⟨_, fun X C => pa_cons ((C.var h1).2.2.2.2) (p2 X C) (star1 rfl), sa_io q2⟩
      | _ => cases h
  | .var _, Γ, l, hg, h => by cases l <;> cases h
  | .con _, Γ, l, hg, h => by cases l <;> cases h
  | .glo _ _, Γ, l, hg, h => by cases l <;> cases h
  | .tup _, Γ, l, hg, h => by cases l <;> cases h
  | .lst _, Γ, l, hg, h => by cases l <;> cases h
  | .neg _, Γ, l, hg, h => by cases l <;> cases h
  | .bin _ _ _, Γ, l, hg, h => by cases l <;> cases h
  | .cmp _ _ _, Γ, l, hg, h => by cases l <;> cases h
  | .cmp2 _ _ _ _ _, Γ, l, hg, h => by cases l <;> cases h
  | .not _, Γ, l, hg, h => by cases l <;> cases h
  | .and _ _, Γ, l, hg, h => by cases l <;> cases h
  | .or _ _, Γ, l, hg, h => by cases l <;> cases h
  | .ife _ _ _, Γ, l, hg, h => by cases l <;> cases h
  | .idx _ _, Γ, l, hg, h => by cases l <;> cases h
  | .sl _ _ _, Γ, l, hg, h => by cases l <;> cases h
  | .call _ _, Γ, l, hg, h => by cases l <;> cases h
  | .callk _ _ _ _, Γ, l, hg, h => by cases l <;> cases h
  | .fld _ _, Γ, l, hg, h => by cases l <;> cases h
  | .mk _ _ _ _, Γ, l, hg, h => by cases l <;> cases h
  | .isinc _ _ _, Γ, l, hg, h => by cases l <;> cases h
  | .calf _ _ _, Γ, l, hg, h => by cases l <;> cases h
  | .calv _ _, Γ, l, hg, h => by cases l <;> cases h
  | .vop _ _ _ _, Γ, l, hg, h => by cases l <;> cases h
  | .uop _ _, Γ, l, hg, h => by cases l <;> cases h
  | .bm _ _ _, Γ, l, hg, h => by cases l <;> cases h
  | .mkk _ _ _ _ _ _, Γ, l, hg, h => by cases l <;> cases h
  | .oeq _ _ _ _ _, Γ, l, hg, h => by cases l <;> cases h
  | .blt _ _, Γ, l, hg, h => by cases l <;> cases h
  | .isin _ _, Γ, l, hg, h => by cases l <;> cases h
  | .lc _ _ _ _ _, Γ, l, hg, h => by cases l <;> cases h
  | .rng1 _, Γ, l, hg, h => by cases l <;> cases h
  | .rng2 _ _, Γ, l, hg, h => by cases l <;> cases h
  | .enm _, Γ, l, hg, h => by cases l <;> cases h
  | .zip _ _, Γ, l, hg, h => by cases l <;> cases h
  | .it _, Γ, l, hg, h => by cases l <;> cases h
  | .tr _, Γ, l, hg, h => by cases l <;> cases h
theorem chkK_ok : ∀ (es : E) (Γ : Gm) (l : List Keyword), GvOk G gv Γ → chkK es Γ l = true → OkK G cl ar vf gv lv es Γ l
  | .nil, Γ, l, hg, h => by
    cases l with
    | nil => exact ⟨_, fun X C => pk_nil, sa_nil⟩
    | cons => cases h
  | .cons a r, Γ, l, hg, h => by
    cases l with
    | nil => cases h
    | cons e es =>
      obtain ⟨nm, v, kp⟩ := e
      obtain ⟨h1, h2⟩ := ba2 (show (chkE a Γ v && chkK r Γ es) = true from h)
      obtain ⟨t, p1, q1⟩ := chkE_ok a Γ v hg h1
      obtain ⟨u, p2, q2⟩ := chkK_ok r Γ es hg h2
      exact ⟨_, fun X C => pk_cons (p1 X C) (p2 X C), sa_cons q1 q2⟩
  | .var _, Γ, l, hg, h => by cases l <;> cases h
  | .con _, Γ, l, hg, h => by cases l <;> cases h
  | .glo _ _, Γ, l, hg, h => by cases l <;> cases h
  | .ioa _ _, Γ, l, hg, h => by cases l <;> cases h
  | .tup _, Γ, l, hg, h => by cases l <;> cases h
  | .lst _, Γ, l, hg, h => by cases l <;> cases h
  | .neg _, Γ, l, hg, h => by cases l <;> cases h
  | .bin _ _ _, Γ, l, hg, h => by cases l <;> cases h
  | .cmp _ _ _, Γ, l, hg, h => by cases l <;> cases h
  | .cmp2 _ _ _ _ _, Γ, l, hg, h => by cases l <;> cases h
  | .not _, Γ, l, hg, h => by cases l <;> cases h
  | .and _ _, Γ, l, hg, h => by cases l <;> cases h
  | .or _ _, Γ, l, hg, h => by cases l <;> cases h
  | .ife _ _ _, Γ, l, hg, h => by cases l <;> cases h
  | .idx _ _, Γ, l, hg, h => by cases l <;> cases h
  | .sl _ _ _, Γ, l, hg, h => by cases l <;> cases h
  | .call _ _, Γ, l, hg, h => by cases l <;> cases h
  | .callk _ _ _ _, Γ, l, hg, h => by cases l <;> cases h
  | .fld _ _, Γ, l, hg, h => by cases l <;> cases h
  | .mk _ _ _ _, Γ, l, hg, h => by cases l <;> cases h
  | .isinc _ _ _, Γ, l, hg, h => by cases l <;> cases h
  | .calf _ _ _, Γ, l, hg, h => by cases l <;> cases h
  | .calv _ _, Γ, l, hg, h => by cases l <;> cases h
  | .vop _ _ _ _, Γ, l, hg, h => by cases l <;> cases h
  | .uop _ _, Γ, l, hg, h => by cases l <;> cases h
  | .bm _ _ _, Γ, l, hg, h => by cases l <;> cases h
  | .mkk _ _ _ _ _ _, Γ, l, hg, h => by cases l <;> cases h
  | .oeq _ _ _ _ _, Γ, l, hg, h => by cases l <;> cases h
  | .blt _ _, Γ, l, hg, h => by cases l <;> cases h
  | .isin _ _, Γ, l, hg, h => by cases l <;> cases h
  | .lc _ _ _ _ _, Γ, l, hg, h => by cases l <;> cases h
  | .rng1 _, Γ, l, hg, h => by cases l <;> cases h
  | .rng2 _ _, Γ, l, hg, h => by cases l <;> cases h
  | .enm _, Γ, l, hg, h => by cases l <;> cases h
  | .zip _ _, Γ, l, hg, h => by cases l <;> cases h
  | .it _, Γ, l, hg, h => by cases l <;> cases h
  | .tr _, Γ, l, hg, h => by cases l <;> cases h
theorem chkO_ok : ∀ (es : E) (Γ : Gm) (l : Option Expr), GvOk G gv Γ → chkO es Γ l = true → OkO G cl ar vf gv lv es Γ l
  | .nil, Γ, l, hg, h => by
    cases l with
    | none => exact ⟨_, fun X C => po_none, so_none⟩
    | some => cases h
  | .cons a r, Γ, l, hg, h => by
    cases l with
    | none => cases h
    | some e =>
      obtain ⟨t, p1, q1⟩ := chkE_ok a Γ e hg h
      exact ⟨_, fun X C => po_some (p1 X C), so_some q1⟩
  | .var _, Γ, l, hg, h => by cases l <;> cases h
  | .con _, Γ, l, hg, h => by cases l <;> cases h
  | .glo _ _, Γ, l, hg, h => by cases l <;> cases h
  | .ioa _ _, Γ, l, hg, h => by cases l <;> cases h
  | .tup _, Γ, l, hg, h => by cases l <;> cases h
  | .lst _, Γ, l, hg, h => by cases l <;> cases h
  | .neg _, Γ, l, hg, h => by cases l <;> cases h
  | .bin _ _ _, Γ, l, hg, h => by cases l <;> cases h
  | .cmp _ _ _, Γ, l, hg, h => by cases l <;> cases h
  | .cmp2 _ _ _ _ _, Γ, l, hg, h => by cases l <;> cases h
  | .not _, Γ, l, hg, h => by cases l <;> cases h
  | .and _ _, Γ, l, hg, h => by cases l <;> cases h
  | .or _ _, Γ, l, hg, h => by cases l <;> cases h
  | .ife _ _ _, Γ, l, hg, h => by cases l <;> cases h
  | .idx _ _, Γ, l, hg, h => by cases l <;> cases h
  | .sl _ _ _, Γ, l, hg, h => by cases l <;> cases h
  | .call _ _, Γ, l, hg, h => by cases l <;> cases h
  | .callk _ _ _ _, Γ, l, hg, h => by cases l <;> cases h
  | .fld _ _, Γ, l, hg, h => by cases l <;> cases h
  | .mk _ _ _ _, Γ, l, hg, h => by cases l <;> cases h
  | .isinc _ _ _, Γ, l, hg, h => by cases l <;> cases h
  | .calf _ _ _, Γ, l, hg, h => by cases l <;> cases h
  | .calv _ _, Γ, l, hg, h => by cases l <;> cases h
  | .vop _ _ _ _, Γ, l, hg, h => by cases l <;> cases h
  | .uop _ _, Γ, l, hg, h => by cases l <;> cases h
  | .bm _ _ _, Γ, l, hg, h => by cases l <;> cases h
  | .mkk _ _ _ _ _ _, Γ, l, hg, h => by cases l <;> cases h
  | .oeq _ _ _ _ _, Γ, l, hg, h => by cases l <;> cases h
  | .blt _ _, Γ, l, hg, h => by cases l <;> cases h
  | .isin _ _, Γ, l, hg, h => by cases l <;> cases h
  | .lc _ _ _ _ _, Γ, l, hg, h => by cases l <;> cases h
  | .rng1 _, Γ, l, hg, h => by cases l <;> cases h
  | .rng2 _ _, Γ, l, hg, h => by cases l <;> cases h
  | .enm _, Γ, l, hg, h => by cases l <;> cases h
  | .zip _ _, Γ, l, hg, h => by cases l <;> cases h
  | .it _, Γ, l, hg, h => by cases l <;> cases h
  | .tr _, Γ, l, hg, h => by cases l <;> cases h
theorem chkT_ok : ∀ (c : E) (Γ : Gm) (e : Expr), GvOk G gv Γ → chkT c Γ e = true → OkT G cl ar vf gv lv c Γ e
  | .not a, Γ, e, hg, h => by
    cases e with
    | UnaryOp op x p =>
      cases op with
      | Not =>
        obtain ⟨t, p1, q1⟩ := chkT_ok a Γ x hg h
        exact ⟨_, fun X C => pt_not (p1 X C), se_not q1⟩
      | _ => cases h
    | _ => cases h
  | .and a b, Γ, e, hg, h => by
    cases e with
    | BoolOp op l p =>
      cases op with
      | Or => cases h
      | And =>
        match l, h with
        | x :: y :: r, h =>
          cases r with
          | nil =>
            obtain ⟨h1, h2⟩ := ba2 (show (chkT a Γ x && chkT b Γ y) = true from h)
            obtain ⟨t, p1, q1⟩ := chkT_ok a Γ x hg h1
            obtain ⟨u, p2, q2⟩ := chkT_ok b Γ y hg h2
            exact ⟨_, fun X C => (pw_and (p1 X C) (pw_and1 (p2 X C))).pt, st_and q1 q2⟩
          | cons z r =>
            obtain ⟨h1, h2⟩ := ba2 (show (chkT a Γ x && chkT b Γ (.BoolOp .And (y :: z :: r) p)) = true from h)
            obtain ⟨t, p1, q1⟩ := chkT_ok a Γ x hg h1
            obtain ⟨u, p2, q2⟩ := chkT_ok b Γ _ hg h2
            exact ⟨_, fun X C => (pw_and (p1 X C) (pw_of (p2 X C))).pt, st_and q1 q2⟩
    | _ => cases h
  | .or a b, Γ, e, hg, h => by
    cases e with
    | BoolOp op l p =>
      cases op with
      | And => cases h
      | Or =>
        match l, h with
        | x :: y :: r, h =>
          cases r with
          | nil =>
            obtain ⟨h1, h2⟩ := ba2 (show (chkT a Γ x && chkT b Γ y) = true from h)
            obtain ⟨t, p1, q1⟩ := chkT_ok a Γ x hg h1
            obtain ⟨u, p2, q2⟩ := chkT_ok b Γ y hg h2
            exact ⟨_, fun X C => (pw_or (p1 X C) (pw_or1 (p2 X C))).pt, st_or q1 q2⟩
          | cons z r =>
            obtain ⟨h1, h2⟩ := ba2 (show (chkT a Γ x && chkT b Γ (.BoolOp .Or (y :: z :: r) p)) = true from h)
            obtain ⟨t, p1, q1⟩ := chkT_ok a Γ x hg h1
            obtain ⟨u, p2, q2⟩ := chkT_ok b Γ _ hg h2
            exact ⟨_, fun X C => (pw_or (p1 X C) (pw_of (p2 X C))).pt, st_or q1 q2⟩
    | _ => cases h
  | .tr a, Γ, e, hg, h => by
    obtain ⟨h1, h2⟩ := ba2 (show (chkE a Γ e && (plainT e || isCmpE a)) = true from h)
    obtain ⟨t, p1, q1⟩ := chkE_ok a Γ e hg h1
    by_cases hp : plainT e = true
    · exact ⟨_, fun X C => C.K ▸ pt_truth (p1 X C) (plain_isTrue hp), st_tr q1⟩
    · have hc : isCmpE a = true := (Bool.or_eq_true_iff.mp h2).resolve_left hp
      cases a with
      | cmp o a b =>
        cases e with
        | Compare l ops rs p =>
          match ops, rs, h1 with
          | [op], [r], h1 =>
            obtain ⟨k1, k2⟩ := ba2 (show (decide (op = copOf o) && (!behindInMarks op r && (chkE a Γ l && chkE b Γ r))) = true from h1)
            have e := of_decide_eq_true k1
            subst e
            obtain ⟨k2, k3⟩ := ba2 k2
            obtain ⟨k3, k4⟩ := ba2 k3
            obtain ⟨t1, p1, q1⟩ := chkE_ok a Γ l hg k3
            obtain ⟨t2, p2, q2⟩ := chkE_ok b Γ r hg k4
            obtain ⟨z, r1, r2⟩ := cop_ok G o
            exact ⟨_, fun X C => pt_cmpR (r1 X C.K C.un) (p1 X C) (p2 X C) (by simpa using k2), st_trB G (se_cmp q1 q2 r2) (cmp_bl cl)⟩
        | _ => cases h1
      | oeq ng c f a b =>
        cases e with
        | Compare l ops rs p =>
          match ops, rs, h1 with
          | [op], [r], h1 =>
            obtain ⟨k1, k2⟩ := ba2 (show (decide (op = if ng = true then .NotEq else .Eq) && (decide ((c, f) ∈ Γ.eqs) && (!behindInMarks op r && (chkE a Γ l && chkE b Γ r)))) = true from h1)
            have e := of_decide_eq_true k1
            subst e
            obtain ⟨k2, k3⟩ := ba2 k2
            obtain ⟨k3, k4⟩ := ba2 k3
            obtain ⟨k4, k5⟩ := ba2 k4
            obtain ⟨t1, p1, q1⟩ := chkE_ok a Γ l hg k4
            obtain ⟨t2, p2, q2⟩ := chkE_ok b Γ r hg k5
            exact ⟨_, fun X C => pt_cmpR (oeq_op C ng (of_decide_eq_true k2)) (p1 X C) (p2 X C) (by simpa using k3), st_trB G (se_oeq (E := fun _ _ _ => False) (fun fl ds x => hn f fl ds x) q1 q2) (oeq_bl cl)⟩
        | _ => cases h1
      | cmp2 o1 o2 a b c =>
        cases e with
        | Compare l ops rs p =>
          match ops, rs, h1 with
          | [o, o'], [m, r], h1 =>
            obtain ⟨k1, k2⟩ := ba2 (show (decide (o = copOf o1) && (decide (o' = copOf o2) && (!lastMarks [o, o'] [m, r] && (chkE a Γ l && (chkE b Γ m && chkE c Γ r))))) = true from h1)
            have e := of_decide_eq_true k1
            subst e
            obtain ⟨k2, k3⟩ := ba2 k2
            have e := of_decide_eq_true k2
            subst e
            obtain ⟨k3, k4⟩ := ba2 k3
            obtain ⟨k4, k5⟩ := ba2 k4
            obtain ⟨k5, k6⟩ := ba2 k5
            obtain ⟨t, p1, q1⟩ := chkE_ok a Γ l hg k4
            obtain ⟨u, p2, q2⟩ := chkE_ok b Γ m hg k5
            obtain ⟨v, p3, q3⟩ := chkE_ok c Γ r hg k6
            obtain ⟨z, r1, r2⟩ := cop_ok G o1
            obtain ⟨z', r1', r2'⟩ := cop_ok G o2
            exact ⟨_, fun X C => pt_chain (r1 X C.K C.un) (r1' X C.K C.un) (p1 X C) (p2 X C) (p3 X C) (by simpa using k3), st_trB G (se_cmp2 q1 q2 q3 r2 r2') (cmp2_bl cl)⟩
        | _ => cases h1
      | _ => cases hc
  | .var _, Γ, e, hg, h => by cases h
  | .con _, Γ, e, hg, h => by cases h
  | .glo _ _, Γ, e, hg, h => by cases h
  | .nil, Γ, e, hg, h => by cases h
  | .cons _ _, Γ, e, hg, h => by cases h
  | .ioa _ _, Γ, e, hg, h => by cases h
  | .tup _, Γ, e, hg, h => by cases h
  | .lst _, Γ, e, hg, h => by cases h
  | .neg _, Γ, e, hg, h => by cases h
  | .bin _ _ _, Γ, e, hg, h => by cases h
  | .cmp _ _ _, Γ, e, hg, h => by cases h
  | .cmp2 _ _ _ _ _, Γ, e, hg, h => by cases h
  | .ife _ _ _, Γ, e, hg, h => by cases h
  | .idx _ _, Γ, e, hg, h => by cases h
  | .sl _ _ _, Γ, e, hg, h => by cases h
  | .call _ _, Γ, e, hg, h => by cases h
  | .callk _ _ _ _, Γ, e, hg, h => by cases h
  | .fld _ _, Γ, e, hg, h => by cases h
  | .mk _ _ _ _, Γ, e, hg, h => by cases h
  | .isinc _ _ _, Γ, e, hg, h => by cases h
  | .calf _ _ _, Γ, e, hg, h => by cases h
  | .calv _ _, Γ, e, hg, h => by cases h
  | .vop _ _ _ _, Γ, e, hg, h => by cases h
  | .uop _ _, Γ, e, hg, h => by cases h
  | .bm _ _ _, Γ, e, hg, h => by cases h
  | .mkk _ _ _ _ _ _, Γ, e, hg, h => by cases h
  | .oeq _ _ _ _ _, Γ, e, hg, h => by cases h
  | .blt _ _, Γ, e, hg, h => by cases h
  | .isin _ _, Γ, e, hg, h => by cases h
  | .lc _ _ _ _ _, Γ, e, hg, h => by cases h
  | .rng1 _, Γ, e, hg, h => by cases h
  | .rng2 _ _, Γ, e, hg, h => by cases h
  | .enm _, Γ, e, hg, h => by cases h
  | .zip _ _, Γ, e, hg, h => by cases h
  | .it _, Γ, e, hg, h => by cases h
theorem chkI_ok : ∀ (it : E) (Γ : Gm) (tg e : Expr), GvOk G gv Γ → chkI it Γ tg e = true → OkI G cl ar vf gv lv it Γ tg e
  | .rng1 a, Γ, tg, e, hg, h => by
    cases e with
    | Call fe args kws pos =>
      cases fe with
      | Name x p =>
        match args, kws, h with
        | [e], [], h =>
          obtain ⟨h1, h2⟩ := ba2 (show (decide (x = "range") && (freeB Γ x && (nst e && chkE a Γ e))) = true from h)
          have ex := of_decide_eq_true h1
          subst ex
          obtain ⟨h2, h3⟩ := ba2 h2
          obtain ⟨h3, h4⟩ := ba2 h3
          obtain ⟨t, p1, q1⟩ := chkE_ok a Γ e hg h4
          refine ⟨_, fun X C => ?_, si_rng1 q1⟩
          obtain ⟨f1, f2, f3, f4⟩ := C.fr h2
          exact pi_range1 f1 f2 (pa_cons (p1 X C) pa_nil (star1 h3)) (star1 h3)
      | _ => cases h
    | _ => cases h
  | .rng2 a b, Γ, tg, e, hg, h => by
    cases e with
    | Call fe args kws pos =>
      cases fe with
      | Name x p =>
        match args, kws, h with
        | [e, f], [], h =>
          obtain ⟨h1, h2⟩ := ba2 (show (decide (x = "range") && (freeB Γ x && (nst e && (nst f && (chkE a Γ e && chkE b Γ f))))) = true from h)
          have ex := of_decide_eq_true h1
          subst ex
          obtain ⟨h2, h3⟩ := ba2 h2
          obtain ⟨h3, h4⟩ := ba2 h3
          obtain ⟨h4, h5⟩ := ba2 h4
          obtain ⟨h5, h6⟩ := ba2 h5
          obtain ⟨t, p1, q1⟩ := chkE_ok a Γ e hg h5
          obtain ⟨u, p2, q2⟩ := chkE_ok b Γ f hg h6
          refine ⟨_, fun X C => ?_, si_rng2 q1 q2⟩
          obtain ⟨f1, f2, f3, f4⟩ := C.fr h2
          exact pi_range2 f1 f2 (pa_cons (p1 X C) (pa_cons (p2 X C) pa_nil (star1 h4)) (star1 h3)) (by rw [star1 h3, star1 h4]; rfl) (star1 h4)
      | _ => cases h
    | _ => cases h
  | .enm a, Γ, tg, e, hg, h => by
    cases tg with
    | Tuple elts kk tp =>
      cases e with
      | Call fe args kws pos =>
        cases fe with
        | Name x p =>
          match args, kws, h with
          | [e], [], h =>
            obtain ⟨h1, h2⟩ := ba2 (show (decide (x = "enumerate") && (freeB Γ x && (nst e && chkE a Γ e))) = true from h)
            have ex := of_decide_eq_true h1
            subst ex
            obtain ⟨h2, h3⟩ := ba2 h2
            obtain ⟨h3, h4⟩ := ba2 h3
            obtain ⟨t, p1, q1⟩ := chkE_ok a Γ e hg h4
            refine ⟨_, fun X C => ?_, si_enm q1⟩
            obtain ⟨f1, f2, f3, f4⟩ := C.fr h2
            exact C.K ▸ pi_enumS f1 f2 (pa_cons (p1 X C) pa_nil (star1 h3)) (star1 h3)
        | _ => cases h
      | _ => cases h
    | _ => cases h
  | .it a, Γ, tg, e, hg, h => by
    obtain ⟨t, p1, q1⟩ := chkE_ok a Γ e hg h
    exact ⟨_, fun X C => C.K ▸ pi_seq (p1 X C), si_it q1⟩
  | .var _, Γ, tg, e, hg, h => by cases h
  | .con _, Γ, tg, e, hg, h => by cases h
  | .glo _ _, Γ, tg, e, hg, h => by cases h
  | .nil, Γ, tg, e, hg, h => by cases h
  | .cons _ _, Γ, tg, e, hg, h => by cases h
  | .ioa _ _, Γ, tg, e, hg, h => by cases h
  | .tup _, Γ, tg, e, hg, h => by cases h
  | .lst _, Γ, tg, e, hg, h => by cases h
  | .neg _, Γ, tg, e, hg, h => by cases h
  | .bin _ _ _, Γ, tg, e, hg, h => by cases h
  | .cmp _ _ _, Γ, tg, e, hg, h => by cases h
  | .cmp2 _ _ _ _ _, Γ, tg, e, hg, h => by cases h
  | .not _, Γ, tg, e, hg, h => by cases h
  | .and _ _, Γ, tg, e, hg, h => by cases h
  | .or _ _, Γ, tg, e, hg, h => by cases h
  | .ife _ _ _, Γ, tg, e, hg, h => by cases h
  | .idx _ _, Γ, tg, e, hg, h => by cases h
  | .sl _ _ _, Γ, tg, e, hg, h => by cases h
  | .call _ _, Γ, tg, e, hg, h => by cases h
  | .callk _ _ _ _, Γ, tg, e, hg, h => by cases h
  | .fld _ _, Γ, tg, e, hg, h => by cases h
  | .mk _ _ _ _, Γ, tg, e, hg, h => by cases h
  | .isinc _ _ _, Γ, tg, e, hg, h => by cases h
  | .calf _ _ _, Γ, tg, e, hg, h => by cases h
  | .calv _ _, Γ, tg, e, hg, h => by cases h
  | .vop _ _ _ _, Γ, tg, e, hg, h => by cases h
  | .uop _ _, Γ, tg, e, hg, h => by cases h
  | .bm _ _ _, Γ, tg, e, hg, h => by cases h
  | .mkk _ _ _ _ _ _, Γ, tg, e, hg, h => by cases h
  | .oeq _ _ _ _ _, Γ, tg, e, hg, h => by cases h
  | .blt _ _, Γ, tg, e, hg, h => by cases h
  | .isin _ _, Γ, tg, e, hg, h => by cases h
  | .lc _ _ _ _ _, Γ, tg, e, hg, h => by cases h
  | .zip _ _, Γ, tg, e, hg, h => by cases h
  | .tr _, Γ, tg, e, hg, h => by cases h
theorem chkV_ok : ∀ (t : E) (vs : List Nat) (Γ : Gm) (e : Expr), GvOk G gv Γ → chkV t vs Γ e = true → OkV G cl ar vf gv lv t vs Γ e
  | .var i, vs, Γ, e, hg, h => by
    cases e with
    | Name x p =>
      obtain ⟨h1, h2⟩ := ba2 (show (stvB Γ i x && decide (i ∈ vs)) = true from h)
      exact ⟨_, fun X C => C.stv h1, sgv_name (of_decide_eq_true h2)⟩
    | _ => cases h
  | .tup ts, vs, Γ, e, hg, h => by
    cases e with
    | Tuple l k p =>
      obtain ⟨u, p1, q1⟩ := chkVs_ok ts vs Γ l hg h
      refine ⟨gTup G.K l.length u, fun X C => C.K ▸ pg_tup C.calm (p1 X C).1 asgLen (p1 X C).2, ?_⟩
      have e : (fun d => evG cl (.tup ts) d .frz) = fun d ρ => match d with | .tup xs => evGs cl ts xs ρ | _ => .no := by
        funext d ρ
        cases d <;> rfl
      rw [e]
      exact sgv_tup (chkVs_len vs Γ l ts h) q1
    | _ => cases h
  | .con _, vs, Γ, e, hg, h => by cases h
  | .glo _ _, vs, Γ, e, hg, h => by cases h
  | .nil, vs, Γ, e, hg, h => by cases h
  | .cons _ _, vs, Γ, e, hg, h => by cases h
  | .ioa _ _, vs, Γ, e, hg, h => by cases h
  | .lst _, vs, Γ, e, hg, h => by cases h
  | .neg _, vs, Γ, e, hg, h => by cases h
  | .bin _ _ _, vs, Γ, e, hg, h => by cases h
  | .cmp _ _ _, vs, Γ, e, hg, h => by cases h
  | .cmp2 _ _ _ _ _, vs, Γ, e, hg, h => by cases h
  | .not _, vs, Γ, e, hg, h => by cases h
  | .and _ _, vs, Γ, e, hg, h => by cases h
  | .or _ _, vs, Γ, e, hg, h => by cases h
  | .ife _ _ _, vs, Γ, e, hg, h => by cases h
  | .idx _ _, vs, Γ, e, hg, h => by cases h
  | .sl _ _ _, vs, Γ, e, hg, h => by cases h
  | .call _ _, vs, Γ, e, hg, h => by cases h
  | .callk _ _ _ _, vs, Γ, e, hg, h => by cases h
  | .fld _ _, vs, Γ, e, hg, h => by cases h
  | .mk _ _ _ _, vs, Γ, e, hg, h => by cases h
  | .isinc _ _ _, vs, Γ, e, hg, h => by cases h
  | .calf _ _ _, vs, Γ, e, hg, h => by cases h
  | .calv _ _, vs, Γ, e, hg, h => by cases h
  | .vop _ _ _ _, vs, Γ, e, hg, h => by cases h
  | .uop _ _, vs, Γ, e, hg, h => by cases h
  | .bm _ _ _, vs, Γ, e, hg, h => by cases h
  | .mkk _ _ _ _ _ _, vs, Γ, e, hg, h => by cases h
  | .oeq _ _ _ _ _, vs, Γ, e, hg, h => by cases h
  | .blt _ _, vs, Γ, e, hg, h => by cases h
  | .isin _ _, vs, Γ, e, hg, h => by cases h
  | .lc _ _ _ _ _, vs, Γ, e, hg, h => by cases h
  | .rng1 _, vs, Γ, e, hg, h => by cases h
  | .rng2 _ _, vs, Γ, e, hg, h => by cases h
  | .enm _, vs, Γ, e, hg, h => by cases h
  | .zip _ _, vs, Γ, e, hg, h => by cases h
  | .it _, vs, Γ, e, hg, h => by cases h
  | .tr _, vs, Γ, e, hg, h => by cases h
theorem chkVs_ok : ∀ (t : E) (vs : List Nat) (Γ : Gm) (e : List Expr), GvOk G gv Γ → chkVs t vs Γ e = true → OkVs G cl ar vf gv lv t vs Γ e
  | .nil, vs, Γ, l, hg, h => by
    cases l with
    | nil =>
      refine ⟨_, fun X C => ⟨pgs_nil, rfl⟩, ?_⟩
      have e : evGs cl .nil = fun ds ρ => match ds with | [] => .ok () ρ | _ => .no := by
        funext ds ρ
        cases ds <;> rfl
      rw [e]
      exact sgv_nil
    | cons => cases h
  | .cons t ts, vs, Γ, l, hg, h => by
    cases l with
    | nil => cases h
    | cons e es =>
      obtain ⟨h1, h2⟩ := ba2 (show (nst e && (chkV t vs Γ e && chkVs ts vs Γ es)) = true from h)
      obtain ⟨h2, h3⟩ := ba2 h2
      obtain ⟨g, p1, q1⟩ := chkV_ok t vs Γ e hg h2
      obtain ⟨u, p2, q2⟩ := chkVs_ok ts vs Γ es hg h3
      refine ⟨gCons g u, fun X C => ⟨pgs_cons (p1 X C) (p2 X C).1 (by rw [asg1 h1]; rfl), by rw [asg1 h1]; simp [List.findIdx?_cons, (p2 X C).2]⟩, ?_⟩
      have e : evGs cl (.cons t ts) = fun ds ρ => match ds with | d :: ds => (evG cl t d .frz ρ).bind fun _ ρ => evGs cl ts ds ρ | [] => .no := by
        funext ds ρ
        cases ds <;> rfl
      rw [e]
      exact sgv_cons q1 q2
  | .var _, vs, Γ, l, hg, h => by cases l <;> cases h
  | .con _, vs, Γ, l, hg, h => by cases l <;> cases h
  | .glo _ _, vs, Γ, l, hg, h => by cases l <;> cases h
  | .ioa _ _, vs, Γ, l, hg, h => by cases l <;> cases h
  | .tup _, vs, Γ, l, hg, h => by cases l <;> cases h
  | .lst _, vs, Γ, l, hg, h => by cases l <;> cases h
  | .neg _, vs, Γ, l, hg, h => by cases l <;> cases h
  | .bin _ _ _, vs, Γ, l, hg, h => by cases l <;> cases h
  | .cmp _ _ _, vs, Γ, l, hg, h => by cases l <;> cases h
  | .cmp2 _ _ _ _ _, vs, Γ, l, hg, h => by cases l <;> cases h
  | .not _, vs, Γ, l, hg, h => by cases l <;> cases h
  | .and _ _, vs, Γ, l, hg, h => by cases l <;> cases h
  | .or _ _, vs, Γ, l, hg, h => by cases l <;> cases h
  | .ife _ _ _, vs, Γ, l, hg, h => by cases l <;> cases h
  | .idx _ _, vs, Γ, l, hg, h => by cases l <;> cases h
  | .sl _ _ _, vs, Γ, l, hg, h => by cases l <;> cases h
  | .call _ _, vs, Γ, l, hg, h => by cases l <;> cases h
  | .callk _ _ _ _, vs, Γ, l, hg, h => by cases l <;> cases h
  | .fld _ _, vs, Γ, l, hg, h => by cases l <;> cases h
  | .mk _ _ _ _, vs, Γ, l, hg, h => by cases l <;> cases h
  | .isinc _ _ _, vs, Γ, l, hg, h => by cases l <;> cases h
  | .calf _ _ _, vs, Γ, l, hg, h => by cases l <;> cases h
  | .calv _ _, vs, Γ, l, hg, h => by cases l <;> cases h
  | .vop _ _ _ _, vs, Γ, l, hg, h => by cases l <;> cases h
  | .uop _ _, vs, Γ, l, hg, h => by cases l <;> cases h
  | .bm _ _ _, vs, Γ, l, hg, h => by cases l <;> cases h
  | .mkk _ _ _ _ _ _, vs, Γ, l, hg, h => by cases l <;> cases h
  | .oeq _ _ _ _ _, vs, Γ, l, hg, h => by cases l <;> cases h
  | .blt _ _, vs, Γ, l, hg, h => by cases l <;> cases h
  | .isin _ _, vs, Γ, l, hg, h => by cases l <;> cases h
  | .lc _ _ _ _ _, vs, Γ, l, hg, h => by cases l <;> cases h
  | .rng1 _, vs, Γ, l, hg, h => by cases l <;> cases h
  | .rng2 _ _, vs, Γ, l, hg, h => by cases l <;> cases h
  | .enm _, vs, Γ, l, hg, h => by cases l <;> cases h
  | .zip _ _, vs, Γ, l, hg, h => by cases l <;> cases h
  | .it _, vs, Γ, l, hg, h => by cases l <;> cases h
  | .tr _, vs, Γ, l, hg, h => by cases l <;> cases h
end
end
end Mp

set_option maxRecDepth 100000
set_option maxHeartbeats 4000000
/-! Mp17: what the check says of statements. -/
namespace Mp
open PySem PySem.Spec PyProof.Rows L2
section
variable {G : GD} {cl : Nat → List Bool → List D → CRes} {ar : Nat → Nat} {vf : Nat → Prop} {gv : Str → V} {lv : Nat}
  (hn : ∀ f fl ds x, cl f fl ds = some x → ds.length = ar f) (hv : ∀ f fl ds x, cl f fl ds = some x → vf f) (inj : ∀ f g, vf f → vf g → G.fa f = G.fa g → f = g)
def OkG (G : GD) (cl : Nat → List Bool → List D → CRes) (ar : Nat → Nat) (vf : Nat → Prop) (gv : Str → V) (lv : Nat) (E : E) (Γ : Gm) (e : Expr) : Prop := ∃ t, (∀ X, CxOk G cl ar vf gv lv Γ X → PG X e t) ∧ SGt G (evG cl E) t
def OkGs (G : GD) (cl : Nat → List Bool → List D → CRes) (ar : Nat → Nat) (vf : Nat → Prop) (gv : Str → V) (lv : Nat) (E : E) (Γ : Gm) (l : List Expr) : Prop := ∃ t, (∀ X, CxOk G cl ar vf gv lv Γ X → PGs X l t ∧ (assignEach l X.env).findIdx? (·.1) = none) ∧ SGs G (evGs cl E) t
def OkS (G : GD) (cl : Nat → List Bool → List D → CRes) (ar : Nat → Nat) (vf : Nat → Prop) (gv : Str → V) (lv : Nat) (s : S) (Γ : Gm) (st : Stmt) : Prop := ∃ t, (∀ X, CxOk G cl ar vf gv lv Γ X → PS X st t) ∧ SSt G (evS cl s) t
def OkSs (G : GD) (cl : Nat → List Bool → List D → CRes) (ar : Nat → Nat) (vf : Nat → Prop) (gv : Str → V) (lv : Nat) (s : S) (Γ : Gm) (st : List Stmt) : Prop := ∃ t, (∀ X, CxOk G cl ar vf gv lv Γ X → PSs X st t) ∧ SSt G (evS cl s) t
theorem chkGs_len (Γ : Gm) : ∀ (l : List Expr) (ts : E), chkGs ts Γ l = true → ∀ ds ρ ρ', evGs cl ts ds ρ = .ok () ρ' → ds.length = l.length
  | [], ts, h, ds, ρ, ρ', e => by
    cases ts with
    | nil => cases ds with
      | nil => rfl
      | cons => cases e
    | _ => cases h
  | x :: l, ts, h, ds, ρ, ρ', e => by
    cases ts with
    | cons t ts =>
      obtain ⟨_, h2⟩ := ba2 (show (nst x && (chkG t Γ x && chkGs ts Γ l)) = true from h)
      obtain ⟨_, h3⟩ := ba2 h2
      cases ds with
      | nil => cases e
      | cons d ds =>
        obtain ⟨u, ρ1, _, e⟩ := bind_ok (show ((evG cl t d .frz ρ).bind fun _ ρ => evGs cl ts ds ρ) = .ok () ρ' from e)
        rw [List.length_cons, List.length_cons, chkGs_len Γ l ts h3 ds ρ1 ρ' e]
    | _ => cases h
include hn hv inj in
mutual
theorem chkG_ok : ∀ (t : E) (Γ : Gm) (e : Expr), GvOk G gv Γ → chkG t Γ e = true → OkG G cl ar vf gv lv t Γ e
  | .var i, Γ, e, hg, h => by
    cases e with
    | Name x p => exact ⟨_, fun X C => C.stv h, sg_name⟩
    | _ => cases h
  | .idx a i, Γ, e, hg, h => by
    cases a with
    | var j =>
      cases e with
      | Subscript o y p =>
        cases o with
        | Name x px =>
          obtain ⟨h1, h2⟩ := ba2 (show (varB Γ j x && (nsl y && chkE i Γ y)) = true from h)
          obtain ⟨hs, h2⟩ := ba2 h2
          obtain ⟨t, p1, q1⟩ := chkE_ok hn hv inj i Γ y hg h2
          refine ⟨_, fun X C => pg_sub (C.var h1).2.2.2.2 (p1 X C) (PSet.or set_list (set_dct C.K C.un)) (by intro v; cases y <;> first | rfl | cases hs), ?_⟩
          have e : evG cl (.idx (.var j) i) = fun d k ρ => match k with | .pk _ => .no | _ => if ownS (getS ρ j) = true then (evE cl i ρ).bind fun y ρ => storeIx ρ j y.1 d else .no := by
            funext d k ρ
            cases k <;> rfl
          rw [e]
          exact sg_idx q1
        | _ => cases h
      | _ => cases h
    | _ => cases h
  | .tup ts, Γ, e, hg, h => by
    cases e with
    | Tuple l k p =>
      obtain ⟨u, p1, q1⟩ := chkGs_ok ts Γ l hg h
      refine ⟨gTup G.K l.length u, fun X C => C.K ▸ pg_tup C.calm (p1 X C).1 asgLen (p1 X C).2, ?_⟩
      have e : evG cl (.tup ts) = fun d _ ρ => match d with | .tup xs => evGs cl ts xs ρ | _ => .no := by
        funext d k ρ
        cases d <;> rfl
      rw [e]
      exact sg_tup (chkGs_len Γ l ts h) q1
    | _ => cases h
  | .con _, Γ, e, hg, h => by cases h
  | .glo _ _, Γ, e, hg, h => by cases h
  | .nil, Γ, e, hg, h => by cases h
  | .cons _ _, Γ, e, hg, h => by cases h
  | .ioa _ _, Γ, e, hg, h => by cases h
  | .lst _, Γ, e, hg, h => by cases h
  | .neg _, Γ, e, hg, h => by cases h
  | .bin _ _ _, Γ, e, hg, h => by cases h
  | .cmp _ _ _, Γ, e, hg, h => by cases h
  | .cmp2 _ _ _ _ _, Γ, e, hg, h => by cases h
  | .not _, Γ, e, hg, h => by cases h
  | .and _ _, Γ, e, hg, h => by cases h
  | .or _ _, Γ, e, hg, h => by cases h
  | .ife _ _ _, Γ, e, hg, h => by cases h
  | .sl _ _ _, Γ, e, hg, h => by cases h
  | .call _ _, Γ, e, hg, h => by cases h
  | .callk _ _ _ _, Γ, e, hg, h => by cases h
  | .fld _ _, Γ, e, hg, h => by cases h
  | .mk _ _ _ _, Γ, e, hg, h => by cases h
  | .isinc _ _ _, Γ, e, hg, h => by cases h
  | .calf _ _ _, Γ, e, hg, h => by cases h
  | .calv _ _, Γ, e, hg, h => by cases h
  | .vop _ _ _ _, Γ, e, hg, h => by cases h
  | .uop _ _, Γ, e, hg, h => by cases h
  | .bm _ _ _, Γ, e, hg, h => by cases h
  | .mkk _ _ _ _ _ _, Γ, e, hg, h => by cases h
  | .oeq _ _ _ _ _, Γ, e, hg, h => by cases h
  | .blt _ _, Γ, e, hg, h => by cases h
  | .isin _ _, Γ, e, hg, h => by cases h
  | .lc _ _ _ _ _, Γ, e, hg, h => by cases h
  | .rng1 _, Γ, e, hg, h => by cases h
  | .rng2 _ _, Γ, e, hg, h => by cases h
  | .enm _, Γ, e, hg, h => by cases h
  | .zip _ _, Γ, e, hg, h => by cases h
  | .it _, Γ, e, hg, h => by cases h
  | .tr _, Γ, e, hg, h => by cases h
theorem chkGs_ok : ∀ (t : E) (Γ : Gm) (e : List Expr), GvOk G gv Γ → chkGs t Γ e = true → OkGs G cl ar vf gv lv t Γ e
  | .nil, Γ, l, hg, h => by
    cases l with
    | nil =>
      refine ⟨_, fun X C => ⟨pgs_nil, rfl⟩, ?_⟩
      have e : evGs cl .nil = fun ds ρ => match ds with | [] => .ok () ρ | _ => .no := by
        funext ds ρ
        cases ds <;> rfl
      rw [e]
      exact sg_nil
    | cons => cases h
  | .cons t ts, Γ, l, hg, h => by
    cases l with
    | nil => cases h
    | cons e es =>
      obtain ⟨h1, h2⟩ := ba2 (show (nst e && (chkG t Γ e && chkGs ts Γ es)) = true from h)
      obtain ⟨h2, h3⟩ := ba2 h2
      obtain ⟨g, p1, q1⟩ := chkG_ok t Γ e hg h2
      obtain ⟨u, p2, q2⟩ := chkGs_ok ts Γ es hg h3
      refine ⟨gCons g u, fun X C => ⟨pgs_cons (p1 X C) (p2 X C).1 (by rw [asg1 h1]; rfl), by rw [asg1 h1]; simp [List.findIdx?_cons, (p2 X C).2]⟩, ?_⟩
      have e : evGs cl (.cons t ts) = fun ds ρ => match ds with | d :: ds => (evG cl t d .frz ρ).bind fun _ ρ => evGs cl ts ds ρ | [] => .no := by
        funext ds ρ
        cases ds <;> rfl
      rw [e]
      exact sg_cons q1 q2
  | .var _, Γ, l, hg, h => by cases l <;> cases h
  | .con _, Γ, l, hg, h => by cases l <;> cases h
  | .glo _ _, Γ, l, hg, h => by cases l <;> cases h
  | .ioa _ _, Γ, l, hg, h => by cases l <;> cases h
  | .tup _, Γ, l, hg, h => by cases l <;> cases h
  | .lst _, Γ, l, hg, h => by cases l <;> cases h
  | .neg _, Γ, l, hg, h => by cases l <;> cases h
  | .bin _ _ _, Γ, l, hg, h => by cases l <;> cases h
  | .cmp _ _ _, Γ, l, hg, h => by cases l <;> cases h
  | .cmp2 _ _ _ _ _, Γ, l, hg, h => by cases l <;> cases h
  | .not _, Γ, l, hg, h => by cases l <;> cases h
  | .and _ _, Γ, l, hg, h => by cases l <;> cases h
  | .or _ _, Γ, l, hg, h => by cases l <;> cases h
  | .ife _ _ _, Γ, l, hg, h => by cases l <;> cases h
  | .idx _ _, Γ, l, hg, h => by cases l <;> cases h
  | .sl _ _ _, Γ, l, hg, h => by cases l <;> cases h
  | .call _ _, Γ, l, hg, h => by cases l <;> cases h
  | .callk _ _ _ _, Γ, l, hg, h => by cases l <;> cases h
  | .fld _ _, Γ, l, hg, h => by cases l <;> cases h
  | .mk _ _ _ _, Γ, l, hg, h => by cases l <;> cases h
  | .isinc _ _ _, Γ, l, hg, h => by cases l <;> cases h
  | .calf _ _ _, Γ, l, hg, h => by cases l <;> cases h
  | .calv _ _, Γ, l, hg, h => by cases l <;> cases h
  | .vop _ _ _ _, Γ, l, hg, h => by cases l <;> cases h
  | .uop _ _, Γ, l, hg, h => by cases l <;> cases h
  | .bm _ _ _, Γ, l, hg, h => by cases l <;> cases h
  | .mkk _ _ _ _ _ _, Γ, l, hg, h => by cases l <;> cases h
  | .oeq _ _ _ _ _, Γ, l, hg, h => by cases l <;> cases h
  | .blt _ _, Γ, l, hg, h => by cases l <;> cases h
  | .isin _ _, Γ, l, hg, h => by cases l <;> cases h
  | .lc _ _ _ _ _, Γ, l, hg, h => by cases l <;> cases h
  | .rng1 _, Γ, l, hg, h => by cases l <;> cases h
  | .rng2 _ _, Γ, l, hg, h => by cases l <;> cases h
  | .enm _, Γ, l, hg, h => by cases l <;> cases h
  | .zip _ _, Γ, l, hg, h => by cases l <;> cases h
  | .it _, Γ, l, hg, h => by cases l <;> cases h
  | .tr _, Γ, l, hg, h => by cases l <;> cases h
end
theorem chkG_nst {t : E} {Γ : Gm} {e : Expr} (h : chkG t Γ e = true) : nst e = true := by
  cases e with
  | Starred x p => cases t with
    | idx a i => cases a <;> cases h
    | _ => cases h
  | _ => rfl
theorem sw_none {v : Expr} {line : Nat} {env : PySem.Env} {tg : Option Expr} (h : ncmp v = true) : swapsWith v tg line env = pure false := by
  cases v <;> first | rfl | cases h
theorem fm_lt {q : Expr → Bool} {f : Expr → Option Str} (hf : ∀ e, q e = true → f e = none) : ∀ {ts : List Expr}, ts.any q = true → (ts.filterMap f).length < ts.length
  | [], h => by cases h
  | e :: ts, h => by
    have le : (ts.filterMap f).length ≤ ts.length := List.length_filterMap_le _ _
    cases hn : q e with
    | true =>
      rw [List.filterMap_cons, hf e hn, List.length_cons]
      show (ts.filterMap f).length < _
      omega
    | false =>
      have h' : ts.any q = true := by
        rw [List.any_cons, hn, Bool.false_or] at h
        exact h
      have := fm_lt hf h'
      rw [List.filterMap_cons, List.length_cons]
      cases f e with
      | none => show (ts.filterMap f).length < _; omega
      | some x => show (x :: ts.filterMap f).length < _; rw [List.length_cons]; omega
theorem sub_swst {ts vs : List Expr} {k k2 : Nat} {p p2 : Pos} {env : PySem.Env} (h : ts.any nnm = true) : swappedStores [.Tuple ts k p] (.Tuple vs k2 p2) env = pure none := by
  unfold swappedStores
  dsimp only
  split
  · rfl
  · split
    · rfl
    · rw [if_pos]
      rw [Bool.or_eq_true]
      left
      rw [bne_iff_ne]
      exact Nat.ne_of_lt (fm_lt (fun e he => by cases e <;> first | (cases he; done) | rfl) h)
theorem cell_swst {Γ : Gm} {ts vs : List Expr} {k k2 : Nat} {p p2 : Pos} {env : PySem.Env} (hs : env.scope = Γ.sc) (h : ts.any (cellT Γ) = true) : swappedStores [.Tuple ts k p] (.Tuple vs k2 p2) env = pure none := by
  unfold swappedStores
  dsimp only
  split
  · rfl
  · split
    · rfl
    · rw [if_pos]
      rw [Bool.or_eq_true]
      left
      rw [bne_iff_ne]
      refine Nat.ne_of_lt (fm_lt (q := cellT Γ) (fun e he => ?_) h)
      cases e with
      | Name x px =>
        have hc : env.kindOf x = some .cell := by
          have h2 : cellB Γ.sc x = true := he
          show env.scope.names.lookup x = some .cell
          rw [hs]
          unfold cellB at h2
          split at h2
          · assumption
          · cases h2
        have e1 : (some NameKind.cell == some NameKind.local) = false := by decide
        dsimp only
        rw [hc, e1, Bool.false_and] <;> rfl
      | _ => rfl
theorem namesB_ok {Γ : Gm} {X : Cx} (C : CxOk G cl ar vf gv lv Γ X) : ∀ {is : List Nat} {ts : List Expr}, namesB Γ is ts = true → PGs X ts (gNames is) ∧ (assignEach ts X.env).findIdx? (·.1) = none ∧ ts.length = is.length
  | [], [], _ => ⟨pgs_nil, rfl, rfl⟩
  | [], _ :: _, h => by cases h
  | i :: is, [], h => by cases h
  | i :: is, t :: ts, h => by
    cases t with
    | Name x p =>
      obtain ⟨h1, h2⟩ := ba2 (show (stvB Γ i x && namesB Γ is ts) = true from h)
      obtain ⟨p1, p2, p3⟩ := namesB_ok C h2
      exact ⟨pgs_cons (C.stv h1) p1 (by rw [asg1 rfl]; rfl), by rw [asg1 rfl]; simp [List.findIdx?_cons, p2], by rw [List.length_cons, List.length_cons, p3]⟩
    | _ => cases h
theorem swst_none {tg v : Expr} {env : PySem.Env} (h : (ntup tg || ntup v || subT tg) = true) : swappedStores [tg] v env = pure none := by
  rcases Bool.or_eq_true_iff.mp h with h | h
  case inr =>
    cases tg with
    | Tuple ts k p =>
      cases v with
      | Tuple vs k2 p2 => exact sub_swst h
      | _ => rfl
    | _ => cases h
  rcases Bool.or_eq_true_iff.mp h with h | h
  · cases tg <;> first | rfl | cases h
  · cases v <;> first | (cases tg <;> rfl) | cases h
theorem noswap_ok {Γ : Gm} {v tg : Expr} {line : Nat} {env : PySem.Env} (hs : env.scope = Γ.sc) (h : noswap Γ v tg = true) : swapsWithSole [tg] v line env = pure false := by
  show swapsWith v (some tg) line env = pure false
  by_cases hn : ncmp v = true
  · exact sw_none hn
  · have h' := (Bool.or_eq_true_iff.mp h).resolve_left hn
    cases v with
    | ListComp elt gens scope pos =>
      cases tg with
      | Name x p =>
        have hc : env.scope.names.lookup x = some .cell := by
          have h2 : cellB Γ.sc x = true := h'
          rw [hs]
          unfold cellB at h2
          split at h2
          · assumption
          · cases h2
        have hk : env.kindOf x = some .cell := hc
        show (pure (env.blockKind == .function && env.kindOf x == some .local && p.line == pos.line && !(scope.names.any fun (n, k) => n == x && (k == .local || k == .cell))) : Sem Bool) = pure false
        have e1 : (some NameKind.cell == some NameKind.local) = false := by decide
        rw [hk, e1, Bool.and_false, Bool.false_and, Bool.false_and]
      | _ => rfl
    | SetComp => cases h'
    | DictComp => cases h'
    | _ => exact absurd rfl hn
theorem swap_ok {Γ : Gm} {elt : Expr} {gens : List Comprehension} {scope : Scope} {pos : Pos} {x : Str} {p : Pos} {line : Nat} {env : PySem.Env} (hs : env.scope = Γ.sc) (hk : Γ.sc.kind = .function) (h : swapB Γ (.ListComp elt gens scope pos) (.Name x p) = true) : env.scope.names.lookup x = some .local ∧ swapsWith (.ListComp elt gens scope pos) (some (.Name x p)) line env = pure true := by
  obtain ⟨h1, h2⟩ := ba2 (show (lclB Γ.sc x && (p.line == pos.line && !(scope.names.any fun (n, k) => n == x && (k == .local || k == .cell)))) = true from h)
  have hc : env.scope.names.lookup x = some .local := by
    rw [hs]
    unfold lclB at h1
    split at h1
    · assumption
    · cases h1
  refine ⟨hc, ?_⟩
  have hk1 : env.kindOf x = some .local := hc
  have hb : env.blockKind = .function := by
    unfold PySem.Env.blockKind
    rw [hs, hk] <;> rfl
  show (pure (env.blockKind == .function && env.kindOf x == some .local && p.line == pos.line && !(scope.names.any fun (n, k) => n == x && (k == .local || k == .cell))) : Sem Bool) = pure true
  have e1 : (some NameKind.local == some NameKind.local) = true := by decide
  have e2 : (ScopeKind.function == ScopeKind.function) = true := by decide
  rw [hk1, hb, e1, e2, Bool.and_true, Bool.true_and, h2]
include hn hv inj in
/-- name = [..], swapped -/
theorem setLc_ok {E t : Mp.E} {Γ : Gm} {elt : Expr} {gens : List Comprehension} {scope : Scope} {pos : Pos} {x : Str} {p spos : Pos} (hg : GvOk G gv Γ) (h : chkE E Γ (.ListComp elt gens scope pos) = true) (hs : swapB Γ (.ListComp elt gens scope pos) (.Name x p) = true) (ht : chkG t Γ (.Name x p) = true) :
    OkS G cl ar vf gv lv (.asg t E) Γ (.Assign [.Name x p] (.ListComp elt gens scope pos) spos) := by
  cases t with
  | var i =>
    cases E with
    | lc vs t it c e1 =>
      match gens, h, hs with
      | [⟨tg, iter, ifs, 0⟩], h, hs =>
        have gen : blkC Γ.N Γ.sc scope (ownOf Γ.N vs) = true → nset iter = true → chkI it Γ tg iter = true → chkV t vs (inScope Γ scope) tg = true → chkE e1 (inScope Γ scope) elt = true →
            (∃ tt, (∀ X, CxOk G cl ar vf gv lv (inScope Γ scope) X → PTs X ifs tt) ∧ STt G (evT cl c) tt) → OkS G cl ar vf gv lv (.asg (.var i) (.lc vs t it c e1)) Γ (.Assign [.Name x p] (.ListComp elt [⟨tg, iter, ifs, 0⟩] scope pos) spos) := fun b1 b2 b3 b4 b5 ⟨tt, p3, q3⟩ => by
          obtain ⟨wi, p1, q1⟩ := chkI_ok hn hv inj it Γ tg iter hg b3
          obtain ⟨g, p2, q2⟩ := chkV_ok hn hv inj t vs (inScope Γ scope) tg ⟨hg.val, hg.cls⟩ b4
          obtain ⟨te, p4, q4⟩ := chkE_ok hn hv inj e1 (inScope Γ scope) elt ⟨hg.val, hg.cls⟩ b5
          have hvs : (ownOf Γ.N vs).map (·.2) = vs := by
            unfold ownOf
            rw [List.map_map]
            exact List.map_id' vs
          refine ⟨tAsg (tLc wi g tt te vs) (gName i), fun X C => ?_, ss_asg (se_lc q1 q2 q3 q4) sg_name⟩
          have ok : BlkOk X.N X.env.scope scope (ownOf Γ.N vs) := by
            rw [C.N, C.sc]
            exact blkOk_by b1
          obtain ⟨s1, s2⟩ := swap_ok (line := spos.line) C.sc C.kind hs
          have hi : X.N[i]? = some x := by
            obtain ⟨z, _⟩ := ba2 (show (decide (Γ.N[i]? = some x) && _) = true from ht)
            rw [C.N]; exact of_decide_eq_true z
          have := ps_setLc C.calm C.nd hi s1 s2 (p1 X C) ok (fun s H c cs fp => p2 _ (C.blk b1)) (fun s H c cs fp => p3 _ (C.blk b1)) (fun s H c cs fp => p4 _ (C.blk b1)) (nset_fold b2)
          rw [hvs] at this
          exact this
        cases ifs with
        | nil =>
          cases c with
          | nil =>
            obtain ⟨b1, h⟩ := ba2 (show (blkC Γ.N Γ.sc scope (ownOf Γ.N vs) && (nset iter && (chkI it Γ tg iter && (chkV t vs (inScope Γ scope) tg && (true && chkE e1 (inScope Γ scope) elt))))) = true from h)
            obtain ⟨b2, h⟩ := ba2 h
            obtain ⟨b3, h⟩ := ba2 h
            obtain ⟨b4, h⟩ := ba2 h
            obtain ⟨_, b5⟩ := ba2 h
            exact gen b1 b2 b3 b4 b5 ⟨tYes, fun X C => pts_nil, st_yes G⟩
          | _ =>
            obtain ⟨b1, h⟩ := ba2 (show (blkC Γ.N Γ.sc scope (ownOf Γ.N vs) && (nset iter && (chkI it Γ tg iter && (chkV t vs (inScope Γ scope) tg && (false && chkE e1 (inScope Γ scope) elt))))) = true from h)
            obtain ⟨b2, h⟩ := ba2 h
            obtain ⟨b3, h⟩ := ba2 h
            obtain ⟨b4, h⟩ := ba2 h
            obtain ⟨b5, _⟩ := ba2 h
            cases b5
        | cons y ys =>
          cases ys with
          | cons _ _ =>
            have h' : (blkC Γ.N Γ.sc scope (ownOf Γ.N vs) && (nset iter && (chkI it Γ tg iter && (chkV t vs (inScope Γ scope) tg && (false && chkE e1 (inScope Γ scope) elt))))) = true := by cases c <;> exact h
            obtain ⟨b1, h⟩ := ba2 h'
            obtain ⟨b2, h⟩ := ba2 h
            obtain ⟨b3, h⟩ := ba2 h
            obtain ⟨b4, h⟩ := ba2 h
            obtain ⟨b5, _⟩ := ba2 h
            cases b5
          | nil =>
            have h' : (blkC Γ.N Γ.sc scope (ownOf Γ.N vs) && (nset iter && (chkI it Γ tg iter && (chkV t vs (inScope Γ scope) tg && (chkT c (inScope Γ scope) y && chkE e1 (inScope Γ scope) elt))))) = true := by cases c <;> exact h
            obtain ⟨b1, h⟩ := ba2 h'
            obtain ⟨b2, h⟩ := ba2 h
            obtain ⟨b3, h⟩ := ba2 h
            obtain ⟨b4, h⟩ := ba2 h
            obtain ⟨b6, b5⟩ := ba2 h
            obtain ⟨tt, p3, q3⟩ := chkT_ok hn hv inj c (inScope Γ scope) y ⟨hg.val, hg.cls⟩ b6
            exact gen b1 b2 b3 b4 b5 ⟨tt, fun X C => pts_one (p3 X C), q3⟩
    | not a => cases a <;> cases h
    | vop o i a b => cases o <;> cases h
    | uop o a => cases o <;> first | (cases h; done) | (cases a <;> cases h)
    | _ => cases h
  | idx a i => cases a <;> cases ht
  | _ => cases ht
theorem lcl_ok {Γ : Gm} {x : Str} {env : PySem.Env} (hs : env.scope = Γ.sc) (h : lclB Γ.sc x = true) : env.scope.names.lookup x = some .local := by
  rw [hs]
  unfold lclB at h
  split at h
  · assumption
  · cases h
theorem sw_two {x y : Str} {px py pt pt2 : Pos} {kt k2 : Nat} {vs : List Expr} {env : PySem.Env} (hb : env.blockKind = .function) (hx : env.scope.names.lookup x = some .local) (hy : env.scope.names.lookup y = some .local) (hxy : (x == y) = false) (hl : (py.line == px.line) = true) (hv : vs.length = 2) (hn : vs.all nst = true) (h1 : vs.all (foldedForSure 8) = false) (h2 : vs.all (constantsAlone 8) = false) :
    swappedStores [.Tuple [.Name x px, .Name y py] kt pt] (.Tuple vs k2 pt2) env = pure (some [x, y]) := by
  have hst : ¬ ∃ e, e ∈ vs ∧ (match e with | .Starred .. => true | _ => false) = true := by
    rintro ⟨e, he, z⟩
    have := List.all_eq_true.mp hn e he
    cases e <;> first | (cases z; done) | cases this
  have kx : env.kindOf x = some .local := hx
  have ky : env.kindOf y = some .local := hy
  have hyx : (y == x) = false := by rw [Bool.eq_false_iff]; intro z; rw [eq_of_beq z] at hxy; simp at hxy
  have ee : ([x, y] : List Str).eraseDups = [x, y] := by simp [List.eraseDups, List.eraseDupsBy, List.eraseDupsBy.loop, hyx]
  have hpx : Expr.pos (.Name x px) = px := rfl
  unfold swappedStores
  simp [hv, hb, hst, kx, ky, ee, h1, h2, eq_of_beq hl, hpx, List.filterMap_cons]
  all_goals
    intro e he z
    have := List.all_eq_true.mp hn e he
    cases e <;> first | (cases z; done) | cases this
theorem sw_three {x y z : Str} {px py pz pt pt2 : Pos} {kt k2 : Nat} {vs : List Expr} {env : PySem.Env} (hb : env.blockKind = .function) (hx : env.scope.names.lookup x = some .local) (hy : env.scope.names.lookup y = some .local) (hz : env.scope.names.lookup z = some .local) (hxy : (x == y) = false) (hxz : (x == z) = false) (hyz : (y == z) = false) (hl : (py.line == px.line) = true) (hl2 : (pz.line == px.line) = true) (hv : vs.length = 3) (hn : vs.all nst = true) (h1 : vs.all (foldedForSure 8) = false) (h2 : vs.all (constantsAlone 8) = false) :
    swappedStores [.Tuple [.Name x px, .Name y py, .Name z pz] kt pt] (.Tuple vs k2 pt2) env = pure (some [x, y, z]) := by
  have hst : ¬ ∃ e, e ∈ vs ∧ (match e with | .Starred .. => true | _ => false) = true := by
    rintro ⟨e, he, z⟩
    have := List.all_eq_true.mp hn e he
    cases e <;> first | (cases z; done) | cases this
  have kx : env.kindOf x = some .local := hx
  have ky : env.kindOf y = some .local := hy
  have kz : env.kindOf z = some .local := hz
  have hyx : (y == x) = false := by rw [Bool.eq_false_iff]; intro z; rw [eq_of_beq z] at hxy; simp at hxy
  have hzx : (z == x) = false := by rw [Bool.eq_false_iff]; intro w; rw [eq_of_beq w] at hxz; simp at hxz
  have hzy : (z == y) = false := by rw [Bool.eq_false_iff]; intro w; rw [eq_of_beq w] at hyz; simp at hyz
  have ee : ([x, y, z] : List Str).eraseDups = [x, y, z] := by simp [List.eraseDups, List.eraseDupsBy, List.eraseDupsBy.loop, hyx, hzx, hzy]
  have hpx : Expr.pos (.Name x px) = px := rfl
  unfold swappedStores
  simp [hv, hb, hst, kx, ky, kz, ee, h1, h2, eq_of_beq hl, eq_of_beq hl2, hpx, List.filterMap_cons]
  all_goals
    intro e he z
    have := List.all_eq_true.mp hn e he
    cases e <;> first | (cases z; done) | cases this
include hn hv inj in
theorem chkM_ok : ∀ (es : E) (Γ : Gm) (l : List Expr), GvOk G gv Γ → chkL es Γ l = true → ∃ t, (∀ X, CxOk G cl ar vf gv lv Γ X → PA X l t) ∧ SMt G (evM cl es) t
  | .nil, Γ, l, hg, h => by
    cases l with
    | nil => exact ⟨_, fun X C => pa_nil, sm_nil⟩
    | cons => cases h
  | .cons a r, Γ, l, hg, h => by
    cases l with
    | nil => cases h
    | cons e es =>
      obtain ⟨h1, h2⟩ := ba2 (show (nst e && (chkE a Γ e && chkL r Γ es)) = true from h)
      obtain ⟨h2, h3⟩ := ba2 h2
      obtain ⟨t, p1, q1⟩ := chkE_ok hn hv inj a Γ e hg h2
      obtain ⟨u, p2, q2⟩ := chkM_ok r Γ es hg h3
      exact ⟨_, fun X C => pa_cons (p1 X C) (p2 X C) (star1 h1), sm_cons q1 q2⟩
  | .var _, Γ, l, hg, h => by cases l <;> cases h
  | .con _, Γ, l, hg, h => by cases l <;> cases h
  | .glo _ _, Γ, l, hg, h => by cases l <;> cases h
  | .ioa _ _, Γ, l, hg, h => by cases l <;> cases h
  | .tup _, Γ, l, hg, h => by cases l <;> cases h
  | .lst _, Γ, l, hg, h => by cases l <;> cases h
  | .neg _, Γ, l, hg, h => by cases l <;> cases h
  | .bin _ _ _, Γ, l, hg, h => by cases l <;> cases h
  | .cmp _ _ _, Γ, l, hg, h => by cases l <;> cases h
  | .cmp2 _ _ _ _ _, Γ, l, hg, h => by cases l <;> cases h
  | .not _, Γ, l, hg, h => by cases l <;> cases h
  | .and _ _, Γ, l, hg, h => by cases l <;> cases h
  | .or _ _, Γ, l, hg, h => by cases l <;> cases h
  | .ife _ _ _, Γ, l, hg, h => by cases l <;> cases h
  | .idx _ _, Γ, l, hg, h => by cases l <;> cases h
  | .sl _ _ _, Γ, l, hg, h => by cases l <;> cases h
  | .call _ _, Γ, l, hg, h => by cases l <;> cases h
  | .callk _ _ _ _, Γ, l, hg, h => by cases l <;> cases h
  | .calf _ _ _, Γ, l, hg, h => by cases l <;> cases h
  | .fld _ _, Γ, l, hg, h => by cases l <;> cases h
  | .mk _ _ _ _, Γ, l, hg, h => by cases l <;> cases h
  | .isinc _ _ _, Γ, l, hg, h => by cases l <;> cases h
  | .calv _ _, Γ, l, hg, h => by cases l <;> cases h
  | .vop _ _ _ _, Γ, l, hg, h => by cases l <;> cases h
  | .uop _ _, Γ, l, hg, h => by cases l <;> cases h
  | .bm _ _ _, Γ, l, hg, h => by cases l <;> cases h
  | .mkk _ _ _ _ _ _, Γ, l, hg, h => by cases l <;> cases h
  | .oeq _ _ _ _ _, Γ, l, hg, h => by cases l <;> cases h
  | .blt _ _, Γ, l, hg, h => by cases l <;> cases h
  | .isin _ _, Γ, l, hg, h => by cases l <;> cases h
  | .lc _ _ _ _ _, Γ, l, hg, h => by cases l <;> cases h
  | .rng1 _, Γ, l, hg, h => by cases l <;> cases h
  | .rng2 _ _, Γ, l, hg, h => by cases l <;> cases h
  | .enm _, Γ, l, hg, h => by cases l <;> cases h
  | .zip _ _, Γ, l, hg, h => by cases l <;> cases h
  | .it _, Γ, l, hg, h => by cases l <;> cases h
  | .tr _, Γ, l, hg, h => by cases l <;> cases h
theorem blockF {Γ : Gm} {env : PySem.Env} (hs : env.scope = Γ.sc) (hk : Γ.sc.kind = .function) : env.blockKind = .function := by
  unfold PySem.Env.blockKind
  rw [hs, hk] <;> rfl
include hn hv inj in
mutual
theorem chkS_ok : ∀ (s : S) (Γ : Gm) (st : Stmt), GvOk G gv Γ → chkS s Γ st = true → OkS G cl ar vf gv lv s Γ st
  | .never, Γ, st, hg, h => ⟨_, fun X C => ps_never, ss_never⟩
  | .skip, Γ, st, hg, h => by
    cases st with
    | Pass p => exact ⟨_, fun X C => ps_pass, ss_skip⟩
    | _ => cases h
  | .seq a b, Γ, st, hg, h => by cases h
  | .par is es, Γ, st, hg, h => by
    cases st with
    | Assign tgs v pos =>
      match tgs, v, h with
      | [.Tuple ts kt pt], .Tuple vs k2 pt2, h =>
        rcases Bool.or_eq_true_iff.mp (show ((parNames Γ is ts && (decide (vs.length = is.length) && (!vs.all (foldedForSure 8) && (!vs.all (constantsAlone 8) && chkL es Γ vs)))) || (namesB Γ is ts && (ts.any (cellT Γ) && (decide (vs.length = is.length) && (decide (is.length ≤ 1000) && chkL es Γ vs))))) = true from h) with h | h
        case inr =>
          obtain ⟨h1, h2⟩ := ba2 h
          obtain ⟨h2, h3⟩ := ba2 h2
          obtain ⟨h3, h4⟩ := ba2 h3
          obtain ⟨h4, h5⟩ := ba2 h4
          obtain ⟨t, p1, q1⟩ := chkM_ok hn hv inj es Γ vs hg h5
          refine ⟨_, fun X C => ?_, ss_parN (is := is) (of_decide_eq_true h4) q1⟩
          obtain ⟨g1, g2, g3⟩ := namesB_ok C h1
          have pt := pg_tup (k := kt) (pos := pt) C.calm g1 asgLen g2
          rw [g3, C.K] at pt
          exact ps_asg (pe_tup (p1 X C)) pt (noswap_ok C.sc (Γ := Γ) (show noswap Γ (.Tuple vs k2 pt2) (.Tuple ts kt _) = true from rfl)) (cell_swst C.sc h2) rfl
        obtain ⟨h1, h2⟩ := ba2 (show (parNames Γ is ts && (decide (vs.length = is.length) && (!vs.all (foldedForSure 8) && (!vs.all (constantsAlone 8) && chkL es Γ vs)))) = true from h)
        obtain ⟨h2, h3⟩ := ba2 h2
        obtain ⟨h3, h4⟩ := ba2 h3
        obtain ⟨h4, h5⟩ := ba2 h4
        have hlen := of_decide_eq_true h2
        have f1 : vs.all (foldedForSure 8) = false := by simpa using h3
        have f2 : vs.all (constantsAlone 8) = false := by simpa using h4
        have hn2 := chkL_n es Γ vs h5
        obtain ⟨t, p1, q1⟩ := chkM_ok hn hv inj es Γ vs hg h5
        match is, ts, h1, hlen with
        | [i, j], [.Name x px, .Name y py], h1, hlen =>
          obtain ⟨a1, h1⟩ := ba2 (show (decide (Γ.N[i]? = some x) && (decide (Γ.N[j]? = some y) && (lclB Γ.sc x && (lclB Γ.sc y && (!(x == y) && (py.line == px.line && decide (i ≠ j))))))) = true from h1)
          obtain ⟨a2, h1⟩ := ba2 h1
          obtain ⟨a3, h1⟩ := ba2 h1
          obtain ⟨a4, h1⟩ := ba2 h1
          obtain ⟨a5, h1⟩ := ba2 h1
          obtain ⟨a6, a7⟩ := ba2 h1
          refine ⟨tPar i j t, fun X C => ?_, ss_par q1⟩
          have lx := lcl_ok C.sc a3
          have ly := lcl_ok C.sc a4
          have pa := p1 X C
          clear p1 h5 h
          match vs, hlen, pa, f1, f2, hn2 with
          | [a, b], hlen, pa, f1, f2, hn2 =>
            exact ps_par C.calm C.nd (by rw [C.N]; exact of_decide_eq_true a1) (by rw [C.N]; exact of_decide_eq_true a2) (of_decide_eq_true a7) lx ly pa (sw_two (blockF C.sc C.kind) lx ly (by simpa using a5) a6 rfl hn2 f1 f2) rfl
        | [i, j, k], [.Name x px, .Name y py, .Name z pz], h1, hlen =>
          obtain ⟨a1, h1⟩ := ba2 (show (decide (Γ.N[i]? = some x) && (decide (Γ.N[j]? = some y) && (decide (Γ.N[k]? = some z) && (lclB Γ.sc x && (lclB Γ.sc y && (lclB Γ.sc z && (!(x == y) && (!(x == z) && (!(y == z) && (py.line == px.line && (pz.line == px.line && (decide (i ≠ j) && (decide (i ≠ k) && decide (j ≠ k)))))))))))))) = true from h1)
          obtain ⟨a2, h1⟩ := ba2 h1
          obtain ⟨a3, h1⟩ := ba2 h1
          obtain ⟨b1, h1⟩ := ba2 h1
          obtain ⟨b2, h1⟩ := ba2 h1
          obtain ⟨b3, h1⟩ := ba2 h1
          obtain ⟨c1, h1⟩ := ba2 h1
          obtain ⟨c2, h1⟩ := ba2 h1
          obtain ⟨c3, h1⟩ := ba2 h1
          obtain ⟨l1, h1⟩ := ba2 h1
          obtain ⟨l2, h1⟩ := ba2 h1
          obtain ⟨n1, h1⟩ := ba2 h1
          obtain ⟨n2, n3⟩ := ba2 h1
          refine ⟨tPar3 i j k t, fun X C => ?_, ss_par3 q1⟩
          have lx := lcl_ok C.sc b1
          have ly := lcl_ok C.sc b2
          have lz := lcl_ok C.sc b3
          have pa := p1 X C
          clear p1 h5 h
          match vs, hlen, pa, f1, f2, hn2 with
          | [a, b, c], hlen, pa, f1, f2, hn2 =>
            exact ps_par3 C.calm C.nd (by rw [C.N]; exact of_decide_eq_true a1) (by rw [C.N]; exact of_decide_eq_true a2) (by rw [C.N]; exact of_decide_eq_true a3) (of_decide_eq_true n1) (of_decide_eq_true n2) (of_decide_eq_true n3) lx ly lz pa (sw_three (blockF C.sc C.kind) lx ly lz (by simpa using c1) (by simpa using c2) (by simpa using c3) l1 l2 rfl hn2 f1 f2) rfl
    | _ => cases h
  | .ext i e, Γ, st, hg, h => by
    cases st with
    | Expr v sp =>
      cases v with
      | Call fe args kws cp =>
        cases fe with
        | Attribute o a ap =>
          cases o with
          | Name x p =>
            match args, kws, h with
            | [v], [], h =>
              obtain ⟨h1, h2⟩ := ba2 (show (varB Γ i x && (decide (a = "extend") && (decide (ap.endLine = cp.line) && (nst v && chkE e Γ v)))) = true from h)
              obtain ⟨h2, h3⟩ := ba2 h2
              have ea := of_decide_eq_true h2
              subst ea
              obtain ⟨h3, h4⟩ := ba2 h3
              obtain ⟨h4, h5⟩ := ba2 h4
              obtain ⟨te, p1, q1⟩ := chkE_ok hn hv inj e Γ v hg h5
              refine ⟨_, fun X C => ?_, ss_ext q1⟩
              exact ps_expr (C.K ▸ pe_bm PySem.F.plainAttrs_list PySem.F.slot_list_extend PySem.F.type_list_extend mt_extend (C.var h1).2.2.2.2 (pa_cons (p1 X C) pa_nil (star1 h4)) rfl (by rw [star1 h4]; rfl) (by rw [of_decide_eq_true h3]; exact beq_self_eq_true _) (star1 h4) (starA (es := []) rfl))
          | _ => cases h
        | _ => cases h
      | _ => cases h
    | _ => cases h
  | .fst i x e, Γ, st, hg, h => by
    cases st with
    | Assign tgs v pos =>
      match tgs, h with
      | [.Attribute (.Name y py) f pf], h =>
        obtain ⟨h1, h2⟩ := ba2 (show (varB Γ i y && (decide (f = x) && chkE e Γ v)) = true from h)
        obtain ⟨h2, h3⟩ := ba2 h2
        have ef := of_decide_eq_true h2
        subst ef
        obtain ⟨te, p1, q1⟩ := chkE_ok hn hv inj e Γ v hg h3
        exact ⟨_, fun X C => C.K ▸ ps_fld (C.var h1).2.2.2.2 (p1 X C) (by cases v <;> rfl), ss_fst q1⟩
    | _ => cases h
  | .asg t e, Γ, st, hg, h => by
    cases st with
    | Assign tgs v pos =>
      match tgs, h with
      | [tg], h =>
        obtain ⟨h1, h2⟩ := ba2 (show ((noswap Γ v tg || swapB Γ v tg) && ((ntup tg || ntup v || subT tg) && (chkE e Γ v && chkG t Γ tg))) = true from h)
        obtain ⟨h2, hw⟩ := ba2 h2
        obtain ⟨hx, h4⟩ := ba2 hw
        clear hw
        by_cases hs : noswap Γ v tg = true
        · obtain ⟨te, p1, q1⟩ := chkE_ok hn hv inj e Γ v hg hx
          obtain ⟨g, p2, q2⟩ := chkG_ok hn hv inj t Γ tg hg h4
          exact ⟨_, fun X C => ps_asg (p1 X C) (p2 X C) (noswap_ok C.sc hs) (swst_none h2) (by rw [asg1 (chkG_nst h4)]; rfl), ss_asg q1 q2⟩
        · have hb := (Bool.or_eq_true_iff.mp h1).resolve_left hs
          cases v with
          | ListComp elt gens scope p =>
            cases tg with
            | Name x px => exact setLc_ok hn hv inj hg hx hb h4
            | _ => cases hb
          | _ => cases hb
    | _ => cases h
  | .ex e, Γ, st, hg, h => by
    cases st with
    | Expr v p =>
      obtain ⟨h1, h2⟩ := ba2 (show (ncmp v && chkE e Γ v) = true from h)
      obtain ⟨te, p1, q1⟩ := chkE_ok hn hv inj e Γ v hg h2
      exact ⟨_, fun X C => ps_expr (p1 X C) (sw_none h1), ss_ex q1⟩
    | _ => cases h
  | .ret e, Γ, st, hg, h => by
    cases st with
    | Return v p =>
      cases v with
      | none => cases h
      | some v =>
        obtain ⟨te, p1, q1⟩ := chkE_ok hn hv inj e Γ v hg h
        exact ⟨_, fun X C => ps_ret (p1 X C), ss_ret q1⟩
    | _ => cases h
  | .retn, Γ, st, hg, h => by
    cases st with
    | Return v p =>
      cases v with
      | some v => cases h
      | none => exact ⟨_, fun X C => ps_retN, ss_retn⟩
    | _ => cases h
  | .ite c a b, Γ, st, hg, h => by
    cases st with
    | If t x y p =>
      obtain ⟨h1, h2⟩ := ba2 (show (chkT c Γ t && (chkSs a Γ x && chkSs b Γ y)) = true from h)
      obtain ⟨h2, h3⟩ := ba2 h2
      obtain ⟨t1, p1, q1⟩ := chkT_ok hn hv inj c Γ t hg h1
      obtain ⟨t2, p2, q2⟩ := chkSs_ok a Γ x hg h2
      obtain ⟨t3, p3, q3⟩ := chkSs_ok b Γ y hg h3
      exact ⟨_, fun X C => ps_if (p1 X C) (p2 X C) (p3 X C), ss_ite q1 q2 q3⟩
    | _ => cases h
  | .for_ t it b, Γ, st, hg, h => by
    cases st with
    | For tg iter body orelse p =>
      cases orelse with
      | cons _ _ => cases h
      | nil =>
        obtain ⟨h1, h2⟩ := ba2 (show (nset iter && (chkI it Γ tg iter && (chkG t Γ tg && chkSs b Γ body))) = true from h)
        obtain ⟨h2, h3⟩ := ba2 h2
        obtain ⟨h3, h4⟩ := ba2 h3
        obtain ⟨wi, p1, q1⟩ := chkI_ok hn hv inj it Γ tg iter hg h2
        obtain ⟨g, p2, q2⟩ := chkG_ok hn hv inj t Γ tg hg h3
        obtain ⟨tb, p3, q3⟩ := chkSs_ok b Γ body hg h4
        exact ⟨_, fun X C => ps_for (by rw [C.xe]; exact PySem.PassesOwn.never) C.calm (p1 X C) (p2 X C) (p3 X C) (nset_fold h1), ss_for q1 q2 q3⟩
    | _ => cases h
  | .whl c b, Γ, st, hg, h => by
    cases st with
    | While t body orelse p =>
      cases orelse with
      | cons _ _ => cases h
      | nil =>
        obtain ⟨h1, h2⟩ := ba2 (show (chkT c Γ t && chkSs b Γ body) = true from h)
        obtain ⟨tc, p1, q1⟩ := chkT_ok hn hv inj c Γ t hg h1
        obtain ⟨tb, p3, q3⟩ := chkSs_ok b Γ body hg h2
        exact ⟨_, fun X C => ps_while (by rw [C.xe]; exact PySem.PassesOwn.never) (p1 X C) (p3 X C), ss_whl wFuel q1 q3⟩
    | _ => cases h
  | .app i e, Γ, st, hg, h => by
    cases st with
    | Expr v sp =>
      cases v with
      | Call fe args kws cp =>
        cases fe with
        | Attribute o a ap =>
          cases o with
          | Name x p =>
            match args, kws, h with
            | [v], [], h =>
              obtain ⟨h1, h2⟩ := ba2 (show (varB Γ i x && (decide (a = "append") && (decide (ap.endLine = cp.line) && (nst v && chkE e Γ v)))) = true from h)
              obtain ⟨h2, h3⟩ := ba2 h2
              have ea := of_decide_eq_true h2
              subst ea
              obtain ⟨h3, h4⟩ := ba2 h3
              obtain ⟨h4, h5⟩ := ba2 h4
              obtain ⟨te, p1, q1⟩ := chkE_ok hn hv inj e Γ v hg h5
              refine ⟨_, fun X C => ?_, ss_app q1⟩
              exact ps_expr (C.K ▸ pe_bm PySem.F.plainAttrs_list PySem.F.slot_list_append PySem.F.type_list_append mt_append (C.var h1).2.2.2.2 (pa_cons (p1 X C) pa_nil (star1 h4)) rfl (by rw [star1 h4]; rfl) (by rw [of_decide_eq_true h3]; exact beq_self_eq_true _) (star1 h4) (starA (es := []) rfl))
          | _ => cases h
        | _ => cases h
      | _ => cases h
    | _ => cases h
theorem chkSs_ok : ∀ (s : S) (Γ : Gm) (st : List Stmt), GvOk G gv Γ → chkSs s Γ st = true → OkSs G cl ar vf gv lv s Γ st
  | .never, Γ, st, hg, h => ⟨_, fun X C => pss_never, ss_never⟩
  | .skip, Γ, st, hg, h => by
    cases st with
    | nil => exact ⟨_, fun X C => pss_nil, ss_skip⟩
    | _ => cases h
  | .seq a b, Γ, st, hg, h => by
    cases st with
    | nil => cases h
    | cons x r =>
      obtain ⟨h1, h2⟩ := ba2 (show (chkS a Γ x && chkSs b Γ r) = true from h)
      obtain ⟨t, p1, q1⟩ := chkS_ok a Γ x hg h1
      obtain ⟨u, p2, q2⟩ := chkSs_ok b Γ r hg h2
      exact ⟨_, fun X C => pss_cons (p1 X C) (p2 X C), ss_seq q1 q2⟩
  | .asg _ _, Γ, st, hg, h => by cases st <;> cases h
  | .par _ _, Γ, st, hg, h => by cases st <;> cases h
  | .ex _, Γ, st, hg, h => by cases st <;> cases h
  | .ret _, Γ, st, hg, h => by cases st <;> cases h
  | .retn, Γ, st, hg, h => by cases st <;> cases h
  | .ite _ _ _, Γ, st, hg, h => by cases st <;> cases h
  | .for_ _ _ _, Γ, st, hg, h => by cases st <;> cases h
  | .whl _ _, Γ, st, hg, h => by cases st <;> cases h
  | .app _ _, Γ, st, hg, h => by cases st <;> cases h
  | .ext _ _, Γ, st, hg, h => by cases st <;> cases h
  | .fst _ _ _, Γ, st, hg, h => by cases st <;> cases h
end
end
end Mp

set_option maxRecDepth 100000
set_option maxHeartbeats 4000000
/-! Mp18: a def keeps the evaluator's promise. -/
namespace Mp
open PySem PySem.Spec PyProof.Rows L2
/-- the addresses that the def may change, with their places -/
inductive IosR : Nat → List Bool → List V → List (Nat × Addr) → Prop
  | nil {n : Nat} : IosR n [] [] []
  | v {n : Nat} {v : V} {fl : List Bool} {vs : List V} {l : List (Nat × Addr)} : IosR (n + 1) fl vs l → IosR n (false :: fl) (v :: vs) l
  | io {n : Nat} {p : Addr} {fl : List Bool} {vs : List V} {l : List (Nat × Addr)} : IosR (n + 1) fl vs l → IosR n (true :: fl) (.ref p :: vs) ((n, p) :: l)
section
variable {G : GD} {M : AS} {H : Hp}
theorem InR.ios : ∀ {fl : List Bool} {vs : List V} {ds : List D} {io : List Addr} (n : Nat), InR G M H fl vs ds io → ∃ l, IosR n fl vs l ∧ l.map (·.2) = io
  | _, _, _, _, n, .nil => ⟨[], .nil, rfl⟩
  | _, _, _, _, n, .v _ r => by
    obtain ⟨l, h1, h2⟩ := r.ios (n + 1)
    exact ⟨l, .v h1, h2⟩
  | _, _, _, _, n, .io _ r => by
    obtain ⟨l, h1, h2⟩ := r.ios (n + 1)
    exact ⟨_, .io h1, by rw [List.map_cons, h2]⟩
/-- the slots at the entry -/
theorem InR.at_ : ∀ {fl : List Bool} {vs : List V} {ds : List D} {io : List Addr} {n : Nat} {l : List (Nat × Addr)}, InR G M H fl vs ds io → IosR n fl vs l → ∀ (i : Nat) (s : Slot), (initS fl ds)[i]? = some s →
    (∃ v d, s = .val d ∧ vs[i]? = some v ∧ Dt G (Hr H M) v d) ∨ ∃ p d, s = .io d ∧ vs[i]? = some (.ref p) ∧ OwnC G M H p d ∧ (n + i, p) ∈ l
  | _, _, _, _, _, _, .nil, .nil, i, s, e => by simp [initS] at e
  | _, _, _, _, n, _, @InR.v _ _ _ w0 d _ _ _ _ h r, .v q, i, s, e => by
    cases i with
    | zero =>
      have e' : some (Slot.val d) = some s := by simpa [initS] using e
      cases e'
      exact .inl ⟨w0, d, rfl, rfl, h⟩
    | succ i =>
      rcases r.at_ q i s (by simpa [initS] using e) with z | ⟨p, d, z1, z2, z3, z4⟩
      · exact .inl (by simpa using z)
      · exact .inr ⟨p, d, z1, by simpa using z2, z3, by rw [show n + (i + 1) = n + 1 + i by omega]; exact z4⟩
  | _, _, _, _, n, _, @InR.io _ _ _ p d _ _ _ _ h r, .io q, i, s, e => by
    cases i with
    | zero =>
      have e' : some (Slot.io d) = some s := by simpa [initS] using e
      cases e'
      exact .inr ⟨p, d, rfl, rfl, h, List.mem_cons_self⟩
    | succ i =>
      rcases r.at_ q i s (by simpa [initS] using e) with z | ⟨p, d, z1, z2, z3, z4⟩
      · exact .inl (by simpa using z)
      · exact .inr ⟨p, d, z1, by simpa using z2, z3, by rw [show n + (i + 1) = n + 1 + i by omega]; exact List.mem_cons_of_mem _ z4⟩
theorem IosR.at_ : ∀ {fl : List Bool} {vs : List V} {ds : List D} {n : Nat} {l : List (Nat × Addr)}, IosR n fl vs l → vs.length = ds.length → ∀ q ∈ l, n ≤ q.1 ∧ vs[q.1 - n]? = some (.ref q.2) ∧ ∃ d, (initS fl ds)[q.1 - n]? = some (.io d)
  | _, _, ds, n, _, .nil, _, q, h => by cases h
  | _, _, [], n, _, .v r, hl, q, h => by simp at hl
  | _, _, [], n, _, .io r, hl, q, h => by simp at hl
  | _, _, d :: ds, n, _, .v r, hl, q, h => by
    obtain ⟨h1, h2, d', h3⟩ := r.at_ (ds := ds) (by simpa using hl) q h
    refine ⟨by omega, ?_, d', ?_⟩
    · rw [show q.1 - n = (q.1 - (n + 1)) + 1 by omega]; simpa using h2
    · rw [show q.1 - n = (q.1 - (n + 1)) + 1 by omega]; simpa [initS] using h3
  | _, _, d :: ds, n, _, .io r, hl, q, h => by
    rcases List.mem_cons.mp h with rfl | h
    · exact ⟨Nat.le_refl _, by simp, d, by simp [initS]⟩
    · obtain ⟨h1, h2, d', h3⟩ := r.at_ (ds := ds) (by simpa using hl) q h
      refine ⟨by omega, ?_, d', ?_⟩
      · rw [show q.1 - n = (q.1 - (n + 1)) + 1 by omega]; simpa using h2
      · rw [show q.1 - n = (q.1 - (n + 1)) + 1 by omega]; simpa [initS] using h3
theorem initS_len : ∀ {fl : List Bool} {ds : List D}, fl.length = ds.length → (initS fl ds).length = ds.length
  | [], [], _ => rfl
  | [], _ :: _, h => by simp at h
  | _ :: _, [], h => by simp at h
  | true :: fl, d :: ds, h => by
    show (initS fl ds).length + 1 = _
    rw [initS_len (by simpa using h)] <;> rfl
  | false :: fl, d :: ds, h => by
    show (initS fl ds).length + 1 = _
    rw [initS_len (by simpa using h)] <;> rfl
theorem IosR.ge : ∀ {n : Nat} {fl : List Bool} {vs : List V} {l : List (Nat × Addr)}, IosR n fl vs l → ∀ q ∈ l, n ≤ q.1
  | _, _, _, _, .nil, q, h => by cases h
  | _, _, _, _, .v r, q, h => by have := IosR.ge r q h; omega
  | _, _, _, _, .io r, q, h => by
    rcases List.mem_cons.mp h with rfl | h
    · exact Nat.le_refl _
    · have := IosR.ge r q h; omega
/-- what the changed arguments hold at the end -/
theorem outs_ok {M : AS} {H' : Hp} : ∀ {fl : List Bool} {ρ : Env} {n : Nat} {vs : List V} {l : List (Nat × Addr)} {outs : List D}, IosR n fl vs l → outsOf fl ρ = some outs → (∀ q ∈ l, ∀ d, ρ[q.1 - n]? = some (.io d) → OwnC G M H' q.2 d) → OutL G M H' (l.map (·.2)) outs
  | _, ρ, n, _, _, outs, .nil, e, k => by cases e; exact .nil
  | _, [], n, _, _, outs, .v r, e, k => by cases e
  | _, s :: ρ, n, _, _, outs, .v (fl := fl) r, e, k => by
    have e' : outsOf fl ρ = some outs := e
    exact outs_ok r e' fun q hq d h => by
      have hn := r.ge q hq
      exact k q hq d (by rw [show q.1 - n = (q.1 - (n + 1)) + 1 by omega]; simpa using h)
  | _, [], n, _, _, outs, .io r, e, k => by cases e
  | _, s :: ρ, n, _, _, outs, .io (p := p) (fl := fl) r, e, k => by
    cases s with
    | io d =>
      have e' : (outsOf fl ρ).map (d :: ·) = some outs := e
      cases e2 : outsOf fl ρ with
      | none => rw [e2] at e'; cases e'
      | some os =>
        rw [e2] at e'
        cases e'
        refine .cons (k (n, p) List.mem_cons_self d (by simp)) (outs_ok r e2 fun q hq d h => ?_)
        have hn := r.ge q hq
        exact k q (List.mem_cons_of_mem _ hq) d (by rw [show q.1 - n = (q.1 - (n + 1)) + 1 by omega]; simpa using h)
    | _ => cases e
/-- the state at the entry -/
theorem entry_sr {fl : List Bool} {vs : List V} {ds : List D} {io : List Addr} {Z : AS} {l : List (Nat × Addr)} {N : List Str} (hin : InR G (orL Z io) H fl vs ds io) (hl : IosR 0 fl vs l) (hio : l.map (·.2) = io) (nd : io.Nodup) (hz : ∀ a ∈ io, ¬ Z a) (hd : ∀ a, Z a → H a ≠ none) (hfl : fl.length = ds.length) (hN : vs.length ≤ N.length) :
    SR G ⟨H, l⟩ Z (initS fl ds ++ List.replicate (N.length - ds.length) .un) (start N vs) H := by
  have hlen : vs.length = ds.length := hin.length
  have hil : (initS fl ds).length = ds.length := initS_len hfl
  have sv : ∀ i : Nat, i < vs.length → (start N vs)[i]? = (vs[i]?).map some := fun i hi => by
    unfold L2.start
    rw [List.getElem?_append_left (by simpa using hi), List.getElem?_map]
  have si : ∀ (i : Nat) (s : Slot), (initS fl ds ++ List.replicate (N.length - ds.length) Slot.un)[i]? = some s → s = .un ∨ ((initS fl ds)[i]? = some s ∧ i < vs.length) := fun i s e => by
    by_cases hi : i < (initS fl ds).length
    · rw [List.getElem?_append_left hi] at e
      exact .inr ⟨e, by omega⟩
    · rw [List.getElem?_append_right (by omega), List.getElem?_replicate] at e
      split at e
      · cases e; exact .inl rfl
      · cases e
  have own : ∀ (i : Nat) (p : Addr), OwnAt (initS fl ds ++ List.replicate (N.length - ds.length) Slot.un) (start N vs) i p → (i, p) ∈ l ∧ OwnC G (orL Z io) H p (match (initS fl ds)[i]? with | some (.io d) => d | _ => .non) := fun i p ⟨⟨d, h⟩, hs⟩ => by
    have key : ∀ s, (initS fl ds ++ List.replicate (N.length - ds.length) Slot.un)[i]? = some s → (s = .own d ∨ s = .io d) → (i, p) ∈ l ∧ OwnC G (orL Z io) H p (match (initS fl ds)[i]? with | some (.io d) => d | _ => .non) := fun s e hs2 => by
      rcases si i s e with z | ⟨z, hi⟩
      · rw [z] at hs2; rcases hs2 with h | h <;> cases h
      · rcases hin.at_ hl i s z with ⟨v, d', e1, _⟩ | ⟨q, d', e1, e2, e3, e4⟩
        · rw [e1] at hs2; rcases hs2 with h | h <;> cases h
        · have hq : q = p := by
            rw [sv i hi, e2] at hs
            cases hs; rfl
          subst hq
          rw [Nat.zero_add] at e4
          refine ⟨e4, ?_⟩
          rw [z, e1]
          exact e3
    rcases h with h | h
    · exact key _ h (.inl rfl)
    · exact key _ h (.inr rfl)
  have mem : ∀ a, a ∈ io → ∃ i, OwnAt (initS fl ds ++ List.replicate (N.length - ds.length) Slot.un) (start N vs) i a := fun a ha => by
    rw [← hio] at ha
    obtain ⟨q, hq, e⟩ := List.mem_map.mp ha
    obtain ⟨_, h2, d, h3⟩ := hl.at_ hlen q hq
    rw [Nat.sub_zero] at h2 h3
    have hi : q.1 < (initS fl ds).length := (List.getElem?_eq_some_iff.mp h3).1
    refine ⟨q.1, ⟨d, .inr ?_⟩, ?_⟩
    · rw [List.getElem?_append_left hi]; exact h3
    · rw [sv q.1 (by omega), h2, ← e] <;> rfl
  have eM : Mm Z (initS fl ds ++ List.replicate (N.length - ds.length) Slot.un) (start N vs) = orL Z io := by
    funext a
    refine propext ⟨fun z => z.imp id fun ⟨i, z⟩ => ?_, fun z => z.imp id (mem a)⟩
    rw [← hio]
    exact List.mem_map_of_mem (f := (·.2)) (own i a z).1
  refine ⟨?_, fun i j p a b => ?_, fun i p a z => ?_, fun i s e => ?_, fun a o _ e => e, fun i p a => .inl ⟨i, (own i p a).1⟩, hd, fun i p h => ?_⟩
  · unfold L2.start
    rw [List.length_append, List.length_append, hil, List.length_replicate, List.length_map, List.length_replicate, hlen]
  · have h1 := (own i p a).1
    have h2 := (own j p b).1
    -- io's addresses are apart
    obtain ⟨n1, e1⟩ := List.mem_iff_getElem?.mp h1
    obtain ⟨n2, e2⟩ := List.mem_iff_getElem?.mp h2
    have f1 : io[n1]? = some p := by rw [← hio, List.getElem?_map, e1] <;> rfl
    have f2 : io[n2]? = some p := by rw [← hio, List.getElem?_map, e2] <;> rfl
    have hn1 : n1 < io.length := (List.getElem?_eq_some_iff.mp f1).1
    have : n1 = n2 := (List.getElem?_inj hn1 nd).mp (f1.trans f2.symm)
    subst this
    rw [e1] at e2
    cases e2
    rfl
  · refine hz p ?_ z
    rw [← hio]
    exact List.mem_map_of_mem (f := (·.2)) (own i p a).1
  · rw [eM]
    rcases si i s e with rfl | ⟨z, hi⟩
    · trivial
    · rcases hin.at_ hl i s z with ⟨v, d, rfl, e2, e3⟩ | ⟨q, d, rfl, e2, e3, _⟩
      · exact ⟨v, by rw [sv i hi, e2] <;> rfl, e3⟩
      · exact ⟨q, by rw [sv i hi, e2] <;> rfl, e3⟩
  · obtain ⟨_, h2, d, h3⟩ := hl.at_ hlen (i, p) h
    rw [Nat.sub_zero] at h2 h3
    have hi : i < (initS fl ds).length := (List.getElem?_eq_some_iff.mp h3).1
    refine ⟨⟨d, ?_⟩, ?_⟩
    · rw [List.getElem?_append_left hi]; exact h3
    · rw [sv i (by omega), h2] <;> rfl
/-- the run's end -/
theorem exit_ok {l : List (Nat × Addr)} {io : List Addr} {Z F' : AS} {ρ' : Env} {σ' : L2.St} {H' : Hp} (hio : l.map (·.2) = io) (hz : ∀ a, Z a → F' a) (S : SR G ⟨H, l⟩ F' ρ' σ' H') : (∀ a o, a ∉ io → H a = some o → H' a = some o) ∧ ∀ a, orL Z io a → Mm F' ρ' σ' a := by
  refine ⟨fun a o n e => S.frame a o (fun ⟨i, z⟩ => n ?_) e, fun a z => ?_⟩
  · rw [← hio]
    exact List.mem_map_of_mem (f := (·.2)) z
  · rcases z with z | z
    · exact .inl (hz a z)
    · rw [← hio] at z
      obtain ⟨q, hq, e⟩ := List.mem_map.mp z
      obtain ⟨⟨d, h1⟩, h2⟩ := S.ios q.1 q.2 hq
      exact .inr ⟨q.1, ⟨d, .inr h1⟩, by rw [h2, ← e] <;> rfl⟩
end
end Mp

set_option maxRecDepth 100000
set_option maxHeartbeats 4000000
/-! Mp19: a table of defs, checked, keeps the evaluator's promises. -/
namespace Mp
open PySem PySem.Spec PyProof.Rows L2
def paramsB (a : Arguments) (ps : List Str) : Bool := match a with
  | ⟨[], as, none, [], [], none, []⟩ => decide (as.map (·.arg) = ps)
  | _ => false
def scopeB (N ps : List Str) (sc : Scope) : Bool := (match sc.kind with | .function => true | _ => false) && (!sc.isCoroutine && (!sc.isGenerator && (decide N.Nodup && (decide (N.take ps.length = ps) && (ps.all (locB sc) && (sc.names.all fun y => match y.2 with | .free => false | _ => true))))))
def chkDf (vals : List (Str × D)) (free : List Str) (pss : List (List Str)) (cs : List (List Str × Nat)) (es : List (Nat × Nat)) (df : Df) (d : He.DefD) : Bool :=
  chkSs df.body ⟨df.N, d.scope, d.scope, true, vals, free, pss, cs, es⟩ d.body && (scopeB df.N df.ps d.scope && (paramsB d.params df.ps && (decide (df.ios.length = df.ps.length) && (d.dfl.isEmpty && d.kwd.isEmpty))))
def chkAll (vals : List (Str × D)) (free : List Str) (pss : List (List Str)) (cs : List (List Str × Nat)) (es : List (Nat × Nat)) : List Df → List He.DefD → Bool
  | [], [] => true
  | df :: r, d :: s => chkDf vals free pss cs es df d && chkAll vals free pss cs es r s
  | _, _ => false
def fnsB (DS : List He.DefD) (cl : List (Str × List Str × Nat)) (p : Str × D) : Bool := match p.2 with
  | .cls c => (match cl[c]? with
    | some q => decide (q.1 = p.1)
    | none => false)
  | .fn f => (match DS[f]? with
    | some d => decide (d.at_ = (p.1, none))
    | none => false)
  | _ => true
def initB (DS : List He.DefD) (q : Str × List Str × Nat) : Bool := match DS[q.2.2]? with
  | some d => decide (d.at_ = (q.1, some ("__init__" : Str)))
  | none => false
def eqB (DS : List He.DefD) (cl : List (Str × List Str × Nat)) (q : Str × Nat × Nat) : Bool := (match DS[q.2.2]? with
  | some d => decide (d.at_ = (q.1, some ("__eq__" : Str)))
  | none => false) && (match cl[q.2.1]? with
  | some r => decide (r.1 = q.1)
  | none => false)
def Tab.ok (t : Tab) : Bool := chkAll t.vals t.free t.pss t.cs t.es t.T t.DS && (t.vals.all (fnsB t.DS t.cls) && (t.cls.all (initB t.DS) && t.eqs.all (eqB t.DS t.cls)))
theorem chkAll_at {vals : List (Str × D)} {free : List Str} {pss : List (List Str)} {cs : List (List Str × Nat)} {es : List (Nat × Nat)} : ∀ {T : List Df} {DS : List He.DefD}, chkAll vals free pss cs es T DS = true → T.length = DS.length ∧ ∀ (f : Nat) (df : Df) (d : He.DefD), T[f]? = some df → DS[f]? = some d → chkDf vals free pss cs es df d = true
  | [], [], _ => ⟨rfl, fun f df d h => by simp at h⟩
  | [], _ :: _, h => by cases h
  | _ :: _, [], h => by cases h
  | df :: r, d :: s, h => by
    obtain ⟨h1, h2⟩ := ba2 (show (chkDf vals free pss cs es df d && chkAll vals free pss cs es r s) = true from h)
    obtain ⟨h3, h4⟩ := chkAll_at h2
    refine ⟨by simp [h3], fun f df' d' e1 e2 => ?_⟩
    cases f with
    | zero =>
      simp at e1 e2
      subst e1 e2
      exact h1
    | succ f => exact h4 f df' d' (by simpa using e1) (by simpa using e2)
/-! ### values of the module's names -/
def vOf : Value → V
  | .none => .non
  | .bool b => .bl b
  | .int i _ => .int i
  | .str s _ => .str s
  | .ref a => .ref a
  | _ => .non
mutual
theorem kD_ok {G : GD} {H : Hp} : ∀ {d : D} {u : Value}, kD G.K d u = true → RelV (vOf u) u ∧ Dt G H (vOf u) d
  | .non, u, h => by cases u with
    | none => exact ⟨rfl, .non⟩
    | _ => cases h
  | .bl a, u, h => by cases u with
    | bool b =>
      have e : a = b := eq_of_beq (show (a == b) = true from h)
      subst e
      exact ⟨rfl, .bl a⟩
    | _ => cases h
  | .int i, u, h => by cases u with
    | int j t =>
      have e := of_decide_eq_true h
      subst e
      exact ⟨⟨t, rfl⟩, .int i⟩
    | _ => cases h
  | .str a, u, h => by cases u with
    | str b t =>
      have e := of_decide_eq_true h
      subst e
      exact ⟨⟨t, rfl⟩, .str a⟩
    | _ => cases h
  | .tup ds, u, h => by cases u with
    | ref a =>
      have h' : (match G.K.lookup a with
        | some ⟨.type c, _, .seq its _, _⟩ => decide (c = "tuple") && (decide (its.size ≤ sizeLine) && kDs G.K ds its.toList)
        | _ => false) = true := h
      cases q : G.K.lookup a with
      | none => rw [q] at h'; cases h'
      | some o =>
        obtain ⟨oc, od, dt, osl⟩ := o
        rw [q] at h'
        cases oc with
        | type c =>
          cases dt with
          | seq its n =>
            obtain ⟨h1, h2⟩ := ba2 (show (decide (c = "tuple") && (decide (its.size ≤ sizeLine) && kDs G.K ds its.toList)) = true from h')
            obtain ⟨h3, h4⟩ := ba2 h2
            obtain ⟨r1, r2⟩ := kDs_ok (G := G) (H := H) h4
            exact ⟨rfl, .tup (.inr ⟨_, its, n, q, congrArg Value.type (of_decide_eq_true h1), rfl, of_decide_eq_true h3, r1⟩) r2⟩
          | _ => cases h'
        | _ => cases dt <;> cases h'
    | _ => cases h
theorem kDs_ok {G : GD} {H : Hp} : ∀ {ds : List D} {us : List Value}, kDs G.K ds us = true → Vals (us.map vOf) us ∧ DtA G H (us.map vOf) ds
  | [], [], _ => ⟨.nil, .nil⟩
  | [], _ :: _, h => by cases h
  | _ :: _, [], h => by cases h
  | d :: ds, u :: us, h => by
    obtain ⟨h1, h2⟩ := ba2 (show (kD G.K d u && kDs G.K ds us) = true from h)
    obtain ⟨r1, r2⟩ := kD_ok (G := G) (H := H) h1
    obtain ⟨r3, r4⟩ := kDs_ok (G := G) (H := H) h2
    exact ⟨.cons r1 r3, .cons r2 r4⟩
end
end Mp

set_option maxRecDepth 100000
set_option maxHeartbeats 4000000
/-! Mp20: the table's defs, each with its promise. -/
namespace Mp
open PySem PySem.Spec PyProof.Rows L2
def arOf (T : List Df) (f : Nat) : Nat := (T[f]?.map (·.ps.length)).getD 0
theorem callN_ar {T : List Df} {n f : Nat} {fl : List Bool} {ds : List D} {x : D × Bool × List D} (h : callN T n f fl ds = some x) : ds.length = arOf T f ∧ f < T.length := by
  cases n with
  | zero => cases h
  | succ n =>
    have h' : (match T[f]? with
      | none => none
      | some df => if df.ios = fl ∧ ds.length = df.ps.length ∧ df.ios.length = df.ps.length then finish df.ios (evS (callN T n) df.body (init df ds)) else none) = some x := h
    cases e : T[f]? with
    | none => rw [e] at h'; cases h'
    | some df =>
      rw [e] at h'
      dsimp only at h'
      split at h'
      · rename_i c
        refine ⟨?_, (List.getElem?_eq_some_iff.mp e).1⟩
        unfold arOf
        rw [e]
        exact c.2.1
      · cases h'
theorem scope_of {N ps : List Str} {sc : Scope} (h : scopeB N ps sc = true) : FnScope N ps sc := by
  obtain ⟨h1, h⟩ := ba2 h
  obtain ⟨h2, h⟩ := ba2 h
  obtain ⟨h3, h⟩ := ba2 h
  obtain ⟨h4, h⟩ := ba2 h
  obtain ⟨h5, h⟩ := ba2 h
  obtain ⟨h6, h7⟩ := ba2 h
  refine ⟨?_, by simpa using h2, by simpa using h3, of_decide_eq_true h4, of_decide_eq_true h5, fun x hx => ?_, fun y hy e => ?_⟩
  · split at h1
    · assumption
    · cases h1
  · have := List.all_eq_true.mp h6 x hx
    unfold locB at this
    split at this
    · exact .inl (by assumption)
    · exact .inr (by assumption)
    · cases this
  · have := List.all_eq_true.mp h7 y hy
    rw [e] at this
    cases this
theorem params_of {a : Arguments} {ps : List Str} (h : paramsB a ps = true) : ∃ as, a = ⟨[], as, none, [], [], none, []⟩ ∧ as.map (·.arg) = ps := by
  unfold paramsB at h
  split at h
  · exact ⟨_, rfl, of_decide_eq_true h⟩
  · cases h
section
variable (t : Tab) (K : PySem.W.Frag)
def Tab.G : GD := ⟨K, fun f => match t.DS[f]? with
  | some d => He.fAd K d.at_
  | none => 0, fun c => match t.cls[c]? with
  | some q => He.ga K q.1
  | none => 0⟩
noncomputable def gvK (x : Str) : V := match PySem.W.nsIn K mainGlobals x with
  | some (some u) => vOf u
  | _ => .non
end
section
variable {t : Tab} {K : PySem.W.Frag}
theorem SaysM.factA (c : SaysM t K) : factB t K = true := congrArg (fun z : He.AlD => z.1) c
theorem SaysM.fact (c : SaysM t K) : factB0 t K = true := (ba2 c.factA).1
theorem SaysM.def_ (c : SaysM t K) {f : Nat} {d : He.DefD} (h : t.DS[f]? = some d) : ∃ fd, FunD K d.name d.qual d.params d.body d.scope (d.dvs K) (d.kws K) (He.fAd K d.at_) fd := by
  obtain ⟨_, c1⟩ := ba2 c.fact
  obtain ⟨_, c1⟩ := ba2 c1
  obtain ⟨_, c1⟩ := ba2 c1
  obtain ⟨_, c2⟩ := ba2 c1
  have e : t.DS.map (fun d => He.fnW K d.at_) = t.DS.map He.DefD.val := congrArg (fun z : He.AlD => z.2) c
  have e2 : (t.DS.map fun d => He.fnW K d.at_)[f]? = (t.DS.map He.DefD.val)[f]? := by rw [e]
  rw [List.getElem?_map, List.getElem?_map, h] at e2
  exact He.DefD.funD (Option.some.inj e2) (List.all_eq_true.mp c2 d (List.mem_of_getElem? h))
theorem lookup_mem {x : Str} {d : D} : ∀ {l : List (Str × D)}, l.lookup x = some d → (x, d) ∈ l
  | [], h => by cases h
  | (y, e) :: l, h => by
    rw [List.lookup_cons] at h
    cases q : x == y with
    | true =>
      rw [q] at h
      cases h
      rw [eq_of_beq q]
      exact List.mem_cons_self
    | false =>
      rw [q] at h
      exact List.mem_cons_of_mem _ (lookup_mem h)
theorem Tab.inj (c : SaysM t K) (hl : t.T.length = t.DS.length) : ∀ f g, f < t.T.length → g < t.T.length → (t.G K).fa f = (t.G K).fa g → f = g := by
  intro f g hf hg e
  obtain ⟨_, c1⟩ := ba2 c.fact
  obtain ⟨_, c1⟩ := ba2 c1
  obtain ⟨_, c1⟩ := ba2 c1
  obtain ⟨c1, _⟩ := ba2 c1
  have nd := of_decide_eq_true c1
  have ef : t.DS[f]? = some t.DS[f] := List.getElem?_eq_getElem (hl ▸ hf)
  have eg : t.DS[g]? = some t.DS[g] := List.getElem?_eq_getElem (hl ▸ hg)
  have e' : (match t.DS[f]? with | some d => He.fAd K d.at_ | none => 0) = (match t.DS[g]? with | some d => He.fAd K d.at_ | none => 0) := e
  rw [ef, eg] at e'
  have h1 : (t.DS.map fun d => He.fAd K d.at_)[f]? = some (He.fAd K t.DS[f].at_) := by rw [List.getElem?_map, ef] <;> rfl
  have h2 : (t.DS.map fun d => He.fAd K d.at_)[g]? = some (He.fAd K t.DS[g].at_) := by rw [List.getElem?_map, eg] <;> rfl
  exact (List.getElem?_inj (by rw [List.length_map]; exact hl ▸ hf) nd).mp (h1.trans ((congrArg some e').trans h2.symm))
theorem fns_of (ok : t.ok = true) {x : Str} {f : Nat} (h : t.vals.lookup x = some (.fn f)) : ∃ d, t.DS[f]? = some d ∧ d.at_ = (x, none) := by
  obtain ⟨_, k⟩ := ba2 ok
  obtain ⟨k, _⟩ := ba2 k
  have := List.all_eq_true.mp k _ (lookup_mem h)
  have this : (match t.DS[f]? with
    | some d => decide (d.at_ = (x, none))
    | none => false) = true := this
  cases e : t.DS[f]? with
  | none => rw [e] at this; cases this
  | some d => rw [e] at this; exact ⟨d, rfl, of_decide_eq_true this⟩
theorem clsn_of (ok : t.ok = true) {x : Str} {n : Nat} (h : t.vals.lookup x = some (.cls n)) : ∃ q, t.cls[n]? = some q ∧ q.1 = x := by
  obtain ⟨_, k⟩ := ba2 ok
  obtain ⟨k, _⟩ := ba2 k
  have := List.all_eq_true.mp k _ (lookup_mem h)
  have this : (match t.cls[n]? with
    | some q => decide (q.1 = x)
    | none => false) = true := this
  cases e : t.cls[n]? with
  | none => rw [e] at this; cases this
  | some q => rw [e] at this; exact ⟨q, rfl, of_decide_eq_true this⟩
theorem Tab.ca_eq {n : Nat} {q : Str × List Str × Nat} (h : t.cls[n]? = some q) : (t.G K).ca n = He.ga K q.1 := by
  show (match t.cls[n]? with | some q => He.ga K q.1 | none => 0) = _
  rw [h]
theorem Tab.cls_ok (ok : t.ok = true) (c : SaysM t K) {n : Nat} {fl : List Str} {f : Nat} (h : t.cs[n]? = some (fl, f)) : InsF (t.G K) n fl ∧ (∀ i, i < 6 → PySem.W.kitOne K (.type (dTyN i)) (.ref ((t.G K).ca n)) = some false) ∧ f < t.DS.length ∧ Mk K ((t.G K).ca n) ((t.G K).fa f) := by
  obtain ⟨_, c1⟩ := ba2 c.fact
  obtain ⟨c1, _⟩ := ba2 c1
  obtain ⟨_, k⟩ := ba2 ok
  obtain ⟨_, k⟩ := ba2 k
  obtain ⟨k, _⟩ := ba2 k
  have h' : (t.cls.map fun q => (q.2.1, q.2.2))[n]? = some (fl, f) := h
  rw [List.getElem?_map] at h'
  cases e : t.cls[n]? with
  | none => rw [e] at h'; cases h'
  | some q =>
    rw [e] at h'
    obtain ⟨x, fl', f'⟩ := q
    cases h'
    have hq := List.mem_of_getElem? e
    have k1 := List.all_eq_true.mp c1 _ hq
    have k2 : (match t.DS[f']? with
      | some d => decide (d.at_ = (x, some ("__init__" : Str)))
      | none => false) = true := List.all_eq_true.mp k _ hq
    obtain ⟨a1, k1⟩ := ba2 k1
    obtain ⟨a2, k1⟩ := ba2 k1
    obtain ⟨a3, k1⟩ := ba2 k1
    obtain ⟨a4, k1⟩ := ba2 k1
    obtain ⟨a5, k1⟩ := ba2 k1
    obtain ⟨a6, k1⟩ := ba2 k1
    obtain ⟨a7, k1⟩ := ba2 k1
    obtain ⟨a8, a9⟩ := ba2 k1
    have eca : (t.G K).ca n = He.ga K x := Tab.ca_eq e
    cases ed : t.DS[f']? with
    | none => rw [ed] at k2; cases k2
    | some d =>
      rw [ed] at k2
      have eat := of_decide_eq_true k2
      have efa : (t.G K).fa f' = He.ma K (He.ga K x) "__init__" := by
        show (match t.DS[f']? with | some d => He.fAd K d.at_ | none => 0) = _
        rw [ed]
        show He.fAd K d.at_ = _
        rw [eat] <;> rfl
      refine ⟨⟨?_, fun y hy => ?_⟩, fun i hi => ?_, (List.getElem?_eq_some_iff.mp ed).1, ?_⟩
      · rw [show (t.G K).ca n = He.ga K x from eca]
        exact ⟨He.cls_ok a1, He.eqO_ok a2, He.eqO_ok a3, of_decide_eq_true a4, of_decide_eq_true a5, of_decide_eq_true a6⟩
      · rw [eca]
        exact He.noat_ok (List.all_eq_true.mp a7 y hy)
      · rw [eca]
        exact of_decide_eq_true (List.all_eq_true.mp a9 i (List.mem_range.mpr hi))
      · rw [eca, efa]
        exact He.mkr_ok a8
theorem Tab.fa_eq {x : Str} {f : Nat} {d : He.DefD} (h : t.DS[f]? = some d) : (t.G K).fa f = He.fAd K d.at_ := by
  show (match t.DS[f]? with | some d => He.fAd K d.at_ | none => 0) = _
  rw [h]
theorem Tab.eq_ok (ok : t.ok = true) (c : SaysM t K) {n f : Nat} (h : (n, f) ∈ t.es) : f < t.DS.length ∧ EqK K ((t.G K).ca n) ((t.G K).fa f) := by
  obtain ⟨_, c1⟩ := ba2 c.factA
  obtain ⟨_, k⟩ := ba2 ok
  obtain ⟨_, k⟩ := ba2 k
  obtain ⟨_, k⟩ := ba2 k
  obtain ⟨q, hq, e⟩ := List.mem_map.mp (show (n, f) ∈ t.eqs.map fun q => q.2 from h)
  obtain ⟨x, n', f'⟩ := q
  cases e
  obtain ⟨k1, k2⟩ := ba2 (List.all_eq_true.mp k _ hq)
  obtain ⟨a1, a2⟩ := ba2 (List.all_eq_true.mp c1 _ hq)
  obtain ⟨a2, a3⟩ := ba2 a2
  obtain ⟨a3, a4⟩ := ba2 a3
  have k1 : (match t.DS[f]? with
    | some d => decide (d.at_ = (x, some ("__eq__" : Str)))
    | none => false) = true := k1
  have k2 : (match t.cls[n]? with
    | some r => decide (r.1 = x)
    | none => false) = true := k2
  cases ed : t.DS[f]? with
  | none => rw [ed] at k1; cases k1
  | some d =>
    rw [ed] at k1
    cases ec : t.cls[n]? with
    | none => rw [ec] at k2; cases k2
    | some r =>
      rw [ec] at k2
      have e1 : r.1 = x := of_decide_eq_true k2
      have e2 := of_decide_eq_true k1
      have eca : (t.G K).ca n = He.ga K x := by rw [Tab.ca_eq ec, e1]
      have efa : (t.G K).fa f = He.ma K (He.ga K x) "__eq__" := by
        show (match t.DS[f]? with | some d => He.fAd K d.at_ | none => 0) = _
        rw [ed]
        show He.fAd K d.at_ = _
        rw [e2] <;> rfl
      refine ⟨(List.getElem?_eq_some_iff.mp ed).1, ?_⟩
      rw [eca, efa]
      exact ⟨He.eqO_ok a1, He.eqO_ok a2, a3, of_decide_eq_true a4⟩
theorem Tab.val_ok (ok : t.ok = true) (c : SaysM t K) {x : Str} {d : D} (h : t.vals.lookup x = some d) : ∃ u, PySem.W.nsIn K mainGlobals x = some (some u) ∧ RelV (gvK K x) u ∧ (∀ H, Dt (t.G K) H (gvK K x) d) ∧ (∀ f, d = .fn f → u = .ref ((t.G K).fa f)) ∧ ∀ n, d = .cls n → u = .ref ((t.G K).ca n) := by
  obtain ⟨c1, _⟩ := ba2 c.fact
  have k := List.all_eq_true.mp c1 _ (lookup_mem h)
  have gen : ∀ d', d = d' → (∀ f, d' ≠ .fn f) → (∀ f, d' ≠ .cls f) → (match PySem.W.nsIn K mainGlobals x with
    | some (some u) => kD K d' u
    | _ => false) = true → ∃ u, PySem.W.nsIn K mainGlobals x = some (some u) ∧ RelV (gvK K x) u ∧ (∀ H, Dt (t.G K) H (gvK K x) d) ∧ (∀ f, d = .fn f → u = .ref ((t.G K).fa f)) ∧ ∀ n, d = .cls n → u = .ref ((t.G K).ca n) := fun d' e nf nc k => by
    subst e
    unfold gvK
    cases q : PySem.W.nsIn K mainGlobals x with
    | none => rw [q] at k; cases k
    | some o =>
      cases o with
      | none => rw [q] at k; cases k
      | some u =>
        rw [q] at k
        exact ⟨u, rfl, (kD_ok (G := t.G K) (H := fun _ => none) k).1, fun H => (kD_ok (G := t.G K) k).2, fun f e => absurd e (nf f), fun f e => absurd e (nc f)⟩
  cases d with
  | fn f =>
    obtain ⟨dd, e1, e2⟩ := fns_of ok h
    have e3 : (t.G K).fa f = He.ga K x := by
      rw [Tab.fa_eq (x := x) e1, e2] <;> rfl
    have k' : PySem.W.nsIn K mainGlobals x = some (some (.ref (He.ga K x))) := He.eqO_ok k
    unfold gvK
    rw [k']
    refine ⟨_, rfl, rfl, fun H => ?_, fun g e => ?_, fun g e => by cases e⟩
    · show Dt (t.G K) H (.ref (He.ga K x)) (.fn f)
      rw [← e3]
      exact .fn f
    · cases e
      rw [e3]
  | non => exact gen _ rfl (fun f e => by cases e) (fun f e => by cases e) k
  | bl b => exact gen _ rfl (fun f e => by cases e) (fun f e => by cases e) k
  | int b => exact gen _ rfl (fun f e => by cases e) (fun f e => by cases e) k
  | str b => exact gen _ rfl (fun f e => by cases e) (fun f e => by cases e) k
  | tup b => exact gen _ rfl (fun f e => by cases e) (fun f e => by cases e) k
  | lst b => exact gen _ rfl (fun f e => by cases e) (fun f e => by cases e) k
  | dct b => exact gen _ rfl (fun f e => by cases e) (fun f e => by cases e) k
  | rng b1 b2 => exact gen _ rfl (fun f e => by cases e) (fun f e => by cases e) k
  | set b => exact gen _ rfl (fun f e => by cases e) (fun f e => by cases e) k
  | ins b => exact gen _ rfl (fun f e => by cases e) (fun f e => by cases e) k
  | cls n =>
    obtain ⟨q, e1, e2⟩ := clsn_of ok h
    have e3 : (t.G K).ca n = He.ga K x := by
      rw [Tab.ca_eq e1, e2]
    have k' : PySem.W.nsIn K mainGlobals x = some (some (.ref (He.ga K x))) := He.eqO_ok k
    unfold gvK
    rw [k']
    refine ⟨_, rfl, rfl, fun H => ?_, (fun g e => by cases e), fun g e => ?_⟩
    · show Dt (t.G K) H (.ref (He.ga K x)) (.cls n)
      rw [← e3]
      exact .cls n
    · cases e
      rw [e3]
  | scr b => exact gen _ rfl (fun f e => by cases e) (fun f e => by cases e) k
theorem free_of (c : SaysM t K) {h : Heap} {mg : Str → Option Value} (X : K.In h) (N : h.Ns mainGlobals mg) {x : Str} (k : t.free.contains x = true) : mg x = none := by
  obtain ⟨_, c1⟩ := ba2 c.fact
  obtain ⟨_, c1⟩ := ba2 c1
  obtain ⟨c1, _⟩ := ba2 c1
  exact PySem.W.mg_none_of X N (He.eqO_ok (List.all_eq_true.mp c1 x (List.contains_iff_mem.mp k)))
/-- a def's body keeps the promise -/
theorem body_ok {G : GD} {cl : Nat → List Bool → List D → CRes} {df : Df} {tb : TS} {vs : List V} {H : Hp} {Q : VK} {fl : List Bool} {ds : List D} {io : List Addr} {Z : AS} {d : D} {b : Bool} {outs : List D} (hS : SSt G (evS cl df.body) tb)
    (hf : finish df.ios (evS cl df.body (init df ds)) = some (d, b, outs)) (hfl : df.ios = fl) (hps : ds.length = df.ps.length) (hil : df.ios.length = df.ps.length) (hpN : df.ps.length ≤ df.N.length)
    (hin : InR G (orL Z io) H fl vs ds io) (nd : io.Nodup) (hz : ∀ a ∈ io, ¬ Z a) (hd : ∀ a, Z a → H a ≠ none) (hQ : ∀ v H', OutR G Z io H v H' d b outs → Q v H') :
    tb { nx := fun _ H' => Q .non H', rt := Q } (start df.N vs) H := by
  subst hfl
  obtain ⟨l, hl, hio⟩ := hin.ios 0
  have hvl : vs.length = ds.length := hin.length
  have S := entry_sr (N := df.N) hin hl hio nd hz hd (by omega) (by omega)
  have ei : init df ds = initS df.ios ds ++ List.replicate (df.N.length - ds.length) .un := by
    unfold init
    rw [hps]
  rw [← ei] at S
  have hown : ∀ {F' : AS} {ρ' : Env} {σ' : L2.St} {H' : Hp}, (∀ a, Z a → F' a) → SR G ⟨H, l⟩ F' ρ' σ' H' → ∀ (M : AS), (∀ a, M a → Mm F' ρ' σ' a) → ∀ {outs}, outsOf df.ios ρ' = some outs → OutL G M H' io outs := fun {F' ρ' σ' H'} hzF S' M hM {outs} ho => by
    rw [← hio]
    refine outs_ok hl ho fun q hq d e => ?_
    rw [Nat.sub_zero] at e
    obtain ⟨p, e1, c⟩ := S'.slot q.1 _ e
    obtain ⟨_, e2⟩ := S'.ios q.1 q.2 hq
    rw [e1] at e2
    cases e2
    exact c.le (hr_mono (fun _ _ _ e => e) fun a z => .inl (hM a z)) rfl
  refine hS ⟨H, l⟩ Z (init df ds) (start df.N vs) H _ _ S rfl (fun e => by rw [e] at hf; cases hf) (fun ρ' e σ' H' p => ?_) (fun d' b' ρ' e v σ' H' r => ?_)
  · rw [e] at hf
    have hf' : (outsOf df.ios ρ').map (fun os => (D.non, false, os)) = some (d, b, outs) := hf
    cases ho : outsOf df.ios ρ' with
    | none => rw [ho] at hf'; cases hf'
    | some os =>
      rw [ho] at hf'
      cases hf'
      obtain ⟨f1, f2⟩ := exit_ok hio (fun _ h => h) p.sr
      exact hQ .non H' ⟨f1, .inl ⟨rfl, .non, hown (fun _ h => h) p.sr _ f2 ho⟩⟩
  · rw [e] at hf
    have hf' : (outsOf df.ios ρ').map (fun os => (d', b', os)) = some (d, b, outs) := hf
    cases ho : outsOf df.ios ρ' with
    | none => rw [ho] at hf'; cases hf'
    | some os =>
      rw [ho] at hf'
      cases hf'
      rcases r.ex with ⟨rfl, S', dt⟩ | ⟨rfl, p, rfl, S', n1, n2, n3, c⟩
      · obtain ⟨f1, f2⟩ := exit_ok hio (fun _ h => h) S'
        exact hQ v H' ⟨f1, .inl ⟨rfl, dt.le (hr_mono (fun _ _ _ e => e) fun a z => .inl (f2 a z)), hown (fun _ h => h) S' _ f2 ho⟩⟩
      · obtain ⟨f1, f2⟩ := exit_ok (Z := Z) hio (fun _ h => .inr h) S'
        have f3 : ∀ a, addF (orL Z io) p a → Mm (addF Z p) ρ' σ' a := fun a z => by
          rcases z with z | z
          · exact .inl (.inl z)
          · exact f2 a z
        exact hQ _ H' ⟨f1, .inr ⟨rfl, p, rfl, n2, c.le (hr_mono (fun _ _ _ e => e) fun a z => .inl (f3 a z)) rfl, hown (fun _ h => .inr h) S' _ f3 ho⟩⟩
theorem FunD.flds {x qual : Str} {params : Arguments} {body : List Stmt} {scope : Scope} {kws : List (Str × V)} {f : Addr} {fd : FuncData} (F : FunD K x qual params body scope [] kws f fd) : fd.params = params ∧ fd.defaults = .none := by
  obtain ⟨oc, od, dV, kV, doc, pm, an, cdv, ct, osl, rfl, lk, hcd, hD, hK⟩ := F.ex
  rcases hD with ⟨_, rfl⟩ | ⟨e, _⟩
  · exact ⟨rfl, rfl⟩
  · exact absurd rfl e
/-- THE RULE: each def of the table keeps the evaluator's promise -/
theorem Tab.fn_ok (ok : t.ok = true) (c : SaysM t K) {P : Program} {w : World} {mg : Str → Option Value} {h base : Heap} (X : K.In h) (N : h.Ns mainGlobals mg) : ∀ (n f : Nat) (df : Df) (d : He.DefD), t.T[f]? = some df → t.DS[f]? = some d → ∀ fd, FunD K d.name d.qual d.params d.body d.scope [] [] (He.fAd K d.at_) fd →
    FnOk P w K mg base (fun _ _ _ _ _ _ => False) (2 * n) (He.fAd K d.at_) fd df.ps (spOf (t.G K) (callN t.T n f) df.ps.length)
  | 0, f, df, d, e1, e2, fd, F => by
    refine ⟨fun vs H Q E z => ?_, fun A outer s H args us vs Q E hr e0 hb hv z => ?_⟩
    · obtain ⟨_, _, _, _, _, _, _, h, _⟩ := z
      cases h
    · obtain ⟨_, _, _, _, _, _, _, h, _⟩ := z
      cases h
  | n + 1, f, df, d, e1, e2, fd, F => by
    have ih := Tab.fn_ok ok c (P := P) (w := w) (base := base) X N n
    obtain ⟨ok1, _⟩ := ba2 ok
    obtain ⟨hlen, hat⟩ := chkAll_at ok1
    obtain ⟨k1, k2⟩ := ba2 (hat f df d e1 e2)
    obtain ⟨k2, k3⟩ := ba2 k2
    obtain ⟨k3, k4⟩ := ba2 k3
    obtain ⟨k4, k5⟩ := ba2 k4
    have S := scope_of k2
    have hil := of_decide_eq_true k4
    have hpN : df.ps.length ≤ df.N.length := by
      have := congrArg List.length S.pre
      rw [List.length_take] at this
      omega
    have inj := Tab.inj c hlen
    have hgv : GvOk (t.G K) (gvK K) ⟨df.N, d.scope, d.scope, true, t.vals, t.free, t.pss, t.cs, t.es⟩ := ⟨fun x d H hl => by
      obtain ⟨u, _, _, q, _⟩ := Tab.val_ok ok c hl
      exact q H, fun n fl f hl => ⟨(Tab.cls_ok ok c hl).1, (Tab.cls_ok ok c hl).2.1⟩⟩
    obtain ⟨tb, hP, hS⟩ := chkSs_ok (G := t.G K) (cl := callN t.T n) (ar := arOf t.T) (vf := fun f => f < t.T.length) (gv := gvK K) (lv := 2 * n) (fun f fl ds x h => (callN_ar h).1) (fun f fl ds x h => (callN_ar h).2) inj df.body _ d.body hgv k1
    refine F.ok S (fun vs H Q E ⟨fl, ds, io, Z, dd, b, outs, hcl, hl, hin, _⟩ => hin.length.trans hl) (fun cdv A outer s H vs Q E hr hsp => ⟨tb, PSs.nox (hP _ ?_), ?_⟩)
    · refine ⟨rfl, S.nd, rfl, S.kind, rfl, rfl, fun _ _ => rfl, fun _ _ => rfl, rfl, ?_, fun x d hl => ?_, fun x f hl => ?_, fun g hg => ?_, hr, fun x n hl => ?_, fun n fl f hl => ?_, fun n f he => ⟨by rw [hlen]; exact (Tab.eq_ok ok c he).1, (Tab.eq_ok ok c he).2⟩, fun x hx => free_of c X N hx⟩
      · have := hr.un
        show (A.deeper _).units + 65 < cLine
        omega
      · obtain ⟨u, q1, q2, _, _⟩ := Tab.val_ok ok c hl
        exact ⟨u, PySem.W.mg_of X N q1, q2⟩
      · obtain ⟨u, q1, _, _, q4, _⟩ := Tab.val_ok ok c hl
        obtain ⟨dd, g1, _⟩ := fns_of ok hl
        refine ⟨by rw [hlen]; exact (List.getElem?_eq_some_iff.mp g1).1, ?_⟩
        have := PySem.W.mg_of X N q1
        rw [q4 f rfl] at this
        exact this
      · have g1 : t.T[g]? = some t.T[g] := List.getElem?_eq_getElem hg
        have g2 : t.DS[g]? = some (t.DS[g]'(hlen ▸ hg)) := List.getElem?_eq_getElem (hlen ▸ hg)
        obtain ⟨m1, m2⟩ := ba2 (hat g _ _ g1 g2)
        obtain ⟨m2, m3⟩ := ba2 m2
        obtain ⟨m3, m4⟩ := ba2 m3
        obtain ⟨m4, m5⟩ := ba2 m4
        obtain ⟨m5, m6⟩ := ba2 m5
        obtain ⟨fd', F'⟩ := c.def_ g2
        have z1 : (t.DS[g]'(hlen ▸ hg)).dvs K = [] := by
          unfold He.DefD.dvs
          rw [List.isEmpty_iff.mp m5] <;> rfl
        have z2 : (t.DS[g]'(hlen ▸ hg)).kws K = [] := by
          unfold He.DefD.kws
          rw [List.isEmpty_iff.mp m6] <;> rfl
        rw [z1, z2] at F'
        obtain ⟨as, p1, p2⟩ := params_of m3
        have S' := scope_of m2
        have ef : (t.G K).fa g = He.fAd K (t.DS[g]'(hlen ▸ hg)).at_ := Tab.fa_eq (x := "") g2
        have ea : arOf t.T g = (t.T[g]).ps.length := by
          unfold arOf
          rw [g1] <;> rfl
        have fo := ih g _ _ g1 g2 fd' F'
        obtain ⟨fp, fdl⟩ := FunD.flds F'
        refine ⟨fd', (t.T[g]).ps, as, ?_, ?_, fp.trans p1, fdl, p2, ?_, ?_⟩
        · show FnOk P w K mg base _ (2 * n) ((t.G K).fa g) fd' _ (spOf (t.G K) (callN t.T n g) (arOf t.T g))
          rw [ef, ea]
          exact fo
        · show PySem.W.keepIn K (.ref ((t.G K).fa g)) = true
          rw [ef]
          exact F'.kp
        · rw [← S'.pre]
          exact S'.nd.sublist (List.take_sublist _ _)
        · show (t.T.map (·.ps))[g]? = _
          rw [List.getElem?_map, g1] <;> rfl
      · obtain ⟨u, q1, _, _, _, q5⟩ := Tab.val_ok ok c hl
        have := PySem.W.mg_of X N q1
        rw [q5 n rfl] at this
        exact this
      · obtain ⟨_, _, q1, q2⟩ := Tab.cls_ok ok c hl
        exact ⟨by rw [hlen]; exact q1, q2⟩
    · obtain ⟨fl, ds, io, Z, dd, b, outs, hcl, hl, hin, nd, hz, hd, hQ⟩ := hsp
      have h' : (match t.T[f]? with
        | none => none
        | some df => if df.ios = fl ∧ ds.length = df.ps.length ∧ df.ios.length = df.ps.length then finish df.ios (evS (callN t.T n) df.body (init df ds)) else none) = some (dd, b, outs) := hcl
      rw [e1] at h'
      dsimp only at h'
      split at h'
      · rename_i cc
        exact body_ok hS h' cc.1 cc.2.1 hil hpN hin nd hz hd hQ
      · cases h'
end
end Mp

set_option maxRecDepth 100000
set_option maxHeartbeats 4000000
/-! Mp21: the law's def, at the end of the head. -/
namespace Mp
open PySem PySem.Spec PyProof.Rows L2
theorem ints_dt {G : GD} {H : Hp} : ∀ ns : List Int, DtA G H (ns.map V.int) (ns.map D.int)
  | [] => .nil
  | n :: ns => .cons (.int n) (ints_dt ns)
theorem law_goal (t : Tab) (ok : t.ok = true) {n f0 : Nat} {df0 : Df} (e1 : t.T[f0]? = some df0) (hps : df0.ps = [("script" : Str)]) (hv : t.vals.lookup ("law" : Str) = some (D.fn f0)) (hlaw : ∀ ns : List Int, ns.length ≤ 63 → callN t.T n f0 [false] [.scr (ns.map D.int)] = some (.bl true, false, []))
    {P : Program} {w : World} {mg : Str → Option Value} {fa : Addr} {h : Heap} (Y : ∃ K : PySem.W.Frag, K.In h ∧ SaysM t K) (N : h.Ns mainGlobals mg) (hm : mg ("law" : Str) = some (.ref fa)) :
    ∃ (K : PySem.W.Frag) (fd : FuncData) (sp : L2.Sp), K.In h ∧ (∀ (s : Shared) (u : Value), BindsTo s fd ⟨[u], []⟩ [(("script" : Str), u)]) ∧
      (∀ (H : Hp) (a : Addr) (ns : List Int), ns.length ≤ 63 → Only H → SqL K H a (ns.map V.int) → sp [.ref a] H (fun v _ => v = .bl true) fun _ _ _ => False) ∧
      ∀ base : Heap, K.In base → base.Ns mainGlobals mg → FnOk P w K mg base (fun _ _ _ _ _ _ => False) (2 * n) fa fd [("script" : Str)] sp := by
  obtain ⟨K, KX, c⟩ := Y
  obtain ⟨d, e2, hat⟩ := fns_of ok hv
  obtain ⟨ok1, _⟩ := ba2 ok
  obtain ⟨hlen, hall⟩ := chkAll_at ok1
  obtain ⟨k1, k2⟩ := ba2 (hall f0 df0 d e1 e2)
  obtain ⟨k2, k3⟩ := ba2 k2
  obtain ⟨k3, k4⟩ := ba2 k3
  obtain ⟨k4, k5⟩ := ba2 k4
  obtain ⟨k5, k6⟩ := ba2 k5
  obtain ⟨fd, F⟩ := c.def_ e2
  have z1 : d.dvs K = [] := by
    unfold He.DefD.dvs
    rw [List.isEmpty_iff.mp k5] <;> rfl
  have z2 : d.kws K = [] := by
    unfold He.DefD.kws
    rw [List.isEmpty_iff.mp k6] <;> rfl
  rw [z1, z2] at F
  obtain ⟨as, p1, p2⟩ := params_of k3
  obtain ⟨fp, fdl⟩ := FunD.flds F
  have S := scope_of k2
  have nd : df0.ps.Nodup := by
    rw [← S.pre]
    exact S.nd.sublist (List.take_sublist _ _)
  have efa : fa = He.fAd K d.at_ := by
    obtain ⟨u, q1, _, _, q4, _⟩ := Tab.val_ok ok c hv
    have := PySem.W.mg_of KX N q1
    rw [hm, q4 f0 rfl, Tab.fa_eq (x := "") e2] at this
    injection this with this
    injection this
  refine ⟨K, fd, spOf (t.G K) (callN t.T n f0) df0.ps.length, KX, fun s u => ?_, fun H a ns hl _ hS => ?_, fun base _ _ => ?_⟩
  · have := bind_plain (fd := fd) (as := as) (us := [u]) (fp.trans p1) fdl (by rw [p2]; exact nd) (by have := congrArg List.length p2; rw [List.length_map, hps] at this; exact this.symm)
    rw [p2, hps] at this
    exact BindsTo.of_eq this
  · refine ⟨[false], [.scr (ns.map D.int)], [], fun _ => False, .bl true, false, [], hlaw ns hl, by rw [hps] <;> rfl, ?_, List.nodup_nil, (fun a h => by cases h), (fun a (h : False) => h.elim), fun v H' O => ?_⟩
    · refine .v (.scr (sql_le (fun b o e => hr_some.mpr ⟨fun z => ?_, e⟩) hS) (ints_dt ns)) .nil
      rcases z with z | z
      · exact z
      · cases z
    · rcases O.val with ⟨_, dt, _⟩ | ⟨z, _⟩
      · cases dt; rfl
      · cases z
  · have := Tab.fn_ok ok c (P := P) (w := w) (base := base) KX N n f0 df0 d e1 e2 fd F
    rw [efa]
    rw [hps] at this ⊢
    exact this
end Mp

set_option maxRecDepth 100000
set_option maxHeartbeats 4000000
/-! Mv1: the evaluator, step by step: equations for simp. -/
namespace Mp
open PySem
section
variable {cl : Nat → List Bool → List D → CRes} {ρ : Env}
theorem R.bind_ok' {α β : Type} {a : α} {f : α → Env → R β} : (R.ok a ρ).bind f = f a ρ := rfl
theorem R.bind_no' {α β : Type} {f : α → Env → R β} : (R.no : R α).bind f = .no := rfl
theorem R.of_some' {α : Type} {a : α} : R.of (some a) ρ = .ok a ρ := rfl
theorem R.fl_ok' {α : Type} {a : α} {f : α → Env → Fl} : (R.ok a ρ).fl f = f a ρ := rfl
theorem Fl.bind_nx {f : Env → Fl} : (Fl.nx ρ).bind f = f ρ := rfl
theorem Fl.bind_rt {f : Env → Fl} {d : D} {b : Bool} : (Fl.rt d b ρ).bind f = .rt d b ρ := rfl
def forRun (cl : Nat → List Bool → List D → CRes) (t : E) (b : S) (xs : List D) (ρ : Env) : Fl := forLoop (fun d => evG cl t d .frz) (evS cl b) xs ρ
def lcRun (cl : Nat → List Bool → List D → CRes) (vs : List Nat) (t c e : E) (xs acc : List D) (ρ : Env) : R (List D) := lcLoop vs (fun d => evG cl t d .frz) (evT cl c) (evE cl e) xs acc ρ
def whlRun (cl : Nat → List Bool → List D → CRes) (c : E) (b : S) (n : Nat) (ρ : Env) : Fl := whlLoop (evT cl c) (evS cl b) n ρ
theorem for_nil {t : E} {b : S} : forRun cl t b [] ρ = .nx ρ := rfl
theorem for_cons {t : E} {b : S} {x : D} {xs : List D} : forRun cl t b (x :: xs) ρ = (evG cl t x .frz ρ).fl fun _ ρ => (evS cl b ρ).bind fun ρ => forRun cl t b xs ρ := rfl
theorem lc_nil {vs : List Nat} {t c e : E} {acc : List D} : lcRun cl vs t c e [] acc ρ = .ok acc ρ := rfl
theorem lc_cons {vs : List Nat} {t c e : E} {acc : List D} {x : D} {xs : List D} : lcRun cl vs t c e (x :: xs) acc ρ = (evG cl t x .frz (wipe ρ vs)).bind fun _ ρ => (evT cl c ρ).bind fun k ρ =>
      if k = true then (evE cl e ρ).bind fun y ρ => (settle ρ y.1 y.2).bind fun d ρ => if acc.length < sizeLine then lcRun cl vs t c e xs (acc ++ [d]) ρ else .no
      else lcRun cl vs t c e xs acc ρ := rfl
theorem whl_succ {c : E} {b : S} {n : Nat} : whlRun cl c b (n + 1) ρ = (evT cl c ρ).fl fun k ρ => if k = true then (evS cl b ρ).bind fun ρ => whlRun cl c b n ρ else .nx ρ := rfl
theorem s_skip : evS cl .skip ρ = .nx ρ := rfl
theorem s_seq {a b : S} : evS cl (.seq a b) ρ = (evS cl a ρ).bind fun ρ => evS cl b ρ := rfl
theorem s_asg {t e : E} : evS cl (.asg t e) ρ = (evE cl e ρ).fl fun x ρ => (keep ρ x.1 x.2).fl fun x ρ => (evG cl t x.1 x.2 ρ).fl fun _ ρ => .nx ρ := rfl
theorem s_ex {e : E} : evS cl (.ex e) ρ = (evE cl e ρ).fl fun _ ρ => .nx ρ := rfl
theorem s_ret {e : E} : evS cl (.ret e) ρ = (evE cl e ρ).fl fun x ρ => (match x.2 with
    | .frz => .rt x.1 false ρ
    | .fr => .rt x.1 true ρ
    | .pk i => (match getS ρ i with | .own d => .rt d true (ρ.set i .un) | _ => .no)) := rfl
theorem s_retn : evS cl .retn ρ = .rt .non false ρ := rfl
theorem s_ite {c : E} {a b : S} : evS cl (.ite c a b) ρ = (evT cl c ρ).fl fun k ρ => if k = true then evS cl a ρ else evS cl b ρ := rfl
theorem s_for {t it : E} {b : S} : evS cl (.for_ t it b) ρ = (evI cl it ρ).fl fun xs ρ => forRun cl t b xs ρ := rfl
theorem s_whl {c : E} {b : S} : evS cl (.whl c b) ρ = whlRun cl c b wFuel ρ := rfl
theorem s_app {i : Nat} {e : E} : evS cl (.app i e) ρ = if ownL (getS ρ i) = true then (evE cl e ρ).fl fun x ρ => (settle ρ x.1 x.2).fl fun d ρ => (match appD ρ i [d] with | some ρ => .nx ρ | none => .no) else .no := rfl
theorem s_ext {i : Nat} {e : E} : evS cl (.ext i e) ρ = if ownL (getS ρ i) = true then (evE cl e ρ).fl fun x ρ => (match x.2 with
    | .fr => (match lstOf x.1 with
      | some ds => (match appD ρ i ds with | some ρ => .nx ρ | none => .no)
      | none => .no)
    | _ => .no) else .no := rfl
theorem s_fst {i : Nat} {x : Str} {e : E} : evS cl (.fst i x e) ρ = (evE cl e ρ).fl fun v ρ => (settle ρ v.1 v.2).fl fun d ρ => (match getS ρ i with
    | .io (.ins c ns fs) => if ns[fs.length]? = some x ∧ x ∉ ns.take fs.length ∧ fs.length < 900 then .nx (ρ.set i (.io (.ins c ns (fs ++ [d])))) else .no
    | _ => .no) := rfl
theorem s_par {is : List Nat} {es : E} : evS cl (.par is es) ρ = (evM cl es ρ).fl fun xs ρ => (puts is xs ρ).fl fun _ ρ => .nx ρ := rfl
theorem e_pop {i : Nat} {a b : E} : evE cl (.vop .pop i a b) ρ = if ownL (getS ρ i) = true then (evE cl a ρ).bind fun x ρ => vopD .pop ρ i x.1 .non else .no := rfl
theorem e_dnew {a : E} : evE cl (.uop .dnew a) ρ = .ok (.dct [], .fr) ρ := rfl
theorem e_rev {a : E} : evE cl (.uop .rev a) ρ = (evE cl a ρ).bind fun x ρ => (R.of (revD (cur ρ x.1 x.2)) ρ).bind fun z ρ => .ok (z.1, kdOf z.2) ρ := rfl
theorem e_lof1 {a : E} : evE cl (.uop .lof (.rng1 a)) ρ = (evE cl a ρ).bind fun x ρ => (match x.1 with | .int n => if rgOk 0 n then .ok (.lst (rngD 0 n), .fr) ρ else .no | _ => .no) := rfl
theorem e_lof2 {a b : E} : evE cl (.uop .lof (.rng2 a b)) ρ = (evE cl a ρ).bind fun x ρ => (evE cl b ρ).bind fun y ρ => (match x.1, y.1 with | .int m, .int n => if rgOk m n then .ok (.lst (rngD m n), .fr) ρ else .no | _, _ => .no) := rfl
theorem e_rof1 {a : E} : evE cl (.uop .rof (.rng1 a)) ρ = (evE cl a ρ).bind fun x ρ => (match x.1 with | .int n => .ok (.rng 0 n, .frz) ρ | _ => .no) := rfl
theorem e_rof2 {a b : E} : evE cl (.uop .rof (.rng2 a b)) ρ = (evE cl a ρ).bind fun x ρ => (evE cl b ρ).bind fun y ρ => (match x.1, y.1 with | .int m, .int n => .ok (.rng m n, .frz) ρ | _, _ => .no) := rfl
theorem e_bm {o : Bm} {a b : E} : evE cl (.bm o a b) ρ = (evE cl a ρ).bind fun x ρ => if isLst x.1 = true then (evE cl b ρ).bind fun y ρ => (R.of (bmD o (cur ρ x.1 x.2) y.1) ρ).bind fun z ρ => .ok (z.1, kdOf z.2) ρ else .no := rfl
theorem e_mkk {c f : Nat} {fl : List Str} {p : List Nat} {es ks : E} : evE cl (.mkk c f fl p es ks) ρ = (evA cl es ρ).bind fun as ρ => (evA cl ks ρ).bind fun bs ρ => doMk cl c f fl (pick p (as ++ bs)) ρ := rfl
theorem e_oeq {ng : Bool} {c f : Nat} {a b : E} : evE cl (.oeq ng c f a b) ρ = (evE cl a ρ).bind fun x ρ => (settle ρ x.1 x.2).bind fun d ρ => (evE cl b ρ).bind fun y ρ => (settle ρ y.1 y.2).bind fun e ρ => if insB c d = true ∧ othB c e = true then (doCall cl f [.v d, .v e] ρ).bind fun z ρ => blR ng z ρ else .no := rfl
theorem ownS_o {d : D} : ownS (.own d) = true := rfl
theorem ownS_i {d : D} : ownS (.io d) = true := rfl
theorem isLst_l {xs : List D} : isLst (.lst xs) = true := rfl
theorem m_nil : evM cl .nil ρ = .ok [] ρ := rfl
theorem m_cons {a r : E} : evM cl (.cons a r) ρ = (evE cl a ρ).bind fun x ρ => (keep ρ x.1 x.2).bind fun x ρ => (evM cl r ρ).bind fun xs ρ => .ok (x :: xs) ρ := rfl
theorem puts_n : puts [] [] ρ = .ok () ρ := rfl
theorem puts_c {i : Nat} {is : List Nat} {d : D × Kd} {ds : List (D × Kd)} : puts (i :: is) (d :: ds) ρ = (putName ρ i d.1 d.2).bind fun _ ρ => puts is ds ρ := rfl
theorem e_fld {a : E} {x : Str} : evE cl (.fld a x) ρ = (evE cl a ρ).bind fun v ρ => (R.of (fldD x v.1) ρ).bind fun z ρ => .ok (z, .frz) ρ := rfl
theorem e_mk {c f : Nat} {fl : List Str} {es : E} : evE cl (.mk c f fl es) ρ = (evA cl es ρ).bind fun as ρ => doMk cl c f fl as ρ := rfl
theorem e_isinc {c : Nat} {x : Str} {a : E} : evE cl (.isinc c x a) ρ = (evE cl a ρ).bind fun x ρ => (R.of (isinC c x.1) ρ).bind fun b ρ => .ok (.bl b, .frz) ρ := rfl
theorem isc_ins {c : Nat} {ns : List Str} {fs : List D} : isinC c (.ins c ns fs) = some true := if_pos rfl
theorem ownL_o {xs : List D} : ownL (.own (.lst xs)) = true := rfl
theorem ownL_i {xs : List D} : ownL (.io (.lst xs)) = true := rfl
theorem lst_of {xs : List D} : lstOf (.lst xs) = some xs := rfl
theorem app_o {i : Nat} {xs ds : List D} (h : getS ρ i = .own (.lst xs)) (hz : xs.length + ds.length ≤ sizeLine) : appD ρ i ds = some (ρ.set i (.own (.lst (xs ++ ds)))) := by
  unfold appD
  rw [h]
  exact if_pos hz
theorem app_i {i : Nat} {xs ds : List D} (h : getS ρ i = .io (.lst xs)) (hz : xs.length + ds.length ≤ sizeLine) : appD ρ i ds = some (ρ.set i (.io (.lst (xs ++ ds)))) := by
  unfold appD
  rw [h]
  exact if_pos hz
theorem s_never : evS cl .never ρ = .no := rfl
theorem e_var {i : Nat} : evE cl (.var i) ρ = (match getS ρ i with
    | .val d => .ok (d, .frz) ρ
    | .own d => .ok (d, .pk i) ρ
    | .io d => .ok (d, .pk i) ρ
    | .un => .no) := rfl
theorem e_con {d : D} : evE cl (.con d) ρ = .ok (d, .frz) ρ := rfl
theorem e_glo {x : Str} {d : D} : evE cl (.glo x d) ρ = .ok (d, .frz) ρ := rfl
theorem e_tup {es : E} : evE cl (.tup es) ρ = (evL cl es ρ).bind fun ds ρ => if ds.length ≤ sizeLine then .ok (.tup ds, .frz) ρ else .no := rfl
theorem e_lst {es : E} : evE cl (.lst es) ρ = (evL cl es ρ).bind fun ds ρ => if ds.length ≤ sizeLine then .ok (.lst ds, .fr) ρ else .no := rfl
theorem e_neg {a : E} : evE cl (.neg a) ρ = (evE cl a ρ).bind fun x ρ => (match x.1 with | .int i => .ok (.int (-i), .frz) ρ | _ => .no) := rfl
theorem e_bin {o : Bop} {a b : E} : evE cl (.bin o a b) ρ = (evE cl a ρ).bind fun x ρ => (evE cl b ρ).bind fun y ρ => (R.of (binD o (cur ρ x.1 x.2) y.1) ρ).bind fun z ρ => .ok (z.1, kdOf z.2) ρ := rfl
theorem e_cmp {o : Cop} {a b : E} : evE cl (.cmp o a b) ρ = (evE cl a ρ).bind fun x ρ => (evE cl b ρ).bind fun y ρ => (R.of (cmpD o (cur ρ x.1 x.2) y.1) ρ).bind fun z ρ => .ok (.bl z, .frz) ρ := rfl
theorem e_cmp2 {o1 o2 : Cop} {a b c : E} : evE cl (.cmp2 o1 o2 a b c) ρ = (evE cl a ρ).bind fun x ρ => (evE cl b ρ).bind fun y ρ => (R.of (cmpD o1 (cur ρ x.1 x.2) y.1) ρ).bind fun z ρ =>
      if z = true then (evE cl c ρ).bind fun w ρ => (R.of (cmpD o2 (cur ρ y.1 y.2) w.1) ρ).bind fun z ρ => .ok (.bl z, .frz) ρ else .ok (.bl false, .frz) ρ := rfl
theorem e_not {a : E} : evE cl (.not a) ρ = (evT cl a ρ).bind fun b ρ => .ok (.bl (!b), .frz) ρ := rfl
theorem e_and {a b : E} : evE cl (.and a b) ρ = (evE cl a ρ).bind fun x ρ => (match x.1 with
    | .bl true => evE cl b ρ
    | .bl false => .ok (.bl false, .frz) ρ
    | _ => .no) := rfl
theorem e_or {a b : E} : evE cl (.or a b) ρ = (evE cl a ρ).bind fun x ρ => (match x.1 with
    | .bl false => evE cl b ρ
    | .bl true => .ok (.bl true, .frz) ρ
    | _ => .no) := rfl
theorem e_ife {c a b : E} : evE cl (.ife c a b) ρ = (evT cl c ρ).bind fun k ρ => if k = true then evE cl a ρ else evE cl b ρ := rfl
theorem e_idx {a i : E} : evE cl (.idx a i) ρ = (evE cl a ρ).bind fun x ρ => (evE cl i ρ).bind fun y ρ => (R.of (idxD (cur ρ x.1 x.2) y.1) ρ).bind fun z ρ => .ok (z, .frz) ρ := rfl
theorem e_sl {a lo hi : E} : evE cl (.sl a lo hi) ρ = (evE cl a ρ).bind fun x ρ => (evO cl lo ρ).bind fun l ρ => (evO cl hi ρ).bind fun h ρ => (R.of (slD (cur ρ x.1 x.2) l h) ρ).bind fun z ρ => .ok (z.1, kdOf z.2) ρ := rfl
theorem e_call {f : Nat} {es : E} : evE cl (.call f es) ρ = (evA cl es ρ).bind fun as ρ => doCall cl f as ρ := rfl
theorem e_callk {f : Nat} {p : List Nat} {es ks : E} : evE cl (.callk f p es ks) ρ = (evA cl es ρ).bind fun as ρ => (evA cl ks ρ).bind fun bs ρ => doCall cl f (pick p (as ++ bs)) ρ := rfl
theorem e_calf {f : Nat} {a es : E} : evE cl (.calf f a es) ρ = (evE cl a ρ).bind fun x ρ => (match x.2 with
    | .fr => (evA cl es ρ).bind fun as ρ => doCallF cl f x.1 as ρ
    | _ => .no) := rfl
theorem e_calv {i : Nat} {es : E} : evE cl (.calv i es) ρ = (match getS ρ i with
    | .val (.fn f) => (evA cl es ρ).bind fun as ρ => doCall cl f as ρ
    | _ => .no) := rfl
theorem e_blt {b : Blt} {es : E} : evE cl (.blt b es) ρ = (evP cl es ρ).bind fun xs ρ => (R.of (bltD b (xs.map fun x => cur ρ x.1 x.2)) ρ).bind fun z ρ => .ok (z.1, kdOf z.2) ρ := rfl
theorem e_isin {t : Nat} {a : E} : evE cl (.isin t a) ρ = (evE cl a ρ).bind fun x ρ => (R.of (isinD t x.1) ρ).bind fun b ρ => .ok (.bl b, .frz) ρ := rfl
theorem e_lc {vs : List Nat} {t it c e : E} : evE cl (.lc vs t it c e) ρ = if (vs.all fun v => plainS (getS ρ v)) = true then (evI cl it ρ).bind fun items ρ1 => (lcRun cl vs t c e items [] ρ1).bind fun acc ρ2 => .ok (.lst acc, .fr) (unwipe ρ1 ρ2 vs) else .no := rfl
theorem l_nil : evL cl .nil ρ = .ok [] ρ := rfl
theorem l_cons {a r : E} : evL cl (.cons a r) ρ = (evE cl a ρ).bind fun x ρ => (settle ρ x.1 x.2).bind fun d ρ => (evL cl r ρ).bind fun ds ρ => .ok (d :: ds) ρ := rfl
theorem a_nil : evA cl .nil ρ = .ok [] ρ := rfl
theorem a_cons {a r : E} : evA cl (.cons a r) ρ = (evE cl a ρ).bind fun x ρ => (settle ρ x.1 x.2).bind fun d ρ => (evA cl r ρ).bind fun ds ρ => .ok (.v d :: ds) ρ := rfl
theorem a_ioa {i : Nat} {r : E} : evA cl (.ioa i r) ρ = (match getS ρ i with
    | .own _ => (evA cl r ρ).bind fun ds ρ => .ok (.io i :: ds) ρ
    | .io _ => (evA cl r ρ).bind fun ds ρ => .ok (.io i :: ds) ρ
    | _ => .no) := rfl
theorem p_nil : evP cl .nil ρ = .ok [] ρ := rfl
theorem p_cons {a r : E} : evP cl (.cons a r) ρ = (evE cl a ρ).bind fun x ρ => (evP cl r ρ).bind fun ds ρ => .ok (x :: ds) ρ := rfl
theorem o_nil : evO cl .nil ρ = .ok none ρ := rfl
theorem o_cons {a r : E} : evO cl (.cons a r) ρ = (evE cl a ρ).bind fun x ρ => (match x.1 with | .int i => .ok (some i) ρ | _ => .no) := rfl
theorem t_not {a : E} : evT cl (.not a) ρ = (evT cl a ρ).bind fun b ρ => .ok (!b) ρ := rfl
theorem t_and {a b : E} : evT cl (.and a b) ρ = (evT cl a ρ).bind fun k ρ => if k = true then evT cl b ρ else .ok false ρ := rfl
theorem t_or {a b : E} : evT cl (.or a b) ρ = (evT cl a ρ).bind fun k ρ => if k = true then .ok true ρ else evT cl b ρ := rfl
theorem t_nil : evT cl .nil ρ = .ok true ρ := rfl
theorem t_tr {e : E} : evT cl (.tr e) ρ = (evE cl e ρ).bind fun x ρ => R.of (truthD x.1) ρ := rfl
theorem i_rng1 {a : E} : evI cl (.rng1 a) ρ = (evE cl a ρ).bind fun x ρ => (match x.1 with | .int n => if inR n then .ok (rngD 0 n) ρ else .no | _ => .no) := rfl
theorem i_rng2 {a b : E} : evI cl (.rng2 a b) ρ = (evE cl a ρ).bind fun x ρ => (evE cl b ρ).bind fun y ρ => (match x.1, y.1 with | .int m, .int n => if inR m ∧ inR n then .ok (rngD m n) ρ else .no | _, _ => .no) := rfl
theorem i_enm {a : E} : evI cl (.enm a) ρ = (evE cl a ρ).bind fun x ρ => (settle ρ x.1 x.2).bind fun d ρ => R.of ((seqOf d).map enumD) ρ := rfl
theorem i_it {e : E} : evI cl (.it e) ρ = (evE cl e ρ).bind fun x ρ => (settle ρ x.1 x.2).bind fun d ρ => R.of (seqI d) ρ := rfl
theorem g_var {i : Nat} {d : D} {k : Kd} : evG cl (.var i) d k ρ = putName ρ i d k := rfl
theorem g_tup {ts : E} {xs : List D} {k : Kd} : evG cl (.tup ts) (.tup xs) k ρ = evGs cl ts xs ρ := rfl
theorem g_idxF {j : Nat} {i : E} {d : D} : evG cl (.idx (.var j) i) d .frz ρ = if ownS (getS ρ j) = true then (evE cl i ρ).bind fun y ρ => storeIx ρ j y.1 d else .no := rfl
theorem g_idxN {j : Nat} {i : E} {d : D} : evG cl (.idx (.var j) i) d .fr ρ = if ownS (getS ρ j) = true then (evE cl i ρ).bind fun y ρ => storeIx ρ j y.1 d else .no := rfl
theorem gs_nil : evGs cl .nil [] ρ = .ok () ρ := rfl
theorem gs_cons {t r : E} {d : D} {ds : List D} : evGs cl (.cons t r) (d :: ds) ρ = (evG cl t d .frz ρ).bind fun _ ρ => evGs cl r ds ρ := rfl
end
theorem getS0 {s : Mp.Slot} {ρ : Env} : getS (s :: ρ) 0 = s := rfl
theorem getS1 {s : Mp.Slot} {ρ : Env} {i : Nat} : getS (s :: ρ) (i + 1) = getS ρ i := by
  unfold getS
  rw [List.getElem?_cons_succ]
theorem cur_f {ρ : Env} {d : D} : cur ρ d .frz = d := rfl
theorem cur_n {ρ : Env} {d : D} : cur ρ d .fr = d := rfl
theorem cur_p {ρ : Env} {d : D} {i : Nat} : cur ρ d (.pk i) = (match getS ρ i with | .own d => d | .io d => d | .val d => d | .un => d) := rfl
theorem settle_f {ρ : Env} {d : D} : Mp.settle ρ d .frz = .ok d ρ := rfl
theorem settle_n {ρ : Env} {d : D} : Mp.settle ρ d .fr = .ok d ρ := rfl
theorem settle_p {ρ : Env} {d : D} {i : Nat} : Mp.settle ρ d (.pk i) = (match getS ρ i with | .own d => .ok d (ρ.set i (.val d)) | _ => .no) := rfl
theorem keep_f {ρ : Env} {d : D} : keep ρ d .frz = .ok (d, .frz) ρ := rfl
theorem keep_n {ρ : Env} {d : D} : keep ρ d .fr = .ok (d, .fr) ρ := rfl
theorem keep_p {ρ : Env} {d : D} {i : Nat} : keep ρ d (.pk i) = (Mp.settle ρ d (.pk i)).bind fun d ρ => .ok (d, .frz) ρ := rfl
theorem kd_t : kdOf true = .fr := rfl
theorem kd_f : kdOf false = .frz := rfl
theorem tr_non : truthD .non = some false := rfl
theorem tr_bl {b : Bool} : truthD (.bl b) = some b := rfl
theorem tr_int {i : Int} : truthD (.int i) = some (i != 0) := rfl
theorem tr_tup {xs : List D} : truthD (.tup xs) = some (!xs.isEmpty) := rfl
theorem tr_lst {xs : List D} : truthD (.lst xs) = some (!xs.isEmpty) := rfl
theorem tr_scr {xs : List D} : truthD (.scr xs) = some (!xs.isEmpty) := rfl
theorem ix_tup {xs : List D} {i : Int} : idxD (.tup xs) (.int i) = (Mp.ixN xs.length i).bind fun j => xs[j]? := rfl
theorem ix_lst {xs : List D} {i : Int} : idxD (.lst xs) (.int i) = (Mp.ixN xs.length i).bind fun j => xs[j]? := rfl
theorem sl_tup {xs : List D} {a b : Option Int} : slD (.tup xs) a b = some (.tup (cutD xs a b), false) := rfl
theorem sl_lst {xs : List D} {a b : Option Int} : slD (.lst xs) a b = some (.lst (cutD xs a b), true) := rfl
theorem b_len_t {xs : List D} : bltD .len [.tup xs] = some (.int xs.length, false) := rfl
theorem b_len_l {xs : List D} : bltD .len [.lst xs] = some (.int xs.length, false) := rfl
theorem b_len_s {xs : List D} : bltD .len [.scr xs] = some (.int xs.length, false) := rfl
theorem b_tuple_t {xs : List D} : bltD .tuple [.tup xs] = some (.tup xs, false) := rfl
theorem b_tuple_l {xs : List D} : bltD .tuple [.lst xs] = some (.tup xs, false) := rfl
theorem b_list_t {xs : List D} : bltD .list [.tup xs] = some (.lst xs, true) := rfl
theorem b_list_l {xs : List D} : bltD .list [.lst xs] = some (.lst xs, true) := rfl
theorem b_int_i {i : Int} : bltD .int [.int i] = some (.int i, false) := rfl
theorem b_int_b {k : Bool} : bltD .int [.bl k] = some (.int (if k then 1 else 0), false) := rfl
theorem b_abs {i : Int} : bltD .abs [.int i] = some (.int (if i < 0 then -i else i), false) := rfl
theorem b_max {i j : Int} : bltD .max [.int i, .int j] = some (.int (if j > i then j else i), false) := rfl
theorem b_min {i j : Int} : bltD .min [.int i, .int j] = some (.int (if j < i then j else i), false) := rfl
theorem b_sum {xs : List D} : bltD .sum [.lst xs] = (intsOf xs).map fun ns => (.int ns.sum, false) := rfl
theorem b_all {xs : List D} : bltD .all [.lst xs] = (bolsOf xs).map fun bs => (.bl (bs.all id), false) := rfl
theorem b_any {xs : List D} : bltD .any [.lst xs] = (bolsOf xs).map fun bs => (.bl (bs.any id), false) := rfl
theorem bo_nil : bolsOf [] = some [] := rfl
theorem bo_cons {b : Bool} {r : List D} : bolsOf (.bl b :: r) = (bolsOf r).map (b :: ·) := rfl
theorem in_nil : intsOf [] = some [] := rfl
theorem in_cons {b : Int} {r : List D} : intsOf (.int b :: r) = (intsOf r).map (b :: ·) := rfl
theorem isin_non {t : Nat} : isinD t .non = if t < 5 then some (isinT t 0) else none := by simp [isinD, tyIx]
theorem isin_bl {t : Nat} {b : Bool} : isinD t (.bl b) = if t < 5 then some (isinT t 1) else none := by simp [isinD, tyIx]
theorem isin_int {t : Nat} {b : Int} : isinD t (.int b) = if t < 5 then some (isinT t 2) else none := by simp [isinD, tyIx]
theorem isin_str {t : Nat} {b : Str} : isinD t (.str b) = if t < 5 then some (isinT t 3) else none := by simp [isinD, tyIx]
theorem isin_tup {t : Nat} {b : List D} : isinD t (.tup b) = if t < 5 then some (isinT t 4) else none := by simp [isinD, tyIx]
theorem isin_lst {t : Nat} {b : List D} : isinD t (.lst b) = if t < 5 then some (isinT t 5) else none := by simp [isinD, tyIx]
theorem seq_t {xs : List D} : seqOf (.tup xs) = some xs := rfl
theorem seq_l {xs : List D} : seqOf (.lst xs) = some xs := rfl
theorem seqI_t {xs : List D} : seqI (.tup xs) = some xs := rfl
theorem seqI_l {xs : List D} : seqI (.lst xs) = some xs := rfl
theorem seqI_s {xs : List D} : seqI (.scr xs) = some xs := rfl
theorem seq_s {xs : List D} : seqOf (.scr xs) = some xs := rfl
theorem own_v {d : D} : ownS (.val d) = false := rfl
theorem own_o {d : D} : ownS (.own d) = true := rfl
theorem own_i {d : D} : ownS (.io d) = true := rfl
theorem own_u : ownS .un = false := rfl
theorem pl_v {d : D} : plainS (.val d) = true := rfl
theorem pl_u : plainS .un = true := rfl
theorem wipe_n {ρ : Env} : wipe ρ [] = ρ := rfl
theorem wipe_c {ρ : Env} {v : Nat} {vs : List Nat} : wipe ρ (v :: vs) = (wipe ρ vs).set v .un := rfl
theorem unw_n {ρ0 ρ : Env} : unwipe ρ0 ρ [] = ρ := rfl
theorem unw_c {ρ0 ρ : Env} {v : Nat} {vs : List Nat} : unwipe ρ0 ρ (v :: vs) = (unwipe ρ0 ρ vs).set v (getS ρ0 v) := rfl
theorem fin_rt {ios : List Bool} {d : D} {b : Bool} {ρ : Env} : Mp.finish ios (.rt d b ρ) = (outsOf ios ρ).map fun os => (d, b, os) := rfl
theorem fin_nx {ios : List Bool} {ρ : Env} : Mp.finish ios (.nx ρ) = (outsOf ios ρ).map fun os => (.non, false, os) := rfl
theorem out_n {ρ : Env} : outsOf [] ρ = some [] := rfl
theorem out_t {r : List Bool} {d : D} {ρ : Env} : outsOf (true :: r) (.io d :: ρ) = (outsOf r ρ).map (d :: ·) := rfl
theorem out_f {r : List Bool} {s : Mp.Slot} {ρ : Env} : outsOf (false :: r) (s :: ρ) = outsOf r ρ := rfl
theorem six_none {n d : Nat} : sIx n d none = d := rfl
theorem six_some {n d : Nat} {v : Int} : sIx n d (some v) = if v < 0 then (v + (n : Int)).toNat else min v.toNat n := rfl
theorem call_eq {T : List Df} {n f : Nat} {fl : List Bool} {ds : List D} {df : Df} (h : T[f]? = some df) (h1 : df.ios = fl) (h2 : ds.length = df.ps.length) (h3 : df.ios.length = df.ps.length) :
    callN T (n + 1) f fl ds = finish df.ios (evS (callN T n) df.body (init df ds)) := by
  show (match T[f]? with
    | none => none
    | some df => if df.ios = fl ∧ ds.length = df.ps.length ∧ df.ios.length = df.ps.length then finish df.ios (evS (callN T n) df.body (init df ds)) else none) = _
  rw [h]
  show (if _ then _ else _) = _
  rw [if_pos ⟨h1, h2, h3⟩]
@[simp] theorem D.ok_int (a : Int) : (D.int a).ok = true := rfl
theorem eqD_int (a b : Int) : eqD (.int a) (.int b) = some (decide (a = b)) := by
  unfold eqD
  rw [if_pos ⟨rfl, rfl, by simp [D.toP, PyData.depth]⟩]
  rfl
theorem ltD_int (a b : Int) : ltD (.int a) (.int b) = some (decide (a < b)) := by
  unfold ltD
  rw [if_pos ⟨rfl, rfl, rfl, rfl, by simp [D.toP, PyData.depth]⟩]
  simp only [D.toP, PySem.W.dataLt_int]
theorem cmp_eq_int (a b : Int) : cmpD .eq (.int a) (.int b) = some (decide (a = b)) := eqD_int a b
theorem cmp_ne_int (a b : Int) : cmpD .ne (.int a) (.int b) = some (!decide (a = b)) := by
  simp [cmpD, eqD_int]
theorem cmp_lt_int (a b : Int) : cmpD .lt (.int a) (.int b) = some (decide (a < b)) := ltD_int a b
theorem cmp_gt_int (a b : Int) : cmpD .gt (.int a) (.int b) = some (decide (b < a)) := ltD_int b a
theorem cmp_le_int (a b : Int) : cmpD .le (.int a) (.int b) = some (decide (a ≤ b)) := by
  simp only [cmpD, ltD_int, Option.map_some]
  congr 1
  by_cases h : a ≤ b
  · rw [decide_eq_true h, decide_eq_false (by omega)] <;> rfl
  · rw [decide_eq_false h, decide_eq_true (by omega)] <;> rfl
theorem cmp_ge_int (a b : Int) : cmpD .ge (.int a) (.int b) = some (decide (b ≤ a)) := by
  simp only [cmpD, ltD_int, Option.map_some]
  congr 1
  by_cases h : b ≤ a
  · rw [decide_eq_true h, decide_eq_false (by omega)] <;> rfl
  · rw [decide_eq_false h, decide_eq_true (by omega)] <;> rfl
theorem bin_add_int (a b : Int) : binD .add (.int a) (.int b) = some (.int (a + b), false) := rfl
theorem bin_sub_int (a b : Int) : binD .sub (.int a) (.int b) = some (.int (a - b), false) := rfl
theorem bin_mul_r {a b : Int} (h : -(2 ^ 64) < b ∧ b < 2 ^ 64) : binD .mul (.int a) (.int b) = some (.int (a * b), false) := if_pos (.inr h)
theorem bin_mul_l {a b : Int} (h : -(2 ^ 64) < a ∧ a < 2 ^ 64) : binD .mul (.int a) (.int b) = some (.int (a * b), false) := if_pos (.inl h)
theorem bin_mod_int {a b : Int} (h : 0 < b) : binD .mod (.int a) (.int b) = some (.int (a % b), false) := if_pos h
theorem bin_fdiv_int {a b : Int} (h : 0 < b ∧ b < 1073741824) : binD .fdiv (.int a) (.int b) = some (.int (a / b), false) := if_pos h
theorem bin_pow_int {a b : Int} (h : 0 ≤ b ∧ b ≤ 1000000 ∧ a.natAbs < 2 ^ 64) : binD .pow (.int a) (.int b) = some (.int (a ^ b.toNat), false) := if_pos h
theorem bin_add_tup {a b : List D} (h : a.length + b.length ≤ sizeLine) : binD .add (.tup a) (.tup b) = some (.tup (a ++ b), false) := if_pos h
theorem eq_nil : cmpD .eq (.lst []) (.lst []) = some true := by
  show eqD _ _ = _
  unfold eqD
  rw [if_pos (by simp [D.ok, D.toP, D.toPs, PyData.plain, PyData.plainAll, PyData.depth, PyData.depthAll])]
  simp [D.toP, D.toPs, PyData.eqv, PyData.eqvAll]
theorem is_non {a : D} : cmpD .is_ a .non = some a.isNon := by
  cases a <;> rfl
theorem isn_non {a : D} : cmpD .isn a .non = some (!a.isNon) := by
  cases a <;> rfl
theorem isNon_int {i : Int} : (D.int i).isNon = false := rfl
theorem isNon_tup {i : List D} : (D.tup i).isNon = false := rfl
theorem isNon_lst {i : List D} : (D.lst i).isNon = false := rfl
theorem isNon_bl {i : Bool} : (D.bl i).isNon = false := rfl
theorem isNon_str {i : Str} : (D.str i).isNon = false := rfl
theorem isNon_non : D.non.isNon = true := rfl
theorem line_big : 100000 ≤ sizeLine := by decide
theorem sz_ok {n : Nat} (h : n ≤ 100000) : n ≤ sizeLine := Nat.le_trans h line_big
theorem sz_lt {n : Nat} (h : n < 100000) : n < sizeLine := Nat.lt_of_lt_of_le h line_big
theorem bin_mul_tup {a : List D} {k : Int} (h : 1 ≤ k ∧ k ≤ 1000 ∧ a.length ≤ 1000) : binD .mul (.tup a) (.int k) = some (.tup (List.replicate k.toNat a).flatten, false) := if_pos (.inr h)
theorem bin_add_lst {a b : List D} (h : a.length + b.length ≤ sizeLine) : binD .add (.lst a) (.lst b) = some (.lst (a ++ b), true) := if_pos h
theorem eq_tup_nil : cmpD .eq (.tup []) (.tup []) = some true := by
  show eqD _ _ = _
  unfold eqD
  rw [if_pos (by simp [D.ok, D.toP, D.toPs, PyData.plain, PyData.plainAll, PyData.depth, PyData.depthAll])]
  simp [D.toP, D.toPs, PyData.eqv, PyData.eqvAll]
theorem eq_cons_nil {x : D} {xs : List D} (h : (D.tup (x :: xs)).ok = true) : cmpD .eq (.tup (x :: xs)) (.tup []) = some false := by
  show eqD _ _ = _
  unfold eqD
  rw [if_pos ⟨h, by simp [D.ok, D.toP, D.toPs, PyData.plain, PyData.plainAll], by simp [D.toP, D.toPs, PyData.depth, PyData.depthAll]⟩]
  simp [D.toP, D.toPs, PyData.eqv, PyData.eqvAll]
theorem blt_divmod_int {a b : Int} (h : 0 < b ∧ b < 1073741824) : bltD .divmod [.int a, .int b] = some (.tup [.int (a / b), .int (a % b)], false) := if_pos h
theorem call1 {T : List Df} {n f : Nat} {fl : List Bool} {ds : List D} {df : Df} {r : CRes} (h : T[f]? = some df) (h1 : df.ios = fl) (h2 : ds.length = df.ps.length) (h3 : df.ios.length = df.ps.length)
    (h4 : finish df.ios (evS (callN T n) df.body (init df ds)) = r) : callN T (n + 1) f fl ds = r := (call_eq h h1 h2 h3).trans h4
/-- a place that a name's store may take -/
def notIo : Mp.Slot → Bool
  | .io _ => false
  | _ => true
theorem notIo_un : notIo .un = true := rfl
theorem notIo_val (d : D) : notIo (.val d) = true := rfl
theorem notIo_own (d : D) : notIo (.own d) = true := rfl
theorem put_val {ρ : Env} {i : Nat} {d : D} (h : notIo (getS ρ i) = true) (hi : i < ρ.length) : putName ρ i d .frz = .ok () (ρ.set i (.val d)) := by
  unfold putName
  cases e : getS ρ i with
  | un => simp [hi]
  | val x => simp [hi]
  | own x => simp [hi]
  | io x => rw [e] at h; cases h
theorem put_new {ρ : Env} {i : Nat} {d : D} (h : notIo (getS ρ i) = true) (hi : i < ρ.length) : putName ρ i d .fr = .ok () (ρ.set i (.own d)) := by
  unfold putName
  cases e : getS ρ i with
  | un => simp [hi]
  | val x => simp [hi]
  | own x => simp [hi]
  | io x => rw [e] at h; cases h
theorem idx_scr (ns : List Int) (k : Nat) (h : k < ns.length) : idxD (.scr (ns.map D.int)) (.int (k : Int)) = some (.int ns[k]) := by
  show (Mp.ixN (ns.map D.int).length (k : Int)).bind _ = _
  have e : Mp.ixN (ns.map D.int).length (k : Int) = some k := by
    unfold Mp.ixN
    rw [if_pos (by omega), if_pos (by rw [List.length_map]; omega), Int.toNat_natCast]
  rw [e]
  show (ns.map D.int)[k]? = _
  rw [List.getElem?_map, List.getElem?_eq_getElem h] <;> rfl
theorem cut_to (xs : List D) (n : Nat) : cutD xs none (some (n : Int)) = xs.take n := by
  have e : sIx xs.length xs.length (some (n : Int)) = min n xs.length := by
    show (if (n : Int) < 0 then ((n : Int) + (xs.length : Int)).toNat else min (n : Int).toNat xs.length) = _
    rw [if_neg (by omega), Int.toNat_natCast]
  unfold cutD
  rw [e]
  show (xs.drop 0).take (min n xs.length - 0) = _
  rw [List.drop_zero, Nat.sub_zero, ← List.take_eq_take_min]
end Mp

set_option maxRecDepth 100000
set_option maxHeartbeats 4000000
/-! Mc: typed programs in Option, and the rules by which the evaluator keeps them. -/
namespace Mp
open PySem
theorem ob {α β : Type} {o : Option α} {f : α → Option β} {r : β} (h : o.bind f = some r) : ∃ a, o = some a ∧ f a = some r := Option.bind_eq_some_iff.mp h
theorem inj {α : Type} {a b : α} (h : some a = some b) : b = a := (Option.some.inj h).symm
/-! ### typed operations -/
def mulM (a b : Int) : Option Int := if CMul a b then some (a * b) else none
def modM (a b : Int) : Option Int := if 0 < b then some (a % b) else none
def fdivM (a b : Int) : Option Int := if 0 < b ∧ b < 1073741824 then some (a / b) else none
def divmodM (a b : Int) : Option (Int × Int) := if 0 < b ∧ b < 1073741824 then some (a / b, a % b) else none
def powM (a b : Int) : Option Int := if 0 ≤ b ∧ b ≤ 1000000 ∧ a.natAbs < 2 ^ 64 then some (a ^ b.toNat) else none
section
variable {α β σ δ : Type}
def ixM (xs : List α) (i : Int) : Option α := (Mp.ixN xs.length i).bind fun j => xs[j]?
def setM (xs : List α) (i : Int) (x : α) : Option (List α) := (Mp.ixN xs.length i).bind fun j => some (xs.set j x)
def catM (xs ys : List α) : Option (List α) := if xs.length + ys.length ≤ sizeLine then some (xs ++ ys) else none
def appM (xs : List α) (x : α) : Option (List α) := if xs.length + 1 ≤ sizeLine then some (xs ++ [x]) else none
def repT (xs : List α) (k : Int) : Option (List α) := if xs.isEmpty = true ∧ -(2 ^ 63) ≤ k ∧ k < 2 ^ 63 ∨ 1 ≤ k ∧ k ≤ 1000 ∧ xs.length ≤ 1000 then some (List.replicate k.toNat xs).flatten else none
def repL (xs : List α) (k : Int) : Option (List α) := if -(2 ^ 63) ≤ k ∧ k < 2 ^ 63 ∧ xs.length * k.toNat ≤ sizeLine then some (List.replicate k.toNat xs).flatten else none
def szM (xs : List α) : Option (List α) := if xs.length ≤ sizeLine then some xs else none
def cutT (xs : List α) (lo hi : Option Int) : List α := (xs.drop (sIx xs.length 0 lo)).take (sIx xs.length xs.length hi - sIx xs.length 0 lo)
def rngT (lo hi : Int) : List Int := (List.range (hi - lo).toNat).map fun (i : Nat) => lo + (i : Int)
def rng1M (n : Int) : Option (List Int) := if inR n then some (rngT 0 n) else none
def rng2M (m n : Int) : Option (List Int) := if inR m ∧ inR n then some (rngT m n) else none
def lofM (m n : Int) : Option (List Int) := if rgOk m n then some (rngT m n) else none
def enumT (xs : List α) : List (Int × α) := xs.zipIdx.map fun p => ((p.2 : Nat), p.1)
def popM (xs : List α) (m : Int) : Option (α × List α) := if -(2 ^ 63) ≤ m ∧ m < 2 ^ 63 then (Mp.ixN xs.length m).bind fun k => xs[k]?.bind fun y => some (y, xs.eraseIdx k) else none
def insT (le : α → α → Bool) (a : α) : List α → List α
  | [] => [a]
  | b :: r => if le a b = true then a :: b :: r else b :: insT le a r
def srtT (le : α → α → Bool) : List α → List α
  | [] => []
  | a :: r => insT le a (srtT le r)
def leE (e : α → D) (a b : α) : Bool := leD (e a) (e b)
def sortM (e : α → D) (xs : List α) : Option (List α) := if sortB (xs.map e) = true then some (srtT (leE e) xs) else none
/-- a for without a return -/
def forL (xs : List α) (s : σ) (g : σ → α → Option σ) : Option σ := match xs with
  | [] => some s
  | x :: r => (g s x).bind fun s => forL r s g
/-- a for that may return -/
def forR (xs : List α) (s : σ) (g : σ → α → Option (σ ⊕ δ)) : Option (σ ⊕ δ) := match xs with
  | [] => some (.inl s)
  | x :: r => (g s x).bind fun o => match o with
    | .inl s => forR r s g
    | .inr d => some (.inr d)
/-- comprehensions: plain, with a condition, with a state -/
def lcP (xs : List α) (f : α → Option β) : Option (List β) := match xs with
  | [] => some []
  | x :: r => (f x).bind fun y => (lcP r f).bind fun ys => some (y :: ys)
def lcF (xs : List α) (f : α → Option (Option β)) : Option (List β) := match xs with
  | [] => some []
  | x :: r => (f x).bind fun y => (lcF r f).bind fun ys => some (match y with | some y => y :: ys | none => ys)
def lcS (xs : List α) (s : σ) (f : σ → α → Option (Option β × σ)) : Option (List β × σ) := match xs with
  | [] => some ([], s)
  | x :: r => (f s x).bind fun y => (lcS r y.2 f).bind fun ys => some (match y.1 with | some z => z :: ys.1 | none => ys.1, ys.2)
def lenM (xs : List α) : Option (List α) := if xs.length ≤ sizeLine then some xs else none
def whlM (n : Nat) (s : σ) (c : σ → Option (Bool × σ)) (g : σ → Option σ) : Option σ := match n with
  | 0 => none
  | n + 1 => (c s).bind fun k => if k.1 = true then (g k.2).bind fun s => whlM n s c g else some k.2
end
/-! ### how they are kept by the values -/
section
variable {α β : Type} {e : α → D}
theorem cut_map (xs : List α) (lo hi : Option Int) : cutD (xs.map e) lo hi = (cutT xs lo hi).map e := by
  unfold cutD cutT
  rw [List.length_map, ← List.map_drop, ← List.map_take]
theorem v_sl_t {xs : List α} {lo hi : Option Int} : slD (.tup (xs.map e)) lo hi = some (.tup ((cutT xs lo hi).map e), false) := by
  show some (D.tup (cutD (xs.map e) lo hi), false) = _
  rw [cut_map]
theorem v_sl_l {xs : List α} {lo hi : Option Int} : slD (.lst (xs.map e)) lo hi = some (.lst ((cutT xs lo hi).map e), true) := by
  show some (D.lst (cutD (xs.map e) lo hi), true) = _
  rw [cut_map]
theorem ix_map {xs : List α} {i : Int} {x : α} (h : ixM xs i = some x) : ((Mp.ixN (xs.map e).length i).bind fun j => (xs.map e)[j]?) = some (e x) := by
  obtain ⟨j, h1, h2⟩ := ob h
  rw [List.length_map, h1]
  show (xs.map e)[j]? = _
  rw [List.getElem?_map, h2] <;> rfl
theorem v_ix_t {xs : List α} {i : Int} {x : α} (h : ixM xs i = some x) : idxD (.tup (xs.map e)) (.int i) = some (e x) := ix_map h
theorem v_ix_l {xs : List α} {i : Int} {x : α} (h : ixM xs i = some x) : idxD (.lst (xs.map e)) (.int i) = some (e x) := ix_map h
theorem v_cat_t {xs ys zs : List α} (h : catM xs ys = some zs) : binD .add (.tup (xs.map e)) (.tup (ys.map e)) = some (.tup (zs.map e), false) := by
  unfold catM at h
  split at h
  · cases h
    rw [List.map_append]
    exact if_pos (by rw [List.length_map, List.length_map]; assumption)
  · cases h
theorem v_cat_l {xs ys zs : List α} (h : catM xs ys = some zs) : binD .add (.lst (xs.map e)) (.lst (ys.map e)) = some (.lst (zs.map e), true) := by
  unfold catM at h
  split at h
  · cases h
    rw [List.map_append]
    exact if_pos (by rw [List.length_map, List.length_map]; assumption)
  · cases h
theorem flat_map (k : Nat) (xs : List α) : (List.replicate k (xs.map e)).flatten = (List.replicate k xs).flatten.map e := by
  rw [List.map_flatten, List.map_replicate]
theorem v_rep_t {xs zs : List α} {k : Int} (h : repT xs k = some zs) : binD .mul (.tup (xs.map e)) (.int k) = some (.tup (zs.map e), false) := by
  unfold repT at h
  split at h
  · rename_i c
    cases h
    rw [← flat_map]
    exact if_pos (by rw [List.length_map, List.isEmpty_map]; exact c)
  · cases h
theorem v_rep_l {xs zs : List α} {k : Int} (h : repL xs k = some zs) : binD .mul (.lst (xs.map e)) (.int k) = some (.lst (zs.map e), true) := by
  unfold repL at h
  split at h
  · rename_i c
    cases h
    rw [← flat_map]
    exact if_pos (by rw [List.length_map]; exact c)
  · cases h
theorem v_mul {a b z : Int} (h : mulM a b = some z) : binD .mul (.int a) (.int b) = some (.int z, false) := by
  unfold mulM at h
  split at h
  · rename_i c; cases h; exact if_pos c
  · cases h
theorem v_mod {a b z : Int} (h : modM a b = some z) : binD .mod (.int a) (.int b) = some (.int z, false) := by
  unfold modM at h
  split at h
  · rename_i c; cases h; exact if_pos c
  · cases h
theorem v_fdiv {a b z : Int} (h : fdivM a b = some z) : binD .fdiv (.int a) (.int b) = some (.int z, false) := by
  unfold fdivM at h
  split at h
  · rename_i c; cases h; exact if_pos c
  · cases h
theorem v_pow {a b z : Int} (h : powM a b = some z) : binD .pow (.int a) (.int b) = some (.int z, false) := by
  unfold powM at h
  split at h
  · rename_i c; cases h; exact if_pos c
  · cases h
theorem v_divmod {a b : Int} {z : Int × Int} (h : divmodM a b = some z) : bltD .divmod [.int a, .int b] = some (.tup [.int z.1, .int z.2], false) := by
  unfold divmodM at h
  split at h
  · rename_i c; cases h; exact if_pos c
  · cases h
theorem v_add {a b : Int} : binD .add (.int a) (.int b) = some (.int (a + b), false) := rfl
theorem v_sub {a b : Int} : binD .sub (.int a) (.int b) = some (.int (a - b), false) := rfl
theorem rng_map (lo hi : Int) : rngD lo hi = (rngT lo hi).map D.int := by
  unfold rngD rngT
  rw [List.map_map] <;> rfl
theorem enum_map (xs : List α) : enumD (xs.map e) = (enumT xs).map fun p => .tup [.int p.1, e p.2] := by
  unfold enumD enumT
  rw [List.zipIdx_map, List.map_map, List.map_map] <;> rfl
theorem v_len_t {xs : List α} : bltD .len [.tup (xs.map e)] = some (.int (xs.length : Nat), false) := by
  show some (D.int ((xs.map e).length : Nat), false) = _
  rw [List.length_map]
theorem v_len_l {xs : List α} : bltD .len [.lst (xs.map e)] = some (.int (xs.length : Nat), false) := by
  show some (D.int ((xs.map e).length : Nat), false) = _
  rw [List.length_map]
theorem v_ints : ∀ xs : List Int, intsOf (xs.map .int) = some xs
  | [] => rfl
  | x :: xs => by
    show (intsOf (xs.map .int)).map (x :: ·) = _
    rw [v_ints xs] <;> rfl
theorem v_bols : ∀ xs : List Bool, bolsOf (xs.map .bl) = some xs
  | [] => rfl
  | x :: xs => by
    show (bolsOf (xs.map .bl)).map (x :: ·) = _
    rw [v_bols xs] <;> rfl
theorem v_sum {xs : List Int} : bltD .sum [.lst (xs.map .int)] = some (.int xs.sum, false) := by
  show (intsOf (xs.map .int)).map _ = _
  rw [v_ints] <;> rfl
theorem v_all {xs : List Bool} : bltD .all [.lst (xs.map .bl)] = some (.bl (xs.all id), false) := by
  show (bolsOf (xs.map .bl)).map _ = _
  rw [v_bols] <;> rfl
theorem v_any {xs : List Bool} : bltD .any [.lst (xs.map .bl)] = some (.bl (xs.any id), false) := by
  show (bolsOf (xs.map .bl)).map _ = _
  rw [v_bols] <;> rfl
theorem ins_mapT (a : α) : ∀ xs : List α, insD (e a) (xs.map e) = (insT (leE e) a xs).map e
  | [] => rfl
  | b :: r => by
    show (if leD (e a) (e b) = true then e a :: e b :: r.map e else e b :: insD (e a) (r.map e)) = (if leE e a b = true then a :: b :: r else b :: insT (leE e) a r).map e
    unfold leE
    by_cases h : leD (e a) (e b) = true
    · rw [if_pos h, if_pos h] <;> rfl
    · rw [if_neg h, if_neg h]
      have := ins_mapT a r
      unfold leE at this
      rw [this] <;> rfl
theorem srt_mapT : ∀ xs : List α, isortD (xs.map e) = (srtT (leE e) xs).map e
  | [] => rfl
  | a :: r => by
    show insD (e a) (isortD (r.map e)) = _
    rw [srt_mapT r, ins_mapT] <;> rfl
theorem v_sorted_l {xs zs : List α} (h : sortM e xs = some zs) : bltD .sorted [.lst (xs.map e)] = some (.lst (zs.map e), true) := by
  unfold sortM at h
  split at h
  · rename_i c
    cases h
    show (if sortB (xs.map e) = true then some (D.lst (isortD (xs.map e)), true) else none) = _
    rw [if_pos c, srt_mapT]
  · cases h
theorem v_sorted_t {xs zs : List α} (h : sortM e xs = some zs) : bltD .sorted [.tup (xs.map e)] = some (.lst (zs.map e), true) := by
  unfold sortM at h
  split at h
  · rename_i c
    cases h
    show (if sortB (xs.map e) = true then some (D.lst (isortD (xs.map e)), true) else none) = _
    rw [if_pos c, srt_mapT]
  · cases h
end
/-! ### data whose == is Lean's -/
structure EqC {α : Type} [DecidableEq α] (e : α → D) (k : Nat) : Prop where
  ok : ∀ a, (e a).toP.plain = true
  dep : ∀ a, (e a).toP.depth ≤ k
  eqv : ∀ a b, PyData.eqv (e a).toP (e b).toP = decide (a = b)
theorem eqc_int : EqC D.int 1 := ⟨fun _ => rfl, fun _ => by simp [D.toP, PyData.depth], fun a b => by simp [D.toP, PyData.eqv]; by_cases h : a = b <;> simp [h]⟩
theorem eqc_bl : EqC D.bl 1 := ⟨fun _ => rfl, fun _ => by simp [D.toP, PyData.depth], fun a b => by cases a <;> cases b <;> simp [D.toP, PyData.eqv]⟩
theorem eqc_str : EqC D.str 1 := ⟨fun _ => rfl, fun _ => by simp [D.toP, PyData.depth], fun a b => by simp [D.toP, PyData.eqv]; rfl⟩
section
variable {α β γ δ ε : Type} [DecidableEq α] [DecidableEq β] [DecidableEq γ] [DecidableEq δ] [DecidableEq ε] {e : α → D} {f : β → D} {g : γ → D} {u : δ → D} {w : ε → D} {k k2 k3 k4 k5 : Nat}
theorem eqc_all (h : EqC e k) : ∀ xs : List α, PyData.plainAll (D.toPs (xs.map e)) = true
  | [] => by simp [D.toPs, PyData.plainAll]
  | x :: xs => by
    rw [List.map_cons, D.toPs, PyData.plainAll, h.ok x, eqc_all h xs] <;> rfl
theorem eqc_dep (h : EqC e k) : ∀ xs : List α, PyData.depthAll (D.toPs (xs.map e)) ≤ k
  | [] => by simp [D.toPs, PyData.depthAll]
  | x :: xs => by
    have h1 := eqc_dep h xs
    have h2 := h.dep x
    rw [List.map_cons, D.toPs, PyData.depthAll]
    omega
theorem eqc_eqv (h : EqC e k) : ∀ xs ys : List α, PyData.eqvAll (D.toPs (xs.map e)) (D.toPs (ys.map e)) = decide (xs = ys)
  | [], [] => by simp [D.toPs, PyData.eqvAll]
  | [], y :: ys => by simp [D.toPs, PyData.eqvAll]
  | x :: xs, [] => by simp [D.toPs, PyData.eqvAll]
  | x :: xs, y :: ys => by
    rw [List.map_cons, List.map_cons, D.toPs, D.toPs, PyData.eqvAll, h.eqv x y, eqc_eqv h xs ys]
    by_cases h1 : x = y <;> by_cases h2 : xs = ys <;> simp [h1, h2]
theorem eqc_t (h : EqC e k) : EqC (fun xs : List α => D.tup (xs.map e)) (k + 1) :=
  ⟨fun a => by simp only [D.toP, PyData.plain]; exact eqc_all h a, fun a => by have := eqc_dep h a; simp only [D.toP, PyData.depth]; omega, fun a b => by simp only [D.toP, PyData.eqv]; exact eqc_eqv h a b⟩
theorem eqc_l (h : EqC e k) : EqC (fun xs : List α => D.lst (xs.map e)) (k + 1) :=
  ⟨fun a => by simp only [D.toP, PyData.plain]; exact eqc_all h a, fun a => by have := eqc_dep h a; simp only [D.toP, PyData.depth]; omega, fun a b => by simp only [D.toP, PyData.eqv]; exact eqc_eqv h a b⟩
theorem eqc_t2 (h : EqC e k) (h2 : EqC f k2) : EqC (fun p : α × β => D.tup [e p.1, f p.2]) (max k k2 + 1) :=
  ⟨fun a => by simp [D.toP, D.toPs, PyData.plain, PyData.plainAll, h.ok, h2.ok], fun a => by have := h.dep a.1; have := h2.dep a.2; simp only [D.toP, D.toPs, PyData.depth, PyData.depthAll]; omega, fun a b => by
    obtain ⟨a1, a2⟩ := a
    obtain ⟨b1, b2⟩ := b
    simp only [D.toP, D.toPs, PyData.eqv, PyData.eqvAll, h.eqv, h2.eqv, Prod.mk.injEq]
    by_cases c1 : a1 = b1 <;> by_cases c2 : a2 = b2 <;> simp [c1, c2]⟩
theorem eqc_t3 (h : EqC e k) (h2 : EqC f k2) (h3 : EqC g k3) : EqC (fun p : α × β × γ => D.tup [e p.1, f p.2.1, g p.2.2]) (max k (max k2 k3) + 1) :=
  ⟨fun a => by simp [D.toP, D.toPs, PyData.plain, PyData.plainAll, h.ok, h2.ok, h3.ok], fun a => by have := h.dep a.1; have := h2.dep a.2.1; have := h3.dep a.2.2; simp only [D.toP, D.toPs, PyData.depth, PyData.depthAll]; omega, fun a b => by
    obtain ⟨a1, a2, a3⟩ := a
    obtain ⟨b1, b2, b3⟩ := b
    simp only [D.toP, D.toPs, PyData.eqv, PyData.eqvAll, h.eqv, h2.eqv, h3.eqv, Prod.mk.injEq]
    by_cases c1 : a1 = b1 <;> by_cases c2 : a2 = b2 <;> by_cases c3 : a3 = b3 <;> simp [c1, c2, c3]⟩
theorem eqc_t4 (h : EqC e k) (h2 : EqC f k2) (h3 : EqC g k3) (h4 : EqC u k4) : EqC (fun p : α × β × γ × δ => D.tup [e p.1, f p.2.1, g p.2.2.1, u p.2.2.2]) (max (max k k2) (max k3 k4) + 1) :=
  ⟨fun a => by simp [D.toP, D.toPs, PyData.plain, PyData.plainAll, h.ok, h2.ok, h3.ok, h4.ok], fun a => by have := h.dep a.1; have := h2.dep a.2.1; have := h3.dep a.2.2.1; have := h4.dep a.2.2.2; simp only [D.toP, D.toPs, PyData.depth, PyData.depthAll]; omega, fun a b => by
    obtain ⟨a1, a2, a3, a4⟩ := a
    obtain ⟨b1, b2, b3, b4⟩ := b
    simp only [D.toP, D.toPs, PyData.eqv, PyData.eqvAll, h.eqv, h2.eqv, h3.eqv, h4.eqv, Prod.mk.injEq]
    by_cases c1 : a1 = b1 <;> by_cases c2 : a2 = b2 <;> by_cases c3 : a3 = b3 <;> by_cases c4 : a4 = b4 <;> simp [c1, c2, c3, c4]⟩
/-- an optional value -/
def eO (e : α → D) : Option α → D
  | none => .non
  | some a => e a
/-- no value of e is equal to None -/
def NoN (e : α → D) : Prop := ∀ a, PyData.eqv (e a).toP .none = false ∧ PyData.eqv .none (e a).toP = false ∧ (e a).isNon = false
theorem nn_int : NoN D.int := fun _ => by simp [D.toP, PyData.eqv, D.isNon]
theorem nn_bl : NoN D.bl := fun _ => by simp [D.toP, PyData.eqv, D.isNon]
theorem nn_str : NoN D.str := fun _ => by simp [D.toP, PyData.eqv, D.isNon]
theorem nn_t (q : α → List D) : NoN (fun p => D.tup (q p)) := fun _ => by simp [D.toP, PyData.eqv, D.isNon]
theorem nn_l (q : α → List D) : NoN (fun p => D.lst (q p)) := fun _ => by simp [D.toP, PyData.eqv, D.isNon]
theorem eqc_o (h : EqC e k) (n : NoN e) : EqC (eO e) (k + 1) :=
  ⟨fun a => by cases a with
    | none => rfl
    | some a => exact h.ok a, fun a => by cases a with
    | none => simp [eO, D.toP, PyData.depth]
    | some a => have := h.dep a; simp only [eO]; omega, fun a b => by
    cases a <;> cases b
    · simp [eO, D.toP, PyData.eqv]
    · rename_i b; simp [eO, D.toP, (n b).2.1]
    · rename_i a; simp [eO, D.toP, (n a).1]
    · rename_i a b; simp [eO, h.eqv]⟩
theorem v_eq (h : EqC e k) (hk : k ≤ 64) {a b : α} : cmpD .eq (e a) (e b) = some (decide (a = b)) := by
  show eqD _ _ = _
  unfold eqD
  rw [if_pos ⟨h.ok a, h.ok b, decide_eq_true (Nat.le_trans (Nat.min_le_left _ _) (Nat.le_trans (h.dep a) hk))⟩, h.eqv]
theorem v_ne (h : EqC e k) (hk : k ≤ 64) {a b : α} : cmpD .ne (e a) (e b) = some (!decide (a = b)) := by
  have := v_eq h hk (a := a) (b := b)
  show (eqD _ _).map _ = _
  rw [show eqD (e a) (e b) = _ from this] <;> rfl
def memB {α : Type} [DecidableEq α] (a : α) (xs : List α) : Bool := decide (a ∈ xs)
theorem v_in_D (h : EqC e k) (hk : k ≤ 64) {a : α} {xs : List α} : inD (e a) (xs.map e) = some (memB a xs) := by
  unfold inD memB
  rw [if_pos ⟨h.ok a, eqc_all h xs, Nat.le_trans (Nat.min_le_right _ _) (Nat.le_trans (h.dep a) hk)⟩, List.any_map]
  congr 1
  induction xs with
  | nil => rfl
  | cons x xs ih =>
    rw [List.any_cons, ih]
    show (PyData.eqv (e x).toP (e a).toP || _) = _
    rw [h.eqv]
    by_cases c : x = a
    · simp [c]
    · have c' : ¬ a = x := fun z => c z.symm
      by_cases c2 : a ∈ xs <;> simp [c, c', c2]
theorem v_in_t (h : EqC e k) (hk : k ≤ 64) {a : α} {xs : List α} : cmpD .in_ (e a) (.tup (xs.map e)) = some (memB a xs) := v_in_D h hk
theorem v_in_l (h : EqC e k) (hk : k ≤ 64) {a : α} {xs : List α} : cmpD .in_ (e a) (.lst (xs.map e)) = some (memB a xs) := v_in_D h hk
theorem v_nin_t (h : EqC e k) (hk : k ≤ 64) {a : α} {xs : List α} : cmpD .nin (e a) (.tup (xs.map e)) = some (!memB a xs) := by
  show (inD _ _).map _ = _
  rw [v_in_D h hk] <;> rfl
theorem v_nin_l (h : EqC e k) (hk : k ≤ 64) {a : α} {xs : List α} : cmpD .nin (e a) (.lst (xs.map e)) = some (!memB a xs) := by
  show (inD _ _).map _ = _
  rw [v_in_D h hk] <;> rfl
theorem v_is (n : NoN e) {a : Option α} : cmpD .is_ (eO e a) .non = some a.isNone := by
  cases a with
  | none => rfl
  | some a => rw [is_non]; show some ((e a).isNon) = _; rw [(n a).2.2] <;> rfl
theorem v_isn (n : NoN e) {a : Option α} : cmpD .isn (eO e a) .non = some a.isSome := by
  cases a with
  | none => rfl
  | some a => rw [isn_non]; show some (!(e a).isNon) = _; rw [(n a).2.2] <;> rfl
theorem v_is_f {d : D} (h : d.isNon = false) : cmpD .is_ d .non = some false := by rw [is_non, h]
theorem v_isn_t {d : D} (h : d.isNon = false) : cmpD .isn d .non = some true := by rw [isn_non, h] <;> rfl
theorem v_lt {a b : Int} : cmpD .lt (.int a) (.int b) = some (decide (a < b)) := cmp_lt_int a b
theorem v_le {a b : Int} : cmpD .le (.int a) (.int b) = some (decide (a ≤ b)) := cmp_le_int a b
theorem v_gt {a b : Int} : cmpD .gt (.int a) (.int b) = some (decide (b < a)) := cmp_gt_int a b
theorem v_ge {a b : Int} : cmpD .ge (.int a) (.int b) = some (decide (b ≤ a)) := cmp_ge_int a b
theorem v_index_l (h : EqC e k) (sh : ∀ a, SeqAt.shaped (e a).toP = true) (shl : ∀ xs : List α, SeqAt.shaped (D.lst (xs.map e)).toP = true) {xs : List α} {y : α} {i : Nat} (hi : xs.findIdx? (fun x => decide (x = y)) = some i) : bmD .index (.lst (xs.map e)) (e y) = some (.int i, false) := by
  have o1 : (D.lst (xs.map e)).ok = true := by unfold D.ok; simp only [D.toP, PyData.plain]; exact eqc_all h xs
  have o2 : (e y).ok = true := h.ok y
  have o3 := shl xs
  have o4 := sh y
  show (if _ then _ else _) = _
  rw [if_pos (by rw [o1, o2, o3, o4]; rfl)]
  rw [List.findIdx?_map]
  have : ((fun x => PyData.eqv x.toP (e y).toP) ∘ e) = fun x => decide (x = y) := funext fun x => h.eqv x y
  rw [this, hi] <;> rfl
end
end Mp

set_option maxRecDepth 100000
set_option maxHeartbeats 4000000
/-! Md: the rules of the typed walk. -/
namespace Mp
open PySem
theorem er_map {α β : Type} (f : α → β) : ∀ (xs : List α) (k : Nat), (xs.map f).eraseIdx k = (xs.eraseIdx k).map f
  | [], _ => rfl
  | _ :: _, 0 => rfl
  | x :: xs, k + 1 => by simp [er_map f xs k]
section
variable {cl : Nat → List Bool → List D → CRes} {ρ ρ1 ρ2 ρ3 : Env} {a b c e es : E} {d d1 d2 d3 : D} {k k1 k2 k3 : Kd}
/-! expressions -/
theorem ev_con : evE cl (.con d) ρ = .ok (d, .frz) ρ := rfl
theorem ev_glo {x : Str} : evE cl (.glo x d) ρ = .ok (d, .frz) ρ := rfl
theorem ev_val {i : Nat} (h : getS ρ i = .val d) : evE cl (.var i) ρ = .ok (d, .frz) ρ := by rw [e_var, h]
theorem ev_own {i : Nat} (h : getS ρ i = .own d) : evE cl (.var i) ρ = .ok (d, .pk i) ρ := by rw [e_var, h]
theorem ev_io {i : Nat} (h : getS ρ i = .io d) : evE cl (.var i) ρ = .ok (d, .pk i) ρ := by rw [e_var, h]
theorem ev_neg {x : Int} (h : evE cl a ρ = .ok (.int x, k) ρ1) : evE cl (.neg a) ρ = .ok (.int (-x), .frz) ρ1 := by rw [e_neg, h] <;> rfl
theorem ev_bin {o : Bop} {b3 : Bool} (ha : evE cl a ρ = .ok (d1, k1) ρ1) (hb : evE cl b ρ1 = .ok (d2, k2) ρ2) (hc : cur ρ2 d1 k1 = d1) (hv : binD o d1 d2 = some (d3, b3)) : evE cl (.bin o a b) ρ = .ok (d3, kdOf b3) ρ2 := by
  rw [e_bin, ha, R.bind_ok', hb, R.bind_ok']
  show (R.of (binD o (cur ρ2 d1 k1) d2) ρ2).bind _ = _
  rw [hc, hv] <;> rfl
theorem ev_cmp {o : Cop} {v : Bool} (ha : evE cl a ρ = .ok (d1, k1) ρ1) (hb : evE cl b ρ1 = .ok (d2, k2) ρ2) (hc : cur ρ2 d1 k1 = d1) (hv : cmpD o d1 d2 = some v) : evE cl (.cmp o a b) ρ = .ok (.bl v, .frz) ρ2 := by
  rw [e_cmp, ha, R.bind_ok', hb, R.bind_ok']
  show (R.of (cmpD o (cur ρ2 d1 k1) d2) ρ2).bind _ = _
  rw [hc, hv] <;> rfl
theorem ev_cmp2 {o1 o2 : Cop} {v1 v2 : Bool} (ha : evE cl a ρ = .ok (d1, k1) ρ1) (hb : evE cl b ρ1 = .ok (d2, k2) ρ2) (hc : cur ρ2 d1 k1 = d1) (hv : cmpD o1 d1 d2 = some v1) (he : evE cl c ρ2 = .ok (d3, k3) ρ2) (hc2 : cur ρ2 d2 k2 = d2) (hv2 : cmpD o2 d2 d3 = some v2) : evE cl (.cmp2 o1 o2 a b c) ρ = .ok (.bl (v1 && v2), .frz) ρ2 := by
  rw [e_cmp2, ha, R.bind_ok', hb, R.bind_ok']
  show (R.of (cmpD o1 (cur ρ2 d1 k1) d2) ρ2).bind _ = _
  rw [hc, hv]
  cases v1
  · rfl
  · show (evE cl c ρ2).bind _ = _
    rw [he]
    show (R.of (cmpD o2 (cur ρ2 d2 k2) d3) ρ2).bind _ = _
    rw [hc2, hv2] <;> rfl
theorem ev_not {v : Bool} (h : evT cl a ρ = .ok v ρ1) : evE cl (.not a) ρ = .ok (.bl (!v), .frz) ρ1 := by rw [e_not, h] <;> rfl
theorem ev_and {v w : Bool} (ha : evE cl a ρ = .ok (.bl v, .frz) ρ) (hb : v = true → evE cl b ρ = .ok (.bl w, .frz) ρ) (hw : v = false → w = false) : evE cl (.and a b) ρ = .ok (.bl w, .frz) ρ := by
  rw [e_and, ha, R.bind_ok']
  cases v
  · rw [hw rfl] <;> rfl
  · exact hb rfl
theorem ev_or {v w : Bool} (ha : evE cl a ρ = .ok (.bl v, .frz) ρ) (hb : v = false → evE cl b ρ = .ok (.bl w, .frz) ρ) (hw : v = true → w = true) : evE cl (.or a b) ρ = .ok (.bl w, .frz) ρ := by
  rw [e_or, ha, R.bind_ok']
  cases v
  · exact hb rfl
  · rw [hw rfl] <;> rfl
theorem ev_ife {v : Bool} (hc : evT cl c ρ = .ok v ρ1) (ha : v = true → evE cl a ρ1 = .ok (d, k) ρ2) (hb : v = false → evE cl b ρ1 = .ok (d, k) ρ2) : evE cl (.ife c a b) ρ = .ok (d, k) ρ2 := by
  rw [e_ife, hc, R.bind_ok']
  cases v
  · rw [if_neg (by decide)]; exact hb rfl
  · rw [if_pos rfl]; exact ha rfl
theorem ev_idx {i : E} (ha : evE cl a ρ = .ok (d1, k1) ρ1) (hb : evE cl i ρ1 = .ok (d2, k2) ρ2) (hc : cur ρ2 d1 k1 = d1) (hv : idxD d1 d2 = some d3) : evE cl (.idx a i) ρ = .ok (d3, .frz) ρ2 := by
  rw [e_idx, ha, R.bind_ok', hb, R.bind_ok']
  show (R.of (idxD (cur ρ2 d1 k1) d2) ρ2).bind _ = _
  rw [hc, hv] <;> rfl
theorem eo_nil : evO cl .nil ρ = .ok none ρ := rfl
theorem eo_cons {i : Int} (h : evE cl a ρ = .ok (.int i, k) ρ1) : evO cl (.cons a b) ρ = .ok (some i) ρ1 := by rw [o_cons, h] <;> rfl
theorem ev_sl {lo hi : E} {l h : Option Int} {b3 : Bool} (ha : evE cl a ρ = .ok (d1, k1) ρ1) (hl : evO cl lo ρ1 = .ok l ρ2) (hh : evO cl hi ρ2 = .ok h ρ3) (hc : cur ρ3 d1 k1 = d1) (hv : slD d1 l h = some (d3, b3)) : evE cl (.sl a lo hi) ρ = .ok (d3, kdOf b3) ρ3 := by
  rw [e_sl, ha, R.bind_ok', hl, R.bind_ok', hh, R.bind_ok']
  show (R.of (slD (cur ρ3 d1 k1) l h) ρ3).bind _ = _
  rw [hc, hv] <;> rfl
theorem el_nil : evL cl .nil ρ = .ok [] ρ := rfl
theorem el_cons {ds : List D} {r : E} (h : evE cl a ρ = .ok (d, k) ρ1) (hs : settle ρ1 d k = .ok d ρ2) (hr : evL cl r ρ2 = .ok ds ρ3) : evL cl (.cons a r) ρ = .ok (d :: ds) ρ3 := by
  rw [l_cons, h, R.bind_ok']
  show (settle ρ1 d k).bind _ = _
  rw [hs, R.bind_ok', hr] <;> rfl
theorem ev_tup {ds : List D} (h : evL cl es ρ = .ok ds ρ1) (hz : ds.length ≤ sizeLine) : evE cl (.tup es) ρ = .ok (.tup ds, .frz) ρ1 := by
  rw [e_tup, h, R.bind_ok', if_pos hz]
theorem ev_lst {ds : List D} (h : evL cl es ρ = .ok ds ρ1) (hz : ds.length ≤ sizeLine) : evE cl (.lst es) ρ = .ok (.lst ds, .fr) ρ1 := by
  rw [e_lst, h, R.bind_ok', if_pos hz]
theorem ea_nil : evA cl .nil ρ = .ok [] ρ := rfl
theorem ea_cons {as : List Ar} {r : E} (h : evE cl a ρ = .ok (d, k) ρ1) (hs : settle ρ1 d k = .ok d ρ2) (hr : evA cl r ρ2 = .ok as ρ3) : evA cl (.cons a r) ρ = .ok (.v d :: as) ρ3 := by
  rw [a_cons, h, R.bind_ok']
  show (settle ρ1 d k).bind _ = _
  rw [hs, R.bind_ok', hr] <;> rfl
theorem ea_own {i : Nat} {as : List Ar} {r : E} (h : getS ρ i = .own d) (hr : evA cl r ρ = .ok as ρ1) : evA cl (.ioa i r) ρ = .ok (.io i :: as) ρ1 := by
  rw [a_ioa, h]
  show (evA cl r ρ).bind _ = _
  rw [hr] <;> rfl
theorem ea_io {i : Nat} {as : List Ar} {r : E} (h : getS ρ i = .io d) (hr : evA cl r ρ = .ok as ρ1) : evA cl (.ioa i r) ρ = .ok (.io i :: as) ρ1 := by
  rw [a_ioa, h]
  show (evA cl r ρ).bind _ = _
  rw [hr] <;> rfl
theorem ev_call {f : Nat} {as : List Ar} {ds : List D} {fl : List Bool} {fr : Bool} {outs : List D} (ha : evA cl es ρ = .ok as ρ1) (hd : argsD ρ1 as = some ds) (hn : (iosOf as).Nodup) (hf : as.map Ar.isIo = fl) (hc : cl f fl ds = some (d, fr, outs)) (hp : putOuts ρ1 as outs = ρ2) : evE cl (.call f es) ρ = .ok (d, kdOf fr) ρ2 := by
  rw [e_call, ha, R.bind_ok']
  unfold doCall
  rw [hd]
  show (if (iosOf as).Nodup then _ else _) = _
  rw [if_pos hn, hf, hc, ← hp]
theorem ev_calv {i f : Nat} {as : List Ar} {ds : List D} {fl : List Bool} {fr : Bool} {outs : List D} (hv : getS ρ i = .val (.fn f)) (ha : evA cl es ρ = .ok as ρ1) (hd : argsD ρ1 as = some ds) (hn : (iosOf as).Nodup) (hf : as.map Ar.isIo = fl) (hc : cl f fl ds = some (d, fr, outs)) (hp : putOuts ρ1 as outs = ρ2) : evE cl (.calv i es) ρ = .ok (d, kdOf fr) ρ2 := by
  rw [e_calv, hv]
  show (evA cl es ρ).bind _ = _
  rw [ha, R.bind_ok']
  unfold doCall
  rw [hd]
  show (if (iosOf as).Nodup then _ else _) = _
  rw [if_pos hn, hf, hc, ← hp]
theorem ev_callk {f : Nat} {p : List Nat} {ks : E} {as bs cs : List Ar} {ds : List D} {fl : List Bool} {fr : Bool} {outs : List D} (ha : evA cl es ρ = .ok as ρ1) (hb : evA cl ks ρ1 = .ok bs ρ2) (hk : pick p (as ++ bs) = cs) (hd : argsD ρ2 cs = some ds) (hn : (iosOf cs).Nodup) (hf : cs.map Ar.isIo = fl) (hc : cl f fl ds = some (d, fr, outs)) (hp : putOuts ρ2 cs outs = ρ3) : evE cl (.callk f p es ks) ρ = .ok (d, kdOf fr) ρ3 := by
  rw [e_callk, ha, R.bind_ok', hb, R.bind_ok', hk]
  unfold doCall
  rw [hd]
  show (if (iosOf cs).Nodup then _ else _) = _
  rw [if_pos hn, hf, hc, ← hp]
theorem ev_mk {c f : Nat} {fl : List Str} {as : List Ar} {ds : List D} {fb : List Bool} (ha : evA cl es ρ = .ok as ρ1) (hd : argsD ρ1 as = some ds) (hn : iosOf as = []) (hf : true :: as.map Ar.isIo = fb) (hc : cl f fb (.ins c fl [] :: ds) = some (.non, false, [d])) : evE cl (.mk c f fl es) ρ = .ok (d, .frz) ρ1 := by
  rw [e_mk, ha, R.bind_ok']
  unfold doMk
  rw [hd]
  show (if iosOf as = [] then _ else _) = _
  rw [if_pos hn, hf, hc]
theorem ev_mkk {c f : Nat} {fl : List Str} {p : List Nat} {ks : E} {as bs cs : List Ar} {ds : List D} {fb : List Bool} (ha : evA cl es ρ = .ok as ρ1) (hb : evA cl ks ρ1 = .ok bs ρ2) (hk : pick p (as ++ bs) = cs) (hd : argsD ρ2 cs = some ds) (hn : iosOf cs = []) (hf : true :: cs.map Ar.isIo = fb) (hc : cl f fb (.ins c fl [] :: ds) = some (.non, false, [d])) : evE cl (.mkk c f fl p es ks) ρ = .ok (d, .frz) ρ2 := by
  rw [e_mkk, ha, R.bind_ok', hb, R.bind_ok', hk]
  unfold doMk
  rw [hd]
  show (if iosOf cs = [] then _ else _) = _
  rw [if_pos hn, hf, hc]
theorem ep_nil : evP cl .nil ρ = .ok [] ρ := rfl
theorem ep_cons {xs : List (D × Kd)} {r : E} (h : evE cl a ρ = .ok (d, k) ρ1) (hr : evP cl r ρ1 = .ok xs ρ2) : evP cl (.cons a r) ρ = .ok ((d, k) :: xs) ρ2 := by
  rw [p_cons, h, R.bind_ok', hr] <;> rfl
theorem ev_blt1 {o : Blt} {fr : Bool} (h : evE cl a ρ = .ok (d, k) ρ1) (hc : cur ρ1 d k = d) (hv : bltD o [d] = some (d2, fr)) : evE cl (.blt o (.cons a .nil)) ρ = .ok (d2, kdOf fr) ρ1 := by
  rw [e_blt, p_cons, h, R.bind_ok', p_nil, R.bind_ok', R.bind_ok']
  show (R.of (bltD o [cur ρ1 d k]) ρ1).bind _ = _
  rw [hc, hv] <;> rfl
theorem ev_blt2 {o : Blt} {fr : Bool} (h : evE cl a ρ = .ok (d1, k1) ρ1) (h2 : evE cl b ρ1 = .ok (d2, k2) ρ2) (hc : cur ρ2 d1 k1 = d1) (hc2 : cur ρ2 d2 k2 = d2) (hv : bltD o [d1, d2] = some (d3, fr)) : evE cl (.blt o (.cons a (.cons b .nil))) ρ = .ok (d3, kdOf fr) ρ2 := by
  rw [e_blt, p_cons, h, R.bind_ok', p_cons, h2, R.bind_ok', p_nil, R.bind_ok', R.bind_ok', R.bind_ok']
  show (R.of (bltD o [cur ρ2 d1 k1, cur ρ2 d2 k2]) ρ2).bind _ = _
  rw [hc, hc2, hv] <;> rfl
theorem ev_isin {t : Nat} {v : Bool} (h : evE cl a ρ = .ok (d, k) ρ1) (hv : isinD t d = some v) : evE cl (.isin t a) ρ = .ok (.bl v, .frz) ρ1 := by
  rw [e_isin, h, R.bind_ok']
  show (R.of (isinD t d) ρ1).bind _ = _
  rw [hv] <;> rfl
theorem ev_isinc {c : Nat} {x : Str} {v : Bool} (h : evE cl a ρ = .ok (d, k) ρ1) (hv : isinC c d = some v) : evE cl (.isinc c x a) ρ = .ok (.bl v, .frz) ρ1 := by
  rw [e_isinc, h, R.bind_ok']
  show (R.of (isinC c d) ρ1).bind _ = _
  rw [hv] <;> rfl
theorem ev_fld {x : Str} (h : evE cl a ρ = .ok (d, k) ρ1) (hv : fldD x d = some d2) : evE cl (.fld a x) ρ = .ok (d2, .frz) ρ1 := by
  rw [e_fld, h, R.bind_ok']
  show (R.of (fldD x d) ρ1).bind _ = _
  rw [hv] <;> rfl
theorem ev_dnew : evE cl (.uop .dnew a) ρ = .ok (.dct [], .fr) ρ := rfl
theorem ev_lof1 {n : Int} {xs : List Int} (h : evE cl a ρ = .ok (.int n, k) ρ1) (hv : lofM 0 n = some xs) : evE cl (.uop .lof (.rng1 a)) ρ = .ok (.lst (xs.map .int), .fr) ρ1 := by
  unfold lofM at hv
  split at hv
  · rename_i c
    cases hv
    rw [e_lof1, h, R.bind_ok']
    show (if rgOk 0 n then _ else _) = _
    rw [if_pos c, rng_map]
  · cases hv
theorem ev_lof2 {m n : Int} {xs : List Int} (h : evE cl a ρ = .ok (.int m, k) ρ1) (h2 : evE cl b ρ1 = .ok (.int n, k2) ρ2) (hv : lofM m n = some xs) : evE cl (.uop .lof (.rng2 a b)) ρ = .ok (.lst (xs.map .int), .fr) ρ2 := by
  unfold lofM at hv
  split at hv
  · rename_i c
    cases hv
    rw [e_lof2, h, R.bind_ok', h2, R.bind_ok']
    show (if rgOk m n then _ else _) = _
    rw [if_pos c, rng_map]
  · cases hv
theorem ev_rof1 {n : Int} (h : evE cl a ρ = .ok (.int n, k) ρ1) : evE cl (.uop .rof (.rng1 a)) ρ = .ok (.rng 0 n, .frz) ρ1 := by rw [e_rof1, h] <;> rfl
theorem ev_rof2 {m n : Int} (h : evE cl a ρ = .ok (.int m, k) ρ1) (h2 : evE cl b ρ1 = .ok (.int n, k2) ρ2) : evE cl (.uop .rof (.rng2 a b)) ρ = .ok (.rng m n, .frz) ρ2 := by rw [e_rof2, h, R.bind_ok', h2] <;> rfl
theorem ev_bm {o : Bm} {b3 : Bool} (ha : evE cl a ρ = .ok (d1, k1) ρ1) (hl : isLst d1 = true) (hb : evE cl b ρ1 = .ok (d2, k2) ρ2) (hc : cur ρ2 d1 k1 = d1) (hv : bmD o d1 d2 = some (d3, b3)) : evE cl (.bm o a b) ρ = .ok (d3, kdOf b3) ρ2 := by
  rw [e_bm, ha, R.bind_ok']
  show (if isLst d1 = true then _ else _) = _
  rw [if_pos hl, hb, R.bind_ok']
  show (R.of (bmD o (cur ρ2 d1 k1) d2) ρ2).bind _ = _
  rw [hc, hv] <;> rfl
theorem ev_pop {i : Nat} {m : Int} {d2 : D} (ho : ownL (getS ρ i) = true) (h : evE cl a ρ = .ok (.int m, k) ρ1) (hv : vopD .pop ρ1 i (.int m) .non = .ok (d2, .frz) ρ2) : evE cl (.vop .pop i a b) ρ = .ok (d2, .frz) ρ2 := by
  rw [e_pop, if_pos ho, h, R.bind_ok']
  exact hv
theorem v_pop {α : Type} {e : α → D} {i : Nat} {m : Int} {xs : List α} {y : α × List α} (ho : getS ρ i = .own (.lst (xs.map e))) (hv : popM xs m = some y) : vopD .pop ρ i (.int m) .non = .ok (e y.1, .frz) (ρ.set i (.own (.lst (y.2.map e)))) := by
  unfold popM at hv
  split at hv
  · rename_i c
    obtain ⟨j, h1, hv⟩ := ob hv
    obtain ⟨z, h2, hv⟩ := ob hv
    cases hv
    have k0 : vopD .pop ρ i (.int m) .non = (match ownD (getS ρ i) with
      | some (.lst xs) => if -(2 ^ 63) ≤ m ∧ m < 2 ^ 63 then (match Mp.ixN xs.length m with
        | some k => (match xs[k]? with
          | some y => R.ok (y, Kd.frz) (setIo ρ i (.lst (xs.eraseIdx k)))
          | none => .no)
        | none => .no) else .no
      | _ => .no) := rfl
    rw [k0]
    rw [ho]
    show (if -(2 ^ 63) ≤ m ∧ m < 2 ^ 63 then (match Mp.ixN (xs.map e).length m with
      | some k => (match (xs.map e)[k]? with
        | some y => R.ok (y, Kd.frz) (setIo ρ i (.lst ((xs.map e).eraseIdx k)))
        | none => .no)
      | none => .no) else .no) = _
    rw [if_pos c, List.length_map, h1]
    show (match (xs.map e)[j]? with
        | some y => R.ok (y, Kd.frz) (setIo ρ i (.lst ((xs.map e).eraseIdx j)))
        | none => .no) = _
    rw [List.getElem?_map, h2]
    show R.ok (e z, Kd.frz) (setIo ρ i (.lst ((xs.map e).eraseIdx j))) = _
    have : (xs.map e).eraseIdx j = (xs.eraseIdx j).map e := er_map e xs j
    rw [this]
    unfold setIo
    rw [ho]
  · cases hv
theorem ev_oeq {ng : Bool} {cc f : Nat} {v : Bool} (h : evE cl a ρ = .ok (d1, k1) ρ1) (hs : settle ρ1 d1 k1 = .ok d1 ρ1) (h2 : evE cl b ρ1 = .ok (d2, k2) ρ2) (hs2 : settle ρ2 d2 k2 = .ok d2 ρ2) (hi : insB cc d1 = true ∧ othB cc d2 = true) (hc : cl f [false, false] [d1, d2] = some (.bl v, false, [])) : evE cl (.oeq ng cc f a b) ρ = .ok (.bl (if ng = true then !v else v), .frz) ρ2 := by
  rw [e_oeq, h, R.bind_ok']
  show (settle ρ1 d1 k1).bind _ = _
  rw [hs, R.bind_ok', h2, R.bind_ok']
  show (settle ρ2 d2 k2).bind _ = _
  rw [hs2, R.bind_ok', if_pos hi]
  have : doCall cl f [.v d1, .v d2] ρ2 = .ok (.bl v, .frz) ρ2 := by
    show (if (iosOf [Ar.v d1, Ar.v d2]).Nodup then (match cl f [false, false] [d1, d2] with
    | none => R.no
    | some (d, b, outs) => R.ok (d, kdOf b) (putOuts ρ2 [Ar.v d1, Ar.v d2] outs)) else .no) = _
    rw [if_pos (show (iosOf [Ar.v d1, Ar.v d2]).Nodup from List.nodup_nil), hc] <;> rfl
  rw [this] <;> rfl
/-! tests -/
theorem et_bl {v : Bool} (h : evE cl e ρ = .ok (.bl v, k) ρ1) : evT cl (.tr e) ρ = .ok v ρ1 := by rw [t_tr, h] <;> rfl
theorem et_tr {v : Bool} (h : evE cl e ρ = .ok (d, k) ρ1) (hv : truthD d = some v) : evT cl (.tr e) ρ = .ok v ρ1 := by
  rw [t_tr, h, R.bind_ok']
  show R.of (truthD d) ρ1 = _
  rw [hv] <;> rfl
theorem et_not {v : Bool} (h : evT cl e ρ = .ok v ρ1) : evT cl (.not e) ρ = .ok (!v) ρ1 := by rw [t_not, h] <;> rfl
theorem et_and {v w : Bool} (ha : evT cl a ρ = .ok v ρ) (hb : v = true → evT cl b ρ = .ok w ρ) (hw : v = false → w = false) : evT cl (.and a b) ρ = .ok w ρ := by
  rw [t_and, ha, R.bind_ok']
  cases v
  · rw [if_neg (by decide), hw rfl]
  · rw [if_pos rfl]; exact hb rfl
theorem et_or {v w : Bool} (ha : evT cl a ρ = .ok v ρ) (hb : v = false → evT cl b ρ = .ok w ρ) (hw : v = true → w = true) : evT cl (.or a b) ρ = .ok w ρ := by
  rw [t_or, ha, R.bind_ok']
  cases v
  · rw [if_neg (by decide)]; exact hb rfl
  · rw [if_pos rfl, hw rfl]
theorem ev_andS {v w : Bool} (ha : evE cl a ρ = .ok (.bl v, .frz) ρ1) (hb : v = true → evE cl b ρ1 = .ok (.bl w, .frz) ρ2) (hw : v = false → w = false ∧ ρ2 = ρ1) : evE cl (.and a b) ρ = .ok (.bl w, .frz) ρ2 := by
  rw [e_and, ha, R.bind_ok']
  cases v
  · obtain ⟨h1, h2⟩ := hw rfl
    rw [h1, h2] <;> rfl
  · exact hb rfl
theorem ev_orS {v w : Bool} (ha : evE cl a ρ = .ok (.bl v, .frz) ρ1) (hb : v = false → evE cl b ρ1 = .ok (.bl w, .frz) ρ2) (hw : v = true → w = true ∧ ρ2 = ρ1) : evE cl (.or a b) ρ = .ok (.bl w, .frz) ρ2 := by
  rw [e_or, ha, R.bind_ok']
  cases v
  · exact hb rfl
  · obtain ⟨h1, h2⟩ := hw rfl
    rw [h1, h2] <;> rfl
theorem et_andS {v w : Bool} (ha : evT cl a ρ = .ok v ρ1) (hb : v = true → evT cl b ρ1 = .ok w ρ2) (hw : v = false → w = false ∧ ρ2 = ρ1) : evT cl (.and a b) ρ = .ok w ρ2 := by
  rw [t_and, ha, R.bind_ok']
  cases v
  · obtain ⟨h1, h2⟩ := hw rfl
    rw [if_neg (by decide), h1, h2]
  · rw [if_pos rfl]; exact hb rfl
theorem et_orS {v w : Bool} (ha : evT cl a ρ = .ok v ρ1) (hb : v = false → evT cl b ρ1 = .ok w ρ2) (hw : v = true → w = true ∧ ρ2 = ρ1) : evT cl (.or a b) ρ = .ok w ρ2 := by
  rw [t_or, ha, R.bind_ok']
  cases v
  · rw [if_neg (by decide)]; exact hb rfl
  · obtain ⟨h1, h2⟩ := hw rfl
    rw [if_pos rfl, h1, h2]
theorem et_nil : evT cl .nil ρ = .ok true ρ := rfl
/-! what a for walks -/
theorem ei_rng1 {n : Int} {xs : List Int} (h : evE cl a ρ = .ok (.int n, k) ρ1) (hv : rng1M n = some xs) : evI cl (.rng1 a) ρ = .ok (xs.map .int) ρ1 := by
  unfold rng1M at hv
  split at hv
  · rename_i c
    cases hv
    rw [i_rng1, h, R.bind_ok']
    show (if inR n then _ else _) = _
    rw [if_pos c, rng_map]
  · cases hv
theorem ei_rng2 {m n : Int} {xs : List Int} (h : evE cl a ρ = .ok (.int m, k) ρ1) (h2 : evE cl b ρ1 = .ok (.int n, k2) ρ2) (hv : rng2M m n = some xs) : evI cl (.rng2 a b) ρ = .ok (xs.map .int) ρ2 := by
  unfold rng2M at hv
  split at hv
  · rename_i c
    cases hv
    rw [i_rng2, h, R.bind_ok', h2, R.bind_ok']
    show (if inR m ∧ inR n then _ else _) = _
    rw [if_pos c, rng_map]
  · cases hv
theorem ei_it {ds : List D} (h : evE cl e ρ = .ok (d, k) ρ1) (hs : settle ρ1 d k = .ok d ρ2) (hv : seqI d = some ds) : evI cl (.it e) ρ = .ok ds ρ2 := by
  rw [i_it, h, R.bind_ok']
  show (settle ρ1 d k).bind _ = _
  rw [hs, R.bind_ok', hv] <;> rfl
theorem ei_enm {α : Type} {f : α → D} {xs : List α} (h : evE cl e ρ = .ok (d, k) ρ1) (hs : settle ρ1 d k = .ok d ρ2) (hv : seqOf d = some (xs.map f)) : evI cl (.enm e) ρ = .ok ((enumT xs).map fun p => .tup [.int p.1, f p.2]) ρ2 := by
  rw [i_enm, h, R.bind_ok']
  show (settle ρ1 d k).bind _ = _
  rw [hs, R.bind_ok', hv]
  show R.ok (enumD (xs.map f)) ρ2 = _
  rw [enum_map]
theorem v_rng {m n : Int} {xs : List Int} (h : rng2M m n = some xs) : seqI (.rng m n) = some (xs.map .int) := by
  unfold rng2M at h
  split at h
  · rename_i c
    cases h
    rw [← rng_map]
    exact if_pos c
  · cases h
/-! targets -/
theorem eg_var {i : Nat} (h : notIo (getS ρ i) = true) (hi : i < ρ.length) : evG cl (.var i) d .frz ρ = .ok () (ρ.set i (.val d)) := (g_var (cl := cl)).trans (put_val h hi)
theorem eg_tup {ts : E} {ds : List D} (h : evGs cl ts ds ρ = .ok () ρ1) : evG cl (.tup ts) (.tup ds) k ρ = .ok () ρ1 := h
theorem egs_nil : evGs cl .nil [] ρ = .ok () ρ := rfl
theorem egs_cons {t r : E} {ds : List D} (h : evG cl t d .frz ρ = .ok () ρ1) (hr : evGs cl r ds ρ1 = .ok () ρ2) : evGs cl (.cons t r) (d :: ds) ρ = .ok () ρ2 := by
  rw [gs_cons, h, R.bind_ok', hr]
theorem eg_idx {j : Nat} {i : E} {y : D} (ho : ownS (getS ρ j) = true) (h : evE cl i ρ = .ok (y, k) ρ1) (hv : storeIx ρ1 j y d = .ok () ρ2) : evG cl (.idx (.var j) i) d .frz ρ = .ok () ρ2 := by
  rw [g_idxF, if_pos ho, h, R.bind_ok', hv]
theorem eg_idxN {j : Nat} {i : E} {y : D} (ho : ownS (getS ρ j) = true) (h : evE cl i ρ = .ok (y, k) ρ1) (hv : storeIx ρ1 j y d = .ok () ρ2) : evG cl (.idx (.var j) i) d .fr ρ = .ok () ρ2 := by
  rw [g_idxN, if_pos ho, h, R.bind_ok', hv]
theorem v_store_o {α : Type} {f : α → D} {j : Nat} {i : Int} {x : α} {xs ys : List α} (ho : getS ρ j = .own (.lst (xs.map f))) (hv : setM xs i x = some ys) : storeIx ρ j (.int i) (f x) = .ok () (ρ.set j (.own (.lst (ys.map f)))) := by
  obtain ⟨n, h1, hv⟩ := ob hv
  cases hv
  unfold storeIx
  rw [ho]
  show (match Mp.ixN (xs.map f).length i with
    | some n => R.ok () (ρ.set j (.own (.lst ((xs.map f).set n (f x)))))
    | none => R.no) = _
  rw [List.length_map, h1, List.map_set]
theorem v_store_i {α : Type} {f : α → D} {j : Nat} {i : Int} {x : α} {xs ys : List α} (ho : getS ρ j = .io (.lst (xs.map f))) (hv : setM xs i x = some ys) : storeIx ρ j (.int i) (f x) = .ok () (ρ.set j (.io (.lst (ys.map f)))) := by
  obtain ⟨n, h1, hv⟩ := ob hv
  cases hv
  unfold storeIx
  rw [ho]
  show (match Mp.ixN (xs.map f).length i with
    | some n => R.ok () (ρ.set j (.io (.lst ((xs.map f).set n (f x)))))
    | none => R.no) = _
  rw [List.length_map, h1, List.map_set]
/-! statements -/
def WSd (cl : Nat → List Bool → List D → CRes) (s : S) (ρ : Env) (N : Env → Prop) (Rt : D → Bool → Env → Prop) : Prop :=
  match evS cl s ρ with
  | .nx ρ' => N ρ'
  | .rt d b ρ' => Rt d b ρ'
  | .no => False
structure WS (cl : Nat → List Bool → List D → CRes) (s : S) (ρ : Env) (N : Env → Prop) (Rt : D → Bool → Env → Prop) : Prop where
  w : WSd cl s ρ N Rt
variable {N N' : Env → Prop} {Rt : D → Bool → Env → Prop} {s s1 s2 : S}
theorem ws_nx (h : evS cl s ρ = .nx ρ1) (w : N ρ1) : WS cl s ρ N Rt := ⟨by unfold WSd; rw [h]; exact w⟩
theorem ws_rt {fb : Bool} (h : evS cl s ρ = .rt d fb ρ1) (w : Rt d fb ρ1) : WS cl s ρ N Rt := ⟨by unfold WSd; rw [h]; exact w⟩
theorem ws_mono {Rt' : D → Bool → Env → Prop} (w : WS cl s ρ N Rt) (h : ∀ ρ', N ρ' → N' ρ') (h2 : ∀ d b ρ', Rt d b ρ' → Rt' d b ρ') : WS cl s ρ N' Rt' := by
  have w := w.w
  refine ⟨?_⟩
  unfold WSd at w ⊢
  cases hs : evS cl s ρ with
  | nx ρ' => rw [hs] at w; exact h _ w
  | rt d b ρ' => rw [hs] at w; exact h2 _ _ _ w
  | no => rw [hs] at w; exact w
theorem ws_seq (w : WS cl s1 ρ (fun ρ' => WS cl s2 ρ' N Rt) Rt) : WS cl (.seq s1 s2) ρ N Rt := by
  have w := w.w
  refine ⟨?_⟩
  unfold WSd at w ⊢
  rw [s_seq]
  cases hs : evS cl s1 ρ with
  | nx ρ' => rw [hs] at w; exact w.w
  | rt d b ρ' => rw [hs] at w; exact w
  | no => rw [hs] at w; exact w.elim
theorem ws_skip (h : N ρ) : WS cl .skip ρ N Rt := ⟨h⟩
theorem ws_asg {t : E} (he : evE cl e ρ = .ok (d, k) ρ1) (hk : keep ρ1 d k = .ok (d, k2) ρ2) (hg : evG cl t d k2 ρ2 = .ok () ρ3) (w : N ρ3) : WS cl (.asg t e) ρ N Rt := by
  refine ws_nx ?_ w
  rw [s_asg, he, R.fl_ok']
  show (keep ρ1 d k).fl _ = _
  rw [hk, R.fl_ok']
  show (evG cl t d k2 ρ2).fl _ = _
  rw [hg, R.fl_ok']
theorem ws_asgv {i : Nat} (he : evE cl e ρ = .ok (d, .frz) ρ1) (hn : notIo (getS ρ1 i) = true) (hi : i < ρ1.length) (w : N (ρ1.set i (.val d))) : WS cl (.asg (.var i) e) ρ N Rt := ws_asg he keep_f (eg_var hn hi) w
theorem ws_asgo {i : Nat} (he : evE cl e ρ = .ok (d, .fr) ρ1) (hn : notIo (getS ρ1 i) = true) (hi : i < ρ1.length) (w : N (ρ1.set i (.own d))) : WS cl (.asg (.var i) e) ρ N Rt := ws_asg he keep_n ((g_var (cl := cl)).trans (put_new hn hi)) w
theorem em_nil : evM cl .nil ρ = .ok [] ρ := rfl
theorem em_cons {xs : List (D × Kd)} {r : E} (h : evE cl a ρ = .ok (d, k) ρ1) (hk : keep ρ1 d k = .ok (d, k2) ρ2) (hr : evM cl r ρ2 = .ok xs ρ3) : evM cl (.cons a r) ρ = .ok ((d, k2) :: xs) ρ3 := by
  rw [m_cons, h, R.bind_ok']
  show (keep ρ1 d k).bind _ = _
  rw [hk, R.bind_ok', hr] <;> rfl
theorem eu_nil : puts [] [] ρ = .ok () ρ := rfl
theorem eu_v {i : Nat} {is : List Nat} {xs : List (D × Kd)} (hn : notIo (getS ρ i) = true) (hi : i < ρ.length) (hr : puts is xs (ρ.set i (.val d)) = .ok () ρ2) : puts (i :: is) ((d, .frz) :: xs) ρ = .ok () ρ2 := by
  rw [puts_c]
  show (putName ρ i d .frz).bind _ = _
  rw [put_val hn hi, R.bind_ok', hr]
theorem eu_o {i : Nat} {is : List Nat} {xs : List (D × Kd)} (hn : notIo (getS ρ i) = true) (hi : i < ρ.length) (hr : puts is xs (ρ.set i (.own d)) = .ok () ρ2) : puts (i :: is) ((d, .fr) :: xs) ρ = .ok () ρ2 := by
  rw [puts_c]
  show (putName ρ i d .fr).bind _ = _
  rw [put_new hn hi, R.bind_ok', hr]
theorem ws_par {is : List Nat} {xs : List (D × Kd)} (he : evM cl es ρ = .ok xs ρ1) (hp : puts is xs ρ1 = .ok () ρ2) (w : N ρ2) : WS cl (.par is es) ρ N Rt := by
  refine ws_nx ?_ w
  rw [s_par, he, R.fl_ok', hp, R.fl_ok']
theorem ws_ex (he : evE cl e ρ = .ok (d, k) ρ1) (w : N ρ1) : WS cl (.ex e) ρ N Rt := by
  refine ws_nx ?_ w
  rw [s_ex, he, R.fl_ok']
theorem ws_retv (he : evE cl e ρ = .ok (d, .frz) ρ1) (w : Rt d false ρ1) : WS cl (.ret e) ρ N Rt := by
  refine ws_rt ?_ w
  rw [s_ret, he, R.fl_ok']
theorem ws_reto (he : evE cl e ρ = .ok (d, .fr) ρ1) (w : Rt d true ρ1) : WS cl (.ret e) ρ N Rt := by
  refine ws_rt ?_ w
  rw [s_ret, he, R.fl_ok']
theorem ws_retp {i : Nat} (he : evE cl e ρ = .ok (d, .pk i) ρ1) (hs : getS ρ1 i = .own d) (w : Rt d true (ρ1.set i .un)) : WS cl (.ret e) ρ N Rt := by
  refine ws_rt ?_ w
  rw [s_ret, he, R.fl_ok']
  show (match getS ρ1 i with | .own d => Fl.rt d true (ρ1.set i .un) | _ => .no) = _
  rw [hs]
theorem ws_retn (w : Rt .non false ρ) : WS cl .retn ρ N Rt := ⟨w⟩
theorem ws_ite {v : Bool} (hc : evT cl c ρ = .ok v ρ1) (ht : v = true → WS cl s1 ρ1 N Rt) (hf : v = false → WS cl s2 ρ1 N Rt) : WS cl (.ite c s1 s2) ρ N Rt := by
  refine ⟨?_⟩
  unfold WSd
  rw [s_ite, hc, R.fl_ok']
  cases v
  · rw [if_neg (by decide)]; exact (hf rfl).w
  · rw [if_pos rfl]; exact (ht rfl).w
theorem ws_itej {v : Bool} (J : Env → Prop) (hc : evT cl c ρ = .ok v ρ1) (ht : v = true → WS cl s1 ρ1 J Rt) (hf : v = false → WS cl s2 ρ1 J Rt) (hj : ∀ ρ', J ρ' → N ρ') : WS cl (.ite c s1 s2) ρ N Rt :=
  ws_mono (ws_ite hc ht hf) hj fun _ _ _ w => w
theorem ws_iteT (hc : evT cl c ρ = .ok true ρ1) (ht : WS cl s1 ρ1 N Rt) : WS cl (.ite c s1 s2) ρ N Rt := ws_ite hc (fun _ => ht) (fun h => nomatch h)
theorem ws_iteF (hc : evT cl c ρ = .ok false ρ1) (ht : WS cl s2 ρ1 N Rt) : WS cl (.ite c s1 s2) ρ N Rt := ws_ite hc (fun h => nomatch h) (fun _ => ht)
theorem ws_app_o {α : Type} {f : α → D} {i : Nat} {x : α} {xs ys : List α} (ho : ownL (getS ρ i) = true) (he : evE cl e ρ = .ok (f x, k) ρ1) (hs : settle ρ1 (f x) k = .ok (f x) ρ2) (hi : getS ρ2 i = .own (.lst (xs.map f))) (hv : appM xs x = some ys) (w : N (ρ2.set i (.own (.lst (ys.map f))))) : WS cl (.app i e) ρ N Rt := by
  refine ws_nx ?_ w
  unfold appM at hv
  split at hv
  · rename_i c
    cases hv
    rw [s_app, if_pos ho, he, R.fl_ok']
    show (settle ρ1 (f x) k).fl _ = _
    rw [hs, R.fl_ok', app_o hi (by rw [List.length_map]; exact c), List.map_append] <;> rfl
  · cases hv
theorem ws_app_i {α : Type} {f : α → D} {i : Nat} {x : α} {xs ys : List α} (ho : ownL (getS ρ i) = true) (he : evE cl e ρ = .ok (f x, k) ρ1) (hs : settle ρ1 (f x) k = .ok (f x) ρ2) (hi : getS ρ2 i = .io (.lst (xs.map f))) (hv : appM xs x = some ys) (w : N (ρ2.set i (.io (.lst (ys.map f))))) : WS cl (.app i e) ρ N Rt := by
  refine ws_nx ?_ w
  unfold appM at hv
  split at hv
  · rename_i c
    cases hv
    rw [s_app, if_pos ho, he, R.fl_ok']
    show (settle ρ1 (f x) k).fl _ = _
    rw [hs, R.fl_ok', app_i hi (by rw [List.length_map]; exact c), List.map_append] <;> rfl
  · cases hv
theorem ws_ext_o {α : Type} {f : α → D} {i : Nat} {xs ys zs : List α} (ho : ownL (getS ρ i) = true) (he : evE cl e ρ = .ok (.lst (ys.map f), .fr) ρ1) (hi : getS ρ1 i = .own (.lst (xs.map f))) (hv : catM xs ys = some zs) (w : N (ρ1.set i (.own (.lst (zs.map f))))) : WS cl (.ext i e) ρ N Rt := by
  refine ws_nx ?_ w
  unfold catM at hv
  split at hv
  · rename_i c
    cases hv
    rw [s_ext, if_pos ho, he, R.fl_ok']
    show (match appD ρ1 i (ys.map f) with | some ρ => Fl.nx ρ | none => Fl.no) = _
    rw [app_o hi (by rw [List.length_map, List.length_map]; exact c), List.map_append]
  · cases hv
theorem ws_fst {i cc : Nat} {x : Str} {ns : List Str} {fs : List D} (he : evE cl e ρ = .ok (d, k) ρ1) (hs : settle ρ1 d k = .ok d ρ2) (hi : getS ρ2 i = .io (.ins cc ns fs)) (h : ns[fs.length]? = some x ∧ x ∉ ns.take fs.length ∧ fs.length < 900) (w : N (ρ2.set i (.io (.ins cc ns (fs ++ [d]))))) : WS cl (.fst i x e) ρ N Rt := by
  refine ws_nx ?_ w
  rw [s_fst, he, R.fl_ok']
  show (settle ρ1 d k).fl _ = _
  rw [hs, R.fl_ok', hi]
  show (if _ then _ else _) = _
  rw [if_pos h]
/-- a for loop -/
theorem ws_forL {α σ : Type} {t it : E} {f : α → D} {xs : List α} {s0 s1 : σ} {g : σ → α → Option σ} {b : S} (I : σ → Env → Prop) (hI : evI cl it ρ = .ok (xs.map f) ρ1) (h0 : I s0 ρ1)
    (step : ∀ s x s' ρ, I s ρ → g s x = some s' → ∃ ρ2, evG cl t (f x) .frz ρ = .ok () ρ2 ∧ WS cl b ρ2 (I s') Rt) (hv : forL xs s0 g = some s1) (w : ∀ ρ', I s1 ρ' → N ρ') : WS cl (.for_ t it b) ρ N Rt := by
  have key : ∀ (xs : List α) (s0 : σ) (ρ : Env), I s0 ρ → forL xs s0 g = some s1 → match forRun cl t b (xs.map f) ρ with | .nx ρ' => N ρ' | .rt d b ρ' => Rt d b ρ' | .no => False := by
    intro xs
    induction xs with
    | nil => intro s0 ρ h hv; cases hv; exact w ρ h
    | cons x xs ih =>
      intro s0 ρ h hv
      obtain ⟨s', e1, hv⟩ := ob hv
      obtain ⟨ρ2, e2, e3⟩ := step s0 x s' ρ h e1
      rw [List.map_cons, for_cons, e2, R.fl_ok']
      have e3 := e3.w
      unfold WSd at e3
      cases hb : evS cl b ρ2 with
      | nx ρ' => rw [hb] at e3; exact ih s' ρ' e3 hv
      | rt d b ρ' => rw [hb] at e3; exact e3
      | no => rw [hb] at e3; exact e3.elim
  have := key xs s0 ρ1 h0 hv
  refine ⟨?_⟩
  unfold WSd
  rw [s_for, hI, R.fl_ok']
  exact this
theorem ws_forR {α σ δ : Type} {t it : E} {f : α → D} {xs : List α} {s0 : σ} {o : σ ⊕ δ} {g : σ → α → Option (σ ⊕ δ)} {b : S} (I : σ → Env → Prop) (P : δ → D → Bool → Env → Prop) (hI : evI cl it ρ = .ok (xs.map f) ρ1) (h0 : I s0 ρ1)
    (step : ∀ s x o ρ, I s ρ → g s x = some o → ∃ ρ2, evG cl t (f x) .frz ρ = .ok () ρ2 ∧ WS cl b ρ2 (fun ρ' => ∃ s', o = .inl s' ∧ I s' ρ') (fun d fb ρ' => ∃ r, o = .inr r ∧ P r d fb ρ')) (hv : forR xs s0 g = some o) (w : ∀ s1, o = .inl s1 → ∀ ρ', I s1 ρ' → N ρ') (w2 : ∀ r, o = .inr r → ∀ d fb ρ', P r d fb ρ' → Rt d fb ρ') : WS cl (.for_ t it b) ρ N Rt := by
  have key : ∀ (xs : List α) (s0 : σ) (ρ : Env), I s0 ρ → forR xs s0 g = some o → match forRun cl t b (xs.map f) ρ with | .nx ρ' => N ρ' | .rt d b ρ' => Rt d b ρ' | .no => False := by
    intro xs
    induction xs with
    | nil => intro s0 ρ h hv; exact w s0 (inj hv) ρ h
    | cons x xs ih =>
      intro s0 ρ h hv
      obtain ⟨o', e1, hv⟩ := ob hv
      obtain ⟨ρ2, e2, e3⟩ := step s0 x o' ρ h e1
      rw [List.map_cons, for_cons, e2, R.fl_ok']
      have e3 := e3.w
      unfold WSd at e3
      cases hb : evS cl b ρ2 with
      | nx ρ' => rw [hb] at e3; obtain ⟨s', rfl, e4⟩ := e3; exact ih s' ρ' e4 hv
      | rt d fb ρ' => rw [hb] at e3; obtain ⟨r, rfl, e4⟩ := e3; exact w2 r (inj hv) _ _ _ e4
      | no => rw [hb] at e3; exact e3.elim
  have := key xs s0 ρ1 h0 hv
  refine ⟨?_⟩
  unfold WSd
  rw [s_for, hI, R.fl_ok']
  exact this
theorem ws_whl {σ : Type} {b : S} {s0 s1 : σ} {gc : σ → Option (Bool × σ)} {g : σ → Option σ} (I : σ → Env → Prop) (h0 : I s0 ρ)
    (hc : ∀ s ρ k, I s ρ → gc s = some k → ∃ ρ', evT cl c ρ = .ok k.1 ρ' ∧ I k.2 ρ') (step : ∀ s s' ρ, I s ρ → g s = some s' → WS cl b ρ (I s') Rt) {n : Nat} (hn : n ≤ wFuel) (hv : whlM n s0 gc g = some s1) (w : ∀ ρ', I s1 ρ' → N ρ') : WS cl (.whl c b) ρ N Rt := by
  have key : ∀ (n m : Nat) (s0 : σ) (ρ : Env), n ≤ m → I s0 ρ → whlM n s0 gc g = some s1 → match whlRun cl c b m ρ with | .nx ρ' => N ρ' | .rt d b ρ' => Rt d b ρ' | .no => False := by
    intro n
    induction n with
    | zero => intro m s0 ρ hm h hv; cases hv
    | succ n ih =>
      intro m s0 ρ hm h hv
      obtain ⟨m, rfl⟩ : ∃ m', m = m' + 1 := ⟨m - 1, by omega⟩
      obtain ⟨k, e1, hv⟩ := ob hv
      obtain ⟨ρ2, e2, e3⟩ := hc s0 ρ k h e1
      rw [whl_succ, e2, R.fl_ok']
      cases hk : k.1 with
      | false =>
        rw [hk, if_neg (by decide)] at hv
        cases hv
        rw [if_neg (by decide)]
        exact w ρ2 e3
      | true =>
        rw [hk, if_pos rfl] at hv
        obtain ⟨s', e4, hv⟩ := ob hv
        have e5 := step _ _ _ e3 e4
        rw [if_pos rfl]
        have e5 := e5.w
        unfold WSd at e5
        cases hb : evS cl b ρ2 with
        | nx ρ' => rw [hb] at e5; exact ih m s' ρ' (by omega) e5 hv
        | rt d b ρ' => rw [hb] at e5; exact e5
        | no => rw [hb] at e5; exact e5.elim
  have := key n wFuel s0 ρ hn h0 hv
  refine ⟨?_⟩
  unfold WSd
  rw [s_whl]
  exact this
/-! comprehensions -/
theorem lc_keyP {α β : Type} {vs : List Nat} {t : E} {f : α → D} {u : β → D} {kx : α → Kd} {base : Env} {ρx : α → Env} {g : α → Option β} : ∀ (xs : List α) (ys : List β) (acc : List D) (ρ1 : Env), wipe ρ1 vs = base → (∀ x, wipe (ρx x) vs = base) → (∀ x, evG cl t (f x) .frz base = .ok () (ρx x)) →
    (∀ x y, g x = some y → evE cl e (ρx x) = .ok (u y, k) (ρx x)) → (∀ ρ d, settle ρ d k = .ok d ρ) → lcP xs g = some ys → acc.length + xs.length ≤ sizeLine →
    ∃ ρ2, lcRun cl vs t .nil e (xs.map f) acc ρ1 = .ok (acc ++ ys.map u) ρ2 ∧ (ρ2 = ρ1 ∨ ∃ x, ρ2 = ρx x)
  | [], ys, acc, ρ1, _, _, _, _, _, hv, _ => by
    cases hv
    exact ⟨ρ1, by show R.ok acc ρ1 = _; simp, .inl rfl⟩
  | x :: xs, ys, acc, ρ1, h1, h2, h3, h4, h5, hv, hl => by
    obtain ⟨y, e1, hv⟩ := ob hv
    obtain ⟨zs, e2, hv⟩ := ob hv
    cases hv
    rw [List.length_cons] at hl
    obtain ⟨ρ2, k1, k2⟩ := lc_keyP (kx := kx) xs zs (acc ++ [u y]) (ρx x) (h2 x) h2 h3 h4 h5 e2 (by rw [List.length_append, List.length_singleton]; omega)
    refine ⟨ρ2, ?_, .inr (k2.elim (fun z => ⟨x, z⟩) id)⟩
    rw [List.map_cons, lc_cons, h1, h3 x, R.bind_ok', t_nil, R.bind_ok', if_pos rfl, h4 x y e1, R.bind_ok']
    show (settle (ρx x) (u y) k).bind _ = _
    rw [h5, R.bind_ok', if_pos (by omega), k1, List.append_assoc] <;> rfl
theorem ev_lcP {α β : Type} {vs : List Nat} {t it : E} {f : α → D} {u : β → D} {base : Env} {xs : List α} {ys : List β} {g : α → Option β} (ρx : α → Env) (hp : (vs.all fun v => plainS (getS ρ v)) = true) (hi : evI cl it ρ = .ok (xs.map f) ρ1) (hz : xs.length ≤ sizeLine) (hb : wipe ρ1 vs = base) (h2 : ∀ x, wipe (ρx x) vs = base) (h3 : ∀ x, evG cl t (f x) .frz base = .ok () (ρx x))
    (h4 : ∀ x y, g x = some y → evE cl e (ρx x) = .ok (u y, k) (ρx x)) (h5 : ∀ ρ d, settle ρ d k = .ok d ρ) (hv : lcP xs g = some ys) (u1 : unwipe ρ1 ρ1 vs = ρ1) (u2 : ∀ x, unwipe ρ1 (ρx x) vs = ρ1) : evE cl (.lc vs t it .nil e) ρ = .ok (.lst (ys.map u), .fr) ρ1 := by
  obtain ⟨ρ2, k1, k2⟩ := lc_keyP (kx := fun _ => k) xs ys [] ρ1 hb h2 h3 h4 h5 hv (by rw [List.length_nil]; omega)
  rw [e_lc, if_pos hp, hi, R.bind_ok', k1, R.bind_ok']
  rcases k2 with rfl | ⟨x, rfl⟩
  · rw [u1] <;> rfl
  · rw [u2 x] <;> rfl
theorem lc_keyF {α β : Type} {vs : List Nat} {t c : E} {f : α → D} {u : β → D} {base : Env} {ρx : α → Env} {g : α → Option (Option β)} : ∀ (xs : List α) (ys : List β) (acc : List D) (ρ1 : Env), wipe ρ1 vs = base → (∀ x, wipe (ρx x) vs = base) → (∀ x, evG cl t (f x) .frz base = .ok () (ρx x)) →
    (∀ x o, g x = some o → evT cl c (ρx x) = .ok o.isSome (ρx x) ∧ ∀ y, o = some y → evE cl e (ρx x) = .ok (u y, k) (ρx x)) → (∀ ρ d, settle ρ d k = .ok d ρ) → lcF xs g = some ys → acc.length + xs.length ≤ sizeLine →
    ∃ ρ2, lcRun cl vs t c e (xs.map f) acc ρ1 = .ok (acc ++ ys.map u) ρ2 ∧ (ρ2 = ρ1 ∨ ∃ x, ρ2 = ρx x)
  | [], ys, acc, ρ1, _, _, _, _, _, hv, _ => by
    cases hv
    exact ⟨ρ1, by show R.ok acc ρ1 = _; simp, .inl rfl⟩
  | x :: xs, ys, acc, ρ1, h1, h2, h3, h4, h5, hv, hl => by
    obtain ⟨o, e1, hv⟩ := ob hv
    obtain ⟨zs, e2, hv⟩ := ob hv
    obtain ⟨q1, q2⟩ := h4 x o e1
    rw [List.length_cons] at hl
    cases o with
    | none =>
      cases hv
      obtain ⟨ρ2, k1, k2⟩ := lc_keyF xs zs acc (ρx x) (h2 x) h2 h3 h4 h5 e2 (by omega)
      refine ⟨ρ2, ?_, .inr (k2.elim (fun z => ⟨x, z⟩) id)⟩
      rw [List.map_cons, lc_cons, h1, h3 x, R.bind_ok', q1, R.bind_ok', if_neg (by simp), k1]
    | some y =>
      cases hv
      obtain ⟨ρ2, k1, k2⟩ := lc_keyF xs zs (acc ++ [u y]) (ρx x) (h2 x) h2 h3 h4 h5 e2 (by rw [List.length_append, List.length_singleton]; omega)
      refine ⟨ρ2, ?_, .inr (k2.elim (fun z => ⟨x, z⟩) id)⟩
      rw [List.map_cons, lc_cons, h1, h3 x, R.bind_ok', q1, R.bind_ok', if_pos (by simp), q2 y rfl, R.bind_ok']
      show (settle (ρx x) (u y) k).bind _ = _
      rw [h5, R.bind_ok', if_pos (by omega), k1, List.append_assoc] <;> rfl
theorem ev_lcF {α β : Type} {vs : List Nat} {t it c : E} {f : α → D} {u : β → D} {base : Env} {xs : List α} {ys : List β} {g : α → Option (Option β)} (ρx : α → Env) (hp : (vs.all fun v => plainS (getS ρ v)) = true) (hi : evI cl it ρ = .ok (xs.map f) ρ1) (hz : xs.length ≤ sizeLine) (hb : wipe ρ1 vs = base) (h2 : ∀ x, wipe (ρx x) vs = base) (h3 : ∀ x, evG cl t (f x) .frz base = .ok () (ρx x))
    (h4 : ∀ x o, g x = some o → evT cl c (ρx x) = .ok o.isSome (ρx x) ∧ ∀ y, o = some y → evE cl e (ρx x) = .ok (u y, k) (ρx x)) (h5 : ∀ ρ d, settle ρ d k = .ok d ρ) (hv : lcF xs g = some ys) (u1 : unwipe ρ1 ρ1 vs = ρ1) (u2 : ∀ x, unwipe ρ1 (ρx x) vs = ρ1) : evE cl (.lc vs t it c e) ρ = .ok (.lst (ys.map u), .fr) ρ1 := by
  obtain ⟨ρ2, k1, k2⟩ := lc_keyF xs ys [] ρ1 hb h2 h3 h4 h5 hv (by rw [List.length_nil]; omega)
  rw [e_lc, if_pos hp, hi, R.bind_ok', k1, R.bind_ok']
  rcases k2 with rfl | ⟨x, rfl⟩
  · rw [u1] <;> rfl
  · rw [u2 x] <;> rfl
/-- .. that changes a state -/
theorem lc_keyS {α β σ : Type} {vs : List Nat} {t c : E} {f : α → D} {u : β → D} {base : σ → Env} {ρx : σ → α → Env} {g : σ → α → Option (Option β × σ)} : ∀ (xs : List α) (s : σ) (r : List β × σ) (acc : List D) (ρ1 : Env), wipe ρ1 vs = base s → (∀ s x, wipe (ρx s x) vs = base s) → (∀ s x, evG cl t (f x) .frz (base s) = .ok () (ρx s x)) →
    (∀ s x o, g s x = some o → evT cl c (ρx s x) = .ok o.1.isSome (ρx (if o.1.isSome = true then s else o.2) x) ∧ ∀ y, o.1 = some y → evE cl e (ρx s x) = .ok (u y, k) (ρx o.2 x)) → (∀ ρ d, settle ρ d k = .ok d ρ) → lcS xs s g = some r → acc.length + xs.length ≤ sizeLine →
    ∃ ρ2, lcRun cl vs t c e (xs.map f) acc ρ1 = .ok (acc ++ r.1.map u) ρ2 ∧ ((ρ2 = ρ1 ∧ r.2 = s) ∨ ∃ x, ρ2 = ρx r.2 x)
  | [], s, r, acc, ρ1, _, _, _, _, _, hv, _ => by
    cases hv
    exact ⟨ρ1, by show R.ok acc ρ1 = _; simp, .inl ⟨rfl, rfl⟩⟩
  | x :: xs, s, r, acc, ρ1, h1, h2, h3, h4, h5, hv, hl => by
    obtain ⟨o, e1, hv⟩ := ob hv
    obtain ⟨zs, e2, hv⟩ := ob hv
    obtain ⟨q1, q2⟩ := h4 s x o e1
    rw [List.length_cons] at hl
    obtain ⟨o1, o2⟩ := o
    cases o1 with
    | none =>
      cases hv
      obtain ⟨ρ2, k1, k2⟩ := lc_keyS xs o2 zs acc (ρx o2 x) (h2 o2 x) h2 h3 h4 h5 e2 (by omega)
      refine ⟨ρ2, ?_, .inr (k2.elim (fun z => ⟨x, by rw [z.2]; exact z.1⟩) id)⟩
      rw [List.map_cons, lc_cons, h1, h3 s x, R.bind_ok', q1, R.bind_ok', if_neg (by simp)]
      exact k1
    | some y =>
      cases hv
      obtain ⟨ρ2, k1, k2⟩ := lc_keyS xs o2 zs (acc ++ [u y]) (ρx o2 x) (h2 o2 x) h2 h3 h4 h5 e2 (by rw [List.length_append, List.length_singleton]; omega)
      refine ⟨ρ2, ?_, .inr (k2.elim (fun z => ⟨x, by rw [z.2]; exact z.1⟩) id)⟩
      rw [List.map_cons, lc_cons, h1, h3 s x, R.bind_ok', q1, R.bind_ok', if_pos (by simp)]
      show (evE cl e (ρx s x)).bind _ = _
      rw [q2 y rfl, R.bind_ok']
      show (settle (ρx o2 x) (u y) k).bind _ = _
      rw [h5, R.bind_ok', if_pos (by omega), k1, List.append_assoc] <;> rfl
theorem ev_lcS {α β σ : Type} {vs : List Nat} {t it c : E} {f : α → D} {u : β → D} {xs : List α} {s : σ} {r : List β × σ} {g : σ → α → Option (Option β × σ)} (base : σ → Env) (ρx : σ → α → Env) (ρ9 : σ → Env) (hp : (vs.all fun v => plainS (getS ρ v)) = true) (hi : evI cl it ρ = .ok (xs.map f) (ρ9 s)) (hz : xs.length ≤ sizeLine) (hb : ∀ s, wipe (ρ9 s) vs = base s) (h2 : ∀ s x, wipe (ρx s x) vs = base s) (h3 : ∀ s x, evG cl t (f x) .frz (base s) = .ok () (ρx s x))
    (h4 : ∀ s x o, g s x = some o → evT cl c (ρx s x) = .ok o.1.isSome (ρx (if o.1.isSome = true then s else o.2) x) ∧ ∀ y, o.1 = some y → evE cl e (ρx s x) = .ok (u y, k) (ρx o.2 x)) (h5 : ∀ ρ d, settle ρ d k = .ok d ρ) (hv : lcS xs s g = some r) (u1 : unwipe (ρ9 s) (ρ9 s) vs = ρ9 s) (u2 : ∀ s' x, unwipe (ρ9 s) (ρx s' x) vs = ρ9 s') : evE cl (.lc vs t it c e) ρ = .ok (.lst (r.1.map u), .fr) (ρ9 r.2) := by
  obtain ⟨ρ2, k1, k2⟩ := lc_keyS xs s r [] (ρ9 s) (hb s) h2 h3 h4 h5 hv (by rw [List.length_nil]; omega)
  rw [e_lc, if_pos hp, hi, R.bind_ok', k1, R.bind_ok']
  rcases k2 with ⟨rfl, e⟩ | ⟨x, rfl⟩
  · rw [u1, e] <;> rfl
  · rw [u2] <;> rfl
end
theorem call_ws {T : List Df} {n f : Nat} {fl : List Bool} {ds : List D} {df : Df} {r : D × Bool × List D} {ρ0 : Env} (h : T[f]? = some df) (h1 : df.ios = fl) (h2 : ds.length = df.ps.length) (h3 : df.ios.length = df.ps.length) (hi : Mp.init df ds = ρ0)
    (w : WS (callN T n) df.body ρ0 (fun ρ' => (outsOf fl ρ').map (fun os => (D.non, false, os)) = some r) (fun d b ρ' => (outsOf fl ρ').map (fun os => (d, b, os)) = some r)) : callN T (n + 1) f fl ds = some r := by
  rw [call_eq h h1 h2 h3, hi, h1]
  have w := w.w
  unfold WSd at w
  cases hs : evS (callN T n) df.body ρ0 with
  | nx ρ' => rw [hs] at w; exact w
  | rt d b ρ' => rw [hs] at w; exact w
  | no => rw [hs] at w; exact w.elim
end Mp
namespace Mp
open PySem
theorem ifT {α : Sort _} {c : Bool} {a b : α} (h : c = true) : (if c = true then a else b) = a := if_pos h
theorem ifF {α : Sort _} {c : Bool} {a b : α} (h : c = false) : (if c = true then a else b) = b := if_neg (by rw [h]; decide)
theorem pl_notIo {s : Mp.Slot} (h : plainS s = true) : notIo s = true := by cases s <;> first | rfl | cases h
theorem nd1 {a : Nat} : [a].Nodup := List.nodup_cons.mpr ⟨List.not_mem_nil, List.nodup_nil⟩
/-- what a def's end leaves -/
def Post {τ : Type} (fl : List Bool) (q : τ → D × Bool × List D) (r : τ) (d : D) (b : Bool) (ρ : Env) : Prop := (outsOf fl ρ).map (fun os => (d, b, os)) = some (q r)
abbrev eA (d : D) : D := d
section
variable {cl : Nat → List Bool → List D → CRes} {ρ ρ1 ρ2 ρ3 : Env} {a b c e es : E} {d d1 d2 d3 : D} {k k1 k2 k3 : Kd}
theorem nar {α : Type} {f : α → D} {v : Option α} {y : α} (h : evE cl e ρ = .ok (eO f v, k) ρ1) (hy : v = some y) : evE cl e ρ = .ok (f y, k) ρ1 := by
  rw [h, hy] <;> rfl
theorem ev_andt {v w : Bool} (ha : evE cl a ρ = .ok (.bl v, .frz) ρ) (hb : evE cl b ρ = .ok (.bl w, .frz) ρ) : evE cl (.and a b) ρ = .ok (.bl (v && w), .frz) ρ := ev_and ha (fun h => by rw [h]; exact hb) (fun h => by rw [h] <;> rfl)
theorem ev_ort {v w : Bool} (ha : evE cl a ρ = .ok (.bl v, .frz) ρ) (hb : evE cl b ρ = .ok (.bl w, .frz) ρ) : evE cl (.or a b) ρ = .ok (.bl (v || w), .frz) ρ := ev_or ha (fun h => by rw [h]; exact hb) (fun h => by rw [h] <;> rfl)
theorem et_andt {v w : Bool} (ha : evT cl a ρ = .ok v ρ) (hb : evT cl b ρ = .ok w ρ) : evT cl (.and a b) ρ = .ok (v && w) ρ := et_and ha (fun h => by rw [h]; exact hb) (fun h => by rw [h] <;> rfl)
theorem et_ort {v w : Bool} (ha : evT cl a ρ = .ok v ρ) (hb : evT cl b ρ = .ok w ρ) : evT cl (.or a b) ρ = .ok (v || w) ρ := et_or ha (fun h => by rw [h]; exact hb) (fun h => by rw [h] <;> rfl)
end
/-! comprehensions with the size in the typed program -/
section
variable {α β σ : Type}
def LcP (xs : List α) (f : α → Option β) : Option (List β) := if xs.length ≤ sizeLine then lcP xs f else none
def LcF (xs : List α) (f : α → Option (Option β)) : Option (List β) := if xs.length ≤ sizeLine then lcF xs f else none
def LcS (xs : List α) (s : σ) (f : σ → α → Option (Option β × σ)) : Option (List β × σ) := if xs.length ≤ sizeLine then lcS xs s f else none
theorem if_some {γ : Type} {c : Prop} [Decidable c] {x : Option γ} {r : γ} (h : (if c then x else none) = some r) : c ∧ x = some r := by
  split at h
  · exact ⟨by assumption, h⟩
  · cases h
end
/-! dicts -/
abbrev dctE {α β : Type} (f : α → D) (g : β → D) (kvs : List (α × β)) : List (D × D) := kvs.map fun p => (f p.1, g p.2)
/-- keys, and how deep they are -/
structure NkC {α : Type} (f : α → D) (n : Nat) : Prop where
  key : ∀ a, ∃ k, nkey (f a) = some k ∧ k.depth ≤ n
  inj : ∀ a b, nkey (f a) = nkey (f b) → a = b
theorem nkc_int : NkC D.int 0 := ⟨fun a => ⟨_, rfl, Nat.le_refl _⟩, fun a b h => by
  have h' : some (NestedKey.num a) = some (NestedKey.num b) := h
  injection h' with h'; injection h'⟩
theorem nkc_bl : NkC D.bl 0 := ⟨fun a => ⟨_, rfl, Nat.le_refl _⟩, fun a b h => by
  have h' : some (NestedKey.num (if a = true then 1 else 0)) = some (NestedKey.num (if b = true then 1 else 0)) := h
  cases a <;> cases b <;> first | rfl | (injection h' with h'; injection h' with h'; exact absurd h' (by decide))⟩
theorem nkeys_map {α : Type} {f : α → D} {n : Nat} (h : NkC f n) : ∀ xs : List α, ∃ ks, nkeys (xs.map f) = some ks ∧ NestedKey.depthAll ks ≤ n
  | [] => ⟨[], rfl, Nat.zero_le _⟩
  | x :: xs => by
    obtain ⟨k, h1, h2⟩ := h.key x
    obtain ⟨ks, h3, h4⟩ := nkeys_map h xs
    refine ⟨k :: ks, ?_, ?_⟩
    · show ((nkey (f x)).bind fun k => (nkeys (xs.map f)).map (k :: ·)) = _
      rw [h1, h3] <;> rfl
    · simp only [NestedKey.depthAll]; omega
theorem nkeys_inj {α : Type} {f : α → D} {n : Nat} (h : NkC f n) : ∀ xs ys : List α, nkeys (xs.map f) = nkeys (ys.map f) → xs = ys
  | [], [], _ => rfl
  | [], y :: ys, e => by
    obtain ⟨k, h1, _⟩ := h.key y
    obtain ⟨ks, h3, _⟩ := nkeys_map h ys
    have e' : some [] = ((nkey (f y)).bind fun k => (nkeys (ys.map f)).map (k :: ·)) := e
    rw [h1, h3] at e'
    injection e' with e'
    cases e'
  | x :: xs, [], e => by
    obtain ⟨k, h1, _⟩ := h.key x
    obtain ⟨ks, h3, _⟩ := nkeys_map h xs
    have e' : ((nkey (f x)).bind fun k => (nkeys (xs.map f)).map (k :: ·)) = some [] := e
    rw [h1, h3] at e'
    injection e' with e'
    cases e'
  | x :: xs, y :: ys, e => by
    obtain ⟨k, h1, _⟩ := h.key x
    obtain ⟨ks, h3, _⟩ := nkeys_map h xs
    obtain ⟨k', h1', _⟩ := h.key y
    obtain ⟨ks', h3', _⟩ := nkeys_map h ys
    have e' : ((nkey (f x)).bind fun k => (nkeys (xs.map f)).map (k :: ·)) = ((nkey (f y)).bind fun k => (nkeys (ys.map f)).map (k :: ·)) := e
    rw [h1, h3, h1', h3'] at e'
    injection e' with e'
    obtain ⟨e1, e2⟩ := List.cons.inj (show k :: ks = k' :: ks' from e')
    rw [h.inj x y (by rw [h1, h1', e1]), nkeys_inj h xs ys (by rw [h3, h3', e2])]
theorem nkc_tup {α : Type} {q : α → List D} {n : Nat} (h1 : ∀ a, ∃ ks, nkeys (q a) = some ks ∧ NestedKey.depthAll ks ≤ n) (h2 : ∀ a b, nkeys (q a) = nkeys (q b) → a = b) : NkC (fun a => D.tup (q a)) (n + 1) :=
  ⟨fun a => by
    obtain ⟨ks, e, d⟩ := h1 a
    refine ⟨.tup ks, ?_, by simp only [NestedKey.depth]; omega⟩
    show (nkeys (q a)).map NestedKey.tup = _
    rw [e] <;> rfl, fun a b e => h2 a b (by
    obtain ⟨ks, e1, _⟩ := h1 a
    obtain ⟨ks', e2, _⟩ := h1 b
    have e' : (nkeys (q a)).map NestedKey.tup = (nkeys (q b)).map .tup := e
    rw [e1, e2] at e' ⊢
    injection e' with e'
    injection e' with e'
    rw [e'])⟩
section
variable {α β γ δ : Type} {e : α → D} {f : β → D} {g : γ → D} {u : δ → D} {k k2 k3 k4 : Nat}
theorem nkc_t (h : NkC e k) : NkC (fun xs : List α => D.tup (xs.map e)) (k + 1) := nkc_tup (nkeys_map h) (nkeys_inj h)
theorem nkeys_cons {d : D} {ds : List D} {c : NestedKey} {cs : List NestedKey} (h1 : nkey d = some c) (h2 : nkeys ds = some cs) : nkeys (d :: ds) = some (c :: cs) := by
  show ((nkey d).bind fun k => (nkeys ds).map (k :: ·)) = _
  rw [h1, h2] <;> rfl
theorem nkc_t2 (h : NkC e k) (h2 : NkC f k2) : NkC (fun p : α × β => D.tup [e p.1, f p.2]) (max k k2 + 1) :=
  nkc_tup (q := fun p : α × β => [e p.1, f p.2]) (fun a => by
    obtain ⟨c1, e1, d1⟩ := h.key a.1
    obtain ⟨c2, e2, d2⟩ := h2.key a.2
    exact ⟨[c1, c2], nkeys_cons e1 (nkeys_cons e2 rfl), by simp only [NestedKey.depthAll]; omega⟩) (fun a b q => by
    obtain ⟨c1, e1, d1⟩ := h.key a.1
    obtain ⟨c2, e2, d2⟩ := h2.key a.2
    obtain ⟨c1', e1', d1'⟩ := h.key b.1
    obtain ⟨c2', e2', d2'⟩ := h2.key b.2
    have q' : some [c1, c2] = some [c1', c2'] := ((nkeys_cons e1 (nkeys_cons e2 rfl)).symm.trans q).trans (nkeys_cons e1' (nkeys_cons e2' rfl))
    injection q' with q'
    injection q' with q1 q'
    injection q' with q2 q'
    exact Prod.ext (h.inj _ _ (by rw [e1, e1', q1])) (h2.inj _ _ (by rw [e2, e2', q2])))
theorem nkc_t3 (h : NkC e k) (h2 : NkC f k2) (h3 : NkC g k3) : NkC (fun p : α × β × γ => D.tup [e p.1, f p.2.1, g p.2.2]) (max k (max k2 k3) + 1) :=
  nkc_tup (q := fun p : α × β × γ => [e p.1, f p.2.1, g p.2.2]) (fun a => by
    obtain ⟨c1, e1, d1⟩ := h.key a.1
    obtain ⟨c2, e2, d2⟩ := h2.key a.2.1
    obtain ⟨c3, e3, d3⟩ := h3.key a.2.2
    exact ⟨[c1, c2, c3], nkeys_cons e1 (nkeys_cons e2 (nkeys_cons e3 rfl)), by simp only [NestedKey.depthAll]; omega⟩) (fun a b q => by
    obtain ⟨c1, e1, d1⟩ := h.key a.1
    obtain ⟨c2, e2, d2⟩ := h2.key a.2.1
    obtain ⟨c3, e3, d3⟩ := h3.key a.2.2
    obtain ⟨c1', e1', d1'⟩ := h.key b.1
    obtain ⟨c2', e2', d2'⟩ := h2.key b.2.1
    obtain ⟨c3', e3', d3'⟩ := h3.key b.2.2
    have q' : some [c1, c2, c3] = some [c1', c2', c3'] := ((nkeys_cons e1 (nkeys_cons e2 (nkeys_cons e3 rfl))).symm.trans q).trans (nkeys_cons e1' (nkeys_cons e2' (nkeys_cons e3' rfl)))
    injection q' with q'
    injection q' with q1 q'
    injection q' with q2 q'
    injection q' with q3 q'
    exact Prod.ext (h.inj _ _ (by rw [e1, e1', q1])) (Prod.ext (h2.inj _ _ (by rw [e2, e2', q2])) (h3.inj _ _ (by rw [e3, e3', q3]))))
theorem nkc_t4 (h : NkC e k) (h2 : NkC f k2) (h3 : NkC g k3) (h4 : NkC u k4) : NkC (fun p : α × β × γ × δ => D.tup [e p.1, f p.2.1, g p.2.2.1, u p.2.2.2]) (max (max k k2) (max k3 k4) + 1) :=
  nkc_tup (q := fun p : α × β × γ × δ => [e p.1, f p.2.1, g p.2.2.1, u p.2.2.2]) (fun a => by
    obtain ⟨c1, e1, d1⟩ := h.key a.1
    obtain ⟨c2, e2, d2⟩ := h2.key a.2.1
    obtain ⟨c3, e3, d3⟩ := h3.key a.2.2.1
    obtain ⟨c4, e4, d4⟩ := h4.key a.2.2.2
    exact ⟨[c1, c2, c3, c4], nkeys_cons e1 (nkeys_cons e2 (nkeys_cons e3 (nkeys_cons e4 rfl))), by simp only [NestedKey.depthAll]; omega⟩) (fun a b q => by
    obtain ⟨c1, e1, d1⟩ := h.key a.1
    obtain ⟨c2, e2, d2⟩ := h2.key a.2.1
    obtain ⟨c3, e3, d3⟩ := h3.key a.2.2.1
    obtain ⟨c4, e4, d4⟩ := h4.key a.2.2.2
    obtain ⟨c1', e1', d1'⟩ := h.key b.1
    obtain ⟨c2', e2', d2'⟩ := h2.key b.2.1
    obtain ⟨c3', e3', d3'⟩ := h3.key b.2.2.1
    obtain ⟨c4', e4', d4'⟩ := h4.key b.2.2.2
    have q' : some [c1, c2, c3, c4] = some [c1', c2', c3', c4'] := ((nkeys_cons e1 (nkeys_cons e2 (nkeys_cons e3 (nkeys_cons e4 rfl)))).symm.trans q).trans (nkeys_cons e1' (nkeys_cons e2' (nkeys_cons e3' (nkeys_cons e4' rfl))))
    injection q' with q'
    injection q' with q1 q'
    injection q' with q2 q'
    injection q' with q3 q'
    injection q' with q4 q'
    exact Prod.ext (h.inj _ _ (by rw [e1, e1', q1])) (Prod.ext (h2.inj _ _ (by rw [e2, e2', q2])) (Prod.ext (h3.inj _ _ (by rw [e3, e3', q3])) (h4.inj _ _ (by rw [e4, e4', q4])))))
end
/-- tuples that may be keys -/
structure KeyC {α : Type} (f : α → D) : Prop where
  key : ∀ a, ∃ k, nk (f a) = some k
  inj : ∀ a b, nk (f a) = nk (f b) → a = b
theorem keyC {α : Type} {q : α → List D} {n : Nat} (h : NkC (fun a => D.tup (q a)) n) (hn : Nat.ble n 8 = true) : KeyC (fun a => D.tup (q a)) := by
  have hn := Nat.le_of_ble_eq_true hn
  have e : ∀ a, nk (D.tup (q a)) = nkey (D.tup (q a)) := fun a => by
    obtain ⟨k, h1, h2⟩ := h.key a
    have h1' : nkey (D.tup (q a)) = some k := h1
    unfold nk
    rw [if_pos (show isTupD (D.tup (q a)) = true from rfl), h1']
    show (if k.depth ≤ 8 then some k else none) = _
    rw [if_pos (Nat.le_trans h2 hn)]
  refine ⟨fun a => ?_, fun a b z => h.inj a b ?_⟩
  · obtain ⟨k, h1, _⟩ := h.key a
    exact ⟨k, (e a).trans h1⟩
  · exact (e a).symm.trans (z.trans (e b))
section
variable {α β : Type} [DecidableEq α]
def dgetM (kvs : List (α × β)) (a : α) : Option β := (kvs.find? fun p => decide (p.1 = a)).map (·.2)
def dhasT (kvs : List (α × β)) (a : α) : Bool := kvs.any fun p => decide (p.1 = a)
def dputT (kvs : List (α × β)) (a : α) (x : β) : List (α × β) := if dhasT kvs a = true then kvs.map (fun p => if p.1 = a then (p.1, x) else p) else kvs ++ [(a, x)]
def dputM (kvs : List (α × β)) (a : α) (x : β) : Option (List (α × β)) := if kvs.length < sizeLine then some (dputT kvs a x) else none
def dkeysT {α β : Type} (kvs : List (α × β)) : List α := kvs.map (·.1)
def dofT (ps : List (α × β)) : List (α × β) := ps.foldl (fun acc p => dputT acc p.1 p.2) []
variable {f : α → D} {g : β → D}
theorem key_is (h : KeyC f) {a b : α} {k : NestedKey} (hk : nk (f b) = some k) (y : D) : keyIs k (f a, y) = decide (a = b) := by
  show decide (nk (f a) = some k) = _
  by_cases c : a = b
  · rw [decide_eq_true c, decide_eq_true (by rw [c]; exact hk)]
  · rw [decide_eq_false c, decide_eq_false fun z => c (h.inj a b (z.trans hk.symm))]
theorem dget_map (h : KeyC f) {b : α} {k : NestedKey} (hk : nk (f b) = some k) : ∀ kvs : List (α × β), dGet (dctE f g kvs) k = (dgetM kvs b).map g
  | [] => rfl
  | p :: r => by
    have ih := dget_map h hk r
    unfold dGet dgetM at ih ⊢
    unfold dctE at ih ⊢
    rw [List.map_cons, List.find?_cons, List.find?_cons, key_is h hk]
    by_cases c : p.1 = b
    · rw [decide_eq_true c] <;> rfl
    · rw [decide_eq_false c]
      exact ih
theorem dhas_map (h : KeyC f) {b : α} {k : NestedKey} (hk : nk (f b) = some k) (kvs : List (α × β)) : (dctE f g kvs).any (keyIs k) = dhasT kvs b := by
  unfold dhasT dctE
  rw [List.any_map]
  congr 1
  funext p
  exact key_is h hk _
theorem dput_map (h : KeyC f) {b : α} {k : NestedKey} (hk : nk (f b) = some k) (x : β) (kvs : List (α × β)) : dPut (dctE f g kvs) (f b) k (g x) = dctE f g (dputT kvs b x) := by
  unfold dPut dputT
  rw [dhas_map h hk]
  by_cases c : dhasT kvs b = true
  · rw [if_pos c, if_pos c]
    unfold dctE
    rw [List.map_map, List.map_map]
    refine List.map_congr_left fun p _ => ?_
    simp only [Function.comp]
    rw [key_is h hk]
    by_cases c : p.1 = b
    · rw [if_pos (decide_eq_true c), if_pos c]
    · rw [if_neg (by simpa using c), if_neg c]
  · rw [if_neg c, if_neg c]
    unfold dctE
    rw [List.map_append] <;> rfl
theorem v_ix_d (h : KeyC f) {kvs : List (α × β)} {a : α} {y : β} (hv : dgetM kvs a = some y) : idxD (.dct (dctE f g kvs)) (f a) = some (g y) := by
  obtain ⟨k, hk⟩ := h.key a
  show ((nk (f a)).bind fun k => dGet (dctE f g kvs) k) = _
  rw [hk]
  show dGet (dctE f g kvs) k = _
  rw [dget_map h hk, hv] <;> rfl
theorem v_len_d {α β : Type} {f : α → D} {g : β → D} {kvs : List (α × β)} : bltD .len [.dct (dctE f g kvs)] = some (.int (kvs.length : Nat), false) := by
  show some (D.int ((dctE f g kvs).length : Nat), false) = _
  rw [List.length_map]
theorem v_list_d {α β : Type} {f : α → D} {g : β → D} {kvs : List (α × β)} : bltD .list [.dct (dctE f g kvs)] = some (.lst ((dkeysT kvs).map f), true) := by
  show some (D.lst ((dctE f g kvs).map (·.1)), true) = _
  unfold dctE dkeysT
  rw [List.map_map, List.map_map] <;> rfl
theorem dof_map (h : KeyC f) : ∀ (ps kvs : List (α × β)), dOf (dctE f g kvs) (ps.map fun p => D.tup [f p.1, g p.2]) = some (dctE f g (ps.foldl (fun acc p => dputT acc p.1 p.2) kvs))
  | [], kvs => rfl
  | p :: ps, kvs => by
    obtain ⟨k, hk⟩ := h.key p.1
    show ((nk (f p.1)).bind fun k => dOf (dPut (dctE f g kvs) (f p.1) k (g p.2)) (ps.map fun p => D.tup [f p.1, g p.2])) = _
    rw [hk]
    show dOf (dPut (dctE f g kvs) (f p.1) k (g p.2)) _ = _
    rw [dput_map h hk, dof_map h ps] <;> rfl
theorem v_dict (h : KeyC f) {ps : List (α × β)} : bltD .dict [.lst (ps.map fun p => D.tup [f p.1, g p.2])] = some (.dct (dctE f g (dofT ps)), true) := by
  show (dOf (dctE f g []) (ps.map fun p => D.tup [f p.1, g p.2])).map _ = _
  rw [dof_map h ps] <;> rfl
theorem v_in_d (h : KeyC f) {a : α} {kvs : List (α × β)} : cmpD .in_ (f a) (.dct (dctE f g kvs)) = some (dhasT kvs a) := by
  obtain ⟨k, hk⟩ := h.key a
  show (nk (f a)).map _ = _
  rw [hk]
  show some ((dctE f g kvs).any (keyIs k)) = _
  rw [dhas_map h hk]
theorem v_nin_d (h : KeyC f) {a : α} {kvs : List (α × β)} : cmpD .nin (f a) (.dct (dctE f g kvs)) = some (!dhasT kvs a) := by
  obtain ⟨k, hk⟩ := h.key a
  show ((nk (f a)).map _).map _ = _
  rw [hk]
  show some (!(dctE f g kvs).any (keyIs k)) = _
  rw [dhas_map h hk]
theorem v_store_do (h : KeyC f) {ρ : Env} {j : Nat} {kvs zs : List (α × β)} {a : α} {x : β} (hj : getS ρ j = .own (.dct (dctE f g kvs))) (hv : dputM kvs a x = some zs) : storeIx ρ j (f a) (g x) = .ok () (ρ.set j (.own (.dct (dctE f g zs)))) := by
  obtain ⟨k, hk⟩ := h.key a
  unfold dputM at hv
  obtain ⟨hz, hv⟩ := if_some hv
  have e := Option.some.inj hv
  unfold storeIx
  rw [hj]
  show (match nk (f a) with
    | some k => if (dctE f g kvs).length < sizeLine then R.ok () (ρ.set j (.own (.dct (dPut (dctE f g kvs) (f a) k (g x))))) else .no
    | none => .no) = _
  rw [hk]
  show (if (dctE f g kvs).length < sizeLine then R.ok () (ρ.set j (.own (.dct (dPut (dctE f g kvs) (f a) k (g x))))) else .no) = _
  rw [if_pos (by rw [List.length_map]; exact hz), dput_map h hk, e]
theorem v_store_di (h : KeyC f) {ρ : Env} {j : Nat} {kvs zs : List (α × β)} {a : α} {x : β} (hj : getS ρ j = .io (.dct (dctE f g kvs))) (hv : dputM kvs a x = some zs) : storeIx ρ j (f a) (g x) = .ok () (ρ.set j (.io (.dct (dctE f g zs)))) := by
  obtain ⟨k, hk⟩ := h.key a
  unfold dputM at hv
  obtain ⟨hz, hv⟩ := if_some hv
  have e := Option.some.inj hv
  unfold storeIx
  rw [hj]
  show (match nk (f a) with
    | some k => if (dctE f g kvs).length < sizeLine then R.ok () (ρ.set j (.io (.dct (dPut (dctE f g kvs) (f a) k (g x))))) else .no
    | none => .no) = _
  rw [hk]
  show (if (dctE f g kvs).length < sizeLine then R.ok () (ρ.set j (.io (.dct (dPut (dctE f g kvs) (f a) k (g x))))) else .no) = _
  rw [if_pos (by rw [List.length_map]; exact hz), dput_map h hk, e]
end
/-! min, max of lists; reversed -/
section
variable {α : Type} {e : α → D}
def minM (e : α → D) (xs : List α) : Option α := match xs with
  | [] => none
  | x :: r => if minOk ((x :: r).map e) = true then some (r.foldl (fun a y => if PySem.W.dataLt (e y).toP (e a).toP = true then y else a) x) else none
def maxM (e : α → D) (xs : List α) : Option α := match xs with
  | [] => none
  | x :: r => if minOk ((x :: r).map e) = true then some (r.foldl (fun a y => if PySem.W.dataLt (e a).toP (e y).toP = true then y else a) x) else none
theorem fold_mapE (q : D → D → Bool) : ∀ (r : List α) (x : α), (r.map e).foldl (fun a y => if q a y = true then y else a) (e x) = e (r.foldl (fun a y => if q (e a) (e y) = true then y else a) x)
  | [], x => rfl
  | y :: r, x => by
    rw [List.map_cons, List.foldl_cons, List.foldl_cons]
    by_cases c : q (e x) (e y) = true
    · rw [if_pos c, if_pos c]; exact fold_mapE q r y
    · rw [if_neg c, if_neg c]; exact fold_mapE q r x
theorem v_min_l {xs : List α} {z : α} (h : minM e xs = some z) : bltD .min [.lst (xs.map e)] = some (e z, false) := by
  cases xs with
  | nil => cases h
  | cons x r =>
    obtain ⟨c, h⟩ := if_some (show (if minOk ((x :: r).map e) = true then some (r.foldl (fun a y => if PySem.W.dataLt (e y).toP (e a).toP = true then y else a) x) else none) = some z from h)
    cases h
    show (minL ((x :: r).map e)).map _ = _
    have : minL ((x :: r).map e) = some (e (r.foldl (fun a y => if PySem.W.dataLt (e y).toP (e a).toP = true then y else a) x)) := by
      show (if minOk ((x :: r).map e) = true then some ((r.map e).foldl (fun a y => if PySem.W.dataLt y.toP a.toP = true then y else a) (e x)) else none) = _
      rw [if_pos c, fold_mapE (fun a y => PySem.W.dataLt y.toP a.toP)]
    rw [this] <;> rfl
theorem v_max_l {xs : List α} {z : α} (h : maxM e xs = some z) : bltD .max [.lst (xs.map e)] = some (e z, false) := by
  cases xs with
  | nil => cases h
  | cons x r =>
    obtain ⟨c, h⟩ := if_some (show (if minOk ((x :: r).map e) = true then some (r.foldl (fun a y => if PySem.W.dataLt (e a).toP (e y).toP = true then y else a) x) else none) = some z from h)
    cases h
    show (maxL ((x :: r).map e)).map _ = _
    have : maxL ((x :: r).map e) = some (e (r.foldl (fun a y => if PySem.W.dataLt (e a).toP (e y).toP = true then y else a) x)) := by
      show (if minOk ((x :: r).map e) = true then some ((r.map e).foldl (fun a y => if PySem.W.dataLt a.toP y.toP = true then y else a) (e x)) else none) = _
      rw [if_pos c, fold_mapE (fun a y => PySem.W.dataLt a.toP y.toP)]
    rw [this] <;> rfl
theorem v_rev_t {xs : List α} : revD (.tup (xs.map e)) = some (.tup (xs.reverse.map e), false) := by
  show some (D.tup (xs.map e).reverse, false) = _
  rw [List.map_reverse]
theorem v_rev_l {xs : List α} : revD (.lst (xs.map e)) = some (.lst (xs.reverse.map e), true) := by
  show some (D.lst (xs.map e).reverse, true) = _
  rw [List.map_reverse]
theorem ev_rev {cl : Nat → List Bool → List D → CRes} {ρ ρ1 : Env} {a : E} {d d3 : D} {k : Kd} {b3 : Bool} (ha : evE cl a ρ = .ok (d, k) ρ1) (hc : cur ρ1 d k = d) (hv : revD d = some (d3, b3)) : evE cl (.uop .rev a) ρ = .ok (d3, kdOf b3) ρ1 := by
  rw [e_rev, ha, R.bind_ok']
  show (R.of (revD (cur ρ1 d k)) ρ1).bind _ = _
  rw [hc, hv] <;> rfl
end
end Mp
namespace Mp
open PySem
section
variable {α β σ : Type} {cl : Nat → List Bool → List D → CRes} {ρ ρ1 : Env} {vs : List Nat} {t it c e : E} {f : α → D} {u : β → D} {k : Kd}
theorem ev_LcP {base : Env} {xs : List α} {ys : List β} {g : α → Option β} (ρx : α → Env) (hp : (vs.all fun v => plainS (getS ρ v)) = true) (hi : evI cl it ρ = .ok (xs.map f) ρ1) (hb : wipe ρ1 vs = base) (h2 : ∀ x, wipe (ρx x) vs = base) (h3 : ∀ x, evG cl t (f x) .frz base = .ok () (ρx x))
    (h4 : ∀ x y, g x = some y → evE cl e (ρx x) = .ok (u y, k) (ρx x)) (h5 : ∀ ρ d, settle ρ d k = .ok d ρ) (hv : LcP xs g = some ys) (u1 : unwipe ρ1 ρ1 vs = ρ1) (u2 : ∀ x, unwipe ρ1 (ρx x) vs = ρ1) : evE cl (.lc vs t it .nil e) ρ = .ok (.lst (ys.map u), .fr) ρ1 :=
  ev_lcP ρx hp hi (if_some hv).1 hb h2 h3 h4 h5 (if_some hv).2 u1 u2
theorem ev_LcF {base : Env} {xs : List α} {ys : List β} {g : α → Option (Option β)} (ρx : α → Env) (hp : (vs.all fun v => plainS (getS ρ v)) = true) (hi : evI cl it ρ = .ok (xs.map f) ρ1) (hb : wipe ρ1 vs = base) (h2 : ∀ x, wipe (ρx x) vs = base) (h3 : ∀ x, evG cl t (f x) .frz base = .ok () (ρx x))
    (h4 : ∀ x o, g x = some o → evT cl c (ρx x) = .ok o.isSome (ρx x) ∧ ∀ y, o = some y → evE cl e (ρx x) = .ok (u y, k) (ρx x)) (h5 : ∀ ρ d, settle ρ d k = .ok d ρ) (hv : LcF xs g = some ys) (u1 : unwipe ρ1 ρ1 vs = ρ1) (u2 : ∀ x, unwipe ρ1 (ρx x) vs = ρ1) : evE cl (.lc vs t it c e) ρ = .ok (.lst (ys.map u), .fr) ρ1 :=
  ev_lcF ρx hp hi (if_some hv).1 hb h2 h3 h4 h5 (if_some hv).2 u1 u2
theorem lcF_if {b : Bool} {m : Option (Option β)} {o : Option β} (pt : evT cl c ρ = .ok b ρ) (h : (if b = true then m else some none) = some o) (hm : m = some o → ∃ y, o = some y ∧ evE cl e ρ = .ok (u y, k) ρ) : evT cl c ρ = .ok o.isSome ρ ∧ ∀ y, o = some y → evE cl e ρ = .ok (u y, k) ρ := by
  cases b with
  | false =>
    rw [if_neg (by decide)] at h
    have h := Option.some.inj h
    subst h
    exact ⟨pt, fun y hy => nomatch hy⟩
  | true =>
    rw [if_pos rfl] at h
    obtain ⟨y, rfl, hy⟩ := hm h
    exact ⟨pt, fun z hz => by rw [← Option.some.inj hz]; exact hy⟩
theorem ev_LcS {xs : List α} {s : σ} {r : List β × σ} {g : σ → α → Option (Option β × σ)} (base : σ → Env) (ρx : σ → α → Env) (ρ9 : σ → Env) (hp : (vs.all fun v => plainS (getS ρ v)) = true) (hi : evI cl it ρ = .ok (xs.map f) (ρ9 s)) (hb : ∀ s, wipe (ρ9 s) vs = base s) (h2 : ∀ s x, wipe (ρx s x) vs = base s) (h3 : ∀ s x, evG cl t (f x) .frz (base s) = .ok () (ρx s x))
    (h4 : ∀ s x o, g s x = some o → evT cl c (ρx s x) = .ok o.1.isSome (ρx (if o.1.isSome = true then s else o.2) x) ∧ ∀ y, o.1 = some y → evE cl e (ρx s x) = .ok (u y, k) (ρx o.2 x)) (h5 : ∀ ρ d, settle ρ d k = .ok d ρ) (hv : LcS xs s g = some r) (u1 : unwipe (ρ9 s) (ρ9 s) vs = ρ9 s) (u2 : ∀ s' x, unwipe (ρ9 s) (ρx s' x) vs = ρ9 s') : evE cl (.lc vs t it c e) ρ = .ok (.lst (r.1.map u), .fr) (ρ9 r.2) :=
  ev_lcS base ρx ρ9 hp hi (if_some hv).1 hb h2 h3 h4 h5 (if_some hv).2 u1 u2
end
theorem nn_ins {α : Type} (c : Nat) (ns : List Str) (q : α → List D) : NoN (fun p => D.ins c ns (q p)) := fun _ => by simp [D.toP, PyData.eqv, D.isNon]
end Mp
namespace Mp
open PySem
theorem szk {ds : List D} (n : Nat) (h : ds.length = n) (hn : Nat.ble n 1000 = true) : ds.length ≤ sizeLine := by
  have := Nat.le_of_ble_eq_true hn
  rw [h]
  exact sz_ok (by omega)
end Mp
namespace Mp
open PySem
theorem ws_fstK {cl : Nat → List Bool → List D → CRes} {N : Env → Prop} {Rt : D → Bool → Env → Prop} {ρ ρ1 ρ2 : Env} {e : E} {d : D} {k : Kd} {i cc : Nat} {x : Str} {ns : List Str} {fs : List D} (n : Nat) (hl : fs.length = n) (he : evE cl e ρ = .ok (d, k) ρ1) (hs : settle ρ1 d k = .ok d ρ2) (hi : getS ρ2 i = .io (.ins cc ns fs)) (h : ns[n]? = some x ∧ x ∉ ns.take n ∧ n < 900) (w : N (ρ2.set i (.io (.ins cc ns (fs ++ [d]))))) : WS cl (.fst i x e) ρ N Rt :=
  ws_fst he hs hi (by rw [hl]; exact h) w
end Mp
namespace Mp
theorem obE {α β : Type} {P : Prop} {o : Option α} {f : α → Option β} {r : β} (h : o.bind f = some r) (k : ∀ a, o = some a → f a = some r → P) : P := by
  obtain ⟨a, h1, h2⟩ := ob h
  exact k a h1 h2
end Mp
namespace Mp
open PySem
theorem cur_kd {ρ : Env} {d : D} {b : Bool} : cur ρ d (kdOf b) = d := by cases b <;> rfl
theorem settle_kd {ρ : Env} {d : D} {b : Bool} : settle ρ d (kdOf b) = .ok d ρ := by cases b <;> rfl
theorem ws_retk {cl : Nat → List Bool → List D → CRes} {N : Env → Prop} {Rt : D → Bool → Env → Prop} {ρ ρ1 : Env} {e : E} {d : D} {b : Bool} (he : evE cl e ρ = .ok (d, kdOf b) ρ1) (w : Rt d b ρ1) : WS cl (.ret e) ρ N Rt := by
  cases b
  · exact ws_retv he w
  · exact ws_reto he w
def PostV {τ : Type} (fl : List Bool) (q : τ → Bool → D × Bool × List D) (r : τ) (d : D) (b : Bool) (ρ : Env) : Prop := ∃ fr, (outsOf fl ρ).map (fun os => (d, b, os)) = some (q r fr)
theorem call_wsV {T : List Df} {n f : Nat} {fl : List Bool} {ds : List D} {df : Df} {r : Bool → D × Bool × List D} {ρ0 : Env} (h : T[f]? = some df) (h1 : df.ios = fl) (h2 : ds.length = df.ps.length) (h3 : df.ios.length = df.ps.length) (hi : Mp.init df ds = ρ0)
    (w : WS (callN T n) df.body ρ0 (fun ρ' => ∃ fr, (outsOf fl ρ').map (fun os => (D.non, false, os)) = some (r fr)) (fun d b ρ' => ∃ fr, (outsOf fl ρ').map (fun os => (d, b, os)) = some (r fr))) : ∃ fr, callN T (n + 1) f fl ds = some (r fr) := by
  rw [call_eq h h1 h2 h3, hi, h1]
  have w := w.w
  unfold WSd at w
  cases hs : evS (callN T n) df.body ρ0 with
  | nx ρ' => rw [hs] at w; exact w
  | rt d b ρ' => rw [hs] at w; exact w
  | no => rw [hs] at w; exact w.elim
end Mp

set_option maxRecDepth 100000
set_option maxHeartbeats 4000000
/-! Me: a law's own comparison, shown for what is the same. -/
namespace Mp
open PySem
def sim : Nat → D → Bool
  | _, .non => true
  | _, .bl _ => true
  | _, .int _ => true
  | _, .str _ => true
  | n + 1, .tup xs => decide (xs.length ≤ sizeLine) && xs.all (sim n)
  | _, _ => false
/-- .. lists, too -/
def simL : Nat → D → Bool
  | _, .non => true
  | _, .bl _ => true
  | _, .int _ => true
  | _, .str _ => true
  | n + 1, .tup xs => decide (xs.length ≤ sizeLine) && xs.all (simL n)
  | n + 1, .lst xs => decide (xs.length ≤ sizeLine) && xs.all (simL n)
  | _, _ => false
def smLc (f : Nat) : E := .lc [2] (.var 2) (.rng1 (.blt .len (.cons (.var 1) .nil))) .nil (.call f (.cons (.idx (.var 0) (.var 2)) (.cons (.idx (.var 1) (.var 2)) .nil)))
def smTail : S := (.seq (.ite (.tr (.cmp .is_ (.var 1) (.con .non))) (.seq (.ret (.cmp .is_ (.var 0) (.con .non))) .skip) .skip) (.seq (.ite (.tr (.isin 1 (.var 1))) (.seq (.ret (.and (.isin 1 (.var 0)) (.cmp .eq (.var 0) (.var 1)))) .skip) .skip) (.seq (.ite (.tr (.isin 0 (.var 1))) (.seq (.ret (.and (.isin 0 (.var 0)) (.and (.not (.tr (.isin 1 (.var 0)))) (.cmp .eq (.var 0) (.var 1))))) .skip) .skip) (.seq (.ite (.tr (.isin 2 (.var 1))) (.seq (.ret (.and (.isin 2 (.var 0)) (.cmp .eq (.var 0) (.var 1)))) .skip) .skip) (.seq (.ret (.cmp .eq (.var 0) (.var 1))) .skip)))))
def smA (f : Nat) : Df := ⟨"_law_same", ["told", "due"], ["told", "due", "k"], [false, false],
  (.seq (.ite (.tr (.isin 3 (.var 1))) (.seq (.ite (.or (.not (.tr (.isin 3 (.var 0)))) (.tr (.cmp .ne (.blt .len (.cons (.var 0) .nil)) (.blt .len (.cons (.var 1) .nil))))) (.seq (.ret (.con (.bl false))) .skip) .skip) (.seq (.ret (.blt .all (.cons (smLc f) .nil))) .skip)) .skip) smTail)⟩
def smLcB (f : Nat) : E := .lc [3] (.var 3) (.rng1 (.blt .len (.cons (.var 1) .nil))) .nil (.call f (.cons (.idx (.var 0) (.var 3)) (.cons (.idx (.var 1) (.var 3)) .nil)))
def smB (nm : Str) (f : Nat) : Df := ⟨"_law_same", ["told", "due"], ["told", "due", nm, "k"], [false, false],
  (.seq (.ite (.or (.tr (.isin 3 (.var 1))) (.tr (.isin 4 (.var 1)))) (.seq (.asg (.var 2) (.ife (.tr (.isin 3 (.var 1))) (.isin 3 (.var 0)) (.isin 4 (.var 0)))) (.seq (.ret (.and (.var 2) (.and (.cmp .eq (.blt .len (.cons (.var 0) .nil)) (.blt .len (.cons (.var 1) .nil))) (.blt .all (.cons (smLcB f) .nil))))) .skip)) .skip) smTail)⟩
theorem lcP_all {α β : Type} {g : α → Option β} {y : β} : ∀ xs : List α, (∀ x ∈ xs, g x = some y) → lcP xs g = some (xs.map fun _ => y)
  | [], _ => rfl
  | x :: r, h => by
    show ((g x).bind fun y => (lcP r g).bind fun ys => some (y :: ys)) = _
    rw [h x List.mem_cons_self, lcP_all r fun z hz => h z (List.mem_cons_of_mem _ hz)] <;> rfl
section
variable {T : List Df} {f n : Nat}
theorem sm_lc {cl : Nat → List Bool → List D → CRes} {a b : D} {xs : List D} (hx : ∀ k : Int, idxD a (.int k) = idxD (.tup xs) (.int k)) (hy : ∀ k : Int, idxD b (.int k) = idxD (.tup xs) (.int k)) (hb : bltD .len [b] = some (.int (xs.length : Nat), false)) (hl : xs.length ≤ sizeLine) (h : ∀ x ∈ xs, cl f [false, false] [x, x] = some (.bl true, false, [])) :
    ∃ bs : List Bool, evE cl (smLc f) [.val a, .val b, .un] = .ok (.lst (bs.map D.bl), .fr) [.val a, .val b, .un] ∧ bs.all id = true := by
  let g : Int → Option Bool := fun k => if 0 ≤ k ∧ k < (xs.length : Int) then some true else none
  have hm : ∀ k ∈ rngT 0 (xs.length : Nat), g k = some true := fun k hk => by
    unfold rngT at hk
    obtain ⟨i, hi, rfl⟩ := List.mem_map.mp hk
    have := List.mem_range.mp hi
    exact if_pos (by omega)
  have e := lcP_all _ hm
  have hs : sizeLine = 16777216 := sizeLine_eq
  refine ⟨(rngT 0 (xs.length : Nat)).map fun _ => true, ?_, List.all_eq_true.mpr fun c hc => ?_⟩
  · have hi : evI cl (.rng1 (.blt .len (.cons (.var 1) .nil))) [.val a, .val b, .un] = .ok ((rngT 0 (xs.length : Nat)).map D.int) [.val a, .val b, .un] := by
      rw [i_rng1]
      have := ev_blt1 (cl := cl) (o := .len) (a := .var 1) (ρ := [.val a, .val b, .un]) (fr := false) (ev_val rfl) rfl hb
      rw [this, R.bind_ok']
      show (if inR ((xs.length : Nat) : Int) then R.ok (rngD 0 _) _ else R.no) = _
      rw [if_pos ⟨by omega, by omega⟩, rng_map]
    refine ev_lcP (f := D.int) (u := D.bl) (k := .frz) (base := [.val a, .val b, .un]) (fun k => [.val a, .val b, .val (.int k)]) rfl hi (by unfold rngT; rw [List.length_map, List.length_range]; omega) rfl (fun _ => rfl) (fun k => eg_var rfl (Nat.le_of_ble_eq_true rfl)) (fun k y hk => ?_) (fun _ _ => rfl) e rfl (fun _ => rfl)
    obtain ⟨⟨k0, k1⟩, hy'⟩ := if_some (show (if 0 ≤ k ∧ k < (xs.length : Int) then some true else none) = some y from hk)
    cases hy'
    have hlt : k.toNat < xs.length := by omega
    have ix : idxD (.tup xs) (.int k) = some xs[k.toNat] := by
      show (Mp.ixN xs.length k).bind _ = _
      have : Mp.ixN xs.length k = some k.toNat := by
        unfold Mp.ixN
        rw [if_pos k0, if_pos (by omega)]
      rw [this]
      exact List.getElem?_eq_getElem hlt
    have c1 := ev_idx (cl := cl) (a := .var 0) (i := .var 2) (ρ := [.val a, .val b, .val (.int k)]) (ev_val rfl) (ev_val rfl) rfl ((hx k).trans ix)
    have c2 := ev_idx (cl := cl) (a := .var 1) (i := .var 2) (ρ := [.val a, .val b, .val (.int k)]) (ev_val rfl) (ev_val rfl) rfl ((hy k).trans ix)
    exact ev_call (fr := false) (d := .bl true) (ea_cons c1 rfl (ea_cons c2 rfl ea_nil)) rfl List.nodup_nil rfl (h _ (List.getElem_mem hlt)) rfl
  · obtain ⟨_, _, rfl⟩ := List.mem_map.mp hc
    rfl
theorem smB_lc {cl : Nat → List Bool → List D → CRes} {a b : D} {xs : List D} (hx : ∀ k : Int, idxD a (.int k) = idxD (.tup xs) (.int k)) (hy : ∀ k : Int, idxD b (.int k) = idxD (.tup xs) (.int k)) (hb : bltD .len [b] = some (.int (xs.length : Nat), false)) (hl : xs.length ≤ sizeLine) (h : ∀ x ∈ xs, cl f [false, false] [x, x] = some (.bl true, false, [])) :
    ∃ bs : List Bool, evE cl (smLcB f) [.val a, .val b, .val (.bl true), .un] = .ok (.lst (bs.map D.bl), .fr) [.val a, .val b, .val (.bl true), .un] ∧ bs.all id = true := by
  let g : Int → Option Bool := fun k => if 0 ≤ k ∧ k < (xs.length : Int) then some true else none
  have hm : ∀ k ∈ rngT 0 (xs.length : Nat), g k = some true := fun k hk => by
    unfold rngT at hk
    obtain ⟨i, hi, rfl⟩ := List.mem_map.mp hk
    have := List.mem_range.mp hi
    exact if_pos (by omega)
  have e := lcP_all _ hm
  have hs : sizeLine = 16777216 := sizeLine_eq
  refine ⟨(rngT 0 (xs.length : Nat)).map fun _ => true, ?_, List.all_eq_true.mpr fun c hc => ?_⟩
  · have hi : evI cl (.rng1 (.blt .len (.cons (.var 1) .nil))) [.val a, .val b, .val (.bl true), .un] = .ok ((rngT 0 (xs.length : Nat)).map D.int) [.val a, .val b, .val (.bl true), .un] := by
      rw [i_rng1]
      have := ev_blt1 (cl := cl) (o := .len) (a := .var 1) (ρ := [.val a, .val b, .val (.bl true), .un]) (fr := false) (ev_val rfl) rfl hb
      rw [this, R.bind_ok']
      show (if inR ((xs.length : Nat) : Int) then R.ok (rngD 0 _) _ else R.no) = _
      rw [if_pos ⟨by omega, by omega⟩, rng_map]
    refine ev_lcP (f := D.int) (u := D.bl) (k := .frz) (base := [.val a, .val b, .val (.bl true), .un]) (fun k => [.val a, .val b, .val (.bl true), .val (.int k)]) rfl hi (by unfold rngT; rw [List.length_map, List.length_range]; omega) rfl (fun _ => rfl) (fun k => eg_var rfl (Nat.le_of_ble_eq_true rfl)) (fun k y hk => ?_) (fun _ _ => rfl) e rfl (fun _ => rfl)
    obtain ⟨⟨k0, k1⟩, hy'⟩ := if_some (show (if 0 ≤ k ∧ k < (xs.length : Int) then some true else none) = some y from hk)
    cases hy'
    have hlt : k.toNat < xs.length := by omega
    have ix : idxD (.tup xs) (.int k) = some xs[k.toNat] := by
      show (Mp.ixN xs.length k).bind _ = _
      have : Mp.ixN xs.length k = some k.toNat := by
        unfold Mp.ixN
        rw [if_pos k0, if_pos (by omega)]
      rw [this]
      exact List.getElem?_eq_getElem hlt
    have c1 := ev_idx (cl := cl) (a := .var 0) (i := .var 3) (ρ := [.val a, .val b, .val (.bl true), .val (.int k)]) (ev_val rfl) (ev_val rfl) rfl ((hx k).trans ix)
    have c2 := ev_idx (cl := cl) (a := .var 1) (i := .var 3) (ρ := [.val a, .val b, .val (.bl true), .val (.int k)]) (ev_val rfl) (ev_val rfl) rfl ((hy k).trans ix)
    exact ev_call (fr := false) (d := .bl true) (ea_cons c1 rfl (ea_cons c2 rfl ea_nil)) rfl List.nodup_nil rfl (h _ (List.getElem_mem hlt)) rfl
  · obtain ⟨_, _, rfl⟩ := List.mem_map.mp hc
    rfl
theorem str_eqv (x : Str) : PyData.eqv (.str x) (.str x) = true := by simp [PyData.eqv]
theorem smA_ok (hT : T[f]? = some (smA f)) : ∀ (k n : Nat) (d : D), sim k d = true → callN T (n + k + 1) f [false, false] [d, d] = some (.bl true, false, []) := by
  intro k
  have leaf : ∀ (m : Nat) (d : D), (match d with | .non => true | .bl _ => true | .int _ => true | .str _ => true | _ => false) = true → callN T (m + 1) f [false, false] [d, d] = some (.bl true, false, []) := by
    intro m d hd
    refine call_ws (T := T) (n := m) (f := f) (df := smA f) (ρ0 := [.val d, .val d, .un]) hT rfl rfl rfl rfl ?_
    cases d with
    | non => exact ws_seq (ws_iteF (et_bl (ev_isin (ev_val rfl) rfl)) (ws_skip (ws_seq (ws_iteT (et_bl (ev_cmp (ev_val rfl) ev_con rfl rfl)) (ws_seq (ws_retv (ev_cmp (ev_val rfl) ev_con rfl rfl) rfl))))))
    | bl b => exact ws_seq (ws_iteF (et_bl (ev_isin (ev_val rfl) rfl)) (ws_skip (ws_seq (ws_iteF (et_bl (ev_cmp (ev_val rfl) ev_con rfl rfl)) (ws_skip (ws_seq (ws_iteT (et_bl (ev_isin (ev_val rfl) rfl)) (ws_seq (ws_retv (ev_andt (v := true) (w := true) (ev_isin (ev_val rfl) rfl) (ev_cmp (ev_val rfl) (ev_val rfl) rfl (by cases b <;> rfl))) rfl)))))))))
    | int i => exact ws_seq (ws_iteF (et_bl (ev_isin (ev_val rfl) rfl)) (ws_skip (ws_seq (ws_iteF (et_bl (ev_cmp (ev_val rfl) ev_con rfl rfl)) (ws_skip (ws_seq (ws_iteF (et_bl (ev_isin (ev_val rfl) rfl)) (ws_skip (ws_seq (ws_iteT (et_bl (ev_isin (ev_val rfl) rfl)) (ws_seq (ws_retv (ev_andt (v := true) (w := true) (ev_isin (ev_val rfl) rfl) (ev_andt (v := true) (w := true) (ev_not (v := false) (et_bl (ev_isin (ev_val rfl) rfl))) (ev_cmp (ev_val rfl) (ev_val rfl) rfl (by rw [v_eq eqc_int (by decide)]; simp)))) rfl))))))))))))
    | str x => exact ws_seq (ws_iteF (et_bl (ev_isin (ev_val rfl) rfl)) (ws_skip (ws_seq (ws_iteF (et_bl (ev_cmp (ev_val rfl) ev_con rfl rfl)) (ws_skip (ws_seq (ws_iteF (et_bl (ev_isin (ev_val rfl) rfl)) (ws_skip (ws_seq (ws_iteF (et_bl (ev_isin (ev_val rfl) rfl)) (ws_skip (ws_seq (ws_iteT (et_bl (ev_isin (ev_val rfl) rfl)) (ws_seq (ws_retv (ev_andt (v := true) (w := true) (ev_isin (ev_val rfl) rfl) (ev_cmp (ev_val rfl) (ev_val rfl) rfl (by rw [v_eq eqc_str (by decide)]; simp))) rfl)))))))))))))))
    | _ => cases hd
  induction k with
  | zero =>
    intro n d hd
    refine leaf n d ?_
    cases d <;> first | rfl | cases hd
  | succ k ih =>
    intro n d hd
    cases d with
    | tup xs =>
      obtain ⟨h1, h2⟩ := Bool.and_eq_true_iff.mp (show (decide (xs.length ≤ sizeLine) && xs.all (sim k)) = true from hd)
      have hl := of_decide_eq_true h1
      refine call_ws (T := T) (n := n + (k + 1)) (f := f) (df := smA f) (ρ0 := [.val (.tup xs), .val (.tup xs), .un]) hT rfl rfl rfl rfl ?_
      obtain ⟨bs, e1, e2⟩ := sm_lc (cl := callN T (n + (k + 1))) (f := f) (a := .tup xs) (b := .tup xs) (fun _ => rfl) (fun _ => rfl) rfl hl fun x hx => ih n x (List.all_eq_true.mp h2 x hx)
      refine ws_seq (ws_iteT (et_bl (ev_isin (ev_val rfl) rfl)) (ws_seq (ws_iteF (ρ1 := [.val (.tup xs), .val (.tup xs), .un]) ?_ (ws_skip ?_))))
      · refine et_or (v := false) (w := false) (et_not (v := true) (et_bl (ev_isin (ev_val rfl) rfl))) (fun _ => et_bl (ev_cmp (ev_blt1 (fr := false) (ev_val rfl) rfl rfl) (ev_blt1 (fr := false) (ev_val rfl) rfl rfl) rfl ?_)) (fun h => nomatch h)
        rw [v_ne eqc_int (by decide)]
        simp
      · refine ws_seq (ws_retv (d := .bl true) (ev_blt1 (fr := false) e1 rfl ?_) rfl)
        rw [v_all, e2]
    | _ => exact leaf (n + (k + 1)) _ (by first | rfl | cases hd)
theorem smB_ok {nm : Str} (hT : T[f]? = some (smB nm f)) : ∀ (k n : Nat) (d : D), simL k d = true → callN T (n + k + 1) f [false, false] [d, d] = some (.bl true, false, []) := by
  intro k
  have leaf : ∀ (m : Nat) (d : D), (match d with | .non => true | .bl _ => true | .int _ => true | .str _ => true | _ => false) = true → callN T (m + 1) f [false, false] [d, d] = some (.bl true, false, []) := by
    intro m d hd
    refine call_ws (T := T) (n := m) (f := f) (df := smB nm f) (ρ0 := [.val d, .val d, .un, .un]) hT rfl rfl rfl rfl ?_
    cases d with
    | non => exact ws_seq (ws_iteF (et_ort (v := false) (w := false) (et_bl (ev_isin (ev_val rfl) rfl)) (et_bl (ev_isin (ev_val rfl) rfl))) (ws_skip (ws_seq (ws_iteT (et_bl (ev_cmp (ev_val rfl) ev_con rfl rfl)) (ws_seq (ws_retv (ev_cmp (ev_val rfl) ev_con rfl rfl) rfl))))))
    | bl b => exact ws_seq (ws_iteF (et_ort (v := false) (w := false) (et_bl (ev_isin (ev_val rfl) rfl)) (et_bl (ev_isin (ev_val rfl) rfl))) (ws_skip (ws_seq (ws_iteF (et_bl (ev_cmp (ev_val rfl) ev_con rfl rfl)) (ws_skip (ws_seq (ws_iteT (et_bl (ev_isin (ev_val rfl) rfl)) (ws_seq (ws_retv (ev_andt (v := true) (w := true) (ev_isin (ev_val rfl) rfl) (ev_cmp (ev_val rfl) (ev_val rfl) rfl (by cases b <;> rfl))) rfl)))))))))
    | int i => exact ws_seq (ws_iteF (et_ort (v := false) (w := false) (et_bl (ev_isin (ev_val rfl) rfl)) (et_bl (ev_isin (ev_val rfl) rfl))) (ws_skip (ws_seq (ws_iteF (et_bl (ev_cmp (ev_val rfl) ev_con rfl rfl)) (ws_skip (ws_seq (ws_iteF (et_bl (ev_isin (ev_val rfl) rfl)) (ws_skip (ws_seq (ws_iteT (et_bl (ev_isin (ev_val rfl) rfl)) (ws_seq (ws_retv (ev_andt (v := true) (w := true) (ev_isin (ev_val rfl) rfl) (ev_andt (v := true) (w := true) (ev_not (v := false) (et_bl (ev_isin (ev_val rfl) rfl))) (ev_cmp (ev_val rfl) (ev_val rfl) rfl (by rw [v_eq eqc_int (by decide)]; simp)))) rfl))))))))))))
    | str x => exact ws_seq (ws_iteF (et_ort (v := false) (w := false) (et_bl (ev_isin (ev_val rfl) rfl)) (et_bl (ev_isin (ev_val rfl) rfl))) (ws_skip (ws_seq (ws_iteF (et_bl (ev_cmp (ev_val rfl) ev_con rfl rfl)) (ws_skip (ws_seq (ws_iteF (et_bl (ev_isin (ev_val rfl) rfl)) (ws_skip (ws_seq (ws_iteF (et_bl (ev_isin (ev_val rfl) rfl)) (ws_skip (ws_seq (ws_iteT (et_bl (ev_isin (ev_val rfl) rfl)) (ws_seq (ws_retv (ev_andt (v := true) (w := true) (ev_isin (ev_val rfl) rfl) (ev_cmp (ev_val rfl) (ev_val rfl) rfl (by rw [v_eq eqc_str (by decide)]; simp))) rfl)))))))))))))))
    | _ => cases hd
  induction k with
  | zero =>
    intro n d hd
    refine leaf n d ?_
    cases d <;> first | rfl | cases hd
  | succ k ih =>
    intro n d hd
    cases d with
    | tup xs =>
      obtain ⟨h1, h2⟩ := Bool.and_eq_true_iff.mp (show (decide (xs.length ≤ sizeLine) && xs.all (simL k)) = true from hd)
      have hl := of_decide_eq_true h1
      refine call_ws (T := T) (n := n + (k + 1)) (f := f) (df := smB nm f) (ρ0 := [.val (.tup xs), .val (.tup xs), .un, .un]) hT rfl rfl rfl rfl ?_
      obtain ⟨bs, e1, e2⟩ := smB_lc (cl := callN T (n + (k + 1))) (f := f) (a := .tup xs) (b := .tup xs) (fun _ => rfl) (fun _ => rfl) rfl hl fun x hx => ih n x (List.all_eq_true.mp h2 x hx)
      refine ws_seq (ws_iteT (et_or (v := true) (w := true) (et_bl (ev_isin (ev_val rfl) rfl)) (fun h => nomatch h) (fun _ => rfl)) (ws_seq (ws_asgv (d := .bl true) (ρ1 := [.val (.tup xs), .val (.tup xs), .un, .un]) (ev_ife (v := true) (et_bl (ev_isin (ev_val rfl) rfl)) (fun h => by first | exact ev_isin (ev_val rfl) rfl | cases h) (fun h => by first | exact ev_isin (ev_val rfl) rfl | cases h)) rfl (Nat.le_of_ble_eq_true rfl) ?_)))
      show WS _ _ [.val (.tup xs), .val (.tup xs), .val (.bl true), .un] _ _
      refine ws_seq (ws_retv (d := .bl true) (ev_andt (v := true) (w := true) (ev_val rfl) (ev_andt (v := true) (w := true) (ev_cmp (ev_blt1 (fr := false) (ev_val rfl) rfl rfl) (ev_blt1 (fr := false) (ev_val rfl) rfl rfl) rfl ?_) (ev_blt1 (fr := false) e1 rfl ?_))) rfl)
      · rw [v_eq eqc_int (by decide)]
        simp
      · rw [v_all, e2]
    | lst xs =>
      obtain ⟨h1, h2⟩ := Bool.and_eq_true_iff.mp (show (decide (xs.length ≤ sizeLine) && xs.all (simL k)) = true from hd)
      have hl := of_decide_eq_true h1
      refine call_ws (T := T) (n := n + (k + 1)) (f := f) (df := smB nm f) (ρ0 := [.val (.lst xs), .val (.lst xs), .un, .un]) hT rfl rfl rfl rfl ?_
      obtain ⟨bs, e1, e2⟩ := smB_lc (cl := callN T (n + (k + 1))) (f := f) (a := .lst xs) (b := .lst xs) (fun _ => rfl) (fun _ => rfl) rfl hl fun x hx => ih n x (List.all_eq_true.mp h2 x hx)
      refine ws_seq (ws_iteT (et_or (v := false) (w := true) (et_bl (ev_isin (ev_val rfl) rfl)) (fun _ => et_bl (ev_isin (ev_val rfl) rfl)) (fun h => nomatch h)) (ws_seq (ws_asgv (d := .bl true) (ρ1 := [.val (.lst xs), .val (.lst xs), .un, .un]) (ev_ife (v := false) (et_bl (ev_isin (ev_val rfl) rfl)) (fun h => by first | exact ev_isin (ev_val rfl) rfl | cases h) (fun h => by first | exact ev_isin (ev_val rfl) rfl | cases h)) rfl (Nat.le_of_ble_eq_true rfl) ?_)))
      show WS _ _ [.val (.lst xs), .val (.lst xs), .val (.bl true), .un] _ _
      refine ws_seq (ws_retv (d := .bl true) (ev_andt (v := true) (w := true) (ev_val rfl) (ev_andt (v := true) (w := true) (ev_cmp (ev_blt1 (fr := false) (ev_val rfl) rfl rfl) (ev_blt1 (fr := false) (ev_val rfl) rfl rfl) rfl ?_) (ev_blt1 (fr := false) e1 rfl ?_))) rfl)
      · rw [v_eq eqc_int (by decide)]
        simp
      · rw [v_all, e2]
    | _ => exact leaf (n + (k + 1)) _ (by first | rfl | cases hd)
end
mutual
def deq : D → D → Bool
  | .non, .non => true
  | .bl a, .bl b => a == b
  | .int a, .int b => decide (a = b)
  | .str a, .str b => decide (a = b)
  | .tup a, .tup b => deqs a b
  | .lst a, .lst b => deqs a b
  | _, _ => false
def deqs : List D → List D → Bool
  | [], [] => true
  | a :: r, b :: s => deq a b && deqs r s
  | _, _ => false
end
mutual
theorem deq_ok : ∀ {a b : D}, deq a b = true → a = b
  | .non, .non, _ => rfl
  | .bl a, .bl b, h => by
    have h' : (a == b) = true := h
    rw [eq_of_beq h']
  | .int a, .int b, h => congrArg D.int (of_decide_eq_true h)
  | .str a, .str b, h => congrArg D.str (of_decide_eq_true h)
  | .tup a, .tup b, h => congrArg D.tup (deqs_ok h)
  | .lst a, .lst b, h => congrArg D.lst (deqs_ok h)
theorem deqs_ok : ∀ {a b : List D}, deqs a b = true → a = b
  | [], [], _ => rfl
  | a :: r, b :: s, h => by
    obtain ⟨h1, h2⟩ := Bool.and_eq_true_iff.mp (show (deq a b && deqs r s) = true from h)
    rw [deq_ok h1, deqs_ok h2]
end
/-- told as same -/
def F_same (told due : D) : Option Bool := if deq told due = true ∧ sim 16 due = true then some true else none
theorem F_sameA {T : List Df} {f : Nat} (hT : T[f]? = some (smA f)) (n : Nat) (told due : D) (r : Bool) (h : F_same told due = some r) : callN T (n + 20) f [false, false] [told, due] = some (.bl r, false, []) := by
  obtain ⟨⟨h1, h2⟩, h3⟩ := if_some h
  have e := deq_ok h1
  subst e
  cases h3
  exact smA_ok hT 16 (n + 3) _ h2
mutual
theorem eqb_self : ∀ (n : Nat) (d : D), sim n d = true → deq d d = true
  | _, .non, _ => rfl
  | _, .bl b, _ => by cases b <;> rfl
  | _, .int i, _ => decide_eq_true rfl
  | _, .str x, _ => decide_eq_true rfl
  | n + 1, .tup xs, h => by
    obtain ⟨_, h2⟩ := Bool.and_eq_true_iff.mp (show (decide (xs.length ≤ sizeLine) && xs.all (sim n)) = true from h)
    exact eqbs_self n xs h2
  | 0, .tup _, h => nomatch h
  | n, .lst _, h => by cases n <;> cases h
  | n, .dct _, h => by cases n <;> cases h
  | n, .set _, h => by cases n <;> cases h
  | n, .rng _ _, h => by cases n <;> cases h
  | n, .ins _ _ _, h => by cases n <;> cases h
  | n, .fn _, h => by cases n <;> cases h
  | n, .cls _, h => by cases n <;> cases h
  | n, .scr _, h => by cases n <;> cases h
theorem eqbs_self : ∀ (n : Nat) (xs : List D), xs.all (sim n) = true → deqs xs xs = true
  | _, [], _ => rfl
  | n, x :: xs, h => by
    obtain ⟨h1, h2⟩ := Bool.and_eq_true_iff.mp (show (sim n x && xs.all (sim n)) = true from h)
    show (deq x x && deqs xs xs) = true
    rw [eqb_self n x h1, eqbs_self n xs h2] <;> rfl
end
theorem same_s {d : D} (h : sim 16 d = true) : F_same d d = some true := if_pos ⟨eqb_self 16 d h, h⟩
theorem sim_up : ∀ (n : Nat) (d : D), sim n d = true → sim (n + 1) d = true
  | _, .non, _ => rfl
  | _, .bl b, _ => rfl
  | _, .int i, _ => rfl
  | _, .str x, _ => rfl
  | n + 1, .tup xs, h => by
    obtain ⟨h1, h2⟩ := Bool.and_eq_true_iff.mp (show (decide (xs.length ≤ sizeLine) && xs.all (sim n)) = true from h)
    show (decide (xs.length ≤ sizeLine) && xs.all (sim (n + 1))) = true
    rw [h1, Bool.true_and]
    exact List.all_eq_true.mpr fun x hx => sim_up n x (List.all_eq_true.mp h2 x hx)
  | 0, .tup _, h => nomatch h
  | n, .lst _, h => by cases n <;> cases h
  | n, .dct _, h => by cases n <;> cases h
  | n, .set _, h => by cases n <;> cases h
  | n, .rng _ _, h => by cases n <;> cases h
  | n, .ins _ _ _, h => by cases n <;> cases h
  | n, .fn _, h => by cases n <;> cases h
  | n, .cls _, h => by cases n <;> cases h
  | n, .scr _, h => by cases n <;> cases h
theorem sim_ups {n m : Nat} {d : D} (h : sim n d = true) (hm : n ≤ m) : sim m d = true := by
  induction hm with
  | refl => exact h
  | step _ ih => exact sim_up _ _ ih
theorem sim_t {n : Nat} {xs : List D} (hl : xs.length ≤ sizeLine) (h : ∀ x ∈ xs, sim n x = true) : sim (n + 1) (.tup xs) = true := by
  show (decide (xs.length ≤ sizeLine) && xs.all (sim n)) = true
  rw [decide_eq_true hl, Bool.true_and]
  exact List.all_eq_true.mpr h
theorem sim_tm {α : Type} {e : α → D} {n : Nat} {xs : List α} (hl : xs.length ≤ sizeLine) (h : ∀ x ∈ xs, sim n (e x) = true) : sim (n + 1) (.tup (xs.map e)) = true :=
  sim_t (by rw [List.length_map]; exact hl) fun d hd => by
    obtain ⟨x, hx, rfl⟩ := List.mem_map.mp hd
    exact h x hx
/-! .. lists, too -/
mutual
theorem eqb_selfL : ∀ (n : Nat) (d : D), simL n d = true → deq d d = true
  | _, .non, _ => rfl
  | _, .bl b, _ => by cases b <;> rfl
  | _, .int i, _ => decide_eq_true rfl
  | _, .str x, _ => decide_eq_true rfl
  | n + 1, .tup xs, h => by
    obtain ⟨_, h2⟩ := Bool.and_eq_true_iff.mp (show (decide (xs.length ≤ sizeLine) && xs.all (simL n)) = true from h)
    exact eqbs_selfL n xs h2
  | 0, .tup _, h => nomatch h
  | n + 1, .lst xs, h => by
    obtain ⟨_, h2⟩ := Bool.and_eq_true_iff.mp (show (decide (xs.length ≤ sizeLine) && xs.all (simL n)) = true from h)
    exact eqbs_selfL n xs h2
  | 0, .lst _, h => nomatch h
  | n, .dct _, h => by cases n <;> cases h
  | n, .set _, h => by cases n <;> cases h
  | n, .rng _ _, h => by cases n <;> cases h
  | n, .ins _ _ _, h => by cases n <;> cases h
  | n, .fn _, h => by cases n <;> cases h
  | n, .cls _, h => by cases n <;> cases h
  | n, .scr _, h => by cases n <;> cases h
theorem eqbs_selfL : ∀ (n : Nat) (xs : List D), xs.all (simL n) = true → deqs xs xs = true
  | _, [], _ => rfl
  | n, x :: xs, h => by
    obtain ⟨h1, h2⟩ := Bool.and_eq_true_iff.mp (show (simL n x && xs.all (simL n)) = true from h)
    show (deq x x && deqs xs xs) = true
    rw [eqb_selfL n x h1, eqbs_selfL n xs h2] <;> rfl
end
def F_sameL (told due : D) : Option Bool := if deq told due = true ∧ simL 16 due = true then some true else none
theorem F_sameB {T : List Df} {f : Nat} {nm : Str} (hT : T[f]? = some (smB nm f)) (n : Nat) (told due : D) (r : Bool) (h : F_sameL told due = some r) : callN T (n + 20) f [false, false] [told, due] = some (.bl r, false, []) := by
  obtain ⟨⟨h1, h2⟩, h3⟩ := if_some h
  have e := deq_ok h1
  subst e
  cases h3
  exact smB_ok hT 16 (n + 3) _ h2
theorem sameL_s {d : D} (h : simL 16 d = true) : F_sameL d d = some true := if_pos ⟨eqb_selfL 16 d h, h⟩
theorem simL_t {n : Nat} {xs : List D} (hl : xs.length ≤ sizeLine) (h : ∀ x ∈ xs, simL n x = true) : simL (n + 1) (.tup xs) = true := by
  show (decide (xs.length ≤ sizeLine) && xs.all (simL n)) = true
  rw [decide_eq_true hl, Bool.true_and]
  exact List.all_eq_true.mpr h
theorem simL_l {n : Nat} {xs : List D} (hl : xs.length ≤ sizeLine) (h : ∀ x ∈ xs, simL n x = true) : simL (n + 1) (.lst xs) = true := by
  show (decide (xs.length ≤ sizeLine) && xs.all (simL n)) = true
  rw [decide_eq_true hl, Bool.true_and]
  exact List.all_eq_true.mpr h
end Mp

namespace K67
open PySem Mp
theorem F_sameL_ok (n : Nat) (told due : D) (r : Bool) (h : F_sameL told due = some r) : callN T (n + 20) 23 [false, false] [told, due] = some (.bl r, false, []) := F_sameB (f := 23) rfl n told due r h
abbrev en_TI (x : (List Int)) : D := (D.tup (List.map D.int x))
abbrev en_OI (x : (Option Int)) : D := (eO D.int x)
abbrev en_P2II (x : (Int × Int)) : D := (D.tup [(D.int x.1), (D.int x.2)])
def F__law_less (chest_ : (List Int)) (many_ : Int) : Option (Int × (List Int)) :=
  (ixM chest_ 0).bind fun t1 => if (decide (0 < t1)) = true then ((ixM chest_ 0).bind fun t2 => (divmodM t2 many_).bind fun t3 => (setM chest_ 0 t3.1).bind fun t4 => some (t3.2, t4)) else ((ixM chest_ 2).bind fun t5 => (setM chest_ 2 (t5 + 1)).bind fun t6 => (ixM t6 1).bind fun t7 => (mulM t7 51341).bind fun t8 => (ixM t6 2).bind fun t9 => (mulM 15017 t9).bind fun t10 => (modM ((t8 + t10) + 43) 2147483587).bind fun t11 => (modM t11 4507).bind fun t12 => (mulM t11 (t12 + 23003)).bind fun t13 => (ixM t6 2).bind fun t14 => (mulM 13 t14).bind fun t15 => (modM (t13 + t15) 2147483587).bind fun t16 => (setM t6 1 t16).bind fun t17 => (ixM t17 1).bind fun t18 => (fdivM t18 541).bind fun t19 => (modM t19 many_).bind fun t20 => some (t20, t17))
theorem F__law_less_ok (n : Nat) (chest_ : (List Int)) (many_ : Int) (r : (Int × (List Int))) (h : F__law_less chest_ many_ = some r) : callN T (n + 1) 21 [true, false] [(D.lst (List.map D.int chest_)), (D.int many_)] = some ((D.int r.1), false, [(D.lst (List.map D.int r.2))]) := by
  unfold F__law_less at h
  refine call_ws (T := T) (n := n + 0) (f := 21) (df := d21) (ρ0 := [.io (D.lst (List.map D.int chest_)), .val (D.int many_), .un, .un]) rfl rfl rfl rfl rfl ?_
  show WS _ _ [.io (D.lst (List.map D.int chest_)), .val (D.int many_), .un, .un] _ _
  refine obE h (fun t1 e_t1 h => ?_)
  refine ws_seq (ws_ite (et_bl (ev_cmp (ev_idx (ev_io rfl) ev_con rfl (v_ix_l (e := D.int) e_t1)) ev_con rfl v_gt)) (fun hv => ?_) (fun hv => ?_))
  · rw [ifT hv] at h
    refine obE h (fun t2 e_t2 h => ?_)
    refine obE h (fun t3 e_t3 h => ?_)
    refine obE h (fun t4 e_t4 h => ?_)
    refine ws_seq (ws_asg (d := (D.tup [(D.int t3.1), (D.int t3.2)])) (k2 := .frz) (ρ2 := [.io (D.lst (List.map D.int chest_)), .val (D.int many_), .un, .un]) (ρ3 := [.io (D.lst (List.map D.int t4)), .val (D.int many_), .val (D.int t3.2), .un]) (ev_blt2 (fr := false) (ev_idx (ev_io rfl) ev_con rfl (v_ix_l (e := D.int) e_t2)) (ev_val rfl) rfl rfl (v_divmod e_t3)) rfl (eg_tup (egs_cons (eg_idx rfl ev_con (v_store_i (f := D.int) (x := t3.1) rfl e_t4)) (egs_cons (eg_var rfl (Nat.le_of_ble_eq_true rfl)) egs_nil))) ?_)
    show WS _ _ [.io (D.lst (List.map D.int t4)), .val (D.int many_), .val (D.int t3.2), .un] _ _
    have h := Option.some.inj h
    subst h
    exact ws_seq (ws_retv (d := (D.int t3.2)) (ρ1 := [.io (D.lst (List.map D.int t4)), .val (D.int many_), .val (D.int t3.2), .un]) (ev_val rfl) rfl)
  · rw [ifF hv] at h
    refine ws_skip ?_
    refine obE h (fun t5 e_t5 h => ?_)
    refine obE h (fun t6 e_t6 h => ?_)
    refine ws_seq (ws_asg (d := (D.int (t5 + 1))) (k2 := .frz) (ρ2 := [.io (D.lst (List.map D.int chest_)), .val (D.int many_), .un, .un]) (ρ3 := [.io (D.lst (List.map D.int t6)), .val (D.int many_), .un, .un]) (ev_bin (b3 := false) (ev_idx (ev_io rfl) ev_con rfl (v_ix_l (e := D.int) e_t5)) ev_con rfl v_add) rfl (eg_idx rfl ev_con (v_store_i (f := D.int) (x := (t5 + 1)) rfl e_t6)) ?_)
    show WS _ _ [.io (D.lst (List.map D.int t6)), .val (D.int many_), .un, .un] _ _
    refine obE h (fun t7 e_t7 h => ?_)
    refine obE h (fun t8 e_t8 h => ?_)
    refine obE h (fun t9 e_t9 h => ?_)
    refine obE h (fun t10 e_t10 h => ?_)
    refine obE h (fun t11 e_t11 h => ?_)
    refine ws_seq (ws_asgv (ev_bin (b3 := false) (ev_blt1 (fr := false) (ev_bin (b3 := false) (ev_bin (b3 := false) (ev_bin (b3 := false) (ev_idx (ev_io rfl) ev_con rfl (v_ix_l (e := D.int) e_t7)) ev_con rfl (v_mul e_t8)) (ev_bin (b3 := false) ev_con (ev_idx (ev_io rfl) ev_con rfl (v_ix_l (e := D.int) e_t9)) rfl (v_mul e_t10)) rfl v_add) ev_con rfl v_add) rfl rfl) ev_con rfl (v_mod e_t11)) rfl (Nat.le_of_ble_eq_true rfl) ?_)
    show WS _ _ [.io (D.lst (List.map D.int t6)), .val (D.int many_), .un, .val (D.int t11)] _ _
    refine obE h (fun t12 e_t12 h => ?_)
    refine obE h (fun t13 e_t13 h => ?_)
    refine obE h (fun t14 e_t14 h => ?_)
    refine obE h (fun t15 e_t15 h => ?_)
    refine obE h (fun t16 e_t16 h => ?_)
    refine obE h (fun t17 e_t17 h => ?_)
    refine ws_seq (ws_asg (d := (D.int t16)) (k2 := .frz) (ρ2 := [.io (D.lst (List.map D.int t6)), .val (D.int many_), .un, .val (D.int t11)]) (ρ3 := [.io (D.lst (List.map D.int t17)), .val (D.int many_), .un, .val (D.int t11)]) (ev_bin (b3 := false) (ev_blt1 (fr := false) (ev_bin (b3 := false) (ev_bin (b3 := false) (ev_val rfl) (ev_bin (b3 := false) (ev_bin (b3 := false) (ev_blt1 (fr := false) (ev_val rfl) rfl rfl) ev_con rfl (v_mod e_t12)) ev_con rfl v_add) rfl (v_mul e_t13)) (ev_bin (b3 := false) ev_con (ev_idx (ev_io rfl) ev_con rfl (v_ix_l (e := D.int) e_t14)) rfl (v_mul e_t15)) rfl v_add) rfl rfl) ev_con rfl (v_mod e_t16)) rfl (eg_idx rfl ev_con (v_store_i (f := D.int) (x := t16) rfl e_t17)) ?_)
    show WS _ _ [.io (D.lst (List.map D.int t17)), .val (D.int many_), .un, .val (D.int t11)] _ _
    refine obE h (fun t18 e_t18 h => ?_)
    refine obE h (fun t19 e_t19 h => ?_)
    refine obE h (fun t20 e_t20 h => ?_)
    have h := Option.some.inj h
    subst h
    exact ws_seq (ws_retv (d := (D.int t20)) (ρ1 := [.io (D.lst (List.map D.int t17)), .val (D.int many_), .un, .val (D.int t11)]) (ev_bin (b3 := false) (ev_blt1 (fr := false) (ev_bin (b3 := false) (ev_idx (ev_io rfl) ev_con rfl (v_ix_l (e := D.int) e_t18)) ev_con rfl (v_fdiv e_t19)) rfl rfl) (ev_val rfl) rfl (v_mod e_t20)) rfl)

def F__law_shuffled (chest_ : (List Int)) (some_ : (List Int)) : Option ((List Int) × (List Int)) :=
  (whlM 64 (chest_, some_, ([] : (List Int))) (fun (s1 : ((List Int) × (List Int) × (List Int))) => some ((!decide (s1.2.1 = ([] : (List Int)))), s1)) (fun (s1 : ((List Int) × (List Int) × (List Int))) => (F__law_less s1.1 (s1.2.1.length : Int)).bind fun t3 => (popM s1.2.1 t3.1).bind fun t4 => (appM s1.2.2 t4.1).bind fun t5 => some (t3.2, t4.2, t5))).bind fun o6 => some (o6.2.2, o6.1)
theorem F__law_shuffled_ok (n : Nat) (chest_ : (List Int)) (some_ : (List Int)) (r : ((List Int) × (List Int))) (h : F__law_shuffled chest_ some_ = some r) : callN T (n + 2) 25 [true, false] [(D.lst (List.map D.int chest_)), (D.lst (List.map D.int some_))] = some ((D.tup (List.map D.int r.1)), false, [(D.lst (List.map D.int r.2))]) := by
  unfold F__law_shuffled at h
  refine call_ws (T := T) (n := n + 1) (f := 25) (df := d25) (ρ0 := [.io (D.lst (List.map D.int chest_)), .val (D.lst (List.map D.int some_)), .un, .un]) rfl rfl rfl rfl rfl ?_
  show WS _ _ [.io (D.lst (List.map D.int chest_)), .val (D.lst (List.map D.int some_)), .un, .un] _ _
  refine ws_seq (ws_par (xs := [((D.lst (List.map D.int some_)), .fr), ((D.lst (List.map D.int ([] : (List Int)))), .fr)]) (ρ1 := [.io (D.lst (List.map D.int chest_)), .val (D.lst (List.map D.int some_)), .un, .un]) (ρ2 := [.io (D.lst (List.map D.int chest_)), .val (D.lst (List.map D.int some_)), .own (D.lst (List.map D.int some_)), .own (D.lst (List.map D.int ([] : (List Int))))]) (em_cons (ev_blt1 (fr := true) (ev_val rfl) rfl rfl) rfl (em_cons (ev_lst (ds := []) el_nil (szk 0 rfl rfl)) rfl em_nil)) (eu_o rfl (Nat.le_of_ble_eq_true rfl) (eu_o rfl (Nat.le_of_ble_eq_true rfl) eu_nil)) ?_)
  show WS _ _ [.io (D.lst (List.map D.int chest_)), .val (D.lst (List.map D.int some_)), .own (D.lst (List.map D.int some_)), .own (D.lst (List.map D.int ([] : (List Int))))] _ _
  refine obE h (fun o6 e_o6 h => ?_)
  refine ws_seq (ws_whl (fun (s1 : ((List Int) × (List Int) × (List Int))) ρ' => (ρ' = [.io (D.lst (List.map D.int s1.1)), .val (D.lst (List.map D.int some_)), .own (D.lst (List.map D.int s1.2.1)), .own (D.lst (List.map D.int s1.2.2))])) rfl ?_ ?_ (n := 64) (by decide) e_o6 ?_)
  · rintro s1 ρ k_o6 rfl h
    have h := Option.some.inj h
    subst h
    exact ⟨_, (et_bl (ev_cmp (ev_own rfl) (ev_lst (ds := []) el_nil (szk 0 rfl rfl)) rfl (v_ne (a := s1.2.1) (b := ([] : (List Int))) (eqc_l eqc_int) (by decide)))), rfl⟩
  · rintro s1 o_o6 ρ rfl h
    refine obE h (fun t3 e_t3 h => ?_)
    refine obE h (fun t4 e_t4 h => ?_)
    refine obE h (fun t5 e_t5 h => ?_)
    refine ws_seq (ws_app_o (f := D.int) (x := t4.1) rfl (ev_pop rfl (ev_call (fr := false) (d := (D.int t3.1)) (ρ2 := [.io (D.lst (List.map D.int t3.2)), .val (D.lst (List.map D.int some_)), .own (D.lst (List.map D.int s1.2.1)), .own (D.lst (List.map D.int s1.2.2))]) (ea_io rfl (ea_cons (ev_blt1 (fr := false) (ev_own rfl) rfl v_len_l) rfl ea_nil)) rfl nd1 rfl (F__law_less_ok n s1.1 (s1.2.1.length : Int) t3 e_t3) rfl) (v_pop (e := D.int) rfl e_t4)) rfl rfl e_t5 ?_)
    show WS _ _ [.io (D.lst (List.map D.int t3.2)), .val (D.lst (List.map D.int some_)), .own (D.lst (List.map D.int t4.2)), .own (D.lst (List.map D.int t5))] _ _
    refine ws_skip ?_
    have h := Option.some.inj h
    subst h
    exact rfl
  · rintro ρ' rfl
    have h := Option.some.inj h
    subst h
    exact ws_seq (ws_retv (d := (D.tup (List.map D.int o6.2.2))) (ρ1 := [.io (D.lst (List.map D.int o6.1)), .val (D.lst (List.map D.int some_)), .own (D.lst (List.map D.int o6.2.1)), .own (D.lst (List.map D.int o6.2.2))]) (ev_blt1 (fr := false) (ev_own rfl) rfl rfl) rfl)

def F__law_turned (piece_ : (List Int)) (quarters_ : Int) : Option ((List Int)) :=
  (catM (cutT piece_ (some (4 - quarters_)) none) (cutT piece_ none (some (4 - quarters_)))).bind fun t1 => some t1
theorem F__law_turned_ok (n : Nat) (piece_ : (List Int)) (quarters_ : Int) (r : ((List Int))) (h : F__law_turned piece_ quarters_ = some r) : callN T (n + 1) 24 [false, false] [(D.tup (List.map D.int piece_)), (D.int quarters_)] = some ((D.tup (List.map D.int r)), false, []) := by
  unfold F__law_turned at h
  refine call_ws (T := T) (n := n + 0) (f := 24) (df := d24) (ρ0 := [.val (D.tup (List.map D.int piece_)), .val (D.int quarters_)]) rfl rfl rfl rfl rfl ?_
  show WS _ _ [.val (D.tup (List.map D.int piece_)), .val (D.int quarters_)] _ _
  refine obE h (fun t1 e_t1 h => ?_)
  have h := Option.some.inj h
  subst h
  exact ws_seq (ws_retv (d := (D.tup (List.map D.int t1))) (ρ1 := [.val (D.tup (List.map D.int piece_)), .val (D.int quarters_)]) (ev_bin (b3 := false) (ev_sl (b3 := false) (ev_val rfl) (eo_cons (ev_bin (b3 := false) ev_con (ev_val rfl) rfl v_sub)) eo_nil rfl v_sl_t) (ev_sl (b3 := false) (ev_val rfl) eo_nil (eo_cons (ev_bin (b3 := false) ev_con (ev_val rfl) rfl v_sub)) rfl v_sl_t) rfl (v_cat_t (e := D.int) e_t1)) rfl)

def F__law_first_turned (piece_ : (List Int)) : Option ((List Int)) :=
  (rng1M 4).bind fun t1 => (LcP t1 fun x2 => (F__law_turned piece_ x2).bind fun t3 => some t3).bind fun t4 => (minM en_TI t4).bind fun t5 => some t5
theorem F__law_first_turned_ok (n : Nat) (piece_ : (List Int)) (r : ((List Int))) (h : F__law_first_turned piece_ = some r) : callN T (n + 2) 26 [false] [(D.tup (List.map D.int piece_))] = some ((D.tup (List.map D.int r)), false, []) := by
  unfold F__law_first_turned at h
  refine call_ws (T := T) (n := n + 1) (f := 26) (df := d26) (ρ0 := [.val (D.tup (List.map D.int piece_)), .un]) rfl rfl rfl rfl rfl ?_
  show WS _ _ [.val (D.tup (List.map D.int piece_)), .un] _ _
  refine obE h (fun t1 e_t1 h => ?_)
  refine obE h (fun t4 e_t4 h => ?_)
  refine obE h (fun t5 e_t5 h => ?_)
  have h := Option.some.inj h
  subst h
  exact ws_seq (ws_retv (d := (D.tup (List.map D.int t5))) (ρ1 := [.val (D.tup (List.map D.int piece_)), .un]) (ev_blt1 (fr := false) (ev_LcP (f := D.int) (u := en_TI) (k := .frz) (base := [.val (D.tup (List.map D.int piece_)), .un]) (fun x2 => [.val (D.tup (List.map D.int piece_)), .val (D.int x2)]) rfl (ei_rng1 ev_con e_t1) rfl (fun _ => rfl) (fun x2 => (eg_var rfl (Nat.le_of_ble_eq_true rfl))) (fun x2 y h => by (refine obE h (fun t3 e_t3 h => ?_); have h := Option.some.inj h; subst h; exact (ev_call (fr := false) (d := (D.tup (List.map D.int t3))) (ea_cons (ev_val rfl) rfl (ea_cons (ev_val rfl) rfl ea_nil)) rfl List.nodup_nil rfl (F__law_turned_ok n piece_ x2 t3 e_t3) rfl))) (fun _ _ => rfl) e_t4 rfl (fun _ => rfl)) rfl (v_min_l e_t5)) rfl)

def F_is_whole (value_ : Int) : Option (Bool) :=
  some true
theorem F_is_whole_ok (n : Nat) (value_ : Int) (r : (Bool)) (h : F_is_whole value_ = some r) : callN T (n + 1) 0 [false] [(D.int value_)] = some ((D.bl r), false, []) := by
  unfold F_is_whole at h
  refine call_ws (T := T) (n := n + 0) (f := 0) (df := d0) (ρ0 := [.val (D.int value_)]) rfl rfl rfl rfl rfl ?_
  show WS _ _ [.val (D.int value_)] _ _
  have h := Option.some.inj h
  subst h
  exact ws_seq (ws_retv (d := (D.bl true)) (ρ1 := [.val (D.int value_)]) (ev_and (ev_isin (v := true) (ev_val rfl) rfl) (fun _ => (ev_not (v := false) (et_bl (ev_isin (v := false) (ev_val rfl) rfl)))) (fun h => nomatch h)) rfl)

def F_is_between (value_ : Int) (least_ : Int) (most_ : Int) : Option (Bool) :=
  (F_is_whole value_).bind fun t1 => some (t1 && ((decide (least_ ≤ value_)) && (decide (value_ ≤ most_))))
theorem F_is_between_ok (n : Nat) (value_ : Int) (least_ : Int) (most_ : Int) (r : (Bool)) (h : F_is_between value_ least_ most_ = some r) : callN T (n + 2) 1 [false, false, false] [(D.int value_), (D.int least_), (D.int most_)] = some ((D.bl r), false, []) := by
  unfold F_is_between at h
  refine call_ws (T := T) (n := n + 1) (f := 1) (df := d1) (ρ0 := [.val (D.int value_), .val (D.int least_), .val (D.int most_)]) rfl rfl rfl rfl rfl ?_
  show WS _ _ [.val (D.int value_), .val (D.int least_), .val (D.int most_)] _ _
  refine obE h (fun t1 e_t1 h => ?_)
  have h := Option.some.inj h
  subst h
  exact ws_seq (ws_retv (d := (D.bl (t1 && ((decide (least_ ≤ value_)) && (decide (value_ ≤ most_)))))) (ρ1 := [.val (D.int value_), .val (D.int least_), .val (D.int most_)]) (ev_andt (ev_call (fr := false) (d := (D.bl t1)) (ea_cons (ev_val rfl) rfl ea_nil) rfl List.nodup_nil rfl (F_is_whole_ok n value_ t1 e_t1) rfl) (ev_cmp2 (ev_val rfl) (ev_val rfl) rfl v_le (ev_val rfl) rfl v_le)) rfl)

def F_are_below (ahead_ : (List Int)) (value_ : Int) : Option (Bool) :=
  (if (decide (ahead_ = ([] : (List Int)))) = true then some true else ((ixM ahead_ (-1)).bind fun t1 => some (decide (t1 < value_)))).bind fun t2 => some t2
theorem F_are_below_ok (n : Nat) (ahead_ : (List Int)) (value_ : Int) (r : (Bool)) (h : F_are_below ahead_ value_ = some r) : callN T (n + 1) 2 [false, false] [(D.tup (List.map D.int ahead_)), (D.int value_)] = some ((D.bl r), false, []) := by
  unfold F_are_below at h
  refine call_ws (T := T) (n := n + 0) (f := 2) (df := d2) (ρ0 := [.val (D.tup (List.map D.int ahead_)), .val (D.int value_)]) rfl rfl rfl rfl rfl ?_
  show WS _ _ [.val (D.tup (List.map D.int ahead_)), .val (D.int value_)] _ _
  refine obE h (fun t2 e_t2 h => ?_)
  have h := Option.some.inj h
  subst h
  exact ws_seq (ws_retv (d := (D.bl t2)) (ρ1 := [.val (D.tup (List.map D.int ahead_)), .val (D.int value_)]) (ev_or (w := t2) (ev_cmp (ev_val rfl) (ev_tup (ds := []) el_nil (szk 0 rfl rfl)) rfl (v_eq (a := ahead_) (b := ([] : (List Int))) (eqc_t eqc_int) (by decide))) (fun hv => by (have h := e_t2; rw [ifF hv] at h; refine obE h (fun t1 e_t1 h => ?_); have h := Option.some.inj h; subst h; exact (ev_cmp (ev_idx (ev_val rfl) (ev_neg ev_con) rfl (v_ix_t (e := D.int) e_t1)) (ev_val rfl) rfl v_lt))) (fun hv => by (have h := e_t2; rw [ifT hv] at h; have h := Option.some.inj h; subst h; rfl))) rfl)

def F_is_next_number (ahead_ : (List Int)) (value_ : Int) : Option (Bool) :=
  (F_is_between value_ (-9) 9).bind fun t1 => (if t1 = true then ((F_are_below ahead_ value_).bind fun t2 => some t2) else some false).bind fun t3 => some t3
theorem F_is_next_number_ok (n : Nat) (ahead_ : (List Int)) (value_ : Int) (r : (Bool)) (h : F_is_next_number ahead_ value_ = some r) : callN T (n + 3) 9 [false, false] [(D.tup (List.map D.int ahead_)), (D.int value_)] = some ((D.bl r), false, []) := by
  unfold F_is_next_number at h
  refine call_ws (T := T) (n := n + 2) (f := 9) (df := d9) (ρ0 := [.val (D.tup (List.map D.int ahead_)), .val (D.int value_)]) rfl rfl rfl rfl rfl ?_
  show WS _ _ [.val (D.tup (List.map D.int ahead_)), .val (D.int value_)] _ _
  refine obE h (fun t1 e_t1 h => ?_)
  refine obE h (fun t3 e_t3 h => ?_)
  have h := Option.some.inj h
  subst h
  exact ws_seq (ws_retv (d := (D.bl t3)) (ρ1 := [.val (D.tup (List.map D.int ahead_)), .val (D.int value_)]) (ev_and (w := t3) (ev_call (fr := false) (d := (D.bl t1)) (ea_cons (ev_val rfl) rfl (ea_cons (ev_neg ev_glo) rfl (ea_cons ev_glo rfl ea_nil))) rfl List.nodup_nil rfl (F_is_between_ok n value_ (-9) 9 t1 e_t1) rfl) (fun hv => by (have h := e_t3; rw [ifT hv] at h; refine obE h (fun t2 e_t2 h => ?_); have h := Option.some.inj h; subst h; exact (ev_call (fr := false) (d := (D.bl t2)) (ea_cons (ev_val rfl) rfl (ea_cons (ev_val rfl) rfl ea_nil)) rfl List.nodup_nil rfl (F_are_below_ok (n + 1) ahead_ value_ t2 e_t2) rfl))) (fun hv => by (have h := e_t3; rw [ifF hv] at h; have h := Option.some.inj h; subst h; rfl))) rfl)

def F_wrong_in_is_next_number (value_ : (List Int)) (least_ : Int) (most_ : Int) : Option ((List (Option Int))) :=
  if (decide ((value_.length : Int) < least_)) = true then (some ([(none : (Option Int))] : (List (Option Int)))) else ((forR (enumT value_) () fun (s1 : Unit) (x2 : (Int × Int)) => (if (decide (x2.1 = most_)) = true then some true else ((F_is_next_number (cutT value_ none (some x2.1)) x2.2).bind fun t3 => some (!t3))).bind fun t4 => if t4 = true then (some (.inr ([(some x2.1)] : (List (Option Int))))) else (some (.inl ()))).bind fun o5 => match o5 with | .inl s6 => (some ([] : (List (Option Int)))) | .inr rv => some rv)
theorem F_wrong_in_is_next_number_ok (n : Nat) (value_ : (List Int)) (least_ : Int) (most_ : Int) (r : ((List (Option Int)))) (h : F_wrong_in_is_next_number value_ least_ most_ = some r) : callN T (n + 4) 3 [false, false, false, false] [(D.tup (List.map D.int value_)), (D.int least_), (D.int most_), (D.fn 9)] = some ((D.lst (List.map en_OI r)), true, []) := by
  unfold F_wrong_in_is_next_number at h
  refine call_ws (T := T) (n := n + 3) (f := 3) (df := d3) (ρ0 := [.val (D.tup (List.map D.int value_)), .val (D.int least_), .val (D.int most_), .val (D.fn 9), .un, .un]) rfl rfl rfl rfl rfl ?_
  show WS _ _ [.val (D.tup (List.map D.int value_)), .val (D.int least_), .val (D.int most_), .val (D.fn 9), .un, .un] _ _
  refine ws_seq (ws_ite (et_or (et_not (v := true) (et_bl (ev_isin (v := true) (ev_val rfl) rfl))) (fun _ => (et_bl (ev_cmp (ev_blt1 (fr := false) (ev_val rfl) rfl v_len_t) (ev_val rfl) rfl v_lt))) (fun h => nomatch h)) (fun hv => ?_) (fun hv => ?_))
  · rw [ifT hv] at h
    have h := Option.some.inj h
    subst h
    exact ws_seq (ws_reto (d := (D.lst (List.map en_OI ([(none : (Option Int))] : (List (Option Int)))))) (ρ1 := [.val (D.tup (List.map D.int value_)), .val (D.int least_), .val (D.int most_), .val (D.fn 9), .un, .un]) (ev_lst (ds := [(eO D.int (none : (Option Int)))]) (el_cons ev_con rfl el_nil) (szk 1 rfl rfl)) rfl)
  · rw [ifF hv] at h
    refine ws_skip ?_
    refine obE h (fun o5 e_o5 h => ?_)
    refine ws_seq (ws_forR (f := en_P2II) (fun (s1 : Unit) ρ' => (∃ us1_4, plainS us1_4 = true ∧ ∃ us1_5, plainS us1_5 = true ∧ ρ' = [.val (D.tup (List.map D.int value_)), .val (D.int least_), .val (D.int most_), .val (D.fn 9), us1_4, us1_5])) (Post [false, false, false, false] (fun (r : ((List (Option Int)))) => ((D.lst (List.map en_OI r)), true, []))) (ei_enm (f := D.int) (ev_val rfl) rfl rfl) ⟨_, rfl, _, rfl, rfl⟩ ?_ e_o5 ?_ ?_)
    · rintro s1 x2 o_o5 ρ ⟨us1_4, n_us1_4, us1_5, n_us1_5, rfl⟩ h
      refine ⟨[.val (D.tup (List.map D.int value_)), .val (D.int least_), .val (D.int most_), .val (D.fn 9), .val (D.int x2.1), .val (D.int x2.2)], (eg_tup (egs_cons (eg_var (pl_notIo n_us1_4) (Nat.le_of_ble_eq_true rfl)) (egs_cons (eg_var (pl_notIo n_us1_5) (Nat.le_of_ble_eq_true rfl)) egs_nil))), ?_⟩
      refine obE h (fun t4 e_t4 h => ?_)
      refine ws_seq (ws_ite (et_or (w := t4) (et_bl (ev_cmp (ev_val rfl) (ev_val rfl) rfl (v_eq (a := x2.1) (b := most_) eqc_int (by decide)))) (fun hv => by (have h := e_t4; rw [ifF hv] at h; refine obE h (fun t3 e_t3 h => ?_); have h := Option.some.inj h; subst h; exact (et_not (v := t3) (et_bl (ev_calv (fr := false) (d := (D.bl t3)) rfl (ea_cons (ev_sl (b3 := false) (ev_val rfl) eo_nil (eo_cons (ev_val rfl)) rfl v_sl_t) rfl (ea_cons (ev_val rfl) rfl ea_nil)) rfl List.nodup_nil rfl (F_is_next_number_ok n (cutT value_ none (some x2.1)) x2.2 t3 e_t3) rfl))))) (fun hv => by (have h := e_t4; rw [ifT hv] at h; have h := Option.some.inj h; subst h; rfl))) (fun hv => ?_) (fun hv => ?_))
      · rw [ifT hv] at h
        have h := Option.some.inj h
        subst h
        exact ws_seq (ws_reto (d := (D.lst (List.map en_OI ([(some x2.1)] : (List (Option Int)))))) (ρ1 := [.val (D.tup (List.map D.int value_)), .val (D.int least_), .val (D.int most_), .val (D.fn 9), .val (D.int x2.1), .val (D.int x2.2)]) (ev_lst (ds := [(eO D.int (some x2.1))]) (el_cons (ev_val rfl) rfl el_nil) (szk 1 rfl rfl)) ⟨_, rfl, rfl⟩)
      · rw [ifF hv] at h
        refine ws_skip ?_
        refine ws_skip ?_
        have h := Option.some.inj h
        subst h
        exact ⟨_, rfl, ⟨_, rfl, _, rfl, rfl⟩⟩
    · rintro s6 rfl ρ' ⟨us1_4, n_us1_4, us1_5, n_us1_5, rfl⟩
      have h := Option.some.inj h
      subst h
      exact ws_seq (ws_reto (d := (D.lst (List.map en_OI ([] : (List (Option Int)))))) (ρ1 := [.val (D.tup (List.map D.int value_)), .val (D.int least_), .val (D.int most_), .val (D.fn 9), us1_4, us1_5]) (ev_lst (ds := []) el_nil (szk 0 rfl rfl)) rfl)
    · rintro rv rfl d fb ρ' hp
      have h := Option.some.inj h
      subst h
      exact hp

def F_are_all_is_next_number (value_ : (List Int)) (least_ : Int) (most_ : Int) : Option (Bool) :=
  (F_wrong_in_is_next_number value_ least_ most_).bind fun t1 => some (decide (t1 = ([] : (List (Option Int)))))
theorem F_are_all_is_next_number_ok (n : Nat) (value_ : (List Int)) (least_ : Int) (most_ : Int) (r : (Bool)) (h : F_are_all_is_next_number value_ least_ most_ = some r) : callN T (n + 5) 4 [false, false, false, false] [(D.tup (List.map D.int value_)), (D.int least_), (D.int most_), (D.fn 9)] = some ((D.bl r), false, []) := by
  unfold F_are_all_is_next_number at h
  refine call_ws (T := T) (n := n + 4) (f := 4) (df := d4) (ρ0 := [.val (D.tup (List.map D.int value_)), .val (D.int least_), .val (D.int most_), .val (D.fn 9)]) rfl rfl rfl rfl rfl ?_
  show WS _ _ [.val (D.tup (List.map D.int value_)), .val (D.int least_), .val (D.int most_), .val (D.fn 9)] _ _
  refine obE h (fun t1 e_t1 h => ?_)
  have h := Option.some.inj h
  subst h
  exact ws_seq (ws_retv (d := (D.bl (decide (t1 = ([] : (List (Option Int))))))) (ρ1 := [.val (D.tup (List.map D.int value_)), .val (D.int least_), .val (D.int most_), .val (D.fn 9)]) (ev_cmp (ev_call (fr := true) (d := (D.lst (List.map en_OI t1))) (ea_cons (ev_val rfl) rfl (ea_cons (ev_val rfl) rfl (ea_cons (ev_val rfl) rfl (ea_cons (ev_val rfl) rfl ea_nil)))) rfl List.nodup_nil rfl (F_wrong_in_is_next_number_ok n value_ least_ most_ t1 e_t1) rfl) (ev_lst (ds := []) el_nil (szk 0 rfl rfl)) rfl (v_eq (a := t1) (b := ([] : (List (Option Int)))) (eqc_l (eqc_o eqc_int nn_int)) (by decide))) rfl)

def F_are_numbers (value_ : (List Int)) : Option (Bool) :=
  (F_are_all_is_next_number value_ 1 5).bind fun t1 => some t1
theorem F_are_numbers_ok (n : Nat) (value_ : (List Int)) (r : (Bool)) (h : F_are_numbers value_ = some r) : callN T (n + 6) 10 [false] [(D.tup (List.map D.int value_))] = some ((D.bl r), false, []) := by
  unfold F_are_numbers at h
  refine call_ws (T := T) (n := n + 5) (f := 10) (df := d10) (ρ0 := [.val (D.tup (List.map D.int value_))]) rfl rfl rfl rfl rfl ?_
  show WS _ _ [.val (D.tup (List.map D.int value_))] _ _
  refine obE h (fun t1 e_t1 h => ?_)
  have h := Option.some.inj h
  subst h
  exact ws_seq (ws_retv (d := (D.bl t1)) (ρ1 := [.val (D.tup (List.map D.int value_))]) (ev_call (fr := false) (d := (D.bl t1)) (ea_cons (ev_val rfl) rfl (ea_cons ev_glo rfl (ea_cons ev_glo rfl (ea_cons ev_glo rfl ea_nil)))) rfl List.nodup_nil rfl (F_are_all_is_next_number_ok n value_ 1 5 t1 e_t1) rfl) rfl)

def F_check_numbers (numbers_ : (List Int)) : Option (Unit) :=
  (F_are_numbers numbers_).bind fun t1 => if (!t1) = true then (none) else (some ())
theorem F_check_numbers_ok (n : Nat) (numbers_ : (List Int)) (r : (Unit)) (h : F_check_numbers numbers_ = some r) : callN T (n + 7) 15 [false] [(D.tup (List.map D.int numbers_))] = some (D.non, false, []) := by
  unfold F_check_numbers at h
  refine call_ws (T := T) (n := n + 6) (f := 15) (df := d15) (ρ0 := [.val (D.tup (List.map D.int numbers_))]) rfl rfl rfl rfl rfl ?_
  show WS _ _ [.val (D.tup (List.map D.int numbers_))] _ _
  refine obE h (fun t1 e_t1 h => ?_)
  refine ws_seq (ws_ite (et_not (v := t1) (et_bl (ev_call (fr := false) (d := (D.bl t1)) (ea_cons (ev_val rfl) rfl ea_nil) rfl List.nodup_nil rfl (F_are_numbers_ok n numbers_ t1 e_t1) rfl))) (fun hv => ?_) (fun hv => ?_))
  · rw [ifT hv] at h
    exact nomatch h
  · rw [ifF hv] at h
    refine ws_skip ?_
    refine ws_skip ?_
    have h := Option.some.inj h
    subst h
    exact rfl

def F_pieces_with (numbers_ : (List Int)) : Option ((List (List Int))) :=
  (some ([([] : (List Int))] : (List (List Int)))).bind fun v1 => (forL ([0, 1, 2, 3] : (List Int)) v1 fun (s2 : ((List (List Int)))) (x3 : Int) => (forL s2 ([] : (List (List Int))) fun (s4 : ((List (List Int)))) (x5 : (List Int)) => (LcP numbers_ fun x6 => (catM x5 ([x6] : (List Int))).bind fun t7 => some t7).bind fun t8 => (catM s4 t8).bind fun t9 => some t9).bind fun o10 => some o10).bind fun o11 => some o11
theorem F_pieces_with_ok (n : Nat) (numbers_ : (List Int)) (r : ((List (List Int)))) (h : F_pieces_with numbers_ = some r) : ∃ fr : Bool, callN T (n + 1) 11 [false] [(D.tup (List.map D.int numbers_))] = some ((D.lst (List.map en_TI r)), fr, []) := by
  unfold F_pieces_with at h
  refine call_wsV (T := T) (n := n + 0) (f := 11) (df := d11) (ρ0 := [.val (D.tup (List.map D.int numbers_)), .un, .un, .un, .un, .un]) rfl rfl rfl rfl rfl ?_
  show WS _ _ [.val (D.tup (List.map D.int numbers_)), .un, .un, .un, .un, .un] _ _
  refine obE h (fun v1 e_v1 h => ?_)
  have e_v1 := inj e_v1
  refine ws_seq (ws_asgo (d := (D.lst (List.map en_TI v1))) (ρ1 := [.val (D.tup (List.map D.int numbers_)), .un, .un, .un, .un, .un]) (by (rw [e_v1]; exact (ev_lst (ds := [(D.tup (List.map D.int ([] : (List Int))))]) (el_cons (ev_tup (ds := []) el_nil (szk 0 rfl rfl)) rfl el_nil) (szk 1 rfl rfl)))) rfl (Nat.le_of_ble_eq_true rfl) ?_)
  show WS _ _ [.val (D.tup (List.map D.int numbers_)), .own (D.lst (List.map en_TI v1)), .un, .un, .un, .un] _ _
  refine obE h (fun o11 e_o11 h => ?_)
  refine ws_seq (ws_forL (f := D.int) (fun (s2 : ((List (List Int)))) ρ' => (∃ us2_2, plainS us2_2 = true ∧ ∃ us2_3, plainS us2_3 = true ∧ ∃ us2_4, plainS us2_4 = true ∧ ρ' = [.val (D.tup (List.map D.int numbers_)), .own (D.lst (List.map en_TI s2)), us2_2, us2_3, us2_4, .un]) ∨ (∃ us2_2, plainS us2_2 = true ∧ ∃ us2_3, plainS us2_3 = true ∧ ∃ us2_4, plainS us2_4 = true ∧ ρ' = [.val (D.tup (List.map D.int numbers_)), .val (D.lst (List.map en_TI s2)), us2_2, us2_3, us2_4, .un])) (ei_it (d := (D.tup (List.map D.int ([0, 1, 2, 3] : (List Int))))) ev_glo rfl rfl) (Or.inl ⟨_, rfl, _, rfl, _, rfl, rfl⟩) ?_ e_o11 ?_)
  · rintro s2 x3 o_o11 ρ (⟨us2_2, n_us2_2, us2_3, n_us2_3, us2_4, n_us2_4, rfl⟩ | ⟨us2_2, n_us2_2, us2_3, n_us2_3, us2_4, n_us2_4, rfl⟩) h
    · skip
      refine ⟨[.val (D.tup (List.map D.int numbers_)), .own (D.lst (List.map en_TI s2)), .val (D.int x3), us2_3, us2_4, .un], (eg_var (pl_notIo n_us2_2) (Nat.le_of_ble_eq_true rfl)), ?_⟩
      refine ws_seq (ws_asgo (ev_lst (ds := []) el_nil (szk 0 rfl rfl)) (pl_notIo n_us2_3) (Nat.le_of_ble_eq_true rfl) ?_)
      show WS _ _ [.val (D.tup (List.map D.int numbers_)), .own (D.lst (List.map en_TI s2)), .val (D.int x3), .own (D.lst (List.map en_TI ([] : (List (List Int))))), us2_4, .un] _ _
      refine obE h (fun o10 e_o10 h => ?_)
      refine ws_seq (ws_forL (f := en_TI) (fun (s4 : ((List (List Int)))) ρ' => (∃ us4_4, plainS us4_4 = true ∧ ρ' = [.val (D.tup (List.map D.int numbers_)), .val (D.lst (List.map en_TI s2)), .val (D.int x3), .own (D.lst (List.map en_TI s4)), us4_4, .un])) (ei_it (d := (D.lst (List.map en_TI s2))) (ev_own rfl) rfl rfl) ⟨_, n_us2_4, rfl⟩ ?_ e_o10 ?_)
      · rintro s4 x5 o_o10 ρ ⟨us4_4, n_us4_4, rfl⟩ h
        refine ⟨[.val (D.tup (List.map D.int numbers_)), .val (D.lst (List.map en_TI s2)), .val (D.int x3), .own (D.lst (List.map en_TI s4)), .val (D.tup (List.map D.int x5)), .un], (eg_var (pl_notIo n_us4_4) (Nat.le_of_ble_eq_true rfl)), ?_⟩
        refine obE h (fun t8 e_t8 h => ?_)
        refine obE h (fun t9 e_t9 h => ?_)
        refine ws_seq (ws_ext_o (f := en_TI) rfl (ev_LcP (f := D.int) (u := en_TI) (k := .frz) (base := [.val (D.tup (List.map D.int numbers_)), .val (D.lst (List.map en_TI s2)), .val (D.int x3), .own (D.lst (List.map en_TI s4)), .val (D.tup (List.map D.int x5)), .un]) (fun x6 => [.val (D.tup (List.map D.int numbers_)), .val (D.lst (List.map en_TI s2)), .val (D.int x3), .own (D.lst (List.map en_TI s4)), .val (D.tup (List.map D.int x5)), .val (D.int x6)]) rfl (ei_it (d := (D.tup (List.map D.int numbers_))) (ev_val rfl) rfl rfl) rfl (fun _ => rfl) (fun x6 => (eg_var rfl (Nat.le_of_ble_eq_true rfl))) (fun x6 y h => by (refine obE h (fun t7 e_t7 h => ?_); have h := Option.some.inj h; subst h; exact (ev_bin (b3 := false) (ev_val rfl) (ev_tup (ds := [(D.int x6)]) (el_cons (ev_val rfl) rfl el_nil) (szk 1 rfl rfl)) rfl (v_cat_t (e := D.int) e_t7)))) (fun _ _ => rfl) e_t8 rfl (fun _ => rfl)) rfl e_t9 ?_)
        show WS _ _ [.val (D.tup (List.map D.int numbers_)), .val (D.lst (List.map en_TI s2)), .val (D.int x3), .own (D.lst (List.map en_TI t9)), .val (D.tup (List.map D.int x5)), .un] _ _
        refine ws_skip ?_
        have h := Option.some.inj h
        subst h
        exact ⟨_, rfl, rfl⟩
      · rintro ρ' ⟨us4_4, n_us4_4, rfl⟩
        refine ws_seq (ws_asg (k2 := .frz) (ρ2 := [.val (D.tup (List.map D.int numbers_)), .val (D.lst (List.map en_TI s2)), .val (D.int x3), .val (D.lst (List.map en_TI o10)), us4_4, .un]) (ev_own rfl) rfl (eg_var rfl (Nat.le_of_ble_eq_true rfl)) ?_)
        show WS _ _ [.val (D.tup (List.map D.int numbers_)), .val (D.lst (List.map en_TI o10)), .val (D.int x3), .val (D.lst (List.map en_TI o10)), us4_4, .un] _ _
        refine ws_skip ?_
        have h := Option.some.inj h
        subst h
        exact (Or.inr ⟨_, rfl, _, rfl, _, n_us4_4, rfl⟩)
    · skip
      refine ⟨[.val (D.tup (List.map D.int numbers_)), .val (D.lst (List.map en_TI s2)), .val (D.int x3), us2_3, us2_4, .un], (eg_var (pl_notIo n_us2_2) (Nat.le_of_ble_eq_true rfl)), ?_⟩
      refine ws_seq (ws_asgo (ev_lst (ds := []) el_nil (szk 0 rfl rfl)) (pl_notIo n_us2_3) (Nat.le_of_ble_eq_true rfl) ?_)
      show WS _ _ [.val (D.tup (List.map D.int numbers_)), .val (D.lst (List.map en_TI s2)), .val (D.int x3), .own (D.lst (List.map en_TI ([] : (List (List Int))))), us2_4, .un] _ _
      refine obE h (fun o10 e_o10 h => ?_)
      refine ws_seq (ws_forL (f := en_TI) (fun (s4 : ((List (List Int)))) ρ' => (∃ us4_4, plainS us4_4 = true ∧ ρ' = [.val (D.tup (List.map D.int numbers_)), .val (D.lst (List.map en_TI s2)), .val (D.int x3), .own (D.lst (List.map en_TI s4)), us4_4, .un])) (ei_it (d := (D.lst (List.map en_TI s2))) (ev_val rfl) rfl rfl) ⟨_, n_us2_4, rfl⟩ ?_ e_o10 ?_)
      · rintro s4 x5 o_o10 ρ ⟨us4_4, n_us4_4, rfl⟩ h
        refine ⟨[.val (D.tup (List.map D.int numbers_)), .val (D.lst (List.map en_TI s2)), .val (D.int x3), .own (D.lst (List.map en_TI s4)), .val (D.tup (List.map D.int x5)), .un], (eg_var (pl_notIo n_us4_4) (Nat.le_of_ble_eq_true rfl)), ?_⟩
        refine obE h (fun t8 e_t8 h => ?_)
        refine obE h (fun t9 e_t9 h => ?_)
        refine ws_seq (ws_ext_o (f := en_TI) rfl (ev_LcP (f := D.int) (u := en_TI) (k := .frz) (base := [.val (D.tup (List.map D.int numbers_)), .val (D.lst (List.map en_TI s2)), .val (D.int x3), .own (D.lst (List.map en_TI s4)), .val (D.tup (List.map D.int x5)), .un]) (fun x6 => [.val (D.tup (List.map D.int numbers_)), .val (D.lst (List.map en_TI s2)), .val (D.int x3), .own (D.lst (List.map en_TI s4)), .val (D.tup (List.map D.int x5)), .val (D.int x6)]) rfl (ei_it (d := (D.tup (List.map D.int numbers_))) (ev_val rfl) rfl rfl) rfl (fun _ => rfl) (fun x6 => (eg_var rfl (Nat.le_of_ble_eq_true rfl))) (fun x6 y h => by (refine obE h (fun t7 e_t7 h => ?_); have h := Option.some.inj h; subst h; exact (ev_bin (b3 := false) (ev_val rfl) (ev_tup (ds := [(D.int x6)]) (el_cons (ev_val rfl) rfl el_nil) (szk 1 rfl rfl)) rfl (v_cat_t (e := D.int) e_t7)))) (fun _ _ => rfl) e_t8 rfl (fun _ => rfl)) rfl e_t9 ?_)
        show WS _ _ [.val (D.tup (List.map D.int numbers_)), .val (D.lst (List.map en_TI s2)), .val (D.int x3), .own (D.lst (List.map en_TI t9)), .val (D.tup (List.map D.int x5)), .un] _ _
        refine ws_skip ?_
        have h := Option.some.inj h
        subst h
        exact ⟨_, rfl, rfl⟩
      · rintro ρ' ⟨us4_4, n_us4_4, rfl⟩
        refine ws_seq (ws_asg (k2 := .frz) (ρ2 := [.val (D.tup (List.map D.int numbers_)), .val (D.lst (List.map en_TI s2)), .val (D.int x3), .val (D.lst (List.map en_TI o10)), us4_4, .un]) (ev_own rfl) rfl (eg_var rfl (Nat.le_of_ble_eq_true rfl)) ?_)
        show WS _ _ [.val (D.tup (List.map D.int numbers_)), .val (D.lst (List.map en_TI o10)), .val (D.int x3), .val (D.lst (List.map en_TI o10)), us4_4, .un] _ _
        refine ws_skip ?_
        have h := Option.some.inj h
        subst h
        exact (Or.inr ⟨_, rfl, _, rfl, _, n_us4_4, rfl⟩)
  · rintro ρ' (⟨us2_2, n_us2_2, us2_3, n_us2_3, us2_4, n_us2_4, rfl⟩ | ⟨us2_2, n_us2_2, us2_3, n_us2_3, us2_4, n_us2_4, rfl⟩)
    · skip
      have h := Option.some.inj h
      subst h
      exact ws_seq (ws_retp (d := (D.lst (List.map en_TI o11))) (ρ1 := [.val (D.tup (List.map D.int numbers_)), .own (D.lst (List.map en_TI o11)), us2_2, us2_3, us2_4, .un]) (ev_own rfl) rfl ⟨_, rfl⟩)
    · skip
      have h := Option.some.inj h
      subst h
      exact ws_seq (ws_retv (d := (D.lst (List.map en_TI o11))) (ρ1 := [.val (D.tup (List.map D.int numbers_)), .val (D.lst (List.map en_TI o11)), us2_2, us2_3, us2_4, .un]) (ev_val rfl) ⟨_, rfl⟩)

def F_how_many_pieces (numbers_ : (List Int)) : Option (Int) :=
  (F_check_numbers numbers_).bind fun t1 => (F_pieces_with numbers_).bind fun t2 => some (t2.length : Int)
theorem F_how_many_pieces_ok (n : Nat) (numbers_ : (List Int)) (r : (Int)) (h : F_how_many_pieces numbers_ = some r) : callN T (n + 8) 16 [false] [(D.tup (List.map D.int numbers_))] = some ((D.int r), false, []) := by
  unfold F_how_many_pieces at h
  refine call_ws (T := T) (n := n + 7) (f := 16) (df := d16) (ρ0 := [.val (D.tup (List.map D.int numbers_))]) rfl rfl rfl rfl rfl ?_
  show WS _ _ [.val (D.tup (List.map D.int numbers_))] _ _
  refine obE h (fun t1 e_t1 h => ?_)
  refine ws_seq (ws_ex (ev_call (fr := false) (d := D.non) (ea_cons (ev_val rfl) rfl ea_nil) rfl List.nodup_nil rfl (F_check_numbers_ok n numbers_ t1 e_t1) rfl) ?_)
  show WS _ _ [.val (D.tup (List.map D.int numbers_))] _ _
  refine obE h (fun t2 e_t2 h => ?_)
  refine Exists.elim (F_pieces_with_ok (n + 6) numbers_ t2 e_t2) (fun fr_t2 k_t2 => ?_)
  have h := Option.some.inj h
  subst h
  exact ws_seq (ws_retv (d := (D.int (t2.length : Int))) (ρ1 := [.val (D.tup (List.map D.int numbers_))]) (ev_blt1 (fr := false) (ev_call (fr := fr_t2) (d := (D.lst (List.map en_TI t2))) (ea_cons (ev_val rfl) rfl ea_nil) rfl List.nodup_nil rfl k_t2 rfl) cur_kd v_len_l) rfl)

def F_turned_by (piece_ : (List Int)) (quarters_ : Int) : Option ((List Int)) :=
  (catM (cutT piece_ (some (4 - quarters_)) none) (cutT piece_ none (some (4 - quarters_)))).bind fun t1 => some t1
theorem F_turned_by_ok (n : Nat) (piece_ : (List Int)) (quarters_ : Int) (r : ((List Int))) (h : F_turned_by piece_ quarters_ = some r) : callN T (n + 1) 7 [false, false] [(D.tup (List.map D.int piece_)), (D.int quarters_)] = some ((D.tup (List.map D.int r)), false, []) := by
  unfold F_turned_by at h
  refine call_ws (T := T) (n := n + 0) (f := 7) (df := d7) (ρ0 := [.val (D.tup (List.map D.int piece_)), .val (D.int quarters_)]) rfl rfl rfl rfl rfl ?_
  show WS _ _ [.val (D.tup (List.map D.int piece_)), .val (D.int quarters_)] _ _
  refine obE h (fun t1 e_t1 h => ?_)
  have h := Option.some.inj h
  subst h
  exact ws_seq (ws_retv (d := (D.tup (List.map D.int t1))) (ρ1 := [.val (D.tup (List.map D.int piece_)), .val (D.int quarters_)]) (ev_bin (b3 := false) (ev_sl (b3 := false) (ev_val rfl) (eo_cons (ev_bin (b3 := false) (ev_blt1 (fr := false) ev_glo rfl rfl) (ev_val rfl) rfl v_sub)) eo_nil rfl v_sl_t) (ev_sl (b3 := false) (ev_val rfl) eo_nil (eo_cons (ev_bin (b3 := false) (ev_blt1 (fr := false) ev_glo rfl rfl) (ev_val rfl) rfl v_sub)) rfl v_sl_t) rfl (v_cat_t (e := D.int) e_t1)) rfl)

def F_turns_of (piece_ : (List Int)) : Option ((List (List Int))) :=
  (rng1M 4).bind fun t1 => (LcP t1 fun x2 => (F_turned_by piece_ x2).bind fun t3 => some t3).bind fun t4 => some t4
theorem F_turns_of_ok (n : Nat) (piece_ : (List Int)) (r : ((List (List Int)))) (h : F_turns_of piece_ = some r) : callN T (n + 2) 8 [false] [(D.tup (List.map D.int piece_))] = some ((D.lst (List.map en_TI r)), true, []) := by
  unfold F_turns_of at h
  refine call_ws (T := T) (n := n + 1) (f := 8) (df := d8) (ρ0 := [.val (D.tup (List.map D.int piece_)), .un]) rfl rfl rfl rfl rfl ?_
  show WS _ _ [.val (D.tup (List.map D.int piece_)), .un] _ _
  refine obE h (fun t1 e_t1 h => ?_)
  refine obE h (fun t4 e_t4 h => ?_)
  have h := Option.some.inj h
  subst h
  exact ws_seq (ws_reto (d := (D.lst (List.map en_TI t4))) (ρ1 := [.val (D.tup (List.map D.int piece_)), .un]) (ev_LcP (f := D.int) (u := en_TI) (k := .frz) (base := [.val (D.tup (List.map D.int piece_)), .un]) (fun x2 => [.val (D.tup (List.map D.int piece_)), .val (D.int x2)]) rfl (ei_rng1 ev_glo e_t1) rfl (fun _ => rfl) (fun x2 => (eg_var rfl (Nat.le_of_ble_eq_true rfl))) (fun x2 y h => by (refine obE h (fun t3 e_t3 h => ?_); have h := Option.some.inj h; subst h; exact (ev_call (fr := false) (d := (D.tup (List.map D.int t3))) (ea_cons (ev_val rfl) rfl (ea_cons (ev_val rfl) rfl ea_nil)) rfl List.nodup_nil rfl (F_turned_by_ok n piece_ x2 t3 e_t3) rfl))) (fun _ _ => rfl) e_t4 rfl (fun _ => rfl)) rfl)

def F_first_turn (piece_ : (List Int)) : Option ((List Int)) :=
  (F_turns_of piece_).bind fun t1 => (minM en_TI t1).bind fun t2 => some t2
theorem F_first_turn_ok (n : Nat) (piece_ : (List Int)) (r : ((List Int))) (h : F_first_turn piece_ = some r) : callN T (n + 3) 12 [false] [(D.tup (List.map D.int piece_))] = some ((D.tup (List.map D.int r)), false, []) := by
  unfold F_first_turn at h
  refine call_ws (T := T) (n := n + 2) (f := 12) (df := d12) (ρ0 := [.val (D.tup (List.map D.int piece_))]) rfl rfl rfl rfl rfl ?_
  show WS _ _ [.val (D.tup (List.map D.int piece_))] _ _
  refine obE h (fun t1 e_t1 h => ?_)
  refine obE h (fun t2 e_t2 h => ?_)
  have h := Option.some.inj h
  subst h
  exact ws_seq (ws_retv (d := (D.tup (List.map D.int t2))) (ρ1 := [.val (D.tup (List.map D.int piece_))]) (ev_blt1 (fr := false) (ev_call (fr := true) (d := (D.lst (List.map en_TI t1))) (ea_cons (ev_val rfl) rfl ea_nil) rfl List.nodup_nil rfl (F_turns_of_ok n piece_ t1 e_t1) rfl) rfl (v_min_l e_t2)) rfl)

def F_kinds_with (numbers_ : (List Int)) : Option ((List (List Int))) :=
  (F_pieces_with numbers_).bind fun t1 => (LcF t1 fun x2 => (F_first_turn x2).bind fun t3 => if (decide (t3 = x2)) = true then (some (some x2)) else some none).bind fun t4 => some t4
theorem F_kinds_with_ok (n : Nat) (numbers_ : (List Int)) (r : ((List (List Int)))) (h : F_kinds_with numbers_ = some r) : callN T (n + 4) 13 [false] [(D.tup (List.map D.int numbers_))] = some ((D.lst (List.map en_TI r)), true, []) := by
  unfold F_kinds_with at h
  refine call_ws (T := T) (n := n + 3) (f := 13) (df := d13) (ρ0 := [.val (D.tup (List.map D.int numbers_)), .un]) rfl rfl rfl rfl rfl ?_
  show WS _ _ [.val (D.tup (List.map D.int numbers_)), .un] _ _
  refine obE h (fun t1 e_t1 h => ?_)
  refine Exists.elim (F_pieces_with_ok (n + 2) numbers_ t1 e_t1) (fun fr_t1 k_t1 => ?_)
  refine obE h (fun t4 e_t4 h => ?_)
  have h := Option.some.inj h
  subst h
  exact ws_seq (ws_reto (d := (D.lst (List.map en_TI t4))) (ρ1 := [.val (D.tup (List.map D.int numbers_)), .un]) (ev_LcF (f := en_TI) (u := en_TI) (k := .frz) (base := [.val (D.tup (List.map D.int numbers_)), .un]) (fun x2 => [.val (D.tup (List.map D.int numbers_)), .val (D.tup (List.map D.int x2))]) rfl (ei_it (d := (D.lst (List.map en_TI t1))) (ev_call (fr := fr_t1) (d := (D.lst (List.map en_TI t1))) (ea_cons (ev_val rfl) rfl ea_nil) rfl List.nodup_nil rfl k_t1 rfl) settle_kd rfl) rfl (fun _ => rfl) (fun x2 => (eg_var rfl (Nat.le_of_ble_eq_true rfl))) (fun x2 o h => by (refine obE h (fun t3 e_t3 h => ?_); refine lcF_if (et_bl (ev_cmp (ev_call (fr := false) (d := (D.tup (List.map D.int t3))) (ea_cons (ev_val rfl) rfl ea_nil) rfl List.nodup_nil rfl (F_first_turn_ok n x2 t3 e_t3) rfl) (ev_val rfl) rfl (v_eq (a := t3) (b := x2) (eqc_t eqc_int) (by decide)))) h (fun h => ?_); exact ⟨_, (Option.some.inj h).symm, (ev_val rfl)⟩)) (fun _ _ => rfl) e_t4 rfl (fun _ => rfl)) rfl)

def F_how_many_kinds_of (numbers_ : (List Int)) : Option (Int) :=
  (F_check_numbers numbers_).bind fun t1 => (F_kinds_with numbers_).bind fun t2 => some (t2.length : Int)
theorem F_how_many_kinds_of_ok (n : Nat) (numbers_ : (List Int)) (r : (Int)) (h : F_how_many_kinds_of numbers_ = some r) : callN T (n + 8) 17 [false] [(D.tup (List.map D.int numbers_))] = some ((D.int r), false, []) := by
  unfold F_how_many_kinds_of at h
  refine call_ws (T := T) (n := n + 7) (f := 17) (df := d17) (ρ0 := [.val (D.tup (List.map D.int numbers_))]) rfl rfl rfl rfl rfl ?_
  show WS _ _ [.val (D.tup (List.map D.int numbers_))] _ _
  refine obE h (fun t1 e_t1 h => ?_)
  refine ws_seq (ws_ex (ev_call (fr := false) (d := D.non) (ea_cons (ev_val rfl) rfl ea_nil) rfl List.nodup_nil rfl (F_check_numbers_ok n numbers_ t1 e_t1) rfl) ?_)
  show WS _ _ [.val (D.tup (List.map D.int numbers_))] _ _
  refine obE h (fun t2 e_t2 h => ?_)
  have h := Option.some.inj h
  subst h
  exact ws_seq (ws_retv (d := (D.int (t2.length : Int))) (ρ1 := [.val (D.tup (List.map D.int numbers_))]) (ev_blt1 (fr := false) (ev_call (fr := true) (d := (D.lst (List.map en_TI t2))) (ea_cons (ev_val rfl) rfl ea_nil) rfl List.nodup_nil rfl (F_kinds_with_ok (n + 3) numbers_ t2 e_t2) rfl) rfl v_len_l) rfl)

def F__law_counted (chest_ : (List Int)) : Option (Bool × (List Int)) :=
  (F__law_less chest_ 5).bind fun t1 => (lofM (0 - 9) 10).bind fun t2 => (F__law_shuffled t1.2 t2).bind fun t3 => (sortM D.int (cutT t3.1 none (some (1 + t1.1)))).bind fun t4 => (rng1M 4).bind fun t5 => (forL t5 ([([] : (List Int))] : (List (List Int))) fun (s6 : ((List (List Int)))) (x7 : Int) => (forL s6 ([] : (List (List Int))) fun (s8 : ((List (List Int)))) (x9 : (List Int)) => (LcP t4 fun x10 => (catM x9 ([x10] : (List Int))).bind fun t11 => some t11).bind fun t12 => (catM s8 t12).bind fun t13 => some t13).bind fun o14 => some o14).bind fun o15 => (forL o15 ([] : (List ((List Int) × Bool))) fun (s16 : ((List ((List Int) × Bool)))) (x17 : (List Int)) => (F__law_first_turned x17).bind fun t18 => (dputM s16 t18 true).bind fun t19 => some t19).bind fun o20 => (some ([(o15.length : Int), (o20.length : Int)] : (List Int))).bind fun v21 => (mulM (1 + t1.1) (1 + t1.1)).bind fun t22 => (mulM t22 (1 + t1.1)).bind fun t23 => (mulM t23 (1 + t1.1)).bind fun t24 => (mulM (1 + t1.1) (1 + t1.1)).bind fun t25 => (mulM t25 (1 + t1.1)).bind fun t26 => (mulM t26 (1 + t1.1)).bind fun t27 => (mulM (1 + t1.1) (1 + t1.1)).bind fun t28 => (mulM 2 (1 + t1.1)).bind fun t29 => (fdivM ((t27 + t28) + t29) 4).bind fun t30 => if (!decide (v21 = ([t24, t30] : (List Int)))) = true then (some (false, t3.2)) else ((F_how_many_pieces t4).bind fun t31 => (F_how_many_kinds_of t4).bind fun t32 => (F_sameL (D.lst (List.map D.int ([t31, t32] : (List Int)))) (D.lst (List.map D.int v21))).bind fun t33 => if (!t33) = true then (some (false, t3.2)) else ((F_how_many_pieces t4).bind fun t34 => (F_how_many_kinds_of t4).bind fun t35 => (F_sameL (D.lst (List.map D.int ([t34, t35] : (List Int)))) (D.lst (List.map D.int v21))).bind fun t36 => some (t36, t3.2)))
theorem F__law_counted_ok (n : Nat) (chest_ : (List Int)) (r : (Bool × (List Int))) (h : F__law_counted chest_ = some r) : callN T (n + 21) 27 [true] [(D.lst (List.map D.int chest_))] = some ((D.bl r.1), false, [(D.lst (List.map D.int r.2))]) := by
  unfold F__law_counted at h
  refine call_ws (T := T) (n := n + 20) (f := 27) (df := d27) (ρ0 := [.io (D.lst (List.map D.int chest_)), .un, .un, .un, .un, .un, .un, .un, .un, .un]) rfl rfl rfl rfl rfl ?_
  show WS _ _ [.io (D.lst (List.map D.int chest_)), .un, .un, .un, .un, .un, .un, .un, .un, .un] _ _
  refine obE h (fun t1 e_t1 h => ?_)
  refine ws_seq (ws_asgv (ev_bin (b3 := false) ev_con (ev_call (fr := false) (d := (D.int t1.1)) (ρ2 := [.io (D.lst (List.map D.int t1.2)), .un, .un, .un, .un, .un, .un, .un, .un, .un]) (ea_io rfl (ea_cons ev_con rfl ea_nil)) rfl nd1 rfl (F__law_less_ok (n + 19) chest_ 5 t1 e_t1) rfl) rfl v_add) rfl (Nat.le_of_ble_eq_true rfl) ?_)
  show WS _ _ [.io (D.lst (List.map D.int t1.2)), .val (D.int (1 + t1.1)), .un, .un, .un, .un, .un, .un, .un, .un] _ _
  refine obE h (fun t2 e_t2 h => ?_)
  refine obE h (fun t3 e_t3 h => ?_)
  refine obE h (fun t4 e_t4 h => ?_)
  refine ws_seq (ws_asgv (ev_blt1 (fr := false) (ev_blt1 (fr := true) (ev_sl (b3 := false) (ev_call (fr := false) (d := (D.tup (List.map D.int t3.1))) (ρ2 := [.io (D.lst (List.map D.int t3.2)), .val (D.int (1 + t1.1)), .un, .un, .un, .un, .un, .un, .un, .un]) (ea_io rfl (ea_cons (ev_lof2 (ev_bin (b3 := false) ev_con ev_con rfl v_sub) ev_con e_t2) rfl ea_nil)) rfl nd1 rfl (F__law_shuffled_ok (n + 18) t1.2 t2 t3 e_t3) rfl) eo_nil (eo_cons (ev_val rfl)) rfl v_sl_t) rfl (v_sorted_t e_t4)) rfl rfl) rfl (Nat.le_of_ble_eq_true rfl) ?_)
  show WS _ _ [.io (D.lst (List.map D.int t3.2)), .val (D.int (1 + t1.1)), .val (D.tup (List.map D.int t4)), .un, .un, .un, .un, .un, .un, .un] _ _
  refine ws_seq (ws_par (xs := [((D.lst (List.map en_TI ([([] : (List Int))] : (List (List Int))))), .fr), ((D.dct (dctE en_TI D.bl ([] : (List ((List Int) × Bool))))), .fr)]) (ρ1 := [.io (D.lst (List.map D.int t3.2)), .val (D.int (1 + t1.1)), .val (D.tup (List.map D.int t4)), .un, .un, .un, .un, .un, .un, .un]) (ρ2 := [.io (D.lst (List.map D.int t3.2)), .val (D.int (1 + t1.1)), .val (D.tup (List.map D.int t4)), .own (D.lst (List.map en_TI ([([] : (List Int))] : (List (List Int))))), .own (D.dct (dctE en_TI D.bl ([] : (List ((List Int) × Bool))))), .un, .un, .un, .un, .un]) (em_cons (ev_lst (ds := [(D.tup (List.map D.int ([] : (List Int))))]) (el_cons (ev_tup (ds := []) el_nil (szk 0 rfl rfl)) rfl el_nil) (szk 1 rfl rfl)) rfl (em_cons ev_dnew rfl em_nil)) (eu_o rfl (Nat.le_of_ble_eq_true rfl) (eu_o rfl (Nat.le_of_ble_eq_true rfl) eu_nil)) ?_)
  show WS _ _ [.io (D.lst (List.map D.int t3.2)), .val (D.int (1 + t1.1)), .val (D.tup (List.map D.int t4)), .own (D.lst (List.map en_TI ([([] : (List Int))] : (List (List Int))))), .own (D.dct (dctE en_TI D.bl ([] : (List ((List Int) × Bool))))), .un, .un, .un, .un, .un] _ _
  refine obE h (fun t5 e_t5 h => ?_)
  refine obE h (fun o15 e_o15 h => ?_)
  refine ws_seq (ws_forL (f := D.int) (fun (s6 : ((List (List Int)))) ρ' => (∃ us6_5, plainS us6_5 = true ∧ ∃ us6_6, plainS us6_6 = true ∧ ∃ us6_7, plainS us6_7 = true ∧ ρ' = [.io (D.lst (List.map D.int t3.2)), .val (D.int (1 + t1.1)), .val (D.tup (List.map D.int t4)), .own (D.lst (List.map en_TI s6)), .own (D.dct (dctE en_TI D.bl ([] : (List ((List Int) × Bool))))), us6_5, us6_6, us6_7, .un, .un]) ∨ (∃ us6_5, plainS us6_5 = true ∧ ∃ us6_6, plainS us6_6 = true ∧ ∃ us6_7, plainS us6_7 = true ∧ ρ' = [.io (D.lst (List.map D.int t3.2)), .val (D.int (1 + t1.1)), .val (D.tup (List.map D.int t4)), .val (D.lst (List.map en_TI s6)), .own (D.dct (dctE en_TI D.bl ([] : (List ((List Int) × Bool))))), us6_5, us6_6, us6_7, .un, .un])) (ei_rng1 ev_con e_t5) (Or.inl ⟨_, rfl, _, rfl, _, rfl, rfl⟩) ?_ e_o15 ?_)
  · rintro s6 x7 o_o15 ρ (⟨us6_5, n_us6_5, us6_6, n_us6_6, us6_7, n_us6_7, rfl⟩ | ⟨us6_5, n_us6_5, us6_6, n_us6_6, us6_7, n_us6_7, rfl⟩) h
    · skip
      refine ⟨[.io (D.lst (List.map D.int t3.2)), .val (D.int (1 + t1.1)), .val (D.tup (List.map D.int t4)), .own (D.lst (List.map en_TI s6)), .own (D.dct (dctE en_TI D.bl ([] : (List ((List Int) × Bool))))), .val (D.int x7), us6_6, us6_7, .un, .un], (eg_var (pl_notIo n_us6_5) (Nat.le_of_ble_eq_true rfl)), ?_⟩
      refine ws_seq (ws_asgo (ev_lst (ds := []) el_nil (szk 0 rfl rfl)) (pl_notIo n_us6_6) (Nat.le_of_ble_eq_true rfl) ?_)
      show WS _ _ [.io (D.lst (List.map D.int t3.2)), .val (D.int (1 + t1.1)), .val (D.tup (List.map D.int t4)), .own (D.lst (List.map en_TI s6)), .own (D.dct (dctE en_TI D.bl ([] : (List ((List Int) × Bool))))), .val (D.int x7), .own (D.lst (List.map en_TI ([] : (List (List Int))))), us6_7, .un, .un] _ _
      refine obE h (fun o14 e_o14 h => ?_)
      refine ws_seq (ws_forL (f := en_TI) (fun (s8 : ((List (List Int)))) ρ' => (∃ us8_7, plainS us8_7 = true ∧ ρ' = [.io (D.lst (List.map D.int t3.2)), .val (D.int (1 + t1.1)), .val (D.tup (List.map D.int t4)), .val (D.lst (List.map en_TI s6)), .own (D.dct (dctE en_TI D.bl ([] : (List ((List Int) × Bool))))), .val (D.int x7), .own (D.lst (List.map en_TI s8)), us8_7, .un, .un])) (ei_it (d := (D.lst (List.map en_TI s6))) (ev_own rfl) rfl rfl) ⟨_, n_us6_7, rfl⟩ ?_ e_o14 ?_)
      · rintro s8 x9 o_o14 ρ ⟨us8_7, n_us8_7, rfl⟩ h
        refine ⟨[.io (D.lst (List.map D.int t3.2)), .val (D.int (1 + t1.1)), .val (D.tup (List.map D.int t4)), .val (D.lst (List.map en_TI s6)), .own (D.dct (dctE en_TI D.bl ([] : (List ((List Int) × Bool))))), .val (D.int x7), .own (D.lst (List.map en_TI s8)), .val (D.tup (List.map D.int x9)), .un, .un], (eg_var (pl_notIo n_us8_7) (Nat.le_of_ble_eq_true rfl)), ?_⟩
        refine obE h (fun t12 e_t12 h => ?_)
        refine obE h (fun t13 e_t13 h => ?_)
        refine ws_seq (ws_asgo (ev_bin (b3 := true) (ev_own rfl) (ev_LcP (f := D.int) (u := en_TI) (k := .frz) (base := [.io (D.lst (List.map D.int t3.2)), .val (D.int (1 + t1.1)), .val (D.tup (List.map D.int t4)), .val (D.lst (List.map en_TI s6)), .own (D.dct (dctE en_TI D.bl ([] : (List ((List Int) × Bool))))), .val (D.int x7), .own (D.lst (List.map en_TI s8)), .val (D.tup (List.map D.int x9)), .un, .un]) (fun x10 => [.io (D.lst (List.map D.int t3.2)), .val (D.int (1 + t1.1)), .val (D.tup (List.map D.int t4)), .val (D.lst (List.map en_TI s6)), .own (D.dct (dctE en_TI D.bl ([] : (List ((List Int) × Bool))))), .val (D.int x7), .own (D.lst (List.map en_TI s8)), .val (D.tup (List.map D.int x9)), .val (D.int x10), .un]) rfl (ei_it (d := (D.tup (List.map D.int t4))) (ev_val rfl) rfl rfl) rfl (fun _ => rfl) (fun x10 => (eg_var rfl (Nat.le_of_ble_eq_true rfl))) (fun x10 y h => by (refine obE h (fun t11 e_t11 h => ?_); have h := Option.some.inj h; subst h; exact (ev_bin (b3 := false) (ev_val rfl) (ev_tup (ds := [(D.int x10)]) (el_cons (ev_val rfl) rfl el_nil) (szk 1 rfl rfl)) rfl (v_cat_t (e := D.int) e_t11)))) (fun _ _ => rfl) e_t12 rfl (fun _ => rfl)) rfl (v_cat_l (e := en_TI) e_t13)) rfl (Nat.le_of_ble_eq_true rfl) ?_)
        show WS _ _ [.io (D.lst (List.map D.int t3.2)), .val (D.int (1 + t1.1)), .val (D.tup (List.map D.int t4)), .val (D.lst (List.map en_TI s6)), .own (D.dct (dctE en_TI D.bl ([] : (List ((List Int) × Bool))))), .val (D.int x7), .own (D.lst (List.map en_TI t13)), .val (D.tup (List.map D.int x9)), .un, .un] _ _
        refine ws_skip ?_
        have h := Option.some.inj h
        subst h
        exact ⟨_, rfl, rfl⟩
      · rintro ρ' ⟨us8_7, n_us8_7, rfl⟩
        refine ws_seq (ws_asg (k2 := .frz) (ρ2 := [.io (D.lst (List.map D.int t3.2)), .val (D.int (1 + t1.1)), .val (D.tup (List.map D.int t4)), .val (D.lst (List.map en_TI s6)), .own (D.dct (dctE en_TI D.bl ([] : (List ((List Int) × Bool))))), .val (D.int x7), .val (D.lst (List.map en_TI o14)), us8_7, .un, .un]) (ev_own rfl) rfl (eg_var rfl (Nat.le_of_ble_eq_true rfl)) ?_)
        show WS _ _ [.io (D.lst (List.map D.int t3.2)), .val (D.int (1 + t1.1)), .val (D.tup (List.map D.int t4)), .val (D.lst (List.map en_TI o14)), .own (D.dct (dctE en_TI D.bl ([] : (List ((List Int) × Bool))))), .val (D.int x7), .val (D.lst (List.map en_TI o14)), us8_7, .un, .un] _ _
        refine ws_skip ?_
        have h := Option.some.inj h
        subst h
        exact (Or.inr ⟨_, rfl, _, rfl, _, n_us8_7, rfl⟩)
    · skip
      refine ⟨[.io (D.lst (List.map D.int t3.2)), .val (D.int (1 + t1.1)), .val (D.tup (List.map D.int t4)), .val (D.lst (List.map en_TI s6)), .own (D.dct (dctE en_TI D.bl ([] : (List ((List Int) × Bool))))), .val (D.int x7), us6_6, us6_7, .un, .un], (eg_var (pl_notIo n_us6_5) (Nat.le_of_ble_eq_true rfl)), ?_⟩
      refine ws_seq (ws_asgo (ev_lst (ds := []) el_nil (szk 0 rfl rfl)) (pl_notIo n_us6_6) (Nat.le_of_ble_eq_true rfl) ?_)
      show WS _ _ [.io (D.lst (List.map D.int t3.2)), .val (D.int (1 + t1.1)), .val (D.tup (List.map D.int t4)), .val (D.lst (List.map en_TI s6)), .own (D.dct (dctE en_TI D.bl ([] : (List ((List Int) × Bool))))), .val (D.int x7), .own (D.lst (List.map en_TI ([] : (List (List Int))))), us6_7, .un, .un] _ _
      refine obE h (fun o14 e_o14 h => ?_)
      refine ws_seq (ws_forL (f := en_TI) (fun (s8 : ((List (List Int)))) ρ' => (∃ us8_7, plainS us8_7 = true ∧ ρ' = [.io (D.lst (List.map D.int t3.2)), .val (D.int (1 + t1.1)), .val (D.tup (List.map D.int t4)), .val (D.lst (List.map en_TI s6)), .own (D.dct (dctE en_TI D.bl ([] : (List ((List Int) × Bool))))), .val (D.int x7), .own (D.lst (List.map en_TI s8)), us8_7, .un, .un])) (ei_it (d := (D.lst (List.map en_TI s6))) (ev_val rfl) rfl rfl) ⟨_, n_us6_7, rfl⟩ ?_ e_o14 ?_)
      · rintro s8 x9 o_o14 ρ ⟨us8_7, n_us8_7, rfl⟩ h
        refine ⟨[.io (D.lst (List.map D.int t3.2)), .val (D.int (1 + t1.1)), .val (D.tup (List.map D.int t4)), .val (D.lst (List.map en_TI s6)), .own (D.dct (dctE en_TI D.bl ([] : (List ((List Int) × Bool))))), .val (D.int x7), .own (D.lst (List.map en_TI s8)), .val (D.tup (List.map D.int x9)), .un, .un], (eg_var (pl_notIo n_us8_7) (Nat.le_of_ble_eq_true rfl)), ?_⟩
        refine obE h (fun t12 e_t12 h => ?_)
        refine obE h (fun t13 e_t13 h => ?_)
        refine ws_seq (ws_asgo (ev_bin (b3 := true) (ev_own rfl) (ev_LcP (f := D.int) (u := en_TI) (k := .frz) (base := [.io (D.lst (List.map D.int t3.2)), .val (D.int (1 + t1.1)), .val (D.tup (List.map D.int t4)), .val (D.lst (List.map en_TI s6)), .own (D.dct (dctE en_TI D.bl ([] : (List ((List Int) × Bool))))), .val (D.int x7), .own (D.lst (List.map en_TI s8)), .val (D.tup (List.map D.int x9)), .un, .un]) (fun x10 => [.io (D.lst (List.map D.int t3.2)), .val (D.int (1 + t1.1)), .val (D.tup (List.map D.int t4)), .val (D.lst (List.map en_TI s6)), .own (D.dct (dctE en_TI D.bl ([] : (List ((List Int) × Bool))))), .val (D.int x7), .own (D.lst (List.map en_TI s8)), .val (D.tup (List.map D.int x9)), .val (D.int x10), .un]) rfl (ei_it (d := (D.tup (List.map D.int t4))) (ev_val rfl) rfl rfl) rfl (fun _ => rfl) (fun x10 => (eg_var rfl (Nat.le_of_ble_eq_true rfl))) (fun x10 y h => by (refine obE h (fun t11 e_t11 h => ?_); have h := Option.some.inj h; subst h; exact (ev_bin (b3 := false) (ev_val rfl) (ev_tup (ds := [(D.int x10)]) (el_cons (ev_val rfl) rfl el_nil) (szk 1 rfl rfl)) rfl (v_cat_t (e := D.int) e_t11)))) (fun _ _ => rfl) e_t12 rfl (fun _ => rfl)) rfl (v_cat_l (e := en_TI) e_t13)) rfl (Nat.le_of_ble_eq_true rfl) ?_)
        show WS _ _ [.io (D.lst (List.map D.int t3.2)), .val (D.int (1 + t1.1)), .val (D.tup (List.map D.int t4)), .val (D.lst (List.map en_TI s6)), .own (D.dct (dctE en_TI D.bl ([] : (List ((List Int) × Bool))))), .val (D.int x7), .own (D.lst (List.map en_TI t13)), .val (D.tup (List.map D.int x9)), .un, .un] _ _
        refine ws_skip ?_
        have h := Option.some.inj h
        subst h
        exact ⟨_, rfl, rfl⟩
      · rintro ρ' ⟨us8_7, n_us8_7, rfl⟩
        refine ws_seq (ws_asg (k2 := .frz) (ρ2 := [.io (D.lst (List.map D.int t3.2)), .val (D.int (1 + t1.1)), .val (D.tup (List.map D.int t4)), .val (D.lst (List.map en_TI s6)), .own (D.dct (dctE en_TI D.bl ([] : (List ((List Int) × Bool))))), .val (D.int x7), .val (D.lst (List.map en_TI o14)), us8_7, .un, .un]) (ev_own rfl) rfl (eg_var rfl (Nat.le_of_ble_eq_true rfl)) ?_)
        show WS _ _ [.io (D.lst (List.map D.int t3.2)), .val (D.int (1 + t1.1)), .val (D.tup (List.map D.int t4)), .val (D.lst (List.map en_TI o14)), .own (D.dct (dctE en_TI D.bl ([] : (List ((List Int) × Bool))))), .val (D.int x7), .val (D.lst (List.map en_TI o14)), us8_7, .un, .un] _ _
        refine ws_skip ?_
        have h := Option.some.inj h
        subst h
        exact (Or.inr ⟨_, rfl, _, rfl, _, n_us8_7, rfl⟩)
  · rintro ρ' (⟨us6_5, n_us6_5, us6_6, n_us6_6, us6_7, n_us6_7, rfl⟩ | ⟨us6_5, n_us6_5, us6_6, n_us6_6, us6_7, n_us6_7, rfl⟩)
    · skip
      refine obE h (fun o20 e_o20 h => ?_)
      refine ws_seq (ws_forL (f := en_TI) (fun (s16 : ((List ((List Int) × Bool)))) ρ' => (∃ us16_7, plainS us16_7 = true ∧ ρ' = [.io (D.lst (List.map D.int t3.2)), .val (D.int (1 + t1.1)), .val (D.tup (List.map D.int t4)), .val (D.lst (List.map en_TI o15)), .own (D.dct (dctE en_TI D.bl s16)), us6_5, us6_6, us16_7, .un, .un])) (ei_it (d := (D.lst (List.map en_TI o15))) (ev_own rfl) rfl rfl) ⟨_, n_us6_7, rfl⟩ ?_ e_o20 ?_)
      · rintro s16 x17 o_o20 ρ ⟨us16_7, n_us16_7, rfl⟩ h
        refine ⟨[.io (D.lst (List.map D.int t3.2)), .val (D.int (1 + t1.1)), .val (D.tup (List.map D.int t4)), .val (D.lst (List.map en_TI o15)), .own (D.dct (dctE en_TI D.bl s16)), us6_5, us6_6, .val (D.tup (List.map D.int x17)), .un, .un], (eg_var (pl_notIo n_us16_7) (Nat.le_of_ble_eq_true rfl)), ?_⟩
        refine obE h (fun t18 e_t18 h => ?_)
        refine obE h (fun t19 e_t19 h => ?_)
        refine ws_seq (ws_asg (d := (D.bl true)) (k2 := .frz) (ρ2 := [.io (D.lst (List.map D.int t3.2)), .val (D.int (1 + t1.1)), .val (D.tup (List.map D.int t4)), .val (D.lst (List.map en_TI o15)), .own (D.dct (dctE en_TI D.bl s16)), us6_5, us6_6, .val (D.tup (List.map D.int x17)), .un, .un]) (ρ3 := [.io (D.lst (List.map D.int t3.2)), .val (D.int (1 + t1.1)), .val (D.tup (List.map D.int t4)), .val (D.lst (List.map en_TI o15)), .own (D.dct (dctE en_TI D.bl t19)), us6_5, us6_6, .val (D.tup (List.map D.int x17)), .un, .un]) ev_con rfl (eg_idx rfl (ev_call (fr := false) (d := (D.tup (List.map D.int t18))) (ea_cons (ev_val rfl) rfl ea_nil) rfl List.nodup_nil rfl (F__law_first_turned_ok (n + 18) x17 t18 e_t18) rfl) (v_store_do (f := en_TI) (g := D.bl) (a := t18) (x := true) (keyC (nkc_t nkc_int) rfl) rfl e_t19)) ?_)
        show WS _ _ [.io (D.lst (List.map D.int t3.2)), .val (D.int (1 + t1.1)), .val (D.tup (List.map D.int t4)), .val (D.lst (List.map en_TI o15)), .own (D.dct (dctE en_TI D.bl t19)), us6_5, us6_6, .val (D.tup (List.map D.int x17)), .un, .un] _ _
        refine ws_skip ?_
        have h := Option.some.inj h
        subst h
        exact ⟨_, rfl, rfl⟩
      · rintro ρ' ⟨us16_7, n_us16_7, rfl⟩
        refine obE h (fun v21 e_v21 h => ?_)
        have e_v21 := inj e_v21
        refine ws_seq (ws_asgo (d := (D.lst (List.map D.int v21))) (ρ1 := [.io (D.lst (List.map D.int t3.2)), .val (D.int (1 + t1.1)), .val (D.tup (List.map D.int t4)), .val (D.lst (List.map en_TI o15)), .own (D.dct (dctE en_TI D.bl o20)), us6_5, us6_6, us16_7, .un, .un]) (by (rw [e_v21]; exact (ev_lst (ds := [(D.int (o15.length : Int)), (D.int (o20.length : Int))]) (el_cons (ev_blt1 (fr := false) (ev_val rfl) rfl v_len_l) rfl (el_cons (ev_blt1 (fr := false) (ev_own rfl) rfl (v_len_d (f := en_TI) (g := D.bl))) rfl el_nil)) (szk 2 rfl rfl)))) rfl (Nat.le_of_ble_eq_true rfl) ?_)
        show WS _ _ [.io (D.lst (List.map D.int t3.2)), .val (D.int (1 + t1.1)), .val (D.tup (List.map D.int t4)), .val (D.lst (List.map en_TI o15)), .own (D.dct (dctE en_TI D.bl o20)), us6_5, us6_6, us16_7, .un, .own (D.lst (List.map D.int v21))] _ _
        refine obE h (fun t22 e_t22 h => ?_)
        refine obE h (fun t23 e_t23 h => ?_)
        refine obE h (fun t24 e_t24 h => ?_)
        refine obE h (fun t25 e_t25 h => ?_)
        refine obE h (fun t26 e_t26 h => ?_)
        refine obE h (fun t27 e_t27 h => ?_)
        refine obE h (fun t28 e_t28 h => ?_)
        refine obE h (fun t29 e_t29 h => ?_)
        refine obE h (fun t30 e_t30 h => ?_)
        refine ws_seq (ws_ite (et_bl (ev_cmp (ev_own rfl) (ev_lst (ds := [(D.int t24), (D.int t30)]) (el_cons (ev_bin (b3 := false) (ev_bin (b3 := false) (ev_bin (b3 := false) (ev_val rfl) (ev_val rfl) rfl (v_mul e_t22)) (ev_val rfl) rfl (v_mul e_t23)) (ev_val rfl) rfl (v_mul e_t24)) rfl (el_cons (ev_bin (b3 := false) (ev_bin (b3 := false) (ev_bin (b3 := false) (ev_bin (b3 := false) (ev_bin (b3 := false) (ev_bin (b3 := false) (ev_val rfl) (ev_val rfl) rfl (v_mul e_t25)) (ev_val rfl) rfl (v_mul e_t26)) (ev_val rfl) rfl (v_mul e_t27)) (ev_bin (b3 := false) (ev_val rfl) (ev_val rfl) rfl (v_mul e_t28)) rfl v_add) (ev_bin (b3 := false) ev_con (ev_val rfl) rfl (v_mul e_t29)) rfl v_add) ev_con rfl (v_fdiv e_t30)) rfl el_nil)) (szk 2 rfl rfl)) rfl (v_ne (a := v21) (b := ([t24, t30] : (List Int))) (eqc_l eqc_int) (by decide)))) (fun hv => ?_) (fun hv => ?_))
        · rw [ifT hv] at h
          have h := Option.some.inj h
          subst h
          exact ws_seq (ws_retv (d := (D.bl false)) (ρ1 := [.io (D.lst (List.map D.int t3.2)), .val (D.int (1 + t1.1)), .val (D.tup (List.map D.int t4)), .val (D.lst (List.map en_TI o15)), .own (D.dct (dctE en_TI D.bl o20)), us6_5, us6_6, us16_7, .un, .own (D.lst (List.map D.int v21))]) ev_con rfl)
        · rw [ifF hv] at h
          refine ws_skip ?_
          refine obE h (fun t31 e_t31 h => ?_)
          refine obE h (fun t32 e_t32 h => ?_)
          refine obE h (fun t33 e_t33 h => ?_)
          refine ws_seq (ws_ite (et_not (v := t33) (et_bl (ev_call (fr := false) (d := (D.bl t33)) (ea_cons (ev_lst (ds := [(D.int t31), (D.int t32)]) (el_cons (ev_call (fr := false) (d := (D.int t31)) (ea_cons (ev_val rfl) rfl ea_nil) rfl List.nodup_nil rfl (F_how_many_pieces_ok (n + 12) t4 t31 e_t31) rfl) rfl (el_cons (ev_call (fr := false) (d := (D.int t32)) (ea_cons (ev_val rfl) rfl ea_nil) rfl List.nodup_nil rfl (F_how_many_kinds_of_ok (n + 12) t4 t32 e_t32) rfl) rfl el_nil)) (szk 2 rfl rfl)) rfl (ea_cons (ev_own rfl) rfl ea_nil)) rfl List.nodup_nil rfl (F_sameL_ok n (D.lst (List.map D.int ([t31, t32] : (List Int)))) (D.lst (List.map D.int v21)) t33 e_t33) rfl))) (fun hv => ?_) (fun hv => ?_))
          · rw [ifT hv] at h
            have h := Option.some.inj h
            subst h
            exact ws_seq (ws_retv (d := (D.bl false)) (ρ1 := [.io (D.lst (List.map D.int t3.2)), .val (D.int (1 + t1.1)), .val (D.tup (List.map D.int t4)), .val (D.lst (List.map en_TI o15)), .own (D.dct (dctE en_TI D.bl o20)), us6_5, us6_6, us16_7, .un, .val (D.lst (List.map D.int v21))]) ev_con rfl)
          · rw [ifF hv] at h
            refine ws_skip ?_
            refine obE h (fun t34 e_t34 h => ?_)
            refine obE h (fun t35 e_t35 h => ?_)
            refine obE h (fun t36 e_t36 h => ?_)
            have h := Option.some.inj h
            subst h
            exact ws_seq (ws_retv (d := (D.bl t36)) (ρ1 := [.io (D.lst (List.map D.int t3.2)), .val (D.int (1 + t1.1)), .val (D.tup (List.map D.int t4)), .val (D.lst (List.map en_TI o15)), .own (D.dct (dctE en_TI D.bl o20)), us6_5, us6_6, us16_7, .un, .val (D.lst (List.map D.int v21))]) (ev_call (fr := false) (d := (D.bl t36)) (ea_cons (ev_lst (ds := [(D.int t34), (D.int t35)]) (el_cons (ev_callk (fr := false) (d := (D.int t34)) ea_nil (ea_cons (ev_val rfl) rfl ea_nil) rfl rfl List.nodup_nil rfl (F_how_many_pieces_ok (n + 12) t4 t34 e_t34) rfl) rfl (el_cons (ev_callk (fr := false) (d := (D.int t35)) ea_nil (ea_cons (ev_val rfl) rfl ea_nil) rfl rfl List.nodup_nil rfl (F_how_many_kinds_of_ok (n + 12) t4 t35 e_t35) rfl) rfl el_nil)) (szk 2 rfl rfl)) rfl (ea_cons (ev_val rfl) rfl ea_nil)) rfl List.nodup_nil rfl (F_sameL_ok n (D.lst (List.map D.int ([t34, t35] : (List Int)))) (D.lst (List.map D.int v21)) t36 e_t36) rfl) rfl)
    · skip
      refine obE h (fun o20 e_o20 h => ?_)
      refine ws_seq (ws_forL (f := en_TI) (fun (s16 : ((List ((List Int) × Bool)))) ρ' => (∃ us16_7, plainS us16_7 = true ∧ ρ' = [.io (D.lst (List.map D.int t3.2)), .val (D.int (1 + t1.1)), .val (D.tup (List.map D.int t4)), .val (D.lst (List.map en_TI o15)), .own (D.dct (dctE en_TI D.bl s16)), us6_5, us6_6, us16_7, .un, .un])) (ei_it (d := (D.lst (List.map en_TI o15))) (ev_val rfl) rfl rfl) ⟨_, n_us6_7, rfl⟩ ?_ e_o20 ?_)
      · rintro s16 x17 o_o20 ρ ⟨us16_7, n_us16_7, rfl⟩ h
        refine ⟨[.io (D.lst (List.map D.int t3.2)), .val (D.int (1 + t1.1)), .val (D.tup (List.map D.int t4)), .val (D.lst (List.map en_TI o15)), .own (D.dct (dctE en_TI D.bl s16)), us6_5, us6_6, .val (D.tup (List.map D.int x17)), .un, .un], (eg_var (pl_notIo n_us16_7) (Nat.le_of_ble_eq_true rfl)), ?_⟩
        refine obE h (fun t18 e_t18 h => ?_)
        refine obE h (fun t19 e_t19 h => ?_)
        refine ws_seq (ws_asg (d := (D.bl true)) (k2 := .frz) (ρ2 := [.io (D.lst (List.map D.int t3.2)), .val (D.int (1 + t1.1)), .val (D.tup (List.map D.int t4)), .val (D.lst (List.map en_TI o15)), .own (D.dct (dctE en_TI D.bl s16)), us6_5, us6_6, .val (D.tup (List.map D.int x17)), .un, .un]) (ρ3 := [.io (D.lst (List.map D.int t3.2)), .val (D.int (1 + t1.1)), .val (D.tup (List.map D.int t4)), .val (D.lst (List.map en_TI o15)), .own (D.dct (dctE en_TI D.bl t19)), us6_5, us6_6, .val (D.tup (List.map D.int x17)), .un, .un]) ev_con rfl (eg_idx rfl (ev_call (fr := false) (d := (D.tup (List.map D.int t18))) (ea_cons (ev_val rfl) rfl ea_nil) rfl List.nodup_nil rfl (F__law_first_turned_ok (n + 18) x17 t18 e_t18) rfl) (v_store_do (f := en_TI) (g := D.bl) (a := t18) (x := true) (keyC (nkc_t nkc_int) rfl) rfl e_t19)) ?_)
        show WS _ _ [.io (D.lst (List.map D.int t3.2)), .val (D.int (1 + t1.1)), .val (D.tup (List.map D.int t4)), .val (D.lst (List.map en_TI o15)), .own (D.dct (dctE en_TI D.bl t19)), us6_5, us6_6, .val (D.tup (List.map D.int x17)), .un, .un] _ _
        refine ws_skip ?_
        have h := Option.some.inj h
        subst h
        exact ⟨_, rfl, rfl⟩
      · rintro ρ' ⟨us16_7, n_us16_7, rfl⟩
        refine obE h (fun v21 e_v21 h => ?_)
        have e_v21 := inj e_v21
        refine ws_seq (ws_asgo (d := (D.lst (List.map D.int v21))) (ρ1 := [.io (D.lst (List.map D.int t3.2)), .val (D.int (1 + t1.1)), .val (D.tup (List.map D.int t4)), .val (D.lst (List.map en_TI o15)), .own (D.dct (dctE en_TI D.bl o20)), us6_5, us6_6, us16_7, .un, .un]) (by (rw [e_v21]; exact (ev_lst (ds := [(D.int (o15.length : Int)), (D.int (o20.length : Int))]) (el_cons (ev_blt1 (fr := false) (ev_val rfl) rfl v_len_l) rfl (el_cons (ev_blt1 (fr := false) (ev_own rfl) rfl (v_len_d (f := en_TI) (g := D.bl))) rfl el_nil)) (szk 2 rfl rfl)))) rfl (Nat.le_of_ble_eq_true rfl) ?_)
        show WS _ _ [.io (D.lst (List.map D.int t3.2)), .val (D.int (1 + t1.1)), .val (D.tup (List.map D.int t4)), .val (D.lst (List.map en_TI o15)), .own (D.dct (dctE en_TI D.bl o20)), us6_5, us6_6, us16_7, .un, .own (D.lst (List.map D.int v21))] _ _
        refine obE h (fun t22 e_t22 h => ?_)
        refine obE h (fun t23 e_t23 h => ?_)
        refine obE h (fun t24 e_t24 h => ?_)
        refine obE h (fun t25 e_t25 h => ?_)
        refine obE h (fun t26 e_t26 h => ?_)
        refine obE h (fun t27 e_t27 h => ?_)
        refine obE h (fun t28 e_t28 h => ?_)
        refine obE h (fun t29 e_t29 h => ?_)
        refine obE h (fun t30 e_t30 h => ?_)
        refine ws_seq (ws_ite (et_bl (ev_cmp (ev_own rfl) (ev_lst (ds := [(D.int t24), (D.int t30)]) (el_cons (ev_bin (b3 := false) (ev_bin (b3 := false) (ev_bin (b3 := false) (ev_val rfl) (ev_val rfl) rfl (v_mul e_t22)) (ev_val rfl) rfl (v_mul e_t23)) (ev_val rfl) rfl (v_mul e_t24)) rfl (el_cons (ev_bin (b3 := false) (ev_bin (b3 := false) (ev_bin (b3 := false) (ev_bin (b3 := false) (ev_bin (b3 := false) (ev_bin (b3 := false) (ev_val rfl) (ev_val rfl) rfl (v_mul e_t25)) (ev_val rfl) rfl (v_mul e_t26)) (ev_val rfl) rfl (v_mul e_t27)) (ev_bin (b3 := false) (ev_val rfl) (ev_val rfl) rfl (v_mul e_t28)) rfl v_add) (ev_bin (b3 := false) ev_con (ev_val rfl) rfl (v_mul e_t29)) rfl v_add) ev_con rfl (v_fdiv e_t30)) rfl el_nil)) (szk 2 rfl rfl)) rfl (v_ne (a := v21) (b := ([t24, t30] : (List Int))) (eqc_l eqc_int) (by decide)))) (fun hv => ?_) (fun hv => ?_))
        · rw [ifT hv] at h
          have h := Option.some.inj h
          subst h
          exact ws_seq (ws_retv (d := (D.bl false)) (ρ1 := [.io (D.lst (List.map D.int t3.2)), .val (D.int (1 + t1.1)), .val (D.tup (List.map D.int t4)), .val (D.lst (List.map en_TI o15)), .own (D.dct (dctE en_TI D.bl o20)), us6_5, us6_6, us16_7, .un, .own (D.lst (List.map D.int v21))]) ev_con rfl)
        · rw [ifF hv] at h
          refine ws_skip ?_
          refine obE h (fun t31 e_t31 h => ?_)
          refine obE h (fun t32 e_t32 h => ?_)
          refine obE h (fun t33 e_t33 h => ?_)
          refine ws_seq (ws_ite (et_not (v := t33) (et_bl (ev_call (fr := false) (d := (D.bl t33)) (ea_cons (ev_lst (ds := [(D.int t31), (D.int t32)]) (el_cons (ev_call (fr := false) (d := (D.int t31)) (ea_cons (ev_val rfl) rfl ea_nil) rfl List.nodup_nil rfl (F_how_many_pieces_ok (n + 12) t4 t31 e_t31) rfl) rfl (el_cons (ev_call (fr := false) (d := (D.int t32)) (ea_cons (ev_val rfl) rfl ea_nil) rfl List.nodup_nil rfl (F_how_many_kinds_of_ok (n + 12) t4 t32 e_t32) rfl) rfl el_nil)) (szk 2 rfl rfl)) rfl (ea_cons (ev_own rfl) rfl ea_nil)) rfl List.nodup_nil rfl (F_sameL_ok n (D.lst (List.map D.int ([t31, t32] : (List Int)))) (D.lst (List.map D.int v21)) t33 e_t33) rfl))) (fun hv => ?_) (fun hv => ?_))
          · rw [ifT hv] at h
            have h := Option.some.inj h
            subst h
            exact ws_seq (ws_retv (d := (D.bl false)) (ρ1 := [.io (D.lst (List.map D.int t3.2)), .val (D.int (1 + t1.1)), .val (D.tup (List.map D.int t4)), .val (D.lst (List.map en_TI o15)), .own (D.dct (dctE en_TI D.bl o20)), us6_5, us6_6, us16_7, .un, .val (D.lst (List.map D.int v21))]) ev_con rfl)
          · rw [ifF hv] at h
            refine ws_skip ?_
            refine obE h (fun t34 e_t34 h => ?_)
            refine obE h (fun t35 e_t35 h => ?_)
            refine obE h (fun t36 e_t36 h => ?_)
            have h := Option.some.inj h
            subst h
            exact ws_seq (ws_retv (d := (D.bl t36)) (ρ1 := [.io (D.lst (List.map D.int t3.2)), .val (D.int (1 + t1.1)), .val (D.tup (List.map D.int t4)), .val (D.lst (List.map en_TI o15)), .own (D.dct (dctE en_TI D.bl o20)), us6_5, us6_6, us16_7, .un, .val (D.lst (List.map D.int v21))]) (ev_call (fr := false) (d := (D.bl t36)) (ea_cons (ev_lst (ds := [(D.int t34), (D.int t35)]) (el_cons (ev_callk (fr := false) (d := (D.int t34)) ea_nil (ea_cons (ev_val rfl) rfl ea_nil) rfl rfl List.nodup_nil rfl (F_how_many_pieces_ok (n + 12) t4 t34 e_t34) rfl) rfl (el_cons (ev_callk (fr := false) (d := (D.int t35)) ea_nil (ea_cons (ev_val rfl) rfl ea_nil) rfl rfl List.nodup_nil rfl (F_how_many_kinds_of_ok (n + 12) t4 t35 e_t35) rfl) rfl el_nil)) (szk 2 rfl rfl)) rfl (ea_cons (ev_val rfl) rfl ea_nil)) rfl List.nodup_nil rfl (F_sameL_ok n (D.lst (List.map D.int ([t34, t35] : (List Int)))) (D.lst (List.map D.int v21)) t36 e_t36) rfl) rfl)

def F__law_of_LITI (chest_ : (List Int)) (some_ : (List Int)) : Option (Int × (List Int)) :=
  (F__law_less chest_ (some_.length : Int)).bind fun t1 => (ixM some_ t1.1).bind fun t2 => some (t2, t1.2)
theorem F__law_of_LITI_ok (n : Nat) (chest_ : (List Int)) (some_ : (List Int)) (r : (Int × (List Int))) (h : F__law_of_LITI chest_ some_ = some r) : callN T (n + 2) 22 [true, false] [(D.lst (List.map D.int chest_)), (D.tup (List.map D.int some_))] = some ((D.int r.1), false, [(D.lst (List.map D.int r.2))]) := by
  unfold F__law_of_LITI at h
  refine call_ws (T := T) (n := n + 1) (f := 22) (df := d22) (ρ0 := [.io (D.lst (List.map D.int chest_)), .val (D.tup (List.map D.int some_))]) rfl rfl rfl rfl rfl ?_
  show WS _ _ [.io (D.lst (List.map D.int chest_)), .val (D.tup (List.map D.int some_))] _ _
  refine obE h (fun t1 e_t1 h => ?_)
  refine obE h (fun t2 e_t2 h => ?_)
  have h := Option.some.inj h
  subst h
  exact ws_seq (ws_retv (d := (D.int t2)) (ρ1 := [.io (D.lst (List.map D.int t1.2)), .val (D.tup (List.map D.int some_))]) (ev_idx (ev_val rfl) (ev_call (fr := false) (d := (D.int t1.1)) (ρ2 := [.io (D.lst (List.map D.int t1.2)), .val (D.tup (List.map D.int some_))]) (ea_io rfl (ea_cons (ev_blt1 (fr := false) (ev_val rfl) rfl v_len_t) rfl ea_nil)) rfl nd1 rfl (F__law_less_ok n chest_ (some_.length : Int) t1 e_t1) rfl) rfl (v_ix_t (e := D.int) e_t2)) rfl)

def F_is_side (ahead_ : (List Int)) (value_ : Int) : Option (Bool) :=
  (F_is_between value_ (-9) 9).bind fun t1 => some t1
theorem F_is_side_ok (n : Nat) (ahead_ : (List Int)) (value_ : Int) (r : (Bool)) (h : F_is_side ahead_ value_ = some r) : callN T (n + 3) 5 [false, false] [(D.tup (List.map D.int ahead_)), (D.int value_)] = some ((D.bl r), false, []) := by
  unfold F_is_side at h
  refine call_ws (T := T) (n := n + 2) (f := 5) (df := d5) (ρ0 := [.val (D.tup (List.map D.int ahead_)), .val (D.int value_)]) rfl rfl rfl rfl rfl ?_
  show WS _ _ [.val (D.tup (List.map D.int ahead_)), .val (D.int value_)] _ _
  refine obE h (fun t1 e_t1 h => ?_)
  have h := Option.some.inj h
  subst h
  exact ws_seq (ws_retv (d := (D.bl t1)) (ρ1 := [.val (D.tup (List.map D.int ahead_)), .val (D.int value_)]) (ev_call (fr := false) (d := (D.bl t1)) (ea_cons (ev_val rfl) rfl (ea_cons (ev_neg ev_glo) rfl (ea_cons ev_glo rfl ea_nil))) rfl List.nodup_nil rfl (F_is_between_ok n value_ (-9) 9 t1 e_t1) rfl) rfl)

def F_wrong_in_is_side (value_ : (List Int)) (least_ : Int) (most_ : Int) : Option ((List (Option Int))) :=
  if (decide ((value_.length : Int) < least_)) = true then (some ([(none : (Option Int))] : (List (Option Int)))) else ((forR (enumT value_) () fun (s1 : Unit) (x2 : (Int × Int)) => (if (decide (x2.1 = most_)) = true then some true else ((F_is_side (cutT value_ none (some x2.1)) x2.2).bind fun t3 => some (!t3))).bind fun t4 => if t4 = true then (some (.inr ([(some x2.1)] : (List (Option Int))))) else (some (.inl ()))).bind fun o5 => match o5 with | .inl s6 => (some ([] : (List (Option Int)))) | .inr rv => some rv)
theorem F_wrong_in_is_side_ok (n : Nat) (value_ : (List Int)) (least_ : Int) (most_ : Int) (r : ((List (Option Int)))) (h : F_wrong_in_is_side value_ least_ most_ = some r) : callN T (n + 4) 3 [false, false, false, false] [(D.tup (List.map D.int value_)), (D.int least_), (D.int most_), (D.fn 5)] = some ((D.lst (List.map en_OI r)), true, []) := by
  unfold F_wrong_in_is_side at h
  refine call_ws (T := T) (n := n + 3) (f := 3) (df := d3) (ρ0 := [.val (D.tup (List.map D.int value_)), .val (D.int least_), .val (D.int most_), .val (D.fn 5), .un, .un]) rfl rfl rfl rfl rfl ?_
  show WS _ _ [.val (D.tup (List.map D.int value_)), .val (D.int least_), .val (D.int most_), .val (D.fn 5), .un, .un] _ _
  refine ws_seq (ws_ite (et_or (et_not (v := true) (et_bl (ev_isin (v := true) (ev_val rfl) rfl))) (fun _ => (et_bl (ev_cmp (ev_blt1 (fr := false) (ev_val rfl) rfl v_len_t) (ev_val rfl) rfl v_lt))) (fun h => nomatch h)) (fun hv => ?_) (fun hv => ?_))
  · rw [ifT hv] at h
    have h := Option.some.inj h
    subst h
    exact ws_seq (ws_reto (d := (D.lst (List.map en_OI ([(none : (Option Int))] : (List (Option Int)))))) (ρ1 := [.val (D.tup (List.map D.int value_)), .val (D.int least_), .val (D.int most_), .val (D.fn 5), .un, .un]) (ev_lst (ds := [(eO D.int (none : (Option Int)))]) (el_cons ev_con rfl el_nil) (szk 1 rfl rfl)) rfl)
  · rw [ifF hv] at h
    refine ws_skip ?_
    refine obE h (fun o5 e_o5 h => ?_)
    refine ws_seq (ws_forR (f := en_P2II) (fun (s1 : Unit) ρ' => (∃ us1_4, plainS us1_4 = true ∧ ∃ us1_5, plainS us1_5 = true ∧ ρ' = [.val (D.tup (List.map D.int value_)), .val (D.int least_), .val (D.int most_), .val (D.fn 5), us1_4, us1_5])) (Post [false, false, false, false] (fun (r : ((List (Option Int)))) => ((D.lst (List.map en_OI r)), true, []))) (ei_enm (f := D.int) (ev_val rfl) rfl rfl) ⟨_, rfl, _, rfl, rfl⟩ ?_ e_o5 ?_ ?_)
    · rintro s1 x2 o_o5 ρ ⟨us1_4, n_us1_4, us1_5, n_us1_5, rfl⟩ h
      refine ⟨[.val (D.tup (List.map D.int value_)), .val (D.int least_), .val (D.int most_), .val (D.fn 5), .val (D.int x2.1), .val (D.int x2.2)], (eg_tup (egs_cons (eg_var (pl_notIo n_us1_4) (Nat.le_of_ble_eq_true rfl)) (egs_cons (eg_var (pl_notIo n_us1_5) (Nat.le_of_ble_eq_true rfl)) egs_nil))), ?_⟩
      refine obE h (fun t4 e_t4 h => ?_)
      refine ws_seq (ws_ite (et_or (w := t4) (et_bl (ev_cmp (ev_val rfl) (ev_val rfl) rfl (v_eq (a := x2.1) (b := most_) eqc_int (by decide)))) (fun hv => by (have h := e_t4; rw [ifF hv] at h; refine obE h (fun t3 e_t3 h => ?_); have h := Option.some.inj h; subst h; exact (et_not (v := t3) (et_bl (ev_calv (fr := false) (d := (D.bl t3)) rfl (ea_cons (ev_sl (b3 := false) (ev_val rfl) eo_nil (eo_cons (ev_val rfl)) rfl v_sl_t) rfl (ea_cons (ev_val rfl) rfl ea_nil)) rfl List.nodup_nil rfl (F_is_side_ok n (cutT value_ none (some x2.1)) x2.2 t3 e_t3) rfl))))) (fun hv => by (have h := e_t4; rw [ifT hv] at h; have h := Option.some.inj h; subst h; rfl))) (fun hv => ?_) (fun hv => ?_))
      · rw [ifT hv] at h
        have h := Option.some.inj h
        subst h
        exact ws_seq (ws_reto (d := (D.lst (List.map en_OI ([(some x2.1)] : (List (Option Int)))))) (ρ1 := [.val (D.tup (List.map D.int value_)), .val (D.int least_), .val (D.int most_), .val (D.fn 5), .val (D.int x2.1), .val (D.int x2.2)]) (ev_lst (ds := [(eO D.int (some x2.1))]) (el_cons (ev_val rfl) rfl el_nil) (szk 1 rfl rfl)) ⟨_, rfl, rfl⟩)
      · rw [ifF hv] at h
        refine ws_skip ?_
        refine ws_skip ?_
        have h := Option.some.inj h
        subst h
        exact ⟨_, rfl, ⟨_, rfl, _, rfl, rfl⟩⟩
    · rintro s6 rfl ρ' ⟨us1_4, n_us1_4, us1_5, n_us1_5, rfl⟩
      have h := Option.some.inj h
      subst h
      exact ws_seq (ws_reto (d := (D.lst (List.map en_OI ([] : (List (Option Int)))))) (ρ1 := [.val (D.tup (List.map D.int value_)), .val (D.int least_), .val (D.int most_), .val (D.fn 5), us1_4, us1_5]) (ev_lst (ds := []) el_nil (szk 0 rfl rfl)) rfl)
    · rintro rv rfl d fb ρ' hp
      have h := Option.some.inj h
      subst h
      exact hp

def F_are_all_is_side (value_ : (List Int)) (least_ : Int) (most_ : Int) : Option (Bool) :=
  (F_wrong_in_is_side value_ least_ most_).bind fun t1 => some (decide (t1 = ([] : (List (Option Int)))))
theorem F_are_all_is_side_ok (n : Nat) (value_ : (List Int)) (least_ : Int) (most_ : Int) (r : (Bool)) (h : F_are_all_is_side value_ least_ most_ = some r) : callN T (n + 5) 4 [false, false, false, false] [(D.tup (List.map D.int value_)), (D.int least_), (D.int most_), (D.fn 5)] = some ((D.bl r), false, []) := by
  unfold F_are_all_is_side at h
  refine call_ws (T := T) (n := n + 4) (f := 4) (df := d4) (ρ0 := [.val (D.tup (List.map D.int value_)), .val (D.int least_), .val (D.int most_), .val (D.fn 5)]) rfl rfl rfl rfl rfl ?_
  show WS _ _ [.val (D.tup (List.map D.int value_)), .val (D.int least_), .val (D.int most_), .val (D.fn 5)] _ _
  refine obE h (fun t1 e_t1 h => ?_)
  have h := Option.some.inj h
  subst h
  exact ws_seq (ws_retv (d := (D.bl (decide (t1 = ([] : (List (Option Int))))))) (ρ1 := [.val (D.tup (List.map D.int value_)), .val (D.int least_), .val (D.int most_), .val (D.fn 5)]) (ev_cmp (ev_call (fr := true) (d := (D.lst (List.map en_OI t1))) (ea_cons (ev_val rfl) rfl (ea_cons (ev_val rfl) rfl (ea_cons (ev_val rfl) rfl (ea_cons (ev_val rfl) rfl ea_nil)))) rfl List.nodup_nil rfl (F_wrong_in_is_side_ok n value_ least_ most_ t1 e_t1) rfl) (ev_lst (ds := []) el_nil (szk 0 rfl rfl)) rfl (v_eq (a := t1) (b := ([] : (List (Option Int)))) (eqc_l (eqc_o eqc_int nn_int)) (by decide))) rfl)

def F_is_piece (value_ : (List Int)) : Option (Bool) :=
  (F_are_all_is_side value_ 4 4).bind fun t1 => some t1
theorem F_is_piece_ok (n : Nat) (value_ : (List Int)) (r : (Bool)) (h : F_is_piece value_ = some r) : callN T (n + 6) 6 [false] [(D.tup (List.map D.int value_))] = some ((D.bl r), false, []) := by
  unfold F_is_piece at h
  refine call_ws (T := T) (n := n + 5) (f := 6) (df := d6) (ρ0 := [.val (D.tup (List.map D.int value_))]) rfl rfl rfl rfl rfl ?_
  show WS _ _ [.val (D.tup (List.map D.int value_))] _ _
  refine obE h (fun t1 e_t1 h => ?_)
  have h := Option.some.inj h
  subst h
  exact ws_seq (ws_retv (d := (D.bl t1)) (ρ1 := [.val (D.tup (List.map D.int value_))]) (ev_call (fr := false) (d := (D.bl t1)) (ea_cons (ev_val rfl) rfl (ea_cons (ev_blt1 (fr := false) ev_glo rfl rfl) rfl (ea_cons (ev_blt1 (fr := false) ev_glo rfl rfl) rfl (ea_cons ev_glo rfl ea_nil)))) rfl List.nodup_nil rfl (F_are_all_is_side_ok n value_ 4 4 t1 e_t1) rfl) rfl)

def F_check_piece (piece_ : (List Int)) : Option (Unit) :=
  (F_is_piece piece_).bind fun t1 => if (!t1) = true then (none) else (some ())
theorem F_check_piece_ok (n : Nat) (piece_ : (List Int)) (r : (Unit)) (h : F_check_piece piece_ = some r) : callN T (n + 7) 14 [false] [(D.tup (List.map D.int piece_))] = some (D.non, false, []) := by
  unfold F_check_piece at h
  refine call_ws (T := T) (n := n + 6) (f := 14) (df := d14) (ρ0 := [.val (D.tup (List.map D.int piece_))]) rfl rfl rfl rfl rfl ?_
  show WS _ _ [.val (D.tup (List.map D.int piece_))] _ _
  refine obE h (fun t1 e_t1 h => ?_)
  refine ws_seq (ws_ite (et_not (v := t1) (et_bl (ev_call (fr := false) (d := (D.bl t1)) (ea_cons (ev_val rfl) rfl ea_nil) rfl List.nodup_nil rfl (F_is_piece_ok n piece_ t1 e_t1) rfl))) (fun hv => ?_) (fun hv => ?_))
  · rw [ifT hv] at h
    exact nomatch h
  · rw [ifF hv] at h
    refine ws_skip ?_
    refine ws_skip ?_
    have h := Option.some.inj h
    subst h
    exact rfl

def F_first_turned (piece_ : (List Int)) : Option ((List Int)) :=
  (F_check_piece piece_).bind fun t1 => (F_first_turn piece_).bind fun t2 => some t2
theorem F_first_turned_ok (n : Nat) (piece_ : (List Int)) (r : ((List Int))) (h : F_first_turned piece_ = some r) : callN T (n + 8) 18 [false] [(D.tup (List.map D.int piece_))] = some ((D.tup (List.map D.int r)), false, []) := by
  unfold F_first_turned at h
  refine call_ws (T := T) (n := n + 7) (f := 18) (df := d18) (ρ0 := [.val (D.tup (List.map D.int piece_))]) rfl rfl rfl rfl rfl ?_
  show WS _ _ [.val (D.tup (List.map D.int piece_))] _ _
  refine obE h (fun t1 e_t1 h => ?_)
  refine ws_seq (ws_ex (ev_call (fr := false) (d := D.non) (ea_cons (ev_val rfl) rfl ea_nil) rfl List.nodup_nil rfl (F_check_piece_ok n piece_ t1 e_t1) rfl) ?_)
  show WS _ _ [.val (D.tup (List.map D.int piece_))] _ _
  refine obE h (fun t2 e_t2 h => ?_)
  have h := Option.some.inj h
  subst h
  exact ws_seq (ws_retv (d := (D.tup (List.map D.int t2))) (ρ1 := [.val (D.tup (List.map D.int piece_))]) (ev_call (fr := false) (d := (D.tup (List.map D.int t2))) (ea_cons (ev_val rfl) rfl ea_nil) rfl List.nodup_nil rfl (F_first_turn_ok (n + 4) piece_ t2 e_t2) rfl) rfl)

def F_are_alike (piece_ : (List Int)) (other_ : (List Int)) : Option (Bool) :=
  (F_check_piece piece_).bind fun t1 => (F_check_piece other_).bind fun t2 => (F_first_turn piece_).bind fun t3 => (F_first_turn other_).bind fun t4 => some (decide (t3 = t4))
theorem F_are_alike_ok (n : Nat) (piece_ : (List Int)) (other_ : (List Int)) (r : (Bool)) (h : F_are_alike piece_ other_ = some r) : callN T (n + 8) 19 [false, false] [(D.tup (List.map D.int piece_)), (D.tup (List.map D.int other_))] = some ((D.bl r), false, []) := by
  unfold F_are_alike at h
  refine call_ws (T := T) (n := n + 7) (f := 19) (df := d19) (ρ0 := [.val (D.tup (List.map D.int piece_)), .val (D.tup (List.map D.int other_))]) rfl rfl rfl rfl rfl ?_
  show WS _ _ [.val (D.tup (List.map D.int piece_)), .val (D.tup (List.map D.int other_))] _ _
  refine obE h (fun t1 e_t1 h => ?_)
  refine ws_seq (ws_ex (ev_call (fr := false) (d := D.non) (ea_cons (ev_val rfl) rfl ea_nil) rfl List.nodup_nil rfl (F_check_piece_ok n piece_ t1 e_t1) rfl) ?_)
  show WS _ _ [.val (D.tup (List.map D.int piece_)), .val (D.tup (List.map D.int other_))] _ _
  refine obE h (fun t2 e_t2 h => ?_)
  refine ws_seq (ws_ex (ev_call (fr := false) (d := D.non) (ea_cons (ev_val rfl) rfl ea_nil) rfl List.nodup_nil rfl (F_check_piece_ok n other_ t2 e_t2) rfl) ?_)
  show WS _ _ [.val (D.tup (List.map D.int piece_)), .val (D.tup (List.map D.int other_))] _ _
  refine obE h (fun t3 e_t3 h => ?_)
  refine obE h (fun t4 e_t4 h => ?_)
  have h := Option.some.inj h
  subst h
  exact ws_seq (ws_retv (d := (D.bl (decide (t3 = t4)))) (ρ1 := [.val (D.tup (List.map D.int piece_)), .val (D.tup (List.map D.int other_))]) (ev_cmp (ev_call (fr := false) (d := (D.tup (List.map D.int t3))) (ea_cons (ev_val rfl) rfl ea_nil) rfl List.nodup_nil rfl (F_first_turn_ok (n + 4) piece_ t3 e_t3) rfl) (ev_call (fr := false) (d := (D.tup (List.map D.int t4))) (ea_cons (ev_val rfl) rfl ea_nil) rfl List.nodup_nil rfl (F_first_turn_ok (n + 4) other_ t4 e_t4) rfl) rfl (v_eq (a := t3) (b := t4) (eqc_t eqc_int) (by decide))) rfl)

def F__law_right (chest_ : (List Int)) : Option (Bool × (List Int)) :=
  (F__law_counted chest_).bind fun t1 => (if (!t1.1) = true then some (true, t1.2) else ((F__law_counted t1.2).bind fun t2 => some ((!t2.1), t2.2))).bind fun t3 => if t3.1 = true then (some (false, t3.2)) else ((rng1M 8).bind fun t4 => (forR t4 t3.2 fun (s5 : ((List Int))) (x6 : Int) => (F__law_of_LITI s5 ([1, 2, 9] : (List Int))).bind fun t7 => (rng1M 4).bind fun t8 => (LcS t8 t7.2 fun s12 x9 => (mulM 2 t7.1).bind fun t13 => (F__law_less s12 (t13 + 1)).bind fun t14 => some (some (t14.1 - t7.1), t14.2)).bind fun t15 => (F__law_first_turned t15.1).bind fun t16 => (F__law_less t15.2 4).bind fun t17 => (F__law_turned t15.1 t17.1).bind fun t18 => (F_first_turned t15.1).bind fun t19 => (F_first_turned t15.1).bind fun t20 => (F_first_turned t18).bind fun t21 => (F_sameL (D.lst (List.map en_TI ([t19, t20, t21] : (List (List Int))))) (D.lst (List.map en_TI ([t16, t16, t16] : (List (List Int)))))).bind fun t22 => if (!t22) = true then (some (.inr (false, t17.2))) else ((F__law_less t17.2 4).bind fun t23 => (LcP t15.1 fun x24 => some (0 - x24)).bind fun t25 => (F__law_less t23.2 3).bind fun t26 => (catM (cutT t15.1 none (some t23.1)) ([(t26.1 - 1)] : (List Int))).bind fun t27 => (catM t27 (cutT t15.1 (some (t23.1 + 1)) none)).bind fun t28 => (some ([t18, (t15.1.reverse), t25, t28] : (List (List Int)))).bind fun v29 => (forR v29 () fun (s30 : Unit) (x31 : (List Int)) => (F__law_first_turned x31).bind fun t32 => (F_are_alike t15.1 x31).bind fun t33 => (F_are_alike t15.1 x31).bind fun t34 => (F_are_alike x31 t15.1).bind fun t35 => (F_sameL (D.lst (List.map D.bl ([t33, t34, t35] : (List Bool)))) (D.lst (List.map D.bl ([(decide (t32 = t16)), (decide (t32 = t16)), (decide (t32 = t16))] : (List Bool))))).bind fun t36 => if (!t36) = true then (some (.inr (false, t26.2))) else (some (.inl ()))).bind fun o37 => match o37 with | .inl s38 => (some (.inl t26.2)) | .inr rv => some (.inr rv))).bind fun o39 => match o39 with | .inl s40 => (some (true, s40)) | .inr rv => some rv)
theorem F__law_right_ok (n : Nat) (chest_ : (List Int)) (r : (Bool × (List Int))) (h : F__law_right chest_ = some r) : callN T (n + 22) 28 [true] [(D.lst (List.map D.int chest_))] = some ((D.bl r.1), false, [(D.lst (List.map D.int r.2))]) := by
  unfold F__law_right at h
  refine call_ws (T := T) (n := n + 21) (f := 28) (df := d28) (ρ0 := [.io (D.lst (List.map D.int chest_)), .un, .un, .un, .un, .un, .un, .un, .un, .un, .un]) rfl rfl rfl rfl rfl ?_
  show WS _ _ [.io (D.lst (List.map D.int chest_)), .un, .un, .un, .un, .un, .un, .un, .un, .un, .un] _ _
  refine obE h (fun t1 e_t1 h => ?_)
  refine obE h (fun t3 e_t3 h => ?_)
  refine ws_seq (ws_ite (et_orS (w := t3.1) (ρ2 := [.io (D.lst (List.map D.int t3.2)), .un, .un, .un, .un, .un, .un, .un, .un, .un, .un]) (et_not (v := t1.1) (et_bl (ev_call (fr := false) (d := (D.bl t1.1)) (ρ2 := [.io (D.lst (List.map D.int t1.2)), .un, .un, .un, .un, .un, .un, .un, .un, .un, .un]) (ea_io rfl ea_nil) rfl nd1 rfl (F__law_counted_ok n chest_ t1 e_t1) rfl))) (fun hv => by (have h := e_t3; rw [ifF hv] at h; refine obE h (fun t2 e_t2 h => ?_); have h := Option.some.inj h; subst h; exact (et_not (v := t2.1) (et_bl (ev_call (fr := false) (d := (D.bl t2.1)) (ρ2 := [.io (D.lst (List.map D.int t2.2)), .un, .un, .un, .un, .un, .un, .un, .un, .un, .un]) (ea_io rfl ea_nil) rfl nd1 rfl (F__law_counted_ok n t1.2 t2 e_t2) rfl))))) (fun hv => by (have h := e_t3; rw [ifT hv] at h; have h := Option.some.inj h; subst h; exact ⟨rfl, rfl⟩))) (fun hv => ?_) (fun hv => ?_))
  · rw [ifT hv] at h
    have h := Option.some.inj h
    subst h
    exact ws_seq (ws_retv (d := (D.bl false)) (ρ1 := [.io (D.lst (List.map D.int t3.2)), .un, .un, .un, .un, .un, .un, .un, .un, .un, .un]) ev_con rfl)
  · rw [ifF hv] at h
    refine ws_skip ?_
    refine obE h (fun t4 e_t4 h => ?_)
    refine obE h (fun o39 e_o39 h => ?_)
    refine ws_seq (ws_forR (f := D.int) (fun (s5 : ((List Int))) ρ' => (∃ us5_1, plainS us5_1 = true ∧ ∃ us5_2, plainS us5_2 = true ∧ ∃ us5_3, plainS us5_3 = true ∧ ∃ us5_5, plainS us5_5 = true ∧ ∃ us5_6, plainS us5_6 = true ∧ ∃ us5_7, plainS us5_7 = true ∧ ∃ us5_8, plainS us5_8 = true ∧ ∃ us5_9, plainS us5_9 = true ∧ ∃ us5_10, plainS us5_10 = true ∧ ρ' = [.io (D.lst (List.map D.int s5)), us5_1, us5_2, us5_3, .un, us5_5, us5_6, us5_7, us5_8, us5_9, us5_10])) (Post [true] (fun (r : (Bool × (List Int))) => ((D.bl r.1), false, [(D.lst (List.map D.int r.2))]))) (ei_rng1 ev_con e_t4) ⟨_, rfl, _, rfl, _, rfl, _, rfl, _, rfl, _, rfl, _, rfl, _, rfl, _, rfl, rfl⟩ ?_ e_o39 ?_ ?_)
    · rintro s5 x6 o_o39 ρ ⟨us5_1, n_us5_1, us5_2, n_us5_2, us5_3, n_us5_3, us5_5, n_us5_5, us5_6, n_us5_6, us5_7, n_us5_7, us5_8, n_us5_8, us5_9, n_us5_9, us5_10, n_us5_10, rfl⟩ h
      refine ⟨[.io (D.lst (List.map D.int s5)), .val (D.int x6), us5_2, us5_3, .un, us5_5, us5_6, us5_7, us5_8, us5_9, us5_10], (eg_var (pl_notIo n_us5_1) (Nat.le_of_ble_eq_true rfl)), ?_⟩
      refine obE h (fun t7 e_t7 h => ?_)
      refine ws_seq (ws_asgv (ev_call (fr := false) (d := (D.int t7.1)) (ρ2 := [.io (D.lst (List.map D.int t7.2)), .val (D.int x6), us5_2, us5_3, .un, us5_5, us5_6, us5_7, us5_8, us5_9, us5_10]) (ea_io rfl (ea_cons (ev_tup (ds := [(D.int 1), (D.int 2), (D.int 9)]) (el_cons ev_con rfl (el_cons ev_con rfl (el_cons ev_con rfl el_nil))) (szk 3 rfl rfl)) rfl ea_nil)) rfl nd1 rfl (F__law_of_LITI_ok (n + 19) s5 ([1, 2, 9] : (List Int)) t7 e_t7) rfl) (pl_notIo n_us5_2) (Nat.le_of_ble_eq_true rfl) ?_)
      show WS _ _ [.io (D.lst (List.map D.int t7.2)), .val (D.int x6), .val (D.int t7.1), us5_3, .un, us5_5, us5_6, us5_7, us5_8, us5_9, us5_10] _ _
      refine obE h (fun t8 e_t8 h => ?_)
      refine obE h (fun t15 e_t15 h => ?_)
      refine ws_seq (ws_asgv (ev_blt1 (fr := false) (ev_LcS (f := D.int) (u := D.int) (k := .frz) (fun s12 => [.io (D.lst (List.map D.int s12)), .val (D.int x6), .val (D.int t7.1), us5_3, .un, us5_5, us5_6, us5_7, us5_8, us5_9, us5_10]) (fun s12 x9 => [.io (D.lst (List.map D.int s12)), .val (D.int x6), .val (D.int t7.1), us5_3, .val (D.int x9), us5_5, us5_6, us5_7, us5_8, us5_9, us5_10]) (fun s12 => [.io (D.lst (List.map D.int s12)), .val (D.int x6), .val (D.int t7.1), us5_3, .un, us5_5, us5_6, us5_7, us5_8, us5_9, us5_10]) rfl (ei_rng1 ev_con e_t8) (fun _ => rfl) (fun _ _ => rfl) (fun s12 x9 => (eg_var rfl (Nat.le_of_ble_eq_true rfl))) (fun s12 x9 o h => by (refine obE h (fun t13 e_t13 h => ?_); refine obE h (fun t14 e_t14 h => ?_); have h := Option.some.inj h; subst h; exact ⟨et_nil, fun y hy => by (have hy := Option.some.inj hy; subst hy; exact (ev_bin (b3 := false) (ev_call (fr := false) (d := (D.int t14.1)) (ρ2 := [.io (D.lst (List.map D.int t14.2)), .val (D.int x6), .val (D.int t7.1), us5_3, .val (D.int x9), us5_5, us5_6, us5_7, us5_8, us5_9, us5_10]) (ea_io rfl (ea_cons (ev_bin (b3 := false) (ev_bin (b3 := false) ev_con (ev_val rfl) rfl (v_mul e_t13)) ev_con rfl v_add) rfl ea_nil)) rfl nd1 rfl (F__law_less_ok (n + 20) s12 (t13 + 1) t14 e_t14) rfl) (ev_val rfl) rfl v_sub))⟩)) (fun _ _ => rfl) e_t15 rfl (fun _ _ => rfl)) rfl rfl) (pl_notIo n_us5_3) (Nat.le_of_ble_eq_true rfl) ?_)
      show WS _ _ [.io (D.lst (List.map D.int t15.2)), .val (D.int x6), .val (D.int t7.1), .val (D.tup (List.map D.int t15.1)), .un, us5_5, us5_6, us5_7, us5_8, us5_9, us5_10] _ _
      refine obE h (fun t16 e_t16 h => ?_)
      refine obE h (fun t17 e_t17 h => ?_)
      refine obE h (fun t18 e_t18 h => ?_)
      refine ws_seq (ws_par (xs := [((D.tup (List.map D.int t16)), .frz), ((D.tup (List.map D.int t18)), .frz)]) (ρ1 := [.io (D.lst (List.map D.int t17.2)), .val (D.int x6), .val (D.int t7.1), .val (D.tup (List.map D.int t15.1)), .un, us5_5, us5_6, us5_7, us5_8, us5_9, us5_10]) (ρ2 := [.io (D.lst (List.map D.int t17.2)), .val (D.int x6), .val (D.int t7.1), .val (D.tup (List.map D.int t15.1)), .un, .val (D.tup (List.map D.int t16)), .val (D.tup (List.map D.int t18)), us5_7, us5_8, us5_9, us5_10]) (em_cons (ev_call (fr := false) (d := (D.tup (List.map D.int t16))) (ea_cons (ev_val rfl) rfl ea_nil) rfl List.nodup_nil rfl (F__law_first_turned_ok (n + 19) t15.1 t16 e_t16) rfl) rfl (em_cons (ev_call (fr := false) (d := (D.tup (List.map D.int t18))) (ea_cons (ev_val rfl) rfl (ea_cons (ev_call (fr := false) (d := (D.int t17.1)) (ρ2 := [.io (D.lst (List.map D.int t17.2)), .val (D.int x6), .val (D.int t7.1), .val (D.tup (List.map D.int t15.1)), .un, us5_5, us5_6, us5_7, us5_8, us5_9, us5_10]) (ea_io rfl (ea_cons ev_con rfl ea_nil)) rfl nd1 rfl (F__law_less_ok (n + 20) t15.2 4 t17 e_t17) rfl) rfl ea_nil)) rfl List.nodup_nil rfl (F__law_turned_ok (n + 20) t15.1 t17.1 t18 e_t18) rfl) rfl em_nil)) (eu_v (pl_notIo n_us5_5) (Nat.le_of_ble_eq_true rfl) (eu_v (pl_notIo n_us5_6) (Nat.le_of_ble_eq_true rfl) eu_nil)) ?_)
      show WS _ _ [.io (D.lst (List.map D.int t17.2)), .val (D.int x6), .val (D.int t7.1), .val (D.tup (List.map D.int t15.1)), .un, .val (D.tup (List.map D.int t16)), .val (D.tup (List.map D.int t18)), us5_7, us5_8, us5_9, us5_10] _ _
      refine obE h (fun t19 e_t19 h => ?_)
      refine obE h (fun t20 e_t20 h => ?_)
      refine obE h (fun t21 e_t21 h => ?_)
      refine obE h (fun t22 e_t22 h => ?_)
      refine ws_seq (ws_ite (et_not (v := t22) (et_bl (ev_call (fr := false) (d := (D.bl t22)) (ea_cons (ev_lst (ds := [(D.tup (List.map D.int t19)), (D.tup (List.map D.int t20)), (D.tup (List.map D.int t21))]) (el_cons (ev_call (fr := false) (d := (D.tup (List.map D.int t19))) (ea_cons (ev_val rfl) rfl ea_nil) rfl List.nodup_nil rfl (F_first_turned_ok (n + 13) t15.1 t19 e_t19) rfl) rfl (el_cons (ev_callk (fr := false) (d := (D.tup (List.map D.int t20))) ea_nil (ea_cons (ev_val rfl) rfl ea_nil) rfl rfl List.nodup_nil rfl (F_first_turned_ok (n + 13) t15.1 t20 e_t20) rfl) rfl (el_cons (ev_call (fr := false) (d := (D.tup (List.map D.int t21))) (ea_cons (ev_val rfl) rfl ea_nil) rfl List.nodup_nil rfl (F_first_turned_ok (n + 13) t18 t21 e_t21) rfl) rfl el_nil))) (szk 3 rfl rfl)) rfl (ea_cons (ev_lst (ds := [(D.tup (List.map D.int t16)), (D.tup (List.map D.int t16)), (D.tup (List.map D.int t16))]) (el_cons (ev_val rfl) rfl (el_cons (ev_val rfl) rfl (el_cons (ev_val rfl) rfl el_nil))) (szk 3 rfl rfl)) rfl ea_nil)) rfl List.nodup_nil rfl (F_sameL_ok (n + 1) (D.lst (List.map en_TI ([t19, t20, t21] : (List (List Int))))) (D.lst (List.map en_TI ([t16, t16, t16] : (List (List Int))))) t22 e_t22) rfl))) (fun hv => ?_) (fun hv => ?_))
      · rw [ifT hv] at h
        have h := Option.some.inj h
        subst h
        exact ws_seq (ws_retv (d := (D.bl false)) (ρ1 := [.io (D.lst (List.map D.int t17.2)), .val (D.int x6), .val (D.int t7.1), .val (D.tup (List.map D.int t15.1)), .un, .val (D.tup (List.map D.int t16)), .val (D.tup (List.map D.int t18)), us5_7, us5_8, us5_9, us5_10]) ev_con ⟨_, rfl, rfl⟩)
      · rw [ifF hv] at h
        refine ws_skip ?_
        refine obE h (fun t23 e_t23 h => ?_)
        refine ws_seq (ws_asgv (ev_call (fr := false) (d := (D.int t23.1)) (ρ2 := [.io (D.lst (List.map D.int t23.2)), .val (D.int x6), .val (D.int t7.1), .val (D.tup (List.map D.int t15.1)), .un, .val (D.tup (List.map D.int t16)), .val (D.tup (List.map D.int t18)), us5_7, us5_8, us5_9, us5_10]) (ea_io rfl (ea_cons ev_con rfl ea_nil)) rfl nd1 rfl (F__law_less_ok (n + 20) t17.2 4 t23 e_t23) rfl) (pl_notIo n_us5_7) (Nat.le_of_ble_eq_true rfl) ?_)
        show WS _ _ [.io (D.lst (List.map D.int t23.2)), .val (D.int x6), .val (D.int t7.1), .val (D.tup (List.map D.int t15.1)), .un, .val (D.tup (List.map D.int t16)), .val (D.tup (List.map D.int t18)), .val (D.int t23.1), us5_8, us5_9, us5_10] _ _
        refine obE h (fun t25 e_t25 h => ?_)
        refine obE h (fun t26 e_t26 h => ?_)
        refine obE h (fun t27 e_t27 h => ?_)
        refine obE h (fun t28 e_t28 h => ?_)
        refine obE h (fun v29 e_v29 h => ?_)
        have e_v29 := inj e_v29
        refine ws_seq (ws_asgo (d := (D.lst (List.map en_TI v29))) (ρ1 := [.io (D.lst (List.map D.int t26.2)), .val (D.int x6), .val (D.int t7.1), .val (D.tup (List.map D.int t15.1)), .un, .val (D.tup (List.map D.int t16)), .val (D.tup (List.map D.int t18)), .val (D.int t23.1), us5_8, us5_9, us5_10]) (by (rw [e_v29]; exact (ev_lst (ds := [(D.tup (List.map D.int t18)), (D.tup (List.map D.int (t15.1.reverse))), (D.tup (List.map D.int t25)), (D.tup (List.map D.int t28))]) (el_cons (ev_val rfl) rfl (el_cons (ev_rev (b3 := false) (ev_val rfl) rfl (v_rev_t (e := D.int))) rfl (el_cons (ev_blt1 (fr := false) (ev_LcP (f := D.int) (u := D.int) (k := .frz) (base := [.io (D.lst (List.map D.int t23.2)), .val (D.int x6), .val (D.int t7.1), .val (D.tup (List.map D.int t15.1)), .un, .val (D.tup (List.map D.int t16)), .val (D.tup (List.map D.int t18)), .val (D.int t23.1), us5_8, us5_9, us5_10]) (fun x24 => [.io (D.lst (List.map D.int t23.2)), .val (D.int x6), .val (D.int t7.1), .val (D.tup (List.map D.int t15.1)), .val (D.int x24), .val (D.tup (List.map D.int t16)), .val (D.tup (List.map D.int t18)), .val (D.int t23.1), us5_8, us5_9, us5_10]) rfl (ei_it (d := (D.tup (List.map D.int t15.1))) (ev_val rfl) rfl rfl) rfl (fun _ => rfl) (fun x24 => (eg_var rfl (Nat.le_of_ble_eq_true rfl))) (fun x24 y h => by (have h := Option.some.inj h; subst h; exact (ev_bin (b3 := false) ev_con (ev_val rfl) rfl v_sub))) (fun _ _ => rfl) e_t25 rfl (fun _ => rfl)) rfl rfl) rfl (el_cons (ev_bin (b3 := false) (ev_bin (b3 := false) (ev_sl (b3 := false) (ev_val rfl) eo_nil (eo_cons (ev_val rfl)) rfl v_sl_t) (ev_tup (ds := [(D.int (t26.1 - 1))]) (el_cons (ev_bin (b3 := false) (ev_call (fr := false) (d := (D.int t26.1)) (ρ2 := [.io (D.lst (List.map D.int t26.2)), .val (D.int x6), .val (D.int t7.1), .val (D.tup (List.map D.int t15.1)), .un, .val (D.tup (List.map D.int t16)), .val (D.tup (List.map D.int t18)), .val (D.int t23.1), us5_8, us5_9, us5_10]) (ea_io rfl (ea_cons ev_con rfl ea_nil)) rfl nd1 rfl (F__law_less_ok (n + 20) t23.2 3 t26 e_t26) rfl) ev_con rfl v_sub) rfl el_nil) (szk 1 rfl rfl)) rfl (v_cat_t (e := D.int) e_t27)) (ev_sl (b3 := false) (ev_val rfl) (eo_cons (ev_bin (b3 := false) (ev_val rfl) ev_con rfl v_add)) eo_nil rfl v_sl_t) rfl (v_cat_t (e := D.int) e_t28)) rfl el_nil)))) (szk 4 rfl rfl)))) (pl_notIo n_us5_8) (Nat.le_of_ble_eq_true rfl) ?_)
        show WS _ _ [.io (D.lst (List.map D.int t26.2)), .val (D.int x6), .val (D.int t7.1), .val (D.tup (List.map D.int t15.1)), .un, .val (D.tup (List.map D.int t16)), .val (D.tup (List.map D.int t18)), .val (D.int t23.1), .own (D.lst (List.map en_TI v29)), us5_9, us5_10] _ _
        refine obE h (fun o37 e_o37 h => ?_)
        refine ws_seq (ws_forR (f := en_TI) (fun (s30 : Unit) ρ' => (∃ us30_9, plainS us30_9 = true ∧ ∃ us30_10, plainS us30_10 = true ∧ ρ' = [.io (D.lst (List.map D.int t26.2)), .val (D.int x6), .val (D.int t7.1), .val (D.tup (List.map D.int t15.1)), .un, .val (D.tup (List.map D.int t16)), .val (D.tup (List.map D.int t18)), .val (D.int t23.1), .val (D.lst (List.map en_TI v29)), us30_9, us30_10])) (Post [true] (fun (r : (Bool × (List Int))) => ((D.bl r.1), false, [(D.lst (List.map D.int r.2))]))) (ei_it (d := (D.lst (List.map en_TI v29))) (ev_own rfl) rfl rfl) ⟨_, n_us5_9, _, n_us5_10, rfl⟩ ?_ e_o37 ?_ ?_)
        · rintro s30 x31 o_o37 ρ ⟨us30_9, n_us30_9, us30_10, n_us30_10, rfl⟩ h
          refine ⟨[.io (D.lst (List.map D.int t26.2)), .val (D.int x6), .val (D.int t7.1), .val (D.tup (List.map D.int t15.1)), .un, .val (D.tup (List.map D.int t16)), .val (D.tup (List.map D.int t18)), .val (D.int t23.1), .val (D.lst (List.map en_TI v29)), .val (D.tup (List.map D.int x31)), us30_10], (eg_var (pl_notIo n_us30_9) (Nat.le_of_ble_eq_true rfl)), ?_⟩
          refine obE h (fun t32 e_t32 h => ?_)
          refine ws_seq (ws_asgv (ev_cmp (ev_call (fr := false) (d := (D.tup (List.map D.int t32))) (ea_cons (ev_val rfl) rfl ea_nil) rfl List.nodup_nil rfl (F__law_first_turned_ok (n + 19) x31 t32 e_t32) rfl) (ev_val rfl) rfl (v_eq (a := t32) (b := t16) (eqc_t eqc_int) (by decide))) (pl_notIo n_us30_10) (Nat.le_of_ble_eq_true rfl) ?_)
          show WS _ _ [.io (D.lst (List.map D.int t26.2)), .val (D.int x6), .val (D.int t7.1), .val (D.tup (List.map D.int t15.1)), .un, .val (D.tup (List.map D.int t16)), .val (D.tup (List.map D.int t18)), .val (D.int t23.1), .val (D.lst (List.map en_TI v29)), .val (D.tup (List.map D.int x31)), .val (D.bl (decide (t32 = t16)))] _ _
          refine obE h (fun t33 e_t33 h => ?_)
          refine obE h (fun t34 e_t34 h => ?_)
          refine obE h (fun t35 e_t35 h => ?_)
          refine obE h (fun t36 e_t36 h => ?_)
          refine ws_seq (ws_ite (et_not (v := t36) (et_bl (ev_call (fr := false) (d := (D.bl t36)) (ea_cons (ev_lst (ds := [(D.bl t33), (D.bl t34), (D.bl t35)]) (el_cons (ev_call (fr := false) (d := (D.bl t33)) (ea_cons (ev_val rfl) rfl (ea_cons (ev_val rfl) rfl ea_nil)) rfl List.nodup_nil rfl (F_are_alike_ok (n + 13) t15.1 x31 t33 e_t33) rfl) rfl (el_cons (ev_callk (fr := false) (d := (D.bl t34)) ea_nil (ea_cons (ev_val rfl) rfl (ea_cons (ev_val rfl) rfl ea_nil)) rfl rfl List.nodup_nil rfl (F_are_alike_ok (n + 13) t15.1 x31 t34 e_t34) rfl) rfl (el_cons (ev_call (fr := false) (d := (D.bl t35)) (ea_cons (ev_val rfl) rfl (ea_cons (ev_val rfl) rfl ea_nil)) rfl List.nodup_nil rfl (F_are_alike_ok (n + 13) x31 t15.1 t35 e_t35) rfl) rfl el_nil))) (szk 3 rfl rfl)) rfl (ea_cons (ev_lst (ds := [(D.bl (decide (t32 = t16))), (D.bl (decide (t32 = t16))), (D.bl (decide (t32 = t16)))]) (el_cons (ev_val rfl) rfl (el_cons (ev_val rfl) rfl (el_cons (ev_val rfl) rfl el_nil))) (szk 3 rfl rfl)) rfl ea_nil)) rfl List.nodup_nil rfl (F_sameL_ok (n + 1) (D.lst (List.map D.bl ([t33, t34, t35] : (List Bool)))) (D.lst (List.map D.bl ([(decide (t32 = t16)), (decide (t32 = t16)), (decide (t32 = t16))] : (List Bool)))) t36 e_t36) rfl))) (fun hv => ?_) (fun hv => ?_))
          · rw [ifT hv] at h
            have h := Option.some.inj h
            subst h
            exact ws_seq (ws_retv (d := (D.bl false)) (ρ1 := [.io (D.lst (List.map D.int t26.2)), .val (D.int x6), .val (D.int t7.1), .val (D.tup (List.map D.int t15.1)), .un, .val (D.tup (List.map D.int t16)), .val (D.tup (List.map D.int t18)), .val (D.int t23.1), .val (D.lst (List.map en_TI v29)), .val (D.tup (List.map D.int x31)), .val (D.bl (decide (t32 = t16)))]) ev_con ⟨_, rfl, rfl⟩)
          · rw [ifF hv] at h
            refine ws_skip ?_
            refine ws_skip ?_
            have h := Option.some.inj h
            subst h
            exact ⟨_, rfl, ⟨_, rfl, _, rfl, rfl⟩⟩
        · rintro s38 rfl ρ' ⟨us30_9, n_us30_9, us30_10, n_us30_10, rfl⟩
          refine ws_skip ?_
          have h := Option.some.inj h
          subst h
          exact ⟨_, rfl, ⟨_, rfl, _, rfl, _, rfl, _, rfl, _, rfl, _, rfl, _, rfl, _, n_us30_9, _, n_us30_10, rfl⟩⟩
        · rintro rv rfl d fb ρ' hp
          have h := Option.some.inj h
          subst h
          exact ⟨_, rfl, hp⟩
    · rintro s40 rfl ρ' ⟨us5_1, n_us5_1, us5_2, n_us5_2, us5_3, n_us5_3, us5_5, n_us5_5, us5_6, n_us5_6, us5_7, n_us5_7, us5_8, n_us5_8, us5_9, n_us5_9, us5_10, n_us5_10, rfl⟩
      have h := Option.some.inj h
      subst h
      exact ws_seq (ws_retv (d := (D.bl true)) (ρ1 := [.io (D.lst (List.map D.int s40)), us5_1, us5_2, us5_3, .un, us5_5, us5_6, us5_7, us5_8, us5_9, us5_10]) ev_con rfl)
    · rintro rv rfl d fb ρ' hp
      have h := Option.some.inj h
      subst h
      exact hp
end K67

namespace K67
open PySem Mp
set_option maxHeartbeats 4000000
set_option maxRecDepth 10000
/-! drawn things, plain -/
abbrev B9 (x : Int) : Prop := -9 ≤ x ∧ x ≤ 9
abbrev Pc : Type := List Int
/-- a right piece -/
structure OkP (p : Pc) : Prop where
  len : p.length = 4
  b9 : ∀ x ∈ p, B9 x
def Bw (b : List Int) : Prop := ∃ x y z, b = [x, y, z]
theorem mulM_l {a b : Int} (h : -(2 ^ 64) < a ∧ a < 2 ^ 64) : mulM a b = some (a * b) := if_pos (.inl h)
theorem mulM_r {a b : Int} (h : -(2 ^ 64) < b ∧ b < 2 ^ 64) : mulM a b = some (a * b) := if_pos (.inr h)
theorem modM_p {a b : Int} (h : 0 < b) : modM a b = some (a % b) := if_pos h
theorem fdivM_p {a b : Int} (h : 0 < b ∧ b < 1073741824) : fdivM a b = some (a / b) := if_pos h
theorem divmodM_p {a b : Int} (h : 0 < b ∧ b < 1073741824) : divmodM a b = some (a / b, a % b) := if_pos h
theorem rng1M_p {n : Int} (h : inR n) : rng1M n = some (rngT 0 n) := if_pos h
theorem rng2M_p {m n : Int} (h : inR m ∧ inR n) : rng2M m n = some (rngT m n) := if_pos h
theorem ixM_in {α : Type} {xs : List α} {i : Int} (h0 : 0 ≤ i) (h1 : i < xs.length) : ∃ x, ixM xs i = some x ∧ x ∈ xs ∧ xs[i.toNat]? = some x := by
  have hl : i.toNat < xs.length := by omega
  have e : Mp.ixN xs.length i = some i.toNat := by unfold Mp.ixN; rw [if_pos h0, if_pos h1]
  have e2 : xs[i.toNat]? = some xs[i.toNat] := List.getElem?_eq_getElem hl
  refine ⟨xs[i.toNat], ?_, List.getElem_mem hl, e2⟩
  unfold ixM
  rw [e]
  exact e2
theorem setM_in {α : Type} {xs : List α} {i : Int} {x : α} (h0 : 0 ≤ i) (h1 : i < xs.length) : setM xs i x = some (xs.set i.toNat x) := by
  have e : Mp.ixN xs.length i = some i.toNat := by unfold Mp.ixN; rw [if_pos h0, if_pos h1]
  unfold setM
  rw [e] <;> rfl
theorem catM_s {α : Type} {xs ys : List α} (h : xs.length + ys.length ≤ 16777216) : catM xs ys = some (xs ++ ys) := if_pos h
theorem appM_s {α : Type} {xs : List α} {x : α} (h : xs.length + 1 ≤ 16777216) : appM xs x = some (xs ++ [x]) := if_pos h
/-- loops -/
theorem lcP_map {α β : Type} {f : α → Option β} {g : α → β} : ∀ {xs : List α}, (∀ x ∈ xs, f x = some (g x)) → lcP xs f = some (xs.map g)
  | [], _ => rfl
  | x :: xs, h => by
    unfold lcP
    rw [h x List.mem_cons_self, lcP_map (xs := xs) fun y hy => h y (List.mem_cons_of_mem _ hy)]
    rfl
theorem LcP_map {α β : Type} {f : α → Option β} {g : α → β} {xs : List α} (hl : xs.length ≤ 16777216) (h : ∀ x ∈ xs, f x = some (g x)) : LcP xs f = some (xs.map g) := (if_pos hl).trans (lcP_map h)
theorem lcF_fm {α β : Type} {f : α → Option (Option β)} {g : α → Option β} : ∀ {xs : List α}, (∀ x ∈ xs, f x = some (g x)) → lcF xs f = some (xs.filterMap g)
  | [], _ => rfl
  | x :: xs, h => by
    unfold lcF
    rw [h x List.mem_cons_self, lcF_fm (xs := xs) fun y hy => h y (List.mem_cons_of_mem _ hy), List.filterMap_cons]
    cases g x <;> rfl
theorem LcF_fm {α β : Type} {f : α → Option (Option β)} {g : α → Option β} {xs : List α} (hl : xs.length ≤ 16777216) (h : ∀ x ∈ xs, f x = some (g x)) : LcF xs f = some (xs.filterMap g) := (if_pos hl).trans (lcF_fm h)
theorem LcF_filter {α : Type} {f : α → Option (Option α)} {p : α → Bool} {xs : List α} (hl : xs.length ≤ 16777216) (h : ∀ x ∈ xs, f x = some (if p x = true then some x else none)) : LcF xs f = some (xs.filter p) := by
  rw [LcF_fm hl h]
  congr 1
  induction xs with
  | nil => rfl
  | cons x xs ih =>
    rw [List.filterMap_cons, ih (by rw [List.length_cons] at hl; omega) fun y hy => h y (List.mem_cons_of_mem _ hy)]
    cases hp : p x
    · rw [List.filter_cons_of_neg (by rw [hp]; decide)] <;> rfl
    · rw [List.filter_cons_of_pos hp] <;> rfl
inductive F2 {α β : Type} (P : α → β → Prop) : List α → List β → Prop
  | nil : F2 P [] []
  | cons {x : α} {y : β} {xs : List α} {ys : List β} : P x y → F2 P xs ys → F2 P (x :: xs) (y :: ys)
/-- a comprehension with a bowl: what each turn brings about -/
theorem lcS_all {α β σ : Type} {f : σ → α → Option (Option β × σ)} {J : σ → Prop} {P : α → β → Prop} : ∀ {xs : List α} {s : σ}, J s → (∀ s x, J s → x ∈ xs → ∃ y s', f s x = some (some y, s') ∧ J s' ∧ P x y) → ∃ ys s', lcS xs s f = some (ys, s') ∧ J s' ∧ F2 P xs ys
  | [], s, hs, _ => ⟨[], s, rfl, hs, .nil⟩
  | x :: xs, s, hs, h => by
    obtain ⟨y, s1, e1, h1, p1⟩ := h s x hs List.mem_cons_self
    obtain ⟨ys, s2, e2, h2, p2⟩ := lcS_all (xs := xs) h1 fun s z hs hz => h s z hs (List.mem_cons_of_mem _ hz)
    refine ⟨y :: ys, s2, ?_, h2, .cons p1 p2⟩
    unfold lcS
    rw [e1]
    show (lcS xs s1 f).bind _ = _
    rw [e2] <;> rfl
theorem LcS_all {α β σ : Type} {f : σ → α → Option (Option β × σ)} {J : σ → Prop} {P : α → β → Prop} {xs : List α} {s : σ} (hl : xs.length ≤ 16777216) (hs : J s) (h : ∀ s x, J s → x ∈ xs → ∃ y s', f s x = some (some y, s') ∧ J s' ∧ P x y) : ∃ ys s', LcS xs s f = some (ys, s') ∧ J s' ∧ F2 P xs ys := by
  obtain ⟨ys, s', e, r⟩ := lcS_all hs h
  exact ⟨ys, s', (if_pos hl).trans e, r⟩
theorem f2_len {α β : Type} {P : α → β → Prop} {xs : List α} {ys : List β} (h : F2 P xs ys) : ys.length = xs.length := by
  induction h with
  | nil => rfl
  | cons _ _ ih => simp [ih]
theorem f2_mem {α β : Type} {P : α → β → Prop} {xs : List α} {ys : List β} (h : F2 P xs ys) : ∀ y ∈ ys, ∃ x ∈ xs, P x y := by
  induction h with
  | nil => intro y hy; cases hy
  | cons p _ ih =>
    intro y hy
    rcases List.mem_cons.mp hy with rfl | hy
    · exact ⟨_, List.mem_cons_self, p⟩
    · obtain ⟨x, hx, q⟩ := ih y hy
      exact ⟨x, List.mem_cons_of_mem _ hx, q⟩
/-- a for with an invariant over (what is done, state) -/
theorem forL_inv {α σ : Type} {g : σ → α → Option σ} (I : List α → σ → Prop) : ∀ {xs done : List α} {s : σ}, I done s → (∀ d x s, x ∈ xs → I d s → ∃ s', g s x = some s' ∧ I (d ++ [x]) s') → ∃ s', forL xs s g = some s' ∧ I (done ++ xs) s'
  | [], done, s, h, _ => ⟨s, rfl, by rw [List.append_nil]; exact h⟩
  | x :: xs, done, s, h, st => by
    obtain ⟨s1, e1, h1⟩ := st done x s List.mem_cons_self h
    obtain ⟨s2, e2, h2⟩ := forL_inv I (xs := xs) h1 fun d y s hy hs => st d y s (List.mem_cons_of_mem _ hy) hs
    refine ⟨s2, ?_, by rw [List.append_assoc] at h2; exact h2⟩
    unfold forL
    rw [e1]
    exact e2
/-- a for that appends -/
theorem forL_flat {α β : Type} {g : List β → α → Option (List β)} {u : α → List β} : ∀ {xs : List α} {s : List β}, s.length + (xs.flatMap u).length ≤ 16777216 → (∀ x ∈ xs, ∀ s : List β, s.length + (u x).length ≤ 16777216 → g s x = some (s ++ u x)) → forL xs s g = some (s ++ xs.flatMap u)
  | [], s, _, _ => by show some s = _; simp
  | x :: xs, s, hl, h => by
    rw [List.flatMap_cons, List.length_append] at hl
    unfold forL
    rw [h x List.mem_cons_self s (by omega)]
    show forL xs (s ++ u x) g = _
    rw [forL_flat (xs := xs) (by rw [List.length_append]; omega) fun y hy => h y (List.mem_cons_of_mem _ hy), List.flatMap_cons, List.append_assoc]
theorem forL_map {α β : Type} {g : List β → α → Option (List β)} {u : α → β} {xs : List α} {s : List β} (hl : s.length + xs.length ≤ 16777216) (h : ∀ x ∈ xs, ∀ s : List β, s.length + 1 ≤ 16777216 → g s x = some (s ++ [u x])) : forL xs s g = some (s ++ xs.map u) := by
  have e : xs.map u = xs.flatMap fun x => [u x] := by induction xs with
    | nil => rfl
    | cons x xs ih => rw [List.map_cons, List.flatMap_cons, ← ih (by rw [List.length_cons] at hl; omega) fun y hy => h y (List.mem_cons_of_mem _ hy)] <;> rfl
  rw [e]
  refine forL_flat (by rw [← e, List.length_map]; exact hl) fun x hx s hs => h x hx s (by simpa using hs)
/-- a for that looks for the first -/
theorem forR_none {α σ δ : Type} {g : σ → α → Option (σ ⊕ δ)} (J : σ → Prop) : ∀ {xs : List α} {s : σ}, J s → (∀ x ∈ xs, ∀ s, J s → ∃ s', g s x = some (.inl s') ∧ J s') → ∃ s', forR xs s g = some (.inl s') ∧ J s'
  | [], s, h, _ => ⟨s, rfl, h⟩
  | x :: xs, s, h, st => by
    obtain ⟨s1, e1, h1⟩ := st x List.mem_cons_self s h
    obtain ⟨s2, e2, h2⟩ := forR_none J (xs := xs) h1 fun y hy => st y (List.mem_cons_of_mem _ hy)
    refine ⟨s2, ?_, h2⟩
    unfold forR
    rw [e1]
    exact e2
/-- .. in Unit, by a test -/
theorem forR_test {α δ : Type} {g : Unit → α → Option (Unit ⊕ δ)} {p : α → Bool} {r : α → δ} : ∀ {xs : List α}, (∀ x ∈ xs, g () x = some (if p x = true then .inr (r x) else .inl ())) → forR xs () g = some (match xs.find? p with | some x => .inr (r x) | none => .inl ())
  | [], _ => rfl
  | x :: xs, h => by
    unfold forR
    rw [h x List.mem_cons_self, List.find?_cons]
    cases hp : p x
    · show forR xs () g = _
      rw [forR_test (xs := xs) fun y hy => h y (List.mem_cons_of_mem _ hy)]
    · rfl
theorem rngT_nil {lo hi : Int} (h : hi ≤ lo) : rngT lo hi = [] := by
  unfold rngT
  rw [show (hi - lo).toNat = 0 by omega] <;> rfl
theorem rngT_cons {lo hi : Int} (h : lo < hi) : rngT lo hi = lo :: rngT (lo + 1) hi := by
  unfold rngT
  rw [show (hi - lo).toNat = (hi - (lo + 1)).toNat + 1 by omega, List.range_succ_eq_map, List.map_cons, List.map_map]
  congr 1
  · show lo + ((0 : Nat) : Int) = lo
    omega
  · refine List.map_congr_left fun i _ => ?_
    show lo + ((i + 1 : Nat) : Int) = lo + 1 + (i : Int)
    omega
theorem rngT_len (lo hi : Int) : (rngT lo hi).length = (hi - lo).toNat := by unfold rngT; rw [List.length_map, List.length_range]
theorem rngT_mem {lo hi x : Int} : x ∈ rngT lo hi ↔ lo ≤ x ∧ x < hi := by
  unfold rngT
  rw [List.mem_map]
  constructor
  · rintro ⟨i, hi, rfl⟩
    have := List.mem_range.mp hi
    omega
  · intro h
    exact ⟨(x - lo).toNat, List.mem_range.mpr (by omega), by omega⟩
theorem enumT_eq {α : Type} (xs : List α) : enumT xs = xs.zipIdx.map fun p => (((p.2 : Nat) : Int), p.1) := rfl

end K67

namespace K67
open PySem Mp
set_option maxHeartbeats 4000000
set_option maxRecDepth 10000
theorem less_s {b : List Int} {m : Int} (hb : Bw b) (h0 : 0 < m) (h1 : m < 1073741824) : ∃ r b', F__law_less b m = some (r, b') ∧ 0 ≤ r ∧ r < m ∧ Bw b' := by
  obtain ⟨a, s, c, rfl⟩ := hb
  have i0 : ∀ x y z : Int, ixM [x, y, z] 0 = some x := fun _ _ _ => rfl
  have i1 : ∀ x y z : Int, ixM [x, y, z] 1 = some y := fun _ _ _ => rfl
  have i2 : ∀ x y z : Int, ixM [x, y, z] 2 = some z := fun _ _ _ => rfl
  have s0 : ∀ x y z w : Int, setM [x, y, z] 0 w = some [w, y, z] := fun _ _ _ _ => rfl
  have s1 : ∀ x y z w : Int, setM [x, y, z] 1 w = some [x, w, z] := fun _ _ _ _ => rfl
  have s2 : ∀ x y z w : Int, setM [x, y, z] 2 w = some [x, y, w] := fun _ _ _ _ => rfl
  have m1 : ∀ t : Int, mulM t 51341 = some (t * 51341) := fun t => mulM_r (by omega)
  have m2 : ∀ t : Int, mulM 15017 t = some (15017 * t) := fun t => mulM_l (by omega)
  have m3 : ∀ t : Int, mulM 13 t = some (13 * t) := fun t => mulM_l (by omega)
  have m4 : ∀ t u : Int, mulM (t % 2147483587) u = some (t % 2147483587 * u) := fun t u => mulM_l (by omega)
  have d1 : ∀ t : Int, modM t 2147483587 = some (t % 2147483587) := fun t => modM_p (by omega)
  have d2 : ∀ t : Int, modM t 4507 = some (t % 4507) := fun t => modM_p (by omega)
  have d3 : ∀ t : Int, modM t m = some (t % m) := fun t => modM_p h0
  have f1 : ∀ t : Int, fdivM t 541 = some (t / 541) := fun t => fdivM_p (by omega)
  have g1 : ∀ t : Int, divmodM t m = some (t / m, t % m) := fun t => divmodM_p ⟨h0, h1⟩
  unfold F__law_less
  by_cases h : 0 < a
  · simp only [i0, s0, g1, Option.bind_some, decide_eq_true h, if_true]
    exact ⟨_, _, rfl, Int.emod_nonneg _ (by omega), Int.emod_lt_of_pos _ h0, _, _, _, rfl⟩
  · simp only [i0, i1, i2, s0, s1, s2, m1, m2, m3, m4, d1, d2, d3, f1, Option.bind_some, decide_eq_false h, Bool.false_eq_true, if_false]
    exact ⟨_, _, rfl, Int.emod_nonneg _ (by omega), Int.emod_lt_of_pos _ h0, _, _, _, rfl⟩

theorem lof_s {b xs : List Int} (hb : Bw b) (h0 : xs ≠ []) (h1 : xs.length < 1073741824) : ∃ x b', F__law_of_LITI b xs = some (x, b') ∧ x ∈ xs ∧ Bw b' := by
  have hl : 0 < xs.length := List.length_pos_iff.mpr h0
  obtain ⟨r, b', e, r0, r1, hb'⟩ := less_s hb (show (0 : Int) < (xs.length : Int) by omega) (by omega)
  obtain ⟨x, ex, hx, _⟩ := ixM_in (xs := xs) r0 r1
  refine ⟨x, b', ?_, hx, hb'⟩
  unfold F__law_of_LITI
  rw [e, Option.bind_some, ex] <;> rfl

end K67

namespace K67
open PySem Mp
set_option maxHeartbeats 4000000
set_option maxRecDepth 10000
theorem okP_cases {p : Pc} (h : OkP p) : ∃ a b c d, p = [a, b, c, d] ∧ B9 a ∧ B9 b ∧ B9 c ∧ B9 d := by
  obtain ⟨h1, h2⟩ := h
  match p, h1 with
  | [a, b, c, d], _ => exact ⟨a, b, c, d, rfl, h2 a (by simp), h2 b (by simp), h2 c (by simp), h2 d (by simp)⟩
theorem okP_mk {a b c d : Int} (h1 : B9 a) (h2 : B9 b) (h3 : B9 c) (h4 : B9 d) : OkP [a, b, c, d] := ⟨rfl, fun x hx => by
  simp only [List.mem_cons, List.not_mem_nil, or_false] at hx
  rcases hx with rfl | rfl | rfl | rfl <;> assumption⟩
/-- a piece turned -/
def rot (p : Pc) (k : Int) : Pc := cutT p (some (4 - k)) none ++ cutT p none (some (4 - k))
theorem rot_0 (a b c d : Int) : rot [a, b, c, d] 0 = [a, b, c, d] := rfl
theorem rot_1 (a b c d : Int) : rot [a, b, c, d] 1 = [d, a, b, c] := rfl
theorem rot_2 (a b c d : Int) : rot [a, b, c, d] 2 = [c, d, a, b] := rfl
theorem rot_3 (a b c d : Int) : rot [a, b, c, d] 3 = [b, c, d, a] := rfl
theorem q4 {k : Int} (h0 : 0 ≤ k) (h4 : k < 4) : k = 0 ∨ k = 1 ∨ k = 2 ∨ k = 3 := by omega
theorem rot_ok {p : Pc} {k : Int} (h : OkP p) (h0 : 0 ≤ k) (h4 : k < 4) : OkP (rot p k) := by
  obtain ⟨a, b, c, d, rfl, b1, b2, b3, b4⟩ := okP_cases h
  rcases q4 h0 h4 with rfl | rfl | rfl | rfl
  · exact okP_mk b1 b2 b3 b4
  · exact okP_mk b4 b1 b2 b3
  · exact okP_mk b3 b4 b1 b2
  · exact okP_mk b2 b3 b4 b1
theorem cutT_len {α : Type} (xs : List α) (a b : Option Int) : (cutT xs a b).length ≤ xs.length := by
  unfold cutT
  rw [List.length_take, List.length_drop]
  omega
theorem lturned_s {p : Pc} {k : Int} (h : OkP p) : F__law_turned p k = some (rot p k) := by
  have h1 := cutT_len p (some (4 - k)) none
  have h2 := cutT_len p none (some (4 - k))
  have h3 := h.len
  unfold F__law_turned
  rw [catM_s (by omega)] <;> rfl
theorem insT_perm {α : Type} (le : α → α → Bool) (a : α) : ∀ qs : List α, (insT le a qs).Perm (a :: qs)
  | [] => .refl _
  | b :: r => by
    show (if le a b = true then a :: b :: r else b :: insT le a r).Perm _
    split
    · exact .refl _
    · exact ((insT_perm le a r).cons b).trans (.swap a b r)
theorem srtT_perm {α : Type} (le : α → α → Bool) : ∀ qs : List α, (srtT le qs).Perm qs
  | [] => .refl _
  | a :: r => (insT_perm le a (srtT le r)).trans ((srtT_perm le r).cons a)
theorem insT_pw {α : Type} {le : α → α → Bool} (tr : ∀ a b c, le a b = true → le b c = true → le a c = true) (tot : ∀ a b, le a b = true ∨ le b a = true) (a : α) : ∀ {qs : List α}, qs.Pairwise (fun p q => le p q = true) → (insT le a qs).Pairwise (fun p q => le p q = true)
  | [], _ => List.pairwise_singleton _ _
  | b :: r, h => by
    obtain ⟨h1, h2⟩ := List.pairwise_cons.mp h
    show (if le a b = true then a :: b :: r else b :: insT le a r).Pairwise _
    split
    · rename_i c
      refine List.pairwise_cons.mpr ⟨fun x hx => ?_, h⟩
      rcases List.mem_cons.mp hx with rfl | hx
      · exact c
      · exact tr _ _ _ c (h1 x hx)
    · rename_i c
      refine List.pairwise_cons.mpr ⟨fun x hx => ?_, insT_pw tr tot a h2⟩
      rcases List.mem_cons.mp ((insT_perm le a r).mem_iff.mp hx) with rfl | hx
      · exact (tot _ _).resolve_left c
      · exact h1 x hx
theorem srtT_pw {α : Type} {le : α → α → Bool} (tr : ∀ a b c, le a b = true → le b c = true → le a c = true) (tot : ∀ a b, le a b = true ∨ le b a = true) : ∀ qs : List α, (srtT le qs).Pairwise (fun p q => le p q = true)
  | [] => .nil
  | a :: r => insT_pw tr tot a (srtT_pw tr tot r)
theorem leE_tr {α : Type} {e : α → D} (a b c : α) (h1 : leE e a b = true) (h2 : leE e b c = true) : leE e a c = true := leD_trans _ _ _ h1 h2
theorem leE_tot {α : Type} {e : α → D} (a b : α) : leE e a b = true ∨ leE e b a = true := by
  have := leD_total (e a) (e b)
  rw [Bool.or_eq_true] at this
  exact this

end K67

namespace K67
open PySem Mp
set_option maxHeartbeats 4000000
set_option maxRecDepth 10000
/-! sorted lists of keys -/
structure AlC {α : Type} (e : α → D) : Prop where
  al : ∀ a b, PySem.W.alike (e a).toP (e b).toP = true
theorem al_int : AlC D.int := ⟨fun _ _ => by simp [D.toP, PySem.W.alike]⟩
theorem al_allP {α : Type} {e : α → D} (h : AlC e) : ∀ xs ys : List α, PySem.W.alikeAll (D.toPs (xs.map e)) (D.toPs (ys.map e)) = true
  | [], ys => by cases ys <;> simp [D.toPs, PySem.W.alikeAll]
  | x :: xs, [] => by simp [D.toPs, PySem.W.alikeAll]
  | x :: xs, y :: ys => by
    have := al_allP h xs ys
    simp only [List.map_cons, D.toPs, PySem.W.alikeAll, h.al x y, this, Bool.and_self]
theorem al_t {α : Type} {e : α → D} (h : AlC e) : AlC (fun xs : List α => D.tup (xs.map e)) := ⟨fun a b => by
  simp only [D.toP, PySem.W.alike]
  exact al_allP h a b⟩
theorem al_t2 {α β : Type} {e : α → D} {g : β → D} (h : AlC e) (h2 : AlC g) : AlC (fun p : α × β => D.tup [e p.1, g p.2]) := ⟨fun a b => by
  simp only [D.toP, D.toPs, PySem.W.alike, PySem.W.alikeAll, h.al, h2.al, Bool.and_self]⟩
theorem toks_inj {x y : PyData} (h : PySem.W.alike x y = true) (e : PySem.W.keyToks x = PySem.W.keyToks y) : PyData.eqv x y = true := by
  obtain ⟨_, h2⟩ := PySem.W.toks_eqv x y h
  cases q : PyData.eqv x y with
  | true => rfl
  | false =>
    have k := h2 q [.inl 0] [.inl 1]
    rw [e, PySem.W.lex_pre, PyProof.Rows.lex_irrefl] at k
    have : PyProof.Rows.lexLt PyProof.Rows.itemOrd [Sum.inl 0] [Sum.inl 1] = true := by
      rw [PySem.W.lex_one]
      decide
    rw [this] at k
    cases k
theorem le_anti {α : Type} [DecidableEq α] {e : α → D} {k : Nat} (h : EqC e k) (al : AlC e) {a b : α} (h1 : leE e a b = true) (h2 : leE e b a = true) : a = b := by
  unfold leE leD at h1 h2
  rw [Bool.not_eq_true'] at h1 h2
  have t := toks_inj (al.al a b) (PyProof.Rows.lex_total _ _ h2 h1)
  rw [h.eqv] at t
  exact of_decide_eq_true t
theorem srt_uniq {α : Type} {le : α → α → Bool} (an : ∀ a b, le a b = true → le b a = true → a = b) : ∀ {xs ys : List α}, xs.Pairwise (fun p q => le p q = true) → ys.Pairwise (fun p q => le p q = true) → xs.Nodup → ys.Nodup → (∀ a, a ∈ xs ↔ a ∈ ys) → xs = ys
  | [], [], _, _, _, _, _ => rfl
  | [], y :: ys, _, _, _, _, h => by
    have := (h y).mpr List.mem_cons_self
    cases this
  | x :: xs, [], _, _, _, _, h => by
    have := (h x).mp List.mem_cons_self
    cases this
  | x :: xs, y :: ys, p, q, n, m, h => by
    obtain ⟨p1, p2⟩ := List.pairwise_cons.mp p
    obtain ⟨q1, q2⟩ := List.pairwise_cons.mp q
    obtain ⟨n1, n2⟩ := List.nodup_cons.mp n
    obtain ⟨m1, m2⟩ := List.nodup_cons.mp m
    have e : x = y := by
      rcases List.mem_cons.mp ((h x).mp List.mem_cons_self) with e | hx
      · exact e
      · rcases List.mem_cons.mp ((h y).mpr List.mem_cons_self) with e | hy
        · exact e.symm
        · exact an _ _ (p1 y hy) (q1 x hx)
    subst e
    rw [srt_uniq an p2 q2 n2 m2 fun a => ?_]
    constructor
    · intro ha
      rcases List.mem_cons.mp ((h a).mp (List.mem_cons_of_mem _ ha)) with e | ha'
      · exact absurd (e ▸ ha) n1
      · exact ha'
    · intro ha
      rcases List.mem_cons.mp ((h a).mpr (List.mem_cons_of_mem _ ha)) with e | ha'
      · exact absurd (e ▸ ha) m1
      · exact ha'
theorem sortB_g {α : Type} [DecidableEq α] {e : α → D} {k : Nat} (h : EqC e k) (hk : k ≤ 60) (al : AlC e) {xs : List α} (hne : ∀ x ∈ xs, tupNE (e x) = true) : sortB (xs.map e) = true := by
  unfold sortB
  rw [Bool.and_eq_true, Bool.and_eq_true, Bool.or_eq_true]
  refine ⟨List.all_eq_true.mpr fun x hx => ?_, List.all_eq_true.mpr fun x hx => List.all_eq_true.mpr fun y hy => ?_, .inl (List.all_eq_true.mpr fun x hx => ?_)⟩
  · obtain ⟨p, _, rfl⟩ := List.mem_map.mp hx
    rw [Bool.and_eq_true]
    exact ⟨h.ok p, decide_eq_true (Nat.le_trans (h.dep p) hk)⟩
  · obtain ⟨p, hp, rfl⟩ := List.mem_map.mp hx
    obtain ⟨q, hq, rfl⟩ := List.mem_map.mp hy
    exact al.al p q
  · obtain ⟨p, hp, rfl⟩ := List.mem_map.mp hx
    exact hne p hp
theorem sortM_g {α : Type} [DecidableEq α] {e : α → D} {k : Nat} (h : EqC e k) (hk : k ≤ 60) (al : AlC e) {xs : List α} (hne : ∀ x ∈ xs, tupNE (e x) = true) : sortM e xs = some (srtT (leE e) xs) := if_pos (sortB_g h hk al hne)
theorem minOk_g {α : Type} [DecidableEq α] {e : α → D} {k : Nat} (h : EqC e k) (hk : k ≤ 60) (al : AlC e) (nn : NoN e) (xs : List α) : minOk (xs.map e) = true := by
  unfold minOk
  rw [Bool.and_eq_true]
  refine ⟨List.all_eq_true.mpr fun x hx => ?_, List.all_eq_true.mpr fun x hx => List.all_eq_true.mpr fun y hy => ?_⟩
  · obtain ⟨p, _, rfl⟩ := List.mem_map.mp hx
    rw [Bool.and_eq_true, Bool.and_eq_true]
    refine ⟨h.ok p, ?_, decide_eq_true (Nat.le_trans (h.dep p) hk)⟩
    rw [(nn p).2.2] <;> rfl
  · obtain ⟨p, hp, rfl⟩ := List.mem_map.mp hx
    obtain ⟨q, hq, rfl⟩ := List.mem_map.mp hy
    exact al.al p q
section
variable {α β : Type} [DecidableEq α]
theorem dput_keys (kvs : List (α × β)) (a : α) (x : β) : dkeysT (dputT kvs a x) = if a ∈ dkeysT kvs then dkeysT kvs else dkeysT kvs ++ [a] := by
  have e : dhasT kvs a = true ↔ a ∈ dkeysT kvs := by
    unfold dhasT dkeysT
    rw [List.any_eq_true, List.mem_map]
    constructor
    · rintro ⟨p, hp, h⟩
      exact ⟨p, hp, of_decide_eq_true h⟩
    · rintro ⟨p, hp, h⟩
      exact ⟨p, hp, decide_eq_true h⟩
  unfold dputT
  by_cases c : a ∈ dkeysT kvs
  · rw [if_pos (e.mpr c), if_pos c]
    unfold dkeysT
    rw [List.map_map]
    refine List.map_congr_left fun p _ => ?_
    show (if p.1 = a then (p.1, x) else p).1 = p.1
    split <;> rfl
  · rw [if_neg fun h => c (e.mp h), if_neg c]
    unfold dkeysT
    rw [List.map_append] <;> rfl
theorem dof_keys (ps : List (α × β)) : (dkeysT (dofT ps)).Nodup ∧ ∀ a, a ∈ dkeysT (dofT ps) ↔ a ∈ ps.map (·.1) := by
  have key : ∀ (ps kvs : List (α × β)), (dkeysT kvs).Nodup → (dkeysT (ps.foldl (fun acc p => dputT acc p.1 p.2) kvs)).Nodup ∧ ∀ a, a ∈ dkeysT (ps.foldl (fun acc p => dputT acc p.1 p.2) kvs) ↔ a ∈ dkeysT kvs ∨ a ∈ ps.map (·.1) := by
    intro ps
    induction ps with
    | nil => exact fun kvs h => ⟨h, fun a => by simp⟩
    | cons p ps ih =>
      intro kvs h
      have hk := dput_keys kvs p.1 p.2
      obtain ⟨i1, i2⟩ := ih (dputT kvs p.1 p.2) (by
        rw [hk]
        split
        · exact h
        · rename_i c
          exact List.nodup_append.mpr ⟨h, List.nodup_cons.mpr ⟨List.not_mem_nil, List.nodup_nil⟩, fun x hx y hy e => c (by rw [List.mem_singleton.mp hy] at e; exact e ▸ hx)⟩)
      refine ⟨i1, fun a => (i2 a).trans ?_⟩
      rw [hk, List.map_cons, List.mem_cons]
      split
      · rename_i c
        constructor
        · rintro (h | h)
          · exact .inl h
          · exact .inr (.inr h)
        · rintro (h | h | h)
          · exact .inl h
          · exact .inl (h ▸ c)
          · exact .inr h
      · rw [List.mem_append, List.mem_singleton]
        constructor
        · rintro ((h | h) | h)
          · exact .inl h
          · exact .inr (.inl h)
          · exact .inr (.inr h)
        · rintro (h | h | h)
          · exact .inl (.inl h)
          · exact .inl (.inr h)
          · exact .inr h
  obtain ⟨h1, h2⟩ := key ps [] List.nodup_nil
  exact ⟨h1, fun a => (h2 a).trans ⟨fun h => h.resolve_left (fun z => by cases z), .inr⟩⟩
end
/-- sorted without doubles: by its members alone -/
theorem srtT_nodup {α : Type} {le : α → α → Bool} {xs : List α} (h : xs.Nodup) : (srtT le xs).Nodup := (srtT_perm le xs).nodup_iff.mpr h
theorem srtT_mem {α : Type} {le : α → α → Bool} {xs : List α} {a : α} : a ∈ srtT le xs ↔ a ∈ xs := (srtT_perm le xs).mem_iff
theorem srtT_ext {α : Type} [DecidableEq α] {e : α → D} {k : Nat} (h : EqC e k) (al : AlC e) {xs ys : List α} (n : xs.Nodup) (m : ys.Nodup) (hm : ∀ a, a ∈ xs ↔ a ∈ ys) : srtT (leE e) xs = srtT (leE e) ys :=
  srt_uniq (fun _ _ => le_anti h al) (srtT_pw leE_tr leE_tot xs) (srtT_pw leE_tr leE_tot ys) (srtT_nodup n) (srtT_nodup m) fun a => (srtT_mem.trans (hm a)).trans srtT_mem.symm

end K67

namespace K67
open PySem Mp
set_option maxHeartbeats 4000000
set_option maxRecDepth 10000
theorem nodup_mapOn {α β : Type} {f : α → β} : ∀ {xs : List α}, xs.Nodup → (∀ x ∈ xs, ∀ y ∈ xs, f x = f y → x = y) → (xs.map f).Nodup
  | [], _, _ => List.nodup_nil
  | x :: xs, n, h => by
    obtain ⟨n1, n2⟩ := List.nodup_cons.mp n
    refine List.nodup_cons.mpr ⟨fun hm => ?_, nodup_mapOn n2 fun y hy z hz => h y (List.mem_cons_of_mem _ hy) z (List.mem_cons_of_mem _ hz)⟩
    obtain ⟨y, hy, e⟩ := List.mem_map.mp hm
    exact n1 ((h y (List.mem_cons_of_mem _ hy) x List.mem_cons_self e) ▸ hy)
theorem sub_lenG {α : Type} [DecidableEq α] : ∀ (l D : List α), l.Nodup → (∀ x ∈ l, x ∈ D) → l.length ≤ D.length
  | [], _, _, _ => Nat.zero_le _
  | x :: l, D, hn, hs => by
    obtain ⟨h1, h2⟩ := List.nodup_cons.mp hn
    have hx : x ∈ D := hs x List.mem_cons_self
    have ih := sub_lenG l (D.erase x) h2 fun y hy => by
      have hne : y ≠ x := fun e => h1 (e ▸ hy)
      exact (List.mem_erase_of_ne hne).2 (hs y (List.mem_cons_of_mem _ hy))
    have e := List.length_erase_of_mem hx
    have hp : 0 < D.length := List.length_pos_of_mem hx
    rw [List.length_cons]
    omega

end K67

namespace K67
open PySem Mp
set_option maxHeartbeats 4000000
set_option maxRecDepth 10000
/-! first turned -/
theorem lt_ti (a b : Pc) : PySem.W.dataLt (en_TI a).toP (en_TI b).toP = decide (a < b) := by
  have e : ∀ x : List Int, D.toPs (x.map D.int) = x.map .int := fun x => by
    rw [D.toPs_map, List.map_map] <;> rfl
  show PySem.W.dataLt (.tuple (D.toPs (a.map D.int))) (.tuple (D.toPs (b.map D.int))) = _
  rw [PySem.W.dataLt_tuple, e, e]
  exact PySem.W.dataLt_ints a b
def fmin {α : Type} (lt : α → α → Bool) (x : α) (r : List α) : α := r.foldl (fun a y => if lt y a = true then y else a) x
abbrev ltP (a b : Pc) : Bool := decide (a < b)
def rots (p : Pc) : List Pc := [rot p 0, rot p 1, rot p 2, rot p 3]
def ft (p : Pc) : Pc := fmin ltP (rot p 0) [rot p 1, rot p 2, rot p 3]
theorem min_s (x : Pc) (r : List Pc) : minM en_TI (x :: r) = some (fmin ltP x r) := by
  have hm : minOk ((x :: r).map en_TI) = true := minOk_g (eqc_t eqc_int) (by decide) (al_t al_int) (nn_t _) (x :: r)
  have hf : (fun a y => if PySem.W.dataLt (en_TI y).toP (en_TI a).toP = true then y else a) = fun a y => if ltP y a = true then y else a := by
    funext a y
    rw [lt_ti]
  refine (if_pos hm).trans ?_
  rw [hf] <;> rfl
theorem lft_s {p : Pc} (h : OkP p) : F__law_first_turned p = some (ft p) := by
  unfold F__law_first_turned
  rw [rng1M_p (by decide), Option.bind_some, LcP_map (g := fun k => rot p k) (by rw [rngT_len]; decide) fun k _ => by rw [lturned_s h] <;> rfl, Option.bind_some]
  show (minM en_TI [rot p 0, rot p 1, rot p 2, rot p 3]).bind _ = _
  rw [min_s] <;> rfl
theorem pturned_s {p : Pc} {k : Int} (h : OkP p) : F_turned_by p k = some (rot p k) := by
  have h1 := cutT_len p (some (4 - k)) none
  have h2 := cutT_len p none (some (4 - k))
  have h3 := h.len
  unfold F_turned_by
  rw [catM_s (by omega)] <;> rfl
theorem pft_s {p : Pc} (h : OkP p) : F_first_turn p = some (ft p) := by
  unfold F_first_turn F_turns_of
  rw [rng1M_p (by decide), Option.bind_some, LcP_map (g := fun k => rot p k) (by rw [rngT_len]; decide) fun k _ => by rw [pturned_s h] <;> rfl, Option.bind_some, Option.bind_some]
  show (minM en_TI [rot p 0, rot p 1, rot p 2, rot p 3]).bind _ = _
  rw [min_s] <;> rfl
theorem leP (a b : Pc) : leE en_TI a b = !ltP b a := by
  unfold leE leD
  rw [lt_ti]
theorem fmin_or (x : Pc) : ∀ r : List Pc, fmin ltP x r ∈ x :: r
  | [] => List.mem_cons_self
  | y :: r => by
    show fmin ltP (if ltP y x = true then y else x) r ∈ _
    rcases List.mem_cons.mp (fmin_or (if ltP y x = true then y else x) r) with h | h
    · rw [h]
      split
      · exact List.mem_cons_of_mem _ List.mem_cons_self
      · exact List.mem_cons_self
    · exact List.mem_cons_of_mem _ (List.mem_cons_of_mem _ h)
theorem fmin_le (x : Pc) : ∀ r : List Pc, ∀ q ∈ x :: r, leE en_TI (fmin ltP x r) q = true
  | [], q, h => by
    rw [List.mem_singleton.mp h]
    exact (leE_tot x x).elim id id
  | y :: r, q, h => by
    have ih := fmin_le (if ltP y x = true then y else x) r
    have key : leE en_TI (if ltP y x = true then y else x) x = true ∧ leE en_TI (if ltP y x = true then y else x) y = true := by
      by_cases c : ltP y x = true
      · rw [if_pos c]
        have t := leE_tot (e := en_TI) y x
        rw [leP x y, c] at t
        exact ⟨t.elim id (fun z => by cases z), (leE_tot y y).elim id id⟩
      · rw [if_neg c]
        refine ⟨(leE_tot x x).elim id id, ?_⟩
        rw [leP]
        simpa using c
    have hx := ih _ List.mem_cons_self
    show leE en_TI (fmin ltP (if ltP y x = true then y else x) r) q = true
    rcases List.mem_cons.mp h with rfl | h
    · exact leE_tr _ _ _ hx key.1
    · rcases List.mem_cons.mp h with rfl | h
      · exact leE_tr _ _ _ hx key.2
      · exact ih q (List.mem_cons_of_mem _ h)
theorem ft_mem (p : Pc) : ft p ∈ rots p := fmin_or _ _
theorem ft_le (p : Pc) : ∀ q ∈ rots p, leE en_TI (ft p) q = true := fmin_le _ _
theorem ft_set {p q : Pc} (h : ∀ x, x ∈ rots p ↔ x ∈ rots q) : ft p = ft q :=
  le_anti (eqc_t eqc_int) (al_t al_int) (ft_le p _ ((h _).mpr (ft_mem q))) (ft_le q _ ((h _).mp (ft_mem p)))
theorem len4 {p : Pc} (h : p.length = 4) : ∃ a b c d, p = [a, b, c, d] := by
  match p, h with
  | [a, b, c, d], _ => exact ⟨a, b, c, d, rfl⟩
theorem rots_rot {p : Pc} {k : Int} (h : p.length = 4) (h0 : 0 ≤ k) (h4 : k < 4) : ∀ x, x ∈ rots (rot p k) ↔ x ∈ rots p := by
  obtain ⟨a, b, c, d, rfl⟩ := len4 h
  intro x
  rcases q4 h0 h4 with rfl | rfl | rfl | rfl
  · exact Iff.rfl
  · rw [rot_1]
    unfold rots
    simp only [rot_0, rot_1, rot_2, rot_3, List.mem_cons, List.not_mem_nil, or_false]
    constructor
    · rintro (z | z | z | z) <;> simp [z]
    · rintro (z | z | z | z) <;> simp [z]
  · rw [rot_2]
    unfold rots
    simp only [rot_0, rot_1, rot_2, rot_3, List.mem_cons, List.not_mem_nil, or_false]
    constructor
    · rintro (z | z | z | z) <;> simp [z]
    · rintro (z | z | z | z) <;> simp [z]
  · rw [rot_3]
    unfold rots
    simp only [rot_0, rot_1, rot_2, rot_3, List.mem_cons, List.not_mem_nil, or_false]
    constructor
    · rintro (z | z | z | z) <;> simp [z]
    · rintro (z | z | z | z) <;> simp [z]
theorem ft_rot {p : Pc} {k : Int} (h : p.length = 4) (h0 : 0 ≤ k) (h4 : k < 4) : ft (rot p k) = ft p := ft_set (rots_rot h h0 h4)
theorem ft_is {p : Pc} : ∃ k : Int, 0 ≤ k ∧ k < 4 ∧ ft p = rot p k := by
  have h := ft_mem p
  unfold rots at h
  simp only [List.mem_cons, List.not_mem_nil, or_false] at h
  rcases h with h | h | h | h
  · exact ⟨0, by decide, by decide, h⟩
  · exact ⟨1, by decide, by decide, h⟩
  · exact ⟨2, by decide, by decide, h⟩
  · exact ⟨3, by decide, by decide, h⟩
theorem ft_idem {p : Pc} (h : p.length = 4) : ft (ft p) = ft p := by
  obtain ⟨k, h0, h4, e⟩ := ft_is (p := p)
  rw [e, ft_rot h h0 h4, ← e]
theorem ft_in {p : Pc} (h : p.length = 4) : (ft p).length = 4 ∧ ∀ x ∈ ft p, x ∈ p := by
  obtain ⟨k, h0, h4, e⟩ := ft_is (p := p)
  obtain ⟨a, b, c, d, rfl⟩ := len4 h
  rw [e]
  rcases q4 h0 h4 with rfl | rfl | rfl | rfl <;> refine ⟨rfl, fun x hx => ?_⟩ <;> simp only [rot_0, rot_1, rot_2, rot_3, List.mem_cons, List.not_mem_nil, or_false] at hx ⊢ <;> rcases hx with z | z | z | z <;> simp [z]
/-! all pieces of some numbers -/
section
variable {α β : Type}
def stW (ns : List α) (ps : List (List α)) : List (List α) := ps.flatMap fun p => ns.map fun n => p ++ [n]
def WW (ns : List α) : List (List α) := stW ns (stW ns (stW ns (stW ns [[]])))
theorem stW_map (v : α → β) (ns : List α) : ∀ ps : List (List α), stW (ns.map v) (ps.map (List.map v)) = (stW ns ps).map (List.map v)
  | [] => rfl
  | p :: ps => by
    have ih := stW_map v ns ps
    unfold stW at ih ⊢
    rw [List.map_cons, List.flatMap_cons, List.flatMap_cons, List.map_append, ih, List.map_map, List.map_map]
    congr 1
    refine List.map_congr_left fun n _ => ?_
    simp
theorem WW_map (v : α → β) (ns : List α) : WW (ns.map v) = (WW ns).map (List.map v) := by
  unfold WW
  rw [← stW_map, ← stW_map, ← stW_map, ← stW_map] <;> rfl
theorem stW_len (ns : List α) : ∀ ps : List (List α), (stW ns ps).length = ps.length * ns.length
  | [] => by simp [stW]
  | p :: ps => by
    have ih := stW_len ns ps
    unfold stW at ih ⊢
    rw [List.flatMap_cons, List.length_append, ih, List.length_map, List.length_cons, Nat.succ_mul, Nat.add_comm]
theorem WW_len (ns : List α) : (WW ns).length = ns.length * ns.length * ns.length * ns.length := by
  unfold WW
  rw [stW_len, stW_len, stW_len, stW_len]
  simp
theorem stW_mem {ns : List α} {ps : List (List α)} {q : List α} : q ∈ stW ns ps ↔ ∃ p ∈ ps, ∃ n ∈ ns, q = p ++ [n] := by
  unfold stW
  simp only [List.mem_flatMap, List.mem_map]
  constructor
  · rintro ⟨p, hp, n, hn, e⟩
    exact ⟨p, hp, n, hn, e.symm⟩
  · rintro ⟨p, hp, n, hn, e⟩
    exact ⟨p, hp, n, hn, e.symm⟩
theorem WW_mem {ns : List α} {q : List α} : q ∈ WW ns ↔ q.length = 4 ∧ ∀ x ∈ q, x ∈ ns := by
  unfold WW
  simp only [stW_mem, List.mem_singleton]
  constructor
  · rintro ⟨_, ⟨_, ⟨_, ⟨_, rfl, a, ha, rfl⟩, b, hb, rfl⟩, c, hc, rfl⟩, d, hd, rfl⟩
    refine ⟨rfl, fun x hx => ?_⟩
    simp at hx
    rcases hx with z | z | z | z <;> simpa [z]
  · rintro ⟨hl, hx⟩
    match q, hl with
    | [a, b, c, d], _ =>
      exact ⟨[a, b, c], ⟨[a, b], ⟨[a], ⟨[], rfl, a, hx a (by simp), rfl⟩, b, hx b (by simp), rfl⟩, c, hx c (by simp), rfl⟩, d, hx d (by simp), rfl⟩
theorem stW_nodup {ns : List α} (hn : ns.Nodup) : ∀ {ps : List (List α)}, ps.Nodup → (stW ns ps).Nodup
  | [], _ => List.nodup_nil
  | p :: ps, h => by
    obtain ⟨h1, h2⟩ := List.nodup_cons.mp h
    have ih := stW_nodup hn h2
    unfold stW at ih ⊢
    rw [List.flatMap_cons]
    refine List.nodup_append.mpr ⟨?_, ih, fun x hx y hy e => ?_⟩
    · exact nodup_mapOn hn fun x _ y _ e => by simpa using e
    · obtain ⟨n, _, rfl⟩ := List.mem_map.mp hx
      obtain ⟨p', hp', n', _, e'⟩ := stW_mem.mp (show y ∈ stW ns ps from hy)
      rw [e'] at e
      have := (List.append_inj' e rfl).1
      exact h1 (this ▸ hp')
theorem WW_nodup {ns : List α} (hn : ns.Nodup) : (WW ns).Nodup := stW_nodup hn (stW_nodup hn (stW_nodup hn (stW_nodup hn (List.nodup_cons.mpr ⟨List.not_mem_nil, List.nodup_nil⟩))))
end

end K67

namespace K67
open PySem Mp
set_option maxHeartbeats 4000000
set_option maxRecDepth 10000
/-! the same count by places -/
def lxN : List Nat → List Nat → Bool
  | [], [] => false
  | [], _ :: _ => true
  | _ :: _, [] => false
  | a :: r, b :: s => if Nat.blt a b = true then true else if Nat.beq a b = true then lxN r s else false
def ftN (p : List Nat) : List Nat := match p with
  | [a, b, c, d] => fmin lxN [a, b, c, d] [[d, a, b, c], [c, d, a, b], [b, c, d, a]]
  | _ => p
def eqN : List Nat → List Nat → Bool
  | [], [] => true
  | a :: r, b :: s => Nat.beq a b && eqN r s
  | _, _ => false
theorem eqN_iff : ∀ a b : List Nat, eqN a b = true ↔ a = b
  | [], [] => ⟨fun _ => rfl, fun _ => rfl⟩
  | [], _ :: _ => ⟨fun h => (nomatch h), fun h => (nomatch h)⟩
  | _ :: _, [] => ⟨fun h => (nomatch h), fun h => (nomatch h)⟩
  | a :: r, b :: s => by
    show (Nat.beq a b && eqN r s) = true ↔ _
    rw [Bool.and_eq_true, eqN_iff r s, Nat.beq_eq]
    constructor
    · rintro ⟨rfl, rfl⟩; rfl
    · intro h
      injection h with h1 h2
      exact ⟨h1, h2⟩
def cntN (m : Nat) : Nat := ((WW (List.range m)).filter fun q => eqN (ftN q) q).length
theorem cnt1 : cntN 1 = 1 := by decide +kernel
theorem cnt2 : cntN 2 = 6 := by decide +kernel
theorem cnt3 : cntN 3 = 24 := by decide +kernel
theorem cnt4 : cntN 4 = 70 := by decide +kernel
theorem cnt5 : cntN 5 = 165 := by decide +kernel
/-- rising numbers -/
structure Rs (ns : List Int) : Prop where
  len : 1 ≤ ns.length ∧ ns.length ≤ 5
  b9 : ∀ x ∈ ns, B9 x
  up : ns.Pairwise (· < ·)
def vv (ns : List Int) (i : Nat) : Int := ns.getD i 0
theorem Rs.nodup {ns : List Int} (h : Rs ns) : ns.Nodup := List.Pairwise.imp (fun {a b} (z : a < b) => (by omega : a ≠ b)) h.up
theorem vv_range (ns : List Int) : (List.range ns.length).map (vv ns) = ns := by
  apply List.ext_getElem?
  intro i
  rw [List.getElem?_map]
  by_cases h : i < ns.length
  · rw [List.getElem?_range h, List.getElem?_eq_getElem h]
    show some (ns.getD i 0) = _
    rw [List.getD_eq_getElem?_getD, List.getElem?_eq_getElem h] <;> rfl
  · rw [List.getElem?_eq_none (by rw [List.length_range]; omega), List.getElem?_eq_none (by omega)] <;> rfl
theorem vv_lt {ns : List Int} (h : Rs ns) {i j : Nat} (hj : j < ns.length) (hij : i < j) : vv ns i < vv ns j := by
  have e : ∀ k (hk : k < ns.length), vv ns k = ns[k] := fun k hk => by
    unfold vv
    rw [List.getD_eq_getElem?_getD, List.getElem?_eq_getElem hk] <;> rfl
  rw [e i (by omega), e j hj]
  exact List.pairwise_iff_getElem.mp h.up i j _ _ hij
theorem vv_iff {ns : List Int} (h : Rs ns) {i j : Nat} (hi : i < ns.length) (hj : j < ns.length) : (vv ns i < vv ns j ↔ i < j) ∧ (vv ns i = vv ns j ↔ i = j) := by
  rcases Nat.lt_trichotomy i j with k | k | k
  · have := vv_lt h hj k
    exact ⟨⟨fun _ => k, fun _ => this⟩, ⟨fun z => by omega, fun z => by omega⟩⟩
  · subst k
    exact ⟨⟨fun z => by omega, fun z => by omega⟩, ⟨fun _ => rfl, fun _ => rfl⟩⟩
  · have := vv_lt h hi k
    exact ⟨⟨fun z => by omega, fun z => by omega⟩, ⟨fun z => by omega, fun z => by omega⟩⟩
theorem lx_map {ns : List Int} (h : Rs ns) : ∀ {a b : List Nat}, (∀ x ∈ a, x < ns.length) → (∀ x ∈ b, x < ns.length) → ltP (a.map (vv ns)) (b.map (vv ns)) = lxN a b
  | [], [], _, _ => by simp [ltP, lxN]
  | [], b :: s, _, _ => by simp [ltP, lxN]
  | a :: r, [], _, _ => by simp [ltP, lxN]
  | a :: r, b :: s, ha, hb => by
    have ih := lx_map h (a := r) (b := s) (fun x hx => ha x (List.mem_cons_of_mem _ hx)) fun x hx => hb x (List.mem_cons_of_mem _ hx)
    obtain ⟨k1, k2⟩ := vv_iff h (ha a List.mem_cons_self) (hb b List.mem_cons_self)
    show decide (vv ns a :: r.map (vv ns) < vv ns b :: s.map (vv ns)) = (if Nat.blt a b = true then true else if Nat.beq a b = true then lxN r s else false)
    rw [← ih]
    by_cases c : a < b
    · rw [if_pos (by simpa using c)]
      exact decide_eq_true (List.cons_lt_cons_iff.mpr (.inl (k1.mpr c)))
    · rw [if_neg (by simpa using c)]
      by_cases d : a = b
      · rw [if_pos (by simpa using d)]
        exact decide_eq_decide.mpr (List.cons_lt_cons_iff.trans ⟨fun z => z.elim (fun z => absurd (k1.mp z) c) (·.2), fun z => .inr ⟨k2.mpr d, z⟩⟩)
      · rw [if_neg (by simpa using d)]
        exact decide_eq_false fun z => (List.cons_lt_cons_iff.mp z).elim (fun z => c (k1.mp z)) fun z => d (k2.mp z.1)
theorem fmin_map {ns : List Int} (h : Rs ns) : ∀ (r : List (List Nat)) (x : List Nat), (∀ q ∈ x :: r, ∀ i ∈ q, i < ns.length) → fmin ltP (x.map (vv ns)) (r.map (List.map (vv ns))) = (fmin lxN x r).map (vv ns)
  | [], _, _ => rfl
  | y :: r, x, hq => by
    have hx := hq x List.mem_cons_self
    have hy := hq y (List.mem_cons_of_mem _ List.mem_cons_self)
    show fmin ltP (if ltP (y.map (vv ns)) (x.map (vv ns)) = true then y.map (vv ns) else x.map (vv ns)) (r.map (List.map (vv ns))) = (fmin lxN (if lxN y x = true then y else x) r).map (vv ns)
    rw [lx_map h hy hx, ← fmin_map h r]
    · congr 1
      split <;> rfl
    · intro q hq2 i hi
      rcases List.mem_cons.mp hq2 with rfl | hq2
      · split at hi
        · exact hy i hi
        · exact hx i hi
      · exact hq q (List.mem_cons_of_mem _ (List.mem_cons_of_mem _ hq2)) i hi
theorem ft_map {ns : List Int} (h : Rs ns) {q : List Nat} (hl : q.length = 4) (hq : ∀ i ∈ q, i < ns.length) : ft (q.map (vv ns)) = (ftN q).map (vv ns) := by
  match q, hl with
  | [a, b, c, d], _ =>
    have := fmin_map h [[d, a, b, c], [c, d, a, b], [b, c, d, a]] [a, b, c, d] fun q hq2 i hi => by
      simp only [List.mem_cons, List.not_mem_nil, or_false] at hq2
      refine hq i ?_
      rcases hq2 with rfl | rfl | rfl | rfl <;> simp only [List.mem_cons, List.not_mem_nil, or_false] at hi ⊢ <;> omega
    exact this
theorem ftN_in {q : List Nat} (hl : q.length = 4) : ∀ i ∈ ftN q, i ∈ q := by
  match q, hl with
  | [a, b, c, d], _ =>
    have key : ∀ (r : List (List Nat)) (x : List Nat), fmin lxN x r ∈ x :: r := by
      intro r
      induction r with
      | nil => exact fun x => List.mem_cons_self
      | cons y r ih =>
        intro x
        show fmin lxN (if lxN y x = true then y else x) r ∈ _
        rcases List.mem_cons.mp (ih (if lxN y x = true then y else x)) with h | h
        · rw [h]
          split
          · exact List.mem_cons_of_mem _ List.mem_cons_self
          · exact List.mem_cons_self
        · exact List.mem_cons_of_mem _ (List.mem_cons_of_mem _ h)
    intro i hi
    have k := key [[d, a, b, c], [c, d, a, b], [b, c, d, a]] [a, b, c, d]
    have hi' : i ∈ fmin lxN [a, b, c, d] [[d, a, b, c], [c, d, a, b], [b, c, d, a]] := hi
    simp only [List.mem_cons, List.not_mem_nil, or_false] at k
    rcases k with k | k | k | k <;> rw [k] at hi' <;> simp only [List.mem_cons, List.not_mem_nil, or_false] at hi' ⊢ <;> omega
theorem map_inj {ns : List Int} (h : Rs ns) : ∀ {a b : List Nat}, (∀ x ∈ a, x < ns.length) → (∀ x ∈ b, x < ns.length) → (a.map (vv ns) = b.map (vv ns) ↔ a = b)
  | [], [], _, _ => ⟨fun _ => rfl, fun _ => rfl⟩
  | [], _ :: _, _, _ => ⟨fun h => (by simp at h), fun h => (by simp at h)⟩
  | _ :: _, [], _, _ => ⟨fun h => (by simp at h), fun h => (by simp at h)⟩
  | a :: r, b :: s, ha, hb => by
    have ih := map_inj h (a := r) (b := s) (fun x hx => ha x (List.mem_cons_of_mem _ hx)) fun x hx => hb x (List.mem_cons_of_mem _ hx)
    obtain ⟨_, k2⟩ := vv_iff h (ha a List.mem_cons_self) (hb b List.mem_cons_self)
    rw [List.map_cons, List.map_cons, List.cons.injEq, List.cons.injEq, ih, k2]
/-- how many first turned ones -/
theorem cnt_s {ns : List Int} (h : Rs ns) : ((WW ns).filter fun p => decide (ft p = p)).length = cntN ns.length := by
  have e : WW ns = (WW (List.range ns.length)).map (List.map (vv ns)) := by rw [← WW_map, vv_range]
  rw [e, List.filter_map, List.length_map]
  unfold cntN
  congr 1
  refine List.filter_congr fun q hq => ?_
  obtain ⟨h1, h2⟩ := WW_mem.mp hq
  have h3 : ∀ i ∈ q, i < ns.length := fun i hi => List.mem_range.mp (h2 i hi)
  show decide (ft (q.map (vv ns)) = q.map (vv ns)) = _
  rw [ft_map h h1 h3]
  have k := map_inj h (a := ftN q) (b := q) (fun x hx => h3 x (ftN_in h1 x hx)) h3
  cases z : eqN (ftN q) q with
  | true => exact decide_eq_true (k.mpr ((eqN_iff _ _).mp z))
  | false =>
    refine decide_eq_false fun y => ?_
    rw [(eqN_iff _ _).mpr (k.mp y)] at z
    cases z
theorem cnt_val {m : Nat} (h1 : 1 ≤ m) (h5 : m ≤ 5) : ((cntN m : Nat) : Int) = ((m : Int) * m * m * m + m * m + 2 * m) / 4 := by
  have : m = 1 ∨ m = 2 ∨ m = 3 ∨ m = 4 ∨ m = 5 := by omega
  rcases this with rfl | rfl | rfl | rfl | rfl
  · rw [cnt1] <;> rfl
  · rw [cnt2] <;> rfl
  · rw [cnt3] <;> rfl
  · rw [cnt4] <;> rfl
  · rw [cnt5] <;> rfl
/-- .. as a dict's keys -/
theorem keys_s {ns : List Int} (h : Rs ns) : (dkeysT (dofT ((WW ns).map fun p => (ft p, true)))).length = cntN ns.length := by
  obtain ⟨k1, k2⟩ := dof_keys ((WW ns).map fun p => (ft p, true))
  rw [← cnt_s h]
  have n2 : ((WW ns).filter fun p => decide (ft p = p)).Nodup := (WW_nodup h.nodup).filter _
  have hm : ∀ a, a ∈ dkeysT (dofT ((WW ns).map fun p => (ft p, true))) ↔ a ∈ (WW ns).filter fun p => decide (ft p = p) := fun a => by
    rw [k2, List.map_map, List.mem_map, List.mem_filter]
    constructor
    · rintro ⟨p, hp, rfl⟩
      obtain ⟨h1, h2⟩ := WW_mem.mp hp
      obtain ⟨f1, f2⟩ := ft_in h1
      exact ⟨WW_mem.mpr ⟨f1, fun x hx => h2 x (f2 x hx)⟩, decide_eq_true (ft_idem h1)⟩
    · rintro ⟨hp, e⟩
      exact ⟨a, hp, of_decide_eq_true e⟩
  exact Nat.le_antisymm (sub_lenG _ _ k1 fun x hx => (hm x).mp hx) (sub_lenG _ _ n2 fun x hx => (hm x).mpr hx)

end K67

namespace K67
open PySem Mp
set_option maxHeartbeats 4000000
set_option maxRecDepth 10000
/-! drawn numbers -/
theorem whlM_succ {σ : Type} (n : Nat) (s : σ) (c : σ → Option (Bool × σ)) (g : σ → Option σ) : whlM (n + 1) s c g = (c s).bind fun k => if k.1 = true then (g k.2).bind fun s => whlM n s c g else some k.2 := rfl
theorem popM_in {α : Type} {xs : List α} {i : Int} (h0 : 0 ≤ i) (h1 : i < xs.length) (hl : xs.length ≤ 1000) : ∃ y, popM xs i = some (y, xs.eraseIdx i.toNat) ∧ (y :: xs.eraseIdx i.toNat).Perm xs ∧ (xs.eraseIdx i.toNat).length + 1 = xs.length := by
  have hi : i.toNat < xs.length := by omega
  have e : Mp.ixN xs.length i = some i.toNat := by unfold Mp.ixN; rw [if_pos h0, if_pos h1]
  refine ⟨xs[i.toNat], ?_, ?_, ?_⟩
  · unfold popM
    rw [if_pos (by constructor <;> omega), e]
    show (xs[i.toNat]?).bind _ = _
    rw [List.getElem?_eq_getElem hi] <;> rfl
  · have h2 : xs = xs.take i.toNat ++ xs[i.toNat] :: xs.drop (i.toNat + 1) := by
      rw [List.getElem_cons_drop, List.take_append_drop]
    rw [List.eraseIdx_eq_take_drop_succ]
    conv => rhs; rw [h2]
    exact List.perm_middle.symm
  · rw [List.length_eraseIdx_of_lt hi]
    omega
theorem shuf_loop : ∀ (n k : Nat) (b left found : List Int), Bw b → left.length = k → k < n → found.length + k ≤ 1000 → ∃ b' zs, Bw b' ∧ zs.Perm left ∧
    whlM n (b, left, found) (fun (s1 : ((List Int) × (List Int) × (List Int))) => some ((!decide (s1.2.1 = ([] : (List Int)))), s1)) (fun (s1 : ((List Int) × (List Int) × (List Int))) => (F__law_less s1.1 (s1.2.1.length : Int)).bind fun t3 => (popM s1.2.1 t3.1).bind fun t4 => (appM s1.2.2 t4.1).bind fun t5 => some (t3.2, t4.2, t5)) = some (b', [], found ++ zs)
  | 0, k, _, _, _, _, _, h, _ => absurd h (Nat.not_lt_zero _)
  | n + 1, 0, b, left, found, hb, hl, _, _ => by
    have : left = [] := List.eq_nil_of_length_eq_zero hl
    subst this
    refine ⟨b, [], hb, List.Perm.refl _, ?_⟩
    rw [whlM_succ, Option.bind_some]
    show (if (!decide (([] : List Int) = [])) = true then _ else _) = _
    rw [if_neg (by simp), List.append_nil]
  | n + 1, k + 1, b, left, found, hb, hl, hk, hs => by
    have hne : left ≠ [] := fun z => by rw [z] at hl; cases hl
    obtain ⟨r, b1, e1, r0, r1, hb1⟩ := less_s hb (show (0 : Int) < (left.length : Int) by omega) (by omega)
    obtain ⟨y, e2, p2, l2⟩ := popM_in (xs := left) r0 r1 (by omega)
    obtain ⟨b', zs, hb', pz, e⟩ := shuf_loop n k b1 (left.eraseIdx r.toNat) (found ++ [y]) hb1 (by omega) (by omega) (by rw [List.length_append, List.length_singleton]; omega)
    refine ⟨b', y :: zs, hb', (pz.cons y).trans p2, ?_⟩
    rw [whlM_succ, Option.bind_some]
    show (if (!decide (left = [])) = true then ((F__law_less b (left.length : Int)).bind fun t3 => (popM left t3.1).bind fun t4 => (appM found t4.1).bind fun t5 => some (t3.2, t4.2, t5)).bind _ else _) = _
    rw [if_pos (by simp [hne]), e1, Option.bind_some, e2, Option.bind_some, appM_s (by omega), Option.bind_some, Option.bind_some]
    show whlM n (b1, left.eraseIdx r.toNat, found ++ [y]) _ _ = _
    rw [e, List.append_assoc] <;> rfl
theorem shuf_s {b xs : List Int} (hb : Bw b) (hl : xs.length < 64) : ∃ b' zs, F__law_shuffled b xs = some (zs, b') ∧ Bw b' ∧ zs.Perm xs := by
  obtain ⟨b', zs, hb', p, e⟩ := shuf_loop 64 xs.length b xs [] hb rfl hl (by rw [List.length_nil]; omega)
  refine ⟨b', zs, ?_, hb', p⟩
  unfold F__law_shuffled
  rw [e] <;> rfl
theorem rng9 : rngT (0 - 9) 10 = [-9, -8, -7, -6, -5, -4, -3, -2, -1, 0, 1, 2, 3, 4, 5, 6, 7, 8, 9] := by decide +kernel
theorem leI (a b : Int) : leE D.int a b = decide (a ≤ b) := by
  unfold leE leD
  show (!PySem.W.dataLt (.int b) (.int a)) = _
  rw [PySem.W.dataLt_int]
  by_cases h : a ≤ b
  · rw [decide_eq_true h, decide_eq_false (by omega)] <;> rfl
  · rw [decide_eq_false h, decide_eq_true (by omega)] <;> rfl
theorem sortI_s (xs : List Int) : sortM D.int xs = some (srtT (leE D.int) xs) := by
  refine if_pos ?_
  unfold sortB
  rw [Bool.and_eq_true, Bool.and_eq_true, Bool.or_eq_true]
  refine ⟨List.all_eq_true.mpr fun x hx => ?_, List.all_eq_true.mpr fun x hx => List.all_eq_true.mpr fun y hy => ?_, .inr (List.all_eq_true.mpr fun x hx => ?_)⟩
  · obtain ⟨p, _, rfl⟩ := List.mem_map.mp hx
    rw [Bool.and_eq_true]
    exact ⟨eqc_int.ok p, decide_eq_true (Nat.le_trans (eqc_int.dep p) (by decide))⟩
  · obtain ⟨p, hp, rfl⟩ := List.mem_map.mp hx
    obtain ⟨q, hq, rfl⟩ := List.mem_map.mp hy
    exact al_int.al p q
  · obtain ⟨p, hp, rfl⟩ := List.mem_map.mp hx
    rfl
theorem pick_s {zs : List Int} {m : Int} (hp : zs.Perm (rngT (0 - 9) 10)) (h1 : 1 ≤ m) (h5 : m ≤ 5) : Rs (srtT (leE D.int) (cutT zs none (some m))) ∧ ((srtT (leE D.int) (cutT zs none (some m))).length : Int) = m := by
  have hl : zs.length = 19 := by rw [hp.length_eq, rng9] <;> rfl
  have ec : cutT zs none (some m) = zs.take m.toNat := by
    unfold cutT
    have e1 : sIx zs.length 0 none = 0 := rfl
    have e2 : sIx zs.length zs.length (some m) = m.toNat := by
      show (if m < 0 then (m + (zs.length : Int)).toNat else min m.toNat zs.length) = _
      rw [if_neg (by omega)]
      omega
    rw [e1, e2] <;> rfl
  have hn : (zs.take m.toNat).Nodup := (hp.nodup_iff.mpr (by rw [rng9]; decide +kernel)).sublist (List.take_sublist _ _)
  have pm := srtT_perm (leE D.int) (zs.take m.toNat)
  have hlen : (srtT (leE D.int) (zs.take m.toNat)).length = m.toNat := by rw [pm.length_eq, List.length_take]; omega
  rw [ec]
  refine ⟨⟨by omega, fun x hx => ?_, ?_⟩, by rw [hlen]; omega⟩
  · have h2 := (hp.mem_iff.mp (List.mem_of_mem_take (pm.mem_iff.mp hx)))
    have := rngT_mem.mp h2
    constructor <;> omega
  · have pw := srtT_pw (le := leE D.int) leE_tr leE_tot (zs.take m.toNat)
    have nd := pm.nodup_iff.mpr hn
    refine List.Pairwise.imp₂ (fun a b h1 h2 => ?_) pw nd
    rw [leI] at h1
    have := of_decide_eq_true h1
    omega
/-- all pieces of the numbers, as they are made -/
theorem inner_s {ns : List Int} (hn : ns.length ≤ 5) : ∀ {ps s : List Pc}, (∀ p ∈ ps, p.length ≤ 100) → s.length + (stW ns ps).length ≤ 16777216 → forL ps s (fun (s4 : ((List (List Int)))) (x5 : (List Int)) => (LcP ns fun x6 => (catM x5 ([x6] : (List Int))).bind fun t7 => some t7).bind fun t8 => (catM s4 t8).bind fun t9 => some t9) = some (s ++ stW ns ps) := fun {ps s} hp hl =>
  forL_flat (u := fun p => ns.map fun n => p ++ [n]) hl fun p hpm s hs => by
    rw [LcP_map (g := fun n => p ++ [n]) (by omega) fun n _ => by rw [catM_s (by have := hp p hpm; rw [List.length_singleton]; omega)] <;> rfl, Option.bind_some, catM_s hs] <;> rfl
theorem pieces_s {ns : List Int} (hn : ns.length ≤ 5) : forL ([0, 1, 2, 3] : (List Int)) ([([] : (List Int))] : (List (List Int))) (fun (s2 : ((List (List Int)))) (x3 : Int) => (forL s2 ([] : (List (List Int))) fun (s4 : ((List (List Int)))) (x5 : (List Int)) => (LcP ns fun x6 => (catM x5 ([x6] : (List Int))).bind fun t7 => some t7).bind fun t8 => (catM s4 t8).bind fun t9 => some t9).bind fun o10 => some o10) = some (WW ns) := by
  have step : ∀ {ps : List Pc} (k : Nat), (∀ p ∈ ps, p.length ≤ k) → k < 10 → ps.length ≤ 1000 → (forL ps ([] : (List (List Int))) fun (s4 : ((List (List Int)))) (x5 : (List Int)) => (LcP ns fun x6 => (catM x5 ([x6] : (List Int))).bind fun t7 => some t7).bind fun t8 => (catM s4 t8).bind fun t9 => some t9) = some (stW ns ps) ∧ ∀ p ∈ stW ns ps, p.length ≤ k + 1 := fun {ps} k h hk hl => by
    refine ⟨by
      rw [inner_s hn (fun p hp => by have := h p hp; omega) (by rw [stW_len, List.length_nil, Nat.zero_add]; exact Nat.le_trans (Nat.mul_le_mul hl hn) (by decide))] <;> rfl, fun p hp => ?_⟩
    obtain ⟨q, hq, n, _, rfl⟩ := stW_mem.mp hp
    have := h q hq
    rw [List.length_append, List.length_singleton]
    omega
  have l1 : (stW ns [[]]).length ≤ 5 := by rw [stW_len]; simpa using hn
  have l2 : (stW ns (stW ns [[]])).length ≤ 25 := by rw [stW_len]; exact Nat.mul_le_mul l1 hn
  have l3 : (stW ns (stW ns (stW ns [[]]))).length ≤ 125 := by rw [stW_len]; exact Nat.mul_le_mul l2 hn
  obtain ⟨e1, h1⟩ := step (ps := [[]]) 0 (fun p hp => by rw [List.mem_singleton.mp hp]; exact Nat.le_refl _) (by decide) (by decide)
  obtain ⟨e2, h2⟩ := step 1 h1 (by decide) (by omega)
  obtain ⟨e3, h3⟩ := step 2 h2 (by decide) (by omega)
  obtain ⟨e4, _⟩ := step 3 h3 (by decide) (by omega)
  unfold forL
  rw [e1, Option.bind_some, Option.bind_some]
  unfold forL
  rw [e2, Option.bind_some, Option.bind_some]
  unfold forL
  rw [e3, Option.bind_some, Option.bind_some]
  unfold forL
  rw [e4, Option.bind_some, Option.bind_some] <;> rfl
theorem WW_ok {ns : List Int} (h : Rs ns) {p : Pc} (hp : p ∈ WW ns) : OkP p := by
  obtain ⟨h1, h2⟩ := WW_mem.mp hp
  exact ⟨h1, fun x hx => h.b9 x (h2 x hx)⟩
theorem dict_s {ns : List Int} (h : Rs ns) : forL (WW ns) ([] : (List ((List Int) × Bool))) (fun (s16 : ((List ((List Int) × Bool)))) (x17 : (List Int)) => (F__law_first_turned x17).bind fun t18 => (dputM s16 t18 true).bind fun t19 => some t19) = some (dofT ((WW ns).map fun p => (ft p, true))) := by
  have hl : (WW ns).length ≤ 625 := by
    rw [WW_len]
    exact Nat.mul_le_mul (Nat.mul_le_mul (Nat.mul_le_mul h.len.2 h.len.2) h.len.2) h.len.2
  have key : ∀ (xs : List Pc) (s : List (Pc × Bool)), (∀ p ∈ xs, OkP p) → s.length + xs.length ≤ 1000 → forL xs s (fun (s16 : ((List ((List Int) × Bool)))) (x17 : (List Int)) => (F__law_first_turned x17).bind fun t18 => (dputM s16 t18 true).bind fun t19 => some t19) = some ((xs.map fun p => (ft p, true)).foldl (fun acc p => dputT acc p.1 p.2) s) := by
    intro xs
    induction xs with
    | nil => exact fun s _ _ => rfl
    | cons p xs ih =>
      intro s hp hs
      rw [List.length_cons] at hs
      unfold forL
      rw [lft_s (hp p List.mem_cons_self), Option.bind_some]
      have e : dputM s (ft p) true = some (dputT s (ft p) true) := if_pos (by rw [sizeLine_eq]; omega)
      rw [e, Option.bind_some, Option.bind_some, ih _ (fun q hq => hp q (List.mem_cons_of_mem _ hq))]
      · rfl
      · have : (dputT s (ft p) true).length ≤ s.length + 1 := by
          unfold dputT
          split
          · rw [List.length_map]; omega
          · rw [List.length_append, List.length_singleton]; omega
        omega
  exact key _ _ (fun p hp => WW_ok h hp) (by rw [List.length_nil]; omega)

end K67

namespace K67
open PySem Mp
set_option maxHeartbeats 4000000
set_option maxRecDepth 10000
/-! puzzles are made -/
theorem forR_ok {α δ : Type} {g : Unit → α → Option (Unit ⊕ δ)} : ∀ {xs : List α}, (∀ x ∈ xs, g () x = some (.inl ())) → forR xs () g = some (.inl ())
  | [], _ => rfl
  | x :: xs, h => by
    unfold forR
    rw [h x List.mem_cons_self]
    exact forR_ok fun y hy => h y (List.mem_cons_of_mem _ hy)
theorem enumT_mem {α : Type} {xs : List α} {p : Int × α} (h : p ∈ enumT xs) : ∃ k : Nat, p.1 = k ∧ k < xs.length ∧ xs[k]? = some p.2 := by
  rw [enumT_eq] at h
  obtain ⟨q, hq, rfl⟩ := List.mem_map.mp h
  obtain ⟨x, k⟩ := q
  have := List.mem_zipIdx' hq
  exact ⟨k, rfl, this.1, by rw [List.getElem?_eq_getElem this.1]; exact congrArg some this.2.symm⟩
theorem cut_to {α : Type} (xs : List α) (n : Nat) : cutT xs none (some (n : Int)) = xs.take n := by
  have e : sIx xs.length xs.length (some (n : Int)) = min n xs.length := by
    show (if (n : Int) < 0 then ((n : Int) + (xs.length : Int)).toNat else min (n : Int).toNat xs.length) = _
    rw [if_neg (by omega), Int.toNat_natCast]
  unfold cutT
  rw [e]
  show (xs.drop 0).take (min n xs.length - 0) = _
  rw [List.drop_zero, Nat.sub_zero, ← List.take_eq_take_min]
theorem ixM_last {α : Type} {xs : List α} {x : α} (h : xs.getLast? = some x) : ixM xs (-1) = some x := by
  have hne : xs ≠ [] := fun z => by rw [z] at h; cases h
  have hp : 0 < xs.length := List.length_pos_iff.mpr hne
  have e : Mp.ixN xs.length (-1) = some (xs.length - 1) := by
    unfold Mp.ixN
    rw [if_neg (by omega), if_pos (by omega)]
    congr 1
    omega
  unfold ixM
  rw [e]
  show xs[xs.length - 1]? = _
  rw [← List.getLast?_eq_getElem?]
  exact h
theorem between_s (v a b : Int) : F_is_between v a b = some (decide (a ≤ v) && decide (v ≤ b)) := by
  unfold F_is_between F_is_whole
  rw [Option.bind_some, Bool.true_and]
theorem piece_in {p : Pc} (h : OkP p) : F_wrong_in_is_side p 4 4 = some [] := by
  have hl := h.len
  unfold F_wrong_in_is_side
  rw [if_neg (by simp [hl]), forR_ok fun x hx => ?_]
  · rfl
  · obtain ⟨k, e1, e2, e3⟩ := enumT_mem hx
    have hx2 := h.b9 x.2 (List.mem_of_getElem? e3)
    have hb : F_is_side (cutT p none (some x.1)) x.2 = some true := by
      unfold F_is_side
      rw [between_s, decide_eq_true hx2.1, decide_eq_true hx2.2] <;> rfl
    have hne : ¬ x.1 = 4 := by omega
    simp [hb, hne]
theorem isPiece_s {p : Pc} (h : OkP p) : F_is_piece p = some true := by
  unfold F_is_piece F_are_all_is_side
  rw [piece_in h] <;> rfl

end K67

namespace K67
open PySem Mp
set_option maxHeartbeats 4000000
set_option maxRecDepth 10000
/-- one side otherwise -/
theorem otherside {p : Pc} {k v : Int} (h : OkP p) (h0 : 0 ≤ k) (h4 : k < 4) (hv : B9 v) : ∃ q, catM (cutT p none (some k)) [v] = some (cutT p none (some k) ++ [v]) ∧ catM (cutT p none (some k) ++ [v]) (cutT p (some (k + 1)) none) = some q ∧ OkP q := by
  obtain ⟨a, b, c, d, rfl, b1, b2, b3, b4⟩ := okP_cases h
  rcases q4 h0 h4 with rfl | rfl | rfl | rfl
  · exact ⟨_, rfl, rfl, okP_mk hv b2 b3 b4⟩
  · exact ⟨_, rfl, rfl, okP_mk b1 hv b3 b4⟩
  · exact ⟨_, rfl, rfl, okP_mk b1 b2 hv b4⟩
  · exact ⟨_, rfl, rfl, okP_mk b1 b2 b3 hv⟩

end K67

namespace K67
open PySem Mp
set_option maxHeartbeats 4000000
set_option maxRecDepth 10000
/-- the end of a law whose turns all go on -/
theorem forR_fin {α σ δ τ : Type} {g : σ → α → Option (σ ⊕ δ)} {k : σ ⊕ δ → Option τ} (J : σ → Prop) (P : τ → Prop) {xs : List α} {s : σ} (h0 : J s) (st : ∀ x ∈ xs, ∀ s, J s → ∃ s', g s x = some (.inl s') ∧ J s') (fin : ∀ s', J s' → ∃ r, k (.inl s') = some r ∧ P r) : ∃ r, (forR xs s g).bind k = some r ∧ P r := by
  obtain ⟨s', e, h⟩ := forR_none J h0 st
  rw [e, Option.bind_some]
  exact fin s' h
theorem forR_finT {α σ δ τ : Type} {g : σ → α → Option (σ ⊕ δ)} {k : σ ⊕ δ → Option (Bool × τ)} (J : σ → Prop) {xs : List α} {s : σ} (h0 : J s) (st : ∀ x ∈ xs, ∀ s, J s → ∃ s', g s x = some (.inl s') ∧ J s') (fin : ∀ s', J s' → ∃ b, k (.inl s') = some (true, b)) : ∃ b, (forR xs s g).bind k = some (true, b) := by
  obtain ⟨s', e, h⟩ := forR_none J h0 st
  rw [e, Option.bind_some]
  exact fin s' h

end K67

namespace K67
open PySem Mp
set_option maxHeartbeats 4000000
set_option maxRecDepth 10000
/-! k67: numbers of pieces and kinds -/
theorem below_s {ns : List Int} (h : Rs ns) {k : Nat} (hk : k < ns.length) : F_are_below (ns.take k) ns[k] = some true := by
  unfold F_are_below
  by_cases z : k = 0
  · subst z
    rw [List.take_zero, decide_eq_true rfl, if_pos rfl] <;> rfl
  · have hne : ns.take k ≠ [] := fun e => by
      have := congrArg List.length e
      rw [List.length_take, List.length_nil] at this
      omega
    have hl : (ns.take k).getLast? = some ns[k - 1] := by
      rw [List.getLast?_eq_getElem?, List.length_take, show min k ns.length - 1 = k - 1 by omega, List.getElem?_take, if_pos (by omega), List.getElem?_eq_getElem (by omega)]
    have lt : ns[k - 1] < ns[k] := List.pairwise_iff_getElem.mp h.up (k - 1) k (by omega) hk (by omega)
    rw [decide_eq_false hne, if_neg (by decide), ixM_last hl, Option.bind_some, decide_eq_true lt] <;> rfl
theorem numbers_in {ns : List Int} (h : Rs ns) : F_wrong_in_is_next_number ns 1 5 = some [] := by
  have hl := h.len
  unfold F_wrong_in_is_next_number
  rw [if_neg (by have : ¬ ((ns.length : Int) < 1) := by omega
                 simp [this]), forR_ok fun x hx => ?_]
  · rfl
  · obtain ⟨k, e1, e2, e3⟩ := enumT_mem hx
    have hx2 := h.b9 x.2 (List.mem_of_getElem? e3)
    have ex : x.2 = ns[k] := by
      rw [List.getElem?_eq_getElem e2] at e3
      exact (Option.some.inj e3).symm
    have hb : F_is_next_number (cutT ns none (some x.1)) x.2 = some true := by
      unfold F_is_next_number
      rw [between_s, decide_eq_true hx2.1, decide_eq_true hx2.2, Option.bind_some, Bool.and_self, if_pos rfl, e1, cut_to, ex, below_s h e2] <;> rfl
    have hne : ¬ x.1 = 5 := by omega
    simp [hb, hne]
theorem check_s {ns : List Int} (h : Rs ns) : F_check_numbers ns = some () := by
  unfold F_check_numbers F_are_numbers F_are_all_is_next_number
  rw [numbers_in h] <;> rfl
theorem pw_s {ns : List Int} (h : Rs ns) : F_pieces_with ns = some (WW ns) := by
  unfold F_pieces_with
  rw [Option.bind_some, pieces_s h.len.2] <;> rfl
theorem WW_small {ns : List Int} (h : Rs ns) : (WW ns).length ≤ 625 := by
  rw [WW_len]
  exact Nat.mul_le_mul (Nat.mul_le_mul (Nat.mul_le_mul h.len.2 h.len.2) h.len.2) h.len.2
theorem hmp_s {ns : List Int} (h : Rs ns) : F_how_many_pieces ns = some (((WW ns).length : Nat) : Int) := by
  unfold F_how_many_pieces
  rw [check_s h, Option.bind_some, pw_s h] <;> rfl
theorem hmk_s {ns : List Int} (h : Rs ns) : F_how_many_kinds_of ns = some ((cntN ns.length : Nat) : Int) := by
  unfold F_how_many_kinds_of F_kinds_with
  have := WW_small h
  rw [check_s h, Option.bind_some, pw_s h, Option.bind_some, LcF_filter (p := fun p => decide (ft p = p)) (by omega) fun p hp => by rw [pft_s (WW_ok h hp), Option.bind_some]; split <;> rfl, Option.bind_some, Option.bind_some, cnt_s h]
theorem counted_s {b : List Int} (hb : Bw b) : ∃ b', F__law_counted b = some (true, b') ∧ Bw b' := by
  obtain ⟨r, b1, e1, r0, r5, hb1⟩ := less_s hb (show (0 : Int) < 5 by decide) (by decide)
  obtain ⟨b2, zs, e2, hb2, pz⟩ := shuf_s (xs := rngT (0 - 9) 10) hb1 (by rw [rng9]; decide)
  obtain ⟨h, hlen⟩ := pick_s (m := 1 + r) pz (by omega) (by omega)
  refine ⟨b2, ?_, hb2⟩
  have el : lofM (0 - 9) 10 = some (rngT (0 - 9) 10) := if_pos (by decide)
  unfold F__law_counted
  rw [e1, Option.bind_some, el, Option.bind_some, e2, Option.bind_some, sortI_s, Option.bind_some]
  generalize srtT (leE D.int) (cutT zs none (some (1 + r))) = ns at h hlen ⊢
  show ((rng1M 4).bind _) = _
  rw [rng1M_p (by decide), Option.bind_some]
  have hp := pieces_s h.len.2
  have hr4 : rngT 0 4 = [0, 1, 2, 3] := by decide +kernel
  rw [hr4, hp, Option.bind_some, dict_s h, Option.bind_some, Option.bind_some]
  have q1 : mulM (1 + r) (1 + r) = some ((1 + r) * (1 + r)) := mulM_l (by omega)
  have q2 : mulM ((1 + r) * (1 + r)) (1 + r) = some ((1 + r) * (1 + r) * (1 + r)) := mulM_r (by omega)
  have q3 : mulM ((1 + r) * (1 + r) * (1 + r)) (1 + r) = some ((1 + r) * (1 + r) * (1 + r) * (1 + r)) := mulM_r (by omega)
  have q4 : mulM 2 (1 + r) = some (2 * (1 + r)) := mulM_l (by omega)
  have q5 : fdivM ((1 + r) * (1 + r) * (1 + r) * (1 + r) + (1 + r) * (1 + r) + 2 * (1 + r)) 4 = some (((1 + r) * (1 + r) * (1 + r) * (1 + r) + (1 + r) * (1 + r) + 2 * (1 + r)) / 4) := fdivM_p (by omega)
  simp only [q1, q2, q3, q4, q5, Option.bind_some]
  have l1 : (((WW ns).length : Nat) : Int) = (1 + r) * (1 + r) * (1 + r) * (1 + r) := by
    rw [WW_len, ← hlen]
    simp only [Int.natCast_mul]
  have l2 : ((cntN ns.length : Nat) : Int) = ((1 + r) * (1 + r) * (1 + r) * (1 + r) + (1 + r) * (1 + r) + 2 * (1 + r)) / 4 := by
    rw [cnt_val h.len.1 h.len.2, hlen]
  have l3 := keys_s h
  have l3' : (dofT ((WW ns).map fun p => (ft p, true))).length = cntN ns.length := by
    rw [← l3]
    unfold dkeysT
    rw [List.length_map]
  rw [l3', l2, l1, decide_eq_true rfl, Bool.not_true, if_neg (by decide), hmp_s h, Option.bind_some, hmk_s h, Option.bind_some, l2, l1]
  generalize (1 + r) * (1 + r) * (1 + r) * (1 + r) = x
  generalize (x + (1 + r) * (1 + r) + 2 * (1 + r)) / 4 = y
  have sm : F_sameL (D.lst (List.map D.int [x, y])) (D.lst (List.map D.int [x, y])) = some true := sameL_s rfl
  rw [sm, Option.bind_some, Bool.not_true, if_neg (by decide), Option.bind_some, Option.bind_some, sm] <;> rfl
theorem checkP_s {p : Pc} (h : OkP p) : F_check_piece p = some () := by
  unfold F_check_piece
  rw [isPiece_s h] <;> rfl
theorem firstT_s {p : Pc} (h : OkP p) : F_first_turned p = some (ft p) := by
  unfold F_first_turned
  rw [checkP_s h, Option.bind_some, pft_s h] <;> rfl
theorem alike_s {p q : Pc} (h : OkP p) (h2 : OkP q) : F_are_alike p q = some (decide (ft p = ft q)) := by
  unfold F_are_alike
  rw [checkP_s h, Option.bind_some, checkP_s h2, Option.bind_some, pft_s h, Option.bind_some, pft_s h2] <;> rfl
theorem sameP {x : Pc} (h : x.length = 4) : F_sameL (D.lst (List.map en_TI [x, x, x])) (D.lst (List.map en_TI [x, x, x])) = some true := by
  refine sameL_s ?_
  refine (simL_l (n := 15) (Nat.le_of_ble_eq_true rfl) fun d hd => ?_)
  obtain ⟨y, hy, rfl⟩ := List.mem_map.mp hd
  have : y = x := by simpa using hy
  subst this
  refine simL_t (n := 14) (by rw [List.length_map, sizeLine_eq]; omega) fun d hd => ?_
  obtain ⟨z, _, rfl⟩ := List.mem_map.mp hd
  rfl
theorem others_s {p o : Pc} (hp : OkP p) (ho : OkP o) : (F__law_first_turned o).bind (fun t32 => (F_are_alike p o).bind fun t33 => (F_are_alike p o).bind fun t34 => (F_are_alike o p).bind fun t35 => (F_sameL (D.lst (List.map D.bl ([t33, t34, t35] : (List Bool)))) (D.lst (List.map D.bl ([(decide (t32 = ft p)), (decide (t32 = ft p)), (decide (t32 = ft p))] : (List Bool)))))) = some true := by
  rw [lft_s ho, Option.bind_some, alike_s hp ho, Option.bind_some, Option.bind_some, alike_s ho hp, Option.bind_some]
  have e : decide (ft p = ft o) = decide (ft o = ft p) := decide_eq_decide.mpr ⟨Eq.symm, Eq.symm⟩
  rw [e]
  generalize decide (ft o = ft p) = x
  exact sameL_s (by cases x <;> rfl)
theorem right_s {b : List Int} (hb : Bw b) : ∃ b', F__law_right b = some (true, b') := by
  obtain ⟨b1, e1, hb1⟩ := counted_s hb
  obtain ⟨b2, e2, hb2⟩ := counted_s hb1
  unfold F__law_right
  rw [e1, Option.bind_some, Bool.not_true, if_neg (by decide), e2, Option.bind_some, Bool.not_true, Option.bind_some, if_neg (by simp), rng1M_p (by decide), Option.bind_some]
  refine forR_finT Bw hb2 (fun x6 _ s hs => ?_) (fun s' _ => ⟨_, rfl⟩)
  obtain ⟨most, c1, f1, hm, hc1⟩ := lof_s (xs := [1, 2, 9]) hs (by simp) (by simp)
  have hm' : most = 1 ∨ most = 2 ∨ most = 9 := by simpa using hm
  obtain ⟨p, c2, f2, hc2, hF⟩ := LcS_all (f := fun s12 x9 => (mulM 2 most).bind fun t13 => (F__law_less s12 (t13 + 1)).bind fun t14 => some (some (t14.1 - most), t14.2)) (J := Bw) (P := fun (_ : Int) y => B9 y) (xs := rngT 0 4) (s := c1) (by rw [rngT_len]; decide) hc1 fun s x hs _ => by
    obtain ⟨k, s', d1, d2, d3, d4⟩ := less_s hs (show (0 : Int) < 2 * most + 1 by omega) (by omega)
    refine ⟨k - most, s', ?_, d4, by constructor <;> omega⟩
    show (mulM 2 most).bind _ = _
    rw [mulM_l (by decide), Option.bind_some, d1, Option.bind_some]
  have hp : OkP p := ⟨by rw [f2_len hF, rngT_len]; decide, fun x hx => by
    obtain ⟨_, _, z⟩ := f2_mem hF x hx
    exact z⟩
  obtain ⟨k, c3, f3, k0, k4, hc3⟩ := less_s hc2 (show (0 : Int) < 4 by decide) (by decide)
  obtain ⟨j, c4, f4, j0, j4, hc4⟩ := less_s hc3 (show (0 : Int) < 4 by decide) (by decide)
  obtain ⟨w, c5, f5, w0, w3, hc5⟩ := less_s hc4 (show (0 : Int) < 3 by decide) (by decide)
  obtain ⟨q, g1, g2, hq⟩ := otherside (v := w - 1) hp j0 j4 (by constructor <;> omega)
  have hrot := rot_ok hp k0 k4
  have hneg : OkP (p.map fun x => 0 - x) := ⟨by rw [List.length_map]; exact hp.len, fun x hx => by
    obtain ⟨y, hy, rfl⟩ := List.mem_map.mp hx
    have := hp.b9 y hy
    constructor <;> omega⟩
  have hrev : OkP p.reverse := ⟨by rw [List.length_reverse]; exact hp.len, fun x hx => hp.b9 x (List.mem_reverse.mp hx)⟩
  refine ⟨c5, ?_, hc5⟩
  rw [f1, Option.bind_some, rng1M_p (by decide), Option.bind_some]
  show (LcS (rngT 0 4) c1 _).bind _ = _
  rw [f2, Option.bind_some, lft_s hp, Option.bind_some, f3, Option.bind_some, lturned_s hp, Option.bind_some, firstT_s hp, Option.bind_some, Option.bind_some, firstT_s hrot, Option.bind_some, ft_rot hp.len k0 k4, sameP (ft_in hp.len).1, Option.bind_some, Bool.not_true, if_neg (by decide), f4, Option.bind_some, LcP_map (g := fun x => 0 - x) (by rw [hp.len]; decide) fun x _ => rfl, Option.bind_some, f5, Option.bind_some]
  show (catM (cutT p none (some j)) [w - 1]).bind _ = _
  rw [g1, Option.bind_some, g2, Option.bind_some, Option.bind_some, forR_ok fun o ho => ?_]
  · rfl
  · have hok : OkP o := by
      simp only [List.mem_cons, List.not_mem_nil, or_false] at ho
      rcases ho with rfl | rfl | rfl | rfl <;> assumption
    have := others_s hp hok
    rw [lft_s hok, Option.bind_some, alike_s hp hok, Option.bind_some, Option.bind_some, alike_s hok hp, Option.bind_some] at this
    rw [lft_s hok, Option.bind_some, alike_s hp hok, Option.bind_some, Option.bind_some, alike_s hok hp, Option.bind_some, this] <;> rfl

end K67

namespace K67
open PySem Mp
set_option maxHeartbeats 4000000
set_option maxRecDepth 10000
def bowl (a s c : Int) : D := .lst [.int a, .int s, .int c]
theorem bowl_loop (n : Nat) (S : D) (lap : Int) : ∀ (ns : List Int) (stir : Int) (s3 : Mp.Slot), notIo s3 = true → ∃ stir' s3', notIo s3' = true ∧
    forRun (callN T n) (.var 3) (.seq (.asg (.var 2) (.bin .mod (.blt .int (.cons (.bin .add (.bin .add (.bin .mul (.var 2) (.con (.int 44927))) (.bin .mul (.bin .mod (.blt .int (.cons (.var 3) .nil)) (.con (.int 2147483069))) (.con (.int 17)))) (.con (.int 37))) .nil)) (.con (.int 2147483629)))) .skip) (ns.map D.int) [.val S, .val (.int lap), .val (.int stir), s3, .un] = .nx [.val S, .val (.int lap), .val (.int stir'), s3', .un]
  | [], stir, s3, h => ⟨stir, s3, h, rfl⟩
  | x :: ns, stir, s3, h => by
    obtain ⟨stir', s3', h', e⟩ := bowl_loop n S lap ns ((stir * 44927 + x % 2147483069 * 17 + 37) % 2147483629) (.val (.int x)) rfl
    refine ⟨stir', s3', h', ?_⟩
    rw [← e]
    simp [R.bind_ok', R.bind_no', R.of_some', R.fl_ok', Fl.bind_nx, Fl.bind_rt, s_skip, s_seq, s_asg, s_ex, s_ret, s_retn, s_ite, s_for, s_app, s_never, e_var, e_con, e_glo, e_tup, e_lst, e_neg, e_bin, e_cmp, e_cmp2, e_not, e_and, e_or, e_ife, e_idx, e_sl, e_call, e_callk, e_calf, e_calv, e_blt, e_isin, e_lc, l_nil, l_cons, a_nil, a_cons, a_ioa, p_nil, p_cons, o_nil, o_cons, t_not, t_and, t_or, t_nil, t_tr, i_rng1, i_rng2, i_enm, i_it, g_var, g_tup, g_idxF, g_idxN, gs_nil, gs_cons, Mp.init, initS, getS0, getS1, cur_f, cur_n, cur_p, settle_f, settle_n, settle_p, keep_f, keep_n, keep_p, kd_t, kd_f, tr_non, tr_bl, tr_int, tr_tup, tr_lst, tr_scr, ix_tup, ix_lst, sl_tup, sl_lst, b_len_t, b_len_l, b_len_s, b_tuple_t, b_tuple_l, b_list_t, b_list_l, b_int_i, b_int_b, b_abs, b_max, b_min, b_sum, b_all, b_any, bo_nil, bo_cons, in_nil, in_cons, isin_non, isin_bl, isin_int, isin_str, isin_tup, isin_lst, isinT, seq_t, seq_l, seq_s, own_v, own_o, own_i, own_u, pl_v, pl_u, wipe_n, wipe_c, unw_n, unw_c, fin_rt, fin_nx, out_n, out_t, out_f, six_none, six_some, Mp.ixN, storeIx, put_val, put_new, notIo_un, notIo_val, notIo_own, cmp_gt_int, cmp_lt_int, cmp_le_int, cmp_ge_int, cmp_eq_int, cmp_ne_int, bin_add_int, bin_sub_int, bin_mul_r, bin_mul_l, bin_mod_int, bin_fdiv_int, doCall, doCallF, argsD, iosOf, putOuts, setIo, Ar.isIo, Ar.d, bin_pow_int, bin_add_tup, eq_nil, is_non, isn_non, isNon_int, isNon_tup, isNon_lst, isNon_bl, isNon_str, isNon_non, sz_ok, sz_lt, s_ext, s_fst, s_par, m_nil, m_cons, puts_n, puts_c, e_fld, e_mk, e_isinc, isc_ins, ownL_o, ownL_i, lst_of, app_o, app_i, bin_mul_tup, bin_add_lst, eq_tup_nil, doMk, fldD, e_pop, e_dnew, e_lof1, e_lof2, e_rof1, e_rof2, e_bm, e_mkk, ownS_o, ownS_i, isLst_l, seqI_t, seqI_l, seqI_s, e_oeq, blR, for_cons, h]
theorem bowl_ok (n : Nat) (ns : List Int) (lap : Nat) : ∃ a s, callN T (n + 1) 20 [false, false] [.scr (ns.map D.int), .int lap] = some (bowl a s 0, true, []) := by
  obtain ⟨st, s3, h3, e⟩ := bowl_loop n (.scr (ns.map D.int)) lap (ns.take 17) (811037 + 7043 * lap) .un rfl
  have hc : cutD (ns.map D.int) none (some 17) = (ns.take 17).map D.int := by
    rw [show (17 : Int) = ((17 : Nat) : Int) from rfl, Mp.cut_to, List.map_take]
  have hs : slD (.scr (ns.map D.int)) none (some 17) = some (.lst ((ns.take 17).map D.int), true) := by
    rw [← hc] <;> rfl
  have key := call_eq (T := T) (n := n) (f := 20) (fl := [false, false]) (ds := [.scr (ns.map D.int), .int lap]) (df := d20) rfl rfl rfl rfl
  by_cases hl : lap < ns.length
  · rw [List.map_take] at e
    have hi := idx_scr ns lap hl
    have hl' : (lap : Int) < (ns.length : Int) := by omega
    by_cases h1 : ns[lap] < 0
    · rw [List.map_take] at hs
      simp [R.bind_ok', R.bind_no', R.of_some', R.fl_ok', Fl.bind_nx, Fl.bind_rt, s_skip, s_seq, s_asg, s_ex, s_ret, s_retn, s_ite, s_for, s_app, s_never, e_var, e_con, e_glo, e_tup, e_lst, e_neg, e_bin, e_cmp, e_cmp2, e_not, e_and, e_or, e_ife, e_idx, e_sl, e_call, e_callk, e_calf, e_calv, e_blt, e_isin, e_lc, l_nil, l_cons, a_nil, a_cons, a_ioa, p_nil, p_cons, o_nil, o_cons, t_not, t_and, t_or, t_nil, t_tr, i_rng1, i_rng2, i_enm, i_it, g_var, g_tup, g_idxF, g_idxN, gs_nil, gs_cons, Mp.init, initS, getS0, getS1, cur_f, cur_n, cur_p, settle_f, settle_n, settle_p, keep_f, keep_n, keep_p, kd_t, kd_f, tr_non, tr_bl, tr_int, tr_tup, tr_lst, tr_scr, ix_tup, ix_lst, sl_tup, sl_lst, b_len_t, b_len_l, b_len_s, b_tuple_t, b_tuple_l, b_list_t, b_list_l, b_int_i, b_int_b, b_abs, b_max, b_min, b_sum, b_all, b_any, bo_nil, bo_cons, in_nil, in_cons, isin_non, isin_bl, isin_int, isin_str, isin_tup, isin_lst, isinT, seq_t, seq_l, seq_s, own_v, own_o, own_i, own_u, pl_v, pl_u, wipe_n, wipe_c, unw_n, unw_c, fin_rt, fin_nx, out_n, out_t, out_f, six_none, six_some, Mp.ixN, storeIx, put_val, put_new, notIo_un, notIo_val, notIo_own, cmp_gt_int, cmp_lt_int, cmp_le_int, cmp_ge_int, cmp_eq_int, cmp_ne_int, bin_add_int, bin_sub_int, bin_mul_r, bin_mul_l, bin_mod_int, bin_fdiv_int, doCall, doCallF, argsD, iosOf, putOuts, setIo, Ar.isIo, Ar.d, bin_pow_int, bin_add_tup, eq_nil, is_non, isn_non, isNon_int, isNon_tup, isNon_lst, isNon_bl, isNon_str, isNon_non, sz_ok, sz_lt, s_ext, s_fst, s_par, m_nil, m_cons, puts_n, puts_c, e_fld, e_mk, e_isinc, isc_ins, ownL_o, ownL_i, lst_of, app_o, app_i, bin_mul_tup, bin_add_lst, eq_tup_nil, doMk, fldD, e_pop, e_dnew, e_lof1, e_lof2, e_rof1, e_rof2, e_bm, e_mkk, ownS_o, ownS_i, isLst_l, seqI_t, seqI_l, seqI_s, e_oeq, blR, d20, hs, e, hi, hl', h1, h3] at key
      exact ⟨_, _, key⟩
    · by_cases h2 : (10000000000000000 : Int) ≤ ns[lap]
      · rw [List.map_take] at hs
        simp [R.bind_ok', R.bind_no', R.of_some', R.fl_ok', Fl.bind_nx, Fl.bind_rt, s_skip, s_seq, s_asg, s_ex, s_ret, s_retn, s_ite, s_for, s_app, s_never, e_var, e_con, e_glo, e_tup, e_lst, e_neg, e_bin, e_cmp, e_cmp2, e_not, e_and, e_or, e_ife, e_idx, e_sl, e_call, e_callk, e_calf, e_calv, e_blt, e_isin, e_lc, l_nil, l_cons, a_nil, a_cons, a_ioa, p_nil, p_cons, o_nil, o_cons, t_not, t_and, t_or, t_nil, t_tr, i_rng1, i_rng2, i_enm, i_it, g_var, g_tup, g_idxF, g_idxN, gs_nil, gs_cons, Mp.init, initS, getS0, getS1, cur_f, cur_n, cur_p, settle_f, settle_n, settle_p, keep_f, keep_n, keep_p, kd_t, kd_f, tr_non, tr_bl, tr_int, tr_tup, tr_lst, tr_scr, ix_tup, ix_lst, sl_tup, sl_lst, b_len_t, b_len_l, b_len_s, b_tuple_t, b_tuple_l, b_list_t, b_list_l, b_int_i, b_int_b, b_abs, b_max, b_min, b_sum, b_all, b_any, bo_nil, bo_cons, in_nil, in_cons, isin_non, isin_bl, isin_int, isin_str, isin_tup, isin_lst, isinT, seq_t, seq_l, seq_s, own_v, own_o, own_i, own_u, pl_v, pl_u, wipe_n, wipe_c, unw_n, unw_c, fin_rt, fin_nx, out_n, out_t, out_f, six_none, six_some, Mp.ixN, storeIx, put_val, put_new, notIo_un, notIo_val, notIo_own, cmp_gt_int, cmp_lt_int, cmp_le_int, cmp_ge_int, cmp_eq_int, cmp_ne_int, bin_add_int, bin_sub_int, bin_mul_r, bin_mul_l, bin_mod_int, bin_fdiv_int, doCall, doCallF, argsD, iosOf, putOuts, setIo, Ar.isIo, Ar.d, bin_pow_int, bin_add_tup, eq_nil, is_non, isn_non, isNon_int, isNon_tup, isNon_lst, isNon_bl, isNon_str, isNon_non, sz_ok, sz_lt, s_ext, s_fst, s_par, m_nil, m_cons, puts_n, puts_c, e_fld, e_mk, e_isinc, isc_ins, ownL_o, ownL_i, lst_of, app_o, app_i, bin_mul_tup, bin_add_lst, eq_tup_nil, doMk, fldD, e_pop, e_dnew, e_lof1, e_lof2, e_rof1, e_rof2, e_bm, e_mkk, ownS_o, ownS_i, isLst_l, seqI_t, seqI_l, seqI_s, e_oeq, blR, d20, hs, e, hi, hl', h1, h2, h3] at key
        exact ⟨_, _, key⟩
      · rw [List.map_take] at hs
        simp [R.bind_ok', R.bind_no', R.of_some', R.fl_ok', Fl.bind_nx, Fl.bind_rt, s_skip, s_seq, s_asg, s_ex, s_ret, s_retn, s_ite, s_for, s_app, s_never, e_var, e_con, e_glo, e_tup, e_lst, e_neg, e_bin, e_cmp, e_cmp2, e_not, e_and, e_or, e_ife, e_idx, e_sl, e_call, e_callk, e_calf, e_calv, e_blt, e_isin, e_lc, l_nil, l_cons, a_nil, a_cons, a_ioa, p_nil, p_cons, o_nil, o_cons, t_not, t_and, t_or, t_nil, t_tr, i_rng1, i_rng2, i_enm, i_it, g_var, g_tup, g_idxF, g_idxN, gs_nil, gs_cons, Mp.init, initS, getS0, getS1, cur_f, cur_n, cur_p, settle_f, settle_n, settle_p, keep_f, keep_n, keep_p, kd_t, kd_f, tr_non, tr_bl, tr_int, tr_tup, tr_lst, tr_scr, ix_tup, ix_lst, sl_tup, sl_lst, b_len_t, b_len_l, b_len_s, b_tuple_t, b_tuple_l, b_list_t, b_list_l, b_int_i, b_int_b, b_abs, b_max, b_min, b_sum, b_all, b_any, bo_nil, bo_cons, in_nil, in_cons, isin_non, isin_bl, isin_int, isin_str, isin_tup, isin_lst, isinT, seq_t, seq_l, seq_s, own_v, own_o, own_i, own_u, pl_v, pl_u, wipe_n, wipe_c, unw_n, unw_c, fin_rt, fin_nx, out_n, out_t, out_f, six_none, six_some, Mp.ixN, storeIx, put_val, put_new, notIo_un, notIo_val, notIo_own, cmp_gt_int, cmp_lt_int, cmp_le_int, cmp_ge_int, cmp_eq_int, cmp_ne_int, bin_add_int, bin_sub_int, bin_mul_r, bin_mul_l, bin_mod_int, bin_fdiv_int, doCall, doCallF, argsD, iosOf, putOuts, setIo, Ar.isIo, Ar.d, bin_pow_int, bin_add_tup, eq_nil, is_non, isn_non, isNon_int, isNon_tup, isNon_lst, isNon_bl, isNon_str, isNon_non, sz_ok, sz_lt, s_ext, s_fst, s_par, m_nil, m_cons, puts_n, puts_c, e_fld, e_mk, e_isinc, isc_ins, ownL_o, ownL_i, lst_of, app_o, app_i, bin_mul_tup, bin_add_lst, eq_tup_nil, doMk, fldD, e_pop, e_dnew, e_lof1, e_lof2, e_rof1, e_rof2, e_bm, e_mkk, ownS_o, ownS_i, isLst_l, seqI_t, seqI_l, seqI_s, e_oeq, blR, d20, hs, e, hi, hl', h1, h2, h3] at key
        exact ⟨_, _, key⟩
  · rw [List.map_take] at e hs
    have hl' : ¬ (lap : Int) < (ns.length : Int) := by omega
    simp [R.bind_ok', R.bind_no', R.of_some', R.fl_ok', Fl.bind_nx, Fl.bind_rt, s_skip, s_seq, s_asg, s_ex, s_ret, s_retn, s_ite, s_for, s_app, s_never, e_var, e_con, e_glo, e_tup, e_lst, e_neg, e_bin, e_cmp, e_cmp2, e_not, e_and, e_or, e_ife, e_idx, e_sl, e_call, e_callk, e_calf, e_calv, e_blt, e_isin, e_lc, l_nil, l_cons, a_nil, a_cons, a_ioa, p_nil, p_cons, o_nil, o_cons, t_not, t_and, t_or, t_nil, t_tr, i_rng1, i_rng2, i_enm, i_it, g_var, g_tup, g_idxF, g_idxN, gs_nil, gs_cons, Mp.init, initS, getS0, getS1, cur_f, cur_n, cur_p, settle_f, settle_n, settle_p, keep_f, keep_n, keep_p, kd_t, kd_f, tr_non, tr_bl, tr_int, tr_tup, tr_lst, tr_scr, ix_tup, ix_lst, sl_tup, sl_lst, b_len_t, b_len_l, b_len_s, b_tuple_t, b_tuple_l, b_list_t, b_list_l, b_int_i, b_int_b, b_abs, b_max, b_min, b_sum, b_all, b_any, bo_nil, bo_cons, in_nil, in_cons, isin_non, isin_bl, isin_int, isin_str, isin_tup, isin_lst, isinT, seq_t, seq_l, seq_s, own_v, own_o, own_i, own_u, pl_v, pl_u, wipe_n, wipe_c, unw_n, unw_c, fin_rt, fin_nx, out_n, out_t, out_f, six_none, six_some, Mp.ixN, storeIx, put_val, put_new, notIo_un, notIo_val, notIo_own, cmp_gt_int, cmp_lt_int, cmp_le_int, cmp_ge_int, cmp_eq_int, cmp_ne_int, bin_add_int, bin_sub_int, bin_mul_r, bin_mul_l, bin_mod_int, bin_fdiv_int, doCall, doCallF, argsD, iosOf, putOuts, setIo, Ar.isIo, Ar.d, bin_pow_int, bin_add_tup, eq_nil, is_non, isn_non, isNon_int, isNon_tup, isNon_lst, isNon_bl, isNon_str, isNon_non, sz_ok, sz_lt, s_ext, s_fst, s_par, m_nil, m_cons, puts_n, puts_c, e_fld, e_mk, e_isinc, isc_ins, ownL_o, ownL_i, lst_of, app_o, app_i, bin_mul_tup, bin_add_lst, eq_tup_nil, doMk, fldD, e_pop, e_dnew, e_lof1, e_lof2, e_rof1, e_rof2, e_bm, e_mkk, ownS_o, ownS_i, isLst_l, seqI_t, seqI_l, seqI_s, e_oeq, blR, d20, hs, e, hl', h3] at key
    exact ⟨_, _, key⟩
theorem right_ok (a s c : Int) : ∃ b, callN T 22 28 [true] [bowl a s c] = some (.bl true, false, [b]) := by
  obtain ⟨b', e⟩ := right_s (b := [a, s, c]) ⟨a, s, c, rfl⟩
  exact ⟨_, F__law_right_ok 0 [a, s, c] (true, b') e⟩

theorem law_ok (ns : List Int) (h : ns.length ≤ 63) : callN T 23 29 [false] [.scr (ns.map D.int)] = some (.bl true, false, []) := by
  have one : ∀ k : Nat, ∃ a s b, callN T 22 20 [false, false] [.scr (ns.map D.int), .int k] = some (bowl a s 0, true, []) ∧ callN T 22 28 [true] [bowl a s 0] = some (.bl true, false, [b]) := fun k => by
    obtain ⟨a, s, e⟩ := bowl_ok 21 ns k
    obtain ⟨b, e2⟩ := right_ok a s 0
    exact ⟨a, s, b, e, e2⟩
  obtain ⟨a0, b0, c0, e0, f0⟩ := one 0
  obtain ⟨a1, b1, c1, e1, f1⟩ := one 1
  obtain ⟨a2, b2, c2, e2, f2⟩ := one 2
  have z0 : ((0 : Nat) : Int) = 0 := rfl
  have z1 : ((1 : Nat) : Int) = 1 := rfl
  have z2 : ((2 : Nat) : Int) = 2 := rfl
  rw [z0] at e0
  rw [z1] at e1
  rw [z2] at e2
  rw [call_eq (T := T) (n := 22) (f := 29) (fl := [false]) (ds := [.scr (ns.map D.int)]) (df := d29) rfl rfl rfl rfl]
  have r1 : rngD 0 1 = [.int 0] := rfl
  have r2 : rngD 0 2 = [.int 0, .int 1] := rfl
  have r3 : rngD 0 3 = [.int 0, .int 1, .int 2] := rfl
  have hm : bltD .min [.int (ns.length : Int), .int 3] = some (.int (if (3 : Int) < (ns.length : Int) then 3 else (ns.length : Int)), false) := rfl
  have hM : bltD .max [.int 1, .int (if (3 : Int) < (ns.length : Int) then 3 else (ns.length : Int))] = some (.int 1, false) ∨ bltD .max [.int 1, .int (if (3 : Int) < (ns.length : Int) then 3 else (ns.length : Int))] = some (.int 2, false) ∨ bltD .max [.int 1, .int (if (3 : Int) < (ns.length : Int) then 3 else (ns.length : Int))] = some (.int 3, false) := by
    rw [b_max]
    by_cases h3 : (3 : Int) < (ns.length : Int)
    · rw [if_pos h3]; exact .inr (.inr rfl)
    · rw [if_neg h3]
      by_cases h2 : (ns.length : Int) > 1
      · rw [if_pos h2]
        have : (ns.length : Int) = 2 ∨ (ns.length : Int) = 3 := by omega
        rcases this with e | e <;> rw [e]
        · exact .inr (.inl rfl)
        · exact .inr (.inr rfl)
      · rw [if_neg h2]; exact .inl rfl
  rcases hM with hM | hM | hM
  · simp [R.bind_ok', R.bind_no', R.of_some', R.fl_ok', Fl.bind_nx, Fl.bind_rt, s_skip, s_seq, s_asg, s_ex, s_ret, s_retn, s_ite, s_for, s_app, s_never, e_var, e_con, e_glo, e_tup, e_lst, e_neg, e_bin, e_cmp, e_cmp2, e_not, e_and, e_or, e_ife, e_idx, e_sl, e_call, e_callk, e_calf, e_calv, e_blt, e_isin, e_lc, l_nil, l_cons, a_nil, a_cons, a_ioa, p_nil, p_cons, o_nil, o_cons, t_not, t_and, t_or, t_nil, t_tr, i_rng1, i_rng2, i_enm, i_it, g_var, g_tup, g_idxF, g_idxN, gs_nil, gs_cons, Mp.init, initS, getS0, getS1, cur_f, cur_n, cur_p, settle_f, settle_n, settle_p, keep_f, keep_n, keep_p, kd_t, kd_f, tr_non, tr_bl, tr_int, tr_tup, tr_lst, tr_scr, ix_tup, ix_lst, sl_tup, sl_lst, b_len_t, b_len_l, b_len_s, b_tuple_t, b_tuple_l, b_list_t, b_list_l, b_int_i, b_int_b, b_abs, b_sum, b_all, b_any, bo_nil, bo_cons, in_nil, in_cons, isin_non, isin_bl, isin_int, isin_str, isin_tup, isin_lst, isinT, seq_t, seq_l, seq_s, own_v, own_o, own_i, own_u, pl_v, pl_u, wipe_n, wipe_c, unw_n, unw_c, fin_rt, fin_nx, out_n, out_t, out_f, six_none, six_some, Mp.ixN, storeIx, put_val, put_new, notIo_un, notIo_val, notIo_own, cmp_gt_int, cmp_lt_int, cmp_le_int, cmp_ge_int, cmp_eq_int, cmp_ne_int, bin_add_int, bin_sub_int, bin_mul_r, bin_mul_l, bin_mod_int, bin_fdiv_int, doCall, doCallF, argsD, iosOf, putOuts, setIo, Ar.isIo, Ar.d, bin_pow_int, bin_add_tup, eq_nil, is_non, isn_non, isNon_int, isNon_tup, isNon_lst, isNon_bl, isNon_str, isNon_non, sz_ok, sz_lt, s_ext, s_fst, s_par, m_nil, m_cons, puts_n, puts_c, e_fld, e_mk, e_isinc, isc_ins, ownL_o, ownL_i, lst_of, app_o, app_i, bin_mul_tup, bin_add_lst, eq_tup_nil, doMk, fldD, e_pop, e_dnew, e_lof1, e_lof2, e_rof1, e_rof2, e_bm, e_mkk, ownS_o, ownS_i, isLst_l, seqI_t, seqI_l, seqI_s, e_oeq, blR, d29, hm, hM, r1, for_cons, for_nil, inR, e0, f0]
  · simp [R.bind_ok', R.bind_no', R.of_some', R.fl_ok', Fl.bind_nx, Fl.bind_rt, s_skip, s_seq, s_asg, s_ex, s_ret, s_retn, s_ite, s_for, s_app, s_never, e_var, e_con, e_glo, e_tup, e_lst, e_neg, e_bin, e_cmp, e_cmp2, e_not, e_and, e_or, e_ife, e_idx, e_sl, e_call, e_callk, e_calf, e_calv, e_blt, e_isin, e_lc, l_nil, l_cons, a_nil, a_cons, a_ioa, p_nil, p_cons, o_nil, o_cons, t_not, t_and, t_or, t_nil, t_tr, i_rng1, i_rng2, i_enm, i_it, g_var, g_tup, g_idxF, g_idxN, gs_nil, gs_cons, Mp.init, initS, getS0, getS1, cur_f, cur_n, cur_p, settle_f, settle_n, settle_p, keep_f, keep_n, keep_p, kd_t, kd_f, tr_non, tr_bl, tr_int, tr_tup, tr_lst, tr_scr, ix_tup, ix_lst, sl_tup, sl_lst, b_len_t, b_len_l, b_len_s, b_tuple_t, b_tuple_l, b_list_t, b_list_l, b_int_i, b_int_b, b_abs, b_sum, b_all, b_any, bo_nil, bo_cons, in_nil, in_cons, isin_non, isin_bl, isin_int, isin_str, isin_tup, isin_lst, isinT, seq_t, seq_l, seq_s, own_v, own_o, own_i, own_u, pl_v, pl_u, wipe_n, wipe_c, unw_n, unw_c, fin_rt, fin_nx, out_n, out_t, out_f, six_none, six_some, Mp.ixN, storeIx, put_val, put_new, notIo_un, notIo_val, notIo_own, cmp_gt_int, cmp_lt_int, cmp_le_int, cmp_ge_int, cmp_eq_int, cmp_ne_int, bin_add_int, bin_sub_int, bin_mul_r, bin_mul_l, bin_mod_int, bin_fdiv_int, doCall, doCallF, argsD, iosOf, putOuts, setIo, Ar.isIo, Ar.d, bin_pow_int, bin_add_tup, eq_nil, is_non, isn_non, isNon_int, isNon_tup, isNon_lst, isNon_bl, isNon_str, isNon_non, sz_ok, sz_lt, s_ext, s_fst, s_par, m_nil, m_cons, puts_n, puts_c, e_fld, e_mk, e_isinc, isc_ins, ownL_o, ownL_i, lst_of, app_o, app_i, bin_mul_tup, bin_add_lst, eq_tup_nil, doMk, fldD, e_pop, e_dnew, e_lof1, e_lof2, e_rof1, e_rof2, e_bm, e_mkk, ownS_o, ownS_i, isLst_l, seqI_t, seqI_l, seqI_s, e_oeq, blR, d29, hm, hM, r2, for_cons, for_nil, inR, e0, f0, e1, f1]
  · simp [R.bind_ok', R.bind_no', R.of_some', R.fl_ok', Fl.bind_nx, Fl.bind_rt, s_skip, s_seq, s_asg, s_ex, s_ret, s_retn, s_ite, s_for, s_app, s_never, e_var, e_con, e_glo, e_tup, e_lst, e_neg, e_bin, e_cmp, e_cmp2, e_not, e_and, e_or, e_ife, e_idx, e_sl, e_call, e_callk, e_calf, e_calv, e_blt, e_isin, e_lc, l_nil, l_cons, a_nil, a_cons, a_ioa, p_nil, p_cons, o_nil, o_cons, t_not, t_and, t_or, t_nil, t_tr, i_rng1, i_rng2, i_enm, i_it, g_var, g_tup, g_idxF, g_idxN, gs_nil, gs_cons, Mp.init, initS, getS0, getS1, cur_f, cur_n, cur_p, settle_f, settle_n, settle_p, keep_f, keep_n, keep_p, kd_t, kd_f, tr_non, tr_bl, tr_int, tr_tup, tr_lst, tr_scr, ix_tup, ix_lst, sl_tup, sl_lst, b_len_t, b_len_l, b_len_s, b_tuple_t, b_tuple_l, b_list_t, b_list_l, b_int_i, b_int_b, b_abs, b_sum, b_all, b_any, bo_nil, bo_cons, in_nil, in_cons, isin_non, isin_bl, isin_int, isin_str, isin_tup, isin_lst, isinT, seq_t, seq_l, seq_s, own_v, own_o, own_i, own_u, pl_v, pl_u, wipe_n, wipe_c, unw_n, unw_c, fin_rt, fin_nx, out_n, out_t, out_f, six_none, six_some, Mp.ixN, storeIx, put_val, put_new, notIo_un, notIo_val, notIo_own, cmp_gt_int, cmp_lt_int, cmp_le_int, cmp_ge_int, cmp_eq_int, cmp_ne_int, bin_add_int, bin_sub_int, bin_mul_r, bin_mul_l, bin_mod_int, bin_fdiv_int, doCall, doCallF, argsD, iosOf, putOuts, setIo, Ar.isIo, Ar.d, bin_pow_int, bin_add_tup, eq_nil, is_non, isn_non, isNon_int, isNon_tup, isNon_lst, isNon_bl, isNon_str, isNon_non, sz_ok, sz_lt, s_ext, s_fst, s_par, m_nil, m_cons, puts_n, puts_c, e_fld, e_mk, e_isinc, isc_ins, ownL_o, ownL_i, lst_of, app_o, app_i, bin_mul_tup, bin_add_lst, eq_tup_nil, doMk, fldD, e_pop, e_dnew, e_lof1, e_lof2, e_rof1, e_rof2, e_bm, e_mkk, ownS_o, ownS_i, isLst_l, seqI_t, seqI_l, seqI_s, e_oeq, blR, d29, hm, hM, r3, for_cons, for_nil, inR, e0, f0, e1, f1, e2, f2]

end K67

namespace K67
open PySem PySem.Spec PyProof.Rows L2 Mp
set_option maxRecDepth 100000
set_option maxHeartbeats 0
abbrev lev : Nat := 23
theorem tab_ok : tab.ok = true := by kernel_rfl

end K67
set_option maxRecDepth 100000
set_option maxHeartbeats 0
open PySem PySem.W PySem.Calls PyProof.Rows
theorem PySem.Challenge.cw_sidefits_k67_whole_numbers_of_pieces_and_holds : PySem.Challenge.rw_sidefits_k67_whole_numbers_of_pieces_and.Holds := by
  w_on; o_law
  refine HandSHeadRun.head_any (r := OpenLaw.row PySem.Challenge.rw_sidefits_k67_whole_numbers_of_pieces_and) (q := view (OpenLaw.row PySem.Challenge.rw_sidefits_k67_whole_numbers_of_pieces_and).prog [48]) (H := K67.hk) (ob := K67.ob) (M := 40000) (loose := K67.names) (d := HandSHeadRun.topDef (OpenLaw.row PySem.Challenge.rw_sidefits_k67_whole_numbers_of_pieces_and).prog 48) (kwd := []) K67.ob_eq
    (by kernel_rfl) (fun s => by kernel_rfl) K67.run (by kernel_rfl) (by kernel_rfl) (by kernel_rfl) (by rfl) (by first | assumption | decide +kernel) (by decide +kernel) ⟨rfl, rfl, rfl, rfl, rfl, by decide +kernel⟩ ?hw ?hc
  case hw => w_witness2
  case hc =>
    refine L2.walk_ofE (l := PySem.Challenge.rw_sidefits_k67_whole_numbers_of_pieces_and) (n := 63) (k := 2 * K67.lev) (x := "script") (CX := fun _ _ _ _ _ _ => False) rfl (by decide) (by kernel_rfl) ⟨rfl, by decide, by decide⟩ ?F (fun _ _ _ _ z => z)
    intro w mg fa h Y G hmg0
    have hmg : mg ("law" : PySem.Str) = some (.ref fa) := by
      have e : (HandSHeadRun.topDef (OpenLaw.row PySem.Challenge.rw_sidefits_k67_whole_numbers_of_pieces_and).prog 48).name = ("law" : PySem.Str) := by kernel_rfl
      rw [← e]
      exact hmg0
    exact Mp.law_goal K67.tab K67.tab_ok (f0 := 29) rfl rfl (by rfl) K67.law_ok Y G hmg

